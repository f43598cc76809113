/- A library: ghosts that stand for the values of the model, and what functions do to them. No condition. -/
import Derived.WalkKit
import Derived.Laws.Rows
import Derived.Laws.MakeOwn
import Derived.Laws.CopyOwn
import Derived.Laws.StructEq
import Derived.Laws.Cover3
set_option maxHeartbeats 40000000
set_option maxRecDepth 20000
set_option linter.unusedSimpArgs false
set_option linter.unusedVariables false

namespace Go.Gh
inductive GV where
 | val (v:Value)
 | sl (sz:Nat) (es:List GV)
 | agg (cs:List GV)
 | rop (sz:Nat) (g:GV)
 | ptr (r sz i o:Nat)
 | own (r sz k n:Nat)
 | osl (sz:Nat) (es:List GV)
 | clo (f:Nat) (cs:List GV)
 | tup (cs:List GV)
 | raw (n:Nat)
 | cur
def Y9:Nat:=9223372036854775807
def Rd (w:World) (b off:Nat) (cs:List Value):Prop:=
 ∃c T fz,w.heap[b]? = some (.cells c T fz)∧∀j u,cs[j]? = some u→c[off+j]? = some u
def okc (v:Value):Prop:=∀x∈v.cells.toList,x.oneCell'=true
def Thaw (c:Array Value) (fz:Nat×Nat):Prop:=∀i,i<c.size→(decide (fz.1≤i)&&decide (i<fz.2))=false
def CuV (w:World) (D:Nat→Prop) (v:Value):Prop:=
 ∃(bs:List UInt8) (i h:Int) (sv:Value),v = .agg #[sv,.int .i64 i,.int .i64 h]∧0≤i∧i≤bs.length∧((bs=[]∧∃a cap,sv = .slice a 0 cap) ∨
  ∃b off cap,sv = .slice (some ⟨b,off,none⟩) bs.length cap∧bs.length≤cap∧bs.length≤Y9∧D b∧Rd w b off (bs.map fun x=>Value.int .u8 x.toNat))
theorem CuV.one {w:World} {D:Nat→Prop} {v:Value} (h:CuV w D v):∃vs:List Value,v = .agg vs.toArray∧vs.length=3∧∀x∈vs,x.oneCell'=true:=by
 obtain ⟨bs,i,h,sv,rfl,_,_,hs⟩:=h
 refine ⟨[sv,.int .i64 i,.int .i64 h],rfl,rfl,?_⟩
 have:sv.oneCell'=true:=by
  rcases hs with ⟨_,a,cap,rfl⟩|⟨b,off,cap,rfl,_⟩<;>rfl
 simp[this]
 exact ⟨rfl,rfl⟩
mutual
def MV (w:World) (D:Nat→Prop):GV→Value→List Nat→Prop
 | .val u,v,F=>v=u∧F=[]
 | .sl sz es,v,F=>F=[]∧((es=[]∧∃a cap,v = .slice a 0 cap) ∨
  ∃b off cap cs,v = .slice (some ⟨b,off,none⟩) es.length cap∧es.length≤cap∧es.length≤Y9∧D b∧Rd w b off cs∧MF w D sz es cs [])
 | .agg gs,v,F=>∃vs:List Value,v = .agg vs.toArray∧(∀x∈vs,x.oneCell'=true)∧ML w D gs vs F
 | .rop sz g,v,F=>F=[]∧∃b off u,v = .pointer (some ⟨b,off,none⟩)∧D b∧Rd w b off u.cells.toList∧okc u∧u.cells.size=sz∧MV w D g u []
 | .ptr r sz i o,v,F=>F=[]∧∃b,r=2 * b∧b<w.heap.size∧v = .pointer (some ⟨b,i * sz+o,none⟩)
 | .own r sz k n,v,F=>F=[]∧((∃b cap c T fz,r=2 * b∧v = .slice (some ⟨b,k * sz,none⟩) n cap∧n≤cap∧w.heap[b]? = some (.cells c T fz)∧(k+cap) * sz≤c.size) ∨
  (n=0∧∃a,v = .slice a 0 0))
 | .osl sz es,v,F=>(es=[]∧F=[]∧∃a,v = .slice a 0 0) ∨
  ∃b cap c T fz F',v = .slice (some ⟨b,0,none⟩) es.length cap∧es.length≤cap∧es.length≤Y9∧F=b::F'∧w.heap[b]? = some (.cells c T fz)∧Thaw c fz∧cap * sz≤c.size ∧
   MF w D sz es (c.toList.take (es.length * sz)) F'
 | .clo f cs,v,F=>F=[]∧∃vs:List Value,v = .func (.func f) #[] vs.toArray∧ML w D cs vs []
 | .tup gs,v,F=>∃vs:List Value,v = .tuple vs.toArray∧ML w D gs vs F
 | .raw _,_,_ => False
 | .cur,v,F=>F=[]∧CuV w D v
def ML (w:World) (D:Nat→Prop):List GV→List Value→List Nat→Prop
 | [],vs,F=>vs=[]∧F=[]
 | g::gs,vs,F=>∃v vs' F1 F2,vs=v::vs'∧F=F1++F2∧MV w D g v F1∧ML w D gs vs' F2
def MF (w:World) (D:Nat→Prop) (sz:Nat):List GV→List Value→List Nat→Prop
 | [],cs,F=>cs=[]∧F=[]
 | g::gs,cs,F=>∃v cs' F1 F2,cs=v.cells.toList++cs'∧v.cells.size=sz∧okc v∧F=F1++F2∧MV w D g v F1∧MF w D sz gs cs' F2
end
structure Kept (w w':World) (S:Nat→Prop):Prop where
 block:∀b,b<w.heap.size→S b→w'.heap[b]? = w.heap[b]?
 size:w.heap.size≤w'.heap.size
 shape:∀(b:Nat) (c:Array Value) (T:TypeId) (fz:Nat×Nat),w.heap[b]? = some (Obj.cells c T fz)→∃(c':Array Value) (fz':Nat×Nat),w'.heap[b]? = some (Obj.cells c' T fz')∧c'.size=c.size
theorem lt_of_heap {w:World} {b:Nat} {o:Obj} (h:w.heap[b]? = some o):b<w.heap.size:=by
 rcases Nat.lt_or_ge b w.heap.size with h'|h'
 ·exact h'
 ·simp[Array.getElem?_eq_none h'] at h
theorem Kept.refl (w:World) (S:Nat→Prop):Kept w w S:=⟨fun _ _ _ => rfl,Nat.le_refl _,fun _ c _ fz h=>⟨c,fz,h,rfl⟩⟩
theorem Kept.trans {a b c:World} {S S':Nat→Prop} (h:Kept a b S) (k:Kept b c S') (hs:∀i,i<a.heap.size→S i→S' i):Kept a c S:=
 ⟨fun i hi hS=>(k.block i (Nat.lt_of_lt_of_le hi h.size) (hs i hi hS)).trans (h.block i hi hS),Nat.le_trans h.size k.size,fun i x T fz hx=>by
  obtain ⟨x',fz',h1,h2⟩:=h.shape i x T fz hx
  obtain ⟨x'',fz'',h3,h4⟩:=k.shape i x' T fz' h1
  exact ⟨x'',fz'',h3,h4.trans h2⟩⟩
theorem Kept.mono {w w':World} {S S':Nat→Prop} (h:Kept w w' S) (hs:∀i,i<w.heap.size→S' i→S i):Kept w w' S':=
 ⟨fun i hi hS=>h.block i hi (hs i hi hS),h.size,h.shape⟩
theorem Kept.rd {w w':World} {S:Nat→Prop} (h:Kept w w' S) {b off:Nat} {cs:List Value} (hb:S b) (hr:Rd w b off cs):Rd w' b off cs:=by
 obtain ⟨c,T,fz,h1,h2⟩:=hr
 exact ⟨c,T,fz,by rw[h.block b (lt_of_heap h1) hb];exact h1,h2⟩
mutual
theorem MV.keep {w w':World} {D D':Nat→Prop} {S:Nat→Prop} (hk:Kept w w' S) (hD:∀b,D b→S b) (hDD:∀b,D b→D' b) :
 ∀(g:GV) (v:Value) (F:List Nat),(∀b∈F,S b)→MV w D g v F→MV w' D' g v F
 | .val u,v,F,_,h=>by simpa[MV] using h
 | .sl sz es,v,F,hF,h=>by
  simp only[MV] at h ⊢
  obtain ⟨h0,h⟩:=h
  refine ⟨h0,?_⟩
  rcases h with h|⟨b,off,cap,cs,h1,h2,h3,h4,h5,h6⟩
  ·exact .inl h
  ·exact .inr ⟨b,off,cap,cs,h1,h2,h3,hDD b h4,hk.rd (hD b h4) h5,MF.keep hk hD hDD sz es cs [] (by simp) h6⟩
 | .agg gs,v,F,hF,h=>by
  simp only[MV] at h ⊢
  obtain ⟨vs,h1,h0,h2⟩:=h
  exact ⟨vs,h1,h0,ML.keep hk hD hDD gs vs F hF h2⟩
 | .rop sz g,v,F,hF,h=>by
  simp only[MV] at h ⊢
  obtain ⟨h0,b,off,u,h1,h2,h3,h4,h6,h5⟩:=h
  exact ⟨h0,b,off,u,h1,hDD b h2,hk.rd (hD b h2) h3,h4,h6,MV.keep hk hD hDD g u [] (by simp) h5⟩
 | .ptr r sz i o,v,F,hF,h=>by
  simp only[MV] at h ⊢
  obtain ⟨h0,b,h1,h2,h3⟩:=h
  exact ⟨h0,b,h1,Nat.lt_of_lt_of_le h2 hk.size,h3⟩
 | .own r sz k n,v,F,hF,h=>by
  simp only[MV] at h ⊢
  obtain ⟨h0,h⟩:=h
  refine ⟨h0,?_⟩
  rcases h with ⟨b,cap,c,T,fz,h1,h2,h3,h4,h5⟩|h
  ·obtain ⟨c',fz',h6,h7⟩:=hk.shape b c T fz h4
   exact .inl ⟨b,cap,c',T,fz',h1,h2,h3,h6,by omega⟩
  ·exact .inr h
 | .osl sz es,v,F,hF,h=>by
  simp only[MV] at h ⊢
  rcases h with h|⟨b,cap,c,T,fz,F',h1,h2,h3,h4,h5,h6,h7,h8⟩
  ·exact .inl h
  ·subst h4
   exact .inr ⟨b,cap,c,T,fz,F',h1,h2,h3,rfl,by rw[hk.block b (lt_of_heap h5) (hF b (by simp))];exact h5,h6,h7,
    MF.keep hk hD hDD sz es _ F' (fun x hx=>hF x (by simp[hx])) h8⟩
 | .clo f cs,v,F,hF,h=>by
  simp only[MV] at h ⊢
  obtain ⟨h0,vs,h1,h2⟩:=h
  exact ⟨h0,vs,h1,ML.keep hk hD hDD cs vs [] (by simp) h2⟩
 | .tup gs,v,F,hF,h=>by
  simp only[MV] at h ⊢
  obtain ⟨vs,h1,h2⟩:=h
  exact ⟨vs,h1,ML.keep hk hD hDD gs vs F hF h2⟩
 | .raw n,v,F,hF,h=>by simp only[MV] at h
 | .cur,v,F,hF,h=>by
  simp only[MV] at h ⊢
  obtain ⟨h0,bs,i,n,sv,h1,h2,h3,h4⟩:=h
  refine ⟨h0,bs,i,n,sv,h1,h2,h3,?_⟩
  rcases h4 with h4|⟨b,off,cap,k1,k2,k3,k4,k5⟩
  ·exact .inl h4
  ·exact .inr ⟨b,off,cap,k1,k2,k3,hDD b k4,hk.rd (hD b k4) k5⟩
theorem ML.keep {w w':World} {D D':Nat→Prop} {S:Nat→Prop} (hk:Kept w w' S) (hD:∀b,D b→S b) (hDD:∀b,D b→D' b) :
 ∀(gs:List GV) (vs:List Value) (F:List Nat),(∀b∈F,S b)→ML w D gs vs F→ML w' D' gs vs F
 | [],vs,F,_,h=>by simpa[ML] using h
 | g::gs,vs,F,hF,h=>by
  simp only[ML] at h ⊢
  obtain ⟨v,vs',F1,F2,h1,h2,h3,h4⟩:=h
  subst h2
  exact ⟨v,vs',F1,F2,h1,rfl,MV.keep hk hD hDD g v F1 (fun x hx=>hF x (by simp[hx])) h3,ML.keep hk hD hDD gs vs' F2 (fun x hx=>hF x (by simp[hx])) h4⟩
theorem MF.keep {w w':World} {D D':Nat→Prop} {S:Nat→Prop} (hk:Kept w w' S) (hD:∀b,D b→S b) (hDD:∀b,D b→D' b) (sz:Nat) :
 ∀(gs:List GV) (vs:List Value) (F:List Nat),(∀b∈F,S b)→MF w D sz gs vs F→MF w' D' sz gs vs F
 | [],vs,F,_,h=>by simpa[MF] using h
 | g::gs,vs,F,hF,h=>by
  simp only[MF] at h ⊢
  obtain ⟨v,vs',F1,F2,h1,h0,h00,h2,h3,h4⟩:=h
  subst h2
  exact ⟨v,vs',F1,F2,h1,h0,h00,rfl,MV.keep hk hD hDD g v F1 (fun x hx=>hF x (by simp[hx])) h3,MF.keep hk hD hDD sz gs vs' F2 (fun x hx=>hF x (by simp[hx])) h4⟩
end
mutual
def view:GV→GV
 | .val u=> .val u
 | .sl sz es=> .sl sz es
 | .agg gs=> .agg (Y7 gs)
 | .rop sz g=> .rop sz g
 | .ptr r sz i o=> .ptr r sz i o
 | .own r sz k n=> .own r sz k n
 | .osl sz es=> .sl sz (Y7 es)
 | .clo f cs=> .clo f cs
 | .tup gs=> .tup (Y7 gs)
 | .raw n=> .raw n
 | .cur => .cur
def Y7:List GV→List GV
 | []=>[]
 | g::gs=>view g::Y7 gs
end
theorem X4 (gs:List GV):Y7 gs=gs.map view:=by
 induction gs with
 | nil=>rfl
 | cons g gs ih=>simp[Y7,ih]
mutual
theorem MV.view {w:World} {D D':Nat→Prop} (hDD:∀b,D b→D' b) :
 ∀(g:GV) (v:Value) (F:List Nat),(∀b∈F,D' b)→MV w D g v F→MV w D' (view g) v []
 | .val u,v,F,_,h=>by simp only[Gh.view,MV] at h ⊢;simpa using h.1
 | .sl sz es,v,F,hF,h=>by
  have h0:F=[]:=by simp only[MV] at h;exact h.1
  subst h0
  exact MV.keep (S:=fun _ => True) (Kept.refl w _) (fun _ _ => trivial) hDD _ v [] (by simp) h
 | .agg gs,v,F,hF,h=>by
  simp only[MV,Gh.view] at h ⊢
  obtain ⟨vs,h1,h0,h2⟩:=h
  exact ⟨vs,h1,h0,ML.view hDD gs vs F hF h2⟩
 | .rop sz g,v,F,hF,h=>by
  have h0:F=[]:=by simp only[MV] at h;exact h.1
  subst h0
  exact MV.keep (S:=fun _ => True) (Kept.refl w _) (fun _ _ => trivial) hDD _ v [] (by simp) h
 | .ptr r sz i o,v,F,hF,h=>by
  simp only[MV,Gh.view] at h ⊢
  exact ⟨trivial,h.2⟩
 | .own r sz k n,v,F,hF,h=>by
  simp only[MV,Gh.view] at h ⊢
  exact ⟨trivial,h.2⟩
 | .osl sz es,v,F,hF,h=>by
  simp only[MV,Gh.view] at h ⊢
  refine ⟨trivial,?_⟩
  rcases h with ⟨h1,h2,a,h3⟩|⟨b,cap,c,T,fz,F',h1,h2,h3,h4,h5,h6,h7,h8⟩
  ·exact .inl ⟨by simp[h1,Y7],a,0,h3⟩
  ·subst h4
   refine .inr ⟨b,0,cap,c.toList.take (es.length * sz),by simpa[X4] using h1,by simpa[X4] using h2,by simpa[X4] using h3,hF b (by simp),⟨c,T,fz,h5,fun j u hj=> ?_⟩,
    MF.view hDD sz es _ F' (fun x hx=>hF x (by simp[hx])) h8⟩
   rw[List.getElem?_take] at hj
   split at hj
   ·simpa using hj
   ·cases hj
 | .clo f cs,v,F,hF,h=>by
  have h0:F=[]:=by simp only[MV] at h;exact h.1
  subst h0
  exact MV.keep (S:=fun _ => True) (Kept.refl w _) (fun _ _ => trivial) hDD _ v [] (by simp) h
 | .tup gs,v,F,hF,h=>by
  simp only[MV,Gh.view] at h ⊢
  obtain ⟨vs,h1,h2⟩:=h
  exact ⟨vs,h1,ML.view hDD gs vs F hF h2⟩
 | .raw n,v,F,hF,h=>by simp only[MV] at h
 | .cur,v,F,hF,h=>by
  have h0:F=[]:=by simp only[MV] at h;exact h.1
  subst h0
  exact MV.keep (S:=fun _ => True) (Kept.refl w _) (fun _ _ => trivial) hDD _ v [] (by simp) h
theorem ML.view {w:World} {D D':Nat→Prop} (hDD:∀b,D b→D' b) :
 ∀(gs:List GV) (vs:List Value) (F:List Nat),(∀b∈F,D' b)→ML w D gs vs F→ML w D' (Y7 gs) vs []
 | [],vs,F,_,h=>by simp only[ML,Y7] at h ⊢;simpa using h.1
 | g::gs,vs,F,hF,h=>by
  simp only[ML,Y7] at h ⊢
  obtain ⟨v,vs',F1,F2,h1,h2,h3,h4⟩:=h
  subst h2
  exact ⟨v,vs',[],[],h1,rfl,MV.view hDD g v F1 (fun x hx=>hF x (by simp[hx])) h3,ML.view hDD gs vs' F2 (fun x hx=>hF x (by simp[hx])) h4⟩
theorem MF.view {w:World} {D D':Nat→Prop} (hDD:∀b,D b→D' b) (sz:Nat) :
 ∀(gs:List GV) (vs:List Value) (F:List Nat),(∀b∈F,D' b)→MF w D sz gs vs F→MF w D' sz (Y7 gs) vs []
 | [],vs,F,_,h=>by simp only[MF,Y7] at h ⊢;simpa using h.1
 | g::gs,vs,F,hF,h=>by
  simp only[MF,Y7] at h ⊢
  obtain ⟨v,vs',F1,F2,h1,h0,h00,h2,h3,h4⟩:=h
  subst h2
  exact ⟨v,vs',[],[],h1,h0,h00,rfl,MV.view hDD g v F1 (fun x hx=>hF x (by simp[hx])) h3,MF.view hDD sz gs vs' F2 (fun x hx=>hF x (by simp[hx])) h4⟩
end
end Go.Gh
namespace Go.Gh
abbrev Env:=List (Nat×GV)
abbrev GH:=List (Nat×Nat×List GV)
def ZU:Env→Nat→Option GV
 | [],_ => none
 | (i,g)::e,j=>if i=j then some g else ZU e j
def eset:Env→Nat→GV→Env
 | [],j,h=>[(j,h)]
 | (i,g)::e,j,h=>if i=j then (i,h)::e else (i,g)::eset e j h
theorem Yu (e:Env) (i j:Nat) (h:GV):ZU (eset e i h) j=if i=j then some h else ZU e j:=by
 induction e with
 | nil=>simp[eset,ZU]
 | cons x e ih=>
  obtain ⟨k,g⟩:=x
  simp only[eset]
  split
  ·subst_vars;simp only[ZU];split<;>rfl
  ·simp only[ZU,ih]
   split<;>split<;>simp_all
def Z6:GH→Nat→Option (Nat×List GV)
 | [],_ => none
 | (r,x)::H,q=>if r=q then some x else Z6 H q
def Z1:GH→Nat→List GV→GH
 | [],_,_ => []
 | (r,sz,es)::H,q,fs=>if r=q then (r,sz,fs)::H else (r,sz,es)::Z1 H q fs
def ZL:GH→Nat→GH
 | [],_ => []
 | (r,x)::H,q=>if r=q then H else (r,x)::ZL H q
def names (H:GH):List Nat:=H.map (·.1)
def tabW (k:Nat):List ByteArray:=
 if k=1000010 then [⟨#[105,110,104]⟩,⟨#[115,121,110]⟩,⟨#[99,111,108]⟩] else [⟨#[110,117,109]⟩,⟨#[115,101,116]⟩,⟨#[98,111,111,108]⟩,⟨#[110,111,100,101]⟩]
def tabP (k:Nat) (cs:Array Value):Prop:=
 if k=1000000 then cs=((List.range 20).map fun i=>Value.int .u64 ((10 ^ i:Nat):Int)).toArray
 else if k=1000002 then ∃n,cs[0]? = some (.int .i64 n)
 else if 1000010≤k then cs=((tabW k).map Value.string).toArray else ∃tp p,cs = #[.iface tp p]
def TB (w:World) (D:Nat→Prop) (r sz:Nat):Prop:=D (r / 4)∧∃c T fz,w.heap[r / 4]? = some (Obj.cells c T fz)∧tabP sz c
def RM (w:World) (D:Nat→Prop) (r sz:Nat) (es:List GV) (F:List Nat):Prop:=
 (∃b c T fz F',r=2 * b∧w.heap[b]? = some (.cells c T fz)∧Thaw c fz∧es.length * sz≤c.size∧es.length≤Y9∧F=b::F'∧MF w D sz es (c.toList.take (es.length * sz)) F') ∨
 ((r % 2=1∧(r % 4=3→1000000≤sz→TB w D r sz))∧es=[]∧F=[])
def HM (w:World) (D:Nat→Prop):GH→List Nat→Prop
 | [],Ω=>Ω=[]
 | (r,sz,es)::H,Ω=>∃F1 F2,Ω=F1++F2∧RM w D r sz es F1∧HM w D H F2
theorem TB.keep {w w':World} {D D':Nat→Prop} {S:Nat→Prop} (hk:Kept w w' S) (hD:∀b,D b→S b) (hDD:∀b,D b→D' b) {r sz:Nat} (h:TB w D r sz):TB w' D' r sz:=by
 obtain ⟨h1,c,T,fz,h2,h3⟩:=h
 exact ⟨hDD _ h1,c,T,fz,by rw[hk.block _ (lt_of_heap h2) (hD _ h1)];exact h2,h3⟩
theorem od_virt {w:World} {D:Nat→Prop} {r sz:Nat} (h:r % 4=1):r % 2=1∧(r % 4=3→1000000≤sz→TB w D r sz):=⟨by omega,fun h'=>by omega⟩
theorem RM.keep {w w':World} {D D':Nat→Prop} {S:Nat→Prop} (hk:Kept w w' S) (hD:∀b,D b→S b) (hDD:∀b,D b→D' b) {r sz:Nat} {es:List GV} {F:List Nat}
 (hF:∀b∈F,S b) (h:RM w D r sz es F):RM w' D' r sz es F:=by
 rcases h with ⟨b,c,T,fz,F',h1,h2,h3,h4,h5,h6,h7⟩|h
 ·subst h6
  exact .inl ⟨b,c,T,fz,F',h1,by rw[hk.block b (lt_of_heap h2) (hF b (by simp))];exact h2,h3,h4,h5,rfl,MF.keep hk hD hDD sz es _ F' (fun x hx=>hF x (by simp[hx])) h7⟩
 ·exact .inr ⟨⟨h.1.1,fun h4 h5=>(h.1.2 h4 h5).keep hk hD hDD⟩,h.2⟩
theorem HM.keep {w w':World} {D D':Nat→Prop} {S:Nat→Prop} (hk:Kept w w' S) (hD:∀b,D b→S b) (hDD:∀b,D b→D' b) :
 ∀{H:GH} {Ω:List Nat},(∀b∈Ω,S b)→HM w D H Ω→HM w' D' H Ω
 | [],Ω,_,h=>h
 | (r,sz,es)::H,Ω,hF,h=>by
  obtain ⟨F1,F2,h1,h2,h3⟩:=h
  subst h1
  exact ⟨F1,F2,rfl,h2.keep hk hD hDD (fun x hx=>hF x (by simp[hx])),HM.keep hk hD hDD (fun x hx=>hF x (by simp[hx])) h3⟩
structure St (w:World) (D:Nat→Prop) (H:GH) (Ω:List Nat):Prop where
 hm:HM w D H Ω
 nd:Ω.Nodup
 nn:(names H).Nodup
 dj:∀b∈Ω,¬D b
 ds:∀b,D b→b<w.heap.size
structure Ev (w0:World) (D0:Nat→Prop) (O0:List Nat) (w:World) (D:Nat→Prop) (Ω:List Nat):Prop where
 d0:∀b,D0 b→D b
 dn:∀b,b<w0.heap.size→D b→D0 b∨b∈O0
 on:∀b∈Ω,b<w0.heap.size→b∈O0
 kp:Kept w0 w (fun b=>b∉O0)
 os:w.os=w0.os
 tape:w.tape=w0.tape
 output:w.output=w0.output
theorem Ev.refl (w:World) (D:Nat→Prop) (Ω:List Nat):Ev w D Ω w D Ω:=
 ⟨fun _ h=>h,fun _ _ h=> .inl h,fun _ h _ => h,Kept.refl _ _,rfl,rfl,rfl⟩
theorem Ev.trans {a b c:World} {D0 D1 D2:Nat→Prop} {O0 O1 O2:List Nat} (h:Ev a D0 O0 b D1 O1) (k:Ev b D1 O1 c D2 O2):Ev a D0 O0 c D2 O2:=
 ⟨fun x hx=>k.d0 x (h.d0 x hx),fun x hx hd=>by
  rcases k.dn x (Nat.lt_of_lt_of_le hx h.kp.size) hd with h1|h1
  ·exact h.dn x hx h1
  ·exact .inr (h.on x h1 hx),
  fun x hx hl=>h.on x (k.on x hx (Nat.lt_of_lt_of_le hl h.kp.size)) hl,
  h.kp.trans k.kp (fun i hi hS hin=>hS (h.on i hin hi)),
  k.os.trans h.os,k.tape.trans h.tape,k.output.trans h.output⟩
def EM (w:World) (D:Nat→Prop) (env:Env) (tmps:Array Value):Prop:=∀i g,ZU env i=some g→∃v,tmps[i]? = some v∧MV w D g v []
theorem EM.keep {w w':World} {D D':Nat→Prop} {O:List Nat} {Ω:List Nat} {env:Env} {tmps:Array Value} (he:Ev w D O w' D' Ω) (hd:∀b∈O,¬D b) (h:EM w D env tmps):EM w' D' env tmps:=
 fun i g hi=>let ⟨v,h1,h2⟩:=h i g hi;⟨v,h1,MV.keep he.kp (fun _ hb hin=>hd _ hin hb) he.d0 g v [] (by simp) h2⟩
theorem MV.ev {w w':World} {D D':Nat→Prop} {O:List Nat} {Ω:List Nat} {g:GV} {v:Value} (he:Ev w D O w' D' Ω) (hd:∀b∈O,¬D b) (h:MV w D g v []):MV w' D' g v []:=
 MV.keep he.kp (fun _ hb hin=>hd _ hin hb) he.d0 g v [] (by simp) h
theorem ML.ev {w w':World} {D D':Nat→Prop} {O:List Nat} {Ω:List Nat} {g:List GV} {v:List Value} (he:Ev w D O w' D' Ω) (hd:∀b∈O,¬D b) (h:ML w D g v []):ML w' D' g v []:=
 ML.keep he.kp (fun _ hb hin=>hd _ hin hb) he.d0 g v [] (by simp) h
theorem hp_old (w:World) (o:Obj) (i:Nat) (h:i<w.heap.size):(w.alloc o).heap[i]? = w.heap[i]? := by
 show (w.heap.push o)[i]? = w.heap[i]?
 rw[Array.getElem?_push,if_neg (Nat.ne_of_lt h)]
theorem hp_new (w:World) (o:Obj):(w.alloc o).heap[w.heap.size]? = some o:=by
 show (w.heap.push o)[w.heap.size]? = some o
 simp
theorem Yc (w:World) (o:Obj) (S:Nat→Prop):Kept w (w.alloc o) S:=
 ⟨fun b hb _ => hp_old w o b hb,by simp,fun b c T fz h=>⟨c,fz,by rw[hp_old w o b (lt_of_heap h)];exact h,rfl⟩⟩
theorem kept_same {w w':World} (h:w'.heap=w.heap) (S:Nat→Prop):Kept w w' S:=
 ⟨fun b _ _ => by rw[h],by rw[h];exact Nat.le_refl _,fun b c T fz hb=>⟨c,fz,by rw[h];exact hb,rfl⟩⟩
theorem HM.lt {w:World} {D:Nat→Prop}:∀{H:GH} {Ω:List Nat},HM w D H Ω→∀b∈Ω,b<w.heap.size∨True:=fun _ _ _ => .inr trivial
mutual
theorem MV.flt {w:World} {D:Nat→Prop}:∀(g:GV) (v:Value) (F:List Nat),MV w D g v F→∀b∈F,b<w.heap.size
 | .val u,v,F,h,b,hb=>by simp only[MV] at h;simp[h.2] at hb
 | .sl sz es,v,F,h,b,hb=>by simp only[MV] at h;simp[h.1] at hb
 | .agg gs,v,F,h,b,hb=>by simp only[MV] at h;obtain ⟨vs,_,_,h2⟩:=h;exact ML.flt gs vs F h2 b hb
 | .rop sz g,v,F,h,b,hb=>by simp only[MV] at h;simp[h.1] at hb
 | .ptr r sz i o,v,F,h,b,hb=>by simp only[MV] at h;simp[h.1] at hb
 | .own r sz k n,v,F,h,b,hb=>by simp only[MV] at h;simp[h.1] at hb
 | .osl sz es,v,F,h,b,hb=>by
  simp only[MV] at h
  rcases h with ⟨_,h2,_⟩|⟨b',cap,c,T,fz,F',h1,h2,h3,h4,h5,h6,h7,h8⟩
  ·simp[h2] at hb
  ·subst h4
   rcases List.mem_cons.1 hb with rfl|hb
   ·exact lt_of_heap h5
   ·exact MF.flt sz es _ F' h8 b hb
 | .clo f cs,v,F,h,b,hb=>by simp only[MV] at h;simp[h.1] at hb
 | .tup gs,v,F,h,b,hb=>by simp only[MV] at h;obtain ⟨vs,_,h2⟩:=h;exact ML.flt gs vs F h2 b hb
 | .raw n,v,F,h,b,hb=>by simp only[MV] at h
 | .cur,v,F,h,b,hb=>by simp only[MV] at h;simp[h.1] at hb
theorem ML.flt {w:World} {D:Nat→Prop}:∀(gs:List GV) (vs:List Value) (F:List Nat),ML w D gs vs F→∀b∈F,b<w.heap.size
 | [],vs,F,h,b,hb=>by simp only[ML] at h;simp[h.2] at hb
 | g::gs,vs,F,h,b,hb=>by
  simp only[ML] at h
  obtain ⟨v,vs',F1,F2,_,h2,h3,h4⟩:=h
  subst h2
  rcases List.mem_append.1 hb with hb|hb
  ·exact MV.flt g v F1 h3 b hb
  ·exact ML.flt gs vs' F2 h4 b hb
theorem MF.flt {w:World} {D:Nat→Prop} (sz:Nat):∀(gs:List GV) (vs:List Value) (F:List Nat),MF w D sz gs vs F→∀b∈F,b<w.heap.size
 | [],vs,F,h,b,hb=>by simp only[MF] at h;simp[h.2] at hb
 | g::gs,vs,F,h,b,hb=>by
  simp only[MF] at h
  obtain ⟨v,vs',F1,F2,_,_,_,h2,h3,h4⟩:=h
  subst h2
  rcases List.mem_append.1 hb with hb|hb
  ·exact MV.flt g v F1 h3 b hb
  ·exact MF.flt sz gs vs' F2 h4 b hb
end
theorem HM.flt {w:World} {D:Nat→Prop}:∀{H:GH} {Ω:List Nat},HM w D H Ω→∀b∈Ω,b<w.heap.size
 | [],Ω,h,b,hb=>by simp only[HM] at h;simp[h] at hb
 | (r,sz,es)::H,Ω,h,b,hb=>by
  obtain ⟨F1,F2,h1,h2,h3⟩:=h
  subst h1
  rcases List.mem_append.1 hb with hb|hb
  ·rcases h2 with ⟨b',c,T,fz,F',_,h2,_,_,_,h6,h7⟩|⟨_,_,h⟩
   ·subst h6
    rcases List.mem_cons.1 hb with rfl|hb
    ·exact lt_of_heap h2
    ·exact MF.flt sz es _ F' h7 b hb
   ·simp[h] at hb
  ·exact HM.flt h3 b hb
theorem HM.names_lt {w:World} {D:Nat→Prop}:∀{H:GH} {Ω:List Nat},HM w D H Ω→∀b,2 * b∈names H→b<w.heap.size
 | [],Ω,_,b,hb=>by simp[names] at hb
 | (r,sz,es)::H,Ω,h,b,hb=>by
  obtain ⟨F1,F2,h1,h2,h3⟩:=h
  simp only[names,List.map_cons,List.mem_cons] at hb
  rcases hb with hb|hb
  ·rcases h2 with ⟨b',c,T,fz,F',h2,h4,_⟩|⟨h2,_⟩
   ·have:b=b':=by omega
    subst this
    exact lt_of_heap h4
   ·omega
  ·exact HM.names_lt h3 b hb
theorem St.allocRo {w:World} {D:Nat→Prop} {H:GH} {Ω:List Nat} (h:St w D H Ω) (o:Obj) :
 St (w.alloc o) (fun b=>D b∨b=w.heap.size) H Ω∧Ev w D Ω (w.alloc o) (fun b=>D b∨b=w.heap.size) Ω:=by
 refine ⟨⟨HM.keep (Yc w o (fun _ => True)) (fun _ _ => trivial) (fun _ h=> .inl h) (fun _ _ => trivial) h.hm,h.nd,h.nn,fun b hb=> ?_,fun b hb=> ?_⟩,
  ⟨fun _ h=> .inl h,fun b hb hd=> ?_,fun _ hb _ => hb,Yc w o _,rfl,rfl,rfl⟩⟩
 ·have:=HM.flt h.hm b hb
  rintro (h1|h1)
  ·exact h.dj b hb h1
  ·omega
 ·simp only[World.size_alloc]
  rcases hb with hb|hb
  ·have:=h.ds b hb;omega
  ·omega
 ·rcases hd with hd|hd
  ·exact .inl hd
  ·omega
theorem St.allocOwn {w:World} {D:Nat→Prop} {H:GH} {Ω:List Nat} (h:St w D H Ω) (c:Array Value) (T:TypeId) (sz:Nat) (es:List GV)
 (h1:es.length * sz≤c.size) (h2:es.length≤Y9) (h3:MF w D sz es (c.toList.take (es.length * sz)) []) :
 St (w.alloc (.cells c T)) D ((2 * w.heap.size,sz,es)::H) (w.heap.size::Ω)∧Ev w D Ω (w.alloc (.cells c T)) D (w.heap.size::Ω):=by
 have hn:w.heap.size∉Ω:=fun hin=>absurd (HM.flt h.hm _ hin) (Nat.lt_irrefl _)
 have hnn:2 * w.heap.size∉names H:=fun hin=>absurd (HM.names_lt h.hm _ hin) (Nat.lt_irrefl _)
 refine ⟨⟨⟨[w.heap.size],Ω,rfl,.inl ⟨w.heap.size,c,T,(0,0),[],rfl,hp_new w _,fun i _ => by simp,h1,h2,rfl,
  MF.keep (Yc w _ (fun _ => True)) (fun _ _ => trivial) (fun _ h=>h) sz es _ [] (by simp) h3⟩,
  HM.keep (Yc w _ (fun _ => True)) (fun _ _ => trivial) (fun _ h=>h) (fun _ _ => trivial) h.hm⟩,by simp[hn,h.nd],?_,fun b hb=> ?_,fun b hb=> ?_⟩,
  ⟨fun _ h=>h,fun _ _ h=> .inl h,fun b hb hl=> ?_,Yc w _ _,rfl,rfl,rfl⟩⟩
 ·show (2 * w.heap.size::names H).Nodup
  exact List.nodup_cons.2 ⟨hnn,h.nn⟩
 ·rcases List.mem_cons.1 hb with rfl|hb
  ·intro hd;exact absurd (h.ds _ hd) (Nat.lt_irrefl _)
  ·exact h.dj b hb
 ·have:=h.ds b hb;simp only[World.size_alloc];omega
 ·rcases List.mem_cons.1 hb with rfl|hb
  ·omega
  ·exact hb
theorem St.same {w w':World} {D:Nat→Prop} {H:GH} {Ω:List Nat} (h:St w D H Ω) (hh:w'.heap=w.heap) (h1:w'.os=w.os) (h2:w'.tape=w.tape) (h3:w'.output=w.output) :
 St w' D H Ω∧Ev w D Ω w' D Ω:=
 ⟨⟨HM.keep (kept_same hh (fun _ => True)) (fun _ _ => trivial) (fun _ h=>h) (fun _ _ => trivial) h.hm,h.nd,h.nn,h.dj,fun b hb=>by rw[hh];exact h.ds b hb⟩,
  ⟨fun _ h=>h,fun _ _ h=> .inl h,fun _ h _ => h,kept_same hh _,h1,h2,h3⟩⟩
theorem St.drew {w:World} {D:Nat→Prop} {H:GH} {Ω:List Nat} (h:St w D H Ω):St w.drew D H Ω∧Ev w D Ω w.drew D Ω:=h.same rfl rfl rfl rfl
end Go.Gh
namespace Go.Gh
theorem MF.len {w:World} {D:Nat→Prop} (sz:Nat):∀(gs:List GV) (cs:List Value) (F:List Nat),MF w D sz gs cs F→cs.length=gs.length * sz
 | [],cs,F,h=>by simp only[MF] at h;simp[h.1]
 | g::gs,cs,F,h=>by
  simp only[MF] at h
  obtain ⟨v,cs',F1,F2,h1,h2,h3,h4,h5,h6⟩:=h
  have:=MF.len sz gs cs' F2 h6
  subst h1
  simp only[List.length_append,List.length_cons,this,Array.length_toList,h2,Nat.add_mul]
  omega
theorem ML.len {w:World} {D:Nat→Prop}:∀(gs:List GV) (cs:List Value) (F:List Nat),ML w D gs cs F→cs.length=gs.length
 | [],cs,F,h=>by simp only[ML] at h;simp[h.1]
 | g::gs,cs,F,h=>by
  simp only[ML] at h
  obtain ⟨v,cs',F1,F2,h1,h4,h5,h6⟩:=h
  have:=ML.len gs cs' F2 h6
  subst h1
  simp[this]
theorem MF.split {w:World} {D:Nat→Prop} (sz:Nat):∀(gs:List GV) (cs:List Value) (F:List Nat) (i:Nat) (g:GV),MF w D sz gs cs F→gs[i]? = some g →
 ∃pre v post F1 Fi F2,cs=pre++(v.cells.toList++post)∧pre.length=i * sz∧v.cells.size=sz∧okc v∧F=F1++(Fi++F2)∧MV w D g v Fi ∧
  ∀(w':World) (D' S:Nat→Prop) (g':GV) (v':Value) (Fi':List Nat),Kept w w' S→(∀b,D b→S b)→(∀b,D b→D' b)→(∀b∈F1++F2,S b) →
   v'.cells.size=sz→okc v'→MV w' D' g' v' Fi'→MF w' D' sz (gs.set i g') (pre++(v'.cells.toList++post)) (F1++(Fi'++F2))
 | [],cs,F,i,g,h,hi=>by simp at hi
 | g0::gs,cs,F,0,g,h,hi=>by
  simp only[MF] at h
  obtain ⟨v,cs',F1,F2,h1,h2,h3,h4,h5,h6⟩:=h
  simp only[List.getElem?_cons_zero,Option.some.injEq] at hi
  subst hi h1 h4
  refine ⟨[],v,cs',[],F1,F2,by simp,by simp,h2,h3,by simp,h5,fun w' D' S g' v' Fi' hk hD hDD hF e1 e2 e3=> ?_⟩
  simp only[List.nil_append,List.set_cons_zero,MF]
  exact ⟨v',cs',Fi',F2,rfl,e1,e2,rfl,e3,MF.keep hk hD hDD sz gs cs' F2 (fun b hb=>hF b (by simp[hb])) h6⟩
 | g0::gs,cs,F,i+1,g,h,hi=>by
  simp only[MF] at h
  obtain ⟨v,cs',F1,F2,h1,h2,h3,h4,h5,h6⟩:=h
  simp only[List.getElem?_cons_succ] at hi
  obtain ⟨pre,v1,post,G1,Gi,G2,k1,k2,k3,k4,k5,k6,k7⟩:=MF.split sz gs cs' F2 i g h6 hi
  subst h1 h4 k1 k5
  refine ⟨v.cells.toList++pre,v1,post,F1++G1,Gi,G2,by simp,by simp[k2,h2,Nat.add_mul];omega,k3,k4,by simp,k6,fun w' D' S g' v' Fi' hk hD hDD hF e1 e2 e3=> ?_⟩
  simp only[List.append_assoc,List.set_cons_succ,MF]
  exact ⟨v,pre++(v'.cells.toList++post),F1,G1++(Fi'++G2),rfl,h2,h3,rfl,MV.keep hk hD hDD g0 v F1 (fun b hb=>hF b (by simp[hb])) h5,
   k7 w' D' S g' v' Fi' hk hD hDD (fun b hb=>hF b (by simp at hb ⊢;rcases hb with hb|hb<;>simp[hb])) e1 e2 e3⟩
theorem ML.split {w:World} {D:Nat→Prop}:∀(gs:List GV) (cs:List Value) (F:List Nat) (i:Nat) (g:GV),ML w D gs cs F→gs[i]? = some g →
 ∃pre v post F1 Fi F2,cs=pre++(v::post)∧pre.length=i∧F=F1++(Fi++F2)∧MV w D g v Fi ∧
  ∀(g':GV) (v':Value) (Fi':List Nat),MV w D g' v' Fi'→ML w D (gs.set i g') (pre++(v'::post)) (F1++(Fi'++F2))
 | [],cs,F,i,g,h,hi=>by simp at hi
 | g0::gs,cs,F,0,g,h,hi=>by
  simp only[ML] at h
  obtain ⟨v,cs',F1,F2,h1,h4,h5,h6⟩:=h
  simp only[List.getElem?_cons_zero,Option.some.injEq] at hi
  subst hi h1 h4
  refine ⟨[],v,cs',[],F1,F2,by simp,by simp,by simp,h5,fun g' v' Fi' e3=> ?_⟩
  simp only[List.nil_append,List.set_cons_zero,ML]
  exact ⟨v',cs',Fi',F2,rfl,rfl,e3,h6⟩
 | g0::gs,cs,F,i+1,g,h,hi=>by
  simp only[ML] at h
  obtain ⟨v,cs',F1,F2,h1,h4,h5,h6⟩:=h
  simp only[List.getElem?_cons_succ] at hi
  obtain ⟨pre,v1,post,G1,Gi,G2,k1,k2,k5,k6,k7⟩:=ML.split gs cs' F2 i g h6 hi
  subst h1 h4 k1 k5
  refine ⟨v::pre,v1,post,F1++G1,Gi,G2,by simp,by simp[k2],by simp,k6,fun g' v' Fi' e3=> ?_⟩
  simp only[List.cons_append,List.set_cons_succ,ML]
  exact ⟨v,_,F1,G1++(Fi'++G2),rfl,by simp,h5,k7 g' v' Fi' e3⟩
theorem Ym (H:GH) (r:Nat) (es:List GV):names (Z1 H r es)=names H:=by
 induction H with
 | nil=>rfl
 | cons x H ih=>
  obtain ⟨q,sz,fs⟩:=x
  simp only[Z1]
  split
  ·rfl
  ·simp only[names,List.map_cons] at ih ⊢;rw[ih]
theorem Yn (H:GH) (r:Nat):(names (ZL H r)).Sublist (names H):=by
 induction H with
 | nil=>exact List.Sublist.refl _
 | cons x H ih=>
  obtain ⟨q,y⟩:=x
  simp only[ZL]
  split
  ·exact List.sublist_cons_self _ _
  ·exact List.Sublist.cons_cons _ ih
theorem HM.take {w:World} {D:Nat→Prop}:∀{H:GH} {Ω:List Nat} {r sz:Nat} {es:List GV},HM w D H Ω→Z6 H r=some (sz,es) →
 ∃Ω1 F Ω2,Ω=Ω1++(F++Ω2)∧RM w D r sz es F ∧
  (∀(w':World) (D' S:Nat→Prop) (es':List GV) (F':List Nat),Kept w w' S→(∀b,D b→S b)→(∀b,D b→D' b)→(∀b∈Ω1++Ω2,S b)→RM w' D' r sz es' F'→HM w' D' (Z1 H r es') (Ω1++(F'++Ω2))) ∧
  (∀(w':World) (D' S:Nat→Prop),Kept w w' S→(∀b,D b→S b)→(∀b,D b→D' b)→(∀b∈Ω1++Ω2,S b)→HM w' D' (ZL H r) (Ω1++Ω2))
 | [],Ω,r,sz,es,h,hr=>by simp[Z6] at hr
 | (q,sz',fs)::H,Ω,r,sz,es,h,hr=>by
  obtain ⟨F1,F2,h1,h2,h3⟩:=h
  subst h1
  simp only[Z6] at hr
  split at hr
  ·rename_i hq
   simp only[Option.some.injEq,Prod.mk.injEq] at hr
   obtain ⟨rfl,rfl⟩:=hr
   subst hq
   refine ⟨[],F1,F2,by simp,h2,fun w' D' S es' F' hk hD hDD hF e=> ?_,fun w' D' S hk hD hDD hF=> ?_⟩
   ·simp only[Z1,if_true,List.nil_append]
    exact ⟨F',F2,rfl,e,HM.keep hk hD hDD (fun b hb=>hF b (by simp[hb])) h3⟩
   ·simp only[ZL,if_true,List.nil_append]
    exact HM.keep hk hD hDD (fun b hb=>hF b (by simp[hb])) h3
  ·rename_i hq
   obtain ⟨Ω1,F,Ω2,k1,k2,k3,k4⟩:=HM.take h3 hr
   subst k1
   refine ⟨F1++Ω1,F,Ω2,by simp,k2,fun w' D' S es' F' hk hD hDD hF e=> ?_,fun w' D' S hk hD hDD hF=> ?_⟩
   ·simp only[Z1,if_neg hq,List.append_assoc]
    exact ⟨F1,Ω1++(F'++Ω2),rfl,h2.keep hk hD hDD (fun b hb=>hF b (by simp[hb])),k3 w' D' S es' F' hk hD hDD (fun b hb=>hF b (by simp at hb ⊢;rcases hb with hb|hb<;>simp[hb])) e⟩
   ·simp only[ZL,if_neg hq,List.append_assoc]
    exact ⟨F1,Ω1++Ω2,rfl,h2.keep hk hD hDD (fun b hb=>hF b (by simp[hb])),k4 w' D' S hk hD hDD (fun b hb=>hF b (by simp at hb ⊢;rcases hb with hb|hb<;>simp[hb]))⟩
theorem kept_setCell (w:World) (a:Addr) (v:Value):Kept w (w.setCell a v) (fun b=>b≠a.block):=by
 refine ⟨fun b _ hb=> ?_,by simp,fun b c T fz h=> ?_⟩
 ·simp only[World.setCell,Array.getElem?_modify]
  rw[if_neg (fun e=>hb e.symm)]
 ·simp only[World.setCell,Array.getElem?_modify]
  by_cases hb:a.block=b
  ·subst hb
   simp only[if_true,h,Option.map_some]
   refine ⟨_,_,rfl,?_⟩
   split<;>simp
  ·rw[if_neg hb];exact ⟨c,fz,h,rfl⟩
theorem X6 (b off i:Nat):(⟨b,off,none⟩:Addr).add i=⟨b,off+i,none⟩:=by
 unfold Addr.add;split<;>simp_all
def YP (c:Array Value):Nat→List Value→Array Value
 | _,[]=>c
 | off,v::vs=>YP (c.setIfInBounds off v) (off+1) vs
theorem YN:∀(vs:List Value) (c:Array Value) (off:Nat),(YP c off vs).size = c.size
 | [],_,_ => rfl
 | v::vs,c,off=>by simp[YP,YN vs]
theorem Yf {P:Program}:∀(vs:List Value) (w:World) (b off i:Nat) (c:Array Value) (T:TypeId) (fz:Nat×Nat),w.heap[b]? = some (.cells c T fz)→Thaw c fz→off+i+vs.length≤c.size→(∀x∈vs,x.oneCell'=true) →
 ∃w',(storeCells ⟨b,off,none⟩ vs i).run P w = .ok () w'∧w'.heap[b]? = some (.cells (YP c (off+i) vs) T fz)∧Kept w w' (fun x=>x≠b)∧w'.os=w.os∧w'.tape=w.tape∧w'.output=w.output
 | [],w,b,off,i,c,T,fz,h,_,_,_ => ⟨w,rfl,h,Kept.refl _ _,rfl,rfl,rfl⟩
 | v::vs,w,b,off,i,c,T,fz,h,ht,hl,hv=>by
  simp only[List.length_cons] at hl
  have hcell:w.cell? ⟨b,off+i,none⟩=some c[off+i]:=by simp[World.cell?,h]
  have hfz:w.frozen? ⟨b,off+i,none⟩=false:=by simp only[World.frozen?,h];exact ht _ (by omega)
  have hblk:(w.setCell ⟨b,off+i,none⟩ v).heap[b]? = some (.cells (c.setIfInBounds (off+i) v) T fz):=by
   simp[World.setCell,Array.getElem?_modify,h]
  obtain ⟨w',h1,h2,h3,h4,h5,h6⟩:=Yf (P:=P) vs (w.setCell ⟨b,off+i,none⟩ v) b off (i+1) (c.setIfInBounds (off+i) v) T fz hblk (by unfold Thaw at *;simpa using ht) (by simp;omega) (fun x hx=>hv x (by simp[hx]))
  refine ⟨w',?_,by simpa[YP,Nat.add_assoc] using h2,(kept_setCell w ⟨b,off+i,none⟩ v).trans h3 (fun _ _ h=>h),h4,h5,h6⟩
  simp only[storeCells,Sem.run_bind,X6,run_store P w _ v .plain (hv v (by simp)),hcell,hfz,Bool.false_eq_true,if_false,Result.andThen_ok]
  exact h1
theorem YF:∀(vs:List Value) (c:Array Value) (off:Nat),off+vs.length≤c.size→(YP c off vs).toList = c.toList.take off++(vs++c.toList.drop (off+vs.length))
 | [],c,off,h=>by simp[YP]
 | v::vs,c,off,h=>by
  simp only[List.length_cons] at h
  rw[YP,YF vs _ _ (by simp;omega)]
  have h0:off<c.toList.length:=by simp;omega
  simp only[Array.toList_setIfInBounds,List.take_set,List.drop_set,List.length_cons]
  rw[List.take_succ_eq_append_getElem (by simpa using h0)]
  have hl:(List.take off c.toList).length = off:=by simp;omega
  rw[if_pos (by omega)]
  simp only[List.set_append,hl,Nat.lt_irrefl,if_false,Nat.sub_self,List.set_cons_zero,List.append_assoc,List.cons_append,List.nil_append]
  congr 4
  omega
end Go.Gh
namespace Go.Gh
def vAgg:Value→Bool
 | .agg _ => true
 | _ => false
def isAgg:GV→Bool
 | .agg _ => true
 | .val (.agg _)=>true
 | .cur => true
 | _ => false
def gsize:GV→Nat
 | .agg gs=>gs.length
 | .val v=>v.cells.size
 | .cur => 3
 | _ => 1
def ZI:GV→Bool
 | .val v=>v.cells.all (·.oneCell')
 | .tup _ => false
 | _ => true
mutual
def clean:GV→Bool
 | .agg gs=>Yk gs
 | .tup gs=>Yk gs
 | .osl _ _ => false
 | _ => true
def Yk:List GV→Bool
 | []=>true
 | g::gs=>clean g&&Yk gs
end
mutual
theorem MV.clean {w:World} {D:Nat→Prop}:∀(g:GV) (v:Value) (F:List Nat),MV w D g v F→clean g=true→F=[]
 | .val u,v,F,h,hc=>by simp only[MV] at h;exact h.2
 | .sl sz es,v,F,h,hc=>by simp only[MV] at h;exact h.1
 | .agg gs,v,F,h,hc=>by simp only[MV] at h;obtain ⟨vs,_,_,h2⟩:=h;exact ML.clean gs vs F h2 (by simpa[Gh.clean] using hc)
 | .rop sz g,v,F,h,hc=>by simp only[MV] at h;exact h.1
 | .ptr r sz i o,v,F,h,hc=>by simp only[MV] at h;exact h.1
 | .own r sz k n,v,F,h,hc=>by simp only[MV] at h;exact h.1
 | .osl sz es,v,F,h,hc=>by simp[Gh.clean] at hc
 | .clo f cs,v,F,h,hc=>by simp only[MV] at h;exact h.1
 | .tup gs,v,F,h,hc=>by simp only[MV] at h;obtain ⟨vs,_,h2⟩:=h;exact ML.clean gs vs F h2 (by simpa[Gh.clean] using hc)
 | .raw n,v,F,h,hc=>by simp only[MV] at h
 | .cur,v,F,h,hc=>by simp only[MV] at h;exact h.1
theorem ML.clean {w:World} {D:Nat→Prop}:∀(gs:List GV) (vs:List Value) (F:List Nat),ML w D gs vs F→Yk gs=true→F=[]
 | [],vs,F,h,hc=>by simp only[ML] at h;exact h.2
 | g::gs,vs,F,h,hc=>by
  simp only[ML] at h
  obtain ⟨v,vs',F1,F2,h1,h4,h5,h6⟩:=h
  simp only[Yk,Bool.and_eq_true] at hc
  rw[h4,MV.clean g v F1 h5 hc.1,ML.clean gs vs' F2 h6 hc.2]
  rfl
end
theorem MF.clean {w:World} {D:Nat→Prop} (sz:Nat):∀(gs:List GV) (vs:List Value) (F:List Nat),MF w D sz gs vs F→Yk gs=true→F=[]
 | [],vs,F,h,hc=>by simp only[MF] at h;exact h.2
 | g::gs,vs,F,h,hc=>by
  simp only[MF] at h
  obtain ⟨v,vs',F1,F2,h1,_,_,h4,h5,h6⟩:=h
  simp only[Yk,Bool.and_eq_true] at hc
  rw[h4,MV.clean g v F1 h5 hc.1,MF.clean sz gs vs' F2 h6 hc.2]
  rfl
theorem MV.isAgg {w:World} {D:Nat→Prop} {g:GV} {v:Value} {F:List Nat} (h:MV w D g v F):isAgg g=vAgg v:=by
 cases g with
 | val u=>simp only[MV] at h;rw[h.1];cases u<;>rfl
 | sl sz es=>simp only[MV] at h;rcases h.2 with ⟨_,a,cap,h⟩|⟨b,off,cap,cs,h,_⟩<;>rw[h]<;>rfl
 | agg gs=>simp only[MV] at h;obtain ⟨vs,h,_⟩:=h;rw[h];rfl
 | rop sz g=>simp only[MV] at h;obtain ⟨_,b,off,u,h,_⟩:=h;rw[h];rfl
 | ptr r sz i o=>simp only[MV] at h;obtain ⟨_,b,_,_,h⟩:=h;rw[h];rfl
 | own r sz k n=>simp only[MV] at h;rcases h.2 with ⟨b,cap,c,T,fz,_,h,_⟩|⟨_,a,h⟩<;>rw[h]<;>rfl
 | osl sz es=>simp only[MV] at h;rcases h with ⟨_,_,_,h⟩|⟨b,cap,c,T,fz,F',h,_⟩<;>rw[h]<;>rfl
 | clo f cs=>simp only[MV] at h;obtain ⟨_,vs,h,_⟩:=h;rw[h];rfl
 | tup gs=>simp only[MV] at h;obtain ⟨vs,h,_⟩:=h;rw[h];rfl
 | raw n=>simp only[MV] at h
 | cur=>simp only[MV] at h;obtain ⟨_,bs,i,n,sv,h,_⟩:=h;rw[h];rfl
theorem MV.gsize {w:World} {D:Nat→Prop} {g:GV} {v:Value} {F:List Nat} (h:MV w D g v F):v.cells.size=gsize g:=by
 cases g with
 | val u=>simp only[MV] at h;rw[h.1];rfl
 | sl sz es=>simp only[MV] at h;rcases h.2 with ⟨_,a,cap,h⟩|⟨b,off,cap,cs,h,_⟩<;>rw[h]<;>rfl
 | agg gs=>simp only[MV] at h;obtain ⟨vs,h,_,h2⟩:=h;rw[h];simp[Value.cells,Gh.gsize,ML.len _ _ _ h2]
 | rop sz g=>simp only[MV] at h;obtain ⟨_,b,off,u,h,_⟩:=h;rw[h];rfl
 | ptr r sz i o=>simp only[MV] at h;obtain ⟨_,b,_,_,h⟩:=h;rw[h];rfl
 | own r sz k n=>simp only[MV] at h;rcases h.2 with ⟨b,cap,c,T,fz,_,h,_⟩|⟨_,a,h⟩<;>rw[h]<;>rfl
 | osl sz es=>simp only[MV] at h;rcases h with ⟨_,_,_,h⟩|⟨b,cap,c,T,fz,F',h,_⟩<;>rw[h]<;>rfl
 | clo f cs=>simp only[MV] at h;obtain ⟨_,vs,h,_⟩:=h;rw[h];rfl
 | tup gs=>simp only[MV] at h;obtain ⟨vs,h,_⟩:=h;rw[h];rfl
 | raw n=>simp only[MV] at h
 | cur=>simp only[MV] at h;obtain ⟨_,bs,i,n,sv,h,_⟩:=h;rw[h];rfl
theorem okc_slice (a:Option Addr) (n c:Nat):okc (.slice a n c):=fun x hx=>by simp[Value.cells] at hx;subst hx;rfl
theorem okc_pointer (a:Option Addr):okc (.pointer a):=fun x hx=>by simp[Value.cells] at hx;subst hx;rfl
theorem okc_func (f:Fn) (a b:Array Value):okc (.func f a b):=fun x hx=>by simp[Value.cells] at hx;subst hx;rfl
theorem MV.okc {w:World} {D:Nat→Prop} {g:GV} {v:Value} {F:List Nat} (h:MV w D g v F) (hs:ZI g=true):okc v:=by
 cases g with
 | val u=>
  simp only[MV] at h;rw[h.1]
  simp only[ZI,Array.all_eq_true] at hs
  intro x hx
  obtain ⟨i,hi,rfl⟩:=List.mem_iff_getElem.1 hx
  exact hs i (by simpa using hi)
 | sl sz es=>simp only[MV] at h;rcases h.2 with ⟨_,a,cap,h⟩|⟨b,off,cap,cs,h,_⟩<;>rw[h]<;>exact okc_slice _ _ _
 | agg gs=>simp only[MV] at h;obtain ⟨vs,h,h2,_⟩:=h;rw[h];simpa[Gh.okc,Value.cells] using h2
 | rop sz g=>simp only[MV] at h;obtain ⟨_,b,off,u,h,_⟩:=h;rw[h];exact okc_pointer _
 | ptr r sz i o=>simp only[MV] at h;obtain ⟨_,b,_,_,h⟩:=h;rw[h];exact okc_pointer _
 | own r sz k n=>simp only[MV] at h;rcases h.2 with ⟨b,cap,c,T,fz,_,h,_⟩|⟨_,a,h⟩<;>rw[h]<;>exact okc_slice _ _ _
 | osl sz es=>simp only[MV] at h;rcases h with ⟨_,_,_,h⟩|⟨b,cap,c,T,fz,F',h,_⟩<;>rw[h]<;>exact okc_slice _ _ _
 | clo f cs=>simp only[MV] at h;obtain ⟨_,vs,h,_⟩:=h;rw[h];exact okc_func _ _ _
 | tup gs=>simp[ZI] at hs
 | raw n=>simp only[MV] at h
 | cur=>
  simp only[MV] at h
  obtain ⟨vs,h1,_,h2⟩:=h.2.one
  rw[h1];simpa[Gh.okc,Value.cells] using h2
def sub (g:GV) (o n:Nat) (ag:Bool):Option GV:=
 match g with
 | .agg gs=>if ag then (if o+n≤gs.length then some (.agg ((gs.drop o).take n)) else none) else (if n=1 then gs[o]? else none)
 | _ => none
def upd (g:GV) (o:Nat) (x:GV):Option GV:=
 match g with
 | .agg gs=>match x with
  | .agg xs=>if o+xs.length≤gs.length then some (.agg (gs.take o++(xs++gs.drop (o+xs.length)))) else none
  | .val (.agg _)=>none
  | .cur => none
  | x=>if o<gs.length then some (.agg (gs.set o x)) else none
 | _ => none
theorem ML.append {w:World} {D:Nat→Prop}:∀{gs gs':List GV} {vs vs':List Value} {F F':List Nat},ML w D gs vs F→ML w D gs' vs' F'→ML w D (gs++gs') (vs++vs') (F++F')
 | [],gs',vs,vs',F,F',h,h'=>by simp only[ML] at h;simpa[h.1,h.2] using h'
 | g::gs,gs',vs,vs',F,F',h,h'=>by
  simp only[ML] at h
  obtain ⟨v,us,F1,F2,h1,h2,h3,h4⟩:=h
  subst h1 h2
  simp only[List.cons_append,List.append_assoc,ML]
  exact ⟨v,us++vs',F1,F2++F',rfl,rfl,h3,ML.append h4 h'⟩
theorem ML.part {w:World} {D:Nat→Prop}:∀{gs:List GV} {vs:List Value} {F:List Nat} (o:Nat),ML w D gs vs F→∃F1 F2,F=F1++F2∧ML w D (gs.take o) (vs.take o) F1∧ML w D (gs.drop o) (vs.drop o) F2
 | gs,vs,F,0,h=>⟨[],F,rfl,by simp[ML],by simpa using h⟩
 | [],vs,F,o+1,h=>by simp only[ML] at h;exact ⟨[],[],by simp[h.2],by simp[ML,h.1],by simp[ML,h.1]⟩
 | g::gs,vs,F,o+1,h=>by
  simp only[ML] at h
  obtain ⟨v,us,F1,F2,h1,h2,h3,h4⟩:=h
  obtain ⟨G1,G2,k1,k2,k3⟩:=ML.part o h4
  subst h1 h2 k1
  exact ⟨F1++G1,G2,by simp,by simp only[List.take_succ_cons,ML];exact ⟨v,_,F1,G1,rfl,rfl,h3,k2⟩,by simpa using k3⟩
theorem MF.append {w:World} {D:Nat→Prop} (sz:Nat):∀{gs gs':List GV} {vs vs':List Value} {F F':List Nat},MF w D sz gs vs F→MF w D sz gs' vs' F'→MF w D sz (gs++gs') (vs++vs') (F++F')
 | [],gs',vs,vs',F,F',h,h'=>by simp only[MF] at h;simpa[h.1,h.2] using h'
 | g::gs,gs',vs,vs',F,F',h,h'=>by
  simp only[MF] at h
  obtain ⟨v,us,F1,F2,h1,h0,h00,h2,h3,h4⟩:=h
  subst h1 h2
  simp only[List.cons_append,List.append_assoc,MF]
  exact ⟨v,us++vs',F1,F2++F',rfl,h0,h00,rfl,h3,MF.append sz h4 h'⟩
theorem MF.part {w:World} {D:Nat→Prop} (sz:Nat):∀{gs:List GV} {vs:List Value} {F:List Nat} (o:Nat),MF w D sz gs vs F →
 ∃F1 F2,F=F1++F2∧MF w D sz (gs.take o) (vs.take (o * sz)) F1∧MF w D sz (gs.drop o) (vs.drop (o * sz)) F2
 | gs,vs,F,0,h=>⟨[],F,rfl,by simp[MF],by simpa using h⟩
 | [],vs,F,o+1,h=>by simp only[MF] at h;exact ⟨[],[],by simp[h.2],by simp[MF,h.1],by simp[MF,h.1]⟩
 | g::gs,vs,F,o+1,h=>by
  simp only[MF] at h
  obtain ⟨v,us,F1,F2,h1,h0,h00,h2,h3,h4⟩:=h
  obtain ⟨G1,G2,k1,k2,k3⟩:=MF.part sz o h4
  subst h1 h2 k1
  have hl:v.cells.toList.length=sz:=by simpa using h0
  have e:(o+1) * sz=v.cells.toList.length+o * sz:=by rw[hl,Nat.add_mul];omega
  refine ⟨F1++G1,G2,by simp,?_,?_⟩
  ·simp only[List.take_succ_cons,MF]
   exact ⟨v,us.take (o * sz),F1,G1,by rw[e,List.take_append,List.take_of_length_le (by omega)];simp,h0,h00,rfl,h3,k2⟩
  ·have e2:v.cells.toList.drop (v.cells.toList.length+o * sz)=[]:=List.drop_eq_nil_of_le (by omega)
   rw[e,List.drop_append,e2];simpa using k3
theorem sub_spec {w:World} {D:Nat→Prop} {gs:List GV} {vs:List Value} {o n:Nat} {ag:Bool} {g':GV} (h1:∀x∈vs,x.oneCell'=true) (h2:ML w D gs vs []) (hs:sub (.agg gs) o n ag=some g') :
 ∃u,MV w D g' u []∧okc u∧u.cells.size=n∧isAgg g'=ag∧o+n≤vs.length∧∀j x,u.cells.toList[j]? = some x→vs[o+j]? = some x:=by
 have hlen:=ML.len _ _ _ h2
 simp only[sub] at hs
 split at hs
 ·rename_i hag
  split at hs
  ·rename_i hl
   simp only[Option.some.injEq] at hs
   subst hs
   obtain ⟨F1,F2,e,_,h3⟩:=ML.part o h2
   have e':F1=[]∧F2=[]:=by simpa using e.symm
   obtain ⟨rfl,rfl⟩:=e'
   obtain ⟨G1,G2,e,h4,_⟩:=ML.part n h3
   have e':G1=[]∧G2=[]:=by simpa using e.symm
   obtain ⟨rfl,rfl⟩:=e'
   refine ⟨.agg ((vs.drop o).take n).toArray,?_,?_,?_,by simp[Gh.isAgg,hag],by omega,fun j x hj=> ?_⟩
   ·simp only[MV]
    exact ⟨_,rfl,fun x hx=>h1 x (List.mem_of_mem_drop (List.mem_of_mem_take hx)),h4⟩
   ·intro x hx
    simp only[Value.cells] at hx
    exact h1 x (List.mem_of_mem_drop (List.mem_of_mem_take (by simpa using hx)))
   ·simp[Value.cells];omega
   ·simp only[Value.cells,List.getElem?_take,List.getElem?_drop] at hj
    split at hj
    ·exact hj
    ·cases hj
  ·cases hs
 ·rename_i hag
  split at hs
  ·rename_i hn
   subst hn
   obtain ⟨pre,u,post,F1,Fi,F2,k1,k2,k3,k4,k5⟩:=ML.split gs vs [] o g' h2 hs
   have e':F1=[]∧Fi=[]∧F2=[]:=by simpa using k3.symm
   obtain ⟨rfl,rfl,rfl⟩:=e'
   subst k1
   have hu:=h1 u (by simp)
   have hna:∀cs,u ≠ .agg cs:=fun cs e=>by subst e;simp[Value.oneCell'] at hu
   have hc:u.cells = #[u]:=by cases u<;>first|rfl|exact absurd rfl (hna _)
   refine ⟨u,k4,fun x hx=> ?_,by rw[hc];rfl,?_,by simp;omega,fun j x hj=> ?_⟩
   ·rw[hc] at hx;simp at hx;subst hx;exact hu
   ·have hag':ag=false:=by simpa using hag
    rw[MV.isAgg k4,hag'];cases u<;>first|rfl|exact absurd rfl (hna _)
   ·rw[hc] at hj
    cases j with
    | zero=>simp at hj;subst hj;subst k2;simp
    | succ j=>simp at hj
  ·cases hs
end Go.Gh
namespace Go.Gh
def aggD:TypeDesc→Bool
 | .struct _ | .array _ _ => true
 | _ => false
theorem run_isAgg' {P:Program} {t:TypeId} {d:TypeDesc} (h:P.underlying t=some d) (w:World):(Go.isAgg t).run P w = .ok (aggD d) w:=by
 unfold Go.isAgg
 rw[Sem.run_bind,run_underlying h w]
 cases d<;>rfl
theorem ZB {P:Program} {t:TypeId} {i:TypeInfo} (h:P.info? t=some i) (w:World):(sizeOf t).run P w = .ok i.size w:=by
 simp[sizeOf,typeInfo,h]
theorem cell_of_rd {w:World} {b off j:Nat} {cs:List Value} {u:Value} (h:Rd w b off cs) (hj:cs[j]? = some u):w.cell? ⟨b,off+j,none⟩=some u:=by
 obtain ⟨c,T,fz,h1,h2⟩:=h
 simp[World.cell?,h1,h2 j u hj]
theorem Yo {u:Value} (h:vAgg u=false):u.cells = #[u]:=by
 cases u<;>first|rfl|(simp[vAgg] at h)
theorem XP {P:Program} {t:TypeId} {d:TypeDesc} {i:TypeInfo} (hd:P.underlying t=some d) (hi:P.info? t=some i) {w:World} {b off:Nat} {u:Value}
 (hr:Rd w b off u.cells.toList) (hs:u.cells.size=i.size) (ha:vAgg u=aggD d):(loadVar t ⟨b,off,none⟩).run P w = .ok u w:=by
 simp only[loadVar,Sem.run_bind,run_isAgg' hd,Result.andThen_ok]
 cases hag:aggD d
 ·rw[hag] at ha
  rw[Yo ha] at hr
  have:=cell_of_rd hr (j:=0) (u:=u) rfl
  simp only[Nat.add_zero] at this
  simp[run_load,this]
 ·rw[hag] at ha
  have hl:(loadCells ⟨b,off,none⟩ u.cells.toList.length).run P w = .ok u.cells.toList.toArray w:=
   run_loadCells_list w ⟨b,off,none⟩ u.cells.toList fun j v hv=>by
    rw[X6];exact cell_of_rd hr hv
  simp only[if_true,Sem.run_bind,ZB hi,Result.andThen_ok,←hs]
  simp only[Array.length_toList] at hl
  rw[hl]
  cases u<;>simp_all [vAgg,Value.cells]
theorem load_rop {P:Program} {t:TypeId} {d:TypeDesc} {i:TypeInfo} (hd:P.underlying t=some d) (hi:P.info? t=some i) {w:World} {D:Nat→Prop} {sz:Nat} {g:GV} {v:Value}
 (hv:MV w D (.rop sz g) v []) (hs:sz=i.size) (ha:isAgg g=aggD d):∃u,(Instr.loadAt t v).run P w = .ok u w∧MV w D g u []:=by
 simp only[MV] at hv
 obtain ⟨_,b,off,u,rfl,h2,h3,h4,h5,h6⟩:=hv
 exact ⟨u,by simp only[Instr.loadAt,Instr.sureAddr,Sem.run_bind,Sem.run_pure,Result.andThen_ok];exact XP hd hi h3 (by omega) (by rw[←ha,MV.isAgg h6]),h6⟩
theorem RM.elem {w:World} {D:Nat→Prop} {r sz:Nat} {es:List GV} {F:List Nat} {i:Nat} {e:GV} (h:RM w D r sz es F) (he:es[i]? = some e) :
 ∃b c T fz v Fi,r=2 * b∧w.heap[b]? = some (.cells c T fz)∧Thaw c fz∧i * sz+sz≤c.size∧v.cells.size=sz∧okc v∧MV w D e v Fi∧(∀x∈Fi,x∈F)∧Rd w b (i * sz) v.cells.toList:=by
 rcases h with ⟨b,c,T,fz,F',h1,h2,h3,h4,h5,h6,h7⟩|⟨_,h,_⟩
 ·have hilt:i<es.length:=by
   rcases Nat.lt_or_ge i es.length with h'|h'
   ·exact h'
   ·simp[List.getElem?_eq_none h'] at he
  obtain ⟨pre,v,post,F1,Fi,F2,k1,k2,k3,k4,k5,k6,_⟩:=MF.split sz es _ F' i e h7 he
  subst k5 h6
  have hb:i * sz+sz≤es.length * sz:=by
   have:(i+1) * sz≤es.length * sz:=Nat.mul_le_mul_right sz hilt
   rw[Nat.add_mul] at this;omega
  refine ⟨b,c,T,fz,v,Fi,h1,h2,h3,by omega,k3,k4,k6,fun x hx=>by simp[hx],c,T,fz,h2,fun j u hj=> ?_⟩
  have hjl:j<v.cells.toList.length:=by
   rcases Nat.lt_or_ge j v.cells.toList.length with h'|h'
   ·exact h'
   ·simp[List.getElem?_eq_none h'] at hj
  have e1:(c.toList.take (es.length * sz))[i * sz+j]? = some u:=by
   rw[k1,List.getElem?_append_right (by omega),k2,Nat.add_sub_cancel_left,List.getElem?_append_left hjl];exact hj
  rw[List.getElem?_take] at e1
  split at e1
  ·simpa using e1
  ·cases e1
 ·subst h;simp at he
theorem HM.mem {w:World} {D:Nat→Prop} {H:GH} {Ω:List Nat} {r sz:Nat} {es:List GV} (h:HM w D H Ω) (hr:Z6 H r=some (sz,es)):∃F,RM w D r sz es F∧∀x∈F,x∈Ω:=by
 obtain ⟨Ω1,F,Ω2,h1,h2,_⟩:=HM.take h hr
 exact ⟨F,h2,fun x hx=>by simp[h1,hx]⟩
def Yd (e:GV) (sz o n:Nat) (ag:Bool):Option GV:=if o=0∧n=sz∧isAgg e=ag then some e else if o=0∧n=1∧sz=1∧ag=true∧isAgg e=false then some (.agg [e]) else sub e o n ag
theorem load_ptr {P:Program} {t:TypeId} {d:TypeDesc} {i:TypeInfo} (hd:P.underlying t=some d) (hi:P.info? t=some i) {w:World} {D:Nat→Prop} {H:GH} {Ω:List Nat} (h:St w D H Ω)
 {r sz k o:Nat} {v:Value} {es:List GV} {e g:GV} (hv:MV w D (.ptr r sz k o) v []) (hr:Z6 H r=some (sz,es)) (he:es[k]? = some e) (hs:Yd e sz o i.size (aggD d)=some g) (hc:clean g=true) :
 ∃u,(Instr.loadAt t v).run P w = .ok u w∧MV w D g u []:=by
 obtain ⟨F,hF,_⟩:=h.hm.mem hr
 obtain ⟨b,c,T,fz,v0,Fi,h1,h2,h3,h4,h5,h6,h7,_,h8⟩:=hF.elem he
 simp only[MV] at hv
 obtain ⟨_,b',h9,_,rfl⟩:=hv
 have:b'=b:=by omega
 subst this
 simp only[Instr.loadAt,Instr.sureAddr,Sem.run_bind,Sem.run_pure,Result.andThen_ok]
 unfold Yd at hs
 split at hs
 ·rename_i hcond
  obtain ⟨rfl,hn,hag⟩:=hcond
  simp only[Option.some.injEq] at hs
  subst hs
  refine ⟨v0,XP hd hi (by simpa using h8) (by omega) (by rw[←hag,MV.isAgg h7]),?_⟩
  rw[MV.clean e v0 Fi h7 hc] at h7
  exact h7
 split at hs
 ·rename_i _ hcond
  obtain ⟨rfl,hn,hsz,hag,hne⟩:=hcond
  simp only[Option.some.injEq] at hs
  subst hs
  have hcl:clean e=true:=by simpa[clean,Yk] using hc
  rw[MV.clean e v0 Fi h7 hcl] at h7
  have hv:vAgg v0=false:=by rw[←MV.isAgg h7];exact hne
  have hcs:v0.cells = #[v0]:=Yo hv
  have hone:v0.oneCell'=true:=h6 v0 (by rw[hcs];simp)
  refine ⟨.agg #[v0],XP hd hi (u:= .agg #[v0]) (by rw[hcs] at h8;simpa[Value.cells] using h8) (by simp[Value.cells];omega) (by rw[hag];rfl),?_⟩
  simp only[MV,ML]
  exact ⟨[v0],rfl,by simpa using hone,v0,[],[],[],rfl,rfl,h7,rfl,rfl⟩
 ·cases e with
  | agg gs=>
   simp only[MV] at h7
   obtain ⟨vs,rfl,k1,k2⟩:=h7
   simp only[sub] at hs
   obtain ⟨F1,F2,e1,_,m2⟩:=ML.part o k2
   split at hs
   ·rename_i hag
    split at hs
    ·rename_i hl
     simp only[Option.some.injEq] at hs
     subst hs
     have hlen:=ML.len _ _ _ k2
     obtain ⟨G1,G2,e2,m3,_⟩:=ML.part i.size m2
     have hG:G1=[]:=ML.clean _ _ _ m3 (by simpa[Gh.clean] using hc)
     subst hG
     refine ⟨.agg ((vs.drop o).take i.size).toArray,XP hd hi ?_ (by simp[Value.cells];omega) (by simp[vAgg,hag]),?_⟩
     ·obtain ⟨c',T',fz',n1,n2⟩:=h8
      refine ⟨c',T',fz',n1,fun j u hj=> ?_⟩
      simp only[Value.cells,List.getElem?_take,List.getElem?_drop] at hj
      split at hj
      ·have:=n2 (o+j) u (by simpa[Value.cells] using hj)
       rw[Nat.add_assoc];exact this
      ·cases hj
     ·simp only[MV]
      exact ⟨_,rfl,fun x hx=>k1 x (List.mem_of_mem_drop (List.mem_of_mem_take hx)),m3⟩
    ·cases hs
   ·rename_i hag
    split at hs
    ·rename_i hn
     obtain ⟨pre,u,post,G1,Gi,G2,n1,n2,n3,n4,_⟩:=ML.split gs vs Fi o g k2 hs
     have hG:Gi=[]:=MV.clean _ _ _ n4 hc
     subst hG n1
     have hu:=k1 u (by simp)
     have hna:vAgg u=false:=by cases u<;>simp_all [Value.oneCell',vAgg]
     have hag':aggD d=false:=by simpa using hag
     refine ⟨u,XP hd hi ?_ (by rw[Yo hna,hn];rfl) (by rw[hna,hag']),n4⟩
     obtain ⟨c',T',fz',q1,q2⟩:=h8
     refine ⟨c',T',fz',q1,fun j x hj=> ?_⟩
     rw[Yo hna] at hj
     cases j with
     | zero=>
      simp at hj;subst hj
      exact q2 o u (by simp[Value.cells,←n2])
     | succ j=>simp at hj
    ·cases hs
  | _ => simp[sub] at hs
theorem List.set_eq_take {α:Type} (l:List α) (i:Nat) (x:α) (h:i<l.length):l.set i x=l.take i++(x::l.drop (i+1)):=by
 induction l generalizing i with
 | nil=>simp at h
 | cons a l ih=>
  cases i with
  | zero=>simp
  | succ i=>simp only[List.set_cons_succ,List.take_succ_cons,List.drop_succ_cons,List.cons_append];rw[ih i (by simpa using h)]
theorem upd_spec {w : World} {D : Nat → Prop} {gs : List GV} {vs : List Value} {Fi : List Nat} {o : Nat} {x e' : GV} {xv : Value} (h2 : ML w D gs vs Fi) (hx : MV w D x xv []) (hu : upd (.agg gs) o x = some e') :
    ∃ gs' Fi', e' = .agg gs' ∧ Fi'.Sublist Fi ∧ o + xv.cells.size ≤ vs.length ∧ ML w D gs' (vs.take o ++ (xv.cells.toList ++ vs.drop (o + xv.cells.size))) Fi' := by
  have hlen := ML.len _ _ _ h2
  have single : ∀ (hna : vAgg xv = false), o < gs.length → ∃ gs' Fi', (GV.agg (gs.set o x)) = .agg gs' ∧ Fi'.Sublist Fi ∧ o + xv.cells.size ≤ vs.length ∧ ML w D gs' (vs.take o ++ (xv.cells.toList ++ vs.drop (o + xv.cells.size))) Fi' := by
    intro hna ho
    obtain ⟨F1, F2, e1, m1, _⟩ := ML.part o h2
    obtain ⟨G1, G2, e2, _, m4⟩ := ML.part (o + 1) h2
    obtain ⟨F3, F4, e3, m5, m6⟩ := ML.part o h2
    have hc := Yo hna
    obtain ⟨A1, A2, a1, a2, a3⟩ := ML.part o h2
    obtain ⟨B1, B2, b1, _, b3⟩ := ML.part 1 a3
    refine ⟨gs.set o x, A1 ++ ([] ++ B2), rfl, ?_, by rw [hc]; simp; omega, ?_⟩
    · rw [a1, b1]; simp
    · rw [List.set_eq_take _ _ _ ho, hc]
      refine ML.append a2 ?_
      simp only [List.cons_append, List.nil_append, ML]
      refine ⟨xv, vs.drop (o + 1), [], B2, by simp, rfl, hx, ?_⟩
      simpa [List.drop_drop] using b3
  cases x with
  | agg xs =>
    simp only [upd] at hu
    split at hu
    · rename_i hl
      simp only [Option.some.injEq] at hu
      subst hu
      simp only [MV] at hx
      obtain ⟨us, rfl, _, k2⟩ := hx
      have hlu := ML.len _ _ _ k2
      obtain ⟨A1, A2, a1, a2, a3⟩ := ML.part o h2
      obtain ⟨B1, B2, b1, _, b3⟩ := ML.part xs.length a3
      refine ⟨_, A1 ++ ([] ++ B2), rfl, ?_, by simp [Value.cells]; omega, ?_⟩
      · rw [a1, b1]; simp
      · refine ML.append a2 (ML.append (by simpa [Value.cells] using k2) ?_)
        simpa [List.drop_drop, Value.cells, hlu] using b3
    · cases hu
  | val u =>
    have hxu : xv = u := by simp only [MV] at hx; exact hx.1
    subst hxu
    cases xv <;> simp only [upd] at hu <;> first
      | (cases hu; done)
      | (split at hu
         · rename_i ho; simp only [Option.some.injEq] at hu; subst hu; exact single rfl ho
         · cases hu)
  | cur => simp only [upd] at hu; cases hu
  | _ =>
    simp only [upd] at hu
    split at hu
    · rename_i ho
      simp only [Option.some.injEq] at hu
      subst hu
      exact single (by have := MV.isAgg hx; simpa [Gh.isAgg] using this.symm) ho
    · cases hu
end Go.Gh
namespace Go.Gh
def pstores (e:GV) (sz o n:Nat) (x:GV):Option GV:=if o=0∧n=sz then some x else upd e o x
theorem put_elem {c:Array Value} {L i sz o:Nat} {pre post vc xs:List Value} (h:c.toList.take L=pre++(vc++post)) (hpre:pre.length=i * sz) (hvc:vc.length=sz) (ho:o+xs.length≤sz) (hL:L≤c.size) :
 (YP c (i * sz+o) xs).toList.take L=pre++((vc.take o++(xs++vc.drop (o+xs.length)))++post):=by
 have hlen:L=pre.length+(vc.length+post.length):=by
  have:=congrArg List.length h
  simp at this;omega
 rw[YF xs c _ (by omega)]
 have e1:c.toList.take (i * sz+o)=pre++vc.take o:=by
  have:(c.toList.take L).take (i * sz+o)=c.toList.take (i * sz+o):=by rw[List.take_take];congr 1;omega
  rw[←this,h,List.take_append,List.take_of_length_le (by omega),List.take_append,hpre,Nat.add_sub_cancel_left]
  have:o-vc.length=0:=by omega
  rw[this];simp
 have e2:(c.toList.drop (i * sz+o+xs.length)).take (L-(i * sz+o+xs.length))=vc.drop (o+xs.length)++post:=by
  have:(c.toList.take L).drop (i * sz+o+xs.length)=(c.toList.drop (i * sz+o+xs.length)).take (L-(i * sz+o+xs.length)):=by rw[List.drop_take]
  rw[←this,h,List.drop_append,List.drop_eq_nil_of_le (by omega),List.drop_append,hpre]
  have q:i * sz+o+xs.length-i * sz=o+xs.length:=by omega
  rw[q]
  have:o+xs.length-vc.length=0:=by omega
  rw[this];simp
 have l1:(pre++vc.take o).length = i * sz+o:=by simp;omega
 have e3:pre++((vc.take o++(xs++vc.drop (o+xs.length)))++post)=(pre++vc.take o)++(xs++(vc.drop (o+xs.length)++post)):=by simp
 rw[e1,e3,←e2]
 generalize pre++vc.take o=X at l1
 rw[List.take_append,List.take_append,List.take_of_length_le (by omega),List.take_of_length_le (by omega)]
 congr 3
 omega
theorem nodup_mid {α:Type} {A F F' B:List α} (h:(A++(F++B)).Nodup) (hs:F'.Sublist F):(A++(F'++B)).Nodup :=
 h.sublist (List.Sublist.append (List.Sublist.refl A) (List.Sublist.append hs (List.Sublist.refl B)))
theorem mem_mid {α:Type} {A F F' B:List α} {x:α} (hs:F'.Sublist F) (h:x∈A++(F'++B)):x∈A++(F++B):=
 (List.Sublist.append (List.Sublist.refl A) (List.Sublist.append hs (List.Sublist.refl B))).subset h
theorem store_ptr {P:Program} {t:TypeId} {i:TypeInfo} (hi:P.info? t=some i) {w:World} {D:Nat→Prop} {H:GH} {Ω:List Nat} (h:St w D H Ω)
 {r sz k o:Nat} {v xv:Value} {es:List GV} {e x e':GV} (hv:MV w D (.ptr r sz k o) v []) (hr:Z6 H r=some (sz,es)) (he:es[k]? = some e) (hx:MV w D x xv [])
 (hn:gsize x=i.size) (hst:ZI x=true) (hs:pstores e sz o i.size x=some e') :
 ∃w' Ω',(Instr.storeAt t v xv).run P w = .ok () w'∧St w' D (Z1 H r (es.set k e')) Ω'∧Ev w D Ω w' D Ω':=by
 obtain ⟨Ω1,F,Ω2,hΩ,hR,hput,_⟩:=HM.take h.hm hr
 have hxs:xv.cells.size=i.size:=by rw[MV.gsize hx,hn]
 have hok:=MV.okc hx hst
 have hklt:k<es.length:=by
  rcases Nat.lt_or_ge k es.length with h'|h'
  ·exact h'
  ·simp[List.getElem?_eq_none h'] at he
 rcases hR with ⟨b,c,T,fz,F',h1,h2,h3,h4,h5,h6,h7⟩|⟨_,h0,_⟩
 case inr=>subst h0;simp at he
 obtain ⟨pre,v0,post,F1,Fi,F2,k1,k2,k3,k4,k5,k6,k7⟩:=MF.split sz es _ F' k e h7 he
 simp only[MV] at hv
 obtain ⟨_,b',h9,_,rfl⟩:=hv
 have:b'=b:=by omega
 subst this
 have hkb:k * sz+sz≤es.length * sz:=by
  have:(k+1) * sz≤es.length * sz:=Nat.mul_le_mul_right sz hklt
  rw[Nat.add_mul] at this;omega
 obtain ⟨v',Fi',hFi,hos,hcell,hok',hsz',hMV⟩:∃v' Fi',Fi'.Sublist Fi∧o+xv.cells.toList.length≤sz∧v'.cells.toList=v0.cells.toList.take o++(xv.cells.toList++v0.cells.toList.drop (o+xv.cells.toList.length)) ∧
  okc v'∧v'.cells.size=sz∧MV w D e' v' Fi':=by
  unfold pstores at hs
  split at hs
  ·rename_i hc
   obtain ⟨rfl,hn'⟩:=hc
   simp only[Option.some.injEq] at hs
   subst hs
   refine ⟨xv,[],by simp,by simp;omega,?_,hok,by omega,hx⟩
   rw[List.drop_eq_nil_of_le (by simp;omega)];simp
  ·cases e with
   | agg gs=>
    simp only[MV] at k6
    obtain ⟨vs,rfl,m1,m2⟩:=k6
    obtain ⟨gs',Fi',n1,n2,n3,n4⟩:=upd_spec m2 hx hs
    subst n1
    simp only[Value.cells,List.size_toArray] at k3
    have hcs:∀x∈vs.take o++(xv.cells.toList++vs.drop (o+xv.cells.size)),x.oneCell'=true:=fun x hx=>by
     simp only[List.mem_append] at hx
     rcases hx with hx|hx|hx
     ·exact m1 x (List.mem_of_mem_take hx)
     ·exact hok x hx
     ·exact m1 x (List.mem_of_mem_drop hx)
    refine ⟨.agg (vs.take o++(xv.cells.toList++vs.drop (o+xv.cells.size))).toArray,Fi',n2,by simp;omega,by simp[Value.cells],fun x hx=>hcs x (by simpa[Value.cells] using hx),?_,?_⟩
    ·show (vs.take o++(xv.cells.toList++vs.drop (o+xv.cells.size))).length = sz
     simp only[List.length_append,List.length_take,List.length_drop,Array.length_toList];omega
    ·simp only[MV]
     exact ⟨_,rfl,hcs,n4⟩
   | _ => simp[upd] at hs
 obtain ⟨w',q1,q2,q3,q4,q5,q6⟩:=Yf (P:=P) xv.cells.toList w b' (k * sz+o) 0 c T fz h2 h3 (by simp at hos ⊢;omega) (fun x hx=>hok x hx)
 have hbΩ:b'∈Ω:=by rw[hΩ,h6];simp
 have hbD:¬D b':=h.dj _ hbΩ
 subst h6 k5 hΩ
 have hnd:=h.nd
 have hb1:∀x∈Ω1++Ω2,x≠b':=fun x hx e=>by
  subst e
  simp only[List.nodup_append,List.nodup_cons,List.mem_append,List.mem_cons,List.cons_append] at hnd hx
  rcases hx with hx|hx
  ·exact hnd.2.2 _ hx _ (.inl rfl) rfl
  ·exact hnd.2.1.1 (.inr hx)
 have hb2:∀x∈F1++F2,x≠b':=fun x hx e=>by
  subst e
  simp only[List.nodup_append,List.nodup_cons,List.mem_append,List.cons_append] at hnd hx
  refine hnd.2.1.1 (.inl ?_)
  rcases hx with hx|hx<;>simp[hx]
 have hb3:∀x∈Fi',x≠b':=fun x hx e=>by
  subst e
  simp only[List.nodup_append,List.nodup_cons,List.mem_append,List.cons_append] at hnd
  refine hnd.2.1.1 (.inl (.inr (.inl (hFi.subset hx))))
 have hsub:(b'::(F1++(Fi'++F2))).Sublist (b'::(F1++(Fi++F2))):=List.Sublist.cons_cons _ (List.Sublist.append (List.Sublist.refl _) (List.Sublist.append hFi (List.Sublist.refl _)))
 have hMF:=k7 w' D (fun x=>x≠b') e' v' Fi' q3 (fun x hx e=>hbD (e▸hx)) (fun _ h=>h) hb2 hsz' hok' (MV.keep q3 (fun x hx e=>hbD (e▸hx)) (fun _ h=>h) e' v' Fi' hb3 hMV)
 refine ⟨w',Ω1++((b'::(F1++(Fi'++F2)))++Ω2),?_,⟨hput w' D (fun x=>x≠b') _ _ q3 (fun x hx e=>hbD (e▸hx)) (fun _ h=>h) hb1 ?_,nodup_mid hnd hsub,by rw[Ym];exact h.nn,fun x hx=>h.dj x (mem_mid hsub hx),fun x hx=>Nat.lt_of_lt_of_le (h.ds x hx) q3.size⟩,
  ⟨fun _ h=>h,fun _ _ h=> .inl h,fun x hx _ => mem_mid hsub hx,q3.mono fun x _ hx e=>hx (e▸hbΩ),q4,q5,q6⟩⟩
 ·simp only[Instr.storeAt,Instr.sureAddr,storeVar,Sem.run_bind,Sem.run_pure,Result.andThen_ok,ZB hi,hxs]
  simpa using q1
 ·refine .inl ⟨b',_,T,fz,F1++(Fi'++F2),h1,q2,?_,?_,by simpa using h5,rfl,?_⟩
  ·unfold Thaw at *;rw[YN];exact h3
  ·rw[YN];simpa using h4
  ·simp only[List.length_set,Nat.add_zero]
   rw[put_elem k1 k2 (by simpa using k3) hos (by omega),←hcell]
   exact hMF
end Go.Gh
namespace Go.Gh
def Src (P:Program) (w:World) (size m:Nat) (x:Value) (cs:List Value):Prop:=
 (Builtin.lenOf x).run P w = .ok m w∧cs.length=m * size∧∀k,k≤m→∀w':World,w'.heap=w.heap→(Builtin.firstCells size k x).run P w' = .ok (cs.take (k * size)).toArray w'
theorem Rd.heap {w w':World} {b off:Nat} {cs:List Value} (h:Rd w b off cs) (e:w'.heap=w.heap):Rd w' b off cs:=by
 obtain ⟨c,T,fz,h1,h2⟩:=h
 exact ⟨c,T,fz,by rw[e];exact h1,h2⟩
theorem run_loadCells_rd {P:Program} {w:World} {b off:Nat} {cs:List Value} (h:Rd w b off cs) (k:Nat) (hk:k≤cs.length):(loadCells ⟨b,off,none⟩ k).run P w = .ok (cs.take k).toArray w:=by
 have hl:(loadCells ⟨b,off,none⟩ (cs.take k).length).run P w = .ok (cs.take k).toArray w:=
  run_loadCells_list w ⟨b,off,none⟩ (cs.take k) fun j v hv=>by
   rw[X6]
   refine cell_of_rd h ?_
   rw[List.getElem?_take] at hv
   split at hv
   ·exact hv
   ·cases hv
 rw[List.length_take,Nat.min_eq_left hk] at hl
 exact hl
theorem Src.rd {P:Program} {w:World} {size m cap b off:Nat} {cs:List Value} (h:Rd w b off cs) (hl:cs.length=m * size):Src P w size m (.slice (some ⟨b,off,none⟩) m cap) cs:=by
 refine ⟨by simp[Builtin.lenOf],hl,fun k hk w' hw=> ?_⟩
 simp only[Builtin.firstCells]
 exact run_loadCells_rd (h.heap hw) _ (by rw[hl];exact Nat.mul_le_mul_right _ hk)
theorem Src.nil {P:Program} {w:World} {size:Nat} {a:Option Addr} {cap:Nat}:Src P w size 0 (.slice a 0 cap) []:=by
 refine ⟨by simp[Builtin.lenOf],by simp,fun k hk w' hw=> ?_⟩
 have:k=0:=by omega
 subst this
 cases a<;>simp[Builtin.firstCells,loadCells,loadCellsFrom]
theorem Src.str {P:Program} {w:World} {s:ByteArray}:Src P w 1 s.size (.string s) (s.data.toList.map fun b=>Value.int .u8 b.toNat):=by
 refine ⟨by simp[Builtin.lenOf],by simp,fun k hk w' hw=> ?_⟩
 simp only[Builtin.firstCells,Sem.run_pure,Nat.mul_one]
 congr 1
 apply Array.ext'
 rw[ByteArray.data_extract]
 simp
theorem sl_src {P:Program} {w:World} {D:Nat→Prop} {sz:Nat} {es:List GV} {v:Value} (h:MV w D (.sl sz es) v []) :
 ∃a cap cs,v = .slice a es.length cap∧es.length≤cap∧Src P w sz es.length v cs∧MF w D sz es cs []∧es.length≤Y9:=by
 simp only[MV] at h
 rcases h.2 with ⟨rfl,a,cap,rfl⟩|⟨b,off,cap,cs,rfl,h1,h2,h3,h4,h5⟩
 ·exact ⟨a,cap,[],rfl,by simp,Src.nil,by simp[MF],by simp[Y9]⟩
 ·exact ⟨_,cap,cs,rfl,h1,Src.rd h4 (MF.len _ _ _ _ h5),h5,h2⟩
theorem own_src {P:Program} {w:World} {D:Nat→Prop} {H:GH} {Ω:List Nat} {r sz k n:Nat} {es:List GV} {v:Value} (h:St w D H Ω) (hv:MV w D (.own r sz k n) v []) (hr:Z6 H r=some (sz,es)) (hn:k+n≤es.length) :
 ∃a cap cs F,v = .slice a n cap∧n≤cap∧Src P w sz n v cs∧MF w D sz ((es.drop k).take n) cs F∧es.length≤Y9∧∀x∈F,x∈Ω:=by
 obtain ⟨F,hF,hFΩ⟩:=h.hm.mem hr
 simp only[MV] at hv
 rcases hv.2 with ⟨b,cap,c,T,fz,h1,rfl,h3,h4,h5⟩|⟨rfl,a,rfl⟩
 ·rcases hF with ⟨b',c',T',fz',F',k1,k2,k3,k4,k5,k6,k7⟩|⟨k1,_,_⟩
  ·have:b'=b:=by omega
   subst this
   rw[h4] at k2
   simp only[Option.some.injEq,Obj.cells.injEq] at k2
   obtain ⟨rfl,rfl,rfl⟩:=k2
   obtain ⟨G1,G2,g1,_,g3⟩:=MF.part sz k k7
   obtain ⟨G3,G4,g4,g5,_⟩:=MF.part sz n g3
   have hle:k * sz+n * sz≤es.length * sz:=by rw[←Nat.add_mul];exact Nat.mul_le_mul_right _ hn
   have ecs:((c.toList.take (es.length * sz)).drop (k * sz)).take (n * sz)=(c.toList.drop (k * sz)).take (n * sz):=by
    rw[List.drop_take,List.take_take];congr 1;omega
   rw[ecs] at g5
   refine ⟨_,cap,(c.toList.drop (k * sz)).take (n * sz),G3,rfl,h3,Src.rd ⟨c,T,fz,h4,fun j u hj=> ?_⟩ ?_,g5,k5,fun x hx=>hFΩ x (by simp[k6,g1,g4,hx])⟩
   ·rw[List.getElem?_take] at hj
    split at hj
    ·rw[List.getElem?_drop] at hj;simpa using hj
    ·cases hj
   ·have:=MF.len _ _ _ _ g5
    rw[this,List.length_take,List.length_drop];congr 1;omega
  ·omega
 ·refine ⟨a,0,[],[],rfl,Nat.le_refl _,Src.nil,by simp[MF],?_,by simp⟩
  rcases hF with ⟨b',c',T',fz',F',k1,k2,k3,k4,k5,_⟩|⟨_,rfl,_⟩
  ·exact k5
  ·simp[Y9]
section
variable {P:Program} {w:World}
theorem run_append_fit {t u ty e:TypeId} {i:TypeInfo} {du:TypeDesc} (ht:P.underlying t=some (.slice e)) (hu:P.underlying u=some du) (hnu:(∃e',du = .slice e')∨du = .string) (hi:P.info? e=some i)
 {base:Option Addr} {n cap m:Nat} {x:Value} {cs:List Value} (hs:Src P w i.size m x cs) (hroom:n+m≤cap) :
 (Builtin.append_ #[t,u] ty #[.slice base n cap,x]).run P w =
  (match base with|some a=>(storeCells (a.add (n * i.size)) cs).run P w|none=> .ok () w).andThen fun _ w'=> .ok (.slice base (n+m) cap) w':=by
 obtain ⟨h1,h2,h3⟩:=hs
 have h4:=h3 m (Nat.le_refl _) w rfl
 rw[←h2,List.take_length] at h4
 rcases hnu with ⟨e',rfl⟩|rfl
 all_goals
  simp only[Builtin.append_,List.getElem?_toArray,List.getElem?_cons_zero,List.getElem?_cons_succ,Sem.run_bind,run_underlying ht,run_underlying hu,Result.andThen_ok,ZB hi,Sem.run_pure,Bool.false_eq_true,if_false,h1,hroom,if_true,Bool.not_false,h4]
  cases base<;>simp
theorem run_append_more {t u ty e:TypeId} {i:TypeInfo} {z:Value} {du:TypeDesc} (ht:P.underlying t=some (.slice e)) (hu:P.underlying u=some du) (hnu:(∃e',du = .slice e')∨du = .string) (hi:P.info? e=some i) (hz:i.zero=some z)
 {base:Option Addr} {n cap m:Nat} {x:Value} {cs os:List Value} (hs:Src P w i.size m x cs) (ho:Src P w i.size n (.slice base n cap) os) (hg:cap<n+m) (hb:(n+m) * i.bytes≤140737488355328) (h63:n+m≤9223372036854775807) :
 (Builtin.append_ #[t,u] ty #[.slice base n cap,x]).run P w =
  .ok (.slice (some ⟨w.heap.size,0,none⟩) (n+m) (grownCap w (n+m) cap e))
   (w.drew.alloc (.cells (os.toArray++cs.toArray++Builtin.zeroCells z.cells (grownCap w (n+m) cap e-(n+m))) e)):=by
 obtain ⟨h1,h2,h3⟩:=hs
 have h4:=h3 m (Nat.le_refl _) w.drew rfl
 rw[←h2,List.take_length] at h4
 obtain ⟨_,o2,o3⟩:=ho
 have o4:=o3 n (Nat.le_refl _) w.drew rfl
 rw[←o2,List.take_length] at o4
 have hn:¬(n+m≤cap):=by omega
 have hfit:=growslice_fits hg hb
 have h48':¬(281474976710656<Builtin.nextslicecap (n+m) cap * i.bytes):=by omega
 have h63':¬(9223372036854775807<((n:Int)+(m:Int))):=by omega
 rcases hnu with ⟨e',rfl⟩|rfl
 all_goals
  simp only[Builtin.append_,List.getElem?_toArray,List.getElem?_cons_zero,List.getElem?_cons_succ,Sem.run_bind,run_underlying ht,run_underlying hu,Result.andThen_ok,ZB hi,Sem.run_pure,Bool.false_eq_true,if_false,h1,hn,Bool.not_false,if_true]
  simp[typeInfo,hi,zeroValue,hz,h48',h63',Question.forced,h4,o4,newRow,grownCap]
  congr 2
  apply Array.ext'
  simp[List.append_assoc]
end
end Go.Gh
namespace Go.Gh
theorem names_hdel_not (H:GH) (r:Nat) (h:(names H).Nodup):r∉names (ZL H r):=by
 induction H with
 | nil=>simp[ZL,names]
 | cons x H ih=>
  obtain ⟨q,y⟩:=x
  simp only[names,List.map_cons,List.nodup_cons] at h
  simp only[ZL]
  split
  ·rename_i e;subst e;exact h.1
  ·rename_i e
   simp only[names,List.map_cons,List.mem_cons,not_or]
   exact ⟨fun e'=>e e'.symm,ih h.2⟩
theorem RM.first {w:World} {D:Nat→Prop} {r sz:Nat} {es:List GV} {F:List Nat} (h:RM w D r sz es F) (n:Nat):∃F1,RM w D r sz (es.take n) F1∧F1.Sublist F:=by
 rcases h with ⟨b,c,T,fz,F',h1,h2,h3,h4,h5,h6,h7⟩|⟨h1,h2,h3⟩
 ·obtain ⟨G1,G2,g1,g2,_⟩:=MF.part sz n h7
  have hle:(es.take n).length ≤ es.length:=by simp;omega
  have hle2:(es.take n).length * sz≤es.length * sz:=Nat.mul_le_mul_right _ hle
  refine ⟨b::G1,.inl ⟨b,c,T,fz,G1,h1,h2,h3,by omega,by omega,rfl,?_⟩,by rw[h6,g1];simp⟩
  have e:(c.toList.take (es.length * sz)).take (n * sz)=c.toList.take ((es.take n).length * sz):=by
   have hm:(es.take n).length * sz=min (n * sz) (es.length * sz):=by
    rw[List.length_take]
    rcases Nat.le_total n es.length with hl|hl
    ·rw[Nat.min_eq_left hl,Nat.min_eq_left (Nat.mul_le_mul_right _ hl)]
    ·rw[Nat.min_eq_right hl,Nat.min_eq_right (Nat.mul_le_mul_right _ hl)]
   rw[List.take_take,hm]
  rw[e] at g2
  exact g2
 ·exact ⟨[],.inr ⟨h1,by simp[h2],rfl⟩,by simp⟩
theorem St.cut {w:World} {D:Nat→Prop} {H:GH} {Ω:List Nat} (h:St w D H Ω) {r sz:Nat} {es:List GV} (hr:Z6 H r=some (sz,es)) (n:Nat) :
 ∃Ω',St w D ((r,sz,es.take n)::ZL H r) Ω'∧Ev w D Ω w D Ω':=by
 obtain ⟨Ω1,F,Ω2,hΩ,hR,_,hdl⟩:=HM.take h.hm hr
 obtain ⟨F1,hR1,hF1⟩:=hR.first n
 have hd:=hdl w D (fun _ => True) (Kept.refl _ _) (fun _ _ => trivial) (fun _ h=>h) (fun _ _ => trivial)
 have hp:(Ω1++(F1++Ω2)).Perm (F1++(Ω1++Ω2)):=by
  rw[←List.append_assoc,←List.append_assoc];exact List.perm_append_comm.append_right _
 have hsub:(Ω1++(F1++Ω2)).Sublist (Ω1++(F++Ω2)):=List.Sublist.append (List.Sublist.refl _) (List.Sublist.append hF1 (List.Sublist.refl _))
 have hin:∀x∈F1++(Ω1++Ω2),x∈Ω:=fun x hx=>by rw[hΩ];exact hsub.subset (hp.mem_iff.2 hx)
 subst hΩ
 refine ⟨F1++(Ω1++Ω2),⟨⟨F1,Ω1++Ω2,rfl,hR1,hd⟩,hp.nodup_iff.1 (h.nd.sublist hsub),?_,fun x hx=>h.dj x (hin x hx),h.ds⟩,⟨fun _ h=>h,fun _ _ h=> .inl h,fun x hx _ => hin x hx,Kept.refl _ _,rfl,rfl,rfl⟩⟩
 simp only[names,List.map_cons,List.nodup_cons]
 exact ⟨names_hdel_not H r h.nn,h.nn.sublist (Yn H r)⟩
theorem MF.ok {w:World} {D:Nat→Prop} (sz:Nat):∀(gs:List GV) (cs:List Value) (F:List Nat),MF w D sz gs cs F→∀x∈cs,x.oneCell'=true
 | [],cs,F,h=>by simp only[MF] at h;simp[h.1]
 | g::gs,cs,F,h=>by
  simp only[MF] at h
  obtain ⟨v,cs',F1,F2,q1,_,q3,_,_,q6⟩:=h
  subst q1
  intro x hx
  rcases List.mem_append.1 hx with hx|hx
  ·exact q3 x hx
  ·exact MF.ok sz gs cs' F2 q6 x hx
theorem St.move {w:World} {D:Nat→Prop} {H:GH} {Ω:List Nat} (h:St w D H Ω) {r sz:Nat} {es fs:List GV} (hr:Z6 H r=some (sz,es)) {n:Nat} (T:TypeId) {os cs rest:List Value}
 (ho:∀F,RM w D r sz es F→∃F1,MF w D sz (es.take n) os F1∧F1.Sublist F) (hc:MF w D sz fs cs []) (hl:(es.take n++fs).length ≤ Y9) :
 ∃Ω',St (w.drew.alloc (.cells (os++(cs++rest)).toArray T)) D ((2 * w.heap.size,sz,es.take n++fs)::ZL H r) Ω'∧Ev w D Ω (w.drew.alloc (.cells (os++(cs++rest)).toArray T)) D Ω':=by
 obtain ⟨Ω1,F,Ω2,hΩ,hR,_,hdl⟩:=HM.take h.hm hr
 obtain ⟨F1,hO,hF1⟩:=ho F hR
 have kd:Kept w (w.drew.alloc (.cells (os++(cs++rest)).toArray T)) (fun _ => True):=(kept_same (w:=w) (w':=w.drew) rfl _).trans (Yc w.drew _ _) (fun _ _ _ => trivial)
 have hd:=hdl _ D (fun _ => True) kd (fun _ _ => trivial) (fun _ h=>h) (fun _ _ => trivial)
 have hnew:∀x∈Ω,x≠w.heap.size:=fun x hx e=>absurd (HM.flt h.hm x hx) (by omega)
 have hp:(Ω1++(F1++Ω2)).Perm (F1++(Ω1++Ω2)):=by
  rw[←List.append_assoc,←List.append_assoc];exact List.perm_append_comm.append_right _
 have hsub:(Ω1++(F1++Ω2)).Sublist (Ω1++(F++Ω2)):=List.Sublist.append (List.Sublist.refl _) (List.Sublist.append hF1 (List.Sublist.refl _))
 have hin:∀x∈F1++(Ω1++Ω2),x∈Ω:=fun x hx=>by rw[hΩ];exact hsub.subset (hp.mem_iff.2 hx)
 have hnd:(F1++(Ω1++Ω2)).Nodup := hp.nodup_iff.1 ((hΩ▸h.nd).sublist hsub)
 have hnn:2 * w.heap.size∉names (ZL H r):=fun hx=>absurd (HM.names_lt h.hm _ ((Yn H r).subset hx)) (Nat.lt_irrefl _)
 have hlen1:=MF.len _ _ _ _ hO
 have hlen2:=MF.len _ _ _ _ hc
 have hsz:(es.take n++fs).length * sz=os.length+cs.length:=by rw[List.length_append,Nat.add_mul,hlen1,hlen2]
 refine ⟨(w.heap.size::F1)++(Ω1++Ω2),⟨⟨w.heap.size::F1,Ω1++Ω2,rfl,.inl ⟨w.heap.size,_,T,(0,0),F1,rfl,hp_new w.drew _,fun i _ => by simp,by rw[hsz];simp,hl,rfl,?_⟩,hd⟩,?_,?_,fun x hx=> ?_,fun x hx=> ?_⟩,
  ⟨fun _ h=>h,fun _ _ h=> .inl h,fun x hx hlt=> ?_,kd.mono (fun _ _ _ => trivial),rfl,rfl,rfl⟩⟩
 ·rw[hsz]
  have e:(os++(cs++rest)).toArray.toList.take (os.length+cs.length)=os++cs:=by
   have:os++(cs++rest)=(os++cs)++rest:=by simp
   rw[this]
   have:os.length+cs.length=(os++cs).length := by simp
   rw[this];exact List.take_left
  rw[e]
  have:=MF.append sz (MF.keep kd (fun _ _ => trivial) (fun _ h=>h) sz _ _ F1 (fun _ _ => trivial) hO) (MF.keep kd (fun _ _ => trivial) (fun _ h=>h) sz _ _ [] (fun _ _ => trivial) hc)
  simpa using this
 ·simp only[List.cons_append,List.nodup_cons]
  exact ⟨fun hx=>hnew _ (hin _ hx) rfl,hnd⟩
 ·simp only[names,List.map_cons,List.nodup_cons]
  exact ⟨hnn,h.nn.sublist (Yn H r)⟩
 ·simp only[List.cons_append,List.mem_cons] at hx
  rcases hx with rfl|hx
  ·intro hd;exact absurd (h.ds _ hd) (Nat.lt_irrefl _)
  ·exact h.dj x (hin x hx)
 ·have:=h.ds x hx;simp;omega
 ·simp only[List.cons_append,List.mem_cons] at hx
  rcases hx with rfl|hx
  ·omega
  ·exact hin x hx
theorem own_src0 {P:Program} {w:World} {D:Nat→Prop} {H:GH} {Ω:List Nat} {r sz n:Nat} {es:List GV} {v:Value} (h:St w D H Ω) (hv:MV w D (.own r sz 0 n) v []) (hr:Z6 H r=some (sz,es)) (hn:n≤es.length) :
 ∃a cap os,v = .slice a n cap∧n≤cap∧Src P w sz n v os∧∀F,RM w D r sz es F→∃F1,MF w D sz (es.take n) os F1∧F1.Sublist F:=by
 obtain ⟨F,hF,hFΩ⟩:=h.hm.mem hr
 simp only[MV] at hv
 rcases hv.2 with ⟨b,cap,c,T,fz,h1,rfl,h3,h4,h5⟩|⟨rfl,a,rfl⟩
 ·have hle:n * sz≤es.length * sz:=Nat.mul_le_mul_right _ hn
  have hall:∀F,RM w D r sz es F→es.length * sz≤c.size∧∃F1,MF w D sz (es.take n) (c.toList.take (n * sz)) F1∧F1.Sublist F:=by
   intro F hF
   rcases hF with ⟨b',c',T',fz',F',k1,k2,k3,k4,k5,k6,k7⟩|⟨k1,_,_⟩
   ·have:b'=b:=by omega
    subst this
    rw[h4] at k2
    simp only[Option.some.injEq,Obj.cells.injEq] at k2
    obtain ⟨rfl,rfl,rfl⟩:=k2
    obtain ⟨G1,G2,g1,g2,_⟩:=MF.part sz n k7
    have e:(c.toList.take (es.length * sz)).take (n * sz)=c.toList.take (n * sz):=by rw[List.take_take,Nat.min_eq_left hle]
    rw[e] at g2
    exact ⟨k4,G1,g2,by rw[k6,g1];exact (List.sublist_append_left _ _).trans (List.sublist_cons_self _ _)⟩
   ·omega
  have hcs:=(hall F hF).1
  refine ⟨_,cap,c.toList.take (n * sz),rfl,h3,?_,fun F hF=>(hall F hF).2⟩
  refine Src.rd ⟨c,T,fz,h4,fun j u hj=> ?_⟩ (by simp;omega)
  rw[List.getElem?_take] at hj
  split at hj
  ·simpa using hj
  ·cases hj
 ·exact ⟨a,0,[],rfl,Nat.le_refl _,Src.nil,fun F _ => ⟨[],by simp[MF],by simp⟩⟩
theorem app_own {P:Program} {t u ty e:TypeId} {i:TypeInfo} {z:Value} {du:TypeDesc} (ht:P.underlying t=some (.slice e)) (hu:P.underlying u=some du) (hnu:(∃e',du = .slice e')∨du = .string) (hi:P.info? e=some i) (hz:i.zero=some z) (hzs:z.cells.size=i.size)
 {w:World} {D:Nat→Prop} {H:GH} {Ω:List Nat} (h:St w D H Ω) {r n m:Nat} {es fs:List GV} {vs x:Value} {cs:List Value} (hv:MV w D (.own r i.size 0 n) vs []) (hr:Z6 H r=some (i.size,es)) (hn:n≤es.length)
 (hs:Src P w i.size m x cs) (hc:MF w D i.size fs cs []) (hm:fs.length=m) (hb:(n+m) * i.bytes≤140737488355328) (hl:n+m≤Y9) :
 ∃v' w' Ω' r',(Builtin.append_ #[t,u] ty #[vs,x]).run P w = .ok v' w'∧MV w' D (.own r' i.size 0 (n+m)) v' []∧St w' D ((r',i.size,es.take n++fs)::ZL H r) Ω'∧Ev w D Ω w' D Ω':=by
 have hlen:(es.take n++fs).length = n+m:=by simp;omega
 have h63:n+m≤9223372036854775807:=by unfold Y9 at hl;omega
 obtain ⟨a0,cap,os,rfl,hcap,ho,hoM⟩:=own_src0 (P:=P) h hv hr hn
 by_cases hroom:n+m≤cap
 ·
   have hrun:=run_append_fit (ty:=ty) (base:=a0) ht hu hnu hi hs hroom
   have hv':=hv
   simp only[MV] at hv
   rcases hv.2 with ⟨b,cap',c,T,fz,h1,h2,h3,h4,h5⟩|⟨h0,a',h2⟩
   ·simp only[Value.slice.injEq,Nat.zero_mul,true_and] at h2
    obtain ⟨rfl,rfl⟩:=h2
    obtain ⟨Ω1,F,Ω2,hΩ,hR,_,hdl⟩:=HM.take h.hm hr
    rcases hR with ⟨b',c',T',fz',F',k1,k2,k3,k4,k5,k6,k7⟩|⟨k1,_,_⟩
    case inr=>omega
    have:b'=b:=by omega
    subst this
    rw[h4] at k2
    simp only[Option.some.injEq,Obj.cells.injEq] at k2
    obtain ⟨rfl,rfl,rfl⟩:=k2
    have hcl:=hs.2.1
    have hfit:n * i.size+cs.length≤c.size:=by
     rw[hcl,←Nat.add_mul]
     exact Nat.le_trans (Nat.mul_le_mul_right _ hroom) (by simpa using h5)
    have hok:=MF.ok _ _ _ _ hc
    obtain ⟨w',q1,q2,q3,q4,q5,q6⟩:=Yf (P:=P) cs w b' (n * i.size) 0 c T fz h4 k3 (by simpa using hfit) hok
    obtain ⟨G1,G2,g1,g2,_⟩:=MF.part i.size n k7
    have hle:n * i.size≤es.length * i.size:=Nat.mul_le_mul_right _ hn
    have e:(c.toList.take (es.length * i.size)).take (n * i.size)=c.toList.take (n * i.size):=by rw[List.take_take,Nat.min_eq_left hle]
    rw[e] at g2
    subst k6 g1 hΩ
    have hnd:=h.nd
    have hbΩ:b'∈Ω1++((b'::(G1++G2))++Ω2):=by simp
    have hbD:¬D b':=h.dj _ hbΩ
    have hsub:(b'::G1).Sublist (b'::(G1++G2)):=List.Sublist.cons_cons _ (List.sublist_append_left _ _)
    have hp:(Ω1++((b'::G1)++Ω2)).Perm ((b'::G1)++(Ω1++Ω2)):=by
     rw[←List.append_assoc,←List.append_assoc];exact List.perm_append_comm.append_right _
    have hin:∀x∈(b'::G1)++(Ω1++Ω2),x∈Ω1++((b'::(G1++G2))++Ω2):=fun x hx=>mem_mid hsub (hp.mem_iff.2 hx)
    have hnd':((b'::G1)++(Ω1++Ω2)).Nodup := hp.nodup_iff.1 (nodup_mid hnd hsub)
    have hnd2:=hnd'
    simp only[List.cons_append,List.nodup_cons,List.mem_append,not_or] at hnd2
    have hb1:∀x∈Ω1++Ω2,x≠b':=fun x hx e=>by
     subst e
     rcases List.mem_append.1 hx with hx|hx
     ·exact hnd2.1.2.1 hx
     ·exact hnd2.1.2.2 hx
    have hb2:∀x∈G1,x≠b':=fun x hx e=>by subst e;exact hnd2.1.1 hx
    have hMF:=MF.append i.size (MF.keep q3 (fun x hx e=>hbD (e▸hx)) (fun _ h=>h) i.size _ _ G1 hb2 g2) (MF.keep q3 (fun x hx e=>hbD (e▸hx)) (fun _ h=>h) i.size _ _ [] (by simp) hc)
    refine ⟨.slice (some ⟨b',0,none⟩) (n+m) cap,w',(b'::G1)++(Ω1++Ω2),r,?_,?_,⟨⟨b'::G1,Ω1++Ω2,rfl,.inl ⟨b',_,T,fz,G1,h1,q2,?_,?_,by omega,rfl,?_⟩,hdl w' D (fun x=>x≠b') q3 (fun x hx e=>hbD (e▸hx)) (fun _ h=>h) hb1⟩,hnd',?_,fun x hx=>h.dj x (hin x hx),fun x hx=>Nat.lt_of_lt_of_le (h.ds x hx) q3.size⟩,
     ⟨fun _ h=>h,fun _ _ h=> .inl h,fun x hx _ => hin x hx,q3.mono fun x _ hx e=>hx (e▸hbΩ),q4,q5,q6⟩⟩
    ·rw[hrun];simp only[X6,Nat.zero_add]
     rw[q1];rfl
    ·simp only[MV]
     exact ⟨trivial,.inl ⟨b',cap,_,T,fz,h1,by simp,hroom,q2,by rw[YN];exact h5⟩⟩
    ·unfold Thaw at *;rw[YN];exact k3
    ·rw[YN,hlen,Nat.add_mul,←hcl];exact hfit
    ·rw[hlen,Nat.add_zero,YF cs c _ hfit]
     have hl1:(c.toList.take (n * i.size)).length = n * i.size:=by simp;omega
     have e2:((c.toList.take (n * i.size))++(cs++c.toList.drop (n * i.size+cs.length))).take ((n+m) * i.size)=c.toList.take (n * i.size)++cs:=by
      rw[←List.append_assoc]
      have:(n+m) * i.size=(c.toList.take (n * i.size)++cs).length := by rw[List.length_append,hl1,hcl,Nat.add_mul]
      rw[this];exact List.take_left
     rw[e2]
     simpa using hMF
    ·simp only[names,List.map_cons,List.nodup_cons]
     exact ⟨names_hdel_not H r h.nn,h.nn.sublist (Yn H r)⟩
   ·simp only[Value.slice.injEq] at h2
    obtain ⟨rfl,rfl,rfl⟩:=h2
    have hm0:m=0:=by omega
    subst hm0
    have hfs:fs=[]:=List.eq_nil_of_length_eq_zero hm
    have hcs:cs=[]:=List.eq_nil_of_length_eq_zero (by have:=hs.2.1;simpa using this)
    subst hfs hcs
    obtain ⟨Ω',c1,c2⟩:=h.cut hr 0
    refine ⟨.slice a0 0 0,w,Ω',r,?_,by simpa using hv',by simpa using c1,c2⟩
    rw[hrun]
    cases a0<;>rfl
 ·have hrun:=run_append_more (ty:=ty) (base:=a0) ht hu hnu hi hz hs ho (by omega) hb h63
  obtain ⟨Ω',c1,c2⟩:=h.move (es:=es) (fs:=fs) hr (n:=n) e (os:=os) (cs:=cs) (rest:=(Builtin.zeroCells z.cells (grownCap w (n+m) cap e-(n+m))).toList) hoM hc (by omega)
  have e1:os.toArray++cs.toArray++Builtin.zeroCells z.cells (grownCap w (n+m) cap e-(n+m))=(os++(cs++(Builtin.zeroCells z.cells (grownCap w (n+m) cap e-(n+m))).toList)).toArray := by
   apply Array.ext';simp
  rw[e1] at hrun
  have hge:=grownCap_ge w (n+m) cap e
  refine ⟨_,_,Ω',_,hrun,?_,c1,c2⟩
  simp only[MV]
  refine ⟨trivial,.inl ⟨w.heap.size,_,_,e,(0,0),rfl,by simp,hge,hp_new w.drew _,?_⟩⟩
  simp only[Nat.zero_add,List.size_toArray,List.length_append,ho.2.1,hs.2.1,Array.length_toList,size_zeroCells,hzs]
  rw[←Nat.add_mul,←Nat.add_mul]
  exact Nat.mul_le_mul_right _ (by omega)
end Go.Gh
namespace Go.Gh
inductive GE where
 | t (n:Nat)
 | k (g:GV)
inductive GOp where
 | mov (x:GE)
 | pick (c a b:GE)
 | box (n:Nat) (x:GE)
 | boxro (n:Nat) (x:GE)
 | alloc (n:Nat) (z:GV)
 | allocr (n:Nat)
 | loadr (n:Nat) (ag:Bool) (a:GE)
 | build (z:List GV) (ps:List (Nat×Nat×GE))
 | bslice (sz:Nat) (z:List GV) (len:Nat) (ag:Bool) (ps:List (Nat×GE))
 | bslro (sz:Nat) (z:List GV) (len:Nat) (ag:Bool) (ps:List (Nat×GE))
 | load (n:Nat) (ag:Bool) (a:GE)
 | store (n:Nat) (a x:GE)
 | stro (n:Nat) (t:Nat) (x:GE)
 | strb (n:Nat) (t:Nat) (x:GE)
 | bin (op:BinOp) (x y:GE)
 | beq (neg:Bool) (x y:GE)
 | aeq (neg:Bool) (ks:List Nat) (x y:GE)
 | not (x:GE)
 | neg (x:GE)
 | conv (k:IntKind) (x:GE)
 | mkfn (f:Nat) (cs:List GE)
 | mkslice (sz bytes:Nat) (z:GV) (l c:GE)
 | slc (sz:Nat) (x:GE) (lo hi:Option GE)
 | sslc (x:GE) (lo hi:Option GE)
 | faddr (off n:Nat) (ag:Bool) (x:GE)
 | field (off n:Nat) (ag:Bool) (x:GE)
 | iaddr (sz:Nat) (x i:GE)
 | idx (x i:GE)
 | aidx (len:Nat) (x i:GE)
 | ext (x:GE) (i:Nat)
 | call (det:Bool) (f:Nat) (xs:List GE)
 | callv (det:Bool) (x:GE) (xs:List GE)
 | calla (f:Nat) (xs:List GE)
 | callva (x:GE) (xs:List GE)
 | len (x:GE)
 | slen (x:GE)
 | isnil (neg:Bool) (x:GE)
 | ifnil (neg:Bool) (x:GE)
 | b2s (x:GE)
 | append (sz bytes:Nat) (s x:GE)
 | ldx (n:Nat) (ag:Bool) (a b:Nat)
 | appx (ks:List Nat) (sz bytes:Nat) (s x:GE)
 | callk (ks:List Nat) (f:Nat) (xs:List GE)
 | gidx (g n:Nat) (i:GE)
 | gsl (g n:Nat)
 | ldf (n:Nat) (ag:Bool) (a b o:Nat)
 | callf (b o f:Nat) (xs:List GE)
 | copy (sz:Nat) (d s:GE)
 | clr (sz:Nat) (x:GE)
 | mx (x y:GE)
 | mn (x y:GE)
 | nck (x:GE)
abbrev uG:GV:= .val undef
abbrev mkS (l:List UInt8):Value:= .string ⟨l.toArray⟩
abbrev Z9 (s:ByteArray):List UInt8:=s.data.toList
def Yld (P:Program) (R:Value→World→Prop):Result Next→Prop
 | .ok (.value v) w'=>R v w'
 | .ok .skip w'=>R undef w'
 | .ok (.enter f args) w'=>Calls P f args w' (fun e w''=>∃v,e = .returned v∧R v w'')
 | _ => False
def Post (w:World) (D:Nat→Prop) (Ω:List Nat) (K:GV→GH→Prop) (v:Value) (w':World):Prop:=
 ∃g H' D' Ω',K g H'∧MV w' D' g v []∧St w' D' H' Ω'∧Ev w D Ω w' D' Ω'
def GCalls (P:Program) (f:FuncId) (gs:List GV) (H:GH) (R:GV→GH→Prop):Prop:=
 ∀(w:World) (D:Nat→Prop) (Ω:List Nat) (args:List Value),St w D H Ω→ML w D gs args []→Yld P (Post w D Ω R) ((callFunc f args.toArray).run P w)
def Z3 (x:Option GV) (k:GV→Prop):Prop:=
 match x with
 | some g=>k g
 | none=>False
def Zi (ρ:GE→Option GV):List GE→Option (List GV)
 | []=>some []
 | x::xs=>match ρ x,Zi ρ xs with
  | some g,some gs=>some (g::gs)
  | _,_ => none
def Yz (op:BinOp) (a b:Value) (k:Value→Prop):Prop:=
 match a,b with
 | .int j x,.int j' y=>
  j=j'∧match op with
  | .add => k (.int j (j.wrap (x+y)))
  | .sub => k (.int j (j.wrap (x-y)))
  | .mul => k (.int j (j.wrap (x * y)))
  | .quo => y≠0∧k (.int j (j.wrap (x.tdiv y)))
  | .rem => y≠0∧k (.int j (x.tmod y))
  | .and => k (.int j (j.wrap (BitVec.ofInt j.bits x &&& BitVec.ofInt j.bits y).toNat))
  | .or => k (.int j (j.wrap (BitVec.ofInt j.bits x ||| BitVec.ofInt j.bits y).toNat))
  | .xor => k (.int j (j.wrap (BitVec.ofInt j.bits x ^^^ BitVec.ofInt j.bits y).toNat))
  | .andNot => k (.int j (j.wrap (BitVec.ofInt j.bits x &&& ~~~(BitVec.ofInt j.bits y)).toNat))
  | .eql => k (.bool (decide (x=y)))
  | .neq => k (.bool (!decide (x=y)))
  | .lss => k (.bool (decide (x<y)))
  | .leq => k (.bool (decide (x≤y)))
  | .gtr => k (.bool (decide (y<x)))
  | .geq => k (.bool (decide (y≤x)))
  | _ => False
 | .string x,.string y=>match op with
  | .add => (Z9 x).length + (Z9 y).length ≤ 9223372036854775807∧k (mkS (Z9 x++Z9 y))
  | .eql => k (.bool (decide (Z9 x=Z9 y)))
  | .neq => k (.bool (!decide (Z9 x=Z9 y)))
  | .lss => k (.bool (Op.bytesLess (Z9 x) (Z9 y)))
  | _ => False
 | _,_ => False
def shiftV (op:BinOp) (a b:Value) (k:Value→Prop):Prop:=
 match a,b with
 | .int j x,.int _ y=>0≤y∧match op with
  | .shl => k (.int j (j.wrap (x * 2 ^ (min y.toNat j.bits))))
  | .shr => k (.int j (x.fdiv (2 ^ (min y.toNat j.bits))))
  | _ => False
 | _,_ => False
def isShift:BinOp→Bool
 | .shl | .shr => true
 | _ => false
def bnd (ρ:GE→Option GV) (x:Option GE) (d:Int):Option Int:=
 match x with
 | none=>some d
 | some e=>match ρ e with
  | some (.val (.int _ n))=>some n
  | _ => none
def ceq (k:Nat) (a b:GV):Option Bool:=
 match k,a,b with
 | 1,.val (.int j x),.val (.int j' y)=>if j=j' then some (decide (x=y)) else none
 | 2,.val (.string x),.val (.string y)=>some (decide (Z9 x=Z9 y))
 | 0,.val (.bool x),.val (.bool y)=>some (decide (x=y))
 | _,_,_ => none
def YL:List Nat→List GV→List GV→Option Bool
 | [],[],[]=>some true
 | k::ks,a::as,b::bs=>match ceq k a b,YL ks as bs with
  | some x,some y=>some (x&&y)
  | _,_ => none
 | _,_,_ => none
def fillG:List GV→List (Nat×Nat×GV)→Option (List GV)
 | gs,[]=>some gs
 | gs,(off,n,g)::ps=>match upd (.agg gs) off g with
  | some (.agg gs')=>if gsize g=n∧ZI g=true then fillG gs' ps else none
  | _ => none
def YV (ρ:GE→Option GV):List (Nat×Nat×GE)→Option (List (Nat×Nat×GV))
 | []=>some []
 | (a,b,x)::xs=>match ρ x,YV ρ xs with
  | some g,some gs=>some ((a,b,g)::gs)
  | _,_ => none
def Zn (ρ:GE→Option GV):List (Nat×GE)→Option (List (Nat×GV))
 | []=>some []
 | (a,x)::xs=>match ρ x,Zn ρ xs with
  | some g,some gs=>some ((a,g)::gs)
  | _,_ => none
def Yq (sz:Nat) (ag:Bool):Nat→List (Nat×GV)→Option (List GV)
 | _,[]=>some []
 | i,(j,g)::ps=>if i=j∧gsize g=sz∧isAgg g=ag∧ZI g=true then (Yq sz ag (i+1) ps).map (g :: ·) else none
def Y2 (sz:Nat) (H:GH):GV→Option (List GV)
 | .sl sz' es=>if sz=sz' then some es else none
 | .own r sz' k n=>match Z6 H r with
  | some (sz'',es)=>if sz=sz'∧sz=sz''∧k+n≤es.length∧Yk ((es.drop k).take n)=true then some ((es.drop k).take n) else none
  | none=>none
 | .val (.slice none 0 0)=>some []
 | .val (.string s)=>if sz=1 then some ((Z9 s).map fun b=> .val (.int .u8 b.toNat)) else none
 | _ => none
def Ye:List GV→Option (List UInt8)
 | []=>some []
 | .val (.int .u8 n)::fs=>(Ye fs).map (UInt8.ofNat n.toNat :: ·)
 | _ => none
def isStrG:GV→Bool
 | .val (.string _)=>true
 | _ => false
def Z5 (P:Program) (o:GOp) (ρ:GE→Option GV) (H:GH) (K:GV→GH→Prop):Prop:=
 match o with
 | .mov x=>Z3 (ρ x) fun g=>K g H
 | .pick c a b=>Z3 (ρ c) fun
  | .val (.bool t)=>(t=true→Z3 (ρ a) fun g=>K g H)∧(t=false→Z3 (ρ b) fun g=>K g H)
  | _ => False
 | .box n x=>Z3 (ρ x) fun g=>ZI g=true∧gsize g=n∧∀r,(names ((r,n,[g])::H)).Nodup → K (.ptr r n 0 0) ((r,n,[g])::H)
 | .boxro n x=>Z3 (ρ x) fun g=>ZI g=true∧gsize g=n∧K (.rop n g) H
 | .alloc n z=>∀r,(names ((r,n,[z])::H)).Nodup → K (.ptr r n 0 0) ((r,n,[z])::H)
 | .build z ps=>match YV ρ ps with
  | some qs=>match fillG z qs with
   | some gs=>K (.agg gs) H
   | none=>False
  | none=>False
 | .bslice sz _ len ag ps=>match Zn ρ ps with
  | some qs=>match Yq sz ag 0 qs with
   | some es=>es.length=len∧∀r,(names ((r,sz,es)::H)).Nodup → K (.own r sz 0 len) ((r,sz,es)::H)
   | none=>False
  | none=>False
 | .bslro sz _ len ag ps=>match Zn ρ ps with
  | some qs=>match Yq sz ag 0 qs with
   | some es=>es.length=len∧K (.sl sz es) H
   | none=>False
  | none=>False
 | .load n ag a=>Z3 (ρ a) fun
  | .rop sz g=>sz=n∧isAgg g=ag∧K g H
  | .ptr r sz i o=>match Z6 H r with
   | some (sz',es)=>match es[i]? with
    | some e=>match Yd e sz o n ag with
     | some g=>sz'=sz∧clean g=true∧K g H
     | none=>False
    | none=>False
   | none=>False
  | _ => False
 | .store n a x=>Z3 (ρ a) fun
  | .ptr r sz i o=>Z3 (ρ x) fun g=>match Z6 H r with
   | some (sz',es)=>match es[i]? with
    | some e=>match pstores e sz o n g with
     | some e'=>sz'=sz∧gsize g=n∧ZI g=true∧K uG (Z1 H r (es.set i e'))
     | none=>False
    | none=>False
   | none=>False
  | _ => False
 | .allocr _ => False
 | .stro _ _ _ => False
 | .strb _ _ _ => False
 | .appx _ _ _ _ _ => False
 | .callk _ _ _ => False
 | .ldx _ _ _ _ => False
 | .ldf _ _ _ _ _ => False
 | .callf _ _ _ _ => False
 | .gidx g len i=>Z3 (ρ i) fun
  | .val (.int _ n)=>match Z6 H (4 * g+3) with
   | some (sz,[])=>match (tabW sz)[n.toNat]? with
    | some u=>1000010≤sz∧0≤n∧n<len∧K (.rop 1 (.val (.string u))) H
    | none=>False
   | _ => False
  | _ => False
 | .gsl g len=>match Z6 H (4 * g+3) with
  | some (sz,[])=>1000010≤sz∧(tabW sz).length = len∧K (.sl 1 ((tabW sz).map fun u=> .val (.string u))) H
  | _ => False
 | .loadr n ag a=>Z3 (ρ a) fun
  | .rop sz g=>sz=n∧isAgg g=ag∧K g H
  | _ => False
 | .bin op x y=>Z3 (ρ x) fun
  | .val a=>Z3 (ρ y) fun
   | .val b=>if isShift op then shiftV op a b fun v=>K (.val v) H else Yz op a b fun v=>K (.val v) H
   | _ => False
  | _ => False
 | .beq neg x y=>Z3 (ρ x) fun
  | .val (.bool a)=>Z3 (ρ y) fun
   | .val (.bool b)=>K (.val (.bool (if neg then !decide (a=b) else decide (a=b)))) H
   | _ => False
  | _ => False
 | .aeq neg ks x y=>Z3 (ρ x) fun
  | .agg as=>Z3 (ρ y) fun
   | .agg bs=>match YL ks as bs with
    | some t=>K (.val (.bool (if neg then !t else t))) H
    | none=>False
   | _ => False
  | _ => False
 | .not x=>Z3 (ρ x) fun
  | .val (.bool b)=>K (.val (.bool !b)) H
  | _ => False
 | .neg x=>Z3 (ρ x) fun
  | .val (.int j n)=>K (.val (.int j (j.wrap (0-n)))) H
  | _ => False
 | .conv k x=>Z3 (ρ x) fun
  | .val (.int _ n)=>K (.val (.int k (k.wrap n))) H
  | _ => False
 | .mkfn f cs=>match Zi ρ cs with
  | some gs=>K (.clo f gs) H
  | none=>False
 | .mkslice sz bytes z l c=>Z3 (ρ l) fun
  | .val (.int _ a)=>Z3 (ρ c) fun
   | .val (.int _ b)=>0≤a∧a≤b∧(bytes:Int) * b≤281474976710656∧b≤281474976710656 ∧
    ∀r,(names ((r,sz,List.replicate a.toNat z)::H)).Nodup → K (.own r sz 0 a.toNat) ((r,sz,List.replicate a.toNat z)::H)
   | _ => False
  | _ => False
 | .slc sz x lo hi=>Z3 (ρ x) fun
  | .sl sz' es=>match bnd ρ lo 0,bnd ρ hi es.length with
   | some l,some h=>sz=sz'∧0≤l∧l≤h∧h≤es.length∧K (.sl sz ((es.take h.toNat).drop l.toNat)) H
   | _,_ => False
  | .own r sz' k n=>match bnd ρ lo 0,bnd ρ hi n with
   | some l,some h=>sz=sz'∧0≤l∧l≤h∧h≤n∧K (.own r sz (k+l.toNat) (h-l).toNat) H
   | _,_ => False
  | _ => False
 | .sslc x lo hi=>Z3 (ρ x) fun
  | .val (.string s)=>match bnd ρ lo 0,bnd ρ hi (Z9 s).length with
   | some l,some h=>0≤l∧l≤h∧h≤(Z9 s).length ∧ K (.val (mkS (((Z9 s).take h.toNat).drop l.toNat))) H
   | _,_ => False
  | _ => False
 | .faddr off n ag x=>Z3 (ρ x) fun
  | .rop _ g=>match sub g off n ag with
   | some g'=>K (.rop n g') H
   | none=>False
  | .ptr r sz i o=>K (.ptr r sz i (o+off)) H
  | _ => False
 | .field off n ag x=>Z3 (ρ x) fun g=>match sub g off n ag with
  | some g'=>K g' H
  | none=>False
 | .iaddr sz x i=>Z3 (ρ i) fun
  | .val (.int _ n)=>Z3 (ρ x) fun
   | .sl sz' es=>match es[n.toNat]? with
    | some e=>sz=sz'∧0≤n∧K (.rop sz e) H
    | none=>False
   | .own r sz' k m=>sz=sz'∧0≤n∧n<m∧K (.ptr r sz (k+n.toNat) 0) H
   | _ => False
  | _ => False
 | .idx x i=>Z3 (ρ i) fun
  | .val (.int _ n)=>Z3 (ρ x) fun
   | .val (.string s)=>match (Z9 s)[n.toNat]? with
    | some b=>0≤n∧K (.val (.int .u8 b.toNat)) H
    | none=>False
   | _ => False
  | _ => False
 | .aidx len x i=>Z3 (ρ i) fun
  | .val (.int _ n)=>Z3 (ρ x) fun
   | .agg gs=>match gs[n.toNat]? with
    | some g=>0≤n∧n<len∧K g H
    | none=>False
   | _ => False
  | _ => False
 | .ext x i=>Z3 (ρ x) fun
  | .tup gs=>match gs[i]? with
   | some g=>K g H
   | none=>False
  | _ => False
 | .call det f xs=>match Zi ρ xs with
  | some gs=>if det then ∃G,GCalls P f gs H (fun g H'=>g=G∧H'=H)∧K G H else ∃R,GCalls P f gs H R∧∀g H',R g H'→(names H').Nodup → K g H'
  | none=>False
 | .callv det x xs=>Z3 (ρ x) fun
  | .clo f cs=>match Zi ρ xs with
   | some gs=>if det then ∃G,GCalls P f (gs++cs) H (fun g H'=>g=G∧H'=H)∧K G H else ∃R,GCalls P f (gs++cs) H R∧∀g H',R g H'→(names H').Nodup → K g H'
   | none=>False
  | _ => False
 | .calla f xs=>match Zi ρ xs with
  | some gs=>∃R:GV→GH→Prop,GCalls P f gs H (fun g H'=>∃H1,R g H1∧H'=H1++H)∧∀g H1,R g H1→(names (H1++H)).Nodup → K g (H1++H)
  | none=>False
 | .callva x xs=>Z3 (ρ x) fun
  | .clo f cs=>match Zi ρ xs with
   | some gs=>∃R:GV→GH→Prop,GCalls P f (gs++cs) H (fun g H'=>∃H1,R g H1∧H'=H1++H)∧∀g H1,R g H1→(names (H1++H)).Nodup → K g (H1++H)
   | none=>False
  | _ => False
 | .len x=>Z3 (ρ x) fun
  | .sl _ es=>K (.val (.int .i64 es.length)) H
  | .own _ _ _ n=>K (.val (.int .i64 n)) H
  | .val (.slice none 0 0)=>K (.val (.int .i64 0)) H
  | _ => False
 | .isnil neg x=>Z3 (ρ x) fun
  | .val (.slice none 0 0)=>K (.val (.bool (!neg))) H
  | .sl _ es=>if es.isEmpty then K (.val (.bool true)) H∧K (.val (.bool false)) H else K (.val (.bool neg)) H
  | .own _ _ _ n=>if n=0 then K (.val (.bool true)) H∧K (.val (.bool false)) H else K (.val (.bool neg)) H
  | _ => False
 | .ifnil neg x=>Z3 (ρ x) fun
  | .val .nilIface => K (.val (.bool (!neg))) H
  | .val (.iface _ _)=>K (.val (.bool neg)) H
  | _ => False
 | .b2s x=>Z3 (ρ x) fun gx=>match Y2 1 H gx with
  | some fs=>match Ye fs with
   | some l=>isStrG gx=false∧K (.val (mkS l)) H
   | none=>False
  | none=>False
 | .slen x=>Z3 (ρ x) fun
  | .val (.string s)=>K (.val (.int .i64 (Z9 s).length)) H
  | _ => False
 | .append sz bytes s x=>Z3 (ρ x) fun gx=>match Y2 sz H gx with
  | some fs=>Z3 (ρ s) fun
   | .val (.slice none 0 0)=>fs.length * bytes≤140737488355328∧fs.length≤Y9∧∀r,(names ((r,sz,fs)::H)).Nodup → K (.own r sz 0 fs.length) ((r,sz,fs)::H)
   | .own r sz' 0 n=>match Z6 H r with
    | some (sz'',es)=>sz=sz'∧sz=sz''∧n≤es.length∧(n+fs.length) * bytes≤140737488355328∧n+fs.length≤Y9 ∧
     ∀r',(names ((r',sz,es.take n++fs)::ZL H r)).Nodup → K (.own r' sz 0 (n+fs.length)) ((r',sz,es.take n++fs)::ZL H r)
    | none=>False
   | _ => False
  | none=>False
 | .copy sz d s=>Z3 (ρ s) fun gs=>match Y2 sz H gs with
  | some fs=>Z3 (ρ d) fun
   | .own r sz' 0 n=>match Z6 H r with
    | some (sz'',es)=>sz=sz'∧sz=sz''∧n≤es.length ∧
     K (.val (.int .i64 (min fs.length n:Nat))) (Z1 H r (fs.take n++es.drop (min fs.length n)))
    | none=>False
   | _ => False
  | none=>False
 | .clr sz x=>Z3 (ρ x) fun
  | .own r sz' k n=>match Z6 H r with
   | some (sz'',es)=>sz=sz'∧sz=sz''∧k+n≤es.length∧K uG (Z1 H r (es.take k))
   | none=>False
  | _ => False
 | .mx x y=>Z3 (ρ x) fun
  | .val (.int j a)=>Z3 (ρ y) fun
   | .val (.int j' b)=>j=j'∧K (.val (.int j (if a<b then b else a))) H
   | _ => False
  | _ => False
 | .mn x y=>Z3 (ρ x) fun
  | .val (.int j a)=>Z3 (ρ y) fun
   | .val (.int j' b)=>j=j'∧K (.val (.int j (if b<a then b else a))) H
   | _ => False
  | _ => False
 | .nck x=>Z3 (ρ x) fun
  | .rop sz g=>K (.rop sz g) H
  | .ptr r sz i o=>K (.ptr r sz i o) H
  | .clo f cs=>K (.clo f cs) H
  | _ => False
structure GI where
 dst:Option Nat
 guard:Option (Nat×Bool)
 op:GOp
def ge (env:Env):GE→Option GV
 | .t n=>match ZU env n with
  | some (.raw _)=>none
  | x=>x
 | .k g=>some g
def gput (env:Env):Option Nat→GV→Env
 | some d,g=>eset env d g
 | none,_ => env
def nx1 (a s:Option GV):Prop:=
 match a,s with
 | some (.ptr q _ _ _),some (.own r _ _ _)=>¬q=r
 | _,_ => True
def nxs (env:Env) (s:Option GV):List Nat→Prop
 | []=>True
 | a::l=>nx1 (ZU env a) s∧nxs env s l
def kpt1 (a:Option GV) (H H':GH):Prop:=
 match a with
 | some (.ptr q _ _ _)=>Z6 H' q=Z6 H q
 | _ => True
def kpt (env:Env) (H H':GH):List Nat→Prop
 | []=>True
 | a::l=>kpt1 (ZU env a) H H'∧kpt env H H' l
def rg1 (a b:Option GV):Prop:=
 match a,b with
 | some (.ptr q _ _ _),some (.ptr r _ _ _)=>q=r
 | some (.ptr _ _ _ _),_ => False
 | _,_ => True
def fldV (h:Option (Nat×List GV)) (sz i o n:Nat) (ag:Bool):Option GV:=
 match h with
 | some (sz',es)=>if sz'=sz then match es[i]? with
  | some e=>Yd e sz o n ag
  | none=>none else none
 | none=>none
def kptF (b:Option GV) (o:Nat) (H H':GH):Prop:=
 match b with
 | some (.ptr q z i _)=>∀n ag,fldV (Z6 H' q) z i o n ag=fldV (Z6 H q) z i o n ag
 | _ => True
def rgF (a b:Option GV) (o:Nat):Prop:=
 match a,b with
 | some (.ptr q z i k),some (.ptr r y j _)=>q=r∧z=y∧i=j∧k=o
 | some (.ptr _ _ _ _),_ => False
 | _,_ => True
def ZY (P:Program) (o:GOp) (env:Env) (H:GH) (K:GV→GH→Prop):Prop:=
 match o with
 | .allocr n=>K (.raw n) H
 | .strb n t x=>match ZU env t with
  | some (.raw m)=>Z3 (ge env x) fun g=>m=n∧gsize g=n∧ZI g=true∧∀r,(names ((r,n,[g])::H)).Nodup → K (.ptr r n 0 0) ((r,n,[g])::H)
  | some (.ptr r sz 0 0)=>Z3 (ge env x) fun g=>match Z6 H r with
   | some (sz',[_])=>sz=n∧sz'=n∧gsize g=n∧ZI g=true∧K (.ptr r n 0 0) (Z1 H r [g])
   | _ => False
  | _ => False
 | .ldx n ag a b=>rg1 (ZU env a) (ZU env b)∧Z5 P (.load n ag (.t a)) (ge env) H K
 | .ldf n ag a b o=>rgF (ZU env a) (ZU env b) o∧Z5 P (.load n ag (.t a)) (ge env) H K
 | .callf b o f xs=>match Zi (ge env) xs with
  | some gs=>∃R,GCalls P f gs H R∧∀g H',R g H'→(names H').Nodup → kptF (ZU env b) o H H'∧K g H'
  | none=>False
 | .appx ks sz bytes s x=>nxs env (ge env s) ks∧Z5 P (.append sz bytes s x) (ge env) H K
 | .callk ks f xs=>match Zi (ge env) xs with
  | some gs=>∃R,GCalls P f gs H R∧∀g H',R g H'→(names H').Nodup → kpt env H H' ks∧K g H'
  | none=>False
 | .stro n t x=>match ZU env t with
  | some (.raw m)=>Z3 (ge env x) fun g=>m=n∧gsize g=n∧ZI g=true∧K (.rop n g) H
  | _ => False
 | o=>Z5 P o (ge env) H K
def ZM (guard:Option (Nat×Bool)) (env:Env) (A B:Prop):Prop:=
 match guard with
 | none=>A
 | some (t,want)=>match ZU env t with
  | some (.val (.bool b))=>(b=want→A)∧(b = !want → B)
  | some (.val (.tuple _))=>B
  | _ => False
def ZP (P:Program) (i:GI) (K:Env→GH→Prop) (env:Env) (H:GH):Prop:=
 ZM i.guard env (ZY P i.op env H fun g H'=>K (gput env i.dst g) H') (K (gput env i.dst uG) H)
def Z7 (P:Program):List GI→(Env→GH→Prop)→Env→GH→Prop
 | [],K,env,H=>K env H
 | i::is,K,env,H=>ZP P i (Z7 P is K) env H
end Go.Gh
namespace Go.Gh
def ZQ:Operand→Option GE
 | .tmp t=>some (.t t)
 | .const v=>some (.k (.val v))
 | .func f=>some (.k (.clo f []))
 | .global _ => none
def compEs:List Operand→Option (List GE)
 | []=>some []
 | x::xs=>match ZQ x,compEs xs with
  | some e,some es=>some (e::es)
  | _,_ => none
def compO:Option Operand→Option (Option GE)
 | none=>some none
 | some x=>(ZQ x).map some
def zeroG:Value→GV
 | .agg cs=> .agg (cs.toList.map .val)
 | v=> .val v
def cellOk (v:Value):Bool:=v.cells.all (·.oneCell')
def cBox (P:Program) (ro:Bool) (t:TypeId) (x:Operand):Option GOp:=
 match ZQ x with
 | some e=>match P.info? t with
  | some i=>some (if ro then .boxro i.size e else .box i.size e)
  | none=>none
 | none=>none
def cAlloc (P:Program) (ro:Bool) (t:TypeId):Option GOp:=
 match P.info? t with
 | some i=>match i.zero with
  | some z=>if z.cells.size=i.size∧cellOk z=true then some (if ro then .allocr i.size else .alloc i.size (zeroG z)) else none
  | none=>none
 | none=>none
def cLoad (P:Program) (lro:Bool) (t:TypeId) (x:Operand):Option GOp:=
 match ZQ x with
 | some e=>match P.underlying t with
  | some d=>match P.info? t with
   | some i=>some (if lro then .loadr i.size (aggD d) e else .load i.size (aggD d) e)
   | none=>none
  | none=>none
 | none=>none
def cStore (P:Program) (ro:List Nat) (t:TypeId) (a x:Operand):Option GOp:=
 match ZQ x with
 | some ex=>match P.info? t with
  | some i=>match a with
   | .tmp s=>some (if ro.contains s then .stro i.size s ex else .store i.size (.t s) ex)
   | _ => none
  | none=>none
 | none=>none
mutual
def scalT (P:Program):Nat→TypeId→Option (List Nat)
 | 0,_ => none
 | d+1,t=>match P.underlying t with
  | some .bool => some [0]
  | some (.int _)=>some [1]
  | some .string => some [2]
  | some (.struct fs)=>if P.stoodInHeld t then none else scalF P d 0 fs.toList
  | _ => none
def scalF (P:Program):Nat→Nat→List Field→Option (List Nat)
 | _,_,[]=>some []
 | 0,_,_ :: _ => none
 | d+1,n,f::fs=>if f.name = "_" ∨ f.offset≠n then none else
  match scalT P d f.type,P.info? f.type with
  | some ks,some i=>if i.size=ks.length then
   match scalF P d (n+ks.length) fs with
   | some ks'=>some (ks++ks')
   | none=>none
   else none
  | _,_ => none
end
def cBin (P:Program) (op:BinOp) (t:TypeId) (x y:Operand):Option GOp:=
 match ZQ x,ZQ y with
 | some ex,some ey=>match P.underlying t with
  | some (.int _)=>some (.bin op ex ey)
  | some .string => some (.bin op ex ey)
  | some .bool => match op with
   | .eql => some (.beq false ex ey)
   | .neq => some (.beq true ex ey)
   | _ => none
  | some (.slice _)=>match y with
   | .const (.slice none 0 0)=>match op with
    | .eql => some (.isnil false ex)
    | .neq => some (.isnil true ex)
    | _ => none
   | _ => none
  | some (.interface _)=>match y with
   | .const .nilIface => match op with
    | .eql => some (.ifnil false ex)
    | .neq => some (.ifnil true ex)
    | _ => none
   | _ => none
  | some (.struct _)=>match scalT P 60 t with
   | some ks=>if P.eqGuardType P.depth t then none else match op with
    | .eql => some (.aeq false ks ex ey)
    | .neq => some (.aeq true ks ex ey)
    | _ => none
   | none=>none
  | _ => none
 | _,_ => none
def cConv (P:Program) (s d:TypeId) (x:Operand):Option GOp:=
 match ZQ x with
 | some e=>match P.underlying s with
  | some _ => match P.underlying d with
   | some (.int k)=>some (.conv k e)
   | some .string => match P.underlying s with
    | some (.slice el)=>match P.underlying el with
     | some (.int .u8)=>some (.b2s e)
     | _ => none
    | _ => none
   | _ => none
  | none=>none
 | none=>none
def cMake (P:Program) (t:TypeId) (l c:Operand):Option GOp:=
 match ZQ l,ZQ c with
 | some el,some ec=>match P.underlying t with
  | some (.slice e)=>match P.info? e with
   | some i=>match i.zero with
    | some z=>if z.cells.size=i.size∧cellOk z=true∧0<i.size then some (.mkslice i.size i.bytes (zeroG z) el ec) else none
    | none=>none
   | none=>none
  | _ => none
 | _,_ => none
def cSlice (P:Program) (t:TypeId) (x:Operand) (lo hi:Option Operand):Option GOp:=
 match ZQ x,compO lo,compO hi with
 | some ex,some el,some eh=>match P.underlying t with
  | some (.slice e)=>match P.info? e with
   | some i=>some (.slc i.size ex el eh)
   | none=>none
  | some .string => some (.sslc ex el eh)
  | _ => none
 | _,_,_ => none
def cField (P:Program) (addr:Bool) (t:TypeId) (x:Operand) (f:Nat):Option GOp:=
 match ZQ x with
 | some e=>match P.underlying t with
  | some (.struct fs)=>match fs[f]? with
   | some fd=>match P.underlying fd.type with
    | some d=>match P.info? fd.type with
     | some i=>if i.size=0 then none else some (if addr then .faddr fd.offset i.size (aggD d) e else .field fd.offset i.size (aggD d) e)
     | none=>none
    | none=>none
   | none=>none
  | _ => none
 | none=>none
def cIndexAddr (P:Program) (t:TypeId) (x i:Operand):Option GOp:=
 match ZQ x,ZQ i with
 | some ex,some ei=>match P.underlying t with
  | some (.slice e)=>match P.info? e with
   | some ie=>some (.iaddr ie.size ex ei)
   | none=>none
  | _ => none
 | _,_ => none
def cIndex (P:Program) (t:TypeId) (x i:Operand):Option GOp:=
 match ZQ x,ZQ i with
 | some ex,some ei=>match P.underlying t with
  | some .string => some (.idx ex ei)
  | some (.array n e)=>match P.underlying e with
   | some d=>match P.info? e with
    | some ie=>if aggD d=false∧ie.size=1 then some (.aidx n ex ei) else none
    | none=>none
   | none=>none
  | _ => none
 | _,_ => none
def compP:List (Nat×Operand)→Option (List (Nat×GE))
 | []=>some []
 | (i,x)::xs=>match ZQ x,compP xs with
  | some e,some es=>some ((i,e)::es)
  | _,_ => none
def compFP (P:Program) (fs:Array Field):List (Nat×Operand)→Option (List (Nat×Nat×GE))
 | []=>some []
 | (i,x)::xs=>match ZQ x,compFP P fs xs,fs[i]? with
  | some e,some es,some f=>match P.info? f.type with
   | some inf=>some ((f.offset,inf.size,e)::es)
   | none=>none
  | _,_,_ => none
def compAP (sz:Nat):List (Nat×Operand)→Option (List (Nat×Nat×GE))
 | []=>some []
 | (i,x)::xs=>match ZQ x,compAP sz xs with
  | some e,some es=>some ((i * sz,sz,e)::es)
  | _,_ => none
def cBuild (P:Program) (t:TypeId) (ps:Array (Nat×Operand)):Option GOp:=
 match P.underlying t with
 | some (.struct fs)=>match compFP P fs ps.toList with
  | some es=>match P.info? t with
   | some i=>match i.zero with
    | some (.agg cs)=>if cs.all (·.oneCell')&&fs.all (fun f=>(P.info? f.type).isSome) then some (.build (cs.toList.map .val) es) else none
    | _ => none
   | none=>none
  | none=>none
 | some (.array _ e)=>match P.info? e with
  | some ie=>match compAP ie.size ps.toList with
   | some es=>match P.info? t with
    | some i=>match i.zero with
     | some (.agg cs)=>if cs.all (·.oneCell') then some (.build (cs.toList.map .val) es) else none
     | _ => none
    | none=>none
   | none=>none
  | none=>none
 | _ => none
def cBuildSlice (P:Program) (t:TypeId) (n:Nat) (ps:Array (Nat×Operand)):Option GOp:=
 match P.underlying t with
 | some (.slice e)=>match compP ps.toList with
  | some es=>match P.info? e with
   | some i=>match P.underlying e with
    | some d=>match i.zero with
     | some z=>if n * i.size≤16777216∧z.cells.size=i.size∧0<i.size then some (.bslice i.size [] n (aggD d) es) else none
     | none=>none
    | none=>none
   | none=>none
  | none=>none
 | _ => none
def roB:GOp→GOp
 | .bslice sz z len ag ps=> .bslro sz z len ag ps
 | o=>o
def cBuiltin (P:Program) (b:Builtin) (ts:List TypeId) (xs:List Operand):Option GOp:=
 match b,ts,xs with
 | .len,[t],[x]=>match ZQ x,P.underlying t with
  | some e,some (.slice _)=>some (.len e)
  | some e,some .string => some (.slen e)
  | _,_ => none
 | .append,[t,u],[s,x]=>match ZQ s,ZQ x with
  | some es,some ex=>match P.underlying t with
   | some (.slice e)=>match P.info? e with
    | some i=>match i.zero with
     | some z=>if z.cells.size=i.size then
      match P.underlying u with
      | some (.slice _)=>some (.append i.size i.bytes es ex)
      | some .string => some (.append i.size i.bytes es ex)
      | _ => none
      else none
     | none=>none
    | none=>none
   | _ => none
  | _,_ => none
 | .copy,[t,_],[d,s]=>match ZQ d,ZQ s with
  | some ed,some es=>match P.underlying t with
   | some (.slice e)=>match P.info? e with
    | some i=>some (.copy i.size ed es)
    | none=>none
   | _ => none
  | _,_ => none
 | .clear,[t],[x]=>match ZQ x with
  | some ex=>match P.underlying t with
   | some (.slice e)=>match P.info? e with
    | some i=>match i.zero with
     | some z=>if z.cells.size=i.size∧z.cells.all (·.oneCell')=true then some (.clr i.size ex) else none
     | none=>none
    | none=>none
   | _ => none
  | none=>none
 | .max,_,[x,y]=>match ZQ x,ZQ y with
  | some ex,some ey=>some (.mx ex ey)
  | _,_ => none
 | .min,_,[x,y]=>match ZQ x,ZQ y with
  | some ex,some ey=>some (.mn ex ey)
  | _,_ => none
 | _,_,_ => none
def cGidx (P:Program) (t:TypeId) (g:Nat) (i:Operand):Option GOp:=
 match ZQ i,P.underlying t with
 | some ei,some (.array n e)=>match P.info? e with
  | some ie=>if ie.size=1∧1<n then some (.gidx g n ei) else none
  | none=>none
 | _,_ => none
def cGsl (P:Program) (t:TypeId) (g:Nat):Option GOp:=
 match P.underlying t with
 | some (.array n e)=>match P.info? e with
  | some ie=>if ie.size=1 then some (.gsl g n) else none
  | none=>none
 | _ => none
def Zu (P:Program) (det lro:Bool) (ro:List Nat) (dst:Option Nat):Op→Option GOp
 | .move x=>(ZQ x).map .mov
 | .assign x=>(ZQ x).map .mov
 | .pick c a b=>match ZQ c,ZQ a,ZQ b with
  | some c,some a,some b=>some (.pick c a b)
  | _,_,_ => none
 | .box t x=>cBox P (dst.any ro.contains) t x
 | .alloc t=>cAlloc P (dst.any ro.contains) t
 | .load t x=>cLoad P lro t x
 | .store t a x=>cStore P ro t a x
 | .binOp op t x y _ => cBin P op t x y
 | .unOp .not _ x=>(ZQ x).map .not
 | .unOp .neg _ x=>(ZQ x).map .neg
 | .convert s d x=>cConv P s d x
 | .makeFunc (.func f) first cs=>if first.size=0 then (compEs cs.toList).map (.mkfn f) else none
 | .makeSlice t l c=>cMake P t l c
 | .slice t (.global g) none none none=>cGsl P t g
 | .slice t x lo hi none=>cSlice P t x lo hi
 | .fieldAddr t x f=>cField P true t x f
 | .field t x f=>cField P false t x f
 | .indexAddr t (.global g) i=>cGidx P t g i
 | .indexAddr t x i=>cIndexAddr P t x i
 | .index t x i=>cIndex P t x i
 | .extract x i=>(ZQ x).map (.ext · i)
 | .nilCheck x=>(ZQ x).map .nck
 | .build t ps=>cBuild P t ps
 | .buildSlice t n ps=>(cBuildSlice P t n ps).map fun go=>if dst.any (fun d=>ro.contains (d+3000000)) then roB go else go
 | .call { callee:= .value (.func f),args,.. }=>(compEs args.toList).map (.call det f)
 | .call { callee:= .value x,args,.. }=>match ZQ x,compEs args.toList with
  | some e,some es=>some (.callv det e es)
  | _,_ => none
 | .call { callee:= .builtin b,args,argTypes }=>cBuiltin P b argTypes.toList args.toList
 | _ => none
end Go.Gh
namespace Go.Gh
def OM (w:World) (D:Nat→Prop) (η:Operand→Value) (ρ:GE→Option GV):Prop:=∀x e g,ZQ x=some e→ρ e=some g→MV w D g (η x) []
section
variable {P:Program} {w:World} {D:Nat→Prop} {H:GH} {Ω:List Nat} {K:GV→GH→Prop} {η:Operand→Value} {ρ:GE→Option GV}
theorem ZT {x:Option GV} {k:GV→Prop} (h:Z3 x k):∃g,x=some g∧k g:=by
 cases x with
 | none=>exact h.elim
 | some g=>exact ⟨g,rfl,h⟩
theorem Post.here (h:St w D H Ω) {g:GV} {v:Value} (hk:K g H) (hv:MV w D g v []):Post w D Ω K v w:=⟨g,H,D,Ω,hk,hv,h,Ev.refl _ _ _⟩
theorem Zz {s:Sem Value} {u:Value} {w':World} {R:Value→World→Prop} (h:s.run P w = .ok u w') (hr:R u w'):Yld P R ((do pure (Next.value (←s)):Sem Next).run P w):=by
 simp only[Sem.run_bind,h,Result.andThen_ok,Sem.run_pure,Yld];exact hr
theorem yld_u {s:Sem Unit} {w':World} {R:Value→World→Prop} (h:s.run P w = .ok () w') (hr:R undef w'):Yld P R ((do s;pure Next.skip:Sem Next).run P w):=by
 simp only[Sem.run_bind,h,Result.andThen_ok,Sem.run_pure,Yld];exact hr
theorem getAll_ok (ho:OM w D η ρ):∀{xs:List Operand} {es:List GE} {gs:List GV},compEs xs=some es→Zi ρ es=some gs→ML w D gs (xs.map η) []
 | [],es,gs,h,hg=>by simp[compEs] at h;subst h;simp[Zi] at hg;subst hg;simp[ML]
 | x::xs,es,gs,h,hg=>by
  simp only[compEs] at h
  split at h
  ·rename_i e es' h1 h2
   simp only[Option.some.injEq] at h;subst h
   simp only[Zi] at hg
   split at hg
   ·rename_i g gs' k1 k2
    simp only[Option.some.injEq] at hg;subst hg
    simp only[List.map_cons,ML]
    exact ⟨_,_,[],[],rfl,rfl,ho x e g h1 k1,getAll_ok ho h2 k2⟩
   ·cases hg
  ·cases h
theorem MF.single {sz:Nat} {g:GV} {v:Value} {F:List Nat} (h:MV w D g v F) (hs:v.cells.size=sz) (hok:okc v):MF w D sz [g] v.cells.toList F:=by
 simp only[MF]
 exact ⟨v,[],F,[],by simp,hs,hok,by simp,h,rfl,rfl⟩
theorem MV.ptr_new (o:Obj) (sz:Nat):MV (w.alloc o) D (.ptr (2 * w.heap.size) sz 0 0) (.pointer (some ⟨w.heap.size,0,none⟩)) []:=by
 simp only[MV];exact ⟨trivial,w.heap.size,rfl,by simp,by simp⟩
theorem s_box {t:TypeId} {x:Operand} {go:GOp} (h:St w D H Ω) (ho:OM w D η ρ) (hc:cBox P false t x=some go) (hs:Z5 P go ρ H K) :
 Yld P (Post w D Ω K) ((do pure (Next.value (←Instr.box t (η x))):Sem Next).run P w):=by
 simp only[cBox] at hc
 split at hc
 ·rename_i e he
  split at hc
  ·rename_i i hi
   simp only[Bool.false_eq_true,if_false,Option.some.injEq] at hc
   subst hc
   simp only[Z5] at hs
   obtain ⟨g,hg,h1,h2,h3⟩:=ZT hs
   have hv:=ho x e g he hg
   have hok:=MV.okc hv h1
   have hsz:=MV.gsize hv
   have hmf:=MF.single (sz:=i.size) hv (by omega) hok
   have hlen:([g]:List GV).length * i.size=(η x).cells.size := by simp;omega
   obtain ⟨c1,c2⟩:=h.allocOwn (η x).cells t i.size [g] (by omega) (by simp[Y9]) (by rw[hlen,List.take_of_length_le (by simp)];exact hmf)
   refine Zz (u:= .pointer (some ⟨w.heap.size,0,none⟩)) (w':=w.alloc (.cells (η x).cells t)) ?_ ⟨_,_,D,_,h3 _ c1.nn,MV.ptr_new _ _,c1,c2⟩
   simp[Instr.box,newVar,newRow]
  ·cases hc
 ·cases hc
theorem s_boxro {t:TypeId} {x:Operand} {go:GOp} (h:St w D H Ω) (ho:OM w D η ρ) (hc:cBox P true t x=some go) (hs:Z5 P go ρ H K) :
 Yld P (Post w D Ω K) ((do pure (Next.value (←Instr.box t (η x))):Sem Next).run P w):=by
 simp only[cBox] at hc
 split at hc
 ·rename_i e he
  split at hc
  ·rename_i i hi
   simp only[if_true,Option.some.injEq] at hc
   subst hc
   simp only[Z5] at hs
   obtain ⟨g,hg,h1,h2,h3⟩:=ZT hs
   have hv:=ho x e g he hg
   have hok:=MV.okc hv h1
   have hsz:=MV.gsize hv
   obtain ⟨c1,c2⟩:=h.allocRo (.cells (η x).cells t)
   refine Zz (u:= .pointer (some ⟨w.heap.size,0,none⟩)) (w':=w.alloc (.cells (η x).cells t)) ?_ ⟨_,_,_,_,h3,?_,c1,c2⟩
   ·simp[Instr.box,newVar,newRow]
   ·simp only[MV]
    refine ⟨trivial,w.heap.size,0,η x,rfl,.inr rfl,⟨(η x).cells,t,(0,0),hp_new _ _,fun j u hj=>by simpa using hj⟩,hok,by omega,MV.ev c2 h.dj hv⟩
  ·cases hc
 ·cases hc
theorem ML_vals:∀(cs:List Value),ML w D (cs.map .val) cs []
 | []=>by simp[ML]
 | c::cs=>by simp only[List.map_cons,ML];exact ⟨c,cs,[],[],rfl,rfl,by simp[MV],ML_vals cs⟩
theorem zeroG_ok {z:Value} (h:cellOk z=true):MV w D (zeroG z) z []:=by
 cases z with
 | agg cs=>
  simp only[zeroG,MV]
  refine ⟨cs.toList,by simp,fun x hx=> ?_,ML_vals _⟩
  simp only[cellOk,Value.cells,Array.all_eq_true] at h
  obtain ⟨i,hi,rfl⟩:=List.mem_iff_getElem.1 hx
  exact h i (by simpa using hi)
 | _ => simp[zeroG,MV]
theorem okc_of_cellOk {z:Value} (h:cellOk z=true):okc z:=fun x hx=>by
 simp only[cellOk,Array.all_eq_true] at h
 obtain ⟨i,hi,rfl⟩:=List.mem_iff_getElem.1 hx
 exact h i (by simpa using hi)
theorem s_alloc {t:TypeId} {go:GOp} (h:St w D H Ω) (hc:cAlloc P false t=some go) (hs:Z5 P go ρ H K) :
 Yld P (Post w D Ω K) ((do pure (Next.value (←Instr.alloc t true (.tuple #[]))):Sem Next).run P w):=by
 simp only[cAlloc] at hc
 split at hc
 ·rename_i i hi
  split at hc
  ·rename_i z hz
   split at hc
   ·rename_i hcond
    obtain ⟨h1,h2⟩:=hcond
    simp only[Bool.false_eq_true,if_false,Option.some.injEq] at hc
    subst hc
    simp only[Z5] at hs
    have hmf:=MF.single (sz:=i.size) (zeroG_ok (w:=w) (D:=D) h2) h1 (okc_of_cellOk h2)
    have hlen:([zeroG z]:List GV).length * i.size=z.cells.size:=by simp;omega
    obtain ⟨c1,c2⟩:=h.allocOwn z.cells t i.size [zeroG z] (by omega) (by simp[Y9]) (by rw[hlen,List.take_of_length_le (by simp)];exact hmf)
    refine Zz (u:= .pointer (some ⟨w.heap.size,0,none⟩)) (w':=w.alloc (.cells z.cells t)) ?_ ⟨_,_,D,_,hs _ c1.nn,MV.ptr_new _ _,c1,c2⟩
    simp[Instr.alloc,newVar,newRow,zeroValue,typeInfo,hi,hz]
   ·cases hc
  ·cases hc
 ·cases hc
theorem s_load {lro:Bool} {t:TypeId} {x:Operand} {go:GOp} (h:St w D H Ω) (ho:OM w D η ρ) (hc:cLoad P lro t x=some go) (hs:Z5 P go ρ H K) :
 Yld P (Post w D Ω K) ((do pure (Next.value (←Instr.loadAt t (η x))):Sem Next).run P w):=by
 simp only[cLoad] at hc
 split at hc
 ·rename_i e he
  split at hc
  ·rename_i d hd
   split at hc
   ·rename_i i hi
    cases lro
    case true=>
     simp only[if_true,Option.some.injEq] at hc
     subst hc
     simp only[Z5] at hs
     obtain ⟨g,hg,hs⟩:=ZT hs
     have hv:=ho x e g he hg
     cases g with
     | rop sz g=>
      obtain ⟨h1,h2,h3⟩:=hs
      obtain ⟨u,k1,k2⟩:=load_rop hd hi hv h1 h2
      exact Zz k1 (Post.here h h3 k2)
     | _ => exact hs.elim
    simp only[Bool.false_eq_true,if_false,Option.some.injEq] at hc
    subst hc
    simp only[Z5] at hs
    obtain ⟨g,hg,hs⟩:=ZT hs
    have hv:=ho x e g he hg
    cases g with
    | rop sz g=>
     obtain ⟨h1,h2,h3⟩:=hs
     obtain ⟨u,k1,k2⟩:=load_rop hd hi hv h1 h2
     exact Zz k1 (Post.here h h3 k2)
    | ptr r sz i' o=>
     simp only at hs
     split at hs
     ·rename_i sz' es hr
      split at hs
      ·rename_i e' he'
       split at hs
       ·rename_i g' hg'
        obtain ⟨rfl,h2,h3⟩:=hs
        obtain ⟨u,k1,k2⟩:=load_ptr hd hi h hv hr he' hg' h2
        exact Zz k1 (Post.here h h3 k2)
       ·exact hs.elim
      ·exact hs.elim
     ·exact hs.elim
    | _ => exact hs.elim
   ·cases hc
  ·cases hc
 ·cases hc
theorem s_store {t:TypeId} {x:Operand} {s:Nat} {ex:GE} {i:TypeInfo} (h:St w D H Ω) (ho:OM w D η ρ) (he:ZQ x=some ex) (hi:P.info? t=some i) (hs:Z5 P (.store i.size (.t s) ex) ρ H K) :
 Yld P (Post w D Ω K) ((do Instr.storeAt t (η (.tmp s)) (η x);pure Next.skip:Sem Next).run P w):=by
 simp only[Z5] at hs
 obtain ⟨g,hg,hs⟩:=ZT hs
 have hv:=ho (.tmp s) (.t s) g rfl hg
 cases g with
 | ptr r sz k o=>
  obtain ⟨gx,hgx,hs⟩:=ZT hs
  have hvx:=ho x ex gx he hgx
  split at hs
  ·rename_i sz' es hr
   split at hs
   ·rename_i e' he'
    split at hs
    ·rename_i e2 he2
     obtain ⟨rfl,h2,h3,h4⟩:=hs
     obtain ⟨w',Ω',k1,k2,k3⟩:=store_ptr hi h hv hr he' hvx h2 h3 he2
     exact yld_u k1 ⟨uG,_,D,Ω',h4,by simp[MV],k2,k3⟩
    ·exact hs.elim
   ·exact hs.elim
  ·exact hs.elim
 | _ => exact hs.elim
end
end Go.Gh
namespace Go.Gh
section
variable {P:Program} {w:World} {D:Nat→Prop} {H:GH} {Ω:List Nat} {K:GV→GH→Prop} {η:Operand→Value} {ρ:GE→Option GV}
theorem toList_chars (s:ByteArray):s.toList=Z9 s:=ByteArray.toList_eq s
theorem ZE (s:ByteArray):s.size=(Z9 s).length := by simp[Z9]
theorem MV.val_inv {u v:Value} {F:List Nat} (h:MV w D (.val u) v F):v=u:=by simp only[MV] at h;exact h.1
theorem MV.val_mk (u:Value):MV w D (.val u) u []:=by simp[MV]
set_option linter.unusedSimpArgs false in
theorem bin_run {op:BinOp} {t:TypeId} {a b:Value} {k:Value→Prop} (hs:Yz op a b k):∃u,(Go.binOp op t a b).run P w = .ok u w∧k u:=by
 unfold Yz at hs
 split at hs
 ·rename_i j x j' y
  obtain ⟨rfl,hs⟩:=hs
  cases op<;>simp only at hs<;>first
   | exact hs.elim
   | (obtain ⟨h0,hs⟩:=hs;exact ⟨_,by simp[Go.binOp,Op.intDiv,h0],hs⟩)
   | (refine ⟨_,?_,hs⟩;simp[Go.binOp,Op.intArith,Op.intBits,Op.intCmp];done)
   | (refine ⟨_,?_,hs⟩;simp[Go.binOp,Op.intArith,Op.intBits,Op.intCmp];rfl)
   | (refine ⟨_,?_,hs⟩;simp only[Go.binOp,Op.intCmp,ne_eq,not_true_eq_false,if_false,Sem.run_pure];rfl)
 ·rename_i x y
  have hb:(Z9 x == Z9 y)=decide (Z9 x=Z9 y):=by rw[Bool.eq_iff_iff];simp
  cases op
  case add=>
   obtain ⟨h0,hs⟩:=hs
   refine ⟨_,?_,hs⟩
   have:¬(((x.size+y.size:Nat):Int)>9223372036854775807):=by rw[ZE,ZE];omega
   simp only[Go.binOp,Op.stringOp,IntKind.max_i64,this,if_false,Sem.run_pure]
   have e:x++y=⟨(Z9 x++Z9 y).toArray⟩:=by
    apply ByteArray.ext
    apply Array.ext'
    simp[Z9]
   rw[e]
  all_goals first
   | exact False.elim hs
   | (refine ⟨_,?_,hs⟩;simp only[Go.binOp,Op.stringOp,toList_chars,hb,Sem.run_pure];done)
 ·exact hs.elim
theorem shift_run {op:BinOp} {t:TypeId} {a b:Value} {k:Value→Prop} (hs:shiftV op a b k):∃u,(Go.binOp op t a b).run P w = .ok u w∧k u:=by
 unfold shiftV at hs
 split at hs
 ·rename_i j x j' y
  obtain ⟨h0,hs⟩:=hs
  have h0':¬y<0:=by omega
  cases op<;>simp only at hs<;>first
   | exact hs.elim
   | (refine ⟨_,?_,hs⟩;simp[Go.binOp,Op.shift,h0'])
 ·exact hs.elim
theorem guard_val {op:BinOp} {t:TypeId} {x y:Operand} {a b:Value} {k:Value→Prop} (hs:(if isShift op then shiftV op a b k else Yz op a b k)):(eqGuard op t x y a b).run P w = .ok () w:=by
 have:eqGuard op t x y a b=pure ():=by
  split at hs
  ·unfold shiftV at hs;split at hs
   ·exact eqGuard_at_int _ _ _ _ _ _ _
   ·exact hs.elim
  ·unfold Yz at hs;split at hs
   ·exact eqGuard_at_int _ _ _ _ _ _ _
   ·exact eqGuard_at_string _ _ _ _ _ _
   ·exact hs.elim
 rw[this];rfl
theorem s_bin {op:BinOp} {t:TypeId} {x y:Operand} {ex ey:GE} (h:St w D H Ω) (ho:OM w D η ρ) (hx:ZQ x=some ex) (hy:ZQ y=some ey) (hs:Z5 P (.bin op ex ey) ρ H K) :
 Yld P (Post w D Ω K) ((do pure (Next.value (←(do eqGuard op t x y (η x) (η y);Go.binOp op t (η x) (η y)))):Sem Next).run P w):=by
 simp only[Z5] at hs
 obtain ⟨g,hg,hs⟩:=ZT hs
 have hv:=ho x ex g hx hg
 cases g with
 | val a=>
  obtain ⟨g2,hg2,hs⟩:=ZT hs
  have hv2:=ho y ey g2 hy hg2
  cases g2 with
  | val b=>
   rw[MV.val_inv hv,MV.val_inv hv2]
   have hgd:=guard_val (P:=P) (w:=w) (t:=t) (x:=x) (y:=y) hs
   have:∃u,(Go.binOp op t a b).run P w = .ok u w∧K (.val u) H:=by
    simp only at hs
    split at hs
    ·exact shift_run hs
    ·exact bin_run hs
   obtain ⟨u,k1,k2⟩:=this
   exact Zz (by simp only[Sem.run_bind,hgd,Result.andThen_ok];exact k1) (Post.here h k2 (MV.val_mk u))
  | _ => exact hs.elim
 | _ => exact hs.elim
theorem s_beq {op:BinOp} {neg:Bool} {t:TypeId} {x y:Operand} {ex ey:GE} (h:St w D H Ω) (ho:OM w D η ρ) (ht:P.underlying t=some .bool) (hop:(op = .eql ∧ neg=false)∨(op = .neq ∧ neg=true)) (hx:ZQ x=some ex) (hy:ZQ y=some ey)
 (hs:Z5 P (.beq neg ex ey) ρ H K):Yld P (Post w D Ω K) ((do pure (Next.value (←(do eqGuard op t x y (η x) (η y);Go.binOp op t (η x) (η y)))):Sem Next).run P w):=by
 simp only[Z5] at hs
 obtain ⟨g,hg,hs⟩:=ZT hs
 have hv:=ho x ex g hx hg
 split at hs
 ·rename_i a
  obtain ⟨g2,hg2,hs⟩:=ZT hs
  have hv2:=ho y ey g2 hy hg2
  split at hs
  ·rename_i b
   rw[MV.val_inv hv,MV.val_inv hv2]
   refine Zz (u:= .bool (if neg then !decide (a=b) else decide (a=b))) (w':=w) ?_ (Post.here h hs (MV.val_mk _))
   rcases hop with ⟨rfl,rfl⟩|⟨rfl,rfl⟩
   ·simp[eqGuard_at_bool,Go.binOp,Op.equal,Op.maxDepth,run_equalIn_bool' w 9999 t a b ht]
    cases a<;>cases b<;>rfl
   ·simp[eqGuard_at_bool,Go.binOp,Op.equal,Op.maxDepth,run_equalIn_bool' w 9999 t a b ht]
    cases a<;>cases b<;>rfl
  ·exact hs.elim
 ·exact hs.elim
theorem s_not {x:Operand} {ex:GE} (h:St w D H Ω) (ho:OM w D η ρ) (hx:ZQ x=some ex) (hs:Z5 P (.not ex) ρ H K) :
 Yld P (Post w D Ω K) ((do pure (Next.value (←Op.unary .not (η x))):Sem Next).run P w):=by
 simp only[Z5] at hs
 obtain ⟨g,hg,hs⟩:=ZT hs
 have hv:=ho x ex g hx hg
 split at hs
 ·rw[MV.val_inv hv];exact Zz (by simp only[Op.unary,Sem.run_pure]) (Post.here h hs (MV.val_mk _))
 ·exact hs.elim
theorem s_neg {x:Operand} {ex:GE} (h:St w D H Ω) (ho:OM w D η ρ) (hx:ZQ x=some ex) (hs:Z5 P (.neg ex) ρ H K) :
 Yld P (Post w D Ω K) ((do pure (Next.value (←Op.unary .neg (η x))):Sem Next).run P w):=by
 simp only[Z5] at hs
 obtain ⟨g,hg,hs⟩:=ZT hs
 have hv:=ho x ex g hx hg
 split at hs
 ·rw[MV.val_inv hv];exact Zz (by simp only[Op.unary,Op.intArith,Sem.run_pure]) (Post.here h hs (MV.val_mk _))
 ·exact hs.elim
theorem s_conv {s d:TypeId} {x:Operand} {ex:GE} {ds:TypeDesc} {k:IntKind} (h:St w D H Ω) (ho:OM w D η ρ) (hx:ZQ x=some ex) (h1:P.underlying s=some ds) (h2:P.underlying d=some (.int k)) (hs:Z5 P (.conv k ex) ρ H K) :
 Yld P (Post w D Ω K) ((do pure (Next.value (←convert s d (η x))):Sem Next).run P w):=by
 simp only[Z5] at hs
 obtain ⟨g,hg,hs⟩:=ZT hs
 have hv:=ho x ex g hx hg
 split at hs
 ·rw[MV.val_inv hv]
  refine Zz ?_ (Post.here h hs (MV.val_mk _))
  simp[convert,run_underlying h1,run_underlying h2,Conv.intToInt]
 ·exact hs.elim
theorem fieldPlace_run {b off:Nat} {f:Field} {i:TypeInfo} (hi:P.info? f.type=some i) (hn:i.size≠0):(fieldPlace ⟨b,off,none⟩ f).run P w = .ok ⟨b,off+f.offset,none⟩ w:=by
 simp only[fieldPlace,Sem.run_bind,ZB hi,Result.andThen_ok,if_neg hn,Sem.run_pure,X6]
theorem s_field {addr:Bool} {t:TypeId} {x:Operand} {f:Nat} {go:GOp} (h:St w D H Ω) (ho:OM w D η ρ) (hc:cField P addr t x f=some go) (hs:Z5 P go ρ H K) :
 Yld P (Post w D Ω K) ((do pure (Next.value (←(if addr then Instr.fieldAt t (η x) f else Instr.field t (η x) f))):Sem Next).run P w):=by
 simp only[cField] at hc
 split at hc
 case h_2=>cases hc
 rename_i e he
 split at hc
 case h_2=>cases hc
 rename_i fs hfs
 split at hc
 case h_2=>cases hc
 rename_i fd hfd
 split at hc
 case h_2=>cases hc
 rename_i d hd
 split at hc
 case h_2=>cases hc
 rename_i i hi
 split at hc
 case isTrue=>cases hc
 rename_i hn
 simp only[Option.some.injEq] at hc
 cases addr
 ·simp only[Bool.false_eq_true,if_false] at hc ⊢
  subst hc
  simp only[Z5] at hs
  obtain ⟨g,hg,hs⟩:=ZT hs
  have hv:=ho x e g he hg
  split at hs
  case h_2=>exact hs.elim
  rename_i g' hsub
  cases g with
  | agg gs=>
   simp only[MV] at hv
   obtain ⟨vs,hvs,k1,k2⟩:=hv
   obtain ⟨u,m1,m2,m3,m4,m5,m6⟩:=sub_spec k1 k2 hsub
   refine Zz (u:=u) (w':=w) ?_ (Post.here h hs m1)
   rw[hvs]
   simp only[Instr.field,Sem.run_bind,run_underlying hfs,Result.andThen_ok,hfd,asAgg,Sem.run_pure,part,run_isAgg' hd]
   have hag:aggD d=vAgg u:=by rw[←m4,MV.isAgg m1]
   cases had:aggD d
   ·rw[had] at hag
    have hu:=Yo hag.symm
    simp only[Bool.false_eq_true,if_false]
    have:vs[fd.offset]? = some u:=by have:=m6 0 u (by rw[hu];rfl);simpa using this
    simp[this]
   ·rw[had] at hag
    simp only[if_true,Sem.run_bind,ZB hi,Result.andThen_ok,Sem.run_pure]
    congr 1
    cases u with
    | agg cs=>
     simp only[Value.cells] at m3 m6
     congr 1
     apply Array.ext'
     apply List.ext_getElem?
     intro j
     by_cases hj:j<cs.size
     ·have:=m6 j cs[j] (by simp[hj])
      simp only[Array.toList_extract,List.extract,List.getElem?_take,List.getElem?_drop]
      rw[if_pos (by omega),this];simp[hj]
     ·have e1:cs.toList[j]? = none:=by simp;omega
      rw[e1]
      simp only[Array.toList_extract,List.extract,List.getElem?_take]
      rw[if_neg (by omega)]
    | _ => simp[vAgg] at hag
  | _ => simp[sub] at hsub
 ·simp only[if_true] at hc ⊢
  subst hc
  simp only[Z5] at hs
  obtain ⟨g,hg,hs⟩:=ZT hs
  have hv:=ho x e g he hg
  cases g with
  | rop sz g=>
   simp only at hs
   split at hs
   case h_2=>exact hs.elim
   rename_i g' hsub
   simp only[MV] at hv
   obtain ⟨_,b,off,u,hp,k2,k3,k4,k5,k6⟩:=hv
   cases g with
   | agg gs=>
    simp only[MV] at k6
    obtain ⟨vs,rfl,n1,n2⟩:=k6
    obtain ⟨u,m1,m2,m3,m4,m5,m6⟩:=sub_spec n1 n2 hsub
    refine Zz (u:= .pointer (some ⟨b,off+fd.offset,none⟩)) (w':=w) ?_ (Post.here h hs ?_)
    ·rw[hp]
     simp only[Instr.fieldAt,Sem.run_bind,run_underlying hfs,Result.andThen_ok,hfd,Instr.sureAddr,Sem.run_pure,fieldPlace_run hi hn]
    ·simp only[MV]
     refine ⟨trivial,b,off+fd.offset,u,rfl,k2,?_,m2,m3,m1⟩
     obtain ⟨c,T,fz,q1,q2⟩:=k3
     refine ⟨c,T,fz,q1,fun j z hj=> ?_⟩
     have:=q2 (fd.offset+j) z (by simpa[Value.cells] using m6 j z hj)
     rw[Nat.add_assoc];exact this
   | _ => simp[sub] at hsub
  | ptr r sz k o=>
   simp only[MV] at hv
   obtain ⟨_,b,k1,k2,hp⟩:=hv
   refine Zz (u:= .pointer (some ⟨b,k * sz+o+fd.offset,none⟩)) (w':=w) ?_ (Post.here h hs ?_)
   ·rw[hp]
    simp only[Instr.fieldAt,Sem.run_bind,run_underlying hfs,Result.andThen_ok,hfd,Instr.sureAddr,Sem.run_pure,fieldPlace_run hi hn]
   ·simp only[MV]
    exact ⟨trivial,b,k1,k2,by rw[Nat.add_assoc]⟩
  | _ => exact hs.elim
end
end Go.Gh
namespace Go.Gh
section
variable {P:Program} {w:World} {D:Nat→Prop} {H:GH} {Ω:List Nat} {K:GV→GH→Prop} {η:Operand→Value} {ρ:GE→Option GV}
theorem s_iaddr {t:TypeId} {x i:Operand} {ex ei:GE} {e:TypeId} {ie:TypeInfo} (h:St w D H Ω) (ho:OM w D η ρ) (hx:ZQ x=some ex) (hi:ZQ i=some ei) (ht:P.underlying t=some (.slice e)) (hie:P.info? e=some ie)
 (hs:Z5 P (.iaddr ie.size ex ei) ρ H K):Yld P (Post w D Ω K) ((do pure (Next.value (←Instr.indexAt t (η x) (η i))):Sem Next).run P w):=by
 simp only[Z5] at hs
 obtain ⟨gi,hgi,hs⟩:=ZT hs
 have hvi:=ho i ei gi hi hgi
 split at hs
 case h_2=>exact hs.elim
 rename_i j n
 obtain ⟨g,hg,hs⟩:=ZT hs
 have hv:=ho x ex g hx hg
 rw[MV.val_inv hvi]
 cases g with
 | sl sz' es=>
  simp only at hs
  split at hs
  case h_2=>exact hs.elim
  rename_i e0 he0
  obtain ⟨rfl,hn0,hk⟩:=hs
  simp only[MV] at hv
  have hlt:n.toNat<es.length:=by
   rcases Nat.lt_or_ge n.toNat es.length with h'|h'
   ·exact h'
   ·simp[List.getElem?_eq_none h'] at he0
  rcases hv.2 with ⟨rfl,_⟩|⟨b,off,cap,cs,hp,h1,h2,h3,h4,h5⟩
  ·simp at he0
  ·obtain ⟨pre,v,post,F1,Fi,F2,k1,k2,k3,k4,k5,k6,_⟩:=MF.split _ es cs [] n.toNat e0 h5 he0
   have hF:Fi=[]:=by have:=k5.symm;simp at this;exact this.2.1
   subst hF k1
   refine Zz (u:= .pointer (some ⟨b,off+n.toNat * ie.size,none⟩)) (w':=w) ?_ (Post.here h hk ?_)
   ·rw[hp]
    have hc:0≤n∧n<(es.length:Int):=⟨hn0,by omega⟩
    simp only[Instr.indexAt,asIntOf,Sem.run_bind,Sem.run_pure,Result.andThen_ok,run_underlying ht,hc,and_self,if_true,ZB hie,X6]
   ·simp only[MV]
    refine ⟨trivial,b,off+n.toNat * ie.size,v,rfl,h3,?_,k4,k3,k6⟩
    obtain ⟨c,T,fz,q1,q2⟩:=h4
    refine ⟨c,T,fz,q1,fun j u hj=> ?_⟩
    have hjl:j<v.cells.toList.length:=by
     rcases Nat.lt_or_ge j v.cells.toList.length with h'|h'
     ·exact h'
     ·simp[List.getElem?_eq_none h'] at hj
    have:=q2 (n.toNat * ie.size+j) u (by rw[List.getElem?_append_right (by omega),k2,Nat.add_sub_cancel_left,List.getElem?_append_left hjl];exact hj)
    rw[Nat.add_assoc];exact this
 | own r sz' k m=>
  obtain ⟨rfl,hn0,hnm,hk⟩:=hs
  simp only[MV] at hv
  rcases hv.2 with ⟨b,cap,c,T,fz,h1,hp,h3,h4,h5⟩|⟨rfl,_⟩
  ·refine Zz (u:= .pointer (some ⟨b,k * ie.size+n.toNat * ie.size,none⟩)) (w':=w) ?_ (Post.here h hk ?_)
   ·rw[hp]
    have hc:0≤n∧n<(m:Int):=⟨hn0,hnm⟩
    simp only[Instr.indexAt,asIntOf,Sem.run_bind,Sem.run_pure,Result.andThen_ok,run_underlying ht,hc,and_self,if_true,ZB hie,X6]
   ·simp only[MV]
    exact ⟨trivial,b,h1,lt_of_heap h4,by rw[Nat.add_mul,Nat.add_zero]⟩
  ·omega
 | _ => exact hs.elim
theorem s_idx {t:TypeId} {x i:Operand} {ex ei:GE} (h:St w D H Ω) (ho:OM w D η ρ) (hx:ZQ x=some ex) (hi:ZQ i=some ei) (ht:P.underlying t=some .string)
 (hs:Z5 P (.idx ex ei) ρ H K):Yld P (Post w D Ω K) ((do pure (Next.value (←Instr.index t (η x) (η i))):Sem Next).run P w):=by
 simp only[Z5] at hs
 obtain ⟨gi,hgi,hs⟩:=ZT hs
 have hvi:=ho i ei gi hi hgi
 split at hs
 case h_2=>exact hs.elim
 rename_i j n
 obtain ⟨g,hg,hs⟩:=ZT hs
 have hv:=ho x ex g hx hg
 split at hs
 case h_2=>exact hs.elim
 rename_i s
 split at hs
 case h_2=>exact hs.elim
 rename_i b hb
 rw[MV.val_inv hvi,MV.val_inv hv]
 refine Zz ?_ (Post.here h hs.2 (MV.val_mk _))
 have hb':s[n.toNat]? = some b:=by
  have hlt:n.toNat<s.size:=by
   rcases Nat.lt_or_ge n.toNat s.size with h'|h'
   ·exact h'
   ·rw[List.getElem?_eq_none (by rw[←ZE];exact h')] at hb;cases hb
  rw[getElem?_pos s n.toNat hlt]
  rw[List.getElem?_eq_getElem (by rw[←ZE];exact hlt)] at hb
  have e:s[n.toNat]=s.data[n.toNat]:=rfl
  rw[e]
  simpa using hb
 simp[Instr.index,asIntOf,run_underlying ht,hs.1,hb']
theorem bnd_run {isS:Bool} {x:Option Operand} {eo:Option GE} {d y:Nat} {l:Int} {c:BoundsCode} (ho:OM w D η ρ) (hx:compO x=some eo) (hb:bnd ρ eo (d:Int)=some l) (h0:0≤l) (hy:l≤y) (hd:x=none→d≤y) :
 (match x.map η with|some v=>Instr.sliceBound v y c|none=>pure d:Sem Nat).run P w = .ok l.toNat w:=by
 have _ := isS
 cases x with
 | none=>simp[compO] at hx;subst hx;simp[bnd] at hb;subst hb;simp
 | some o=>
  simp only[compO,Option.map_eq_some_iff] at hx
  obtain ⟨e,he,rfl⟩:=hx
  simp only[bnd] at hb
  split at hb
  ·rename_i j n hn
   simp only[Option.some.injEq] at hb;subst hb
   have:=ho o e _ he hn
   simp only[Option.map_some,MV.val_inv this,Instr.sliceBound,asIntOf,Sem.run_bind,Sem.run_pure,Result.andThen_ok,if_pos (⟨h0,hy⟩:0≤n∧n≤(y:Int))]
  ·cases hb
theorem bounds_run {isS:Bool} {lo hi:Option Operand} {el eh:Option GE} {len cap:Nat} {l h:Int} (ho:OM w D η ρ) (hl:compO lo=some el) (hh:compO hi=some eh)
 (bl:bnd ρ el 0=some l) (bh:bnd ρ eh len=some h) (h0:0≤l) (h1:l≤h) (h2:h≤len) (hc:len≤cap) :
 (Instr.sliceBounds isS len cap (lo.map η) (hi.map η) none).run P w = .ok (l.toNat,h.toNat,cap) w:=by
 have r1:=bnd_run (P:=P) (isS:=isS) (y:=cap) (c:=if isS=true then BoundsCode.sliceAcap else BoundsCode.sliceAlen) ho hh bh (by omega) (by omega) (fun _ => hc)
 have r2:=bnd_run (P:=P) (isS:=isS) (y:=h.toNat) (d:=0) (c:=BoundsCode.sliceB) ho hl (by simpa using bl) h0 (by omega) (fun _ => by omega)
 rcases hi with _ | hi
 ·rcases lo with _ | lo
  ·simp only[Option.map_none,Sem.run_pure,Result.ok.injEq,and_true] at r1 r2
   simp[Instr.sliceBounds,←r1,←r2]
  ·simp only[Option.map_none,Option.map_some,Sem.run_pure,Result.ok.injEq,and_true] at r1 r2
   rw[←r1] at r2 ⊢
   simp[Instr.sliceBounds,r2]
 ·rcases lo with _ | lo
  ·simp only[Option.map_none,Option.map_some,Sem.run_pure,Result.ok.injEq,and_true] at r1 r2
   simp[Instr.sliceBounds,r1,←r2]
  ·simp only[Option.map_some] at r1 r2
   simp[Instr.sliceBounds,r1,r2]
theorem s_slice {t:TypeId} {x:Operand} {lo hi:Option Operand} {go:GOp} (h:St w D H Ω) (ho:OM w D η ρ) (hc:cSlice P t x lo hi=some go) (hs:Z5 P go ρ H K) :
 Yld P (Post w D Ω K) ((do pure (Next.value (←Instr.sliceAt t (η x) (lo.map η) (hi.map η) none)):Sem Next).run P w):=by
 simp only[cSlice] at hc
 split at hc
 case h_2=>cases hc
 rename_i ex el eh hx hl hh
 split at hc
 case h_3=>cases hc
 ·rename_i e ht
  split at hc
  case h_2=>cases hc
  rename_i i hi'
  simp only[Option.some.injEq] at hc
  subst hc
  simp only[Z5] at hs
  obtain ⟨g,hg,hs⟩:=ZT hs
  have hv:=ho x ex g hx hg
  cases g with
  | sl sz' es=>
   simp only at hs
   split at hs
   case h_2=>exact hs.elim
   rename_i l hh' bl bh
   obtain ⟨rfl,h0,h1,h2,hk⟩:=hs
   simp only[MV] at hv
   rcases hv.2 with ⟨rfl,a,cap,hp⟩|⟨b,off,cap,cs,hp,q1,q2,q3,q4,q5⟩
   ·simp only[List.length_nil] at bh h2
    have hr:=bounds_run (P:=P) (isS:=true) (len:=0) (cap:=cap) ho hl hh bl bh h0 h1 h2 (by omega)
    have hl0:l=0:=by simp at h2;omega
    have hh0:hh'=0:=by simp at h2;omega
    subst hl0 hh0
    refine Zz (u:= .slice (if cap=0 then a else a.map (·.add (0 * i.size))) 0 cap) (w':=w) ?_ (Post.here h hk ?_)
    ·rw[hp]
     simp only[Instr.sliceAt,Sem.run_bind,run_underlying ht,Result.andThen_ok,Instr.slice,hr,ZB hi',Sem.run_pure]
     simp
    ·simp[MV]
   ·have hr:=bounds_run (P:=P) (isS:=true) (len:=es.length) (cap:=cap) ho hl hh bl bh h0 h1 h2 q1
    have hlen:((es.take hh'.toNat).drop l.toNat).length = hh'.toNat-l.toNat:=by simp;omega
    refine Zz (u:= .slice (if cap=l.toNat then some ⟨b,off,none⟩ else some ⟨b,off+l.toNat * i.size,none⟩) (hh'.toNat-l.toNat) (cap-l.toNat)) (w':=w) ?_ (Post.here h hk ?_)
    ·rw[hp]
     simp only[Instr.sliceAt,Sem.run_bind,run_underlying ht,Result.andThen_ok,Instr.slice,hr,ZB hi',Sem.run_pure,Option.map_some,X6]
    ·simp only[MV]
     refine ⟨trivial,?_⟩
     by_cases hcl:cap=l.toNat
     ·left
      have:hh'.toNat-l.toNat=0:=by omega
      exact ⟨List.eq_nil_of_length_eq_zero (by omega),_,_,by rw[this]⟩
     ·right
      obtain ⟨G1,G2,g1,g2,_⟩:=MF.part i.size hh'.toNat q5
      have e1:G1=[]∧G2=[]:=by simpa using g1.symm
      obtain ⟨rfl,rfl⟩:=e1
      obtain ⟨G3,G4,g3,_,g4⟩:=MF.part i.size l.toNat g2
      have e1:G3=[]∧G4=[]:=by simpa using g3.symm
      obtain ⟨rfl,rfl⟩:=e1
      refine ⟨b,off+l.toNat * i.size,cap-l.toNat,_,by rw[if_neg hcl,hlen],by omega,by omega,q3,?_,g4⟩
      obtain ⟨c,T,fz,z1,z2⟩:=q4
      refine ⟨c,T,fz,z1,fun j u hj=> ?_⟩
      rw[List.getElem?_drop,List.getElem?_take] at hj
      split at hj
      ·rw[Nat.add_assoc];exact z2 _ u hj
      ·cases hj
  | own r sz' k n=>
   simp only at hs
   split at hs
   case h_2=>exact hs.elim
   rename_i l hh' bl bh
   obtain ⟨rfl,h0,h1,h2,hk⟩:=hs
   simp only[MV] at hv
   rcases hv.2 with ⟨b,cap,c,T,fz,q0,hp,q1,q2,q3⟩|⟨rfl,a,hp⟩
   ·have hr:=bounds_run (P:=P) (isS:=true) (len:=n) (cap:=cap) ho hl hh bl bh h0 h1 h2 q1
    have hsub:(hh'-l).toNat = hh'.toNat-l.toNat:=by omega
    refine Zz (u:= .slice (if cap=l.toNat then some ⟨b,k * i.size,none⟩ else some ⟨b,k * i.size+l.toNat * i.size,none⟩) (hh'.toNat-l.toNat) (cap-l.toNat)) (w':=w) ?_ (Post.here h hk ?_)
    ·rw[hp]
     simp only[Instr.sliceAt,Sem.run_bind,run_underlying ht,Result.andThen_ok,Instr.slice,hr,ZB hi',Sem.run_pure,Option.map_some,X6]
    ·simp only[MV]
     refine ⟨trivial,?_⟩
     by_cases hcl:cap=l.toNat
     ·right
      have e0:hh'.toNat-l.toNat=0:=by omega
      have e1:cap-l.toNat=0:=by omega
      exact ⟨by omega,_,by rw[e0,e1]⟩
     ·left
      refine ⟨b,cap-l.toNat,c,T,fz,q0,by rw[if_neg hcl,hsub,Nat.add_mul],by omega,q2,?_⟩
      have:k+l.toNat+(cap-l.toNat)=k+cap:=by omega
      rw[this];exact q3
   ·have hr:=bounds_run (P:=P) (isS:=true) (len:=0) (cap:=0) ho hl hh bl bh h0 h1 h2 (by omega)
    have hl0:l=0:=by omega
    have hh0:hh'=0:=by omega
    subst hl0 hh0
    refine Zz (u:= .slice a 0 0) (w':=w) ?_ (Post.here h hk ?_)
    ·rw[hp]
     simp only[Instr.sliceAt,Sem.run_bind,run_underlying ht,Result.andThen_ok,Instr.slice,hr,ZB hi',Sem.run_pure]
     simp
    ·simp only[MV]
     exact ⟨trivial,.inr ⟨by simp,a,rfl⟩⟩
  | _ => exact hs.elim
 ·rename_i ht
  simp only[Option.some.injEq] at hc
  subst hc
  simp only[Z5] at hs
  obtain ⟨g,hg,hs⟩:=ZT hs
  have hv:=ho x ex g hx hg
  split at hs
  case h_2=>exact hs.elim
  rename_i s
  split at hs
  case h_2=>exact hs.elim
  rename_i l hh' bl bh
  obtain ⟨h0,h1,h2,hk⟩:=hs
  rw[←ZE] at bh h2
  have hr:=bounds_run (P:=P) (isS:=false) (len:=s.size) (cap:=s.size) ho hl hh bl bh h0 h1 h2 (Nat.le_refl _)
  refine Zz (u:= .string (s.extract l.toNat hh'.toNat)) (w':=w) ?_ (Post.here h hk ?_)
  ·rw[MV.val_inv hv]
   simp only[Instr.sliceAt,Sem.run_bind,run_underlying ht,Result.andThen_ok,Instr.slice,Option.isSome_none,Bool.false_eq_true,if_false,hr,Sem.run_pure]
  ·simp only[MV,and_true]
   congr 1
   apply ByteArray.ext
   rw[ByteArray.data_extract]
   apply Array.ext'
   simp[List.extract,List.drop_take]
theorem s_ext {x:Operand} {ex:GE} {i:Nat} (h:St w D H Ω) (ho:OM w D η ρ) (hx:ZQ x=some ex) (hs:Z5 P (.ext ex i) ρ H K) :
 Yld P (Post w D Ω K) ((do pure (Next.value (←Instr.extract (η x) i)):Sem Next).run P w):=by
 simp only[Z5] at hs
 obtain ⟨g,hg,hs⟩:=ZT hs
 have hv:=ho x ex g hx hg
 cases g with
 | tup gs=>
  simp only at hs
  split at hs
  case h_2=>exact hs.elim
  rename_i g' hg'
  simp only[MV] at hv
  obtain ⟨vs,hp,h2⟩:=hv
  obtain ⟨pre,v,post,F1,Fi,F2,k1,k2,k3,k4,_⟩:=ML.split gs vs [] i g' h2 hg'
  have hF:Fi=[]:=by have:=k3.symm;simp at this;exact this.2.1
  subst hF
  refine Zz (u:=v) (w':=w) ?_ (Post.here h hs k4)
  rw[hp]
  simp[Instr.extract,k1,←k2]
 | _ => exact hs.elim
theorem len_slice {t ty:TypeId} {a:Option Addr} {n c:Nat} (ht:∃e,P.underlying t=some (.slice e)):(Builtin.len_ #[t] ty #[.slice a n c]).run P w = .ok (.int .i64 n) w:=by
 obtain ⟨e,he⟩:=ht
 simp[Builtin.len_,run_underlying he,goInt]
theorem s_len {t ty:TypeId} {cs:Array Bool} {x:Operand} {ex:GE} (h:St w D H Ω) (ho:OM w D η ρ) (hx:ZQ x=some ex) (ht:∃e,P.underlying t=some (.slice e)) (hs:Z5 P (.len ex) ρ H K) :
 Yld P (Post w D Ω K) ((builtin .len #[t] ty cs #[η x]).run P w):=by
 simp only[Z5] at hs
 obtain ⟨g,hg,hs⟩:=ZT hs
 have hv:=ho x ex g hx hg
 cases g with
 | sl sz es=>
  obtain ⟨a,cap,cs',hp,_⟩:=sl_src (P:=P) hv
  rw[hp]
  exact Zz (len_slice ht) (Post.here h hs (MV.val_mk _))
 | own r sz k n=>
  simp only[MV] at hv
  rcases hv.2 with ⟨b,cap,c,T,fz,q0,hp,_⟩|⟨rfl,a,hp⟩<;>rw[hp]
  ·exact Zz (len_slice ht) (Post.here h hs (MV.val_mk _))
  ·exact Zz (len_slice ht) (Post.here h hs (MV.val_mk _))
 | val u=>
  split at hs
  ·rename_i e;cases e
  ·rename_i e;cases e
  ·rename_i e
   simp only[GV.val.injEq] at e
   rw[MV.val_inv hv,e]
   exact Zz (len_slice ht) (Post.here h hs (MV.val_mk _))
  ·exact hs.elim
 | _ => exact hs.elim
theorem s_slen {t ty:TypeId} {cs:Array Bool} {x:Operand} {ex:GE} (h:St w D H Ω) (ho:OM w D η ρ) (hx:ZQ x=some ex) (ht:P.underlying t=some .string) (hs:Z5 P (.slen ex) ρ H K) :
 Yld P (Post w D Ω K) ((builtin .len #[t] ty cs #[η x]).run P w):=by
 simp only[Z5] at hs
 obtain ⟨g,hg,hs⟩:=ZT hs
 have hv:=ho x ex g hx hg
 split at hs
 ·rw[MV.val_inv hv]
  exact Zz (w':=w) (u:= .int .i64 (Z9 _).length) (by rw[←ZE];simp[Builtin.len_,run_underlying ht,goInt]) (Post.here h hs (MV.val_mk _))
 ·exact hs.elim
theorem src_ok {sz:Nat} {g:GV} {v:Value} {fs:List GV} (h:St w D H Ω) (hv:MV w D g v []) (hs:Y2 sz H g=some fs):∃cs,Src P w sz fs.length v cs∧MF w D sz fs cs []:=by
 unfold Y2 at hs
 split at hs
 ·rename_i sz' es
  split at hs
  ·rename_i e;subst e
   simp only[Option.some.injEq] at hs;subst hs
   obtain ⟨a,cap,cs,hp,_,h3,h4,_⟩:=sl_src (P:=P) hv
   exact ⟨cs,h3,h4⟩
  ·cases hs
 ·rename_i r sz' k n
  split at hs
  ·rename_i sz'' es hr
   split at hs
   ·rename_i hc
    obtain ⟨rfl,rfl,hn,hcl⟩:=hc
    simp only[Option.some.injEq] at hs;subst hs
    obtain ⟨a,cap,cs,F,hp,_,h3,h4,_⟩:=own_src (P:=P) h hv hr hn
    have hF:=MF.clean _ _ _ _ h4 hcl
    subst hF
    have:((es.drop k).take n).length = n:=by simp;omega
    exact ⟨cs,by rw[this];exact h3,h4⟩
   ·cases hs
  ·cases hs
 ·simp only[Option.some.injEq] at hs;subst hs
  rw[MV.val_inv hv]
  exact ⟨[],Src.nil,by simp[MF]⟩
 ·rename_i s
  split at hs
  ·rename_i e;subst e
   simp only[Option.some.injEq] at hs;subst hs
   rw[MV.val_inv hv]
   refine ⟨s.data.toList.map fun b=>Value.int .u8 b.toNat,?_,?_⟩
   ·have:((Z9 s).map fun b:UInt8=>GV.val (.int .u8 b.toNat)).length = s.size:=by simp[Z9]
    rw[this];exact Src.str
   ·have:∀l:List UInt8,MF w D 1 (l.map fun b:UInt8=>GV.val (.int .u8 b.toNat)) (l.map fun b=>Value.int .u8 b.toNat) []:=by
     intro l
     induction l with
     | nil=>simp[MF]
     | cons b l ih=>
      simp only[List.map_cons,MF]
      exact ⟨.int .u8 b.toNat,_,[],[],rfl,rfl,fun x hx=>by simp[Value.cells] at hx;subst hx;rfl,rfl,by simp[MV],ih⟩
    exact this _
  ·cases hs
 ·cases hs
theorem s_append {t u ty e:TypeId} {cs:Array Bool} {i:TypeInfo} {z:Value} {du:TypeDesc} {s x:Operand} {es ex:GE} (h:St w D H Ω) (ho:OM w D η ρ) (hs':ZQ s=some es) (hx:ZQ x=some ex) (ht:P.underlying t=some (.slice e)) (hu:P.underlying u=some du)
 (hnu:(∃e',du = .slice e')∨du = .string) (hi:P.info? e=some i) (hz:i.zero=some z) (hzs:z.cells.size=i.size) (hs:Z5 P (.append i.size i.bytes es ex) ρ H K) :
 Yld P (Post w D Ω K) ((builtin .append #[t,u] ty cs #[η s,η x]).run P w):=by
 simp only[Z5] at hs
 obtain ⟨gx,hgx,hs⟩:=ZT hs
 have hvx:=ho x ex gx hx hgx
 split at hs
 case h_2=>exact hs.elim
 rename_i fs hfs
 obtain ⟨cs',hsrc,hmf⟩:=src_ok (P:=P) h hvx hfs
 obtain ⟨gs,hgs,hs⟩:=ZT hs
 have hvs:=ho s es gs hs' hgs
 split at hs
 ·
   obtain ⟨hb,hl,hk⟩:=hs
   have hnil:=MV.val_inv hvs
   have h63:0+fs.length≤9223372036854775807:=by unfold Y9 at hl;omega
   by_cases hm:fs.length=0
   ·
     have hfs0:fs=[]:=List.eq_nil_of_length_eq_zero hm
     subst hfs0
     have hcs0:cs'=[]:=List.eq_nil_of_length_eq_zero (by have:=hsrc.2.1;simpa using this)
     have hrun:=run_append_fit (ty:=ty) (base:=none) (n:=0) (cap:=0) ht hu hnu hi hsrc (by simp)
     have hfresh:∃r,r % 4=1∧r∉names H:=by
      have:∀(l:List Nat),∃r,r % 4=1∧∀x∈l,x<r:=by
       intro l
       induction l with
       | nil=>exact ⟨1,rfl,by simp⟩
       | cons a l ih=>
        obtain ⟨r,h1,h2⟩:=ih
        refine ⟨r+4 * a,by omega,fun x hx=> ?_⟩
        rcases List.mem_cons.1 hx with rfl|hx
        ·omega
        ·have:=h2 x hx;omega
      obtain ⟨r,h1,h2⟩:=this (names H)
      exact ⟨r,h1,fun hx=>Nat.lt_irrefl _ (h2 r hx)⟩
     obtain ⟨r,hr1,hr2⟩:=hfresh
     have hnn:(names ((r,i.size,([]:List GV))::H)).Nodup := by simp only[names,List.map_cons,List.nodup_cons];exact ⟨hr2,h.nn⟩
     refine Zz (u:= .slice none 0 0) (w':=w) ?_ ⟨_,_,D,Ω,hk r hnn,?_,⟨⟨[],Ω,rfl,.inr ⟨od_virt hr1,rfl,rfl⟩,h.hm⟩,h.nd,hnn,h.dj,h.ds⟩,Ev.refl _ _ _⟩
     ·rw[hnil,hrun];rfl
     ·simp only[MV];exact ⟨trivial,.inr ⟨by simp,none,rfl⟩⟩
   ·have ho2:Src P w i.size 0 (.slice none 0 0) []:=Src.nil
    have hrun:=run_append_more (ty:=ty) (base:=none) (n:=0) (cap:=0) ht hu hnu hi hz hsrc ho2 (by omega) (by simpa using hb) h63
    simp only[Nat.zero_add] at hrun
    have hge:=grownCap_ge w fs.length 0 e
    have hcl:=hsrc.2.1
    have e1:(([]:List Value).toArray ++ cs'.toArray++Builtin.zeroCells z.cells (grownCap w fs.length 0 e-fs.length))=(cs'++(Builtin.zeroCells z.cells (grownCap w fs.length 0 e-fs.length)).toList).toArray := by
     apply Array.ext';simp
    rw[e1] at hrun
    obtain ⟨d1,d2⟩:=h.drew
    obtain ⟨c1,c2⟩:=d1.allocOwn (cs'++(Builtin.zeroCells z.cells (grownCap w fs.length 0 e-fs.length)).toList).toArray e i.size fs (by simp;omega) hl (by
     have:fs.length * i.size=cs'.length:=by omega
     rw[this]
     have e2:(cs'++(Builtin.zeroCells z.cells (grownCap w fs.length 0 e-fs.length)).toList).toArray.toList.take cs'.length=cs':=by
      simp
     rw[e2]
     exact MF.keep d2.kp (fun _ hb hin=>h.dj _ hin hb) (fun _ h=>h) _ _ _ [] (by simp) hmf)
    refine Zz (w':=w.drew.alloc (.cells (cs'++(Builtin.zeroCells z.cells (grownCap w fs.length 0 e-fs.length)).toList).toArray e)) (by rw[hnil];exact hrun) ⟨_,_,D,_,hk _ c1.nn,?_,c1,d2.trans c2⟩
    simp only[MV]
    refine ⟨trivial,.inl ⟨w.heap.size,_,_,e,(0,0),rfl,by simp,hge,hp_new w.drew _,?_⟩⟩
    simp only[Nat.zero_add,List.size_toArray,List.length_append,hcl,Array.length_toList,size_zeroCells,hzs]
    rw[←Nat.add_mul]
    exact Nat.mul_le_mul_right _ (by omega)
 ·rename_i r sz' n
  split at hs
  case h_2=>exact hs.elim
  rename_i sz'' es' hr
  obtain ⟨h1,h2,hn,hb,hl,hk⟩:=hs
  subst h1 h2
  obtain ⟨v',w',Ω',r',k1,k2,k3,k4⟩:=app_own (ty:=ty) ht hu hnu hi hz hzs h hvs hr hn hsrc hmf rfl hb hl
  exact Zz k1 ⟨_,_,D,Ω',hk r' k3.nn,k2,k3,k4⟩
 ·exact hs.elim
end
end Go.Gh
namespace Go.Gh
theorem map_arr (η:Operand→Value) (xs:Array Operand):xs.map η=(xs.toList.map η).toArray := by apply Array.ext';simp
section
variable {P:Program} {w:World} {D:Nat→Prop} {H:GH} {Ω:List Nat} {K:GV→GH→Prop} {η:Operand→Value} {ρ:GE→Option GV}
theorem s_mkslice {t:TypeId} {l c:Operand} {go:GOp} (h:St w D H Ω) (ho:OM w D η ρ) (hc:cMake P t l c=some go) (hs:Z5 P go ρ H K) :
 Yld P (Post w D Ω K) ((do pure (Next.value (←Instr.makeSlice t (η l) (η c))):Sem Next).run P w):=by
 simp only[cMake] at hc
 split at hc
 case h_2=>cases hc
 rename_i el ec hl hcc
 split at hc
 case h_2=>cases hc
 rename_i e ht
 split at hc
 case h_2=>cases hc
 rename_i i hi
 split at hc
 case h_2=>cases hc
 rename_i z hz
 split at hc
 case isFalse=>cases hc
 rename_i hcond
 obtain ⟨hzs,hzo,hpos⟩:=hcond
 simp only[Option.some.injEq] at hc
 subst hc
 simp only[Z5] at hs
 obtain ⟨gl,hgl,hs⟩:=ZT hs
 have hvl:=ho l el gl hl hgl
 split at hs
 case h_2=>exact hs.elim
 rename_i jl a
 obtain ⟨gc,hgc,hs⟩:=ZT hs
 have hvc:=ho c ec gc hcc hgc
 split at hs
 case h_2=>exact hs.elim
 rename_i jc b
 obtain ⟨h0,h1,h2,h3,hk⟩:=hs
 have hrun:=run_make (P:=P) w t e i z ht hi hz jl jc a b h0 h1 h2 (by omega)
 have hmf:∀n:Nat,∀cs:List Value,cs.length=n * i.size→(∀j,j<cs.length→cs[j]? = some z.cells[j % z.cells.size]!)→MF w D i.size (List.replicate n (zeroG z)) cs []:=by
  intro n
  induction n with
  | zero=>intro cs hl _;simp at hl;subst hl;simp[MF]
  | succ n ih=>
   intro cs hl hj
   rw[Nat.add_mul,Nat.one_mul] at hl
   simp only[List.replicate_succ,MF]
   refine ⟨z,cs.drop i.size,[],[],?_,hzs,okc_of_cellOk hzo,rfl,zeroG_ok hzo,ih _ (by simp;omega) fun j hjl=> ?_⟩
   ·have:cs.take i.size=z.cells.toList:=by
     apply List.ext_getElem?
     intro j
     by_cases hjj:j<i.size
     ·rw[List.getElem?_take,if_pos hjj,hj j (by omega)]
      rw[Nat.mod_eq_of_lt (by omega)]
      simp[getElem!_pos z.cells j (by omega)]
     ·rw[List.getElem?_take,if_neg hjj]
      symm
      simp;omega
    rw[←this];simp
   ·rw[List.getElem?_drop,hj (i.size+j) (by simp at hjl;omega)]
    congr 2
    rw[hzs,Nat.add_mod_left]
 have hcells:(madeCells z.cells (b.toNat * i.size)).size = b.toNat * i.size:=size_madeCells _ _
 have hab:a.toNat≤b.toNat:=by omega
 have hab2:a.toNat * i.size≤b.toNat * i.size:=Nat.mul_le_mul_right _ hab
 have hmax:a.toNat≤Y9:=by unfold Y9;omega
 obtain ⟨c1,c2⟩:=h.allocOwn (madeCells z.cells (b.toNat * i.size)) e i.size (List.replicate a.toNat (zeroG z)) (by simp only[List.length_replicate];omega) (by simpa using hmax) (by
  rw[List.length_replicate]
  refine hmf a.toNat _ (by simp;omega) fun j hj=> ?_
  rw[List.length_take,Array.length_toList,hcells,Nat.min_eq_left hab2] at hj
  rw[List.getElem?_take,if_pos hj]
  have hj2:j<b.toNat * i.size:=by omega
  simp[madeCells,hj2])
 refine Zz (w':=w.alloc (.cells (madeCells z.cells (b.toNat * i.size)) e)) (by rw[MV.val_inv hvl,MV.val_inv hvc];exact hrun) ⟨_,_,D,_,hk _ c1.nn,?_,c1,c2⟩
 simp only[MV]
 exact ⟨trivial,.inl ⟨w.heap.size,b.toNat,_,e,(0,0),rfl,by simp,hab,hp_new w _,by rw[hcells,Nat.zero_add];exact Nat.le_refl _⟩⟩
theorem s_mx {ts:Array TypeId} {ty:TypeId} {cs:Array Bool} {x y:Operand} {ex ey:GE} (h:St w D H Ω) (ho:OM w D η ρ) (hx:ZQ x=some ex) (hy:ZQ y=some ey) (hs:Z5 P (.mx ex ey) ρ H K) :
 Yld P (Post w D Ω K) ((builtin .max ts ty cs #[η x,η y]).run P w):=by
 simp only[Z5] at hs
 obtain ⟨g,hg,hs⟩:=ZT hs
 have hv:=ho x ex g hx hg
 split at hs
 case h_2=>exact hs.elim
 obtain ⟨g2,hg2,hs⟩:=ZT hs
 have hv2:=ho y ey g2 hy hg2
 split at hs
 case h_2=>exact hs.elim
 obtain ⟨rfl,hk⟩:=hs
 rw[MV.val_inv hv,MV.val_inv hv2]
 exact Zz (s:=Builtin.max_ ts ty _) (by simp only[Builtin.max_,List.foldlM_cons,List.foldlM_nil,Builtin.max2,Sem.run_bind,Sem.run_pure,Result.andThen_ok]) (Post.here h hk (MV.val_mk _))
theorem s_mn {ts:Array TypeId} {ty:TypeId} {cs:Array Bool} {x y:Operand} {ex ey:GE} (h:St w D H Ω) (ho:OM w D η ρ) (hx:ZQ x=some ex) (hy:ZQ y=some ey) (hs:Z5 P (.mn ex ey) ρ H K) :
 Yld P (Post w D Ω K) ((builtin .min ts ty cs #[η x,η y]).run P w):=by
 simp only[Z5] at hs
 obtain ⟨g,hg,hs⟩:=ZT hs
 have hv:=ho x ex g hx hg
 split at hs
 case h_2=>exact hs.elim
 obtain ⟨g2,hg2,hs⟩:=ZT hs
 have hv2:=ho y ey g2 hy hg2
 split at hs
 case h_2=>exact hs.elim
 obtain ⟨rfl,hk⟩:=hs
 rw[MV.val_inv hv,MV.val_inv hv2]
 exact Zz (s:=Builtin.min_ ts ty _) (by simp only[Builtin.min_,List.foldlM_cons,List.foldlM_nil,Builtin.min2,Sem.run_bind,Sem.run_pure,Result.andThen_ok]) (Post.here h hk (MV.val_mk _))
theorem Yld.mono {R R':Value→World→Prop} (hr:∀v w',R v w'→R' v w') {r:Result Next} (h:Yld P R r):Yld P R' r:=by
 cases r with
 | halt x w'=>exact h
 | ok n w'=>
  cases n<;>simp only[Yld] at h ⊢ <;> first
   | exact hr _ _ h
   | exact h.mono fun e w'' ⟨v,h1,h2⟩=>⟨v,h1,hr _ _ h2⟩
theorem call_ok {f:FuncId} {gs:List GV} {args:List Value} {det:Bool} (h:St w D H Ω) (ha:ML w D gs args [])
 (hs:if det then ∃G,GCalls P f gs H (fun g H'=>g=G∧H'=H)∧K G H else ∃R,GCalls P f gs H R∧∀g H',R g H'→(names H').Nodup → K g H') :
 Yld P (Post w D Ω K) ((callFunc f args.toArray).run P w):=by
 cases det
 ·simp only[Bool.false_eq_true,if_false] at hs
  obtain ⟨R,hR,hk⟩:=hs
  refine (hR w D Ω args h ha).mono fun v w' ⟨g,H',D',Ω',h1,h2,h3,h4⟩=>⟨g,H',D',Ω',hk g H' h1 h3.nn,h2,h3,h4⟩
 ·simp only[if_true] at hs
  obtain ⟨G,hR,hk⟩:=hs
  refine (hR w D Ω args h ha).mono fun v w' ⟨g,H',D',Ω',h1,h2,h3,h4⟩=> ?_
  obtain ⟨rfl,rfl⟩:=h1
  exact ⟨_,_,D',Ω',hk,h2,h3,h4⟩
theorem s_call {f:FuncId} {xs:Array Operand} {ts:Array TypeId} {ty:TypeId} {es:List GE} {det:Bool} (h:St w D H Ω) (ho:OM w D η ρ) (hx:compEs xs.toList=some es) (hs:Z5 P (.call det f es) ρ H K) (hη:η (.func f) = .func (.func f) #[] #[]) :
 Yld P (Post w D Ω K) ((do let d ←resolve η { callee:= .value (.func f),args:=xs,argTypes:=ts } ty;invoke d.target d.args:Sem Next).run P w):=by
 simp only[Z5] at hs
 split at hs
 case h_2=>exact hs.elim
 rename_i gs hgs
 have ha:=getAll_ok ho hx hgs
 have:=call_ok (P:=P) h ha hs
 simp only[resolve,hη,Deferred.ofValue,Sem.run_bind,Sem.run_pure,Result.andThen_ok,invoke,map_arr]
 simpa using this
theorem s_callv {x:Operand} {xs:Array Operand} {ts:Array TypeId} {ty:TypeId} {ex:GE} {es:List GE} {det:Bool} (h:St w D H Ω) (ho:OM w D η ρ) (hx0:ZQ x=some ex) (hx:compEs xs.toList=some es) (hs:Z5 P (.callv det ex es) ρ H K) :
 Yld P (Post w D Ω K) ((do let d ←resolve η { callee:= .value x,args:=xs,argTypes:=ts } ty;invoke d.target d.args:Sem Next).run P w):=by
 simp only[Z5] at hs
 obtain ⟨g,hg,hs⟩:=ZT hs
 have hv:=ho x ex g hx0 hg
 cases g with
 | clo f cs=>
  simp only at hs
  split at hs
  case h_2=>exact hs.elim
  rename_i gs hgs
  have ha:=getAll_ok ho hx hgs
  simp only[MV] at hv
  obtain ⟨_,vs,hp,hvs⟩:=hv
  have:=call_ok (P:=P) h (ML.append ha hvs) hs
  simp only[resolve,hp,Deferred.ofValue,Sem.run_bind,Sem.run_pure,Result.andThen_ok,invoke,map_arr]
  simpa using this
 | _ => exact hs.elim
theorem s_mkfn {f:FuncId} {cs:Array Operand} {es:List GE} (h:St w D H Ω) (ho:OM w D η ρ) (hx:compEs cs.toList=some es) (hs:Z5 P (.mkfn f es) ρ H K) :
 Yld P (Post w D Ω K) ((do pure (Next.value (←Instr.makeFunc (.func f) ((#[]:Array Operand).map η) (cs.map η))):Sem Next).run P w):=by
 simp only[Z5] at hs
 split at hs
 case h_2=>exact hs.elim
 rename_i gs hgs
 have ha:=getAll_ok ho hx hgs
 refine Zz (u:= .func (.func f) #[] (cs.map η)) (w':=w) (by simp[Instr.makeFunc]) (Post.here h hs ?_)
 simp only[MV]
 exact ⟨trivial,cs.toList.map η,by rw[map_arr],ha⟩
end
end Go.Gh
namespace Go.Gh
theorem foldl_put:∀(xs:List Value) (k off:Nat) (c:Array Value),(xs.zipIdx k).foldl (fun cs (x:Value×Nat)=>cs.setIfInBounds (off+x.2) x.1) c=YP c (off+k) xs
 | [],_,_,_ => rfl
 | x::xs,k,off,c=>by
  simp only[List.zipIdx_cons,List.foldl_cons,YP]
  rw[foldl_put xs (k+1) off]
  rfl
theorem foldl_put' (v:Value) (off:Nat) (c:Array Value):v.cells.zipIdx.foldl (fun cs (x:Value×Nat)=>cs.setIfInBounds (off+x.2) x.1) c=YP c off v.cells.toList:=by
 rw[←Array.foldl_toList,Array.toList_zipIdx]
 exact foldl_put _ 0 off c
section
variable {P:Program} {w:World} {D:Nat→Prop} {H:GH} {Ω:List Nat} {K:GV→GH→Prop} {η:Operand→Value} {ρ:GE→Option GV}
theorem fill_ok {place:Nat→Option (Nat×Nat)}:∀(ps:List (Nat×Value)) (qs:List (Nat×Nat×GV)) (gs gs':List GV) (vs:List Value),
 (ps.map fun p=>place p.1)=(qs.map fun q=>some (q.1,q.2.1))→ML w D (qs.map (·.2.2)) (ps.map (·.2)) []→ML w D gs vs []→(∀x∈vs,x.oneCell'=true)→fillG gs qs=some gs' →
 ∃vs':List Value,Instr.fill place vs.toArray ps=some vs'.toArray∧ML w D gs' vs' []∧∀x∈vs',x.oneCell'=true
 | [],[],gs,gs',vs,_,_,hm,hv,hf=>by simp[fillG] at hf;subst hf;exact ⟨vs,rfl,hm,hv⟩
 | [],q::qs,gs,gs',vs,h,_,_,_,_ => by simp at h
 | p::ps,[],gs,gs',vs,h,_,_,_,_ => by simp at h
 | (i,v)::ps,(off,n,g)::qs,gs,gs',vs,h,hq,hm,hv,hf=>by
  simp only[List.map_cons,List.cons.injEq] at h
  obtain ⟨h1,h2⟩:=h
  simp only[List.map_cons,ML] at hq
  obtain ⟨v',us,F1,F2,e1,e2,k1,k2⟩:=hq
  have e3:F1=[]∧F2=[]:=by simpa using e2.symm
  obtain ⟨rfl,rfl⟩:=e3
  simp only[List.cons.injEq] at e1
  obtain ⟨rfl,rfl⟩:=e1
  simp only[fillG] at hf
  split at hf
  case h_2=>cases hf
  rename_i gs1 hu
  split at hf
  case isFalse=>cases hf
  rename_i hcond
  obtain ⟨hn,hst⟩:=hcond
  obtain ⟨gs2,Fi',n1,n2,n3,n4⟩:=upd_spec hm k1 hu
  simp only[GV.agg.injEq] at n1
  subst n1
  have hFi:Fi'=[]:=List.eq_nil_of_sublist_nil n2
  subst hFi
  have hsz:=MV.gsize k1
  have hok:=MV.okc k1 hst
  have hcs:∀x∈vs.take off++(v.cells.toList++vs.drop (off+v.cells.size)),x.oneCell'=true:=fun x hx=>by
   simp only[List.mem_append] at hx
   rcases hx with hx|hx|hx
   ·exact hv x (List.mem_of_mem_take hx)
   ·exact hok x hx
   ·exact hv x (List.mem_of_mem_drop hx)
  obtain ⟨vs',q1,q2,q3⟩:=fill_ok ps qs gs1 gs' _ h2 k2 n4 hcs hf
  refine ⟨vs',?_,q2,q3⟩
  simp only[Instr.fill,h1]
  have hc1:¬(v.cells.size≠n∨off+v.cells.size>vs.toArray.size):=by simp;omega
  have hc2:(decide (v.cells.size≠n)||decide (off+v.cells.size>vs.toArray.size))=false:=by simp;omega
  rw[hc2]
  simp only[Bool.false_eq_true,if_false]
  rw[foldl_put']
  have e4:YP vs.toArray off v.cells.toList=(vs.take off++(v.cells.toList++vs.drop (off+v.cells.size))).toArray := by
   apply Array.ext'
   rw[YF _ _ _ (by simp;omega)]
   simp
  rw[e4]
  exact q1
theorem run_mapM_list {α β:Type} (f:α→Sem β) (g:α→β):∀(l:List α),(∀a∈l,(f a).run P w = .ok (g a) w)→(l.mapM f).run P w = .ok (l.map g) w
 | [],_ => by simp
 | a::l,h=>by
  simp only[List.mapM_cons,Sem.run_bind,h a (by simp),Result.andThen_ok,run_mapM_list f g l (fun b hb=>h b (by simp[hb])),Sem.run_pure,List.map_cons]
theorem compFP_ok {fs:Array Field} (ho:OM w D η ρ):∀{ps:List (Nat×Operand)} {es:List (Nat×Nat×GE)} {qs:List (Nat×Nat×GV)},compFP P fs ps=some es→YV ρ es=some qs →
 ((ps.map fun p=>(p.1,η p.2)).map fun p=>(fs.map fun f=>(f.offset,((P.info? f.type).map (·.size)).getD 0))[p.1]?)=(qs.map fun q=>some (q.1,q.2.1))∧ML w D (qs.map (·.2.2)) ((ps.map fun p=>(p.1,η p.2)).map (·.2)) []
 | [],es,qs,h,hg=>by simp[compFP] at h;subst h;simp[YV] at hg;subst hg;simp[ML]
 | (i,x)::ps,es,qs,h,hg=>by
  simp only[compFP] at h
  split at h
  case h_2=>cases h
  rename_i e es' f h1 h2 h3
  split at h
  case h_2=>cases h
  rename_i inf h4
  simp only[Option.some.injEq] at h;subst h
  simp only[YV] at hg
  split at hg
  case h_2=>cases hg
  rename_i g gs k1 k2
  simp only[Option.some.injEq] at hg;subst hg
  obtain ⟨m1,m2⟩:=compFP_ok ho h2 k2
  refine ⟨?_,?_⟩
  ·simp only[List.map_cons,m1]
   congr 1
   simp[h3,h4]
  ·simp only[List.map_cons,ML]
   exact ⟨_,_,[],[],rfl,rfl,ho x e g h1 k1,m2⟩
theorem compAP_ok {sz:Nat} (ho:OM w D η ρ):∀{ps:List (Nat×Operand)} {es:List (Nat×Nat×GE)} {qs:List (Nat×Nat×GV)},compAP sz ps=some es→YV ρ es=some qs →
 ((ps.map fun p=>(p.1,η p.2)).map fun p=>some (p.1 * sz,sz))=(qs.map fun q=>some (q.1,q.2.1))∧ML w D (qs.map (·.2.2)) ((ps.map fun p=>(p.1,η p.2)).map (·.2)) []
 | [],es,qs,h,hg=>by simp[compAP] at h;subst h;simp[YV] at hg;subst hg;simp[ML]
 | (i,x)::ps,es,qs,h,hg=>by
  simp only[compAP] at h
  split at h
  case h_2=>cases h
  rename_i e es' h1 h2
  simp only[Option.some.injEq] at h;subst h
  simp only[YV] at hg
  split at hg
  case h_2=>cases hg
  rename_i g gs k1 k2
  simp only[Option.some.injEq] at hg;subst hg
  obtain ⟨m1,m2⟩:=compAP_ok ho h2 k2
  refine ⟨by simp only[List.map_cons,m1],?_⟩
  simp only[List.map_cons,ML]
  exact ⟨_,_,[],[],rfl,rfl,ho x e g h1 k1,m2⟩
theorem s_build {t:TypeId} {ps:Array (Nat×Operand)} {go:GOp} (h:St w D H Ω) (ho:OM w D η ρ) (hc:cBuild P t ps=some go) (hs:Z5 P go ρ H K) :
 Yld P (Post w D Ω K) ((do pure (Next.value (←Instr.build t (ps.map fun (i,x)=>(i,η x)))):Sem Next).run P w):=by
 have hpl:(ps.map fun (i,x)=>(i,η x)).toList = ps.toList.map fun p=>(p.1,η p.2):=by simp
 simp only[cBuild] at hc
 split at hc
 case h_3=>cases hc
 ·rename_i fs ht
  split at hc
  case h_2=>cases hc
  rename_i es hes
  split at hc
  case h_2=>cases hc
  rename_i i hi
  split at hc
  case h_2=>cases hc
  rename_i cs hz
  split at hc
  case isFalse=>cases hc
  rename_i hcond
  simp only[Option.some.injEq] at hc
  subst hc
  simp only[Bool.and_eq_true] at hcond
  obtain ⟨hone,hall⟩:=hcond
  simp only[Z5] at hs
  split at hs
  case h_2=>exact hs.elim
  rename_i qs hqs
  split at hs
  case h_2=>exact hs.elim
  rename_i gs hgs
  obtain ⟨m1,m2⟩:=compFP_ok (P:=P) ho hes hqs
  have hone':∀x∈cs.toList,x.oneCell'=true:=fun x hx=>by
   simp only[Array.all_eq_true] at hone
   obtain ⟨j,hj,rfl⟩:=List.mem_iff_getElem.1 hx
   exact hone j (by simpa using hj)
  obtain ⟨vs',f1,f2,f3⟩:=fill_ok (ps.toList.map fun p=>(p.1,η p.2)) qs _ gs cs.toList m1 m2 (ML_vals _) hone' hgs
  have hmap:(fs.mapM (fun f=>do pure (f.offset,←sizeOf f.type):Field→Sem (Nat×Nat))).run P w = .ok (fs.map fun f=>(f.offset,((P.info? f.type).map (·.size)).getD 0)) w:=by
   have e:=run_mapM_list (P:=P) (w:=w) (fun f=>do pure (f.offset,←sizeOf f.type):Field→Sem (Nat×Nat)) (fun f=>(f.offset,((P.info? f.type).map (·.size)).getD 0)) fs.toList (by
    intro f hf
    simp only[Array.all_eq_true] at hall
    obtain ⟨j,hj,rfl⟩:=List.mem_iff_getElem.1 hf
    have:=hall j (by simpa using hj)
    obtain ⟨inf,hinf⟩:=Option.isSome_iff_exists.1 this
    have hinf':P.info? (fs.toList[j]).type = some inf:=by simpa using hinf
    simp only[Sem.run_bind,ZB hinf',Result.andThen_ok,Sem.run_pure,hinf',Option.map_some,Option.getD_some])
   rw[Array.mapM_eq_mapM_toList,Sem.run_map,e]
   simp only[Result.andThen_ok]
   congr 1
   apply Array.ext'
   simp
  refine Zz (u:= .agg vs'.toArray) (w':=w) ?_ (Post.here h hs (by simp only[MV];exact ⟨vs',rfl,f3,f2⟩))
  simp only[Instr.build,Sem.run_bind,zeroValue,typeInfo,run_program,Result.andThen_ok,hi,Sem.run_pure,hz,run_underlying ht,hmap,hpl]
  simp only[Value.cells]
  simp only[Array.toArray_toList] at f1
  rw[f1]
  rfl
 ·rename_i n e ht
  split at hc
  case h_2=>cases hc
  rename_i ie hie
  split at hc
  case h_2=>cases hc
  rename_i es hes
  split at hc
  case h_2=>cases hc
  rename_i i hi
  split at hc
  case h_2=>cases hc
  rename_i cs hz
  split at hc
  case isFalse=>cases hc
  rename_i hone
  simp only[Option.some.injEq] at hc
  subst hc
  simp only[Z5] at hs
  split at hs
  case h_2=>exact hs.elim
  rename_i qs hqs
  split at hs
  case h_2=>exact hs.elim
  rename_i gs hgs
  obtain ⟨m1,m2⟩:=compAP_ok ho hes hqs
  have hone':∀x∈cs.toList,x.oneCell'=true:=fun x hx=>by
   simp only[Array.all_eq_true] at hone
   obtain ⟨j,hj,rfl⟩:=List.mem_iff_getElem.1 hx
   exact hone j (by simpa using hj)
  obtain ⟨vs',f1,f2,f3⟩:=fill_ok (place:=fun i=>some (i * ie.size,ie.size)) (ps.toList.map fun p=>(p.1,η p.2)) qs _ gs cs.toList m1 m2 (ML_vals _) hone' hgs
  refine Zz (u:= .agg vs'.toArray) (w':=w) ?_ (Post.here h hs (by simp only[MV];exact ⟨vs',rfl,f3,f2⟩))
  simp only[Instr.build,Sem.run_bind,zeroValue,typeInfo,run_program,Result.andThen_ok,hi,Sem.run_pure,hz,run_underlying ht,ZB hie,hpl]
  simp only[Value.cells]
  simp only[Array.toArray_toList] at f1
  rw[f1]
  rfl
end
end Go.Gh
namespace Go.Gh
section
variable {P:Program} {w:World} {D:Nat→Prop} {H:GH} {Ω:List Nat} {K:GV→GH→Prop} {η:Operand→Value} {ρ:GE→Option GV}
theorem ceqL_len:∀{ks:List Nat} {as bs:List GV} {t:Bool},YL ks as bs=some t→as.length=ks.length∧bs.length=ks.length
 | [],[],[],_,_ => ⟨rfl,rfl⟩
 | k::ks,a::as,b::bs,t,h=>by
  simp only[YL] at h
  split at h
  ·rename_i x y h1 h2
   have:=ceqL_len h2
   simp[this]
  ·cases h
 | [],[],_ :: _,_,h=>by simp[YL] at h
 | [],_ :: _,_,_,h=>by simp[YL] at h
 | _ :: _,[],_,_,h=>by simp[YL] at h
 | _ :: _,_ :: _,[],_,h=>by simp[YL] at h
theorem ceqL_part:∀(ks ks':List Nat) {as bs:List GV} {t:Bool},YL (ks++ks') as bs=some t→∃x y,YL ks (as.take ks.length) (bs.take ks.length)=some x∧YL ks' (as.drop ks.length) (bs.drop ks.length)=some y∧t=(x&&y)
 | [],ks',as,bs,t,h=>⟨true,t,by simp[YL],by simpa using h,by simp⟩
 | k::ks,ks',a::as,b::bs,t,h=>by
  simp only[List.cons_append,YL] at h
  split at h
  ·rename_i x y h1 h2
   simp only[Option.some.injEq] at h
   obtain ⟨x',y',k1,k2,k3⟩:=ceqL_part ks ks' h2
   refine ⟨x&&x',y',by simp[YL,h1,k1],by simpa using k2,?_⟩
   rw[←h,k3,Bool.and_assoc]
  ·cases h
 | k::ks,ks',[],_,_,h=>by simp[YL] at h
 | k::ks,ks',_ :: _,[],_,h=>by simp[YL] at h
def mkT (P:Program) (t:TypeId) (vs:List Value):Value:=
 match P.underlying t with
 | some (.struct _)=> .agg vs.toArray
 | _ => vs.headD undef
theorem scalT_desc {d:Nat} {t:TypeId} {ks:List Nat} (h:scalT P d t=some ks):∃ds,P.underlying t=some ds∧((∃fs,ds = .struct fs)∨(aggD ds=false∧ks.length=1∧∀fs,ds ≠ .struct fs)):=by
 cases d with
 | zero=>simp[scalT] at h
 | succ d=>
  simp only[scalT] at h
  split at h
  ·rename_i hu;simp only[Option.some.injEq] at h;subst h;exact ⟨_,hu,.inr ⟨rfl,rfl,fun fs e=>by cases e⟩⟩
  ·rename_i hu;simp only[Option.some.injEq] at h;subst h;exact ⟨_,hu,.inr ⟨rfl,rfl,fun fs e=>by cases e⟩⟩
  ·rename_i hu;simp only[Option.some.injEq] at h;subst h;exact ⟨_,hu,.inr ⟨rfl,rfl,fun fs e=>by cases e⟩⟩
  ·rename_i fs hu;exact ⟨_,hu,.inl ⟨fs,rfl⟩⟩
  ·cases h
theorem part_mkT {f:Field} {d:Nat} {ks:List Nat} {i:TypeInfo} {n:Nat} {vs:List Value} (hk:scalT P d f.type=some ks) (hi:P.info? f.type=some i) (hoff:f.offset=n) (hs:i.size=ks.length) (hlen:n+ks.length≤vs.length) :
 (part f.type vs.toArray f.offset).run P w = .ok (mkT P f.type ((vs.drop n).take ks.length)) w:=by
 subst hoff
 obtain ⟨ds,hd,hc⟩:=scalT_desc hk
 rcases hc with ⟨fs,rfl⟩|⟨hag,h1,hns⟩
 ·simp only[part,Sem.run_bind,run_isAgg' hd,Result.andThen_ok,mkT,hd,aggD,if_true,ZB hi,Sem.run_pure]
  congr 2
  apply Array.ext'
  simp[List.extract,hs]
 ·simp only[part,Sem.run_bind,run_isAgg' hd,Result.andThen_ok,hag,Bool.false_eq_true,if_false]
  have hlt:f.offset<vs.length:=by omega
  have e:(vs.drop f.offset).take ks.length=[vs[f.offset]]:=by
   rw[h1,List.drop_eq_getElem_cons hlt,List.take_succ_cons,List.take_zero]
  have e2:mkT P f.type ((vs.drop f.offset).take ks.length)=vs[f.offset]:=by
   rw[e];simp only[mkT,hd]
   cases ds<;>first|rfl|exact absurd rfl (hns _)
  rw[e2]
  simp[hlt]
theorem ceqL_one {k:Nat} {a b:GV} {t:Bool} (h:YL [k] [a] [b]=some t):ceq k a b=some t:=by
 simp only[YL] at h
 split at h
 ·rename_i x y h1 h2
  simp only[Option.some.injEq] at h2 h
  rw[h1,←h,←h2];simp
 ·cases h
theorem ceq_0 {v u:Value} {t:Bool} (h:ceq 0 (.val v) (.val u)=some t):∃x y,v = .bool x∧u = .bool y∧t=decide (x=y):=by
 cases v<;>first|(cases h;done)|(cases u<;>first|(cases h;done)|skip)
 simp only[ceq,Option.some.injEq] at h
 exact ⟨_,_,rfl,rfl,h.symm⟩
theorem ceq_1 {v u:Value} {t:Bool} (h:ceq 1 (.val v) (.val u)=some t):∃j x y,v = .int j x∧u = .int j y∧t=decide (x=y):=by
 cases v<;>first|(cases h;done)|(cases u<;>first|(cases h;done)|skip)
 simp only[ceq] at h
 split at h
 ·rename_i e;subst e
  simp only[Option.some.injEq] at h
  exact ⟨_,_,_,rfl,rfl,h.symm⟩
 ·cases h
theorem ceq_2 {v u:Value} {t:Bool} (h:ceq 2 (.val v) (.val u)=some t):∃x y,v = .string x∧u = .string y∧t=decide (Z9 x=Z9 y):=by
 cases v<;>first|(cases h;done)|(cases u<;>first|(cases h;done)|skip)
 simp only[ceq,Option.some.injEq] at h
 exact ⟨_,_,rfl,rfl,h.symm⟩
mutual
theorem eq_T:∀(d:Nat) (t:TypeId) (ks:List Nat) (m:Nat) (vs us:List Value) (b:Bool),scalT P d t=some ks→d≤m→YL ks (vs.map .val) (us.map .val)=some b →
 (Op.equalIn (m+1) t (mkT P t vs) (mkT P t us)).run P w = .ok b w
 | 0,t,ks,m,vs,us,b,h,_,_ => by simp[scalT] at h
 | d+1,t,ks,m,vs,us,b,h,hm,hc=>by
  have hl:=ceqL_len hc
  simp only[List.length_map] at hl
  simp only[scalT] at h
  split at h
  ·rename_i hu;simp only[Option.some.injEq] at h;subst h
   simp only[List.length_cons,List.length_nil] at hl
   match vs,us,hl with
   | [v],[u],_ =>
    obtain ⟨x,y,rfl,rfl,rfl⟩:=ceq_0 (ceqL_one hc)
    simp only[mkT,hu,List.headD_cons]
    rw[run_equalIn_bool' w m t x y hu]
    rfl
  ·rename_i hu;simp only[Option.some.injEq] at h;subst h
   simp only[List.length_cons,List.length_nil] at hl
   match vs,us,hl with
   | [v],[u],_ =>
    obtain ⟨j,x,y,rfl,rfl,rfl⟩:=ceq_1 (ceqL_one hc)
    simp only[mkT,hu,List.headD_cons]
    rw[run_equalIn_int w m t j _ x y hu]
    rfl
  ·rename_i hu;simp only[Option.some.injEq] at h;subst h
   simp only[List.length_cons,List.length_nil] at hl
   match vs,us,hl with
   | [v],[u],_ =>
    obtain ⟨x,y,rfl,rfl,rfl⟩:=ceq_2 (ceqL_one hc)
    simp only[mkT,hu,List.headD_cons]
    rw[run_equalIn_string w m t x y hu]
    congr 1;rw[Bool.eq_iff_iff];simp[toList_chars]
  ·rename_i fs hu
   split at h
   ·cases h
   ·rename_i hst
    have hff:P.fieldsOf t=fs:=by simp[Program.fieldsOf,hu]
    have hr:=run_equalIn_struct (P:=P) w m t vs.toArray us.toArray (by rw[hff];exact hu) (by simpa using hst)
    simp only[mkT,hu]
    rw[hr,hff]
    have:=eq_F d 0 fs.toList ks m vs us b h (by omega) (by omega) (by omega) (by simpa using hc)
    exact this
  ·cases h
theorem eq_F:∀(d n:Nat) (fs:List Field) (ks:List Nat) (m:Nat) (vs us:List Value) (b:Bool),scalF P d n fs=some ks→d<m+1→n+ks.length≤vs.length→n+ks.length≤us.length→YL ks ((vs.map .val).drop n) ((us.map .val).drop n)=some b →
 (Op.eqFields m vs.toArray us.toArray fs).run P w = .ok b w
 | d,_,[],ks,m,vs,us,b,h,_,_,_,hc=>by
  have hk:ks=[]:=by cases d<;>simp[scalF] at h<;>exact h
  subst hk
  have hb:b=true:=by
   generalize (vs.map GV.val).drop _ = A at hc
   generalize (us.map GV.val).drop _ = B at hc
   cases A<;>cases B<;>simp[YL] at hc
   exact hc
  subst hb
  simp[Op.eqFields]
 | 0,_,_ :: _,ks,m,vs,us,b,h,_,_,_,hc=>by simp[scalF] at h
 | d+1,n,f::fs,ks,m,vs,us,b,h,hm,hl1,hl2,hc=>by
  simp only[scalF] at h
  split at h
  case isTrue=>cases h
  rename_i hcond
  split at h
  case h_2=>cases h
  rename_i ks1 i hk1 hi
  split at h
  case isFalse=>cases h
  rename_i hsz
  split at h
  case h_2=>cases h
  rename_i ks2 hk2
  simp only[Option.some.injEq] at h;subst h
  simp only[not_or,Decidable.not_not] at hcond
  obtain ⟨hname,hoff⟩:=hcond
  simp only[List.length_append] at hl1 hl2
  obtain ⟨x,y,c1,c2,c3⟩:=ceqL_part ks1 ks2 hc
  cases m with
  | zero=>omega
  | succ m=>
   have p1:=part_mkT (w:=w) (vs:=vs) hk1 hi hoff hsz (by omega)
   have p2:=part_mkT (w:=w) (vs:=us) hk1 hi hoff hsz (by omega)
   have q:=eq_T d f.type ks1 m ((vs.drop n).take ks1.length) ((us.drop n).take ks1.length) x hk1 (by omega) (by simpa[List.map_take,List.map_drop] using c1)
   have r:=eq_F d (n+ks1.length) fs ks2 (m+1) vs us y hk2 (by omega) (by omega) (by omega) (by simpa[List.drop_drop] using c2)
   simp only[Op.eqFields]
   rw[if_pos hname]
   simp only[Sem.run_bind,p1,p2,Result.andThen_ok,q,Sem.run_ite]
   rw[c3]
   cases x
   ·simp
   ·simp[r]
end
theorem vals_of_ceqL:∀{ks:List Nat} {as bs:List GV} {t:Bool},YL ks as bs=some t→∃vs us:List Value,as=vs.map .val ∧ bs=us.map .val
 | [],[],[],_,_ => ⟨[],[],rfl,rfl⟩
 | k::ks,a::as,b::bs,t,h=>by
  simp only[YL] at h
  split at h
  ·rename_i x y h1 h2
   obtain ⟨vs,us,e1,e2⟩:=vals_of_ceqL h2
   have:∃v u,a = .val v∧b = .val u:=by
    unfold ceq at h1
    split at h1
    ·exact ⟨_,_,rfl,rfl⟩
    ·exact ⟨_,_,rfl,rfl⟩
    ·exact ⟨_,_,rfl,rfl⟩
    ·cases h1
   obtain ⟨v,u,rfl,rfl⟩:=this
   exact ⟨v::vs,u::us,by simp[e1],by simp[e2]⟩
  ·cases h
 | [],[],_ :: _,_,h=>by simp[YL] at h
 | [],_ :: _,_,_,h=>by simp[YL] at h
 | _ :: _,[],_,_,h=>by simp[YL] at h
 | _ :: _,_ :: _,[],_,h=>by simp[YL] at h
theorem ML.vals_inv:∀{vs us:List Value} {F:List Nat},ML w D (vs.map .val) us F→us=vs
 | [],us,F,h=>by simp only[List.map_nil,ML] at h;exact h.1
 | v::vs,us,F,h=>by
  simp only[List.map_cons,ML] at h
  obtain ⟨v',us',F1,F2,h1,_,h3,h4⟩:=h
  rw[h1,MV.val_inv h3,ML.vals_inv h4]
theorem s_aeq {op:BinOp} {neg:Bool} {t:TypeId} {ks:List Nat} {x y:Operand} {ex ey:GE} {fs:Array Field} (h:St w D H Ω) (ho:OM w D η ρ) (ht:P.underlying t=some (.struct fs)) (hk:scalT P 60 t=some ks) (hg:P.eqGuardType P.depth t=false)
 (hop:(op = .eql ∧ neg=false)∨(op = .neq ∧ neg=true)) (hx:ZQ x=some ex) (hy:ZQ y=some ey)
 (hs:Z5 P (.aeq neg ks ex ey) ρ H K):Yld P (Post w D Ω K) ((do pure (Next.value (←(do eqGuard op t x y (η x) (η y);Go.binOp op t (η x) (η y)))):Sem Next).run P w):=by
 simp only[Z5] at hs
 obtain ⟨g,hgx,hs⟩:=ZT hs
 have hv:=ho x ex g hx hgx
 cases g with
 | agg as=>
  obtain ⟨g2,hg2,hs2⟩:=ZT hs
  clear hs
  have hv2:=ho y ey g2 hy hg2
  cases g2 with
  | agg bs=>
   simp only at hs2
   split at hs2
   case h_2=>exact hs2.elim
   rename_i b hb
   obtain ⟨vs,us,rfl,rfl⟩:=vals_of_ceqL hb
   simp only[MV] at hv hv2
   obtain ⟨vs',e1,_,m1⟩:=hv
   obtain ⟨us',e2,_,m2⟩:=hv2
   have:=ML.vals_inv m1
   subst this
   have:=ML.vals_inv m2
   subst this
   have q:=eq_T (P:=P) (w:=w) 60 t ks 9999 vs' us' b hk (by omega) hb
   simp only[mkT,ht] at q
   rw[e1,e2]
   refine Zz (u:= .bool (if neg then !b else b)) (w':=w) ?_ (Post.here h hs2 (MV.val_mk _))
   rcases hop with ⟨rfl,rfl⟩|⟨rfl,rfl⟩
   ·simp only[Sem.run_bind,run_eqGuard_agg w _ t x y _ _ hg,Result.andThen_ok,run_eql_struct,q];simp
   ·simp only[Sem.run_bind,run_eqGuard_agg w _ t x y _ _ hg,Result.andThen_ok,run_neq_struct,q];simp
  | _ => exact hs2.elim
 | _ => exact hs.elim
theorem s_aidx {t e:TypeId} {n:Nat} {d:TypeDesc} {x i:Operand} {ex ei:GE} (h:St w D H Ω) (ho:OM w D η ρ) (hx:ZQ x=some ex) (hi:ZQ i=some ei) (ht:P.underlying t=some (.array n e)) (hd:P.underlying e=some d) (hag:aggD d=false) {ie:TypeInfo} (hie:P.info? e=some ie) (hsz:ie.size=1)
 (hs:Z5 P (.aidx n ex ei) ρ H K):Yld P (Post w D Ω K) ((do pure (Next.value (←Instr.index t (η x) (η i))):Sem Next).run P w):=by
 simp only[Z5] at hs
 obtain ⟨gi,hgi,hs⟩:=ZT hs
 have hvi:=ho i ei gi hi hgi
 split at hs
 case h_2=>exact hs.elim
 rename_i j k
 obtain ⟨g,hg,hs⟩:=ZT hs
 have hv:=ho x ex g hx hg
 cases g with
 | agg gs=>
  simp only at hs
  split at hs
  case h_2=>exact hs.elim
  rename_i g' hg'
  obtain ⟨h0,h1,hk⟩:=hs
  simp only[MV] at hv
  obtain ⟨vs,e1,_,m1⟩:=hv
  obtain ⟨pre,v,post,F1,Fi,F2,k1,k2,k3,k4,_⟩:=ML.split gs vs [] k.toNat g' m1 hg'
  have hF:Fi=[]:=by have:=k3.symm;simp at this;exact this.2.1
  subst hF
  rw[MV.val_inv hvi,e1]
  refine Zz (u:=v) (w':=w) ?_ (Post.here h hk k4)
  have hc:0≤k∧k<(n:Int):=⟨h0,h1⟩
  have Z6:vs[k.toNat]? = some v:=by rw[k1,←k2];simp
  simp only[Instr.index,asIntOf,Sem.run_bind,Sem.run_pure,Result.andThen_ok,run_underlying ht,hc,and_self,if_true,ZB hie,hsz,Nat.mul_one,part,run_isAgg' hd,hag,Bool.false_eq_true,if_false]
  simp[Z6]
 | _ => exact hs.elim
end
end Go.Gh
namespace Go.Gh
section
variable {P:Program} {w:World} {D:Nat→Prop} {H:GH} {Ω:List Nat} {K:GV→GH→Prop} {η:Operand→Value} {ρ:GE→Option GV}
theorem lit_ok {sz:Nat} {ag:Bool} (ho:OM w D η ρ):∀(ps:List (Nat×Operand)) (es:List (Nat×GE)) (qs:List (Nat×GV)) (i:Nat) (gs:List GV) (cs:Array Value),
 compP ps=some es→Zn ρ es=some qs→Yq sz ag i qs=some gs→cs.size=(i+ps.length) * sz →
 ∃fl:List Value,Instr.fill (fun i=>some (i * sz,sz)) cs (ps.map fun p=>(p.1,η p.2))=some (cs.toList.take (i * sz)++fl).toArray ∧ MF w D sz gs fl []∧gs.length=ps.length
 | [],es,qs,i,gs,cs,h,hg,hl,hsz=>by
  simp[compP] at h;subst h;simp[Zn] at hg;subst hg;simp[Yq] at hl;subst hl
  refine ⟨[],?_,by simp[MF],rfl⟩
  simp only[List.map_nil,Instr.fill,List.append_nil]
  congr 1
  apply Array.ext'
  simp at hsz
  simp[←hsz,List.take_of_length_le]
 | (j,x)::ps,es,qs,i,gs,cs,h,hg,hl,hsz=>by
  simp only[compP] at h
  split at h
  case h_2=>cases h
  rename_i e es' h1 h2
  simp only[Option.some.injEq] at h;subst h
  simp only[Zn] at hg
  split at hg
  case h_2=>cases hg
  rename_i g gs' k1 k2
  simp only[Option.some.injEq] at hg;subst hg
  simp only[Yq] at hl
  split at hl
  case isFalse=>cases hl
  rename_i hcond
  obtain ⟨rfl,c1,c2,c3⟩:=hcond
  simp only[Option.map_eq_some_iff] at hl
  obtain ⟨gs2,hl2,rfl⟩:=hl
  have hv:=ho x e g h1 k1
  have hs:=MV.gsize hv
  have hok:=MV.okc hv c3
  simp only[List.length_cons] at hsz
  have hb:i * sz+sz≤cs.size:=by
   rw[hsz]
   have:(i+1) * sz≤(i+(ps.length+1)) * sz:=Nat.mul_le_mul_right _ (by omega)
   rw[Nat.add_mul] at this;omega
  obtain ⟨fl,f1,f2,f3⟩:=lit_ok ho ps es' gs' (i+1) gs2 (YP cs (i * sz) (η x).cells.toList) h2 k2 hl2 (by rw[YN,hsz];congr 1;omega)
  refine ⟨(η x).cells.toList ++ fl,?_,?_,by simp[f3]⟩
  ·simp only[List.map_cons,Instr.fill]
   have hc2:(decide ((η x).cells.size ≠ sz)||decide (i * sz+(η x).cells.size > cs.size))=false:=by simp;omega
   rw[hc2]
   simp only[Bool.false_eq_true,if_false]
   rw[foldl_put',f1]
   congr 2
   rw[YF _ _ _ (by simp;omega)]
   have hl1:(cs.toList.take (i * sz)).length = i * sz:=by simp;omega
   have e1:(i+1) * sz=(cs.toList.take (i * sz)++(η x).cells.toList).length := by simp[Nat.add_mul];omega
   rw[←List.append_assoc,e1,List.take_left]
   simp
  ·simp only[MF]
   exact ⟨η x,fl,[],[],rfl,by omega,hok,rfl,hv,f2⟩
theorem s_bslice {t : TypeId} {n : Nat} {ps : Array (Nat × Operand)} {go : GOp} (h : St w D H Ω) (ho : OM w D η ρ) (hc : cBuildSlice P t n ps = some go) (hs : Z5 P go ρ H K) :
    Yld P (Post w D Ω K) ((do pure (Next.value (← Instr.buildSlice t n (ps.map fun (i, x) => (i, η x)))) : Sem Next).run P w) := by
  have hpl : (ps.map fun (i, x) => (i, η x)).toList = ps.toList.map fun p => (p.1, η p.2) := by simp
  simp only [cBuildSlice] at hc
  split at hc
  case h_2 => cases hc
  rename_i e ht
  split at hc
  case h_2 => cases hc
  rename_i es hes
  split at hc
  case h_2 => cases hc
  rename_i i hi
  split at hc
  case h_2 => cases hc
  rename_i d hd
  split at hc
  case h_2 => cases hc
  rename_i z hz
  split at hc
  case isFalse => cases hc
  rename_i hcond
  obtain ⟨hbig, hzs, hpos⟩ := hcond
  simp only [Option.some.injEq] at hc
  subst hc
  simp only [Z5] at hs
  split at hs
  case h_2 => exact hs.elim
  rename_i qs hqs
  split at hs
  case h_2 => exact hs.elim
  rename_i gs hgs
  obtain ⟨hlen, hk⟩ := hs
  have hpn : ps.toList.length = n := by
    have : ∀ (ps : List (Nat × Operand)) (es : List (Nat × GE)) (qs : List (Nat × GV)) (j : Nat) (gs : List GV), compP ps = some es → Zn ρ es = some qs → Yq i.size (aggD d) j qs = some gs → gs.length = ps.length := by
      intro ps
      induction ps with
      | nil => intro es qs j gs h hg hl; simp [compP] at h; subst h; simp [Zn] at hg; subst hg; simp [Yq] at hl; subst hl; rfl
      | cons p ps ih =>
        intro es qs j gs h hg hl
        obtain ⟨a, b⟩ := p
        simp only [compP] at h
        split at h
        case h_2 => cases h
        rename_i e es' h1 h2
        simp only [Option.some.injEq] at h; subst h
        simp only [Zn] at hg
        split at hg
        case h_2 => cases hg
        rename_i g gs' k1 k2
        simp only [Option.some.injEq] at hg; subst hg
        simp only [Yq] at hl
        split at hl
        case isFalse => cases hl
        simp only [Option.map_eq_some_iff] at hl
        obtain ⟨gs2, hl2, rfl⟩ := hl
        simp [ih es' gs' (j + 1) gs2 h2 k2 hl2]
    rw [← this ps.toList es qs 0 gs hes hqs hgs, hlen]
  obtain ⟨fl, f1, f2, f3⟩ := lit_ok ho ps.toList es qs 0 gs ((Array.range (n * i.size)).map (z.cells[· % z.cells.size]!)) hes hqs hgs (by simp [hpn])
  simp only [Nat.zero_mul, List.take_zero, List.nil_append] at f1
  have hfl := MF.len _ _ _ _ f2
  obtain ⟨c1, c2⟩ := h.allocOwn fl.toArray e i.size gs (by simp [hfl]) (by
    have hnl : n ≤ n * i.size := Nat.le_mul_of_pos_right n hpos
    unfold Y9; omega) (by rw [← hfl]; simpa using f2)
  refine Zz (u := .slice (some ⟨w.heap.size, 0, none⟩) n n) (w' := w.alloc (.cells fl.toArray e)) ?_ ⟨_, _, D, _, hk _ c1.nn, ?_, c1, c2⟩
  · have hb : ¬ n * i.size > 2 ^ 24 := by have : (2 : Nat) ^ 24 = 16777216 := by decide
                                          omega
    by_cases h0 : n * i.size = 0
    · have hcells : (Array.range (n * i.size)).map ((#[] : Array Value)[· % (#[] : Array Value).size]!) = (Array.range (n * i.size)).map (z.cells[· % z.cells.size]!) := by
        rw [h0]; apply Array.ext'; simp
      simp only [Instr.buildSlice, Sem.run_bind, run_underlying ht, Result.andThen_ok, ZB hi, if_neg hb, Sem.run_pure, if_pos h0, hcells, hpl, f1]
      simp [newRow]
    · simp only [Instr.buildSlice, Sem.run_bind, run_underlying ht, Result.andThen_ok, ZB hi, if_neg hb, Sem.run_pure, if_neg h0, hpl, zeroValue, typeInfo, run_program, hi, hz, f1]
      simp [newRow]
  · simp only [MV]
    exact ⟨trivial, .inl ⟨w.heap.size, n, _, e, (0, 0), rfl, by simp, Nat.le_refl _, hp_new w _, by simp [hfl, hlen]⟩⟩
theorem s_bslro {t : TypeId} {n : Nat} {ps : Array (Nat × Operand)} {go : GOp} (h : St w D H Ω) (ho : OM w D η ρ) (hc : cBuildSlice P t n ps = some go) (hs : Z5 P (roB go) ρ H K) :
    Yld P (Post w D Ω K) ((do pure (Next.value (← Instr.buildSlice t n (ps.map fun (i, x) => (i, η x)))) : Sem Next).run P w) := by
  have hpl : (ps.map fun (i, x) => (i, η x)).toList = ps.toList.map fun p => (p.1, η p.2) := by simp
  simp only [cBuildSlice] at hc
  split at hc
  case h_2 => cases hc
  rename_i e ht
  split at hc
  case h_2 => cases hc
  rename_i es hes
  split at hc
  case h_2 => cases hc
  rename_i i hi
  split at hc
  case h_2 => cases hc
  rename_i d hd
  split at hc
  case h_2 => cases hc
  rename_i z hz
  split at hc
  case isFalse => cases hc
  rename_i hcond
  obtain ⟨hbig, hzs, hpos⟩ := hcond
  simp only [Option.some.injEq] at hc
  subst hc
  simp only [roB, Z5] at hs
  split at hs
  case h_2 => exact hs.elim
  rename_i qs hqs
  split at hs
  case h_2 => exact hs.elim
  rename_i gs hgs
  obtain ⟨hlen, hk⟩ := hs
  have hpn : ps.toList.length = n := by
    have : ∀ (ps : List (Nat × Operand)) (es : List (Nat × GE)) (qs : List (Nat × GV)) (j : Nat) (gs : List GV), compP ps = some es → Zn ρ es = some qs → Yq i.size (aggD d) j qs = some gs → gs.length = ps.length := by
      intro ps
      induction ps with
      | nil => intro es qs j gs h hg hl; simp [compP] at h; subst h; simp [Zn] at hg; subst hg; simp [Yq] at hl; subst hl; rfl
      | cons p ps ih =>
        intro es qs j gs h hg hl
        obtain ⟨a, b⟩ := p
        simp only [compP] at h
        split at h
        case h_2 => cases h
        rename_i e es' h1 h2
        simp only [Option.some.injEq] at h; subst h
        simp only [Zn] at hg
        split at hg
        case h_2 => cases hg
        rename_i g gs' k1 k2
        simp only [Option.some.injEq] at hg; subst hg
        simp only [Yq] at hl
        split at hl
        case isFalse => cases hl
        simp only [Option.map_eq_some_iff] at hl
        obtain ⟨gs2, hl2, rfl⟩ := hl
        simp [ih es' gs' (j + 1) gs2 h2 k2 hl2]
    rw [← this ps.toList es qs 0 gs hes hqs hgs, hlen]
  obtain ⟨fl, f1, f2, f3⟩ := lit_ok ho ps.toList es qs 0 gs ((Array.range (n * i.size)).map (z.cells[· % z.cells.size]!)) hes hqs hgs (by simp [hpn])
  simp only [Nat.zero_mul, List.take_zero, List.nil_append] at f1
  have hfl := MF.len _ _ _ _ f2
  obtain ⟨c1, c2⟩ := h.allocRo (.cells fl.toArray e)
  refine Zz (u := .slice (some ⟨w.heap.size, 0, none⟩) n n) (w' := w.alloc (.cells fl.toArray e)) ?_ ⟨_, _, _, _, hk, ?_, c1, c2⟩
  · have hb : ¬ n * i.size > 2 ^ 24 := by have : (2 : Nat) ^ 24 = 16777216 := by decide
                                          omega
    by_cases h0 : n * i.size = 0
    · have hcells : (Array.range (n * i.size)).map ((#[] : Array Value)[· % (#[] : Array Value).size]!) = (Array.range (n * i.size)).map (z.cells[· % z.cells.size]!) := by
        rw [h0]; apply Array.ext'; simp
      simp only [Instr.buildSlice, Sem.run_bind, run_underlying ht, Result.andThen_ok, ZB hi, if_neg hb, Sem.run_pure, if_pos h0, hcells, hpl, f1]
      simp [newRow]
    · simp only [Instr.buildSlice, Sem.run_bind, run_underlying ht, Result.andThen_ok, ZB hi, if_neg hb, Sem.run_pure, if_neg h0, hpl, zeroValue, typeInfo, run_program, hi, hz, f1]
      simp [newRow]
  · simp only [MV]
    have hnl : n ≤ n * i.size := Nat.le_mul_of_pos_right n hpos
    refine ⟨trivial, .inr ⟨w.heap.size, 0, n, fl, by rw [hlen], by omega, by unfold Y9; omega, .inr rfl, ⟨fl.toArray, e, (0, 0), hp_new w _, fun j u hj => by simpa using hj⟩, MF.keep c2.kp (fun b hb hin => h.dj b hin hb) (fun b hb => .inl hb) _ _ _ _ (by simp) f2⟩⟩
end
end Go.Gh
namespace Go.Gh
section
variable {P:Program} {w:World} {D:Nat→Prop} {H:GH} {Ω:List Nat} {K:GV→GH→Prop} {η:Operand→Value} {ρ:GE→Option GV}
end
end Go.Gh
namespace Go.Gh
section
variable {P:Program} {w:World} {D:Nat→Prop} {H:GH} {Ω:List Nat} {K:GV→GH→Prop} {η:Operand→Value} {ρ:GE→Option GV}
theorem YJ {H:GH} {r sz:Nat} {es:List GV} (h:Z6 H r=some (sz,es)):Z1 H r es=H:=by
 induction H with
 | nil=>rfl
 | cons x H ih=>
  obtain ⟨q,s,gs⟩:=x
  simp only[Z6] at h
  simp only[Z1]
  split
  ·rename_i e;rw[if_pos e] at h;simp at h;simp[h.2]
  ·rename_i e;rw[if_neg e] at h;rw[ih h]
theorem s_copy {t u ty e:TypeId} {cs:Array Bool} {i:TypeInfo} {d s:Operand} {ed es:GE} (h:St w D H Ω) (ho:OM w D η ρ) (hd:ZQ d=some ed) (hs':ZQ s=some es) (ht:P.underlying t=some (.slice e))
 (hi:P.info? e=some i) (hs:Z5 P (.copy i.size ed es) ρ H K) :
 Yld P (Post w D Ω K) ((builtin .copy #[t,u] ty cs #[η d,η s]).run P w):=by
 simp only[Z5] at hs
 obtain ⟨gs,hgs,hs⟩:=ZT hs
 have hvs:=ho s es gs hs' hgs
 split at hs
 case h_2=>exact hs.elim
 rename_i fs hfs
 obtain ⟨cl,hsrc,hmf⟩:=src_ok (P:=P) h hvs hfs
 obtain ⟨gd,hgd,hs⟩:=ZT hs
 have hvd:=ho d ed gd hd hgd
 split at hs
 case h_2=>exact hs.elim
 rename_i r sz' n
 split at hs
 case h_2=>exact hs.elim
 rename_i sz'' es' hr
 obtain ⟨h1,h2,hn,hk⟩:=hs
 subst h1 h2
 obtain ⟨s1,s2,s3⟩:=hsrc
 have hmin:Nat.min fs.length n=min fs.length n:=rfl
 have hle1:min fs.length n≤fs.length:=Nat.min_le_left _ _
 have hle2:min fs.length n≤n:=Nat.min_le_right _ _
 have htk:fs.take (min fs.length n)=fs.take n:=by rw[←List.take_take];exact List.take_of_length_le (by simp;omega)
 have hln:(fs.take n).length = min fs.length n:=by rw[←htk,List.length_take,Nat.min_eq_left hle1]
 generalize hmm:min fs.length n=mm at *
 have s4:=s3 mm hle1 w rfl
 obtain ⟨G1,G2,g0,g1,_⟩:=MF.part i.size (mm) hmf
 have e0:G1=[]∧G2=[]:=by simpa using g0.symm
 obtain ⟨rfl,rfl⟩:=e0
 have hfl:(cl.take (mm * i.size)).length = mm * i.size:=by
  rw[List.length_take,s2]
  exact Nat.min_eq_left (Nat.mul_le_mul_right _ hle1)
 have hok:=MF.ok _ _ _ _ g1
 have hvd':=hvd
 simp only[MV] at hvd
 rcases hvd.2 with ⟨b,cap,c,T,fz,q0,hp,q1,q2,q3⟩|⟨rfl,a,hp⟩
 ·obtain ⟨Ω1,F,Ω2,hΩ,hR,hput,_⟩:=HM.take h.hm hr
  rcases hR with ⟨b',c',T',fz',F',k1,k2,k3,k4,k5,k6,k7⟩|⟨k1,_,_⟩
  case inr=>omega
  have:b'=b:=by omega
  subst this
  rw[q2] at k2
  simp only[Option.some.injEq,Obj.cells.injEq] at k2
  obtain ⟨rfl,rfl,rfl⟩:=k2
  have hle:mm * i.size≤es'.length * i.size:=Nat.mul_le_mul_right _ (by omega)
  obtain ⟨w',z1,z2,z3,z4,z5,z6⟩:=Yf (P:=P) (cl.take (mm * i.size)) w b' 0 0 c T fz q2 k3 (by rw[hfl];omega) hok
  obtain ⟨B1,B2,b1,_,b3⟩:=MF.part i.size (mm) k7
  subst k6 b1 hΩ
  have hnd:=h.nd
  have hbΩ:b'∈Ω1++((b'::(B1++B2))++Ω2):=by simp
  have hbD:¬D b':=h.dj _ hbΩ
  have hsub:(b'::B2).Sublist (b'::(B1++B2)):=List.Sublist.cons_cons _ (List.sublist_append_right _ _)
  have hnd2:=nodup_mid hnd hsub
  have hb1:∀x∈Ω1++Ω2,x≠b':=fun x hx e=>by
   subst e
   simp only[List.nodup_append,List.nodup_cons,List.mem_append,List.mem_cons,List.cons_append] at hnd hx
   rcases hx with hx|hx
   ·exact hnd.2.2 _ hx _ (.inl rfl) rfl
   ·exact hnd.2.1.1 (.inr hx)
  have hb2:∀x∈B2,x≠b':=fun x hx e=>by
   subst e
   simp only[List.nodup_append,List.nodup_cons,List.mem_append,List.cons_append] at hnd
   exact hnd.2.1.1 (.inl (.inr hx))
  have hMF:=MF.append i.size (MF.keep z3 (fun x hx e=>hbD (e▸hx)) (fun _ h=>h) i.size _ _ [] (by simp) g1) (MF.keep z3 (fun x hx e=>hbD (e▸hx)) (fun _ h=>h) i.size _ _ B2 hb2 b3)
  rw[htk] at hMF
  have hlen:(fs.take n++es'.drop mm).length = es'.length:=by rw[List.length_append,hln,List.length_drop];omega
  refine Zz (s:=Builtin.copy_ #[t,u] ty #[η d,η s]) (u:= .int .i64 (mm:Nat)) (w':=w') ?_ ⟨_,_,D,Ω1++((b'::B2)++Ω2),hk,MV.val_mk _,⟨hput w' D (fun x=>x≠b') _ _ z3 (fun x hx e=>hbD (e▸hx)) (fun _ h=>h) hb1 ?_,hnd2,by rw[Ym];exact h.nn,fun x hx=>h.dj x (mem_mid hsub hx),fun x hx=>Nat.lt_of_lt_of_le (h.ds x hx) z3.size⟩,
   ⟨fun _ h=>h,fun _ _ h=> .inl h,fun x hx _ => mem_mid hsub hx,z3.mono fun x _ hx e=>hx (e▸hbΩ),z4,z5,z6⟩⟩
  ·rw[hp]
   simp only[Builtin.copy_,List.getElem?_toArray,List.getElem?_cons_zero,List.getElem?_cons_succ,Sem.run_bind,run_underlying ht,Result.andThen_ok,s1,ZB hi,hmin,s4,Sem.run_pure,Nat.zero_mul]
   rw[z1];rfl
  ·refine .inl ⟨b',_,T,fz,B2,q0,z2,?_,by rw[YN,hlen];exact k4,by omega,rfl,?_⟩
   ·unfold Thaw at *;rw[YN];exact k3
   ·rw[hlen,Nat.add_zero,YF _ _ _ (by rw[hfl];omega)]
    have e5:(c.toList.take (es'.length * i.size)).drop (mm * i.size)=(c.toList.drop (mm * i.size)).take (es'.length * i.size-mm * i.size):=by rw[List.drop_take]
    rw[e5] at hMF
    simp only[List.take_zero,List.nil_append,Nat.zero_add,hfl]
    have e6:(cl.take (mm * i.size)).take (es'.length * i.size)=cl.take (mm * i.size):=List.take_of_length_le (by rw[hfl];exact hle)
    rw[List.take_append,e6,hfl]
    simpa using hMF
 ·have hm0:mm=0:=by omega
  subst hm0
  simp only[List.take_zero,List.drop_zero,List.nil_append,YJ hr] at hk
  refine Zz (s:=Builtin.copy_ #[t,u] ty #[η d,η s]) (u:= .int .i64 (0:Nat)) (w':=w) ?_ (Post.here h hk (MV.val_mk _))
  rw[hp]
  simp only[Builtin.copy_,List.getElem?_toArray,List.getElem?_cons_zero,List.getElem?_cons_succ,Sem.run_bind,run_underlying ht,Result.andThen_ok,s1,ZB hi,hmin,s4]
  simp only[Nat.zero_mul,List.take_zero]
  cases a<;>rfl
theorem zc_ok {z:Value} (h:z.cells.all (·.oneCell')=true) (n:Nat):∀x∈(Builtin.zeroCells z.cells n).toList,x.oneCell'=true:=by
 intro x hx
 simp only[Builtin.zeroCells,Array.toList_map,List.mem_map,Array.toList_range,List.mem_range] at hx
 obtain ⟨i,hi,rfl⟩:=hx
 have hp:0<z.cells.size:=by
  rcases Nat.eq_zero_or_pos z.cells.size with e|e
  ·rw[e] at hi;omega
  ·exact e
 have hlt:i % z.cells.size<z.cells.size:=Nat.mod_lt _ hp
 rw[getElem!_pos z.cells _ hlt]
 exact (Array.all_eq_true.1 h) _ hlt
theorem St.cutK {w w':World} {D:Nat→Prop} {H:GH} {Ω:List Nat} (h:St w D H Ω) {r sz k:Nat} {es:List GV} (hr:Z6 H r=some (sz,es)) (hkl:k≤es.length) (hk:Kept w w' (fun x=>r≠2 * x))
 (hos:w'.os=w.os) (htp:w'.tape=w.tape) (hou:w'.output=w.output)
 (hb:∀b c T fz,r=2 * b→w.heap[b]? = some (Obj.cells c T fz)→Thaw c fz→es.length * sz≤c.size→∃c',w'.heap[b]? = some (Obj.cells c' T fz)∧c'.size=c.size∧c'.toList.take (k * sz)=c.toList.take (k * sz)) :
 ∃Ω',St w' D (Z1 H r (es.take k)) Ω'∧Ev w D Ω w' D Ω':=by
 obtain ⟨Ω1,F,Ω2,hΩ,hR,hput,_⟩:=HM.take h.hm hr
 rcases hR with ⟨b,c,T,fz,F',k1,k2,k3,k4,k5,k6,k7⟩|⟨k1,k2,k3⟩
 ·obtain ⟨c',c1,c2,c3⟩:=hb b c T fz k1 k2 k3 k4
  obtain ⟨B1,B2,b1,b2,_⟩:=MF.part sz k k7
  subst k6 b1 hΩ
  have hnd:=h.nd
  have hbΩ:b∈Ω1++((b::(B1++B2))++Ω2):=by simp
  have hbD:¬D b:=h.dj _ hbΩ
  have hsub:(b::B1).Sublist (b::(B1++B2)):=List.Sublist.cons_cons _ (List.sublist_append_left _ _)
  have hnd2:=nodup_mid hnd hsub
  have hb1:∀x∈Ω1++Ω2,r≠2 * x:=fun x hx e=>by
   have:x=b:=by omega
   subst this
   simp only[List.nodup_append,List.nodup_cons,List.mem_append,List.mem_cons,List.cons_append] at hnd hx
   rcases hx with hx|hx
   ·exact hnd.2.2 _ hx _ (.inl rfl) rfl
   ·exact hnd.2.1.1 (.inr hx)
  have hb2:∀x∈B1,r≠2 * x:=fun x hx e=>by
   have:x=b:=by omega
   subst this
   simp only[List.nodup_append,List.nodup_cons,List.mem_append,List.cons_append] at hnd
   exact hnd.2.1.1 (.inl (.inl hx))
  have hDr:∀x,D x→r≠2 * x:=fun x hx e=>by
   have:x=b:=by omega
   subst this
   exact hbD hx
  have hMF:=MF.keep hk hDr (fun _ h=>h) sz _ _ B1 hb2 b2
  have hle:k * sz≤es.length * sz:=Nat.mul_le_mul_right _ hkl
  refine ⟨Ω1++((b::B1)++Ω2),⟨hput w' D (fun x=>r≠2 * x) _ _ hk hDr (fun _ h=>h) hb1 ?_,hnd2,by rw[Ym];exact h.nn,fun x hx=>h.dj x (mem_mid hsub hx),fun x hx=>Nat.lt_of_lt_of_le (h.ds x hx) hk.size⟩,
   ⟨fun _ h=>h,fun _ _ h=> .inl h,fun x hx _ => mem_mid hsub hx,hk.mono ?_,hos,htp,hou⟩⟩
  ·have e1:(es.take k).length = k:=by rw[List.length_take];omega
   refine .inl ⟨b,c',T,fz,B1,k1,c1,?_,by rw[e1,c2];omega,by rw[e1];omega,rfl,?_⟩
   ·unfold Thaw at *;rw[c2];exact k3
   ·rw[e1,c3]
    rw[List.take_take,Nat.min_eq_left hle] at hMF
    exact hMF
  ·intro x _ hx e
   have:x=b:=by omega
   subst this
   exact hx hbΩ
 ·subst k2 k3 hΩ
  have hne:∀x:Nat,r≠2 * x:=fun x e=>by omega
  exact ⟨_,⟨hput w' D (fun x=>r≠2 * x) _ [] hk (fun x _ => hne x) (fun _ h=>h) (fun x _ => hne x) (.inr ⟨⟨k1.1,fun h4 h5=>(k1.2 h4 h5).keep hk (fun x _ => hne x) (fun _ h=>h)⟩,by simp,rfl⟩),h.nd,by rw[Ym];exact h.nn,h.dj,fun x hx=>Nat.lt_of_lt_of_le (h.ds x hx) hk.size⟩,
   ⟨fun _ h=>h,fun _ _ h=> .inl h,fun x hx _ => hx,hk.mono fun x _ _ => hne x,hos,htp,hou⟩⟩
theorem s_clr {t ty e:TypeId} {cs:Array Bool} {i:TypeInfo} {z:Value} {x:Operand} {ex:GE} (h:St w D H Ω) (ho:OM w D η ρ) (hx:ZQ x=some ex) (ht:P.underlying t=some (.slice e))
 (hi:P.info? e=some i) (hz:i.zero=some z) (hzs:z.cells.size=i.size) (hzo:z.cells.all (·.oneCell')=true) (hs:Z5 P (.clr i.size ex) ρ H K) :
 Yld P (Post w D Ω K) ((builtin .clear #[t] ty cs #[η x]).run P w):=by
 simp only[Z5] at hs
 obtain ⟨gd,hgd,hs⟩:=ZT hs
 have hvd:=ho x ex gd hx hgd
 split at hs
 case h_2=>exact hs.elim
 rename_i r sz' k n
 split at hs
 case h_2=>exact hs.elim
 rename_i sz'' es' hr
 obtain ⟨h1,h2,hn,hk⟩:=hs
 subst h1 h2
 have hvd':=hvd
 simp only[MV] at hvd
 have zero:n=0→Yld P (Post w D Ω K) ((builtin .clear #[t] ty cs #[η x]).run P w):=fun h0=>by
  subst h0
  obtain ⟨Ω',c1,c2⟩:=h.cutK hr (k:=k) (by omega) (Kept.refl w _) rfl rfl rfl (fun b c T fz _ e _ _ => ⟨c,e,rfl,rfl⟩)
  refine Zz (s:=Builtin.clear_ #[t] ty #[η x]) (u:=undef) (w':=w) ?_ ⟨_,_,D,Ω',hk,MV.val_mk _,c1,c2⟩
  rcases hvd.2 with ⟨b,cap,c,T,fz,q0,hp,q1,q2,q3⟩|⟨_,a,hp⟩
  ·rw[hp]
   simp only[Builtin.clear_,List.getElem?_toArray,List.getElem?_cons_zero,Sem.run_bind,run_underlying ht,Result.andThen_ok,Sem.run_pure]
   rfl
  ·rw[hp]
   simp only[Builtin.clear_,List.getElem?_toArray,List.getElem?_cons_zero,Sem.run_bind,run_underlying ht,Result.andThen_ok,Sem.run_pure]
   cases a<;>rfl
 rcases hvd.2 with ⟨b,cap,c,T,fz,q0,hp,q1,q2,q3⟩|⟨h0,a,hp⟩
 case inr=>exact zero h0
 rcases Nat.eq_zero_or_pos n with h0|h0
 ·exact zero h0
 obtain ⟨m,rfl⟩:∃m,n=m+1:=⟨n-1,by omega⟩
 obtain ⟨F,hF,_⟩:=h.hm.mem hr
 rcases hF with ⟨b',c',T',fz',F',k1,k2,k3,k4,k5,k6,k7⟩|⟨k1,_,_⟩
 case inr=>omega
 have:b'=b:=by omega
 subst this
 rw[q2] at k2
 simp only[Option.some.injEq,Obj.cells.injEq] at k2
 obtain ⟨rfl,rfl,rfl⟩:=k2
 have hlz:(Builtin.zeroCells z.cells (m+1)).toList.length = (m+1) * i.size:=by simp[Builtin.zeroCells,hzs]
 have hle:(k+(m+1)) * i.size≤es'.length * i.size:=Nat.mul_le_mul_right _ hn
 have hle2:k * i.size+(m+1) * i.size≤c.size:=by rw[←Nat.add_mul];omega
 obtain ⟨w',z1,z2,z3,z4,z5,z6⟩:=Yf (P:=P) (Builtin.zeroCells z.cells (m+1)).toList w b' (k * i.size) 0 c T fz q2 k3 (by rw[hlz];omega) (zc_ok hzo (m+1))
 obtain ⟨Ω',c1,c2⟩:=h.cutK hr (k:=k) (by omega) (z3.mono fun x _ hx e=>hx (by omega)) z4 z5 z6 (fun b c2 T2 fz2 e1 e2 _ _ => by
  have:b=b':=by omega
  subst this
  rw[q2] at e2
  simp only[Option.some.injEq,Obj.cells.injEq] at e2
  obtain ⟨rfl,rfl,rfl⟩:=e2
  refine ⟨_,z2,YN _ _ _,?_⟩
  rw[YF _ _ _ (by rw[hlz];omega),Nat.add_zero,List.take_append_of_le_length (by simp;omega),List.take_take,Nat.min_self])
 refine Zz (s:=Builtin.clear_ #[t] ty #[η x]) (u:=undef) (w':=w') ?_ ⟨_,_,D,Ω',hk,MV.val_mk _,c1,c2⟩
 rw[hp]
 simp only[Builtin.clear_,List.getElem?_toArray,List.getElem?_cons_zero,Sem.run_bind,run_underlying ht,Result.andThen_ok,Sem.run_pure,zeroValue,typeInfo,run_program,hi,hz,z1]
 rfl
end
end Go.Gh
namespace Go.Gh
section
variable {P:Program} {w:World} {D:Nat→Prop} {H:GH} {Ω:List Nat} {K:GV→GH→Prop} {η:Operand→Value} {ρ:GE→Option GV}
theorem guard_slice {op:BinOp} {t:TypeId} {x y:Operand} {a a':Option Addr} {n c n' c':Nat}:(eqGuard op t x y (.slice a n c) (.slice a' n' c')).run P w = .ok () w:=by
 cases op<;>rfl
theorem nil_slice {op:BinOp} {neg:Bool} {t e:TypeId} {x:Operand} {a:Option Addr} {n c:Nat} (ht:P.underlying t=some (.slice e)) (hop:(op = .eql ∧ neg=false)∨(op = .neq ∧ neg=true)) :
 ((do eqGuard op t x (.const (.slice none 0 0)) (.slice a n c) (.slice none 0 0);Go.binOp op t (.slice a n c) (.slice none 0 0)):Sem Value).run P w = .ok (.bool (if neg then !a.isNone else a.isNone)) w:=by
 simp only[Sem.run_bind,guard_slice,Result.andThen_ok]
 have q:=run_equalIn_slice_nil (P:=P) w 9999 t e a n c ht
 rcases hop with ⟨rfl,rfl⟩|⟨rfl,rfl⟩
 ·show (do pure (Value.bool (←Op.equalIn (9999+1) t (.slice a n c) (.slice none 0 0))):Sem Value).run P w = _
  simp only[Sem.run_bind,q,Result.andThen_ok,Sem.run_pure]
  rfl
 ·show (do pure (Value.bool (!(←Op.equalIn (9999+1) t (.slice a n c) (.slice none 0 0)))):Sem Value).run P w = _
  simp only[Sem.run_bind,q,Result.andThen_ok,Sem.run_pure]
  first|rfl|skip
theorem eqn_iface0 (d:Nat) {t:TypeId} {ms:Array (String×TypeId)} (ht:P.underlying t=some (.interface ms)):(Op.equalIn (d+1) t .nilIface .nilIface).run P w = .ok true w:=by
 simp[Op.equalIn,run_underlying ht]
theorem eqn_iface1 (d:Nat) {t i:TypeId} {u:Value} {ms:Array (String×TypeId)} (ht:P.underlying t=some (.interface ms)):(Op.equalIn (d+1) t (.iface i u) .nilIface).run P w = .ok false w:=by
 simp[Op.equalIn,run_underlying ht]
theorem nil_iface {op:BinOp} {neg:Bool} {t:TypeId} {ms:Array (String×TypeId)} {x:Operand} (ht:P.underlying t=some (.interface ms)) (hop:(op = .eql ∧ neg=false)∨(op = .neq ∧ neg=true)) :
 ((do eqGuard op t x (.const .nilIface) .nilIface .nilIface;Go.binOp op t .nilIface .nilIface):Sem Value).run P w = .ok (.bool (!neg)) w:=by
 have hg:(eqGuard op t x (.const .nilIface) .nilIface .nilIface).run P w = .ok () w:=by
  rcases hop with ⟨rfl,rfl⟩|⟨rfl,rfl⟩<;>cases x<;>rfl
 simp only[Sem.run_bind,hg,Result.andThen_ok]
 have q:=eqn_iface0 (P:=P) (w:=w) 9999 ht
 rcases hop with ⟨rfl,rfl⟩|⟨rfl,rfl⟩
 ·show (do pure (Value.bool (←Op.equalIn (9999+1) t .nilIface .nilIface)):Sem Value).run P w = _
  simp only[Sem.run_bind,q,Result.andThen_ok,Sem.run_pure]
  rfl
 ·show (do pure (Value.bool (!(←Op.equalIn (9999+1) t .nilIface .nilIface))):Sem Value).run P w = _
  simp only[Sem.run_bind,q,Result.andThen_ok,Sem.run_pure]
theorem some_iface {op:BinOp} {neg:Bool} {t:TypeId} {ms:Array (String×TypeId)} {x:Operand} {i:TypeId} {u:Value} (ht:P.underlying t=some (.interface ms)) (hop:(op = .eql ∧ neg=false)∨(op = .neq ∧ neg=true)) :
 ((do eqGuard op t x (.const .nilIface) (.iface i u) .nilIface;Go.binOp op t (.iface i u) .nilIface):Sem Value).run P w = .ok (.bool neg) w:=by
 have hg:(eqGuard op t x (.const .nilIface) (.iface i u) .nilIface).run P w = .ok () w:=by
  rcases hop with ⟨rfl,rfl⟩|⟨rfl,rfl⟩<;>rfl
 simp only[Sem.run_bind,hg,Result.andThen_ok]
 have q:=eqn_iface1 (P:=P) (w:=w) 9999 (i:=i) (u:=u) ht
 rcases hop with ⟨rfl,rfl⟩|⟨rfl,rfl⟩
 ·show (do pure (Value.bool (←Op.equalIn (9999+1) t (.iface i u) .nilIface)):Sem Value).run P w = _
  simp only[Sem.run_bind,q,Result.andThen_ok,Sem.run_pure]
 ·show (do pure (Value.bool (!(←Op.equalIn (9999+1) t (.iface i u) .nilIface))):Sem Value).run P w = _
  simp only[Sem.run_bind,q,Result.andThen_ok,Sem.run_pure]
  rfl
theorem s_isnil {op:BinOp} {neg:Bool} {t e:TypeId} {x:Operand} {ex:GE} (h:St w D H Ω) (ho:OM w D η ρ) (ht:P.underlying t=some (.slice e)) (hop:(op = .eql ∧ neg=false)∨(op = .neq ∧ neg=true))
 (hx:ZQ x=some ex) (hs:Z5 P (.isnil neg ex) ρ H K) :
 Yld P (Post w D Ω K) ((do pure (Next.value (←(do eqGuard op t x (.const (.slice none 0 0)) (η x) (.slice none 0 0);Go.binOp op t (η x) (.slice none 0 0)))):Sem Next).run P w):=by
 simp only[Z5] at hs
 obtain ⟨g,hg,hs⟩:=ZT hs
 have hv:=ho x ex g hx hg
 have both:∀(a:Option Addr) (n c:Nat),K (.val (.bool true)) H→K (.val (.bool false)) H→η x = .slice a n c →
  Yld P (Post w D Ω K) ((do pure (Next.value (←(do eqGuard op t x (.const (.slice none 0 0)) (η x) (.slice none 0 0);Go.binOp op t (η x) (.slice none 0 0)))):Sem Next).run P w):=by
  intro a n c k1 k2 he
  rw[he]
  refine Zz (nil_slice ht hop) (Post.here (g:= .val (.bool (if neg then !a.isNone else a.isNone))) h ?_ (MV.val_mk _))
  cases (if neg then !a.isNone else a.isNone)
  ·exact k2
  ·exact k1
 split at hs
 ·rw[MV.val_inv hv]
  refine Zz (nil_slice ht hop) (Post.here h hs ?_)
  cases neg<;>exact MV.val_mk _
 ·simp only[MV] at hv
  rcases hv.2 with ⟨rfl,a,cap,he⟩|⟨b,off,cap,cs,he,_⟩
  ·exact both _ _ _ (by simpa using hs.1) (by simpa using hs.2) he
  ·split at hs
   ·exact both _ _ _ hs.1 hs.2 he
   ·rw[he]
    refine Zz (nil_slice ht hop) (Post.here h hs ?_)
    cases neg<;>exact MV.val_mk _
 ·simp only[MV] at hv
  rcases hv.2 with ⟨b,cap,c,T,fz,_,he,_⟩|⟨rfl,a,he⟩
  ·split at hs
   ·exact both _ _ _ hs.1 hs.2 he
   ·rw[he]
    refine Zz (nil_slice ht hop) (Post.here h hs ?_)
    cases neg<;>exact MV.val_mk _
  ·exact both _ _ _ (by simpa using hs.1) (by simpa using hs.2) he
 ·exact hs.elim
theorem s_ifnil {op:BinOp} {neg:Bool} {t:TypeId} {ms:Array (String×TypeId)} {x:Operand} {ex:GE} (h:St w D H Ω) (ho:OM w D η ρ) (ht:P.underlying t=some (.interface ms)) (hop:(op = .eql ∧ neg=false)∨(op = .neq ∧ neg=true))
 (hx:ZQ x=some ex) (hs:Z5 P (.ifnil neg ex) ρ H K) :
 Yld P (Post w D Ω K) ((do pure (Next.value (←(do eqGuard op t x (.const .nilIface) (η x) .nilIface;Go.binOp op t (η x) .nilIface))):Sem Next).run P w):=by
 simp only[Z5] at hs
 obtain ⟨g,hg,hs⟩:=ZT hs
 have hv:=ho x ex g hx hg
 split at hs
 ·rw[MV.val_inv hv]
  exact Zz (nil_iface ht hop) (Post.here h hs (MV.val_mk _))
 ·rw[MV.val_inv hv]
  exact Zz (some_iface ht hop) (Post.here h hs (MV.val_mk _))
 ·exact hs.elim
theorem bytes_run:∀{fs:List GV} {l:List UInt8} {cs:List Value},Ye fs=some l→MF w D 1 fs cs []→∃ns:List Int,cs=ns.map (.int .u8)∧l=ns.map fun n=>UInt8.ofNat n.toNat
 | [],l,cs,hb,hm=>by
  simp only[Ye,Option.some.injEq] at hb
  simp only[MF] at hm
  exact ⟨[],by simp[hm.1],by simp[←hb]⟩
 | g::fs,l,cs,hb,hm=>by
  simp only[MF] at hm
  obtain ⟨v,cs',F1,F2,rfl,_,_,hF,hv,hm⟩:=hm
  have e0:F1=[]∧F2=[]:=by simpa using hF.symm
  obtain ⟨rfl,rfl⟩:=e0
  cases g<;>try (simp only[Ye] at hb;cases hb;done)
  rename_i u
  cases u<;>try (simp only[Ye] at hb;cases hb;done)
  rename_i k n
  cases k<;>try (simp only[Ye] at hb;cases hb;done)
  simp only[Ye,Option.map_eq_some_iff] at hb
  obtain ⟨l',hb',rfl⟩:=hb
  obtain ⟨ns,rfl,rfl⟩:=bytes_run hb' hm
  rw[MV.val_inv hv]
  exact ⟨n::ns,by simp[Value.cells],by simp⟩
def b2sF (c:Value) (r:ByteArray):Sem (ForInStep ByteArray):=match c with
 | .int .u8 n=>pure (.yield (r.push (UInt8.ofNat n.toNat)))
 | _ => do
  stuck "bytesToString: byte expected"
  pure (.yield r)
theorem b2s_loop:∀(ns:List Int) (s:ByteArray) (w:World),((forIn (m:=Sem) (ns.map (Value.int .u8)) s b2sF)).run P w = .ok ⟨(Z9 s++ns.map fun n=>UInt8.ofNat n.toNat).toArray⟩ w
 | [],s,w=>by simp[Z9]
 | n::ns,s,w=>by
  simp only[List.map_cons,List.forIn_cons,Sem.run_bind,b2sF,Sem.run_pure,Result.andThen_ok]
  rw[b2s_loop ns _ w]
  simp[Z9,ByteArray.push]
theorem s_b2s {s d e:TypeId} {x:Operand} {ex:GE} (h:St w D H Ω) (ho:OM w D η ρ) (hx:ZQ x=some ex) (h1:P.underlying s=some (.slice e)) (h2:P.underlying d=some .string) (h3:P.underlying e=some (.int .u8))
 (hs:Z5 P (.b2s ex) ρ H K):Yld P (Post w D Ω K) ((do pure (Next.value (←convert s d (η x))):Sem Next).run P w):=by
 simp only[Z5] at hs
 obtain ⟨g,hg,hs⟩:=ZT hs
 have hv:=ho x ex g hx hg
 split at hs
 case h_2=>exact hs.elim
 rename_i fs hf
 split at hs
 case h_2=>exact hs.elim
 rename_i l hl
 obtain ⟨hns,hk⟩:=hs
 obtain ⟨cs,hsrc,hm⟩:=src_ok (P:=P) h hv hf
 obtain ⟨ns,rfl,rfl⟩:=bytes_run hl hm
 have hlen:ns.length=fs.length:=by have:=MF.len _ _ _ _ hm;simpa using this
 obtain ⟨s1,s2,s3⟩:=hsrc
 have s4:=s3 fs.length (Nat.le_refl _) w rfl
 have key:∃a n c,η x = .slice a n c:=by
  cases g with
  | val u=>
   rw[MV.val_inv hv]
   cases u<;>first
    | exact ⟨_,_,_,rfl⟩
    | (simp[isStrG] at hns;done)
    | (simp[Y2] at hf;done)
  | sl sz' es=>
   obtain ⟨a,cap,cs',hp,_,_,_,_⟩:=sl_src (P:=P) hv
   exact ⟨_,_,_,hp⟩
  | own r sz' k n=>
   simp only[MV] at hv
   rcases hv.2 with ⟨b,cap,c,T,fz,_,he,_⟩|⟨_,a,he⟩
   ·exact ⟨_,_,_,he⟩
   ·exact ⟨_,_,_,he⟩
  | agg _ => simp[Y2] at hf
  | rop _ _ => simp[Y2] at hf
  | ptr _ _ _ _ => simp[Y2] at hf
  | osl _ _ => simp[Y2] at hf
  | clo _ _ => simp[Y2] at hf
  | tup _ => simp[Y2] at hf
  | raw _ => simp[Y2] at hf
  | cur=>simp[Y2] at hf
 obtain ⟨a,n,c,he⟩:=key
 have hn:n=fs.length:=by
  rw[he] at s1
  simp only[Builtin.lenOf,Sem.run_pure] at s1
  injection s1
 subst hn
 rw[he] at s4 ⊢
 refine Zz (u:=mkS (ns.map fun n=>UInt8.ofNat n.toNat)) (w':=w) ?_ (Post.here h hk (MV.val_mk _))
 cases a with
 | none=>
  simp only[Builtin.firstCells,Sem.run_pure] at s4
  have:(ns.map (Value.int .u8)).take (fs.length * 1)=[]:=by injection s4 with s5 _;simpa using s5.symm
  have hn0:ns=[]:=by
   rw[List.take_of_length_le (by simp;omega)] at this
   simpa using this
  subst hn0
  simp[convert,run_underlying h1,run_underlying h2,run_underlying h3,Conv.bytesToString]
  rfl
 | some a=>
  simp only[Builtin.firstCells] at s4
  rw[List.take_of_length_le (by simp;omega),Nat.mul_one] at s4
  simp only[convert,run_underlying h1,run_underlying h2,run_underlying h3,Sem.run_bind,Result.andThen_ok,Conv.bytesToString,s4]
  have q:=b2s_loop (P:=P) ns ByteArray.empty w
  rw[←List.forIn_toArray] at q
  have e0:Z9 ByteArray.empty=[]:=rfl
  rw[e0,List.nil_append] at q
  refine Eq.trans (congrArg (fun r:Result ByteArray=>(r.andThen fun s w=>Result.ok (Value.string s) w)) (Eq.trans ?_ q)) rfl
  rfl
end
end Go.Gh
namespace Go.Gh
section
variable {P:Program} {w:World} {D:Nat→Prop} {H:GH} {Ω:List Nat} {K:GV→GH→Prop} {η:Operand→Value} {ρ:GE→Option GV}
theorem tab_of {H:GH} {Ω:List Nat} (h:St w D H Ω) {g sz:Nat} (he:Z6 H (4 * g+3)=some (sz,[])) (hs:1000010≤sz):D g∧∃T fz,w.heap[g]? = some (Obj.cells ((tabW sz).map Value.string).toArray T fz):=by
 obtain ⟨F,hF,_⟩:=h.hm.mem he
 have e:(4 * g+3) / 4=g:=by omega
 rcases hF with ⟨b,c,T,fz,F',k1,_⟩|hF
 ·omega
 ·obtain ⟨h0,c,T,fz,h1,h2⟩:=hF.1.2 (by omega) (by omega)
  rw[e] at h0 h1
  unfold tabP at h2
  rw[if_neg (by omega),if_neg (by omega),if_pos hs] at h2
  subst h2
  exact ⟨h0,T,fz,h1⟩
theorem mf_strs {w:World} {D:Nat→Prop}:∀l:List ByteArray,MF w D 1 (l.map fun u=> .val (.string u)) (l.map Value.string) []
 | []=>by simp[MF]
 | a::l=>by
  simp only[List.map_cons,MF]
  exact ⟨.string a,l.map Value.string,[],[],rfl,rfl,by simp[okc,Value.cells,Value.oneCell'],rfl,by simp[MV],mf_strs l⟩
theorem s_gidx {t:TypeId} {g:Nat} {i:Operand} {go:GOp} {x:Operand} (h:St w D H Ω) (ho:OM w D η ρ) (hx:η x = .pointer (some ⟨g,0,none⟩)) (hc:cGidx P t g i=some go) (hs:Z5 P go ρ H K) :
 Yld P (Post w D Ω K) ((do pure (Next.value (←Instr.indexAt t (η x) (η i))):Sem Next).run P w):=by
 simp only[cGidx] at hc
 split at hc
 case h_2=>cases hc
 rename_i ei n e hi ht
 split at hc
 case h_2=>cases hc
 rename_i ie hie
 split at hc
 case isFalse=>cases hc
 rename_i hsz
 obtain ⟨hsz,hn1⟩:=hsz
 simp only[Option.some.injEq] at hc
 subst hc
 simp only[Z5] at hs
 obtain ⟨gi,hgi,hs⟩:=ZT hs
 have hvi:=ho i ei gi hi hgi
 split at hs
 case h_2=>exact hs.elim
 rename_i k m
 rw[MV.val_inv hvi,hx]
 split at hs
 case h_2=>exact hs.elim
 rename_i sz he
 split at hs
 case h_2=>exact hs.elim
 rename_i u hu
 obtain ⟨h0,h1,h2,hk⟩:=hs
 obtain ⟨hD,T,fz,hb⟩:=tab_of h he h0
 refine Zz (u:= .pointer (some ⟨g,0+m.toNat * ie.size,none⟩)) (w':=w) ?_ (Post.here h hk ?_)
 ·have hc:0≤m∧m<(n:Int):=⟨h1,h2⟩
  simp only[Instr.indexAt,asIntOf,Instr.sureAddr,Sem.run_bind,Sem.run_pure,Result.andThen_ok,run_underlying ht,hc,and_self,if_true,ZB hie,X6]
 ·simp only[MV]
  refine ⟨trivial,g,0+m.toNat * ie.size,.string u,rfl,hD,?_,?_,rfl,rfl,trivial⟩
  ·refine ⟨_,T,fz,hb,fun j v hj=> ?_⟩
   have hj0:j=0∧v = .string u:=by
    have:(Value.string u).cells.toList = [.string u]:=rfl
    rw[this] at hj
    cases j with
    | zero=>exact ⟨rfl,(Option.some.inj hj).symm⟩
    | succ j=>simp at hj
   obtain ⟨rfl,rfl⟩:=hj0
   rw[hsz]
   simp[hu]
  ·exact by simp[okc,Value.cells,Value.oneCell']
theorem s_gsl {t:TypeId} {g:Nat} {go:GOp} {x:Operand} (h:St w D H Ω) (hx:η x = .pointer (some ⟨g,0,none⟩)) (hc:cGsl P t g=some go) (hs:Z5 P go ρ H K) :
 Yld P (Post w D Ω K) ((do pure (Next.value (←Instr.sliceAt t (η x) (Option.map η none) (Option.map η none) none)):Sem Next).run P w):=by
 simp only[cGsl] at hc
 split at hc
 case h_2=>cases hc
 rename_i n e ht
 split at hc
 case h_2=>cases hc
 rename_i ie hie
 split at hc
 case isFalse=>cases hc
 rename_i hsz
 simp only[Option.some.injEq] at hc
 subst hc
 simp only[Z5] at hs
 split at hs
 case h_2=>exact hs.elim
 rename_i sz he
 obtain ⟨h0,h1,hk⟩:=hs
 obtain ⟨hD,T,fz,hb⟩:=tab_of h he h0
 rw[hx]
 refine Zz (u:= .slice (some ⟨g,0,none⟩) n n) (w':=w) ?_ (Post.here h hk ?_)
 ·simp only[Instr.sliceAt,Instr.sureAddr,Sem.run_bind,Sem.run_pure,Result.andThen_ok,run_underlying ht,Option.map_none,ZB hie]
  have hb2:(Instr.sliceBounds false n n none none none).run P w = .ok (0,n,n) w:=by simp[Instr.sliceBounds]
  rw[hb2]
  simp only[Result.andThen_ok,Nat.zero_mul,Nat.sub_zero]
  split
  ·rfl
  ·simp[Addr.add]
 ·simp only[MV]
  refine ⟨trivial,.inr ⟨g,0,n,(tabW sz).map Value.string,by rw[List.length_map,h1],by rw[List.length_map,h1];exact Nat.le_refl _,?_,hD,⟨_,T,fz,hb,fun j u hj=> ?_⟩,mf_strs _⟩⟩
  ·rw[List.length_map]
   have:(tabW sz).length ≤ 4:=by unfold tabW;split<;>decide
   unfold Y9;omega
  ·simpa using hj
end
end Go.Gh
namespace Go.Gh
section
variable {P:Program} {w:World} {D:Nat→Prop} {H:GH} {Ω:List Nat} {K:GV→GH→Prop} {η:Operand→Value} {ρ:GE→Option GV}
theorem s_mov {x:Operand} {ex:GE} (h:St w D H Ω) (ho:OM w D η ρ) (hx:ZQ x=some ex) (hs:Z5 P (.mov ex) ρ H K):Yld P (Post w D Ω K) ((pure (Next.value (η x)):Sem Next).run P w):=by
 simp only[Z5] at hs
 obtain ⟨g,hg,hs⟩:=ZT hs
 simp only[Sem.run_pure,Yld]
 exact Post.here h hs (ho x ex g hx hg)
theorem s_pick {c a b:Operand} {ec ea eb:GE} (h:St w D H Ω) (ho:OM w D η ρ) (hc:ZQ c=some ec) (ha:ZQ a=some ea) (hb:ZQ b=some eb) (hs:Z5 P (.pick ec ea eb) ρ H K) :
 Yld P (Post w D Ω K) ((do pure (Next.value (if ←asBool (η c) then η a else η b)):Sem Next).run P w):=by
 simp only[Z5] at hs
 obtain ⟨g,hg,hs⟩:=ZT hs
 have hv:=ho c ec g hc hg
 split at hs
 case h_2=>exact hs.elim
 rename_i t
 rw[MV.val_inv hv]
 cases t
 ·obtain ⟨g2,hg2,hk⟩:=ZT (hs.2 rfl)
  simp only[asBool,Sem.run_bind,Sem.run_pure,Result.andThen_ok,Bool.false_eq_true,if_false,Yld]
  exact Post.here h hk (ho b eb g2 hb hg2)
 ·obtain ⟨g2,hg2,hk⟩:=ZT (hs.1 rfl)
  simp only[asBool,Sem.run_bind,Sem.run_pure,Result.andThen_ok,if_true,Yld]
  exact Post.here h hk (ho a ea g2 ha hg2)
theorem s_nck {x:Operand} {ex:GE} {o:Oper} (hop:o.op = .nilCheck x) (h:St w D H Ω) (ho:OM w D η ρ) (hx:ZQ x=some ex) (hs:Z5 P (.nck ex) ρ H K):Yld P (Post w D Ω K) ((execOp η o).run P w):=by
 simp only[Z5] at hs
 obtain ⟨g,hg,hs⟩:=ZT hs
 have hv:=ho x ex g hx hg
 simp only[execOp,hop]
 cases g with
 | rop sz g=>
  have hv':=hv
  simp only[MV] at hv
  obtain ⟨_,b,off,u,hp,_⟩:=hv
  rw[hp] at hv' ⊢
  exact Post.here h hs hv'
 | ptr r sz i o=>
  have hv':=hv
  simp only[MV] at hv
  obtain ⟨_,b,_,_,hp⟩:=hv
  rw[hp] at hv' ⊢
  exact Post.here h hs hv'
 | clo f cs=>
  have hv':=hv
  simp only[MV] at hv
  obtain ⟨_,vs,hp,_⟩:=hv
  rw[hp] at hv' ⊢
  exact Post.here h hs hv'
 | _ => exact hs.elim
theorem s_binop (hcn:∀v,η (.const v)=v) {op:BinOp} {t yt:TypeId} {x y:Operand} {go:GOp} {o:Oper} (hop:o.op = .binOp op t x y yt) (h:St w D H Ω) (ho:OM w D η ρ) (hc:cBin P op t x y=some go) (hs:Z5 P go ρ H K):Yld P (Post w D Ω K) ((execOp η o).run P w):=by
 simp only[execOp,hop]
 simp only[cBin] at hc
 split at hc
 case h_2=>cases hc
 rename_i ex ey hx hy
 split at hc
 ·simp only[Option.some.injEq] at hc;subst hc;exact s_bin h ho hx hy hs
 ·simp only[Option.some.injEq] at hc;subst hc;exact s_bin h ho hx hy hs
 ·rename_i ht
  split at hc
  ·simp only[Option.some.injEq] at hc;subst hc;exact s_beq h ho ht (.inl ⟨rfl,rfl⟩) hx hy hs
  ·simp only[Option.some.injEq] at hc;subst hc;exact s_beq h ho ht (.inr ⟨rfl,rfl⟩) hx hy hs
  ·cases hc
 ·rename_i e ht
  split at hc
  case h_2=>cases hc
  have hη2:η (.const (.slice none 0 0)) = .slice none 0 0:=hcn _
  rw[hη2]
  split at hc
  ·simp only[Option.some.injEq] at hc;subst hc;exact s_isnil h ho ht (.inl ⟨rfl,rfl⟩) hx hs
  ·simp only[Option.some.injEq] at hc;subst hc;exact s_isnil h ho ht (.inr ⟨rfl,rfl⟩) hx hs
  ·cases hc
 ·rename_i ms ht
  split at hc
  case h_2=>cases hc
  have hη2:η (.const .nilIface) = .nilIface := hcn _
  rw[hη2]
  split at hc
  ·simp only[Option.some.injEq] at hc;subst hc;exact s_ifnil h ho ht (.inl ⟨rfl,rfl⟩) hx hs
  ·simp only[Option.some.injEq] at hc;subst hc;exact s_ifnil h ho ht (.inr ⟨rfl,rfl⟩) hx hs
  ·cases hc
 ·rename_i fs ht
  split at hc
  case h_2=>cases hc
  rename_i ks hk
  split at hc
  case isTrue=>cases hc
  rename_i hg
  have hg':P.eqGuardType P.depth t=false:=by simpa using hg
  split at hc
  ·simp only[Option.some.injEq] at hc;subst hc;exact s_aeq h ho ht hk hg' (.inl ⟨rfl,rfl⟩) hx hy hs
  ·simp only[Option.some.injEq] at hc;subst hc;exact s_aeq h ho ht hk hg' (.inr ⟨rfl,rfl⟩) hx hy hs
  ·cases hc
 ·cases hc
theorem s_index {t:TypeId} {x i:Operand} {go:GOp} (h:St w D H Ω) (ho:OM w D η ρ) (hc:cIndex P t x i=some go) (hs:Z5 P go ρ H K) :
 Yld P (Post w D Ω K) ((do pure (Next.value (←Instr.index t (η x) (η i))):Sem Next).run P w):=by
 simp only[cIndex] at hc
 split at hc
 case h_2=>cases hc
 rename_i ex ei hx hi
 split at hc
 ·rename_i ht;simp only[Option.some.injEq] at hc;subst hc;exact s_idx h ho hx hi ht hs
 ·rename_i n e ht
  split at hc
  case h_2=>cases hc
  rename_i d hd
  split at hc
  case h_2=>cases hc
  rename_i ie hie
  split at hc
  case isFalse=>cases hc
  rename_i hcond
  simp only[Option.some.injEq] at hc;subst hc
  exact s_aidx h ho hx hi ht hd hcond.1 hie hcond.2 hs
 ·cases hc
theorem s_builtin {b:Builtin} {ts:Array TypeId} {ty:TypeId} {xs:Array Operand} {go:GOp} (h:St w D H Ω) (ho:OM w D η ρ) (hc:cBuiltin P b ts.toList xs.toList=some go) (hs:Z5 P go ρ H K) :
 Yld P (Post w D Ω K) ((do let d ←resolve η { callee:= .builtin b,args:=xs,argTypes:=ts } ty;invoke d.target d.args:Sem Next).run P w):=by
 have e1:ts=ts.toList.toArray:=by simp
 have e2:xs.map η=(xs.toList.map η).toArray := map_arr η xs
 simp only[resolve,Sem.run_bind,Sem.run_pure,Result.andThen_ok,invoke,e2]
 rw[e1]
 generalize ts.toList=tl at hc ⊢
 generalize (xs.map fun x=>match x with | .const _ => true | _ => false)=cs
 generalize xs.toList=xl at hc ⊢
 unfold cBuiltin at hc
 split at hc
 ·split at hc
  ·rename_i e d he ht
   simp only[Option.some.injEq] at hc;subst hc
   exact s_len h ho he ⟨_,ht⟩ hs
  ·rename_i e he ht
   simp only[Option.some.injEq] at hc;subst hc
   exact s_slen h ho he ht hs
  ·cases hc
 ·split at hc
  case h_2=>cases hc
  rename_i es ex hes hex
  split at hc
  case h_2=>cases hc
  rename_i e ht
  split at hc
  case h_2=>cases hc
  rename_i i hi
  split at hc
  case h_2=>cases hc
  rename_i z hz
  split at hc
  case isFalse=>cases hc
  rename_i hzs
  split at hc
  ·rename_i e' hu
   simp only[Option.some.injEq] at hc;subst hc
   exact s_append h ho hes hex ht hu (.inl ⟨_,rfl⟩) hi hz hzs hs
  ·rename_i hu
   simp only[Option.some.injEq] at hc;subst hc
   exact s_append h ho hes hex ht hu (.inr rfl) hi hz hzs hs
  ·cases hc
 ·split at hc
  case h_2=>cases hc
  rename_i ed es hed hes
  split at hc
  case h_2=>cases hc
  rename_i e ht
  split at hc
  case h_2=>cases hc
  rename_i i hi
  simp only[Option.some.injEq] at hc;subst hc
  exact s_copy h ho hed hes ht hi hs
 ·split at hc
  case h_2=>cases hc
  rename_i ex hex
  split at hc
  case h_2=>cases hc
  rename_i e ht
  split at hc
  case h_2=>cases hc
  rename_i i hi
  split at hc
  case h_2=>cases hc
  rename_i z hz
  split at hc
  case isFalse=>cases hc
  rename_i hcond
  simp only[Option.some.injEq] at hc;subst hc
  exact s_clr h ho hex ht hi hz hcond.1 hcond.2 hs
 ·split at hc
  case h_2=>cases hc
  rename_i ex ey hx hy
  simp only[Option.some.injEq] at hc;subst hc
  exact s_mx h ho hx hy hs
 ·split at hc
  case h_2=>cases hc
  rename_i ex ey hx hy
  simp only[Option.some.injEq] at hc;subst hc
  exact s_mn h ho hx hy hs
 ·cases hc
def isRaw:GOp→Bool
 | .stro .. => true
 | .strb .. => true
 | .appx .. => true
 | .callk .. => true
 | .ldx .. => true
 | .ldf .. => true
 | .callf .. => true
 | .allocr .. => true
 | _ => false
theorem op_sound {det lro:Bool} {ro:List Nat} {o:Oper} {go:GOp} (hcn:∀v,η (.const v)=v) (hη:∀f,η (.func f) = .func (.func f) #[] #[]) (hg:∀g,η (.global g) = .pointer (some ⟨g,0,none⟩)) (h:St w D H Ω) (ho:OM w D η ρ) (hc:Zu P det lro ro o.dst o.op=some go) (hn:isRaw go=false) (hs:Z5 P go ρ H K) :
 Yld P (Post w D Ω K) ((execOp η o).run P w):=by
 cases hop:o.op with
 | move x=>simp only[Zu,hop,Option.map_eq_some_iff] at hc;obtain ⟨e,he,rfl⟩:=hc;simp only[execOp,hop];exact s_mov h ho he hs
 | assign x=>simp only[Zu,hop,Option.map_eq_some_iff] at hc;obtain ⟨e,he,rfl⟩:=hc;simp only[execOp,hop];exact s_mov h ho he hs
 | pick c a b=>
  simp only[Zu,hop] at hc
  split at hc
  ·rename_i ec ea eb h1 h2 h3;simp only[Option.some.injEq] at hc;subst hc;simp only[execOp,hop];exact s_pick h ho h1 h2 h3 hs
  ·cases hc
 | box t x=>
  simp only[Zu,hop] at hc
  simp only[execOp,hop]
  cases hr:o.dst.any ro.contains
  ·rw[hr] at hc;exact s_box h ho hc hs
  ·rw[hr] at hc;exact s_boxro h ho hc hs
 | alloc t=>
  simp only[Zu,hop] at hc
  simp only[execOp,hop]
  cases hr:o.dst.any ro.contains
  ·rw[hr] at hc;exact s_alloc h hc hs
  ·rw[hr] at hc
   simp only[cAlloc] at hc
   split at hc
   ·split at hc
    ·split at hc
     ·simp only[if_true,Option.some.injEq] at hc;subst hc;simp[isRaw] at hn
     ·cases hc
    ·cases hc
   ·cases hc
 | load t x=>simp only[Zu,hop] at hc;simp only[execOp,hop];exact s_load h ho hc hs
 | store t a x=>
  simp only[Zu,hop,cStore] at hc
  split at hc
  case h_2=>cases hc
  rename_i ex hx
  split at hc
  case h_2=>cases hc
  rename_i i hi
  split at hc
  case h_2=>cases hc
  rename_i s
  simp only[Option.some.injEq] at hc
  split at hc
  ·subst hc;simp[isRaw] at hn
  ·subst hc;simp only[execOp,hop];exact s_store h ho hx hi hs
 | binOp op t x y yt=>simp only[Zu,hop] at hc;exact s_binop hcn hop h ho hc hs
 | unOp op t x=>
  cases op<;>simp only[Zu,hop,reduceCtorEq,Option.map_eq_some_iff] at hc
  all_goals (obtain ⟨e,he,rfl⟩:=hc;simp only[execOp,hop];first|exact s_not h ho he hs|exact s_neg h ho he hs)
 | convert s d x=>
  simp only[Zu,hop,cConv] at hc
  split at hc
  case h_2=>cases hc
  rename_i e he
  split at hc
  case h_2=>cases hc
  rename_i ds hds
  split at hc
  ·rename_i k hk
   simp only[Option.some.injEq] at hc;subst hc
   simp only[execOp,hop];exact s_conv h ho he hds hk hs
  ·rename_i hk
   split at hc
   ·rename_i el h1
    split at hc
    ·rename_i h3
     simp only[Option.some.injEq] at hc;subst hc
     simp only[execOp,hop];exact s_b2s h ho he h1 hk h3 hs
    ·cases hc
   ·cases hc
  ·cases hc
 | makeFunc fn first cs=>
  cases fn with
  | func f=>
   simp only[Zu,hop] at hc
   split at hc
   ·rename_i hf
    have:first = #[]:=by simpa using hf
    subst this
    simp only[Option.map_eq_some_iff] at hc
    obtain ⟨es,hes,rfl⟩:=hc
    simp only[execOp,hop];exact s_mkfn h ho hes hs
   ·cases hc
  | _ => simp[Zu,hop] at hc
 | makeSlice t l c=>simp only[Zu,hop] at hc;simp only[execOp,hop];exact s_mkslice h ho hc hs
 | slice t x lo hi mx=>
  cases mx with
  | none=>
   cases x with
   | global g=>
    simp only[execOp,hop]
    cases lo with
    | none=>
     cases hi with
     | none=>simp only[Zu,hop] at hc;exact s_gsl h (hg g) hc hs
     | some y=>simp only[Zu,hop] at hc;exact s_slice h ho hc hs
    | some z=>simp only[Zu,hop] at hc;exact s_slice h ho hc hs
   | _ => simp only[Zu,hop] at hc;simp only[execOp,hop];exact s_slice h ho hc hs
  | some m=>simp[Zu,hop] at hc
 | fieldAddr t x f=>simp only[Zu,hop] at hc;simp only[execOp,hop];exact s_field (addr:=true) h ho hc hs
 | field t x f=>simp only[Zu,hop] at hc;simp only[execOp,hop];exact s_field (addr:=false) h ho hc hs
 | indexAddr t x i=>
  have hgen:cIndexAddr P t x i=some go→Yld P (Post w D Ω K) ((execOp η o).run P w):=fun hc=>by
   simp only[cIndexAddr] at hc
   split at hc
   case h_2=>cases hc
   rename_i ex ei hx hi
   split at hc
   case h_2=>cases hc
   rename_i e ht
   split at hc
   case h_2=>cases hc
   rename_i ie hie
   simp only[Option.some.injEq] at hc;subst hc
   simp only[execOp,hop];exact s_iaddr h ho hx hi ht hie hs
  cases x with
  | global g=>simp only[Zu,hop] at hc;simp only[execOp,hop];exact s_gidx h ho (hg g) hc hs
  | _ => simp only[Zu,hop] at hc;exact hgen hc
 | index t x i=>simp only[Zu,hop] at hc;simp only[execOp,hop];exact s_index h ho hc hs
 | extract x i=>simp only[Zu,hop,Option.map_eq_some_iff] at hc;obtain ⟨e,he,rfl⟩:=hc;simp only[execOp,hop];exact s_ext h ho he hs
 | nilCheck x=>simp only[Zu,hop,Option.map_eq_some_iff] at hc;obtain ⟨e,he,rfl⟩:=hc;exact s_nck hop h ho he hs
 | build t ps=>simp only[Zu,hop] at hc;simp only[execOp,hop];exact s_build h ho hc hs
 | buildSlice t n ps=>
  simp only[Zu,hop,Option.map_eq_some_iff] at hc
  simp only[execOp,hop]
  obtain ⟨go',h1,h2⟩:=hc
  split at h2
  ·subst h2;exact s_bslro h ho h1 hs
  ·subst h2;exact s_bslice h ho h1 hs
 | call c=>
  obtain ⟨callee,args,ts⟩:=c
  simp only[execOp,hop]
  cases callee with
  | value f=>
   cases f with
   | func f=>
    simp only[Zu,hop,Option.map_eq_some_iff] at hc;obtain ⟨es,hes,rfl⟩:=hc
    exact s_call h ho hes hs (hη f)
   | tmp t=>
    simp only[Zu,hop] at hc
    split at hc
    ·rename_i e es he hes;simp only[Option.some.injEq] at hc;subst hc;exact s_callv h ho he hes hs
    ·cases hc
   | const v=>
    simp only[Zu,hop] at hc
    split at hc
    ·rename_i e es he hes;simp only[Option.some.injEq] at hc;subst hc;exact s_callv h ho he hes hs
    ·cases hc
   | global g=>
    simp only[Zu,hop] at hc
    split at hc
    ·rename_i e es he hes;simp only[Option.some.injEq] at hc;subst hc;exact s_callv h ho he hes hs
    ·cases hc
  | builtin b=>simp only[Zu,hop] at hc;exact s_builtin h ho hc hs
  | invoke r m=>simp[Zu,hop] at hc
 | _ => simp[Zu,hop] at hc
end
end Go.Gh
namespace Go.Gh
def gcls:GOp→Nat
 | .box .. | .alloc .. | .bslice .. | .mkslice .. | .append .. | .copy .. | .clr .. | .store .. | .isnil .. | .calla .. | .callva .. | .strb .. | .appx .. | .callk .. | .callf .. => 2
 | .load .. | .ldx .. | .ldf .. | .gidx .. | .gsl .. | .b2s .. => 1
 | .call det .. | .callv det .. => if det then 1 else 2
 | _ => 0
def YS:GE→List Nat
 | .t n=>[n]
 | .k _ => []
def YC (xs:List GE):List Nat:=xs.flatMap YS
def looks:GOp→List Nat
 | .mov x | .box _ x | .boxro _ x | .load _ _ x | .loadr _ _ x | .not x | .neg x | .conv _ x | .faddr _ _ _ x | .field _ _ _ x | .ext x _ | .len x | .slen x | .isnil _ x | .ifnil _ x | .b2s x | .clr _ x | .nck x=>YS x
 | .pick c a b=>YS c++(YS a++YS b)
 | .alloc .. | .allocr .. => []
 | .build _ ps=>ps.flatMap fun p=>YS p.2.2
 | .bslice _ _ _ _ ps=>ps.flatMap fun p=>YS p.2
 | .bslro _ _ _ _ ps=>ps.flatMap fun p=>YS p.2
 | .store _ a x=>YS a++YS x
 | .stro _ t x=>t::YS x
 | .strb _ t x=>t::YS x
 | .bin _ x y | .beq _ x y | .aeq _ _ x y | .mkslice _ _ _ x y | .iaddr _ x y | .idx x y | .aidx _ x y | .append _ _ x y | .copy _ x y | .mx x y | .mn x y=>YS x++YS y
 | .ldx _ _ a b=>[a,b]
 | .ldf _ _ a b _ => [a,b]
 | .gidx _ _ i=>YS i
 | .gsl _ _ => []
 | .appx ks _ _ x y=>ks++(YS x++YS y)
 | .mkfn _ cs=>YC cs
 | .slc _ x lo hi | .sslc x lo hi=>YS x++(YC lo.toList++YC hi.toList)
 | .call _ _ xs=>YC xs
 | .callv _ x xs=>YS x++YC xs
 | .calla _ xs=>YC xs
 | .callk ks _ xs=>ks++YC xs
 | .callf b _ _ xs=>b::YC xs
 | .callva x xs=>YS x++YC xs
def Zm (i:GI):List Nat:=(match i.guard with|some (t,_)=>[t]|none=>[])++looks i.op
section
variable {P:Program}
theorem ZC {x:Option GV} {k k':GV→Prop} (h:∀g,k g→k' g) (hh:Z3 x k):Z3 x k':=by
 cases x with
 | none=>exact hh
 | some g=>exact h g hh
def Fixed (P:Program) (o:GOp) (env:Env) (G:GV):Prop:=∀(H:GH) (k:GV→GH→Prop),k G H→ZY P o env H k
theorem binV_fix {op:BinOp} {a b:Value} {k:Value→Prop} (hh:Yz op a b k):∃v,k v∧∀k':Value→Prop,k' v→Yz op a b k':=by
 unfold Yz at *
 split at hh
 ·obtain ⟨h1,hh⟩:=hh
  cases op<;>first
   | exact ⟨_,hh,fun k' hk=>⟨h1,hk⟩⟩
   | exact ⟨_,hh.2,fun k' hk=>⟨h1,hh.1,hk⟩⟩
   | exact False.elim hh
 ·cases op<;>first
   | exact ⟨_,hh,fun k' hk=>hk⟩
   | exact ⟨_,hh.2,fun k' hk=>⟨hh.1,hk⟩⟩
   | exact False.elim hh
 ·exact hh.elim
theorem shiftV_fix {op:BinOp} {a b:Value} {k:Value→Prop} (hh:shiftV op a b k):∃v,k v∧∀k':Value→Prop,k' v→shiftV op a b k':=by
 unfold shiftV at *
 split at hh
 ·obtain ⟨h1,hh⟩:=hh
  cases op<;>first
   | exact ⟨_,hh,fun k' hk=>⟨h1,hk⟩⟩
   | exact False.elim hh
 ·exact hh.elim
theorem ZR {x:Option GV} {k:GV→Prop} (h:Z3 x k):∃g,x=some g∧k g:=by
 cases x with
 | none=>exact h.elim
 | some g=>exact ⟨g,rfl,h⟩
theorem fix0 {o:GOp} {env:Env} {H:GH} {K:GV→GH→Prop} (hc:gcls o=0) (h:ZY P o env H K):∃G,K G H∧Fixed P o env G:=by
 unfold Fixed
 cases o<;>first|(simp[gcls] at hc;done)|skip
 all_goals simp only[ZY,Z5] at h ⊢
 case mov x=>obtain ⟨g,e,h⟩:=ZR h;exact ⟨_,h,fun H2 k hk=>by rw[e];exact hk⟩
 case pick c a b=>
  obtain ⟨g,e,h⟩:=ZR h
  split at h
  ·rename_i t
   cases t
   ·obtain ⟨g2,e2,h2⟩:=ZR (h.2 rfl)
    exact ⟨_,h2,fun H2 k hk=>by rw[e];exact ⟨fun x=>(by cases x),fun _ => by rw[e2];exact hk⟩⟩
   ·obtain ⟨g2,e2,h2⟩:=ZR (h.1 rfl)
    exact ⟨_,h2,fun H2 k hk=>by rw[e];exact ⟨fun _ => by rw[e2];exact hk,fun x=>(by cases x)⟩⟩
  ·exact h.elim
 case boxro n x=>obtain ⟨g,e,h1,h2,h3⟩:=ZR h;exact ⟨_,h3,fun H2 k hk=>by rw[e];exact ⟨h1,h2,hk⟩⟩
 case allocr n=>exact ⟨_,h,fun H2 k hk=>hk⟩
 case bslro sz z len ag ps=>
  split at h
  ·rename_i qs e1
   split at h
   ·rename_i gs e2
    exact ⟨_,h.2,fun H2 k hk=>by first|exact ⟨h.1,hk⟩|(simp only[e1,e2];exact ⟨h.1,hk⟩)⟩
   ·exact h.elim
  ·exact h.elim
 case loadr n ag a=>
  obtain ⟨g,e,h⟩:=ZR h
  split at h
  ·obtain ⟨h1,h2,h3⟩:=h;exact ⟨_,h3,fun H2 k hk=>by rw[e];exact ⟨h1,h2,hk⟩⟩
  ·exact h.elim
 case build z ps=>
  split at h
  ·rename_i qs e1
   split at h
   ·rename_i gs e2
    exact ⟨_,h,fun H2 k hk=>by first|exact hk|(simp only[e1,e2];exact hk)⟩
   ·exact h.elim
  ·exact h.elim
 case stro n t x=>
  split at h
  ·rename_i m e1
   obtain ⟨g,e,h1,h2,h3,h4⟩:=ZR h
   exact ⟨_,h4,fun H2 k hk=>by rw[e];exact ⟨h1,h2,h3,hk⟩⟩
  ·exact h.elim
 case bin op x y=>
  obtain ⟨g,e,h⟩:=ZR h
  split at h
  ·obtain ⟨g2,e2,h⟩:=ZR h
   split at h
   ·split at h
    ·rename_i hsh
     obtain ⟨v,h1,h2⟩:=shiftV_fix h
     exact ⟨_,h1,fun H2 k hk=>by rw[e,e2];simp only[Z3,hsh,if_true];exact h2 (fun v=>k (.val v) H2) hk⟩
    ·rename_i hsh
     obtain ⟨v,h1,h2⟩:=binV_fix h
     exact ⟨_,h1,fun H2 k hk=>by rw[e,e2];simp only[Z3,hsh];exact h2 (fun v=>k (.val v) H2) hk⟩
   ·exact h.elim
  ·exact h.elim
 case beq neg x y=>
  obtain ⟨g,e,h⟩:=ZR h
  split at h
  ·obtain ⟨g2,e2,h⟩:=ZR h
   split at h
   ·exact ⟨_,h,fun H2 k hk=>by rw[e,e2];exact hk⟩
   ·exact h.elim
  ·exact h.elim
 case aeq neg ks x y=>
  obtain ⟨g,e,h⟩:=ZR h
  split at h
  ·obtain ⟨g2,e2,h⟩:=ZR h
   split at h
   ·split at h
    ·rename_i t e3
     exact ⟨_,h,fun H2 k hk=>by rw[e,e2];simp only[Z3,e3];exact hk⟩
    ·exact h.elim
   ·exact h.elim
  ·exact h.elim
 case not x=>
  obtain ⟨g,e,h⟩:=ZR h
  split at h
  ·exact ⟨_,h,fun H2 k hk=>by rw[e];exact hk⟩
  ·exact h.elim
 case ifnil neg x=>
  obtain ⟨g,e,h⟩:=ZR h
  split at h
  ·exact ⟨_,h,fun H2 k hk=>by rw[e];exact hk⟩
  ·exact ⟨_,h,fun H2 k hk=>by rw[e];exact hk⟩
  ·exact h.elim
 case neg x=>
  obtain ⟨g,e,h⟩:=ZR h
  split at h
  ·exact ⟨_,h,fun H2 k hk=>by rw[e];exact hk⟩
  ·exact h.elim
 case conv kk x=>
  obtain ⟨g,e,h⟩:=ZR h
  split at h
  ·exact ⟨_,h,fun H2 k hk=>by rw[e];exact hk⟩
  ·exact h.elim
 case mkfn f cs=>
  split at h
  ·rename_i gs e1;exact ⟨_,h,fun H2 k hk=>by first|exact hk|(simp only[e1];exact hk)⟩
  ·exact h.elim
 case slc sz x lo hi=>
  obtain ⟨g,e,h⟩:=ZR h
  split at h
  ·split at h
   ·rename_i l hh e1 e2
    obtain ⟨h1,h2,h3,h4,h5⟩:=h
    exact ⟨_,h5,fun H2 k hk=>by rw[e];simp only[Z3,e1,e2];exact ⟨h1,h2,h3,h4,hk⟩⟩
   ·exact h.elim
  ·split at h
   ·rename_i l hh e1 e2
    obtain ⟨h1,h2,h3,h4,h5⟩:=h
    exact ⟨_,h5,fun H2 k hk=>by rw[e];simp only[Z3,e1,e2];exact ⟨h1,h2,h3,h4,hk⟩⟩
   ·exact h.elim
  ·exact h.elim
 case sslc x lo hi=>
  obtain ⟨g,e,h⟩:=ZR h
  split at h
  ·split at h
   ·rename_i l hh e1 e2
    obtain ⟨h2,h3,h4,h5⟩:=h
    exact ⟨_,h5,fun H2 k hk=>by rw[e];simp only[Z3,e1,e2];exact ⟨h2,h3,h4,hk⟩⟩
   ·exact h.elim
  ·exact h.elim
 case faddr off n ag x=>
  obtain ⟨g,e,h⟩:=ZR h
  split at h
  ·split at h
   ·rename_i g' e1;exact ⟨_,h,fun H2 k hk=>by rw[e];simp only[Z3,e1];exact hk⟩
   ·exact h.elim
  ·exact ⟨_,h,fun H2 k hk=>by rw[e];exact hk⟩
  ·exact h.elim
 case field off n ag x=>
  obtain ⟨g,e,h⟩:=ZR h
  split at h
  ·rename_i g' e1;exact ⟨_,h,fun H2 k hk=>by rw[e];simp only[Z3,e1];exact hk⟩
  ·exact h.elim
 case iaddr sz x i=>
  obtain ⟨g,e,h⟩:=ZR h
  split at h
  ·obtain ⟨g2,e2,h⟩:=ZR h
   split at h
   ·split at h
    ·rename_i e0 e1
     obtain ⟨h1,h2,h3⟩:=h
     exact ⟨_,h3,fun H2 k hk=>by rw[e,e2];simp only[Z3,e1];exact ⟨h1,h2,hk⟩⟩
    ·exact h.elim
   ·obtain ⟨h1,h2,h3,h4⟩:=h
    exact ⟨_,h4,fun H2 k hk=>by rw[e,e2];exact ⟨h1,h2,h3,hk⟩⟩
   ·exact h.elim
  ·exact h.elim
 case idx x i=>
  obtain ⟨g,e,h⟩:=ZR h
  split at h
  ·obtain ⟨g2,e2,h⟩:=ZR h
   split at h
   ·split at h
    ·rename_i e0 e1
     exact ⟨_,h.2,fun H2 k hk=>by rw[e,e2];simp only[Z3,e1];exact ⟨h.1,hk⟩⟩
    ·exact h.elim
   ·exact h.elim
  ·exact h.elim
 case aidx len x i=>
  obtain ⟨g,e,h⟩:=ZR h
  split at h
  ·obtain ⟨g2,e2,h⟩:=ZR h
   split at h
   ·split at h
    ·rename_i e0 e1
     exact ⟨_,h.2.2,fun H2 k hk=>by rw[e,e2];simp only[Z3,e1];exact ⟨h.1,h.2.1,hk⟩⟩
    ·exact h.elim
   ·exact h.elim
  ·exact h.elim
 case ext x i=>
  obtain ⟨g,e,h⟩:=ZR h
  split at h
  ·split at h
   ·rename_i g' e1;exact ⟨_,h,fun H2 k hk=>by rw[e];simp only[Z3,e1];exact hk⟩
   ·exact h.elim
  ·exact h.elim
 case call det f xs=>cases det<;>simp[gcls] at hc
 case callv det x xs=>cases det<;>simp[gcls] at hc
 case len x=>
  obtain ⟨g,e,h⟩:=ZR h
  split at h
  ·exact ⟨_,h,fun H2 k hk=>by rw[e];exact hk⟩
  ·exact ⟨_,h,fun H2 k hk=>by rw[e];exact hk⟩
  ·exact ⟨_,h,fun H2 k hk=>by rw[e];exact hk⟩
  ·exact h.elim
 case slen x=>
  obtain ⟨g,e,h⟩:=ZR h
  split at h
  ·exact ⟨_,h,fun H2 k hk=>by rw[e];exact hk⟩
  ·exact h.elim
 case mx x y=>
  obtain ⟨g,e,h⟩:=ZR h
  split at h
  ·obtain ⟨g2,e2,h⟩:=ZR h
   split at h
   ·exact ⟨_,h.2,fun H2 k hk=>by rw[e,e2];exact ⟨h.1,hk⟩⟩
   ·exact h.elim
  ·exact h.elim
 case mn x y=>
  obtain ⟨g,e,h⟩:=ZR h
  split at h
  ·obtain ⟨g2,e2,h⟩:=ZR h
   split at h
   ·exact ⟨_,h.2,fun H2 k hk=>by rw[e,e2];exact ⟨h.1,hk⟩⟩
   ·exact h.elim
  ·exact h.elim
 case nck x=>
  obtain ⟨g,e,h⟩:=ZR h
  split at h
  ·exact ⟨_,h,fun H2 k hk=>by rw[e];exact hk⟩
  ·exact ⟨_,h,fun H2 k hk=>by rw[e];exact hk⟩
  ·exact ⟨_,h,fun H2 k hk=>by rw[e];exact hk⟩
  ·exact h.elim
end
end Go.Gh
namespace Go.Gh
section
variable {P:Program}
theorem gsemE_mono {o:GOp} {env:Env} {H:GH} {K K':GV→GH→Prop} (hk:∀g h,K g h→K' g h) (h:ZY P o env H K):ZY P o env H K':=by
 by_cases hc:gcls o=0
 ·obtain ⟨G,h1,h2⟩:=fix0 hc h
  exact h2 H K' (hk _ _ h1)
 cases o<;>first|(exact absurd rfl hc;done)|skip
 all_goals simp only[ZY,Z5] at h ⊢
 case box n x=>exact ZC (fun g ⟨h1,h2,h3⟩=>⟨h1,h2,fun r hr=>hk _ _ (h3 r hr)⟩) h
 case alloc n z=>exact fun r hr=>hk _ _ (h r hr)
 case bslice sz z len ag ps=>
  split at h
  ·split at h
   ·exact ⟨h.1,fun r hr=>hk _ _ (h.2 r hr)⟩
   ·exact h
  ·exact h
 case load n ag a=>
  refine ZC (fun g h=> ?_) h
  split at h
  ·exact ⟨h.1,h.2.1,hk _ _ h.2.2⟩
  ·split at h
   ·split at h
    ·split at h
     ·exact ⟨h.1,h.2.1,hk _ _ h.2.2⟩
     ·exact h
    ·exact h
   ·exact h
  ·exact h
 case store n a x=>
  refine ZC (fun g h=> ?_) h
  split at h
  ·refine ZC (fun g h=> ?_) h
   split at h
   ·split at h
    ·split at h
     ·exact ⟨h.1,h.2.1,h.2.2.1,hk _ _ h.2.2.2⟩
     ·exact h
    ·exact h
   ·exact h
  ·exact h
 case isnil neg x=>
  refine ZC (fun g h=> ?_) h
  split at h
  ·exact hk _ _ h
  ·split at h
   ·rename_i hc;simp only[hc,if_true];exact ⟨hk _ _ h.1,hk _ _ h.2⟩
   ·rename_i hc;simp only[hc];exact hk _ _ h
  ·split at h
   ·rename_i hc;simp only[hc,if_true];exact ⟨hk _ _ h.1,hk _ _ h.2⟩
   ·rename_i hc;simp only[hc,if_false];exact hk _ _ h
  ·exact h
 case b2s x=>
  refine ZC (fun g h=> ?_) h
  split at h
  ·split at h
   ·exact ⟨h.1,hk _ _ h.2⟩
   ·exact h
  ·exact h
 case mkslice sz bytes z l c=>
  refine ZC (fun g h=> ?_) h
  split at h
  ·refine ZC (fun g h=> ?_) h
   split at h
   ·exact ⟨h.1,h.2.1,h.2.2.1,h.2.2.2.1,fun r hr=>hk _ _ (h.2.2.2.2 r hr)⟩
   ·exact h
  ·exact h
 case call det f xs=>
  split at h
  ·cases det
   ·obtain ⟨R,h1,h2⟩:=h;exact ⟨R,h1,fun g H' hr hn=>hk _ _ (h2 g H' hr hn)⟩
   ·obtain ⟨G,h1,h2⟩:=h;exact ⟨G,h1,hk _ _ h2⟩
  ·exact h
 case callv det x xs=>
  refine ZC (fun g h=> ?_) h
  split at h
  ·split at h
   ·cases det
    ·obtain ⟨R,h1,h2⟩:=h;exact ⟨R,h1,fun g H' hr hn=>hk _ _ (h2 g H' hr hn)⟩
    ·obtain ⟨G,h1,h2⟩:=h;exact ⟨G,h1,hk _ _ h2⟩
   ·exact h
  ·exact h
 case strb n t x=>
  split at h
  ·exact ZC (fun g ⟨h1,h2,h3,h4⟩=>⟨h1,h2,h3,fun r hr=>hk _ _ (h4 r hr)⟩) h
  ·refine ZC (fun g h=> ?_) h
   split at h
   ·exact ⟨h.1,h.2.1,h.2.2.1,h.2.2.2.1,hk _ _ h.2.2.2.2⟩
   ·exact h
  ·exact h
 case callk ks f xs=>
  split at h
  ·obtain ⟨R,h1,h2⟩:=h;exact ⟨R,h1,fun g H' hr hn=>⟨(h2 g H' hr hn).1,hk _ _ (h2 g H' hr hn).2⟩⟩
  ·exact h
 case callf b o f xs=>
  split at h
  ·obtain ⟨R,h1,h2⟩:=h;exact ⟨R,h1,fun g H' hr hn=>⟨(h2 g H' hr hn).1,hk _ _ (h2 g H' hr hn).2⟩⟩
  ·exact h
 case gidx g len i=>
  refine ZC (fun x h=> ?_) h
  split at h
  ·split at h
   ·split at h
    ·exact ⟨h.1,h.2.1,h.2.2.1,hk _ _ h.2.2.2⟩
    ·exact h
   ·exact h
  ·exact h
 case gsl g len=>
  split at h
  ·exact ⟨h.1,h.2.1,hk _ _ h.2.2⟩
  ·exact h
 case calla f xs=>
  split at h
  ·obtain ⟨R,h1,h2⟩:=h;exact ⟨R,h1,fun g H' hr hn=>hk _ _ (h2 g H' hr hn)⟩
  ·exact h
 case callva x xs=>
  refine ZC (fun g h=> ?_) h
  split at h
  ·split at h
   ·obtain ⟨R,h1,h2⟩:=h;exact ⟨R,h1,fun g H' hr hn=>hk _ _ (h2 g H' hr hn)⟩
   ·exact h
  ·exact h
 case append sz bytes s x=>
  refine ZC (fun g h=> ?_) h
  split at h
  ·refine ZC (fun g h=> ?_) h
   split at h
   ·exact ⟨h.1,h.2.1,fun r hr=>hk _ _ (h.2.2 r hr)⟩
   ·split at h
    ·exact ⟨h.1,h.2.1,h.2.2.1,h.2.2.2.1,h.2.2.2.2.1,fun r hr=>hk _ _ (h.2.2.2.2.2 r hr)⟩
    ·exact h
   ·exact h
  ·exact h
 case ldx n ag a b=>
  refine ⟨h.1,?_⟩
  have h:=h.2
  refine ZC (fun g h=> ?_) h
  split at h
  ·exact ⟨h.1,h.2.1,hk _ _ h.2.2⟩
  ·split at h
   ·split at h
    ·split at h
     ·exact ⟨h.1,h.2.1,hk _ _ h.2.2⟩
     ·exact h
    ·exact h
   ·exact h
  ·exact h
 case ldf n ag a b o=>
  refine ⟨h.1,?_⟩
  have h:=h.2
  refine ZC (fun g h=> ?_) h
  split at h
  ·exact ⟨h.1,h.2.1,hk _ _ h.2.2⟩
  ·split at h
   ·split at h
    ·split at h
     ·exact ⟨h.1,h.2.1,hk _ _ h.2.2⟩
     ·exact h
    ·exact h
   ·exact h
  ·exact h
 case appx ks sz bytes s x=>
  refine ⟨h.1,?_⟩
  have h:=h.2
  refine ZC (fun g h=> ?_) h
  split at h
  ·refine ZC (fun g h=> ?_) h
   split at h
   ·exact ⟨h.1,h.2.1,fun r hr=>hk _ _ (h.2.2 r hr)⟩
   ·split at h
    ·exact ⟨h.1,h.2.1,h.2.2.1,h.2.2.2.1,h.2.2.2.2.1,fun r hr=>hk _ _ (h.2.2.2.2.2 r hr)⟩
    ·exact h
   ·exact h
  ·exact h
 case copy sz d s=>
  refine ZC (fun g h=> ?_) h
  split at h
  ·refine ZC (fun g h=> ?_) h
   split at h
   ·split at h
    ·exact ⟨h.1,h.2.1,h.2.2.1,hk _ _ h.2.2.2⟩
    ·exact h
   ·exact h
  ·exact h
 case clr sz x=>
  refine ZC (fun g h=> ?_) h
  split at h
  ·split at h
   ·exact ⟨h.1,h.2.1,h.2.2.1,hk _ _ h.2.2.2⟩
   ·exact h
  ·exact h
theorem fix1 {o:GOp} {env:Env} {H:GH} {K:GV→GH→Prop} (hc:gcls o≤1) (h:ZY P o env H K):∃G,K G H∧∀k:GV→GH→Prop,k G H→ZY P o env H k:=by
 by_cases hc0:gcls o=0
 ·obtain ⟨G,h1,h2⟩:=fix0 hc0 h
  exact ⟨G,h1,fun k hk=>h2 H k hk⟩
 cases o<;>first|(exact absurd rfl hc0;done)|(simp[gcls] at hc;done)|skip
 all_goals simp only[ZY,Z5] at h ⊢
 case load n ag a=>
  obtain ⟨g,e,h⟩:=ZR h
  split at h
  ·exact ⟨_,h.2.2,fun k hk=>by rw[e];exact ⟨h.1,h.2.1,hk⟩⟩
  ·split at h
   ·rename_i e1
    split at h
    ·rename_i e2
     split at h
     ·rename_i e3
      exact ⟨_,h.2.2,fun k hk=>by rw[e];simp only[Z3,e1,e2,e3];exact ⟨h.1,h.2.1,hk⟩⟩
     ·exact h.elim
    ·exact h.elim
   ·exact h.elim
  ·exact h.elim
 case ldx n ag a b=>
  obtain ⟨h0,h⟩:=h
  obtain ⟨g,e,h⟩:=ZR h
  split at h
  ·exact ⟨_,h.2.2,fun k hk=>⟨h0,by rw[e];exact ⟨h.1,h.2.1,hk⟩⟩⟩
  ·split at h
   ·rename_i e1
    split at h
    ·rename_i e2
     split at h
     ·rename_i e3
      exact ⟨_,h.2.2,fun k hk=>⟨h0,by rw[e];simp only[Z3,e1,e2,e3];exact ⟨h.1,h.2.1,hk⟩⟩⟩
     ·exact h.elim
    ·exact h.elim
   ·exact h.elim
  ·exact h.elim
 case ldf n ag a b o=>
  obtain ⟨h0,h⟩:=h
  obtain ⟨g,e,h⟩:=ZR h
  split at h
  ·exact ⟨_,h.2.2,fun k hk=>⟨h0,by rw[e];exact ⟨h.1,h.2.1,hk⟩⟩⟩
  ·split at h
   ·rename_i e1
    split at h
    ·rename_i e2
     split at h
     ·rename_i e3
      exact ⟨_,h.2.2,fun k hk=>⟨h0,by rw[e];simp only[Z3,e1,e2,e3];exact ⟨h.1,h.2.1,hk⟩⟩⟩
     ·exact h.elim
    ·exact h.elim
   ·exact h.elim
  ·exact h.elim
 case gidx g len i=>
  obtain ⟨x,e,h⟩:=ZR h
  split at h
  ·split at h
   ·rename_i e1
    split at h
    ·rename_i e2
     exact ⟨_,h.2.2.2,fun k hk=>by rw[e];simp only[Z3,e1,e2];exact ⟨h.1,h.2.1,h.2.2.1,hk⟩⟩
    ·exact h.elim
   ·exact h.elim
  ·exact h.elim
 case gsl g len=>
  split at h
  ·rename_i e1
   exact ⟨_,h.2.2,fun k hk=>by first|exact ⟨h.1,h.2.1,hk⟩|(simp only[e1];exact ⟨h.1,h.2.1,hk⟩)⟩
  ·exact h.elim
 case b2s x=>
  obtain ⟨g,e,h⟩:=ZR h
  split at h
  ·rename_i e1
   split at h
   ·rename_i e2
    exact ⟨_,h.2,fun k hk=>by rw[e];simp only[Z3,e1,e2];exact ⟨h.1,hk⟩⟩
   ·exact h.elim
  ·exact h.elim
 case call det f xs=>
  cases det
  ·simp[gcls] at hc
  ·split at h
   ·rename_i gs e1
    obtain ⟨G,h1,h2⟩:=h
    exact ⟨G,h2,fun k hk=>by first|exact ⟨G,h1,hk⟩|(simp only[e1];exact ⟨G,h1,hk⟩)⟩
   ·exact h.elim
 case callv det x xs=>
  cases det
  ·simp[gcls] at hc
  ·obtain ⟨g,e,h⟩:=ZR h
   split at h
   ·split at h
    ·rename_i gs e1
     obtain ⟨G,h1,h2⟩:=h
     exact ⟨G,h2,fun k hk=>by rw[e];simp only[Z3];first|exact ⟨G,h1,hk⟩|(rw[e1];exact ⟨G,h1,hk⟩)⟩
    ·exact h.elim
   ·exact h.elim
theorem Yj {ρ ρ':GE→Option GV}:∀{xs:List GE},(∀x∈xs,ρ x=ρ' x)→Zi ρ xs=Zi ρ' xs
 | [],_ => rfl
 | x::xs,h=>by
  have ih:=Yj (xs:=xs) (fun y hy=>h y (by simp[hy]))
  simp only[Zi,h x (by simp),ih]
theorem getParts_congr {ρ ρ':GE→Option GV}:∀{xs:List (Nat×Nat×GE)},(∀x∈xs,ρ x.2.2=ρ' x.2.2)→YV ρ xs=YV ρ' xs
 | [],_ => rfl
 | (a,b,x)::xs,h=>by
  have ih:=getParts_congr (xs:=xs) (fun y hy=>h y (by simp[hy]))
  simp only[YV,h (a,b,x) (by simp),ih]
theorem getIParts_congr {ρ ρ':GE→Option GV}:∀{xs:List (Nat×GE)},(∀x∈xs,ρ x.2=ρ' x.2)→Zn ρ xs=Zn ρ' xs
 | [],_ => rfl
 | (a,x)::xs,h=>by
  have ih:=getIParts_congr (xs:=xs) (fun y hy=>h y (by simp[hy]))
  simp only[Zn,h (a,x) (by simp),ih]
theorem bnd_congr {ρ ρ':GE→Option GV} {x:Option GE} {d:Int} (h:∀y∈x.toList,ρ y=ρ' y):bnd ρ x d=bnd ρ' x d:=by
 cases x with
 | none=>rfl
 | some e=>simp only[bnd,h e (by simp)]
theorem gsem_congr {o:GOp} {ρ ρ':GE→Option GV} {H:GH} {K:GV→GH→Prop} (h:∀x,(∀t∈YS x,t∈looks o)→ρ x=ρ' x):Z5 P o ρ H K=Z5 P o ρ' H K:=by
 have hl:∀xs:List GE,(∀x∈xs,∀t∈YS x,t∈looks o)→∀x∈xs,ρ x=ρ' x:=fun xs hx x hm=>h x (hx x hm)
 cases o
 case mov x=>simp only[Z5,h x (by simp[looks])]
 case pick c a b=>simp only[Z5,h c (by simp +contextual [looks]),h a (by simp +contextual [looks]),h b (by simp +contextual [looks])]
 case box n x=>simp only[Z5,h x (by simp[looks])]
 case boxro n x=>simp only[Z5,h x (by simp[looks])]
 case alloc n z=>rfl
 case allocr n=>rfl
 case loadr n ag a=>simp only[Z5,h a (by simp[looks])]
 case build z ps=>simp only[Z5,getParts_congr (fun x hx=>h x.2.2 (fun t ht=>by simp only[looks,List.mem_flatMap];exact ⟨x,hx,ht⟩))]
 case bslice sz z len ag ps=>simp only[Z5,getIParts_congr (fun x hx=>h x.2 (fun t ht=>by simp only[looks,List.mem_flatMap];exact ⟨x,hx,ht⟩))]
 case bslro sz z len ag ps=>simp only[Z5,getIParts_congr (fun x hx=>h x.2 (fun t ht=>by simp only[looks,List.mem_flatMap];exact ⟨x,hx,ht⟩))]
 case load n ag a=>simp only[Z5,h a (by simp[looks])]
 case store n a x=>simp only[Z5,h a (by simp +contextual [looks]),h x (by simp +contextual [looks])]
 case stro n t x=>rfl
 case strb n t x=>rfl
 case appx ks sz bytes s x=>rfl
 case callk ks f xs=>rfl
 case ldx n ag a b=>rfl
 case ldf n ag a b o=>rfl
 case callf b o f xs=>rfl
 case gidx g len i=>simp only[Z5,h i (by simp[looks])]
 case gsl g len=>rfl
 case bin op x y=>simp only[Z5,h x (by simp +contextual [looks]),h y (by simp +contextual [looks])]
 case beq neg x y=>simp only[Z5,h x (by simp +contextual [looks]),h y (by simp +contextual [looks])]
 case aeq neg ks x y=>simp only[Z5,h x (by simp +contextual [looks]),h y (by simp +contextual [looks])]
 case not x=>simp only[Z5,h x (by simp[looks])]
 case neg x=>simp only[Z5,h x (by simp[looks])]
 case conv k x=>simp only[Z5,h x (by simp[looks])]
 case mkfn f cs=>simp only[Z5,Yj (hl cs fun x hx t ht=>by simp only[looks,YC,List.mem_flatMap];exact ⟨x,hx,ht⟩)]
 case mkslice sz bytes z l c=>simp only[Z5,h l (by simp +contextual [looks]),h c (by simp +contextual [looks])]
 case slc sz x lo hi=>
  have e1:∀d,bnd ρ lo d=bnd ρ' lo d:=fun d=>bnd_congr (hl _ fun x hx t ht=>by simp only[looks,YC,List.mem_append,List.mem_flatMap];exact .inr (.inl ⟨x,hx,ht⟩))
  have e2:∀d,bnd ρ hi d=bnd ρ' hi d:=fun d=>bnd_congr (hl _ fun x hx t ht=>by simp only[looks,YC,List.mem_append,List.mem_flatMap];exact .inr (.inr ⟨x,hx,ht⟩))
  simp only[Z5,h x (by simp +contextual [looks]),e1,e2]
 case sslc x lo hi=>
  have e1:∀d,bnd ρ lo d=bnd ρ' lo d:=fun d=>bnd_congr (hl _ fun x hx t ht=>by simp only[looks,YC,List.mem_append,List.mem_flatMap];exact .inr (.inl ⟨x,hx,ht⟩))
  have e2:∀d,bnd ρ hi d=bnd ρ' hi d:=fun d=>bnd_congr (hl _ fun x hx t ht=>by simp only[looks,YC,List.mem_append,List.mem_flatMap];exact .inr (.inr ⟨x,hx,ht⟩))
  simp only[Z5,h x (by simp +contextual [looks]),e1,e2]
 case faddr off n ag x=>simp only[Z5,h x (by simp[looks])]
 case field off n ag x=>simp only[Z5,h x (by simp[looks])]
 case iaddr sz x i=>simp only[Z5,h x (by simp +contextual [looks]),h i (by simp +contextual [looks])]
 case idx x i=>simp only[Z5,h x (by simp +contextual [looks]),h i (by simp +contextual [looks])]
 case aidx len x i=>simp only[Z5,h x (by simp +contextual [looks]),h i (by simp +contextual [looks])]
 case ext x i=>simp only[Z5,h x (by simp[looks])]
 case call det f xs=>simp only[Z5,Yj (hl xs fun x hx t ht=>by simp only[looks,YC,List.mem_flatMap];exact ⟨x,hx,ht⟩)]
 case callv det x xs=>simp only[Z5,h x (by simp +contextual [looks]),Yj (hl xs fun x hx t ht=>by simp only[looks,YC,List.mem_append,List.mem_flatMap];exact .inr ⟨x,hx,ht⟩)]
 case calla f xs=>simp only[Z5,Yj (hl xs fun x hx t ht=>by simp only[looks,YC,List.mem_flatMap];exact ⟨x,hx,ht⟩)]
 case callva x xs=>simp only[Z5,h x (by simp +contextual [looks]),Yj (hl xs fun x hx t ht=>by simp only[looks,YC,List.mem_append,List.mem_flatMap];exact .inr ⟨x,hx,ht⟩)]
 case len x=>simp only[Z5,h x (by simp[looks])]
 case slen x=>simp only[Z5,h x (by simp[looks])]
 case isnil neg x=>simp only[Z5,h x (by simp[looks])]
 case ifnil neg x=>simp only[Z5,h x (by simp[looks])]
 case b2s x=>simp only[Z5,h x (by simp[looks])]
 case append sz bytes s x=>simp only[Z5,h s (by simp +contextual [looks]),h x (by simp +contextual [looks])]
 case copy sz d s=>simp only[Z5,h d (by simp +contextual [looks]),h s (by simp +contextual [looks])]
 case clr sz x=>simp only[Z5,h x (by simp[looks])]
 case mx x y=>simp only[Z5,h x (by simp +contextual [looks]),h y (by simp +contextual [looks])]
 case mn x y=>simp only[Z5,h x (by simp +contextual [looks]),h y (by simp +contextual [looks])]
 case nck x=>simp only[Z5,h x (by simp[looks])]
theorem nxs_congr {env env':Env} {s:Option GV}:∀{ks:List Nat},(∀a∈ks,ZU env a=ZU env' a)→nxs env s ks=nxs env' s ks
 | [],_ => rfl
 | a::ks,h=>by
  simp only[nxs,h a (by simp),nxs_congr (ks:=ks) fun b hb=>h b (by simp[hb])]
theorem kpt_congr {env env':Env} {H H':GH}:∀{ks:List Nat},(∀a∈ks,ZU env a=ZU env' a)→kpt env H H' ks=kpt env' H H' ks
 | [],_ => rfl
 | a::ks,h=>by
  simp only[kpt,h a (by simp),kpt_congr (ks:=ks) fun b hb=>h b (by simp[hb])]
theorem Ya {o:GOp} {env env':Env} {H:GH} {K:GV→GH→Prop} (h:∀t∈looks o,ZU env t=ZU env' t):ZY P o env H K=ZY P o env' H K:=by
 have hx:∀x,(∀t∈YS x,t∈looks o)→ge env x=ge env' x:=fun x hx=>by
  cases x with
  | t n=>simp only[ge,h n (hx n (by simp[YS]))]
  | k g=>rfl
 cases o with
 | allocr n=>rfl
 | strb n t x=>simp only[ZY,h t (by simp[looks]),hx x (by simp +contextual [looks])]
 | stro n t x=>simp only[ZY,h t (by simp[looks]),hx x (by simp +contextual [looks])]
 | ldx n ag a b=>simp only[ZY,Z5,h a (by simp[looks]),h b (by simp[looks]),hx (.t a) (by simp[looks,YS])]
 | ldf n ag a b o=>simp only[ZY,Z5,h a (by simp[looks]),h b (by simp[looks]),hx (.t a) (by simp[looks,YS])]
 | callf b o f xs=>
  have e1:Zi (ge env) xs=Zi (ge env') xs:=Yj fun x hx'=>hx x fun t ht=>by simp only[looks,List.mem_cons,YC,List.mem_flatMap];exact .inr ⟨x,hx',ht⟩
  simp only[ZY,e1,h b (by simp[looks])]
 | appx ks sz bytes s x=>
  simp only[ZY,Z5,hx s (by simp +contextual [looks]),hx x (by simp +contextual [looks])]
  rw[nxs_congr (env:=env) (env':=env') fun a ha=>h a (by simp[looks,ha])]
 | callk ks f xs=>
  have e1:Zi (ge env) xs=Zi (ge env') xs:=Yj fun x hx'=>hx x fun t ht=>by simp only[looks,List.mem_append,YC,List.mem_flatMap];exact .inr ⟨x,hx',ht⟩
  have e2:∀H',kpt env H H' ks=kpt env' H H' ks:=fun H'=>kpt_congr fun a ha=>h a (by simp[looks,ha])
  simp only[ZY,e1,e2]
 | _ => exact gsem_congr (P:=P) hx
end
end Go.Gh
