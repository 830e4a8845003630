/- PROVED: lemmas of a proof that ParserParens returns true. CONDITIONS: as each states. -/
import Derived.Orders
import Derived.Laws.CopyRow
import Derived.Laws.Tables
import Derived.Laws.Rows
import Derived.Laws.AppendOwn
import Derived.Lib.ItoaMem
import Derived.IntWalk
import Derived.Lib.Strings
import Derived.Laws.Cover1
import Derived.Scope
section
namespace Go.Abs
def GF (w:World):Prop:=(∃ m:Int,w.cell? ⟨0,0,none⟩=some (.int .i64 m))∧(∃ ev,w.cell? ⟨1,0,none⟩=some ev∧(ev=.nilIface∨∃ te pe,ev=.iface te pe))∧
 (∃ ev,w.cell? ⟨2,0,none⟩=some ev∧(ev=.nilIface∨∃ te pe,ev=.iface te pe))∧∃ el fz,w.heap[3]?=some (.cells (Lib.pow10Tab.map fun z=>Value.int .u64 z).toArray el fz)
inductive PV where
 | sc (v:Value)
 | sl (n:Nat) (cells:List PV)
 | pt (o:Option (List PV))
inductive AV where
 | any
 | oc
 | pv (p:PV)
 | ptr (k off:Nat)
 | arr (k n:Nat)
 | sp (cells:List PV)
 | fn (f:FuncId) (first captured:List AV)
 | agg (cs:List AV)
 | fX (vs:List AV)
 | lF (t:TypeId) (v:AV)
structure Gh where
 ρ:Nat→Option Nat
 cp:Nat→Nat
 G:Nat→Option (List PV)
inductive PR (g:Gh):PV→Value→Prop
 | sc (v:Value):PR g (.sc v) v
 | nil (a:Option Addr) (cap:Nat):PR g (.sl 0 []) (.slice a 0 cap)
 | sl (b:Nat) (ys:List PV) (off n cap:Nat) (cells:List PV) (h:g.G b=some ys) (hl:off+cells.length≤ys.length)
   (hc:cells=(ys.drop off).take cells.length) (hn:n≤cap):PR g (.sl n cells) (.slice (some ⟨b,off,none⟩) n cap)
 | BO:PR g (.pt none) (.pointer none)
 | BL (b:Nat) (ys:List PV) (off:Nat) (cells:List PV) (h:g.G b=some ys) (hl:off+cells.length≤ys.length)
   (hc:cells=(ys.drop off).take cells.length):PR g (.pt (some cells)) (.pointer (some ⟨b,off,none⟩))
inductive kL (g:Gh):List PV→List Value→Prop
 | nil:kL g [] []
 | cons {p:PV} {v:Value} {ps:List PV} {vs:List Value} (h:PR g p v) (t:kL g ps vs):kL g (p::ps) (v::vs)
mutual
inductive VR (g:Gh):AV→Value→Prop
 | any (v:Value):VR g .any v
 | oc {v:Value} (h:v.oneCell'=true):VR g .oc v
 | pv {p:PV} {v:Value} (h:PR g p v):VR g (.pv p) v
 | ptr {k b:Nat} (off:Nat) (h:g.ρ k=some b):VR g (.ptr k off) (.pointer (some ⟨b,off,none⟩))
 | arr {k b:Nat} (n:Nat) (h:g.ρ k=some b):VR g (.arr k n) (.slice (some ⟨b,0,none⟩) n (g.cp k))
 | n5 {k:Nat} (h:g.ρ k=none):VR g (.arr k 0) (.slice none 0 0)
 | sp {b:Nat} {ys:List PV} (off:Nat) {cells:List PV} (h:g.G b=some ys) (hl:off+cells.length≤ys.length) (hc:cells=(ys.drop off).take cells.length) :
   VR g (.sp cells) (.pointer (some ⟨b,off,none⟩))
 | fn (f:FuncId) {x y:List AV} {xs ys:List Value} (hx:ga g x xs) (hy:ga g y ys):VR g (.fn f x y) (.func (.func f) xs.toArray ys.toArray)
 | agg {cs:List AV} {vs:List Value} (h:ga g cs vs):VR g (.agg cs) (.agg vs.toArray)
 | fX {cs:List AV} {vs:List Value} (h:ga g cs vs):VR g (.fX cs) (.tuple vs.toArray)
 | lF (t:TypeId) {x:AV} {v:Value} (h:VR g x v):VR g (.lF t x) (.iface t v)
inductive ga (g:Gh):List AV→List Value→Prop
 | nil:ga g [] []
 | cons {p:AV} {v:Value} {ps:List AV} {vs:List Value} (h:VR g p v) (t:ga g ps vs):ga g (p::ps) (v::vs)
end
theorem ga.length {g:Gh} {cs:List AV}:∀ {vs:List Value},ga g cs vs→cs.length=vs.length:=by
 induction cs with
 | nil=>intro vs h;cases h;rfl
 | cons a l ih=>intro vs h;cases h with|cons _ t=>simp[ih t]
theorem kL.length {g:Gh} {cs:List PV}:∀ {vs:List Value},kL g cs vs→cs.length=vs.length:=by
 induction cs with
 | nil=>intro vs h;cases h;rfl
 | cons a l ih=>intro vs h;cases h with|cons _ t=>simp[ih t]
theorem ga.get {g:Gh} {cs:List AV}:∀ {vs:List Value},ga g cs vs→∀ (i:Nat) (x:AV),cs[i]?=some x→∃ v,vs[i]?=some v∧VR g x v:=by
 induction cs with
 | nil=>intro vs h i x hx;simp at hx
 | cons a l ih=>
  intro vs h i x hx
  cases h with
  | cons h0 t=>
   cases i with
   | zero=>simp at hx;subst hx;exact ⟨_,rfl,h0⟩
   | succ i=>simpa using ih t i x (by simpa using hx)
theorem kL.get {g:Gh} {cs:List PV}:∀ {vs:List Value},kL g cs vs→∀ (i:Nat) (x:PV),cs[i]?=some x→∃ v,vs[i]?=some v∧PR g x v:=by
 induction cs with
 | nil=>intro vs h i x hx;simp at hx
 | cons a l ih=>
  intro vs h i x hx
  cases h with
  | cons h0 t=>
   cases i with
   | zero=>simp at hx;subst hx;exact ⟨_,rfl,h0⟩
   | succ i=>simpa using ih t i x (by simpa using hx)
theorem ga.append {g:Gh} {cs ds:List AV}:∀ {vs us:List Value},ga g cs vs→ga g ds us→ga g (cs++ds) (vs++us):=by
 induction cs with
 | nil=>intro vs us h hd;cases h;simpa using hd
 | cons a l ih=>intro vs us h hd;cases h with|cons h0 t=>exact .cons h0 (ih t hd)
theorem kL.append {g:Gh} {cs ds:List PV}:∀ {vs us:List Value},kL g cs vs→kL g ds us→kL g (cs++ds) (vs++us):=by
 induction cs with
 | nil=>intro vs us h hd;cases h;simpa using hd
 | cons a l ih=>intro vs us h hd;cases h with|cons h0 t=>exact .cons h0 (ih t hd)
theorem ga.drop {g:Gh}:∀ (i:Nat) {cs:List AV} {vs:List Value},ga g cs vs→ga g (cs.drop i) (vs.drop i):=by
 intro i
 induction i with
 | zero=>intro cs vs h;simpa using h
 | succ i ih=>intro cs vs h;cases h with
  | nil=>exact .nil
  | cons _ t=>simpa using ih t
theorem ga.take {g:Gh}:∀ (i:Nat) {cs:List AV} {vs:List Value},ga g cs vs→ga g (cs.take i) (vs.take i):=by
 intro i
 induction i with
 | zero=>intro cs vs h;simpa using ga.nil
 | succ i ih=>intro cs vs h;cases h with
  | nil=>exact .nil
  | cons h0 t=>simpa using ga.cons h0 (ih t)
theorem kL.drop {g:Gh}:∀ (i:Nat) {cs:List PV} {vs:List Value},kL g cs vs→kL g (cs.drop i) (vs.drop i):=by
 intro i
 induction i with
 | zero=>intro cs vs h;simpa using h
 | succ i ih=>intro cs vs h;cases h with
  | nil=>exact .nil
  | cons _ t=>simpa using ih t
theorem kL.take {g:Gh}:∀ (i:Nat) {cs:List PV} {vs:List Value},kL g cs vs→kL g (cs.take i) (vs.take i):=by
 intro i
 induction i with
 | zero=>intro cs vs h;simpa using kL.nil
 | succ i ih=>intro cs vs h;cases h with
  | nil=>exact .nil
  | cons h0 t=>simpa using kL.cons h0 (ih t)
theorem kL.E4 {g:Gh} {cs:List PV}:∀ {vs:List Value},kL g cs vs→ga g (cs.map .pv) vs:=by
 induction cs with
 | nil=>intro vs h;cases h;exact .nil
 | cons a l ih=>intro vs h;cases h with|cons h0 t=>exact .cons (.pv h0) (ih t)
def AV.ed (k:Nat):AV→Bool
 | .any|.oc|.pv _|.sp _=>false
 | .ptr j _=>j==k
 | .arr j _=>j==k
 | .fn _ xs ys=>fg k xs||fg k ys
 | .agg cs=>fg k cs
 | .fX cs=>fg k cs
 | .lF _ v=>v.ed k
where
 fg (k:Nat):List AV→Bool
  | []=>false
  | x::xs=>x.ed k||fg k xs
structure ju (nn:Nat→Prop) (g g':Gh):Prop where
 ρ:∀ k,¬ nn k→g'.ρ k=g.ρ k
 cp:∀ k,¬ nn k→g'.cp k=g.cp k
 G:∀ b ys,g.G b=some ys→∃ zs,g'.G b=some (ys++zs)
theorem ju.refl (nn:Nat→Prop) (g:Gh):ju nn g g:=⟨fun _ _=>rfl,fun _ _=>rfl,fun _ _ h=>⟨[],by simpa using h⟩⟩
theorem ju.trans {nn:Nat→Prop} {a b c:Gh} (h:ju nn a b) (h':ju nn b c):ju nn a c:=
 ⟨fun k hk=>(h'.ρ k hk).trans (h.ρ k hk),fun k hk=>(h'.cp k hk).trans (h.cp k hk),fun b ys hb=>by
  obtain ⟨zs,h1⟩:=h.G b ys hb
  obtain ⟨us,h2⟩:=h'.G b _ h1
  exact ⟨zs++us,by rw[h2,List.append_assoc]⟩⟩
theorem wP {ys zs:List PV} {off:Nat} {cells:List PV} (hl:off+cells.length≤ys.length) (hc:cells=(ys.drop off).take cells.length) :
  off+cells.length≤(ys++zs).length∧cells=((ys++zs).drop off).take cells.length:=by
 refine ⟨by simp;omega,?_⟩
 rw[List.drop_append_of_le_length (by omega),List.take_append_of_le_length (by simp;omega)]
 exact hc
theorem PR.le {nn:Nat→Prop} {g g':Gh} (hg:ju nn g g') {p:PV} {v:Value} (h:PR g p v):PR g' p v:=by
 cases h with
 | sc=>exact .sc _
 | nil=>exact .nil _ _
 | sl b ys off n cap cells h hl hc hn=>
  obtain ⟨zs,h'⟩:=hg.G _ _ h
  obtain ⟨h1,h2⟩:=wP (zs:=zs) hl hc
  exact .sl b _ off n cap cells h' h1 h2 hn
 | BO=>exact .BO
 | BL b ys off cells h hl hc=>
  obtain ⟨zs,h'⟩:=hg.G _ _ h
  obtain ⟨h1,h2⟩:=wP (zs:=zs) hl hc
  exact .BL b _ off cells h' h1 h2
theorem kL.le {nn:Nat→Prop} {g g':Gh} (hg:ju nn g g') {ps:List PV}:∀ {vs:List Value},kL g ps vs→kL g' ps vs:=by
 induction ps with
 | nil=>intro vs h;cases h;exact .nil
 | cons a l ih=>intro vs h;cases h with|cons h0 t=>exact .cons (h0.le hg) (ih t)
theorem PR.congr {g g':Gh} (hG:∀ b ys,g.G b=some ys→g'.G b=some ys) {p:PV} {v:Value} (h:PR g p v):PR g' p v:=by
 cases h with
 | sc=>exact .sc _
 | nil=>exact .nil _ _
 | sl b ys off n cap cells h hl hc hn=>exact .sl b ys off n cap cells (hG _ _ h) hl hc hn
 | BO=>exact .BO
 | BL b ys off cells h hl hc=>exact .BL b ys off cells (hG _ _ h) hl hc
theorem kL.congr {g g':Gh} (hG:∀ b ys,g.G b=some ys→g'.G b=some ys) {ps:List PV}:∀ {vs:List Value},kL g ps vs→kL g' ps vs:=by
 induction ps with
 | nil=>intro vs h;cases h;exact .nil
 | cons a l ih=>intro vs h;cases h with|cons h0 t=>exact .cons (h0.congr hG) (ih t)
mutual
theorem VR.le {nn:Nat→Prop} {g g':Gh} (hg:ju nn g g'):∀ {x:AV} {v:Value},(∀ k,nn k→x.ed k=false)→VR g x v→VR g' x v
 | .any,_,_,_=>.any _
 | .oc,_,_,h=>by cases h with|oc h=>exact .oc h
 | .pv _,_,_,h=>by cases h with|pv h=>exact .pv (h.le hg)
 | .ptr k off,_,hm,h=>by
  cases h with|ptr _ h=>exact .ptr off (by rw[hg.ρ];exact h;intro q;simpa[AV.ed] using hm _ q)
 | .arr k n,_,hm,h=>by
  have hk:¬ nn k:=by intro q;simpa[AV.ed] using hm _ q
  cases h with
  | arr _ h=>rw[← hg.cp k hk];exact .arr n (by rw[hg.ρ k hk];exact h)
  | n5 h=>exact .n5 (by rw[hg.ρ k hk];exact h)
 | .sp _,_,_,h=>by cases h with
  | sp off h hl hc=>
   obtain ⟨zs,h'⟩:=hg.G _ _ h
   obtain ⟨h1,h2⟩:=wP (zs:=zs) hl hc
   exact .sp off h' h1 h2
 | .fn f x y,_,hm,h=>by
  cases h with
  | fn _ hx hy=>
   exact .fn f (ga.le hg (fun k q=>by have:=hm k q;simp[AV.ed] at this;exact this.1) hx)
    (ga.le hg (fun k q=>by have:=hm k q;simp[AV.ed] at this;exact this.2) hy)
 | .agg x,_,hm,h=>by cases h with|agg h=>exact .agg (ga.le hg (fun k q=>by have:=hm k q;simpa[AV.ed] using this) h)
 | .fX x,_,hm,h=>by cases h with|fX h=>exact .fX (ga.le hg (fun k q=>by have:=hm k q;simpa[AV.ed] using this) h)
 | .lF t x,_,hm,h=>by cases h with|lF _ h=>exact .lF t (VR.le hg (fun k q=>by have:=hm k q;simpa[AV.ed] using this) h)
theorem ga.le {nn:Nat→Prop} {g g':Gh} (hg:ju nn g g'):∀ {x:List AV} {v:List Value},(∀ k,nn k→AV.ed.fg k x=false)→ga g x v→ga g' x v
 | [],_,_,h=>by cases h;exact .nil
 | x::xs,_,hm,h=>by
  cases h with
  | cons h t=>
   exact .cons (VR.le hg (fun k q=>by have:=hm k q;simp[AV.ed.fg] at this;exact this.1) h)
    (ga.le hg (fun k q=>by have:=hm k q;simp[AV.ed.fg] at this;exact this.2) t)
end
inductive M where
 | box (cells:List AV)
 | arr (el:TypeId) (sz:Nat) (cells:List PV)
 | app (el:TypeId) (sz:Nat) (cells:List PV)
def M.isApp:M→Bool
 | .app ..=>true
 | _=>false
def M.cells:M→List AV
 | .box cs=>cs
 | .arr _ _ cs=>cs.map .pv
 | .app _ _ cs=>cs.map .pv
abbrev Z:=Nat→Option M
def Flat (cs:Array Value):Prop:=∀ v,v∈cs.toList→v.oneCell'=true
inductive iv (g:Gh) (w:World) (k:Nat):M→Prop
 | box {b:Nat} {cells:List AV} {cs:Array Value} {el:TypeId} (h:g.ρ k=some b) (hw:w.heap[b]?=some (.cells cs el (0,0)))
   (hc:ga g cells cs.toList) (h1:Flat cs):iv g w k (.box cells)
 | n5 {el:TypeId} {sz:Nat} (h:g.ρ k=none):iv g w k (.arr el sz [])
 | arr {b:Nat} {sz:Nat} {cells:List PV} {cs:Array Value} {el:TypeId} (h:g.ρ k=some b) (hw:w.heap[b]?=some (.cells cs el (0,0)))
   (hl:cells.length≤cs.size) (hz:cs.size=g.cp k*sz) (hm:g.cp k≤maxLen) (hc:kL g cells (cs.toList.take cells.length)):iv g w k (.arr el sz cells)
 | uW {el:TypeId} {sz:Nat} (h:g.ρ k=none):iv g w k (.app el sz [])
 | app {b:Nat} {sz:Nat} {cells:List PV} {cs:Array Value} {el:TypeId} (h:g.ρ k=some b) (hG:g.G b=some cells) (hw:w.heap[b]?=some (.cells cs el (0,0)))
   (hl:cells.length≤cs.size) (hz:cs.size=g.cp k*sz) (hm:g.cp k≤maxLen) (hc:kL g cells (cs.toList.take cells.length)):iv g w k (.app el sz cells)
def An (g:Gh) (w:World):Prop:=∀ b ys,g.G b=some ys→∃ cs el fz,w.heap[b]?=some (.cells cs el fz)∧ys.length≤cs.size∧kL g ys (cs.toList.take ys.length)
structure Env where
 wS:World
 w0:World
 own:Nat→Prop
 G0:Nat→Option (List PV)
 fix:Nat→Option Nat
 ib:Nat→Nat
structure ti (E:Env) (g:Gh) (σ:Z) (w:World):Prop where
 vN:∀ (b:Nat) (cs:Array Value) (el:TypeId) (fz:Nat×Nat),E.w0.heap[b]?=some (.cells cs el fz)→∃ cs':Array Value,w.heap[b]?=some (.cells cs' el fz)∧cs'.size=cs.size
 flat:∀ (k b:Nat) (cs:Array Value) (el:TypeId) (fz:Nat×Nat),E.fix k=some b→E.w0.heap[b]?=some (.cells cs el fz)→Flat cs→∃ cs':Array Value,w.heap[b]?=some (.cells cs' el fz)∧Flat cs'
 set:∀ b,b<E.wS.heap.size→w.heap[b]?=E.wS.heap[b]?
 vO:E.wS.heap.size≤E.w0.heap.size
 hi:∀ k b,(σ k).isSome=true→g.ρ k=some b→E.wS.heap.size≤b
 gf:GF E.wS
 mG:∀ k b,E.fix k=some b→b<E.w0.heap.size
 nc:∀ k b,E.fix k=some b→g.G b=none
 mH:∀ k b k',E.fix k=some b→(σ k').isSome=true→g.ρ k'=some b→k'=k
 mI:∀ k b e,E.fix k=some b→σ k=some e→∃ cs,e=.box cs
structure Rel (E:Env) (g:Gh) (σ:Z) (w:World):Prop where
 iZ:∀ k e,σ k=some e→iv g w k e
 inj:∀ k k' b,(σ k).isSome=true→(σ k').isSome=true→g.ρ k=some b→g.ρ k'=some b→k=k'
 gl:An g w
 apart:∀ k b e,σ k=some e→e.isApp=false→g.ρ k=some b→g.G b=none
 size:E.w0.heap.size≤w.heap.size
 nB:∀ b,b<E.w0.heap.size→¬ E.own b→w.heap[b]?=E.w0.heap[b]?
 own:∀ k b,(σ k).isSome=true→g.ρ k=some b→E.own b∨E.w0.heap.size≤b
 fix:∀ k b,E.fix k=some b→g.ρ k=some b
 ib:∀ k b,E.fix k=some b→g.cp k=E.ib k
 g0:∀ b ys,E.G0 b=some ys→∃ zs,g.G b=some (ys++zs)
 gn:∀ b ys,g.G b=some ys→E.G0 b=some ys∨E.own b∨E.w0.heap.size≤b
 os:w.os=E.w0.os
 out:w.output=E.w0.output
 tape:w.tape=E.w0.tape
 x:ti E g σ w
def Env.of (wS:World) (g:Gh) (σ:Z) (w:World):Env where
 wS:=wS
 w0:=w
 own:=fun b=>∃ k,(σ k).isSome=true∧g.ρ k=some b
 G0:=g.G
 fix:=fun k=>match σ k with|some (.box _)=>g.ρ k|_=>none
 ib:=g.cp
def M.le (e e':M):Prop:=∀ (g:Gh) (w:World) (k:Nat),iv g w k e→iv g w k e'
theorem M.le_refl (e:M):e.le e:=fun _ _ _ h=>h
def Fk (σ:Z) (p:Nat×M):Prop:=∃ e,σ p.1=some e∧e.le p.2
structure ew where
 s:Nat→AV
 ds:List (FuncId×List AV)
inductive DR (g:Gh):List (FuncId×List AV)→List Deferred→Prop
 | nil:DR g [] []
 | cons {f:FuncId} {cap:List AV} {cv:List Value} {l:List (FuncId×List AV)} {ds:List Deferred} (h:ga g cap cv) (t:DR g l ds) :
   DR g ((f,cap)::l) ({ target:=.fn (.func f) cv.toArray,args:=#[] }::ds)
structure FR (n:Nat) (g:Gh) (fr:ew) (a:Act):Prop where
 size:a.tmps.size=n
 gX:∀ i,VR g (fr.s i) (a.tmps.getD i undef)
 ds:DR g fr.ds a.defers
def ew.put (fr:ew) (d:Nat) (v:AV):ew:={ fr with s:=fun i=>if i=d then v else fr.s i }
def ew.hY (fr:ew) (d:Option Nat) (v:AV):ew:=match d with|some d=>fr.put d v|none=>fr
def ew.val (fr:ew):Operand→AV
 | .tmp t=>fr.s t
 | .const v=>.pv (.sc v)
 | .global _=>.any
 | .func f=>.fn f [] []
theorem FR.eval {n:Nat} {g:Gh} {fr:ew} {a:Act} (h:FR n g fr a) (x:Operand):VR g (fr.val x) (a.eval x):=by
 cases x with
 | tmp t=>exact h.gX t
 | const v=>exact .pv (.sc v)
 | global k=>exact .any _
 | func f=>exact .fn f .nil .nil
theorem FR.put {n:Nat} {g:Gh} {fr:ew} {a:Act} (h:FR n g fr a) {d:Option Nat} {v:AV} {c:Value} (hd:∀ x,d=some x→x<n) (hv:VR g v c) :
  FR n g (fr.hY d v) (a.put d c):=by
 cases d with
 | none=>exact h
 | some d=>
  refine ⟨by simp[Act.put,h.size],fun i=>?_,h.ds⟩
  simp only[ew.hY,ew.put,Act.put]
  by_cases hi:i=d
  ·subst hi
   have:=hd i rfl
   simpa[Array.getD_eq_getD_getElem?,h.size,this] using hv
  ·rw[if_neg hi]
   have hne:d≠i:=fun q=>hi q.symm
   have:=h.gX i
   simpa[Array.getD_eq_getD_getElem?,Array.getElem?_setIfInBounds_ne hne] using this
def ew.clear (fr:ew) (k:Nat):Prop:=(∀ i,(fr.s i).ed k=false)∧∀ p∈fr.ds,AV.ed.fg k p.2=false
def Z.clear (σ:Z) (k:Nat):Prop:=∀ j e,σ j=some e→AV.ed.fg k e.cells=false
theorem DR.le {nn:Nat→Prop} {g g':Gh} (hg:ju nn g g') {l:List (FuncId×List AV)}:∀ {ds:List Deferred},(∀ k,nn k→∀ p∈l,AV.ed.fg k p.2=false)→
  DR g l ds→DR g' l ds:=by
 induction l with
 | nil=>intro ds _ h;cases h;exact .nil
 | cons a l ih=>intro ds hm h;cases h with
  | cons h0 t=>exact .cons (h0.le hg fun k q=>hm k q (_,_) (List.mem_cons_self ..)) (ih (fun k q p hp=>hm k q p (by simp[hp])) t)
theorem FR.le {nn:Nat→Prop} {n:Nat} {g g':Gh} (hg:ju nn g g') {fr:ew} {a:Act} (hm:∀ k,nn k→fr.clear k) (h:FR n g fr a):FR n g' fr a:=
 ⟨h.size,fun i=>(h.gX i).le hg fun k q=>(hm k q).1 i,h.ds.le hg fun k q=>(hm k q).2⟩
theorem iv.le {nn:Nat→Prop} {g g':Gh} {w w':World} (hg:ju nn g g') {k:Nat} {e:M} (hk:¬ nn k) (hGe:∀ b,g.ρ k=some b→e.isApp=true→g'.G b=g.G b) (hm:∀ j,nn j→AV.ed.fg j e.cells=false)
  (hw:∀ b,g.ρ k=some b→w'.heap[b]?=w.heap[b]?) (h:iv g w k e):iv g' w' k e:=by
 cases h with
 | box h hw0 hc h1=>exact .box (by rw[hg.ρ k hk];exact h) (by rw[hw _ h];exact hw0) (hc.le hg hm) h1
 | n5 h=>exact .n5 (by rw[hg.ρ k hk];exact h)
 | arr h hw0 hl hz hx hc=>exact .arr (by rw[hg.ρ k hk];exact h) (by rw[hw _ h];exact hw0) hl (by rw[hg.cp k hk];exact hz) (by rw[hg.cp k hk];exact hx) (hc.le hg)
 | uW h=>exact .uW (by rw[hg.ρ k hk];exact h)
 | app h hG hw0 hl hz hx hc=>exact .app (by rw[hg.ρ k hk];exact h) (by rw[hGe _ h rfl];exact hG) (by rw[hw _ h];exact hw0) hl (by rw[hg.cp k hk];exact hz) (by rw[hg.cp k hk];exact hx) (hc.le hg)
def AV.one:AV→Bool
 | .any|.agg _|.fX _=>false
 | .pv (.sc v)=>v.oneCell'
 | _=>true
def AV.iW:List AV→Bool
 | []=>true
 | x::xs=>x.one&&iW xs
theorem VR.one {g:Gh} {v:AV} {c:Value} (h:VR g v c) (ho:v.one=true):c.oneCell'=true:=by
 cases h with
 | any=>simp[AV.one] at ho
 | oc h=>exact h
 | pv h=>cases h with
  | sc v=>exact ho
  | nil=>rfl
  | sl=>rfl
  | BO=>rfl
  | BL=>rfl
 | ptr=>rfl
 | arr=>rfl
 | n5=>rfl
 | sp=>rfl
 | fn=>rfl
 | agg=>simp[AV.one] at ho
 | fX=>simp[AV.one] at ho
 | lF=>rfl
theorem ga.one {g:Gh}:∀ {l:List AV} {vs:List Value},ga g l vs→AV.iW l=true→∀ v,v∈vs→v.oneCell'=true
 | _,_,.nil,_,v,hv=>by cases hv
 | _,_,.cons h t,ho,v,hv=>by
  simp[AV.iW] at ho
  rcases List.mem_cons.1 hv with q|q
  ·subst q;exact h.one ho.1
  ·exact t.one ho.2 v q
def Z.set (σ:Z) (k:Nat) (e:M):Z:=fun j=>if j=k then some e else σ j
def Z.del (σ:Z) (k:Nat):Z:=fun j=>if j=k then none else σ j
def Gh.bind (g:Gh) (k b c:Nat):Gh:={ g with ρ:=fun j=>if j=k then some b else g.ρ j,cp:=fun j=>if j=k then c else g.cp j }
def Gh.unbind (g:Gh) (k:Nat):Gh:={ g with ρ:=fun j=>if j=k then none else g.ρ j }
def Gh.dq (g:Gh) (b:Nat) (ys:List PV):Gh:={ g with G:=fun j=>if j=b then some ys else g.G j }
theorem Gh.xW {g:Gh} {b:Nat} {ys:List PV} (h:g.G b=some ys):∃ zs,g.G b=some (ys++zs):=⟨[],by simpa using h⟩
theorem ju.bind (g:Gh) (k b c:Nat):ju (·=k) g (g.bind k b c):=
 ⟨fun j hj=>by simp[Gh.bind,hj],fun j hj=>by simp[Gh.bind,hj],fun _ _ h=>Gh.xW h⟩
theorem ju.unbind (g:Gh) (k:Nat):ju (·=k) g (g.unbind k):=
 ⟨fun j hj=>by simp[Gh.unbind,hj],fun _ _=>rfl,fun _ _ h=>Gh.xW h⟩
theorem ju.dq {nn:Nat→Prop} (g:Gh) (b:Nat) (ys:List PV) (h:g.G b=none):ju nn g (g.dq b ys):=
 ⟨fun _ _=>rfl,fun _ _=>rfl,fun j zs hj=>by
  by_cases q:j=b
  ·subst q;rw[h] at hj;cases hj
  ·exact ⟨[],by simpa[Gh.dq,q] using hj⟩⟩
theorem ju.grow {nn:Nat→Prop} (g:Gh) (b:Nat) (ys us:List PV) (h:g.G b=some ys):ju nn g (g.dq b (ys++us)):=
 ⟨fun _ _=>rfl,fun _ _=>rfl,fun j zs hj=>by
  by_cases q:j=b
  ·subst q;rw[h] at hj;cases hj;exact ⟨us,by simp[Gh.dq]⟩
  ·exact ⟨[],by simpa[Gh.dq,q] using hj⟩⟩
theorem An.lt {g:Gh} {w:World} (h:An g w) {b:Nat} {ys:List PV} (hb:g.G b=some ys):b<w.heap.size:=by
 obtain ⟨cs,el,fz,hw,_⟩:=h b ys hb
 rcases Nat.lt_or_ge b w.heap.size with q|q
 ·exact q
 ·simp[Array.getElem?_eq_none q] at hw
theorem An.fresh {g:Gh} {w:World} (h:An g w):g.G w.heap.size=none:=by
 cases hb:g.G w.heap.size with
 | none=>rfl
 | some ys=>exact absurd (h.lt hb) (Nat.lt_irrefl _)
theorem An.le {nn:Nat→Prop} {g g':Gh} {w w':World} (hg:ju nn g g') (hG:g'.G=g.G) (hw:∀ b ys,g.G b=some ys→w'.heap[b]?=w.heap[b]?) (h:An g w):An g' w':=by
 intro b ys hb
 rw[hG] at hb
 obtain ⟨cs,el,fz,h1,h2,h3⟩:=h b ys hb
 exact ⟨cs,el,fz,by rw[hw b ys hb];exact h1,h2,h3.le hg⟩
theorem iv.lt {g:Gh} {w:World} {k b:Nat} {e:M} (h:iv g w k e) (hb:g.ρ k=some b):b<w.heap.size:=by
 have key:∀ {o:Obj},w.heap[b]?=some o→b<w.heap.size:=by
  intro o ho
  rcases Nat.lt_or_ge b w.heap.size with q|q
  ·exact q
  ·simp[Array.getElem?_eq_none q] at ho
 cases h with
 | box h hw=>rw[h] at hb;cases hb;exact key hw
 | n5 h=>rw[h] at hb;cases hb
 | arr h hw=>rw[h] at hb;cases hb;exact key hw
 | uW h=>rw[h] at hb;cases hb
 | app h hG hw=>rw[h] at hb;cases hb;exact key hw
theorem Rel.lt {E:Env} {g:Gh} {σ:Z} {w:World} (h:Rel E g σ w) {k b:Nat} (hk:(σ k).isSome=true) (hb:g.ρ k=some b):b<w.heap.size:=by
 cases hs:σ k with
 | none=>rw[hs] at hk;cases hk
 | some e=>exact (h.iZ k e hs).lt hb
theorem pE {w:World} {b:Nat} {o:Obj} (h:w.heap[b]?=some o):b<w.heap.size:=(Array.getElem?_eq_some_iff.1 h).1
theorem ti.qS {E:Env} {g g':Gh} {σ σ':Z} {w w':World} (h:ti E g σ w) (hw:w'.heap=w.heap) (hG:g'.G=g.G) (hσ:∀ k b,(σ' k).isSome=true→g'.ρ k=some b→∃ k0,(σ k0).isSome=true∧g.ρ k0=some b∧(k0=k∨∃ e,σ k0=some e∧∀ cs,e≠.box cs))
  (hb:∀ k b e',E.fix k=some b→σ' k=some e'→(∃ e,σ k=some e∧((∃ cs,e=.box cs)→∃ cs,e'=.box cs))):ti E g' σ' w' where
 vN:=by rw[hw];exact h.vN
 flat:=by rw[hw];exact h.flat
 set:=by rw[hw];exact h.set
 vO:=h.vO
 hi:=fun k b hk hr=>let ⟨k0,h1,h2,_⟩:=hσ k b hk hr;h.hi k0 b h1 h2
 gf:=h.gf
 mG:=h.mG
 nc:=by rw[hG];exact h.nc
 mH:=fun k b k' hf hk hr=>by
  obtain ⟨k0,h1,h2,h3⟩:=hσ k' b hk hr
  have h4:=h.mH k b k0 hf h1 h2
  subst h4
  rcases h3 with q|⟨e,h5,h6⟩
  ·exact q.symm
  ·obtain ⟨cs,h7⟩:=h.mI k0 b e hf h5
   exact absurd h7 (h6 cs)
 mI:=fun k b e' hf hk=>by
  obtain ⟨e,h1,h2⟩:=hb k b e' hf hk
  exact h2 (h.mI k b e hf h1)
theorem ti.wQ {E:Env} {g g':Gh} {σ:Z} {w:World} (h:ti E g σ w) (hsz:E.w0.heap.size≤w.heap.size) {o:Obj} (hr:g'.ρ=g.ρ) (hG:∀ b,b≠w.heap.size→g'.G b=g.G b):ti E g' σ (w.alloc o) where
 vN:=fun b cs el fz hb=>let ⟨cs',h1,h2⟩:=h.vN b cs el fz hb;⟨cs',by rw[heap_alloc_old w o b (pE h1)];exact h1,h2⟩
 flat:=fun k b cs el fz hk hb hf=>let ⟨cs',h1,h2⟩:=h.flat k b cs el fz hk hb hf;⟨cs',by rw[heap_alloc_old w o b (pE h1)];exact h1,h2⟩
 set:=fun b hb=>by
  have h1:=h.set b hb
  have:b<w.heap.size:=by
   have:E.wS.heap[b]?=some E.wS.heap[b]:=Array.getElem?_eq_getElem hb
   rw[this] at h1;exact pE h1
  rw[heap_alloc_old w o b this];exact h1
 vO:=h.vO
 hi:=by rw[hr];exact h.hi
 gf:=h.gf
 mG:=h.mG
 nc:=fun k b hf=>by rw[hG b (by have:=h.mG k b hf;omega)];exact h.nc k b hf
 mH:=by rw[hr];exact h.mH
 mI:=h.mI
theorem ti.alloc {E:Env} {g g':Gh} {σ:Z} {w:World} (h:ti E g σ w) (hsz:E.w0.heap.size≤w.heap.size) {nm:Nat} {e:M} {o:Obj} (hf:E.fix nm=none) (hr:∀ j,j≠nm→g'.ρ j=g.ρ j) (hrn:g'.ρ nm=some w.heap.size)
  (hG:∀ b,b≠w.heap.size→g'.G b=g.G b):ti E g' (σ.set nm e) (w.alloc o) where
 vN:=(h.wQ (g':=g) hsz rfl (fun _ _=>rfl)).vN
 flat:=(h.wQ (g':=g) hsz rfl (fun _ _=>rfl)).flat
 set:=(h.wQ (g':=g) hsz rfl (fun _ _=>rfl)).set
 vO:=h.vO
 hi:=fun k b hk hb=>by
  by_cases q:k=nm
  ·subst q;rw[hrn] at hb;cases hb;exact Nat.le_trans h.vO hsz
  ·rw[hr k q] at hb;exact h.hi k b (by simpa[Z.set,q] using hk) hb
 gf:=h.gf
 mG:=h.mG
 nc:=fun k b hf=>by rw[hG b (by have:=h.mG k b hf;omega)];exact h.nc k b hf
 mH:=fun k b k' hfk hk hb=>by
  by_cases q:k'=nm
  ·subst q;rw[hrn] at hb;cases hb
   have:=h.mG k _ hfk;omega
  ·rw[hr k' q] at hb;exact h.mH k b k' hfk (by simpa[Z.set,q] using hk) hb
 mI:=fun k b e' hfk hk=>by
  have q:k≠nm:=fun q=>by subst q;rw[hf] at hfk;cases hfk
  exact h.mI k b e' hfk (by simpa[Z.set,q] using hk)
theorem ti.write {E:Env} {g g':Gh} {σ:Z} {w:World} (h:ti E g σ w) {k c:Nat} {e:M} {cs1 cs0:Array Value} {el0:TypeId} {fz0:Nat×Nat} (hks:(σ k).isSome=true) (hb:g.ρ k=some c) (hr:g'.ρ=g.ρ)
  (h0:w.heap[c]?=some (.cells cs0 el0 fz0)) (hz:cs1.size=cs0.size) (hbx:∀ e0,σ k=some e0→(∃ cs,e0=.box cs)→∃ cs,e=.box cs) (hG:∀ b,b≠c→g'.G b=g.G b) (hGc:(∀ k',E.fix k'≠some c)∨g'.G c=g.G c) (hfl:(∃ k',E.fix k'=some c)→Flat cs0→Flat cs1):ti E g' (σ.set k e) (w.setRow c cs1) where
 vN:=fun b cs el fz hb=>by
  obtain ⟨cs',h1,h2⟩:=h.vN b cs el fz hb
  by_cases q:b=c
  ·subst q
   rw[h0] at h1;cases h1
   exact ⟨cs1,setRow_heap w b cs0 cs1 _ _ h0,hz.trans h2⟩
  ·exact ⟨cs',by rw[setRow_other w c b cs1 q];exact h1,h2⟩
 flat:=fun k b cs el fz hk hb hf=>by
  obtain ⟨cs',h1,h2⟩:=h.flat k b cs el fz hk hb hf
  by_cases q:b=c
  ·subst q
   rw[h0] at h1;cases h1
   exact ⟨cs1,setRow_heap w b cs0 cs1 _ _ h0,hfl ⟨k,hk⟩ h2⟩
  ·exact ⟨cs',by rw[setRow_other w c b cs1 q];exact h1,h2⟩
 set:=fun b hlt=>by
  have:=h.hi k c hks hb
  rw[setRow_other w c b cs1 (by omega)];exact h.set b hlt
 vO:=h.vO
 hi:=fun j b hj hjb=>by
  rw[hr] at hjb
  by_cases q:j=k
  ·subst q;exact h.hi j b hks hjb
  ·exact h.hi j b (by simpa[Z.set,q] using hj) hjb
 gf:=h.gf
 mG:=h.mG
 nc:=fun j b hf=>by
  by_cases q:b=c
  ·subst q
   rcases hGc with q|q
   ·exact absurd hf (q j)
   ·rw[q];exact h.nc j b hf
  ·rw[hG b q];exact h.nc j b hf
 mH:=fun j b j' hf hj hjb=>by
  rw[hr] at hjb
  by_cases q:j'=k
  ·subst q;exact h.mH j b j' hf hks hjb
  ·exact h.mH j b j' hf (by simpa[Z.set,q] using hj) hjb
 mI:=fun j b e' hf hj=>by
  by_cases q:j=k
  ·subst q
   simp[Z.set] at hj;subst hj
   cases hs:σ j with
   | none=>rw[hs] at hks;cases hks
   | some e0=>exact hbx e0 hs (h.mI j b e0 hf hs)
  ·exact h.mI j b e' hf (by simpa[Z.set,q] using hj)
theorem jQ (w:World) (o:Obj) {b:Nat} (h:b<w.heap.size):(w.alloc o).heap[b]?=w.heap[b]?:=heap_alloc_old w o b h
theorem Rel.alloc {E:Env} {g:Gh} {σ:Z} {w:World} (h:Rel E g σ w) {nm cap:Nat} {e:M} {o:Obj} (hc:σ.clear nm) (hf:E.fix nm=none)
  (he:iv (g.bind nm w.heap.size cap) (w.alloc o) nm e):Rel E (g.bind nm w.heap.size cap) (σ.set nm e) (w.alloc o):=by
 have hle:=ju.bind g nm w.heap.size cap
 have hne:∀ j,(σ.set nm e j).isSome=true→j≠nm→(σ j).isSome=true:=fun j hj q=>by simpa[Z.set,q] using hj
 have hρ:∀ j,j≠nm→(g.bind nm w.heap.size cap).ρ j=g.ρ j:=fun j q=>by simp[Gh.bind,q]
 have hρn:(g.bind nm w.heap.size cap).ρ nm=some w.heap.size:=by simp[Gh.bind]
 refine { iZ:=?_,inj:=?_,gl:=?_,apart:=?_,size:=?_,nB:=?_,own:=?_,fix:=?_,ib:=?_,g0:=h.g0,gn:=h.gn,os:=h.os,out:=h.out,tape:=h.tape,x:=h.x.alloc h.size hf hρ hρn (fun _ _=>rfl) }
 ·intro k e' hk
  by_cases q:k=nm
  ·subst q;simp[Z.set] at hk;subst hk;exact he
  ·simp[Z.set,q] at hk
   exact (h.iZ k e' hk).le hle q (fun _ _ _=>rfl) (fun j hj=>by subst hj;exact hc k e' hk) (fun b hb=>jQ w _ ((h.iZ k e' hk).lt hb))
 ·intro k k' b hk hk' hb hb'
  by_cases q:k=nm
  ·by_cases q':k'=nm
   ·rw[q,q']
   ·subst q
    rw[hρn] at hb;cases hb
    rw[hρ k' q'] at hb'
    exact absurd (h.lt (hne k' hk' q') hb') (Nat.lt_irrefl _)
  ·by_cases q':k'=nm
   ·subst q'
    rw[hρn] at hb';cases hb'
    rw[hρ k q] at hb
    exact absurd (h.lt (hne k hk q) hb) (Nat.lt_irrefl _)
   ·rw[hρ k q] at hb;rw[hρ k' q'] at hb'
    exact h.inj k k' b (hne k hk q) (hne k' hk' q') hb hb'
 ·exact h.gl.le hle rfl (fun b ys hb=>jQ w _ (h.gl.lt hb))
 ·intro k b e' hk hka hb
  by_cases q:k=nm
  ·subst q;rw[hρn] at hb;cases hb;exact h.gl.fresh
  ·rw[hρ k q] at hb;exact h.apart k b e' (by simpa[Z.set,q] using hk) hka hb
 ·rw[World.size_alloc];exact Nat.le_succ_of_le h.size
 ·intro b hb ho
  rw[jQ w _ (Nat.lt_of_lt_of_le hb h.size)];exact h.nB b hb ho
 ·intro k b hk hb
  by_cases q:k=nm
  ·subst q;rw[hρn] at hb;cases hb;exact .inr h.size
  ·rw[hρ k q] at hb;exact h.own k b (hne k hk q) hb
 ·intro k b hk
  have q:k≠nm:=fun q=>by subst q;rw[hf] at hk;cases hk
  rw[hρ k q];exact h.fix k b hk
 ·intro k b hk
  have q:k≠nm:=fun q=>by subst q;rw[hf] at hk;cases hk
  have:(g.bind nm w.heap.size cap).cp k=g.cp k:=by simp[Gh.bind,q]
  rw[this];exact h.ib k b hk
theorem Rel.Ao {E:Env} {g:Gh} {σ:Z} {w:World} (h:Rel E g σ w) {ys:List PV} {cs:Array Value} {el:TypeId}
  (hl:ys.length≤cs.size) (hp:kL (g.dq w.heap.size ys) ys (cs.toList.take ys.length)):Rel E (g.dq w.heap.size ys) σ (w.alloc (.cells cs el (0,0))):=by
 have hle:ju (fun _=>False) g (g.dq w.heap.size ys):=ju.dq g _ ys h.gl.fresh
 refine { iZ:=?_,inj:=h.inj,gl:=?_,apart:=?_,size:=?_,nB:=?_,own:=h.own,fix:=h.fix,ib:=h.ib,g0:=?_,gn:=?_,os:=h.os,out:=h.out,tape:=h.tape,x:=h.x.wQ h.size rfl (fun b q=>by simp[Gh.dq,q]) }
 ·intro k e hk
  exact (h.iZ k e hk).le hle (fun q=>q) (fun b hb _=>by
   have:=(h.iZ k e hk).lt hb
   simp[Gh.dq,Nat.ne_of_lt this]) (fun _ q=>q.elim) (fun b hb=>jQ w _ ((h.iZ k e hk).lt hb))
 ·intro b zs hb
  by_cases q:b=w.heap.size
  ·subst q
   simp[Gh.dq] at hb;subst hb
   exact ⟨cs,el,(0,0),heap_alloc_new w _,hl,hp⟩
  ·simp[Gh.dq,q] at hb
   obtain ⟨c,e,f,h1,h2,h3⟩:=h.gl b zs hb
   exact ⟨c,e,f,by rw[jQ w _ (h.gl.lt hb)];exact h1,h2,h3.le hle⟩
 ·intro k b e' hk hka hb
  have:=(h.iZ k e' hk).lt hb
  have q:b≠w.heap.size:=Nat.ne_of_lt this
  simp only[Gh.dq,q,if_false]
  exact h.apart k b e' hk hka hb
 ·rw[World.size_alloc];exact Nat.le_succ_of_le h.size
 ·intro b hb ho
  rw[jQ w _ (Nat.lt_of_lt_of_le hb h.size)];exact h.nB b hb ho
 ·intro b zs hb
  obtain ⟨us,h1⟩:=h.g0 b zs hb
  obtain ⟨vs,h2⟩:=hle.G b _ h1
  exact ⟨us++vs,by rw[h2,List.append_assoc]⟩
 ·intro b zs hb
  by_cases q:b=w.heap.size
  ·subst q;exact .inr (.inr h.size)
  ·simp[Gh.dq,q] at hb;exact h.gn b zs hb
theorem Rel.frozen {E:Env} {g:Gh} {σ:Z} {w:World} (h:Rel E g σ w) {ys:List PV} {cs:Array Value} {el:TypeId}
  (hl:ys.length≤cs.size) (hp:kL g ys (cs.toList.take ys.length)):Rel E (g.dq w.heap.size ys) σ (w.alloc (.cells cs el (0,0))):=
 h.Ao hl (hp.le (nn:=fun _=>False) (ju.dq g _ ys h.gl.fresh))
theorem Rel.write {E:Env} {g:Gh} {σ:Z} {w:World} (h:Rel E g σ w) {k b:Nat} {e:M} {cs:Array Value} {e0:M} (hk0:σ k=some e0) (ha0:e0.isApp=false) (hb:g.ρ k=some b)
  (he:iv g (w.setRow b cs) k e) (hsz:∃ (cs0:Array Value) (el:TypeId) (fz:Nat×Nat),w.heap[b]?=some (.cells cs0 el fz)∧cs.size=cs0.size∧((∃ k',E.fix k'=some b)→Flat cs0→Flat cs)) (hbx:(∃ cs,e0=.box cs)→∃ cs,e=.box cs):Rel E g (σ.set k e) (w.setRow b cs):=by
 have hk:(σ k).isSome=true:=by rw[hk0];rfl
 have hs:∀ j,(σ.set k e j).isSome=true→(σ j).isSome=true:=fun j hj=>by
  by_cases q:j=k
  ·subst q;exact hk
  ·simpa[Z.set,q] using hj
 refine { iZ:=?_,inj:=?_,gl:=?_,apart:=?_,size:=?_,nB:=?_,own:=?_,fix:=h.fix,ib:=h.ib,g0:=h.g0,gn:=h.gn,os:=h.os,out:=h.out,tape:=h.tape,x:=(let ⟨_,_,_,q1,q2,q3⟩:=hsz;h.x.write hk hb rfl q1 q2 (fun e1 q q'=>hbx (by rw[hk0] at q;cases q;exact q')) (fun _ _=>rfl) (.inr rfl) q3) }
 ·intro j e' hj
  by_cases q:j=k
  ·subst q;simp[Z.set] at hj;subst hj;exact he
  ·simp[Z.set,q] at hj
   refine (h.iZ j e' hj).le (ju.refl (fun _=>False) g) (fun q=>q) (fun _ _ _=>rfl) (fun _ q=>q.elim) (fun c hc=>setRow_other w b c cs ?_)
   intro hcb;subst hcb
   exact q (h.inj j k c (by rw[hj];rfl) hk hc hb)
 ·exact fun j j' c hj hj'=>h.inj j j' c (hs j hj) (hs j' hj')
 ·exact h.gl.le (ju.refl (fun _=>False) g) rfl (fun c ys hc=>setRow_other w b c cs (by
   intro q;subst q;rw[h.apart k c e0 hk0 ha0 hb] at hc;cases hc))
 ·intro j c e' hj hja hc
  by_cases q:j=k
  ·subst q;exact h.apart j c e0 hk0 ha0 hc
  ·exact h.apart j c e' (by simpa[Z.set,q] using hj) hja hc
 ·simpa using h.size
 ·intro c hc ho
  have hcb:c≠b:=by
   intro q;subst q
   rcases h.own k c hk hb with q|q
   ·exact ho q
   ·exact absurd hc (Nat.not_lt.2 q)
  rw[setRow_other w b c cs hcb];exact h.nB c hc ho
 ·exact fun j c hj hc=>h.own j c (hs j hj) hc
theorem Rel.drew {E:Env} {g:Gh} {σ:Z} {w:World} (h:Rel E g σ w):Rel E g σ w.drew:=
 {
  iZ:=fun k e hk=>iv.le (w:=w) (w':=w.drew) (ju.refl (fun _=>False) g) (fun q=>q) (fun _ _ _=>rfl) (fun _ q=>q.elim) (fun _ _=>rfl) (h.iZ k e hk)
  inj:=h.inj,gl:=h.gl,apart:=h.apart,size:=h.size,nB:=h.nB,own:=h.own,fix:=h.fix,ib:=h.ib,g0:=h.g0,gn:=h.gn,os:=h.os,out:=h.out,tape:=h.tape,x:=h.x.qS rfl rfl (fun k _ hk hb=>⟨k,hk,hb,.inl rfl⟩) (fun _ _ e' _ hk=>⟨e',hk,id⟩) }
def Gh.alias (g:Gh) (nm k:Nat):Gh:={ g with ρ:=fun j=>if j=nm then g.ρ k else g.ρ j,cp:=fun j=>if j=nm then g.cp k else g.cp j }
theorem ju.alias (g:Gh) (nm k:Nat):ju (·=nm) g (g.alias nm k):=
 ⟨fun j hj=>by simp[Gh.alias,hj],fun j hj=>by simp[Gh.alias,hj],fun _ _ h=>Gh.xW h⟩
theorem Rel.rename {E:Env} {g:Gh} {σ:Z} {w:World} (h:Rel E g σ w) {nm k:Nat} {e:M} (hk:σ k=some e) (hc:(σ.del k).clear nm) (he:AV.ed.fg nm e.cells=false)
  (hf:E.fix nm=none) (hnb:∀ cs,e≠.box cs):Rel E (g.alias nm k) ((σ.del k).set nm e) w:=by
 have hle:=ju.alias g nm k
 have hn:(g.alias nm k).ρ nm=g.ρ k:=by simp[Gh.alias]
 have ho:∀ j,j≠nm→(g.alias nm k).ρ j=g.ρ j:=fun j q=>by simp[Gh.alias,q]
 have hkk:(σ k).isSome=true:=by rw[hk];rfl
 have key:∀ j,(((σ.del k).set nm e) j).isSome=true→∃ i,(σ i).isSome=true∧(g.alias nm k).ρ j=g.ρ i∧(j=nm→i=k)∧(j≠nm→i=j∧i≠k):=fun j hj=>by
  by_cases q:j=nm
  ·subst q;exact ⟨k,hkk,hn,fun _=>rfl,fun q=>absurd rfl q⟩
  ·by_cases q':j=k
   ·subst q';simp[Z.set,Z.del,q] at hj
   ·simp[Z.set,Z.del,q,q'] at hj
    exact ⟨j,hj,ho j q,fun q2=>absurd q2 q,fun _=>⟨rfl,q'⟩⟩
 refine { iZ:=?_,inj:=?_,gl:=?_,apart:=?_,size:=h.size,nB:=h.nB,own:=?_,fix:=?_,ib:=?_,g0:=h.g0,gn:=h.gn,os:=h.os,out:=h.out,tape:=h.tape,x:=h.x.qS rfl rfl (fun j b hj hb=>(by
   obtain ⟨i,h1,h2,h3,h4⟩:=key j hj
   refine ⟨i,h1,h2▸hb,?_⟩
   by_cases q:j=nm
   ·have:=h3 q;subst this;exact .inr ⟨e,hk,hnb⟩
   ·exact .inl (h4 q).1)) (fun j b e' hfj hj=>by
   have q:j≠nm:=fun q=>by subst q;rw[hf] at hfj;cases hfj
   by_cases q':j=k
   ·subst q';simp[Z.set,Z.del,q] at hj
   ·simp[Z.set,Z.del,q,q'] at hj
    exact ⟨e',hj,id⟩) }
 ·intro j e' hj
  by_cases q:j=nm
  ·subst q
   simp[Z.set] at hj;subst hj
   have hcp:(g.alias j k).cp j=g.cp k:=by simp[Gh.alias]
   cases h.iZ k e hk with
   | box h1 h2 h3 h4=>exact .box (hn.trans h1) h2 (h3.le hle fun i q=>by subst q;exact he) h4
   | n5 h1=>exact .n5 (hn.trans h1)
   | arr h1 h2 h3 h4 h5 h6=>exact .arr (hn.trans h1) h2 h3 (by rw[hcp];exact h4) (by rw[hcp];exact h5) (h6.le hle)
   | uW h1=>exact .uW (hn.trans h1)
   | app h1 hG h2 h3 h4 h5 h6=>exact .app (hn.trans h1) hG h2 h3 (by rw[hcp];exact h4) (by rw[hcp];exact h5) (h6.le hle)
  ·have hj2:(σ.del k) j=some e':=by simpa[Z.set,q] using hj
   have hj3:σ j=some e':=by
    by_cases q':j=k
    ·subst q';simp[Z.del] at hj2
    ·simpa[Z.del,q'] using hj2
   exact (h.iZ j e' hj3).le hle q (fun _ _ _=>rfl) (fun i q2=>by subst q2;exact hc j e' hj2) (fun _ _=>rfl)
 ·intro j j' b hj hj' hb hb'
  obtain ⟨i,hi,hr,h1,h2⟩:=key j hj
  obtain ⟨i',hi',hr',h1',h2'⟩:=key j' hj'
  rw[hr] at hb;rw[hr'] at hb'
  have hii:=h.inj i i' b hi hi' hb hb'
  by_cases q:j=nm
  ·by_cases q':j'=nm
   ·rw[q,q']
   ·have:=h1 q;have:=h2' q';omega
  ·by_cases q':j'=nm
   ·have:=h1' q';have:=h2 q;omega
   ·have:=h2 q;have:=h2' q';omega
 ·exact h.gl.le hle rfl (fun _ _ _=>rfl)
 ·intro j b e' hj hja hb
  obtain ⟨i,hi,hr,h1,h2⟩:=key j (by rw[hj];rfl)
  rw[hr] at hb
  by_cases q:j=nm
  ·have:=h1 q;subst this
   subst q;simp[Z.set] at hj;subst hj
   exact h.apart i b _ hk hja hb
  ·obtain ⟨rfl,q2⟩:=h2 q
   exact h.apart i b e' (by simpa[Z.set,Z.del,q,q2] using hj) hja hb
 ·intro j b hj hb
  obtain ⟨i,hi,hr,_⟩:=key j hj
  rw[hr] at hb;exact h.own i b hi hb
 ·intro j b hj
  have q:j≠nm:=fun q=>by subst q;rw[hf] at hj;cases hj
  rw[ho j q];exact h.fix j b hj
 ·intro j b hj
  have q:j≠nm:=fun q=>by subst q;rw[hf] at hj;cases hj
  have:(g.alias nm k).cp j=g.cp j:=by simp[Gh.alias,q]
  rw[this];exact h.ib j b hj
theorem Rel.sub {E:Env} {g:Gh} {σ σ':Z} {w:World} (h:Rel E g σ w) (hs:∀ k e,σ' k=some e→σ k=some e):Rel E g σ' w:=by
 have hi:∀ k,(σ' k).isSome=true→(σ k).isSome=true:=fun k hk=>by
  cases q:σ' k with
  | none=>rw[q] at hk;cases hk
  | some e=>rw[hs k e q];rfl
 exact {
     iZ:=fun k e hk=>h.iZ k e (hs k e hk),inj:=fun k k' b hk hk'=>h.inj k k' b (hi k hk) (hi k' hk'),gl:=h.gl
     apart:=fun k b e hk=>h.apart k b e (hs k e hk),size:=h.size,nB:=h.nB,own:=fun k b hk=>h.own k b (hi k hk),fix:=h.fix,ib:=h.ib,g0:=h.g0,gn:=h.gn,os:=h.os,out:=h.out,tape:=h.tape,x:=h.x.qS rfl rfl (fun k b hk hb=>⟨k,hi k hk,hb,.inl rfl⟩) (fun k b e' _ hk=>⟨e',hs k _ hk,id⟩) }
theorem Rel.xX {E:Env} {g:Gh} {σ:Z} {w:World} (h:Rel E g σ w) {nm cap sz:Nat} {ys:List PV} {cs:Array Value} {el:TypeId} (hc:σ.clear nm) (hf:E.fix nm=none)
  (hl:ys.length≤cs.size) (hz:cs.size=cap*sz) (hm:cap≤maxLen) (hp:kL (g.dq w.heap.size ys) ys (cs.toList.take ys.length)) :
  Rel E ((g.bind nm w.heap.size cap).dq w.heap.size ys) (σ.set nm (.app el sz ys)) (w.alloc (.cells cs el (0,0))):=by
 have h0:=h.Ao (el:=el) hl hp
 have hle:ju (·=nm) (g.dq w.heap.size ys) ((g.bind nm w.heap.size cap).dq w.heap.size ys):=
  ⟨fun j hj=>by simp[Gh.bind,Gh.dq,hj],fun j hj=>by simp[Gh.bind,Gh.dq,hj],fun _ _ h=>Gh.xW h⟩
 have hρ:∀ j,j≠nm→((g.bind nm w.heap.size cap).dq w.heap.size ys).ρ j=g.ρ j:=fun j q=>by simp[Gh.bind,Gh.dq,q]
 have hρn:((g.bind nm w.heap.size cap).dq w.heap.size ys).ρ nm=some w.heap.size:=by simp[Gh.bind,Gh.dq]
 have hne:∀ j,(σ.set nm (.app el sz ys) j).isSome=true→j≠nm→(σ j).isSome=true:=fun j hj q=>by simpa[Z.set,q] using hj
 refine { iZ:=?_,inj:=?_,gl:=?_,apart:=?_,size:=h0.size,nB:=h0.nB,own:=?_,fix:=?_,ib:=?_,g0:=h0.g0,gn:=h0.gn,os:=h0.os,out:=h0.out,tape:=h0.tape,x:=h.x.alloc h.size hf hρ hρn (fun b q=>by simp[Gh.bind,Gh.dq,q]) }
 ·intro k e' hk
  by_cases q:k=nm
  ·subst q;simp[Z.set] at hk;subst hk
   exact .app hρn (by simp[Gh.dq]) (heap_alloc_new w _) hl (by simpa[Gh.bind,Gh.dq] using hz) (by simpa[Gh.bind,Gh.dq] using hm) (hp.le hle)
  ·simp[Z.set,q] at hk
   exact (h0.iZ k e' hk).le hle q (fun _ _ _=>rfl) (fun j hj=>by subst hj;exact hc k e' hk) (fun _ _=>rfl)
 ·intro k k' b hk hk' hb hb'
  by_cases q:k=nm
  ·by_cases q':k'=nm
   ·rw[q,q']
   ·subst q
    rw[hρn] at hb;cases hb
    rw[hρ k' q'] at hb'
    exact absurd (h.lt (hne k' hk' q') hb') (Nat.lt_irrefl _)
  ·by_cases q':k'=nm
   ·subst q'
    rw[hρn] at hb';cases hb'
    rw[hρ k q] at hb
    exact absurd (h.lt (hne k hk q) hb) (Nat.lt_irrefl _)
   ·rw[hρ k q] at hb;rw[hρ k' q'] at hb'
    exact h.inj k k' b (hne k hk q) (hne k' hk' q') hb hb'
 ·exact h0.gl.le hle rfl (fun _ _ _=>rfl)
 ·intro k b e' hk hka hb
  by_cases q:k=nm
  ·subst q;simp[Z.set] at hk;subst hk;cases hka
  ·rw[hρ k q] at hb;exact h0.apart k b e' (by simpa[Z.set,q] using hk) hka hb
 ·intro k b hk hb
  by_cases q:k=nm
  ·subst q;rw[hρn] at hb;cases hb;exact .inr h.size
  ·rw[hρ k q] at hb;exact h.own k b (hne k hk q) hb
 ·intro k b hk
  have q:k≠nm:=fun q=>by subst q;rw[hf] at hk;cases hk
  rw[hρ k q];exact h.fix k b hk
 ·intro k b hk
  have q:k≠nm:=fun q=>by subst q;rw[hf] at hk;cases hk
  have:((g.bind nm w.heap.size cap).dq w.heap.size ys).cp k=g.cp k:=by simp[Gh.bind,Gh.dq,q]
  rw[this];exact h.ib k b hk
def Gh.fresh (g:Gh) (nm b cap:Nat) (e:M):Gh:=match e with
 | .app _ _ ys=>(g.bind nm b cap).dq b ys
 | _=>g.bind nm b cap
theorem ju.fresh (g:Gh) (nm b cap:Nat) (e:M) (h:g.G b=none):ju (·=nm) g (g.fresh nm b cap e):=by
 cases e with
 | box _=>exact ju.bind ..
 | arr _ _ _=>exact ju.bind ..
 | app _ _ ys=>exact (ju.bind g nm b cap).trans (ju.dq _ b ys (by simpa[Gh.bind] using h))
theorem Rel.BP {E:Env} {g:Gh} {σ:Z} {w:World} (h:Rel E g σ w) {nm cap:Nat} {e:M} {cs:Array Value} {el:TypeId} (hc:σ.clear nm) (hf:E.fix nm=none)
  (he:iv (g.fresh nm w.heap.size cap e) (w.alloc (.cells cs el (0,0))) nm e):Rel E (g.fresh nm w.heap.size cap e) (σ.set nm e) (w.alloc (.cells cs el (0,0))):=by
 cases e with
 | box _=>exact h.alloc hc hf he
 | arr _ _ _=>exact h.alloc hc hf he
 | app ee sz ys=>
  simp only[Gh.fresh] at he ⊢
  have hn:((g.bind nm w.heap.size cap).dq w.heap.size ys).ρ nm=some w.heap.size:=by simp[Gh.bind,Gh.dq]
  have hcp:((g.bind nm w.heap.size cap).dq w.heap.size ys).cp nm=cap:=by simp[Gh.bind,Gh.dq]
  cases he with
  | uW h=>rw[hn] at h;cases h
  | app h1 hG hw hl hz hm hp=>
   rw[hn] at h1;cases h1
   rw[heap_alloc_new w _] at hw
   cases hw
   rw[hcp] at hz hm
   exact h.xX hc hf hl hz hm (kL.congr (g:=(g.bind nm w.heap.size cap).dq w.heap.size ys) (g':=g.dq w.heap.size ys) (fun _ _ q=>q) hp)
theorem Rel.extend {E:Env} {g:Gh} {σ:Z} {w:World} (h:Rel E g σ w) {k b sz:Nat} {el:TypeId} {ys us:List PV} {cs:Array Value} (hk:σ k=some (.app el sz ys)) (hb:g.ρ k=some b)
  (hl:(ys++us).length≤cs.size) (hz:cs.size=g.cp k*sz) (hel:∃ cs0,w.heap[b]?=some (.cells cs0 el (0,0))) (hp:kL g (ys++us) (cs.toList.take (ys++us).length)) :
  Rel E (g.dq b (ys++us)) (σ.set k (.app el sz (ys++us))) (w.setRow b cs):=by
 obtain ⟨cs0,hw0⟩:=hel
 have hG:g.G b=some ys:=by
  cases h.iZ k _ hk with
  | uW h1=>rw[h1] at hb;cases hb
  | app h1 hG=>rw[h1] at hb;cases hb;exact hG
 have hcm:g.cp k≤maxLen:=by
  cases h.iZ k _ hk with
  | uW h1=>rw[h1] at hb;cases hb
  | app h1 hG _ _ _ hm=>exact hm
 have hsz0:∀ {cs0:Array Value},w.heap[b]?=some (.cells cs0 el (0,0))→cs0.size=g.cp k*sz:=fun {cs0} hw0=>by
  cases h.iZ k _ hk with
  | uW h1=>rw[h1] at hb;cases hb
  | app h1 hG hw1 _ hz1 _=>rw[h1] at hb;cases hb;rw[hw0] at hw1;cases hw1;exact hz1
 have hks:(σ k).isSome=true:=by rw[hk];rfl
 have hle:ju (fun _=>False) g (g.dq b (ys++us)):=ju.grow g b ys us hG
 have hs:∀ j,(σ.set k (.app el sz (ys++us)) j).isSome=true→(σ j).isSome=true:=fun j hj=>by
  by_cases q:j=k
  ·subst q;exact hks
  ·simpa[Z.set,q] using hj
 have hGo:∀ c,c≠b→(g.dq b (ys++us)).G c=g.G c:=fun c q=>by simp[Gh.dq,q]
 have hnew:(w.setRow b cs).heap[b]?=some (.cells cs el (0,0)):=setRow_heap w b cs0 cs el _ hw0
 refine { iZ:=?_,inj:=?_,gl:=?_,apart:=?_,size:=?_,nB:=?_,own:=?_,fix:=h.fix,ib:=h.ib,g0:=?_,gn:=?_,os:=h.os,out:=h.out,tape:=h.tape,x:=h.x.write hks hb rfl hw0 (hz.trans (hsz0 hw0).symm) (fun e0 q q'=>(by rw[hk] at q;cases q;obtain ⟨_,q'⟩:=q';cases q')) (fun c q=>hGo c q) (.inl fun k' q=>(by
   have h1:=h.x.nc k' b q
   rw[hG] at h1;cases h1)) (fun ⟨k',q⟩=>(by
   have h1:=h.x.nc k' b q
   rw[hG] at h1;cases h1)) }
 ·intro j e' hj
  by_cases q:j=k
  ·subst q;simp[Z.set] at hj;subst hj
   exact .app hb (by simp[Gh.dq]) hnew hl hz hcm (hp.le hle)
  ·simp[Z.set,q] at hj
   have hne:∀ c,g.ρ j=some c→c≠b:=fun c hc hcb=>by
    subst hcb
    exact q (h.inj j k c (by rw[hj];rfl) hks hc hb)
   exact (h.iZ j e' hj).le hle (fun q=>q) (fun c hc _=>hGo c (hne c hc)) (fun _ q=>q.elim) (fun c hc=>setRow_other w b c cs (hne c hc))
 ·exact fun j j' c hj hj'=>h.inj j j' c (hs j hj) (hs j' hj')
 ·intro c zs hc
  by_cases q:c=b
  ·subst q
   simp[Gh.dq] at hc;subst hc
   exact ⟨cs,el,(0,0),hnew,hl,hp.le hle⟩
  ·rw[hGo c q] at hc
   obtain ⟨c1,e1,f1,h1,h2,h3⟩:=h.gl c zs hc
   exact ⟨c1,e1,f1,by rw[setRow_other w b c cs q];exact h1,h2,h3.le hle⟩
 ·intro j c e' hj hja hc
  by_cases q:j=k
  ·subst q;simp[Z.set] at hj;subst hj;cases hja
  ·have hj':σ j=some e':=by simpa[Z.set,q] using hj
   have:c≠b:=fun hcb=>by
    subst hcb
    exact q (h.inj j k c (by rw[hj'];rfl) hks hc hb)
   rw[hGo c this];exact h.apart j c e' hj' hja hc
 ·simpa using h.size
 ·intro c hc ho
  have hcb:c≠b:=by
   intro q;subst q
   rcases h.own k c hks hb with q|q
   ·exact ho q
   ·exact absurd hc (Nat.not_lt.2 q)
  rw[setRow_other w b c cs hcb];exact h.nB c hc ho
 ·exact fun j c hj hc=>h.own j c (hs j hj) hc
 ·intro c zs hc
  obtain ⟨us',h1⟩:=h.g0 c zs hc
  obtain ⟨vs,h2⟩:=hle.G c _ h1
  exact ⟨us'++vs,by rw[h2,List.append_assoc]⟩
 ·intro c zs hc
  by_cases q:c=b
  ·subst q
   rcases h.own k c hks hb with q|q
   ·exact .inr (.inl q)
   ·exact .inr (.inr q)
  ·rw[hGo c q] at hc;exact h.gn c zs hc
def Hz:TypeDesc→Bool
 | .struct _|.array _ _=>true
 | _=>false
def vL (P:Program) (t:TypeId):Option Nat:=(P.info? t).map (·.size)
def oJ (P:Program) (t:TypeId):Option Bool:=(P.underlying t).map Hz
def GA (P:Program) (s:TypeId) (f:Nat):Option Nat:=
 match P.underlying s with
 | some (.struct fs)=>match fs[f]? with
  | some fd=>match vL P fd.type with
   | some (_+1)=>some fd.offset
   | _=>none
  | none=>none
 | _=>none
def GB (P:Program) (t:TypeId):Option (TypeId×Nat):=
 match P.underlying t with
 | some (.slice e)=>(vL P e).map (e,·)
 | _=>none
def BQ (P:Program) (t:TypeId):Option (Nat×Nat):=
 match P.underlying t with
 | some (.array n e)=>(vL P e).map (n,·)
 | _=>none
def BR (P:Program) (t:TypeId):Option (List Value):=(P.info? t).bind fun i=>i.zero.bind fun z=>match z.cells.toList.all Value.oneCell' with
 | true=>some z.cells.toList
 | false=>none
theorem kY {P:Program} {t:TypeId} {n:Nat} (h:vL P t=some n) (w:World):(sizeOf t).run P w=.ok n w:=by
 unfold vL at h
 cases hi:P.info? t with
 | none=>simp[hi] at h
 | some i=>simp[hi] at h;subst h;simp[sizeOf,typeInfo,hi]
theorem nG {P:Program} {t:TypeId} {b:Bool} (h:oJ P t=some b) (w:World):(isAgg t).run P w=.ok b w:=by
 unfold oJ at h
 cases hd:P.underlying t with
 | none=>simp[hd] at h
 | some d=>
  simp[hd] at h;subst h
  simp only[isAgg,Sem.run_bind,run_underlying hd,Result.andThen_ok]
  cases d<;>rfl
theorem qT {P:Program} {w:World} {t:TypeId} {n b off:Nat} {cs:Array Value} {el:TypeId} {fz:Nat×Nat} (ht:vL P t=some n) (ha:oJ P t=some true)
  (hw:w.heap[b]?=some (.cells cs el fz)) (hn:off+n≤cs.size):(loadVar t ⟨b,off,none⟩).run P w=.ok (.agg ((cs.toList.drop off).take n).toArray) w:=by
 have hl:=run_loadCells_list (P:=P) w ⟨b,off,none⟩ ((cs.toList.drop off).take n) (fun j v hj=>by
  rw[Addr.add_lit,cell_of_row w b _ cs el fz hw]
  rw[List.getElem?_take] at hj
  split at hj
  ·rw[List.getElem?_drop] at hj;simpa using hj
  ·cases hj)
 have hlen:((cs.toList.drop off).take n).length=n:=by simp;omega
 rw[hlen] at hl
 simp[loadVar,nG ha,kY ht,hl]
theorem l9 {P:Program} {w:World} {t:TypeId} {b off:Nat} {cs:Array Value} {el:TypeId} {fz:Nat×Nat} {v:Value} (ha:oJ P t=some false)
  (hw:w.heap[b]?=some (.cells cs el fz)) (hv:cs.toList[off]?=some v):(loadVar t ⟨b,off,none⟩).run P w=.ok v w:=by
 have:=cell_of_row w b off cs el fz hw
 have hv':cs[off]?=some v:=by simpa using hv
 rw[hv'] at this
 simp[loadVar,nG ha,this]
def fJ (P:Program) (op:Op) (fr:ew) (rd:List (Nat×M)) (v:AV):Prop:=
 ∀ (o:Oper),o.op=op→∀ (g:Gh) (ev:Operand→Value) (w:World),An g w→(∀ x,x∈op.operands→VR g (fr.val x) (ev x))→
  (∀ p,p∈rd→iv g w p.1 p.2)→∃ c,(execOp ev o).run P w=.ok (.value c) w∧VR g v c
abbrev I (n:Int):AV:=.pv (.sc (.int .i64 n))
abbrev Bo (b:Bool):AV:=.pv (.sc (.bool b))
def S (l:List UInt8):Value:=.string ⟨l.toArray⟩
abbrev F (l:List UInt8):AV:=.pv (.sc (S l))
abbrev Sc (v:Value):AV:=.pv (.sc v)
theorem VR.dz {g:Gh} {v c:Value} (h:VR g (Sc v) c):c=v:=by
 cases h with|pv h=>cases h with|sc=>rfl
theorem VR.sc (g:Gh) (v:Value):VR g (Sc v) v:=.pv (.sc v)
section
variable {P:Program} {fr:ew}
theorem Dx (x:Operand):fJ P (.move x) fr [] (fr.val x):=by
 intro o ho g ev w _ hx _
 exact ⟨ev x,by simp[execOp,ho],hx x (by simp[Op.operands])⟩
theorem tj (x:Operand):fJ P (.assign x) fr [] (fr.val x):=by
 intro o ho g ev w _ hx _
 exact ⟨ev x,by simp[execOp,ho],hx x (by simp[Op.operands])⟩
theorem Ap {c a b:Operand} {t:Bool} (hc:fr.val c=Bo t):fJ P (.pick c a b) fr [] (if t then fr.val a else fr.val b):=by
 intro o ho g ev w _ hx _
 have h1:=hx c (by simp[Op.operands]);rw[hc] at h1
 refine ⟨if t then ev a else ev b,by simp[execOp,ho,h1.dz,asBool],?_⟩
 cases t
 ·exact hx b (by simp[Op.operands])
 ·exact hx a (by simp[Op.operands])
theorem uw {x:Operand} {k off:Nat} (h:fr.val x=.ptr k off):fJ P (.nilCheck x) fr [] (.ptr k off):=by
 intro o ho g ev w _ hx _
 have h1:=hx x (by simp[Op.operands]);rw[h] at h1
 generalize hq:ev x=c at h1
 refine ⟨c,?_,h1⟩
 cases h1 with|ptr _ hk=>simp[execOp,ho,hq]
theorem ud {s:TypeId} {f d b off:Nat} (h:GA P s f=some d) (w:World) :
  (Instr.fieldAt s (.pointer (some ⟨b,off,none⟩)) f).run P w=.ok (.pointer (some ⟨b,off+d,none⟩)) w:=by
 unfold GA at h
 split at h
 ·rename_i fs hs
  split at h
  ·rename_i fd hf
   split at h
   ·rename_i n hn
    cases h
    simp[Instr.fieldAt,run_underlying hs,hf,Instr.sureAddr,fieldPlace,kY hn,Addr.add_lit]
   ·cases h
  ·cases h
 ·cases h
theorem wR {s:TypeId} {x:Operand} {f d k off:Nat} (h:GA P s f=some d) (hx:fr.val x=.ptr k off):fJ P (.fieldAddr s x f) fr [] (.ptr k (off+d)):=by
 intro o ho g ev w _ hv _
 have h1:=hv x (by simp[Op.operands]);rw[hx] at h1
 generalize hq:ev x=c at h1
 cases h1 with
 | ptr _ hk=>
  rename_i b
  refine ⟨_,?_,.ptr (off+d) hk⟩
  simp[execOp,ho,hq,ud h]
theorem ux {s:TypeId} {x:Operand} {f d:Nat} {cells:List PV} (h:GA P s f=some d) (hx:fr.val x=.sp cells) (hd:d≤cells.length) :
  fJ P (.fieldAddr s x f) fr [] (.sp (cells.drop d)):=by
 intro o ho g ev w _ hv _
 have h1:=hv x (by simp[Op.operands]);rw[hx] at h1
 generalize hq:ev x=c at h1
 cases h1 with
 | sp off hk hl hc=>
  rename_i b ys
  refine ⟨_,?_,.sp (off+d) hk ?_ ?_⟩
  ·simp[execOp,ho,hq,ud h]
  ·simp;omega
  ·rw[hc,List.drop_take,List.drop_drop];simp
theorem wT {t:TypeId} {e:TypeId} {sz:Nat} (h:GB P t=some (e,sz)):P.underlying t=some (.slice e)∧vL P e=some sz:=by
 unfold GB at h
 split at h
 ·rename_i e' he
  cases hs:vL P e' with
  | none=>simp[hs] at h
  | some n=>simp[hs] at h;obtain ⟨rfl,rfl⟩:=h;exact ⟨he,hs⟩
 ·cases h
theorem BS {t:TypeId} {n:Nat} {sz:Nat} (h:BQ P t=some (n,sz)):∃ e,P.underlying t=some (.array n e)∧vL P e=some sz:=by
 unfold BQ at h
 split at h
 ·rename_i m e' he
  cases hs:vL P e' with
  | none=>simp[hs] at h
  | some n=>simp[hs] at h;obtain ⟨rfl,rfl⟩:=h;exact ⟨e',he,hs⟩
 ·cases h
theorem ue {t e:TypeId} {sz b off n cap:Nat} {k:IntKind} {i:Int} (h:GB P t=some (e,sz)) (h0:0≤i) (h1:i<n) (w:World) :
  (Instr.indexAt t (.slice (some ⟨b,off,none⟩) n cap) (.int k i)).run P w=.ok (.pointer (some ⟨b,off+i.toNat*sz,none⟩)) w:=by
 obtain ⟨hu,hs⟩:=wT h
 simp[Instr.indexAt,asIntOf,run_underlying hu,h0,h1,kY hs,Addr.add_lit]
theorem uy {t:TypeId} {sz b off n:Nat} {k:IntKind} {i:Int} (h:BQ P t=some (n,sz)) (h0:0≤i) (h1:i<n) (w:World) :
  (Instr.indexAt t (.pointer (some ⟨b,off,none⟩)) (.int k i)).run P w=.ok (.pointer (some ⟨b,off+i.toNat*sz,none⟩)) w:=by
 obtain ⟨e,hu,hs⟩:=BS h
 simp[Instr.indexAt,asIntOf,run_underlying hu,h0,h1,kY hs,Addr.add_lit,Instr.sureAddr]
theorem uz {t e:TypeId} {sz n:Nat} {cells:List PV} {x ix:Operand} {k:IntKind} {i:Int} (h:GB P t=some (e,sz)) (hx:fr.val x=.pv (.sl n cells))
  (hi:fr.val ix=Sc (.int k i)) (h0:0≤i) (h1:i<n) (h2:i.toNat*sz≤cells.length):fJ P (.indexAddr t x ix) fr [] (.sp (cells.drop (i.toNat*sz))):=by
 intro o ho g ev w _ hv _
 have q1:=hv x (by simp[Op.operands]);rw[hx] at q1
 have q2:=hv ix (by simp[Op.operands]);rw[hi] at q2
 generalize hq:ev x=c at q1
 cases q1 with
 | pv q1=>
  cases q1 with
  | nil a cap=>omega
  | sl b ys off _ cap _ hb hl hc hn=>
   refine ⟨_,?_,.sp (off+i.toNat*sz) hb ?_ ?_⟩
   ·simp[execOp,ho,hq,q2.dz,ue h h0 h1]
   ·simp;omega
   ·rw[hc,List.drop_take,List.drop_drop];simp
theorem tm {t e:TypeId} {sz n kk:Nat} {x ix:Operand} {k:IntKind} {i:Int} (h:GB P t=some (e,sz)) (hx:fr.val x=.arr kk n)
  (hi:fr.val ix=Sc (.int k i)) (h0:0≤i) (h1:i<n):fJ P (.indexAddr t x ix) fr [] (.ptr kk (i.toNat*sz)):=by
 intro o ho g ev w _ hv _
 have q1:=hv x (by simp[Op.operands]);rw[hx] at q1
 have q2:=hv ix (by simp[Op.operands]);rw[hi] at q2
 generalize hq:ev x=c at q1
 cases q1 with
 | arr _ hk=>
  rename_i b
  have:=VR.ptr (g:=g) (i.toNat*sz) hk
  refine ⟨_,?_,this⟩
  simp[execOp,ho,hq,q2.dz,ue h h0 h1]
 | n5=>omega
theorem tp {t:TypeId} {sz n kk off:Nat} {x ix:Operand} {k:IntKind} {i:Int} (h:BQ P t=some (n,sz)) (hx:fr.val x=.ptr kk off)
  (hi:fr.val ix=Sc (.int k i)) (h0:0≤i) (h1:i<n):fJ P (.indexAddr t x ix) fr [] (.ptr kk (off+i.toNat*sz)):=by
 intro o ho g ev w _ hv _
 have q1:=hv x (by simp[Op.operands]);rw[hx] at q1
 have q2:=hv ix (by simp[Op.operands]);rw[hi] at q2
 generalize hq:ev x=c at q1
 cases q1 with
 | ptr _ hk=>
  rename_i b
  refine ⟨_,?_,.ptr (off+i.toNat*sz) hk⟩
  simp[execOp,ho,hq,q2.dz,uy h h0 h1]
theorem iv.at {g:Gh} {w:World} {k b:Nat} {e:M} (h:iv g w k e) (hb:g.ρ k=some b) :
  ∃ cs el,w.heap[b]?=some (.cells cs el (0,0))∧e.cells.length≤cs.size∧ga g e.cells (cs.toList.take e.cells.length):=by
 cases h with
 | box h hw hc=>
  rw[h] at hb;cases hb
  have hl:=hc.length
  refine ⟨_,_,hw,by simp[M.cells,hl],?_⟩
  rw[List.take_of_length_le (by simp[M.cells,hl])];exact hc
 | n5 h=>rw[h] at hb;cases hb
 | arr h hw hl hz hm hc=>rw[h] at hb;cases hb;exact ⟨_,_,hw,by simpa[M.cells] using hl,by simpa[M.cells] using hc.E4⟩
 | uW h=>rw[h] at hb;cases hb
 | app h hG hw hl hz hm hc=>rw[h] at hb;cases hb;exact ⟨_,_,hw,by simpa[M.cells] using hl,by simpa[M.cells] using hc.E4⟩
theorem VR.view {g:Gh} {w:World} {k n sz:Nat} {el:TypeId} {cells:List PV} {c:Value} (h:VR g (.arr k n) c) (hE:iv g w k (.app el sz cells)) (hz:0<sz) (hn:cells.length=n*sz) :
  VR g (.pv (.sl n cells)) c:=by
 cases h with
 | arr _ hb=>
  cases hE with
  | uW h=>rw[h] at hb;cases hb
  | app h hG hw hl hcs hm hc=>
   rw[h] at hb;cases hb
   refine .pv (.sl _ cells 0 n _ cells hG (by simp) (by simp) ?_)
   have:n*sz≤g.cp k*sz:=by rw[← hn,← hcs];exact hl
   exact Nat.le_of_mul_le_mul_right this hz
 | n5 hb=>
  have h0:cells=[]:=List.eq_nil_of_length_eq_zero (by simpa using hn)
  subst h0;exact .pv (.nil _ _)
theorem wU {x:Operand} {k n sz:Nat} {el:TypeId} {cells:List PV} (hx:fr.val x=.arr k n) (hz:0<sz) (hn:cells.length=n*sz) :
  fJ P (.move x) fr [(k,.app el sz cells)] (.pv (.sl n cells)):=by
 intro o ho g ev w _ hv hr
 have q:=hv x (by simp[Op.operands]);rw[hx] at q
 have hE:=hr (k,.app el sz cells) (by simp)
 exact ⟨_,by simp[execOp,ho],q.view hE hz hn⟩
theorem wV {t:TypeId} {x:Operand} {k j off n sz:Nat} {el:TypeId} {cells:List PV} {e:M} (ha:oJ P t=some false) (hx:fr.val x=.ptr k off)
  (hv:e.cells[off]?=some (.arr j n)) (hz:0<sz) (hn:cells.length=n*sz):fJ P (.load t x) fr [(k,e),(j,.app el sz cells)] (.pv (.sl n cells)):=by
 intro o ho g ev w hG hx' hr
 have hload:∃ c,(execOp ev o).run P w=.ok (.value c) w∧VR g (.arr j n) c:=by
  have q:=hx' x (by simp[Op.operands]);rw[hx] at q
  generalize hq:ev x=c at q
  cases q with
  | ptr _ hb=>
   obtain ⟨cs,el,hw,hl,hc⟩:=(hr (k,e) (by simp)).at hb
   obtain ⟨c,hc1,hc2⟩:=hc.get off _ hv
   have hc3:cs.toList[off]?=some c:=by
    rw[List.getElem?_take] at hc1
    split at hc1
    ·exact hc1
    ·cases hc1
   refine ⟨c,?_,hc2⟩
   simp only[execOp,ho,hq,Instr.loadAt,Instr.sureAddr,Sem.run_bind,Sem.run_pure,Result.andThen_ok,l9 ha hw hc3]
 obtain ⟨c,h1,h2⟩:=hload
 exact ⟨c,h1,h2.view (hr (j,.app el sz cells) (by simp)) hz hn⟩
theorem xY {t:TypeId} {x:Operand} {n k off:Nat} {e:M} (ht:vL P t=some n) (ha:oJ P t=some true) (hx:fr.val x=.ptr k off)
  (hn:off+n≤e.cells.length):fJ P (.load t x) fr [(k,e)] (.agg ((e.cells.drop off).take n)):=by
 intro o ho g ev w _ hv hr
 have q:=hv x (by simp[Op.operands]);rw[hx] at q
 generalize hq:ev x=c at q
 cases q with
 | ptr _ hk=>
  rename_i b
  obtain ⟨cs,el,hw,hl,hc⟩:=(hr (k,e) (by simp)).at hk
  have hl':off+n≤cs.size:=by simp only at hl;omega
  refine ⟨.agg ((cs.toList.drop off).take n).toArray,?_,?_⟩
  ·simp only[execOp,ho,hq,Instr.loadAt,Instr.sureAddr,Sem.run_bind,Sem.run_pure,Result.andThen_ok,qT ht ha hw hl']
  ·simp only at hc
   have:=(hc.drop off).take n
   rw[List.drop_take,List.take_take,Nat.min_eq_left (by omega)] at this
   exact .agg this
theorem qU {t:TypeId} {x:Operand} {k off:Nat} {e:M} {v:AV} (ha:oJ P t=some false) (hx:fr.val x=.ptr k off)
  (hn:e.cells[off]?=some v):fJ P (.load t x) fr [(k,e)] v:=by
 intro o ho g ev w _ hv hr
 have q:=hv x (by simp[Op.operands]);rw[hx] at q
 generalize hq:ev x=c at q
 cases q with
 | ptr _ hk=>
  rename_i b
  obtain ⟨cs,el,hw,hl,hc⟩:=(hr (k,e) (by simp)).at hk
  obtain ⟨c,hc1,hc2⟩:=hc.get off v hn
  have hc3:cs.toList[off]?=some c:=by
   rw[List.getElem?_take] at hc1
   split at hc1
   ·exact hc1
   ·cases hc1
  refine ⟨c,?_,hc2⟩
  simp only[execOp,ho,hq,Instr.loadAt,Instr.sureAddr,Sem.run_bind,Sem.run_pure,Result.andThen_ok,l9 ha hw hc3]
theorem Aq {g:Gh} {w:World} (hG:An g w) {b off:Nat} {ys:List PV} {cells:List PV} (h:g.G b=some ys) (hl:off+cells.length≤ys.length)
  (hc:cells=(ys.drop off).take cells.length):∃ cs el fz,w.heap[b]?=some (.cells cs el fz)∧off+cells.length≤cs.size∧kL g cells ((cs.toList.drop off).take cells.length):=by
 obtain ⟨cs,el,fz,hw,h1,h2⟩:=hG b ys h
 refine ⟨cs,el,fz,hw,by omega,?_⟩
 have:=(h2.drop off).take cells.length
 rw[← hc,List.drop_take,List.take_take,Nat.min_eq_left (by omega)] at this
 exact this
theorem uX {t:TypeId} {x:Operand} {n:Nat} {cells:List PV} (ht:vL P t=some n) (ha:oJ P t=some true) (hx:fr.val x=.sp cells)
  (hn:n≤cells.length):fJ P (.load t x) fr [] (.agg ((cells.take n).map .pv)):=by
 intro o ho g ev w hG hv _
 have q:=hv x (by simp[Op.operands]);rw[hx] at q
 generalize hq:ev x=c at q
 cases q with
 | sp off h hl hc=>
  rename_i b ys
  obtain ⟨cs,el,fz,hw,h1,h2⟩:=Aq hG h hl hc
  refine ⟨.agg ((cs.toList.drop off).take n).toArray,?_,?_⟩
  ·simp only[execOp,ho,hq,Instr.loadAt,Instr.sureAddr,Sem.run_bind,Sem.run_pure,Result.andThen_ok,qT ht ha hw (show off+n≤cs.size by omega)]
  ·have:=h2.take n
   rw[List.take_take,Nat.min_eq_left hn] at this
   exact .agg this.E4
theorem uY {t:TypeId} {x:Operand} {cells:List PV} {p:PV} (ha:oJ P t=some false) (hx:fr.val x=.sp cells)
  (hn:cells[0]?=some p):fJ P (.load t x) fr [] (.pv p):=by
 intro o ho g ev w hG hv _
 have q:=hv x (by simp[Op.operands]);rw[hx] at q
 generalize hq:ev x=c at q
 cases q with
 | sp off h hl hc=>
  rename_i b ys
  obtain ⟨cs,el,fz,hw,h1,h2⟩:=Aq hG h hl hc
  obtain ⟨c,hc1,hc2⟩:=h2.get 0 p hn
  have hc3:cs.toList[off]?=some c:=by
   rw[List.getElem?_take] at hc1
   split at hc1
   ·simpa using hc1
   ·cases hc1
  refine ⟨c,?_,.pv hc2⟩
  simp only[execOp,ho,hq,Instr.loadAt,Instr.sureAddr,Sem.run_bind,Sem.run_pure,Result.andThen_ok,l9 ha hw hc3]
theorem pF {op:BinOp} {xt yt:TypeId} {x y:Operand} {a b c:Value} (hx:fr.val x=Sc a) (hy:fr.val y=Sc b)
  (hg:∀ w,(eqGuard op xt x y a b).run P w=.ok () w) (h:∀ w,(binOp op xt a b).run P w=.ok c w):fJ P (.binOp op xt x y yt) fr [] (Sc c):=by
 intro o ho g ev w _ hv _
 have q1:=hv x (by simp[Op.operands]);rw[hx] at q1
 have q2:=hv y (by simp[Op.operands]);rw[hy] at q2
 refine ⟨c,?_,.sc g c⟩
 simp[execOp,ho,q1.dz,q2.dz,hg,h]
theorem ma (op:BinOp) (t:TypeId) (x y:Operand) (k k':IntKind) (a b:Int) (w:World):(eqGuard op t x y (.int k a) (.int k' b)).run P w=.ok () w:=by
 cases op<;>rfl
theorem qV (op:BinOp) (t:TypeId) (x y:Operand) (a b:List UInt8) (w:World):(eqGuard op t x y (S a) (S b)).run P w=.ok () w:=by
 cases op<;>rfl
theorem wW (op:BinOp) (t:TypeId) (x y:Operand) (a b:Bool) (w:World):(eqGuard op t x y (.bool a) (.bool b)).run P w=.ok () w:=by
 cases op<;>rfl
theorem uf (op:BinOp) (t:TypeId) (x y:Operand) (a:Option Addr) (b:Value) (w:World):(eqGuard op t x y (.pointer a) b).run P w=.ok () w:=by
 cases op<;>rfl
def Dy:BinOp→Int→Int→Option Bool
 | .eql,a,b=>some (a==b)
 | .neq,a,b=>some (a !=b)
 | .lss,a,b=>some (decide (a<b))
 | .leq,a,b=>some (decide (a≤b))
 | .gtr,a,b=>some (decide (b<a))
 | .geq,a,b=>some (decide (b≤a))
 | _,_,_=>none
theorem Dz {op:BinOp} {xt yt:TypeId} {x y:Operand} {k:IntKind} {a b:Int} {r:Bool} (hx:fr.val x=Sc (.int k a)) (hy:fr.val y=Sc (.int k b))
  (h:Dy op a b=some r):fJ P (.binOp op xt x y yt) fr [] (Bo r):=by
 refine pF hx hy (ma op xt x y k k a b) fun w=>?_
 cases op<;>simp[Dy] at h<;>subst h<;>simp[binOp,Op.intCmp,GT.gt,GE.ge]
theorem Ar {xt yt:TypeId} {x y:Operand} {k:IntKind} {a b:Int} (hx:fr.val x=Sc (.int k a)) (hy:fr.val y=Sc (.int k b)) :
  fJ P (.binOp .add xt x y yt) fr [] (Sc (.int k (k.wrap (a+b)))):=
 pF hx hy (ma _ xt x y k k a b) fun w=>by simp[binOp,Op.intArith]
theorem As {xt yt:TypeId} {x y:Operand} {k:IntKind} {a b:Int} (hx:fr.val x=Sc (.int k a)) (hy:fr.val y=Sc (.int k b)) :
  fJ P (.binOp .sub xt x y yt) fr [] (Sc (.int k (k.wrap (a - b)))):=
 pF hx hy (ma _ xt x y k k a b) fun w=>by simp[binOp,Op.intArith]
theorem DA {xt yt:TypeId} {x y:Operand} {k:IntKind} {a b:Int} (hx:fr.val x=Sc (.int k a)) (hy:fr.val y=Sc (.int k b)) :
  fJ P (.binOp .mul xt x y yt) fr [] (Sc (.int k (k.wrap (a*b)))):=
 pF hx hy (ma _ xt x y k k a b) fun w=>by simp[binOp,Op.intArith]
theorem Fl {xt yt:TypeId} {x y:Operand} {a b:Int} (hx:fr.val x=I a) (hy:fr.val y=I b) (h:-9223372036854775808≤a+b∧a+b≤9223372036854775807) :
  fJ P (.binOp .add xt x y yt) fr [] (I (a+b)):=by
 have:=Ar (P:=P) (xt:=xt) (yt:=yt) hx hy
 rwa [IntWalk.i64_in _ h] at this
theorem Fm {xt yt:TypeId} {x y:Operand} {a b:Int} (hx:fr.val x=I a) (hy:fr.val y=I b) (h:-9223372036854775808≤a - b∧a - b≤9223372036854775807) :
  fJ P (.binOp .sub xt x y yt) fr [] (I (a - b)):=by
 have:=As (P:=P) (xt:=xt) (yt:=yt) hx hy
 rwa [IntWalk.i64_in _ h] at this
theorem sS {op:BinOp} {xt yt:TypeId} {x y:Operand} {k k':IntKind} {a b:Int} {c:Value} (hx:fr.val x=Sc (.int k a)) (hy:fr.val y=Sc (.int k' b))
  (h:∀ w,(binOp op xt (.int k a) (.int k' b)).run P w=.ok c w):fJ P (.binOp op xt x y yt) fr [] (Sc c):=
 pF hx hy (ma op xt x y k k' a b) h
theorem uZ (l:List UInt8):(⟨l.toArray⟩:ByteArray).size=l.length:=by simp[ByteArray.size]
theorem Fo {xt yt:TypeId} {x y:Operand} {a b:List UInt8} (hx:fr.val x=F a) (hy:fr.val y=F b) :
  fJ P (.binOp .eql xt x y yt) fr [] (Bo (a==b)):=
 pF hx hy (qV _ xt x y a b) fun w=>by simp[binOp,Op.stringOp,S]
theorem Fp {xt yt:TypeId} {x y:Operand} {a b:List UInt8} (hx:fr.val x=F a) (hy:fr.val y=F b) :
  fJ P (.binOp .neq xt x y yt) fr [] (Bo (a !=b)):=
 pF hx hy (qV _ xt x y a b) fun w=>by simp[binOp,Op.stringOp,S,bne]
theorem BT (a b:List UInt8):(⟨a.toArray⟩:ByteArray)++⟨b.toArray⟩=⟨(a++b).toArray⟩:=by
 have h:((⟨a.toArray⟩:ByteArray)++⟨b.toArray⟩).data.toList=a++b:=by simp
 rw[← Lib.mk_data ((⟨a.toArray⟩:ByteArray)++⟨b.toArray⟩),h]
theorem DB {xt yt:TypeId} {x y:Operand} {a b:List UInt8} (hx:fr.val x=F a) (hy:fr.val y=F b) (h:a.length+b.length≤9223372036854775807) :
  fJ P (.binOp .add xt x y yt) fr [] (F (a++b)):=by
 refine pF hx hy (qV _ xt x y a b) fun w=>?_
 have hm:¬ (((a.length+b.length:Nat):Int)>IntKind.i64.max):=by simp[IntKind.max,IntKind.bits,IntKind.signed];omega
 simp only[S,binOp,Op.stringOp,uZ,if_neg hm,BT];rfl
theorem run_equalIn_bool {t:TypeId} (ht:P.underlying t=some .bool) (d:Nat) (a b:Bool) (w:World) :
  (Op.equalIn (d+1) t (.bool a) (.bool b)).run P w=.ok (a==b) w:=by
 simp[Op.equalIn,run_underlying ht]
theorem qt {t el:TypeId} (ht:P.underlying t=some (.pointer el)) (d:Nat) (b:Option Addr) (w:World) :
  (Op.equalIn (d+1) t (.pointer none) (.pointer b)).run P w=.ok b.isNone w:=by
 simp[Op.equalIn,run_underlying ht]
theorem qu {t el:TypeId} (ht:P.underlying t=some (.pointer el)) (d:Nat) (a:Addr) (w:World) :
  (Op.equalIn (d+1) t (.pointer (some a)) (.pointer none)).run P w=.ok false w:=by
 simp[Op.equalIn,run_underlying ht]
theorem Fq {xt yt:TypeId} {x y:Operand} {a b:Bool} (ht:P.underlying xt=some .bool) (hx:fr.val x=Bo a) (hy:fr.val y=Bo b) :
  fJ P (.binOp .eql xt x y yt) fr [] (Bo (a==b)):=
 pF hx hy (wW _ xt x y a b) fun w=>by simp only[binOp];simp[Op.equal,Op.maxDepth,run_equalIn_bool ht 9999]
theorem Fs {t:TypeId} {x:Operand} {b:Bool} (hx:fr.val x=Bo b):fJ P (.unOp .not t x) fr [] (Bo (!b)):=by
 intro o ho g ev w _ hv _
 have q:=hv x (by simp[Op.operands]);rw[hx] at q
 exact ⟨.bool (!b),by simp[execOp,ho,q.dz,Op.unary],.sc g _⟩
theorem A8 {t:TypeId} {x ix:Operand} {k:IntKind} {i:Int} {l:List UInt8} {b:UInt8} (ht:P.underlying t=some .string) (hx:fr.val x=F l)
  (hi:fr.val ix=Sc (.int k i)) (h0:0≤i) (hb:l[i.toNat]?=some b):fJ P (.index t x ix) fr [] (Sc (.int .u8 b.toNat)):=by
 intro o ho g ev w _ hv _
 have q1:=hv x (by simp[Op.operands]);rw[hx] at q1
 have q2:=hv ix (by simp[Op.operands]);rw[hi] at q2
 have hb':(⟨l.toArray⟩:ByteArray)[i.toNat]?=some b:=by
  obtain ⟨h1,h2⟩:=List.getElem?_eq_some_iff.1 hb
  rw[getElem?_pos _ _ (by simpa[ByteArray.size] using h1)]
  simpa[ByteArray.getElem_eq_getElem_data] using h2
 exact ⟨.int .u8 b.toNat,by simp[execOp,ho,q1.dz,q2.dz,S,Instr.index,asIntOf,run_underlying ht,h0,hb'],.sc g _⟩
theorem tq (l:List UInt8) (a b:Nat):(⟨l.toArray⟩:ByteArray).extract a b=⟨((l.drop a).take (b - a)).toArray⟩:=by rw[Lib.extract_eq]
theorem k5 {k:IntKind} {i:Int} {y:Nat} {c:BoundsCode} (h0:0≤i) (h1:i≤y) (w:World):(Instr.sliceBound (.int k i) y c).run P w=.ok i.toNat w:=by
 simp[Instr.sliceBound,asIntOf,h0,h1]
theorem A9 {t:TypeId} {x lo hi:Operand} {k k':IntKind} {i j:Int} {l:List UInt8} (ht:P.underlying t=some .string) (hx:fr.val x=F l)
  (hl:fr.val lo=Sc (.int k i)) (hh:fr.val hi=Sc (.int k' j)) (h0:0≤i) (h1:i≤j) (h2:j≤l.length) :
  fJ P (.slice t x (some lo) (some hi) none) fr [] (F ((l.drop i.toNat).take (j.toNat - i.toNat))):=by
 intro o ho g ev w _ hv _
 have q1:=hv x (by simp[Op.operands]);rw[hx] at q1
 have q2:=hv lo (by simp[Op.operands]);rw[hl] at q2
 have q3:=hv hi (by simp[Op.operands]);rw[hh] at q3
 refine ⟨S ((l.drop i.toNat).take (j.toNat - i.toNat)),?_,.sc g _⟩
 simp[execOp,ho,q1.dz,q2.dz,q3.dz,S,Instr.sliceAt,Instr.slice,Instr.sliceBounds,run_underlying ht,uZ,
  k5 (P:=P) (show (0:Int)≤j by omega) h2,k5 (P:=P) h0 (show i≤(j.toNat:Nat) by omega),tq]
theorem wX {t:TypeId} {x lo:Operand} {k:IntKind} {i:Int} {l:List UInt8} (ht:P.underlying t=some .string) (hx:fr.val x=F l)
  (hl:fr.val lo=Sc (.int k i)) (h0:0≤i) (h2:i≤l.length) :
  fJ P (.slice t x (some lo) none none) fr [] (F (l.drop i.toNat)):=by
 intro o ho g ev w _ hv _
 have q1:=hv x (by simp[Op.operands]);rw[hx] at q1
 have q2:=hv lo (by simp[Op.operands]);rw[hl] at q2
 have e:(l.drop i.toNat).take (l.length - i.toNat)=l.drop i.toNat:=List.take_of_length_le (by simp)
 refine ⟨S (l.drop i.toNat),?_,.sc g _⟩
 simp[execOp,ho,q1.dz,q2.dz,S,Instr.sliceAt,Instr.slice,Instr.sliceBounds,run_underlying ht,uZ,
  k5 (P:=P) h0 h2,tq,e]
theorem wY {t:TypeId} {x hi:Operand} {k:IntKind} {j:Int} {l:List UInt8} (ht:P.underlying t=some .string) (hx:fr.val x=F l)
  (hh:fr.val hi=Sc (.int k j)) (h0:0≤j) (h2:j≤l.length) :
  fJ P (.slice t x none (some hi) none) fr [] (F (l.take j.toNat)):=by
 intro o ho g ev w _ hv _
 have q1:=hv x (by simp[Op.operands]);rw[hx] at q1
 have q3:=hv hi (by simp[Op.operands]);rw[hh] at q3
 refine ⟨S (l.take j.toNat),?_,.sc g _⟩
 simp[execOp,ho,q1.dz,q3.dz,S,Instr.sliceAt,Instr.slice,Instr.sliceBounds,run_underlying ht,uZ,
  k5 (P:=P) h0 h2,tq]
theorem DC {t:TypeId} {x:Operand} {l:List UInt8} (ht:P.underlying t=some .string) (hx:fr.val x=F l) :
  fJ P (.call ⟨.builtin .len,#[x],#[t]⟩) fr [] (I l.length):=by
 intro o ho g ev w _ hv _
 have q:=hv x (by simp[Op.operands,Call.operands]);rw[hx] at q
 exact ⟨.int .i64 l.length,by simp[execOp,ho,resolve,invoke,builtin,Builtin.len_,q.dz,S,run_underlying ht,uZ,goInt],.sc g _⟩
theorem BU {t e:TypeId} {x:Operand} {n:Nat} {cells:List PV} (ht:P.underlying t=some (.slice e)) (hx:fr.val x=.pv (.sl n cells)) :
  fJ P (.call ⟨.builtin .len,#[x],#[t]⟩) fr [] (I n):=by
 intro o ho g ev w _ hv _
 have q:=hv x (by simp[Op.operands,Call.operands]);rw[hx] at q
 generalize hq:ev x=c at q
 refine ⟨.int .i64 n,?_,.sc g _⟩
 cases q with
 | pv q=>cases q<;>simp[execOp,ho,resolve,invoke,builtin,Builtin.len_,hq,run_underlying ht,goInt]
theorem Ba {t e:TypeId} {x:Operand} {k n:Nat} (ht:P.underlying t=some (.slice e)) (hx:fr.val x=.arr k n) :
  fJ P (.call ⟨.builtin .len,#[x],#[t]⟩) fr [] (I n):=by
 intro o ho g ev w _ hv _
 have q:=hv x (by simp[Op.operands,Call.operands]);rw[hx] at q
 generalize hq:ev x=c at q
 refine ⟨.int .i64 n,?_,.sc g _⟩
 cases q<;>simp[execOp,ho,resolve,invoke,builtin,Builtin.len_,hq,run_underlying ht,goInt]
theorem Ft {ts:Array TypeId} {x y:Operand} {k:IntKind} {a b:Int} (hx:fr.val x=Sc (.int k a)) (hy:fr.val y=Sc (.int k b)) :
  fJ P (.call ⟨.builtin .min,#[x,y],ts⟩) fr [] (Sc (.int k (if b<a then b else a))):=by
 intro o ho g ev w _ hv _
 have q1:=hv x (by simp[Op.operands,Call.operands]);rw[hx] at q1
 have q2:=hv y (by simp[Op.operands,Call.operands]);rw[hy] at q2
 exact ⟨.int k (if b<a then b else a),by simp[execOp,ho,resolve,invoke,builtin,Builtin.min_,Builtin.min2,q1.dz,q2.dz],.sc g _⟩
theorem zN {x:Operand} {i:Nat} {vs:List AV} {v:AV} (hx:fr.val x=.fX vs) (hv:vs[i]?=some v):fJ P (.extract x i) fr [] v:=by
 intro o ho g ev w _ hh _
 have q:=hh x (by simp[Op.operands]);rw[hx] at q
 generalize hq:ev x=c at q
 cases q with
 | fX h=>
  obtain ⟨c,h1,h2⟩:=h.get i v hv
  exact ⟨c,by simp[execOp,ho,hq,Instr.extract,h1],h2⟩
theorem ga.map {g:Gh} {ev:Operand→Value}:∀ {xs:List Operand},(∀ x,x∈xs→VR g (fr.val x) (ev x))→ga g (xs.map fr.val) (xs.map ev)
 | [],_=>.nil
 | x::xs,h=>.cons (h x (by simp)) (ga.map fun y hy=>h y (by simp[hy]))
theorem xZ {f:FuncId} {a b:List Operand}:fJ P (.makeFunc (.func f) a.toArray b.toArray) fr [] (.fn f (a.map fr.val) (b.map fr.val)):=by
 intro o ho g ev w _ hh _
 refine ⟨.func (.func f) (a.map ev).toArray (b.map ev).toArray,by simp[execOp,ho,Instr.makeFunc],.fn f (ga.map fun x hx=>hh x ?_) (ga.map fun x hx=>hh x ?_)⟩
 ·simp[Op.operands,hx]
 ·simp[Op.operands,hx]
def BV:TypeDesc→Bool
 | .interface _=>true
 | _=>false
theorem wZ {t:TypeId} {x:Operand} {d:TypeDesc} {v:AV} (ht:P.underlying t=some d) (hd:BV d=false) (hx:fr.val x=v) :
  fJ P (.makeInterface t x) fr [] (.lF t v):=by
 intro o ho g ev w _ hh _
 have q:=hh x (by simp[Op.operands]);rw[hx] at q
 refine ⟨.iface t (ev x),?_,.lF t q⟩
 cases d<;>first|(simp[BV] at hd;done)|simp[execOp,ho,Instr.makeInterface,run_underlying ht]
theorem zO {s t:TypeId} {x:Operand} {k k':IntKind} {a:Int} (hs:P.underlying s=some (.int k')) (ht:P.underlying t=some (.int k)) (hx:fr.val x=Sc (.int k' a)) :
  fJ P (.convert s t x) fr [] (Sc (.int k (k.wrap a))):=by
 intro o ho g ev w _ hh _
 have q:=hh x (by simp[Op.operands]);rw[hx] at q
 exact ⟨.int k (k.wrap a),by simp[execOp,ho,q.dz,convert,run_underlying hs,run_underlying ht,Conv.intToInt],.sc g _⟩
end
def uK (P:Program) (t:TypeId):Option (List Value×List (Nat×Nat)):=
 match P.info? t,P.underlying t with
 | some it,some (.struct fields)=>
  match it.zero,fields.toList.mapM (fun f=>(P.info? f.type).map fun i=>(f.offset,i.size)) with
  | some z,some places=>some (z.cells.toList,places)
  | _,_=>none
 | some it,some (.array n e)=>
  match it.zero,P.info? e with
  | some z,some ie=>some (z.cells.toList,(List.range n).map fun i=>(i*ie.size,ie.size))
  | _,_=>none
 | _,_=>none
def AV.fh:AV→Option (List AV)
 | .any=>none
 | .agg cs=>some cs
 | .pv (.sc v)=>some (v.cells.toList.map fun c=>.pv (.sc c))
 | v=>some [v]
def k6 (places:List (Nat×Nat)) (cells:List AV):List (Nat×AV)→Option (List AV)
 | []=>some cells
 | (i,v)::rest=>
  match places[i]?,v.fh with
  | some (off,size),some vc=>if vc.length=size∧off+size≤cells.length then k6 places (cells.take off++vc++cells.drop (off+size)) rest else none
  | _,_=>none
theorem ga.pG (g:Gh):∀ (l:List Value),ga g (l.map fun c=>.pv (.sc c)) l
 | []=>.nil
 | _::l=>.cons (.sc g _) (ga.pG g l)
theorem VR.fh {g:Gh} {v:AV} {c:Value} {l:List AV} (h:VR g v c) (hl:v.fh=some l):ga g l c.cells.toList:=by
 cases h with
 | any=>simp[AV.fh] at hl
 | oc h=>
  simp[AV.fh] at hl;subst hl
  cases c<;>first|(simp[Value.oneCell'] at h;done)|exact .cons (.oc h) .nil
 | pv h=>cases h with
  | sc v=>simp[AV.fh] at hl;subst hl;exact ga.pG g _
  | nil a cap=>simp[AV.fh] at hl;subst hl;exact .cons (.pv (.nil a cap)) .nil
  | sl b ys off n cap cells h hl' hc hn=>simp[AV.fh] at hl;subst hl;exact .cons (.pv (.sl b ys off n cap cells h hl' hc hn)) .nil
  | BO=>simp[AV.fh] at hl;subst hl;exact .cons (.pv .BO) .nil
  | BL b ys off cells h hl' hc=>simp[AV.fh] at hl;subst hl;exact .cons (.pv (.BL b ys off cells h hl' hc)) .nil
 | ptr off h=>simp[AV.fh] at hl;subst hl;exact .cons (.ptr off h) .nil
 | arr n h=>simp[AV.fh] at hl;subst hl;exact .cons (.arr n h) .nil
 | n5 h=>simp[AV.fh] at hl;subst hl;exact .cons (.n5 h) .nil
 | sp off h hl' hc=>simp[AV.fh] at hl;subst hl;exact .cons (.sp off h hl' hc) .nil
 | fn f hx hy=>simp[AV.fh] at hl;subst hl;exact .cons (.fn f hx hy) .nil
 | agg h=>simp[AV.fh] at hl;subst hl;simpa[Value.cells] using h
 | fX h=>simp[AV.fh] at hl;subst hl;exact .cons (.fX h) .nil
 | lF t h=>simp[AV.fh] at hl;subst hl;exact .cons (.lF t h) .nil
theorem wm (off:Nat):∀ (l:List Value) (j:Nat) (cs:Array Value),off+j+l.length≤cs.size→
  ((l.zipIdx j).foldl (fun cs (c,j)=>cs.setIfInBounds (off+j) c) cs).toList=cs.toList.take (off+j)++l++cs.toList.drop (off+j+l.length)
 | [],j,cs,_=>by simp
 | v::l,j,cs,h=>by
  have hl:off+j<cs.size:=by simp at h;omega
  have ih:=wm off l (j+1) (cs.setIfInBounds (off+j) v) (by simp at h ⊢;omega)
  simp only[List.zipIdx_cons,List.foldl_cons]
  rw[ih]
  simp only[Array.toList_setIfInBounds]
  have h1:(cs.toList.set (off+j) v).take (off+(j+1))=cs.toList.take (off+j)++[v]:=by
   rw[show off+(j+1)=off+j+1 by omega,List.take_succ_eq_append_getElem (by simpa using hl)]
   rw[List.take_set_of_le (Nat.le_refl _)]
   simp
  have h2:(cs.toList.set (off+j) v).drop (off+(j+1)+l.length)=cs.toList.drop (off+j+(v::l).length):=by
   rw[List.drop_set_of_lt (by omega)]
   congr 1
   simp;omega
  rw[h1,h2];simp
theorem qW {g:Gh} {places:List (Nat×Nat)} {place:Nat→Option (Nat×Nat)} (hp:∀ i x,places[i]?=some x→place i=some x) :
  ∀ {ps:List (Nat×AV)} {cells out:List AV} {cs:Array Value} {vs:List (Nat×Value)},k6 places cells ps=some out→ga g cells cs.toList→
   vs.map (·.1)=ps.map (·.1)→ga g (ps.map (·.2)) (vs.map (·.2))→True→(∀ i v,(i,v)∈ps→∃ l,v.fh=some l)→
   ∃ cs',Instr.fill place cs vs=some cs'∧ga g out cs'.toList
 | [],cells,out,cs,vs,h,hc,h1,_,_,_=>by
  cases vs with
  | nil=>simp[k6] at h;subst h;exact ⟨cs,rfl,hc⟩
  | cons a l=>simp at h1
 | (i,v)::rest,cells,out,cs,vs,h,hc,h1,h2,_,h3=>by
  cases vs with
  | nil=>simp at h1
  | cons a l=>
   obtain ⟨j,c⟩:=a
   simp at h1
   obtain ⟨rfl,h1⟩:=h1
   cases h2 with
   | cons hv h2=>
    simp only[k6] at h
    split at h
    ·rename_i off size vc hpl hac
     split at h
     ·rename_i hcond
      have hvc:=hv.fh hac
      have hlen:=hvc.length
      have hcl:=hc.length
      simp at hlen hcl
      have hstep:ga g (cells.take off++vc++cells.drop (off+size)) (((c.cells.zipIdx.foldl (fun cs (x:Value×Nat)=>cs.setIfInBounds (off+x.2) x.1) cs)).toList):=by
       have:=wm off c.cells.toList 0 cs (by simp;omega)
       rw[← Array.foldl_toList,Array.toList_zipIdx]
       rw[this]
       simp only[Nat.add_zero]
       have e:off+c.cells.toList.length=off+size:=by simp;omega
       rw[e]
       exact ((hc.take off).append hvc).append (hc.drop (off+size))
      obtain ⟨cs',hf,hr⟩:=qW hp h hstep h1 h2 trivial (fun i v hm=>h3 i v (by simp[hm]))
      refine ⟨cs',?_,hr⟩
      simp only[Instr.fill,hp _ _ hpl]
      rw[if_neg (by simp;omega)]
      exact hf
     ·cases h
    ·cases h
section
variable {P:Program} {fr:ew}
theorem x7 {t:TypeId} {z:List Value} {places:List (Nat×Nat)} (h:uK P t=some (z,places)) :
  ∃ (place:Nat→Option (Nat×Nat)),(∀ i x,places[i]?=some x→place i=some x)∧∀ parts cells,Instr.fill place z.toArray parts=some cells→P.built t parts=some cells:=by
 unfold uK at h
 split at h
 ·rename_i it fields hi hu
  split at h
  ·rename_i zz pl hz hpl
   cases h
   exact ⟨fun x=>places.toArray[x]?,fun i x hx=>by simpa using hx,fun parts cells hf=>by simp[Program.built,hi,hu,hz,hpl];simpa using hf⟩
  ·cases h
 ·rename_i it n e hi hu
  split at h
  ·rename_i zz ie hz hie
   cases h
   refine ⟨fun i=>some (i*ie.size,ie.size),fun i x hx=>?_,fun parts cells hf=>by simp[Program.built,hi,hu,hz,hie];simpa using hf⟩
   rw[List.getElem?_map,List.getElem?_range] at hx
   ·simpa using hx
   ·rcases Nat.lt_or_ge i n with q|q
    ·exact q
    ·rw[List.getElem?_eq_none (by simpa using q)] at hx;cases hx
  ·cases h
 ·cases h
theorem qX {places:List (Nat×Nat)}:∀ {ps:List (Nat×AV)} {cells out:List AV},k6 places cells ps=some out→∀ i v,(i,v)∈ps→∃ l,v.fh=some l
 | [],_,_,_,i,v,h=>by cases h
 | (j,u)::rest,cells,out,h,i,v,hm=>by
  simp only[k6] at h
  split at h
  ·rename_i off size vc hpl hac
   split at h
   ·rcases List.mem_cons.1 hm with q|q
    ·cases q;exact ⟨_,hac⟩
    ·exact qX h i v q
   ·cases h
  ·cases h
theorem BW {t:TypeId} {parts:List (Nat×Operand)} {z:List Value} {places:List (Nat×Nat)} {out:List AV} (ht:uK P t=some (z,places))
  (h:k6 places (z.map fun v=>.pv (.sc v)) (parts.map fun p=>(p.1,fr.val p.2))=some out):fJ P (.build t parts.toArray) fr [] (.agg out):=by
 intro o ho g ev w _ hv _
 obtain ⟨place,hp,hb⟩:=x7 ht
 obtain ⟨cs',hf,hr⟩:=qW (g:=g) (vs:=parts.map fun p=>(p.1,ev p.2)) (cs:=z.toArray) hp h (by simpa using ga.pG g z) (by simp)
  (by
   have:∀ (ps:List (Nat×Operand)),(∀ p,p∈ps→p∈parts)→ga g ((ps.map fun p=>(p.1,fr.val p.2)).map (·.2)) ((ps.map fun p=>(p.1,ev p.2)).map (·.2)):=by
    intro ps
    induction ps with
    | nil=>intro _;exact .nil
    | cons p ps ih=>intro hm;exact .cons (hv p.2 (by simp[Op.operands];exact ⟨_,hm p (by simp)⟩)) (ih fun q hq=>hm q (by simp[hq]))
   exact this parts fun _ hp=>hp) trivial (qX h)
 refine ⟨.agg cs',?_,by have:=VR.agg hr;simpa using this⟩
 have e:(parts.toArray.map fun (x:Nat×Operand)=>(x.1,ev x.2)).toList=parts.map fun p=>(p.1,ev p.2):=by simp
 have hrun:=run_build (P:=P) w t (parts.toArray.map fun (x:Nat×Operand)=>(x.1,ev x.2)) cs' (by rw[e];exact hb _ _ hf)
 simp only[execOp,ho,Sem.run_bind,hrun,Result.andThen_ok,Sem.run_pure]
theorem w3 {t ft:TypeId} {x:Operand} {f:Nat} {cs:List AV} {v:AV} {fields:Array Field} {fd:Field} (hu:P.underlying t=some (.struct fields)) (hf:fields[f]?=some fd)
  (hft:fd.type=ft) (ha:oJ P ft=some false) (hx:fr.val x=.agg cs) (hv:cs[fd.offset]?=some v):fJ P (.field t x f) fr [] v:=by
 subst hft
 intro o ho g ev w _ hh _
 have q:=hh x (by simp[Op.operands]);rw[hx] at q
 generalize hq:ev x=c at q
 cases q with
 | agg h=>
  obtain ⟨c,h1,h2⟩:=h.get _ v hv
  exact ⟨c,by simp[execOp,ho,hq,Instr.field,run_underlying hu,hf,part,nG ha,asAgg,h1],h2⟩
theorem w4 {t:TypeId} {x ix:Operand} {n:Nat} {e:TypeId} {cs:List AV} {k:IntKind} {i:Int} {v:AV} (hu:P.underlying t=some (.array n e)) (ha:oJ P e=some false)
  (hs:vL P e=some 1) (hx:fr.val x=.agg cs) (hi:fr.val ix=Sc (.int k i)) (h0:0≤i) (h1:i<n) (hv:cs[i.toNat]?=some v):fJ P (.index t x ix) fr [] v:=by
 intro o ho g ev w _ hh _
 have q:=hh x (by simp[Op.operands]);rw[hx] at q
 have q2:=hh ix (by simp[Op.operands]);rw[hi] at q2
 generalize hq:ev x=c at q
 cases q with
 | agg h=>
  obtain ⟨c,hc1,hc2⟩:=h.get _ v hv
  exact ⟨c,by simp[execOp,ho,hq,q2.dz,Instr.index,asIntOf,run_underlying hu,h0,h1,part,nG ha,kY hs,hc1],hc2⟩
def zP (P:Program) (op:Op) (fr:ew) (nm:Nat) (e:M) (v:AV):Prop:=
 ∀ (o:Oper),o.op=op→∀ (g:Gh) (ev:Operand→Value) (w:World),g.G w.heap.size=none→(∀ x,x∈op.operands→VR g (fr.val x) (ev x)∧(fr.val x).ed nm=false)→
  ∃ c cs el cap,(execOp ev o).run P w=.ok (.value c) (w.alloc (.cells cs el (0,0)))∧iv (g.fresh nm w.heap.size cap e) (w.alloc (.cells cs el (0,0))) nm e∧
   VR (g.fresh nm w.heap.size cap e) v c
def BX (P:Program) (op:Op) (fr:ew) (v:AV):Prop:=
 ∀ (o:Oper),o.op=op→∀ (g:Gh) (ev:Operand→Value) (w:World),(∀ x,x∈op.operands→VR g (fr.val x) (ev x))→
  ∃ c cs el ys,(execOp ev o).run P w=.ok (.value c) (w.alloc (.cells cs el (0,0)))∧ys.length≤cs.size∧kL g ys (cs.toList.take ys.length)∧VR (g.dq w.heap.size ys) v c
theorem u0 (g:Gh) (nm b cap:Nat):(g.bind nm b cap).ρ nm=some b:=by simp[Gh.bind]
theorem w5 (g:Gh) (nm b cap:Nat):(g.bind nm b cap).cp nm=cap:=by simp[Gh.bind]
theorem x8 {t:TypeId} {z:List Value} (nm:Nat) (hz:BR P t=some z):zP P (.alloc t) fr nm (.box (z.map fun v=>.pv (.sc v))) (.ptr nm 0):=by
 intro o ho g ev w hG0 _
 unfold BR at hz
 cases hi:P.info? t with
 | none=>simp[hi] at hz
 | some i=>
  cases hzz:i.zero with
  | none=>simp[hi,hzz] at hz
  | some zv=>
   simp only[hi,hzz,Option.bind_some] at hz
   cases ha:zv.cells.toList.all Value.oneCell' with
   | false=>rw[ha] at hz;cases hz
   | true=>
   rw[ha] at hz
   have hz:zv.cells.toList=z:=by injection hz
   have h1:∀ v,v∈zv.cells.toList→v.oneCell'=true:=fun v hv=>List.all_eq_true.1 ha v hv
   refine ⟨.pointer (some ⟨w.heap.size,0,none⟩),zv.cells,t,0,?_,?_,.ptr 0 (u0 ..)⟩
   ·simp[execOp,ho,Instr.alloc,zeroValue,typeInfo,hi,hzz,newVar,newRow]
   ·refine .box (u0 ..) (heap_alloc_new w _) ?_ h1
    rw[hz];exact ga.pG _ z
theorem Fu {t:TypeId} {x:Operand} {l:List AV} (nm:Nat) (hx:(fr.val x).fh=some l) (ho1:AV.iW l=true) (hm:AV.ed.fg nm l=false):zP P (.box t x) fr nm (.box l) (.ptr nm 0):=by
 intro o ho g ev w hG0 hv
 obtain ⟨h1,h2⟩:=hv x (by simp[Op.operands])
 refine ⟨.pointer (some ⟨w.heap.size,0,none⟩),(ev x).cells,t,0,?_,?_,.ptr 0 (u0 ..)⟩
 ·simp[execOp,ho,Instr.box,newVar,newRow]
 ·exact .box (u0 ..) (heap_alloc_new w _) ((h1.fh hx).le (ju.bind g nm _ _) fun k q=>by subst q;exact hm) ((h1.fh hx).one ho1)
def wo (P:Program) (t:TypeId) (n:Nat):Option (TypeId×Nat×List Value×List (Nat×Nat)):=
 match P.underlying t with
 | some (.slice e)=>
  match P.info? e with
  | some i=>match i.zero with
   | some z=>if 0<n*i.size∧n*i.size≤16777216∧z.cells.size=i.size then some (e,i.size,((List.range (n*i.size)).map fun j=>z.cells[j % z.cells.size]!),(List.range n).map fun j=>(j*i.size,i.size)) else none
   | none=>none
  | none=>none
 | _=>none
theorem nH {t e:TypeId} {n sz:Nat} {zs:List Value} {places:List (Nat×Nat)} (h:wo P t n=some (e,sz,zs,places)) :
  ∃ (place:Nat→Option (Nat×Nat)),(∀ i x,places[i]?=some x→place i=some x)∧zs.length=n*sz∧
   ∀ parts cells w,Instr.fill place zs.toArray parts.toList=some cells→
    (Instr.buildSlice t n parts).run P w=.ok (.slice (some ⟨w.heap.size,0,none⟩) n n) (w.alloc (.cells cells e (0,0))):=by
 unfold wo at h
 split at h
 ·rename_i e' hu
  split at h
  ·rename_i i hi
   split at h
   ·rename_i z hz
    split at h
    ·rename_i hc
     simp only[Option.some.injEq,Prod.mk.injEq] at h
     obtain ⟨rfl,rfl,rfl,rfl⟩:=h
     refine ⟨fun j=>some (j*i.size,i.size),fun j x hx=>?_,by simp,fun parts cells w hf=>?_⟩
     ·rw[List.getElem?_map] at hx
      rcases Nat.lt_or_ge j n with q|q
      ·rw[List.getElem?_range q] at hx;simpa using hx
      ·rw[List.getElem?_eq_none (by simpa using q)] at hx;cases hx
     ·have hf':Instr.fill (fun j=>some (j*i.size,i.size)) ((Array.range (n*i.size)).map fun j=>z.cells[j % z.cells.size]!) parts.toList=some cells:=by
       rw[← hf];congr 1
       rw[← Array.toList_inj];simp[Array.toList_range]
      have h0:n*i.size≠0:=by omega
      have hle:¬ (2 ^ 24<n*i.size):=by omega
      simp[Instr.buildSlice,run_underlying hu,sizeOf,typeInfo,hi,zeroValue,hz,h0,hle,hf',newRow]
    ·cases h
   ·cases h
  ·cases h
 ·cases h
theorem tu {g:Gh} {ev:Operand→Value} {parts:List (Nat×Operand)} (hv:∀ p,p∈parts→VR g (fr.val p.2) (ev p.2)) :
  ga g ((parts.map fun p=>(p.1,fr.val p.2)).map (·.2)) ((parts.map fun p=>(p.1,ev p.2)).map (·.2)):=by
 have:∀ (ps:List (Nat×Operand)),(∀ p,p∈ps→p∈parts)→ga g ((ps.map fun p=>(p.1,fr.val p.2)).map (·.2)) ((ps.map fun p=>(p.1,ev p.2)).map (·.2)):=by
  intro ps
  induction ps with
  | nil=>intro _;exact .nil
  | cons p ps ih=>intro hm;exact .cons (hv p (hm p (by simp))) (ih fun q hq=>hm q (by simp[hq]))
 exact this parts fun _ hp=>hp
theorem kL.u1 {g:Gh} {ps:List PV}:∀ {vs:List Value},ga g (ps.map .pv) vs→kL g ps vs:=by
 induction ps with
 | nil=>intro vs h;cases h;exact .nil
 | cons p ps ih=>intro vs h;cases h with|cons h t=>cases h with|pv h=>exact .cons h (ih t)
theorem sd {t e:TypeId} {n sz:Nat} {zs:List Value} {places:List (Nat×Nat)} {parts:List (Nat×Operand)} {cells:List PV} (ht:wo P t n=some (e,sz,zs,places))
  (h:k6 places (zs.map fun v=>.pv (.sc v)) (parts.map fun p=>(p.1,fr.val p.2))=some (cells.map .pv)):BX P (.buildSlice t n parts.toArray) fr (.pv (.sl n cells)):=by
 intro o ho g ev w hv
 obtain ⟨place,hp,hzl,hb⟩:=nH ht
 obtain ⟨cs',hf,hr⟩:=qW (g:=g) (vs:=parts.map fun p=>(p.1,ev p.2)) (cs:=zs.toArray) hp h (by simpa using ga.pG g zs) (by simp)
  (tu fun p hp=>hv p.2 (by simp[Op.operands];exact ⟨_,hp⟩)) trivial (qX h)
 have e1:(parts.toArray.map fun (x:Nat×Operand)=>(x.1,ev x.2)).toList=parts.map fun p=>(p.1,ev p.2):=by simp
 have hrun:=hb (parts.toArray.map fun (x:Nat×Operand)=>(x.1,ev x.2)) cs' w (by rw[e1];exact hf)
 have hps:=kL.u1 hr
 have hlen:=hps.length
 refine ⟨.slice (some ⟨w.heap.size,0,none⟩) n n,cs',e,cells,?_,by simp at hlen;omega,?_,.pv (.sl w.heap.size cells 0 n n cells (by simp[Gh.dq]) (by simp) (by simp) (Nat.le_refl _))⟩
 ·simp only[execOp,ho,Sem.run_bind,hrun,Result.andThen_ok,Sem.run_pure]
 ·rw[List.take_of_length_le (by simp at hlen;simp;omega)];exact hps
theorem ug {t e:TypeId} {n sz:Nat} {zs:List Value} {places:List (Nat×Nat)} {parts:List (Nat×Operand)} {cells:List PV} (nm:Nat) (ht:wo P t n=some (e,sz,zs,places))
  (h:k6 places (zs.map fun v=>.pv (.sc v)) (parts.map fun p=>(p.1,fr.val p.2))=some (cells.map .pv)) (hl:cells.length=n*sz) (hn:n≤maxLen) :
  zP P (.buildSlice t n parts.toArray) fr nm (.app e sz cells) (.arr nm n):=by
 intro o ho g ev w hG0 hv
 obtain ⟨place,hp,hzl,hb⟩:=nH ht
 obtain ⟨cs',hf,hr⟩:=qW (g:=g) (vs:=parts.map fun p=>(p.1,ev p.2)) (cs:=zs.toArray) hp h (by simpa using ga.pG _ zs) (by simp)
  (tu fun p hp=>(hv p.2 (by simp[Op.operands];exact ⟨_,hp⟩)).1) trivial (qX h)
 ·have e1:(parts.toArray.map fun (x:Nat×Operand)=>(x.1,ev x.2)).toList=parts.map fun p=>(p.1,ev p.2):=by simp
  have hrun:=hb (parts.toArray.map fun (x:Nat×Operand)=>(x.1,ev x.2)) cs' w (by rw[e1];exact hf)
  have hps:=kL.u1 hr
  have hlen:=hps.length
  simp at hlen
  refine ⟨.slice (some ⟨w.heap.size,0,none⟩) n n,cs',e,n,?_,?_,?_⟩
  ·simp only[execOp,ho,Sem.run_bind,hrun,Result.andThen_ok,Sem.run_pure]
  ·refine .app (by simp[Gh.fresh,Gh.bind,Gh.dq]) (by simp[Gh.fresh,Gh.dq]) (heap_alloc_new w _) (by omega) (by simp[Gh.fresh,Gh.bind,Gh.dq];omega) (by simp[Gh.fresh,Gh.bind,Gh.dq];exact hn) ?_
   rw[List.take_of_length_le (by simp;omega)]
   exact hps.le (ju.fresh g nm _ n (.app e sz cells) hG0)
  ·have:=VR.arr (g:=g.fresh nm w.heap.size n (.app e sz cells)) (k:=nm) (b:=w.heap.size) n (by simp[Gh.fresh,Gh.bind,Gh.dq])
   simpa[Gh.fresh,Gh.bind,Gh.dq] using this
end
inductive se where
 | normal
 | exit (id:Nat)
 | goto (l:Nat)
 | ret
 | panic (v:AV)
inductive n7 where
 | ret (v:AV)
 | panic (v:AV)
inductive XR (g:Gh):se→Exit→Prop
 | normal:XR g .normal .normal
 | exit (id:Nat):XR g (.exit id) (.exit id)
 | goto (l:Nat):XR g (.goto l) (.goto l)
 | ret:XR g .ret .ret
 | panic {v:AV} {c:Value} (h:VR g v c):XR g (.panic v) (.panic [{ v:=c,recovered:=false }])
inductive ER (g:Gh):n7→Ending→Prop
 | ret {v:AV} {c:Value} (h:VR g v c):ER g (.ret v) (.returned c)
 | panic {v:AV} {c:Value} (h:VR g v c):ER g (.panic v) (.panicked [{ v:=c,recovered:=false }])
abbrev dS:=se→ew→Z→Prop
def LQ (E:Env) (n:Nat) (Q:dS):Exit→Act→World→Prop:=
 fun e a w=>∃ g ae fr σ,Q ae fr σ∧XR g ae e∧Rel E g σ w∧FR n g fr a
def Step (P:Program) (E:Env) (n:Nat) (Q:dS) (o:Oper) (fr:ew) (σ:Z) (next:ew→Z→Prop):Prop:=
 ∀ (g:Gh) (a:Act) (w:World) (K:Act→World→Prop),Rel E g σ w→FR n g fr a→
  (∀ g' fr' σ' a' w',next fr' σ'→Rel E g' σ' w'→FR n g' fr' a'→K a' w')→o.wp P a w K (LQ E n Q)
def SL (P:Program) (E:Env) (n:Nat) (ops:Array Oper) (Q:dS) (l:List Oper) (fr:ew) (σ:Z):Prop:=
 ∀ (g:Gh) (a:Act) (w:World),Rel E g σ w→FR n g fr a→wpList P ops (LQ E n Q) l a w
def SW (P:Program) (E:Env) (n:Nat) (c:Code) (Q:dS) (fr:ew) (σ:Z):Prop:=
 ∀ (g:Gh) (a:Act) (w:World),Rel E g σ w→FR n g fr a→c.wp P (LQ E n Q) a w
def SC (P:Program) (f:FuncId) (args:List AV) (σ:Z) (R:n7→Z→Prop):Prop:=
 ∀ (wS:World) (g:Gh) (w:World) (vs:List Value),Rel (Env.of wS g σ w) g σ w→ga g args vs→
  Calls P f vs.toArray w fun e w'=>∃ g' ae σ',R ae σ'∧ER g' ae e∧Rel (Env.of wS g σ w) g' σ' w'
section
variable {P:Program} {E:Env} {n:Nat} {Q:dS} {ops:Array Oper} {fr:ew} {σ:Z}
theorem w6 {o:Oper} {rd:List (Nat×M)} {v:AV} {next:ew→Z→Prop} (h:fJ P o.op fr rd v) (hr:∀ p,p∈rd→Fk σ p)
  (hd:∀ d,o.dst=some d→d<n) (hn:next (fr.hY o.dst v) σ):Step P E n Q o fr σ next:=by
 intro g a w K hR hF hK
 obtain ⟨c,hrun,hv⟩:=h o rfl g a.eval w hR.gl (fun x _=>hF.eval x) (fun p hp=>let ⟨e,h1,h2⟩:=hr p hp;h2 _ _ _ (hR.iZ _ _ h1))
 simp only[Oper.wp,hrun,Oper.upon]
 exact hK g _ σ _ w hn hR (hF.put hd hv)
theorem w7 {o:Oper} {nm:Nat} {e:M} {v:AV} {next:ew→Z→Prop} (h:zP P o.op fr nm e v) (hc:fr.clear nm) (hs:σ.clear nm) (hf:E.fix nm=none)
  (hd:∀ d,o.dst=some d→d<n) (hn:next (fr.hY o.dst v) (σ.set nm e)):Step P E n Q o fr σ next:=by
 intro g a w K hR hF hK
 have hval:∀ x,(fr.val x).ed nm=false:=fun x=>by
  cases x with
  | tmp t=>exact hc.1 t
  | const v=>rfl
  | global k=>rfl
  | func f=>rfl
 obtain ⟨c,cs,el,cap,hrun,he,hv⟩:=h o rfl g a.eval w hR.gl.fresh (fun x _=>⟨hF.eval x,hval x⟩)
 simp only[Oper.wp,hrun,Oper.upon]
 refine hK (g.fresh nm w.heap.size cap e) _ _ _ _ hn (hR.BP hs hf he) (FR.put ?_ hd hv)
 exact hF.le (ju.fresh g nm _ _ e hR.gl.fresh) fun k q=>by subst q;exact hc
theorem DE {o:Oper} {v:AV} {next:ew→Z→Prop} (h:BX P o.op fr v) (hd:∀ d,o.dst=some d→d<n) (hn:next (fr.hY o.dst v) σ):Step P E n Q o fr σ next:=by
 intro g a w K hR hF hK
 obtain ⟨c,cs,el,ys,hrun,hl,hp,hv⟩:=h o rfl g a.eval w (fun x _=>hF.eval x)
 simp only[Oper.wp,hrun,Oper.upon]
 exact hK (g.dq w.heap.size ys) _ _ _ _ hn (hR.frozen hl hp) ((hF.le (nn:=fun _=>False) (ju.dq g _ ys hR.gl.fresh) fun k q=>q.elim).put hd hv)
theorem FR.Au {g:Gh} {a:Act} (hF:FR n g fr a) {j d:Nat} {v:Value} {want:Bool} (hj:(ops[j]?).bind (·.dst)=some d) (hb:fr.s d=Sc v) (hv:v≠.bool want):yielded ops a.tmps j≠some want:=by
 have:=hF.gX d
 rw[hb] at this
 have h1:=this.dz
 intro q
 simp only[yielded,hj,Option.bind_some] at q
 split at q
 ·rename_i b h2
  cases q
  rw[Array.getD_eq_getD_getElem?,h2] at h1
  exact hv (by simpa using h1.symm)
 ·cases q
theorem N (h:Q .normal fr σ):SL P E n ops Q [] fr σ:=fun g _ _ hR hF=>⟨g,.normal,fr,σ,h,.normal,hR,hF⟩
theorem iA {o:Oper} {rest:List Oper} (hg:o.guard=none) (h:Step P E n Q o fr σ (SL P E n ops Q rest)):SL P E n ops Q (o::rest) fr σ:=by
 intro g a w hR hF
 unfold wpList
 rw[if_pos (by simp[Region.wanted,hg])]
 exact .inl (h g a w _ hR hF fun g' fr' σ' a' w' hn hR' hF'=>hn g' a' w' hR' hF')
theorem FR.yield {g:Gh} {a:Act} (hF:FR n g fr a) {j d:Nat} {b:Bool} (hj:(ops[j]?).bind (·.dst)=some d) (hb:fr.s d=Bo b):yielded ops a.tmps j=some b:=by
 have:=hF.gX d
 rw[hb] at this
 have h1:=this.dz
 have hlt:d<a.tmps.size:=by
  rcases Nat.lt_or_ge d a.tmps.size with q|q
  ·exact q
  ·rw[Array.getD_eq_getD_getElem?,Array.getElem?_eq_none q] at h1;simp[undef] at h1
 have h2:a.tmps[d]?=some (.bool b):=by
  rw[Array.getD_eq_getD_getElem?,Array.getElem?_eq_getElem hlt] at h1
  rw[Array.getElem?_eq_getElem hlt];simpa using h1
 simp[yielded,hj,h2]
theorem u2 {o:Oper} {rest:List Oper} {j d:Nat} {want b:Bool} (hg:o.guard=some (j,want)) (hj:(ops[j]?).bind (·.dst)=some d) (hb:fr.s d=Bo b)
  (hd:∀ d,o.dst=some d→d<n) (hyes:b=want→Step P E n Q o fr σ (SL P E n ops Q rest)) (hno:b≠want→SL P E n ops Q rest (fr.hY o.dst (Sc undef)) σ) :
  SL P E n ops Q (o::rest) fr σ:=by
 intro g a w hR hF
 unfold wpList
 have hy:=hF.yield (ops:=ops) hj hb
 by_cases hw:b=want
 ·rw[if_pos (by simp[Region.wanted,hg,hy,hw])]
  exact .inl (hyes hw g a w _ hR hF fun g' fr' σ' a' w' hn hR' hF'=>hn g' a' w' hR' hF')
 ·rw[if_neg (by simp[Region.wanted,hg,hy,hw])]
  exact hno hw g _ w hR (hF.put hd (.pv (.sc _)))
theorem Fv {o:Oper} {rest:List Oper} {j d:Nat} {v:Value} {want:Bool} (hg:o.guard=some (j,want)) (hj:(ops[j]?).bind (·.dst)=some d) (hb:fr.s d=Sc v) (hv:v≠.bool want)
  (hd:∀ d,o.dst=some d→d<n) (hno:SL P E n ops Q rest (fr.hY o.dst (Sc undef)) σ):SL P E n ops Q (o::rest) fr σ:=by
 intro g a w hR hF
 unfold wpList
 rw[if_neg (by simp[Region.wanted,hg,hF.Au hj hb hv])]
 exact hno g _ w hR (hF.put hd (.pv (.sc _)))
theorem A {id:Nat} {l:List Oper} (h:SL P E n l.toArray Q l fr σ):SW P E n (.region id l.toArray false) Q fr σ:=
 fun g a w hR hF=>wp_region_lit (h g a w hR hF)
def uh (K:ew→Z→Prop) (Q:dS):dS
 | .normal,fr,σ=>K fr σ
 | e,fr,σ=>Q e fr σ
def zR (id:Nat) (Q:dS):dS
 | .exit id',fr,σ=>if id'=id then Q .normal fr σ else Q (.exit id') fr σ
 | e,fr,σ=>Q e fr σ
theorem BY {x y:Code} (h:SW P E n x (uh (SW P E n y Q) Q) fr σ):SW P E n (.seq x y) Q fr σ:=by
 intro g a w hR hF
 refine wp_seq (wp_mono (h g a w hR hF) fun e a w hq=>?_)
 obtain ⟨g',ae,fr',σ',q,hx,hR',hF'⟩:=hq
 cases hx with
 | normal=>exact q g' a w hR' hF'
 | exit id=>exact ⟨g',_,fr',σ',q,.exit id,hR',hF'⟩
 | goto l=>exact ⟨g',_,fr',σ',q,.goto l,hR',hF'⟩
 | ret=>exact ⟨g',_,fr',σ',q,.ret,hR',hF'⟩
 | panic hv=>exact ⟨g',_,fr',σ',q,.panic hv,hR',hF'⟩
theorem B {x y:Code} (h:∀ K:ew→Z→Prop,(∀ fr σ,SW P E n y Q fr σ→K fr σ)→SW P E n x (uh K Q) fr σ):SW P E n (.seq x y) Q fr σ:=
 BY (h _ fun _ _ h=>h)
theorem DF {c:Operand} {x y:Code} {b:Bool} (hb:fr.val c=Bo b) (ht:b=true→SW P E n x Q fr σ) (hf:b=false→SW P E n y Q fr σ):SW P E n (.cond c x y) Q fr σ:=by
 intro g a w hR hF
 have:=hF.eval c
 rw[hb] at this
 exact wp_cond_split this.dz (fun h=>ht h g a w hR hF) (fun h=>hf h g a w hR hF)
theorem V (h:Q .normal fr σ):SW P E n .skip Q fr σ:=fun g _ _ hR hF=>wp_skip ⟨g,.normal,fr,σ,h,.normal,hR,hF⟩
theorem x9 {l:Nat} (h:Q .normal fr σ):SW P E n (.label l) Q fr σ:=fun g _ _ hR hF=>wp_label ⟨g,.normal,fr,σ,h,.normal,hR,hF⟩
theorem bB {id:Nat} (h:Q (.exit id) fr σ):SW P E n (.exit id) Q fr σ:=fun g _ _ hR hF=>wp_exit ⟨g,.exit id,fr,σ,h,.exit id,hR,hF⟩
theorem H (h:Q .ret fr σ):SW P E n .ret Q fr σ:=fun g _ _ hR hF=>wp_ret ⟨g,.ret,fr,σ,h,.ret,hR,hF⟩
theorem z {id:Nat} {c:Code} (h:SW P E n c (zR id Q) fr σ):SW P E n (.block id c) Q fr σ:=by
 intro g a w hR hF
 refine wp_block (wp_mono (h g a w hR hF) fun e a w hq=>?_)
 obtain ⟨g',ae,fr',σ',q,hx,hR',hF'⟩:=hq
 cases hx with
 | normal=>exact ⟨g',_,fr',σ',q,.normal,hR',hF'⟩
 | exit id'=>
  simp only[zR] at q
  simp only[Exit.inBlock]
  split at q
  ·rename_i he;rw[if_pos he];exact ⟨g',_,fr',σ',q,.normal,hR',hF'⟩
  ·rename_i he;rw[if_neg he];exact ⟨g',_,fr',σ',q,.exit id',hR',hF'⟩
 | goto l=>exact ⟨g',_,fr',σ',q,.goto l,hR',hF'⟩
 | ret=>exact ⟨g',_,fr',σ',q,.ret,hR',hF'⟩
 | panic hv=>exact ⟨g',_,fr',σ',q,.panic hv,hR',hF'⟩
theorem DG {c:Code} (I:Nat→ew→Z→Prop) (m:Nat) (h0:I m fr σ)
  (round:∀ k fr σ,I k fr σ→SW P E n c (uh (fun fr' σ'=>∃ j,j<k∧I j fr' σ') Q) fr σ):SW P E n (.loop c) Q fr σ:=by
 have key:∀ k,∀ fr σ,I k fr σ→SW P E n (.loop c) Q fr σ∧∀ (g:Gh) (a:Act) (w:World),Rel E g σ w→FR n g fr a→∀ (b:Frame) (kk:List Item) (cs:List Frame),
   ∃ e a' w',LQ E n Q e a' w'∧Arrives P (lone (b.at a (.code c::.inLoop c::kk)) cs w) b kk cs e a' w':=by
  intro k
  induction k using Nat.strongRecOn with
  | _ k ih=>
   intro fr σ hI
   have main:∀ (g:Gh) (a:Act) (w:World),Rel E g σ w→FR n g fr a→∀ (b:Frame) (kk:List Item) (cs:List Frame),
     ∃ e a' w',LQ E n Q e a' w'∧Arrives P (lone (b.at a (.code c::.inLoop c::kk)) cs w) b kk cs e a' w':=by
    intro g a w hR hF b kk cs
    obtain ⟨e,a₁,w₁,hq,harr⟩:=round k fr σ hI g a w hR hF b (.inLoop c::kk) cs
    obtain ⟨g',ae,fr',σ',q,hx,hR',hF'⟩:=hq
    cases hx with
    | normal=>
     obtain ⟨j,hj,hI'⟩:=q
     obtain ⟨e₂,a₂,w₂,hq₂,harr₂⟩:=(ih j hj fr' σ' hI').2 g' a₁ w₁ hR' hF' b kk cs
     exact ⟨e₂,a₂,w₂,hq₂,.of_steps (Steps.trans harr (.one step_inLoop)) harr₂⟩
    | exit id=>exact ⟨_,a₁,w₁,⟨g',_,fr',σ',q,.exit id,hR',hF'⟩,.pass (x:=.inLoop c) rfl (fun _ _=>.inl (by simp)) harr⟩
    | goto l=>exact ⟨_,a₁,w₁,⟨g',_,fr',σ',q,.goto l,hR',hF'⟩,.pass (x:=.inLoop c) rfl (fun _ _=>.inl (by simp)) harr⟩
    | ret=>exact ⟨_,a₁,w₁,⟨g',_,fr',σ',q,.ret,hR',hF'⟩,.pass (x:=.inLoop c) rfl (fun _ _=>.inl (by simp)) harr⟩
    | panic hv=>exact ⟨_,a₁,w₁,⟨g',_,fr',σ',q,.panic hv,hR',hF'⟩,.pass (x:=.inLoop c) rfl (fun _ _=>.inl (by simp)) harr⟩
   refine ⟨fun g a w hR hF b kk cs=>?_,main⟩
   obtain ⟨e,a',w',hq,harr⟩:=main g a w hR hF b kk cs
   exact ⟨e,a',w',hq,.of_steps (.one step_loop) harr⟩
 exact (key m fr σ h0).1
def ew.le (fr fr':ew):Prop:=(∀ i,fr'.s i=fr.s i∨fr'.s i=.any)∧fr'.ds=fr.ds
theorem FR.ya {fr':ew} {g:Gh} {a:Act} (h:fr.le fr') (hF:FR n g fr a):FR n g fr' a:=
 ⟨hF.size,fun i=>by
  rcases h.1 i with q|q
  ·rw[q];exact hF.gX i
  ·rw[q];exact .any _,by rw[h.2];exact hF.ds⟩
theorem Av {c:Code} {fr':ew} {σ':Z} (hf:fr.le fr') (hs:∀ k e,σ' k=some e→σ k=some e) (h:SW P E n c Q fr' σ'):SW P E n c Q fr σ:=
 fun g a w hR hF=>h g a w (hR.sub hs) (hF.ya hf)
end
theorem yb {α:Type} (A v:List α) (off c:Nat) (h1:off+v.length≤c) (h2:c≤A.length) :
  (A.take off++v++A.drop (off+v.length)).take c=(A.take c).take off++v++(A.take c).drop (off+v.length):=by
 rw[List.take_append,List.drop_take,List.take_take,Nat.min_eq_left (by omega)]
 have e:(A.take off++v).length=off+v.length:=by simp;omega
 rw[e,List.take_of_length_le (by rw[e];exact h1)]
def AV.Fw:AV→PV
 | .pv p=>p
 | _=>.sc undef
theorem mb (nm:Nat):∀ l:List PV,AV.ed.fg nm (l.map .pv)=false
 | []=>rfl
 | x::l=>by simp[AV.ed.fg,AV.ed,mb nm l]
theorem u3:∀ l:List PV,(l.map AV.pv).map AV.Fw=l
 | []=>rfl
 | x::l=>by rw[List.map_cons,List.map_cons,u3 l];rfl
def M.BZ:M→Bool
 | .arr ..=>true
 | _=>false
def M.Aw (off:Nat) (l:List AV):M→M
 | .box cs=>.box (cs.take off++l++cs.drop (off+l.length))
 | .arr el sz cs=>.arr el sz (cs.take off++l.map AV.Fw++cs.drop (off+l.length))
 | e=>e
section
variable {P:Program} {E:Env} {n:Nat} {Q:dS} {ops:Array Oper} {fr:ew} {σ:Z}
theorem pH {o:Oper} {t:TypeId} {x y:Operand} {k off:Nat} {e:M} {l:List AV} {next:ew→Z→Prop} (ho:o.op=.store t x y) (hd:o.dst=none)
  (hx:fr.val x=.ptr k off) (hk:σ k=some e) (hea:e.isApp=false) (hy:(fr.val y).fh=some l) (h1:AV.iW l=true) (ht:vL P t=some l.length) (hl:off+l.length≤e.cells.length)
  (hpa:e.BZ=true→∃ ps:List PV,l=ps.map .pv) (hn:next fr (σ.set k (e.Aw off l))):Step P E n Q o fr σ next:=by
 intro g a w K hR hF hK
 have q:=hF.eval x;rw[hx] at q
 have r:=(hF.eval y).fh hy
 generalize hq:a.eval x=c at q
 cases q with
 | ptr _ hb=>
  rename_i b
  obtain ⟨cs,el,hw,hcl,hc⟩:=(hR.iZ k e hk).at hb
  have hlen:=r.length
  simp at hlen
  have hst:=run_storeCells_at P b off el (a.eval y).cells.toList 0 cs w hw (by simp;omega) (r.one h1)
  simp only[Nat.add_zero] at hst
  have hput:a.put o.dst undef=a:=by rw[hd];rfl
  have hrun:(execOp a.eval o).run P w=.ok .skip (w.setRow b (cs.toList.take off++(a.eval y).cells.toList++cs.toList.drop (off+(a.eval y).cells.toList.length)).toArray):=by
   simp only[execOp,ho,hq,Instr.storeAt,Instr.sureAddr,Sem.run_bind,Sem.run_pure,Result.andThen_ok,storeVar,kY ht]
   rw[if_neg (by simp;omega)]
   simp[hst]
  simp only[Oper.wp,hrun,Oper.upon,hput]
  refine hK g _ _ _ _ hn (hR.write hk hea hb ?_ ⟨_,_,_,hw,by simp;omega,fun _ hf v hv=>(by
   simp only[List.mem_append] at hv
   rcases hv with (hv|hv)|hv
   ·exact hf v (List.mem_of_mem_take hv)
   ·exact r.one h1 v hv
   ·exact hf v (List.mem_of_mem_drop hv))⟩ (fun ⟨c,q⟩=>by cases e with|box c=>exact ⟨_,rfl⟩|arr _ _ _=>cases q|app _ _ _=>cases q)) hF
  have hlen2:(a.eval y).cells.toList.length=l.length:=by simp;omega
  rw[hlen2]
  cases e with
  | box cells=>
   cases hR.iZ k _ hk with
   | box h hw0 hc0 hb1=>
    rw[h] at hb;cases hb
    rw[hw] at hw0;cases hw0
    refine .box h (setRow_heap w b cs _ el _ hw) ?_ ?_
    ·simp only
     exact ((hc0.take off).append r).append (hc0.drop (off+l.length))
    ·intro v hv
     simp only[List.mem_append] at hv
     rcases hv with (hv|hv)|hv
     ·exact hb1 v (List.mem_of_mem_take hv)
     ·exact r.one h1 v hv
     ·exact hb1 v (List.mem_of_mem_drop hv)
  | arr ee sz cells=>
   cases hR.iZ k _ hk with
   | n5 h=>rw[h] at hb;cases hb
   | arr h hw0 hl0 hz hm hc0=>
    rw[h] at hb;cases hb
    rw[hw] at hw0;cases hw0
    obtain ⟨ps,hps⟩:=hpa rfl
    have r':=kL.u1 (hps▸r)
    have hpl:ps.length=l.length:=by rw[hps,List.length_map]
    simp only[M.cells,List.length_map] at hl hcl hc
    have hc:=hc0
    have e0:l.map AV.Fw=ps:=by rw[hps,u3]
    have hll:(cells.take off++ps++cells.drop (off+l.length)).length=cells.length:=by simp;omega
    simp only[M.Aw]
    rw[e0]
    refine .arr h (setRow_heap w b cs _ el _ hw) ?_ ?_ hm ?_
    ·simp;omega
    ·rw[← hz];simp;omega
    ·rw[hll]
     have e1:=yb cs.toList (a.eval y).cells.toList off cells.length (by rw[hlen2];exact hl) (by simpa using hcl)
     rw[hlen2] at e1
     simp only
     rw[e1]
     exact ((hc.take off).append r').append (hc.drop (off+l.length))
  | app ee sz cells=>cases hea
theorem zS {o:Oper} {x:Operand} {t:TypeId} {v:AV} {next:ew→Z→Prop} (ho:o.op=.panic x) (hx:fr.val x=.lF t v) (hq:Q (.panic (.lF t v)) fr σ) :
  Step P E n Q o fr σ next:=by
 intro g a w K hR hF hK
 have q:=hF.eval x;rw[hx] at q
 generalize he:a.eval x=c at q
 cases q with
 | lF _ h=>
  rename_i v'
  have hrun:(execOp a.eval o).run P w=.halt (.panic (.iface t v')) w:=by simp[execOp,ho,he,Instr.panic]
  simp only[Oper.wp,hrun,Oper.upon]
  exact ⟨g,_,fr,σ,hq,.panic (.lF t h),hR,hF⟩
def pI (P:Program) (t:TypeId):Option (Nat×Nat):=(P.info? t).bind fun i=>i.zero.bind fun z=>if z.cells.size=i.size∧0<i.size then some (i.size,i.bytes) else none
theorem kM {t ty e:TypeId} {i:TypeInfo} (ht:P.underlying t=some (.slice e)) (hi:P.info? e=some i) (a:Option Addr) (sLen sCap cap:Nat) (hl:sLen≤sCap) (w:World) :
  (Builtin.append_ #[t,t] ty #[.slice a sLen sCap,.slice none 0 cap]).run P w=.ok (.slice a sLen sCap) w:=by
 cases a<;>simp[Builtin.append_,run_underlying ht,sizeOf,typeInfo,hi,Builtin.lenOf,hl,Builtin.firstCells,storeCells]
theorem sT {t ty e:TypeId} {i:TypeInfo} {z:Value} (ht:P.underlying t=some (.slice e)) (hi:P.info? e=some i) (hz:i.zero=some z) (hzs:z.cells.size=i.size)
    (w:World) {b cap len:Nat} {cs:Array Value} (hw:w.heap[b]?=some (.cells cs e (0,0))) (hcs:cs.size=cap*i.size) (hlen:len≤cap)
    {a:Addr} {m c:Nat} {news:List Value} (hl:news.length=m*i.size) (hnews:∀ j u,news[j]?=some u→w.cell? (a.add j)=some u) (h1:∀ u∈news,u.oneCell'=true)
    (hmax:len+m≤maxLen) (hbig:(len+m)*i.bytes≤140737488355328) :
    ∃ v' w',(Builtin.append_ #[t,t] ty #[.slice (some ⟨b,0,none⟩) len cap,.slice (some a) m c]).run P w=.ok v' w'∧
      ((len+m≤cap∧v'=.slice (some ⟨b,0,none⟩) (len+m) cap∧w'=w.setRow b (cs.toList.take (len*i.size)++news++cs.toList.drop (len*i.size+news.length)).toArray)∨
       ∃ cap' cs',v'=.slice (some ⟨w.heap.size,0,none⟩) (len+m) cap'∧w'=w.drew.alloc (.cells cs' e (0,0))∧cs'.size=cap'*i.size∧cap'≤maxLen∧len+m≤cap'∧
         cs'.toList.take ((len+m)*i.size)=cs.toList.take (len*i.size)++news):=by
  have hsmall:len+m≤9223372036854775807:=by simp only[maxLen] at hmax;omega
  have hle:len*i.size≤cs.size:=by rw[hcs];exact Nat.mul_le_mul_right _ hlen
  by_cases hroom:len+m≤cap
  · have hfit:len*i.size+news.length≤cs.size:=by rw[hl,hcs,← Nat.add_mul];exact Nat.mul_le_mul_right _ hroom
    exact ⟨_,_,run_append_room (P:=P) w t ty e i ht hi b len cap cs hw a m c news hl hnews h1 hroom hfit,.inl ⟨hroom,rfl,rfl⟩⟩
  · have hxs:(cs.toList.take (len*i.size)).length=len*i.size:=by simp;omega
    have hr:=run_append_grow (P:=P) w t ty e i z ht hi hz ⟨b,0,none⟩ len cap (cs.toList.take (len*i.size)) hxs (fun j u hj=>by
      rw[Addr.add_lit,cell_of_row w b _ cs e _ hw]
      rw[List.getElem?_take] at hj
      split at hj
      · simpa using hj
      · cases hj) a m c news hl hnews (by omega) (by omega) (growslice_fits (by omega) hbig)
    have hge:=grownCap_ge w (len+m) cap e
    refine ⟨_,_,hr,.inr ⟨_,_,rfl,rfl,?_,grownCap_le_maxLen w _ _ e hmax,hge,?_⟩⟩
    · simp only[Array.size_append,List.size_toArray,size_zeroCells,hzs,hxs,hl,← Nat.add_mul]
      congr 1
      omega
    · have e1:(cs.toList.take (len*i.size)++news).length=(len+m)*i.size:=by rw[List.length_append,hxs,hl,Nat.add_mul]
      simp only[Array.toList_append,List.append_assoc]
      rw[← List.append_assoc,← e1]
      exact List.take_left
theorem oY {t ty e:TypeId} {i:TypeInfo} {z:Value} (ht:P.underlying t=some (.slice e)) (hi:P.info? e=some i) (hz:i.zero=some z) (hzs:z.cells.size=i.size)
    (w:World) {a:Addr} {m c:Nat} {news:List Value} (hl:news.length=m*i.size) (hnews:∀ j u,news[j]?=some u→w.cell? (a.add j)=some u)
    (hmax:m≤maxLen) (hbig:m*i.bytes≤140737488355328) (hm:0<m) :
    ∃ v' w',(Builtin.append_ #[t,t] ty #[.slice none 0 0,.slice (some a) m c]).run P w=.ok v' w'∧
       ∃ cap' cs',v'=.slice (some ⟨w.heap.size,0,none⟩) m cap'∧w'=w.drew.alloc (.cells cs' e (0,0))∧cs'.size=cap'*i.size∧cap'≤maxLen∧m≤cap'∧
         cs'.toList.take (m*i.size)=news:=by
  have hsmall:m≤9223372036854775807:=by simp only[maxLen] at hmax;omega
  have hr:=run_append_nil (P:=P) w t ty e i z ht hi hz a m c news hl hnews hm (by omega) (by omega)
  have hge:=grownCap_ge w m 0 e
  refine ⟨_,_,hr,_,_,rfl,rfl,?_,grownCap_le_maxLen w _ _ e hmax,hge,?_⟩
  · simp only[Array.size_append,List.size_toArray,size_zeroCells,hzs,hl,← Nat.add_mul]
    congr 1
    omega
  · simp only[Array.toList_append]
    rw[← hl]
    exact List.take_left
theorem u4 {e sz bytes:Nat} (h:pI P e=some (sz,bytes)):∃ i z,P.info? e=some i∧i.zero=some z∧z.cells.size=i.size∧0<i.size∧i.size=sz∧i.bytes=bytes:=by
 unfold pI at h
 cases hi:P.info? e with
 | none=>simp[hi] at h
 | some i=>
  cases hz:i.zero with
  | none=>simp[hi,hz] at h
  | some z=>
   simp[hi,hz] at h
   exact ⟨i,z,rfl,hz,h.1.1,h.1.2,h.2.1,h.2.2⟩
theorem Bb {g:Gh} {w:World} (hR:Rel E g σ w) {nm e sz cap' m:Nat} {cs':Array Value} {l:List PV} {news:List Value} (hs:σ.clear nm) (hf:E.fix nm=none) (hl:kL g l news)
  (hll:l.length=m*sz) (h1:cs'.size=cap'*sz) (h2:cap'≤maxLen) (h3:m≤cap') (h4:cs'.toList.take (m*sz)=news) :
  Rel E (g.bind nm w.heap.size cap') (σ.set nm (.arr e sz l)) (w.drew.alloc (.cells cs' e (0,0))):=by
 have hle:l.length≤cs'.size:=by rw[hll,h1];exact Nat.mul_le_mul_right _ h3
 have h0:=hR.drew
 have:=h0.alloc (nm:=nm) (cap:=cap') (e:=.arr e sz l) (o:=.cells cs' e (0,0)) hs hf (.arr (by simp[Gh.bind]) (heap_alloc_new w.drew _) hle (by rw[w5];exact h1) (by rw[w5];exact h2)
  (by rw[hll,h4];exact hl.le (ju.bind g nm _ _)))
 exact this
theorem zT {g:Gh} {w:World} (hR:Rel E g σ w) {nm e sz cap' m:Nat} {cs':Array Value} {l:List PV} {news:List Value} (hs:σ.clear nm) (hf:E.fix nm=none) (hl:kL g l news)
  (hll:l.length=m*sz) (h1:cs'.size=cap'*sz) (h2:cap'≤maxLen) (h3:m≤cap') (h4:cs'.toList.take (m*sz)=news) :
  Rel E ((g.bind nm w.heap.size cap').dq w.heap.size l) (σ.set nm (.app e sz l)) (w.drew.alloc (.cells cs' e (0,0))):=by
 have hle:l.length≤cs'.size:=by rw[hll,h1];exact Nat.mul_le_mul_right _ h3
 exact hR.drew.xX hs hf hle h1 h2 (by rw[hll,h4];exact hl.le (nn:=fun _=>False) (ju.dq g _ l hR.gl.fresh))
def PV.one:PV→Bool
 | .sc v=>v.oneCell'
 | _=>true
def PV.iW:List PV→Bool
 | []=>true
 | x::xs=>x.one&&iW xs
theorem PR.one {g:Gh} {v:PV} {c:Value} (h:PR g v c) (ho:v.one=true):c.oneCell'=true:=by
 cases h with
 | sc v=>exact ho
 | nil=>rfl
 | sl=>rfl
 | BO=>rfl
 | BL=>rfl
theorem kL.one {g:Gh}:∀ {l:List PV} {vs:List Value},kL g l vs→PV.iW l=true→∀ v,v∈vs→v.oneCell'=true
 | _,_,.nil,_,v,hv=>by cases hv
 | _,_,.cons h t,ho,v,hv=>by
  simp[PV.iW] at ho
  rcases List.mem_cons.1 hv with q|q
  ·subst q;exact h.one ho.1
  ·exact t.one ho.2 v q
inductive Dw (sz:Nat):AV→Nat→List PV→Prop
 | sl (m:Nat) (cells:List PV) (h:cells.length=m*sz):Dw sz (.pv (.sl m cells)) m cells
 | nil:Dw sz (Sc (.slice none 0 0)) 0 []
theorem Dw.read {g:Gh} {w:World} {sz m:Nat} {x:AV} {l:List PV} {c:Value} (h:Dw sz x m l) (hG:An g w) (hv:VR g x c) :
  (∃ a cap news,c=.slice (some a) m cap∧kL g l news∧∀ j u,news[j]?=some u→w.cell? (a.add j)=some u)∨∃ cap,c=.slice none m cap∧m=0∧l=[]:=by
 cases h with
 | sl m cells h=>
  cases hv with
  | pv hv=>
   cases hv with
   | nil a cap=>
    cases a with
    | none=>exact .inr ⟨_,rfl,rfl,rfl⟩
    | some a=>exact .inl ⟨a,cap,[],rfl,.nil,fun j u hj=>by simp at hj⟩
   | sl b ys off _ cap _ hb hl hc hn=>
    obtain ⟨cs,el,fz,hw,h1,h2⟩:=Aq hG hb hl hc
    refine .inl ⟨_,cap,_,rfl,h2,fun j u hj=>?_⟩
    rw[Addr.add_lit,cell_of_row w b _ cs el fz hw]
    rw[List.getElem?_take] at hj
    split at hj
    ·rw[List.getElem?_drop] at hj;simpa using hj
    ·cases hj
 | nil=>cases hv with|pv hv=>cases hv with|sc=>exact .inr ⟨0,rfl,rfl,rfl⟩
theorem sU {o:Oper} {t e:TypeId} {s x:Operand} {sz bytes k nm m len:Nat} {cells l:List PV} {next:ew→Z→Prop}
  (ho:o.op=.call ⟨.builtin .append,#[s,x],#[t,t]⟩) (ht:P.underlying t=some (.slice e)) (hb:pI P e=some (sz,bytes))
  (hs:fr.val s=.arr k len) (hk:σ k=some (.app e sz cells)) (hlen:cells.length=len*sz) (hx:Dw sz (fr.val x) m l) (h1:PV.iW l=true)
  (hc:fr.clear nm) (hcs:(σ.del k).clear nm) (hf:E.fix nm=none)
  (hbig:(len+m)*bytes≤140737488355328) (hmax:len+m≤maxLen) (hd:∀ d,o.dst=some d→d<n)
  (hn:next (fr.hY o.dst (.arr nm (len+m))) ((σ.del k).set nm (.app e sz (cells++l)))):Step P E n Q o fr σ next:=by
 obtain ⟨i,z,hi,hz,hzs,hsz,rfl,rfl⟩:=u4 hb
 intro g a w K hR hF hK
 have qs:=hF.eval s;rw[hs] at qs
 have qx:=hF.eval x
 generalize fr.val x=av at hx qx
 have hml:AV.ed.fg nm (M.app e i.size (cells++l)).cells=false:=by
  have:∀ zs:List PV,AV.ed.fg nm (zs.map .pv)=false:=by
   intro zs;induction zs with
   | nil=>rfl
   | cons z zs ih=>simp[AV.ed.fg,AV.ed,ih]
  exact this _
 have hll:l.length=m*i.size:=by
  cases hx with
  | sl m cells h=>exact h
  | nil=>simp
 have hcl:(cells++l).length=(len+m)*i.size:=by rw[List.length_append,hlen,hll,Nat.add_mul]
 have hrd:=hx.read hR.gl qx
 have hstep:∀ v' w',(Builtin.append_ #[t,t] o.type #[a.eval s,a.eval x]).run P w=.ok v' w'→(∃ g',Rel E g' ((σ.del k).set nm (.app e i.size (cells++l))) w'∧FR n g' fr a∧VR g' (.arr nm (len+m)) v')→
   o.wp P a w K (LQ E n Q):=by
  intro v' w' hrun ⟨g',hR',hF',hv'⟩
  have hrun':(execOp a.eval o).run P w=.ok (.value v') w':=by
   simp only[execOp,ho,resolve,invoke,builtin,Sem.run_bind,Sem.run_pure,Result.andThen_ok,List.map_toArray,List.map_cons,List.map_nil,hrun]
  simp only[Oper.wp,hrun',Oper.upon]
  exact hK g' _ _ _ _ hn hR' (hF'.put hd hv')
 have hsub:Rel E g (σ.del k) w:=hR.sub fun j e' hj=>by
  by_cases q:j=k
  ·subst q;simp[Z.del] at hj
  ·simpa[Z.del,q] using hj
 have hnone:m=0→l=[]→(Builtin.append_ #[t,t] o.type #[a.eval s,a.eval x]).run P w=.ok (a.eval s) w→o.wp P a w K (LQ E n Q):=by
  intro hm hl0 hrun
  subst hm hl0
  refine hstep _ _ hrun ⟨g.alias nm k,?_,hF.le (ju.alias g nm k) (fun j q=>by subst q;exact hc),?_⟩
  ·rw[List.append_nil] at hml ⊢
   exact hR.rename hk hcs hml hf (fun _ q=>by cases q)
  ·have hn1:(g.alias nm k).ρ nm=g.ρ k:=by simp[Gh.alias]
   have hn2:(g.alias nm k).cp nm=g.cp k:=by simp[Gh.alias]
   generalize hq:a.eval s=cc at qs
   cases qs with
   | arr _ h=>rw[← hn2];exact .arr _ (hn1.trans h)
   | n5 h=>exact .n5 (hn1.trans h)
 have hwr:∀ (cap':Nat) (cs':Array Value) (news:List Value) (v':Value),v'=.slice (some ⟨w.heap.size,0,none⟩) (len+m) cap'→kL g (cells++l) news→
   cs'.size=cap'*i.size→cap'≤maxLen→len+m≤cap'→cs'.toList.take ((len+m)*i.size)=news→
   (Builtin.append_ #[t,t] o.type #[a.eval s,a.eval x]).run P w=.ok v' (w.drew.alloc (.cells cs' e (0,0)))→o.wp P a w K (LQ E n Q):=by
  intro cap' cs' news v' hv' hvr e1 e2 e3 e4 hrun
  have hle:ju (·=nm) g ((g.bind nm w.heap.size cap').dq w.heap.size (cells++l)):=
   (ju.bind g nm _ _).trans (ju.dq _ _ _ (by simpa[Gh.bind] using hR.gl.fresh))
  refine hstep _ _ hrun ⟨_,zT hsub hcs hf hvr hcl e1 e2 e3 e4,hF.le hle (fun j q=>by subst q;exact hc),?_⟩
  rw[hv']
  have:=VR.arr (g:=(g.bind nm w.heap.size cap').dq w.heap.size (cells++l)) (k:=nm) (b:=w.heap.size) (len+m) (by simp[Gh.bind,Gh.dq])
  simpa[Gh.bind,Gh.dq] using this
 generalize hq:a.eval s=cc at qs
 cases qs with
 | n5 hρ=>
  have hc0:cells=[]:=List.eq_nil_of_length_eq_zero (by simpa using hlen)
  subst hc0
  rcases hrd with ⟨ad,cap,news,hxe,hvr,hcell⟩|⟨cap,hxe,hm,hl0⟩
  ·by_cases hm:m=0
   ·subst hm
    have hl0:l=[]:=List.eq_nil_of_length_eq_zero (by simpa using hll)
    refine hnone rfl hl0 ?_
    rw[hq,hxe]
    have hn0:news=[]:=List.eq_nil_of_length_eq_zero (by rw[← hvr.length,hl0];rfl)
    simp[Builtin.append_,run_underlying ht,sizeOf,typeInfo,hi,Builtin.lenOf,Builtin.firstCells,loadCells,loadCellsFrom]
   ·have hnl:news.length=m*i.size:=by rw[← hvr.length,hll]
    obtain ⟨v',w',hrun,cap',cs',hv',hw',e1,e2,e3,e4⟩:=oY (P:=P) (ty:=o.type) (c:=cap) ht hi hz hzs w hnl hcell (by omega) (by simpa using hbig) (Nat.pos_of_ne_zero hm)
    subst hw'
    exact hwr cap' cs' news v' (by simpa using hv') (by simpa using hvr) e1 e2 (by simpa using e3) (by simpa using e4) (by rw[hq,hxe];exact hrun)
  ·refine hnone hm hl0 ?_
   rw[hq,hxe,hm]
   exact kM ht hi none 0 0 cap (Nat.le_refl _) w
 | arr _ hρ=>
  rename_i b
  cases hR.iZ k _ hk with
  | uW h=>rw[h] at hρ;cases hρ
  | app h hGk hw hcle hcz hcm hcv=>
   rename_i cs
   rw[h] at hρ;cases hρ
   have hlc:len≤g.cp k:=by
    have:len*i.size≤g.cp k*i.size:=by rw[← hlen,← hcz];exact hcle
    exact Nat.le_of_mul_le_mul_right this hsz
   rcases hrd with ⟨ad,cap,news,hxe,hvr,hcell⟩|⟨cap,hxe,hm,hl0⟩
   ·have hnl:news.length=m*i.size:=by rw[← hvr.length,hll]
    obtain ⟨v',w',hrun,hcase⟩:=sT (P:=P) (ty:=o.type) (c:=cap) ht hi hz hzs w hw hcz hlc hnl hcell (hvr.one h1) hmax hbig
    rw[hlen] at hcv
    rcases hcase with ⟨hroom,hv',hw'⟩|⟨cap',cs',hv',hw',e1,e2,e3,e4⟩
    ·subst hw'
     have hfit:len*i.size+news.length≤cs.size:=by rw[hnl,hcz,← Nat.add_mul];exact Nat.mul_le_mul_right _ hroom
     have htake:(cs.toList.take (len*i.size)++news++cs.toList.drop (len*i.size+news.length)).take (cells++l).length=cs.toList.take (len*i.size)++news:=by
      have:(cs.toList.take (len*i.size)++news).length=(cells++l).length:=by rw[hcl,List.length_append,hnl,Nat.add_mul];simp;omega
      rw[← this];exact List.take_left
     have hR1:=hR.extend (k:=k) (us:=l) (cs:=(cs.toList.take (len*i.size)++news++cs.toList.drop (len*i.size+news.length)).toArray) hk h
      (by rw[hcl];simp;rw[hnl,Nat.add_mul];omega) (by rw[← hcz];simp;omega) ⟨_,hw⟩ (by simp only;rw[htake];exact hcv.append hvr)
     have hR2:=hR1.rename (nm:=nm) (k:=k) (e:=.app e i.size (cells++l)) (by simp[Z.set]) (fun j e' hj=>hcs j e' (by
      by_cases q:j=k
      ·subst q;simp[Z.del] at hj
      ·simpa[Z.del,Z.set,q] using hj)) hml hf (fun _ q=>by cases q)
     have hσ:((σ.set k (.app e i.size (cells++l))).del k).set nm (.app e i.size (cells++l))=(σ.del k).set nm (.app e i.size (cells++l)):=by
      funext j;simp only[Z.set,Z.del];split<;>(try rfl);split<;>rfl
     rw[hσ] at hR2
     refine hstep _ _ (by rw[hq,hxe];exact hrun) ⟨_,hR2,hF.le ((ju.grow g b cells l hGk).trans (ju.alias _ nm k)) (fun j q=>by subst q;exact hc),?_⟩
     rw[hv']
     have hn1:((g.dq b (cells++l)).alias nm k).ρ nm=g.ρ k:=by simp[Gh.alias,Gh.dq]
     have hn2:((g.dq b (cells++l)).alias nm k).cp nm=g.cp k:=by simp[Gh.alias,Gh.dq]
     rw[← hn2];exact .arr _ (hn1.trans h)
    ·subst hw'
     exact hwr cap' cs' _ v' hv' (hcv.append hvr) e1 e2 e3 e4 (by rw[hq,hxe];exact hrun)
   ·refine hnone hm hl0 ?_
    rw[hq,hxe,hm]
    exact kM ht hi _ _ _ cap hlc w
theorem u5:∀ {l:List PV},PV.iW l=true→AV.iW (l.map .pv)=true
 | [],_=>rfl
 | x::l,h=>by
  simp[PV.iW] at h
  have hx:(AV.pv x).one=true:=by
   cases x with
   | sc v=>simpa[AV.one,PV.one] using h.1
   | sl _ _=>rfl
   | pt _=>rfl
  simp[AV.iW,hx,u5 h.2]
theorem sV {o:Oper} {t e:TypeId} {s x:Operand} {sz bytes k nm m len:Nat} {cells l:List PV} {next:ew→Z→Prop}
  (ho:o.op=.call ⟨.builtin .append,#[s,x],#[t,t]⟩) (ht:P.underlying t=some (.slice e)) (hb:pI P e=some (sz,bytes))
  (hs:fr.val s=.arr k len) (hk:σ k=some (.arr e sz cells)) (hlen:cells.length=len*sz) (hx:Dw sz (fr.val x) m l) (h1:PV.iW l=true)
  (hc:fr.clear nm) (hcs:(σ.del k).clear nm) (hf:E.fix nm=none)
  (hbig:(len+m)*bytes≤140737488355328) (hmax:len+m≤maxLen) (hd:∀ d,o.dst=some d→d<n)
  (hn:next (fr.hY o.dst (.arr nm (len+m))) ((σ.del k).set nm (.arr e sz (cells++l)))):Step P E n Q o fr σ next:=by
 obtain ⟨i,z,hi,hz,hzs,hsz,rfl,rfl⟩:=u4 hb
 intro g a w K hR hF hK
 have qs:=hF.eval s;rw[hs] at qs
 have qx:=hF.eval x
 generalize fr.val x=av at hx qx
 have hll:l.length=m*i.size:=by
  cases hx with
  | sl m cells h=>exact h
  | nil=>simp
 have hcl:(cells++l).length=(len+m)*i.size:=by rw[List.length_append,hlen,hll,Nat.add_mul]
 have hrd:=hx.read hR.gl qx
 have hstep:∀ v' w',(Builtin.append_ #[t,t] o.type #[a.eval s,a.eval x]).run P w=.ok v' w'→(∃ g',Rel E g' ((σ.del k).set nm (.arr e i.size (cells++l))) w'∧FR n g' fr a∧VR g' (.arr nm (len+m)) v')→
   o.wp P a w K (LQ E n Q):=by
  intro v' w' hrun ⟨g',hR',hF',hv'⟩
  have hrun':(execOp a.eval o).run P w=.ok (.value v') w':=by
   simp only[execOp,ho,resolve,invoke,builtin,Sem.run_bind,Sem.run_pure,Result.andThen_ok,List.map_toArray,List.map_cons,List.map_nil,hrun]
  simp only[Oper.wp,hrun',Oper.upon]
  exact hK g' _ _ _ _ hn hR' (hF'.put hd hv')
 have hsub:Rel E g (σ.del k) w:=hR.sub fun j e' hj=>by
  by_cases q:j=k
  ·subst q;simp[Z.del] at hj
  ·simpa[Z.del,q] using hj
 have hnone:m=0→l=[]→(Builtin.append_ #[t,t] o.type #[a.eval s,a.eval x]).run P w=.ok (a.eval s) w→o.wp P a w K (LQ E n Q):=by
  intro hm hl0 hrun
  subst hm hl0
  refine hstep _ _ hrun ⟨g.alias nm k,?_,hF.le (ju.alias g nm k) (fun j q=>by subst q;exact hc),?_⟩
  ·rw[List.append_nil]
   exact hR.rename hk hcs (mb nm _) hf (fun _ q=>by cases q)
  ·have hn1:(g.alias nm k).ρ nm=g.ρ k:=by simp[Gh.alias]
   have hn2:(g.alias nm k).cp nm=g.cp k:=by simp[Gh.alias]
   generalize hq:a.eval s=cc at qs
   cases qs with
   | arr _ h=>rw[← hn2];exact .arr _ (hn1.trans h)
   | n5 h=>exact .n5 (hn1.trans h)
 have hwr:∀ (b:Nat) (cap':Nat) (cs':Array Value) (news:List Value) (v':Value),v'=.slice (some ⟨w.heap.size,0,none⟩) (len+m) cap'→kL g (cells++l) news→
   cs'.size=cap'*i.size→cap'≤maxLen→len+m≤cap'→cs'.toList.take ((len+m)*i.size)=news→
   (Builtin.append_ #[t,t] o.type #[a.eval s,a.eval x]).run P w=.ok v' (w.drew.alloc (.cells cs' e (0,0)))→o.wp P a w K (LQ E n Q):=by
  intro b cap' cs' news v' hv' hvr e1 e2 e3 e4 hrun
  refine hstep _ _ hrun ⟨g.bind nm w.heap.size cap',Bb hsub hcs hf hvr hcl e1 e2 e3 e4,hF.le (ju.bind g nm _ _) (fun j q=>by subst q;exact hc),?_⟩
  rw[hv']
  have:=VR.arr (g:=g.bind nm w.heap.size cap') (k:=nm) (len+m) (u0 ..)
  rwa [w5] at this
 generalize hq:a.eval s=cc at qs
 cases qs with
 | n5 hρ=>
  have hc0:cells=[]:=List.eq_nil_of_length_eq_zero (by simpa using hlen)
  subst hc0
  rcases hrd with ⟨ad,cap,news,hxe,hvr,hcell⟩|⟨cap,hxe,hm,hl0⟩
  ·by_cases hm:m=0
   ·subst hm
    have hl0:l=[]:=List.eq_nil_of_length_eq_zero (by simpa using hll)
    refine hnone rfl hl0 ?_
    rw[hq,hxe]
    have hn0:news=[]:=List.eq_nil_of_length_eq_zero (by rw[← hvr.length,hl0];rfl)
    simp[Builtin.append_,run_underlying ht,sizeOf,typeInfo,hi,Builtin.lenOf,Builtin.firstCells,loadCells,loadCellsFrom]
   ·have hnl:news.length=m*i.size:=by rw[← hvr.length,hll]
    obtain ⟨v',w',hrun,cap',cs',hv',hw',e1,e2,e3,e4⟩:=oY (P:=P) (ty:=o.type) (c:=cap) ht hi hz hzs w hnl hcell (by omega) (by simpa using hbig) (Nat.pos_of_ne_zero hm)
    subst hw'
    exact hwr 0 cap' cs' news v' (by simpa using hv') (by simpa using hvr) e1 e2 (by simpa using e3) (by simpa using e4) (by rw[hq,hxe];exact hrun)
  ·refine hnone hm hl0 ?_
   rw[hq,hxe,hm]
   exact kM ht hi none 0 0 cap (Nat.le_refl _) w
 | arr _ hρ=>
  rename_i b
  cases hR.iZ k _ hk with
  | n5 h=>rw[h] at hρ;cases hρ
  | arr h hw hcle hcz hcm hcv=>
   rename_i cs
   rw[h] at hρ;cases hρ
   have hlc:len≤g.cp k:=by
    have:len*i.size≤g.cp k*i.size:=by rw[← hlen,← hcz];exact hcle
    exact Nat.le_of_mul_le_mul_right this hsz
   rcases hrd with ⟨ad,cap,news,hxe,hvr,hcell⟩|⟨cap,hxe,hm,hl0⟩
   ·have hnl:news.length=m*i.size:=by rw[← hvr.length,hll]
    obtain ⟨v',w',hrun,hcase⟩:=sT (P:=P) (ty:=o.type) (c:=cap) ht hi hz hzs w hw hcz hlc hnl hcell (hvr.one h1) hmax hbig
    rw[hlen] at hcv
    rcases hcase with ⟨hroom,hv',hw'⟩|⟨cap',cs',hv',hw',e1,e2,e3,e4⟩
    ·subst hw'
     have hfit:len*i.size+news.length≤cs.size:=by rw[hnl,hcz,← Nat.add_mul];exact Nat.mul_le_mul_right _ hroom
     have htake:(cs.toList.take (len*i.size)++news++cs.toList.drop (len*i.size+news.length)).take (cells++l).length=cs.toList.take (len*i.size)++news:=by
      have:(cs.toList.take (len*i.size)++news).length=(cells++l).length:=by rw[hcl,List.length_append,hnl,Nat.add_mul];simp;omega
      rw[← this];exact List.take_left
     have hnew:iv g (w.setRow b (cs.toList.take (len*i.size)++news++cs.toList.drop (len*i.size+news.length)).toArray) k (.arr e i.size (cells++l)):=by
      refine .arr h (setRow_heap w b cs _ e _ hw) ?_ ?_ hcm ?_
      ·rw[hcl];simp;rw[hnl,Nat.add_mul];omega
      ·rw[← hcz];simp;omega
      ·simp only;rw[htake];exact hcv.append hvr
     have hR1:=hR.write hk rfl h hnew ⟨_,_,_,hw,by simp;omega,fun ⟨k',q⟩ _=>(by
      have:=hR.x.mH k' b k q (by rw[hk];rfl) h
      subst this
      obtain ⟨_,q'⟩:=hR.x.mI k b _ q hk;cases q')⟩ (fun ⟨_,q⟩=>by cases q)
     have hR2:=hR1.rename (nm:=nm) (k:=k) (e:=.arr e i.size (cells++l)) (by simp[Z.set]) (fun j e' hj=>hcs j e' (by
      by_cases q:j=k
      ·subst q;simp[Z.del] at hj
      ·simpa[Z.del,Z.set,q] using hj)) (mb nm _) hf (fun _ q=>by cases q)
     have hσ:((σ.set k (.arr e i.size (cells++l))).del k).set nm (.arr e i.size (cells++l))=(σ.del k).set nm (.arr e i.size (cells++l)):=by
      funext j;simp only[Z.set,Z.del];split<;>(try rfl);split<;>rfl
     rw[hσ] at hR2
     refine hstep _ _ (by rw[hq,hxe];exact hrun) ⟨g.alias nm k,hR2,hF.le (ju.alias g nm k) (fun j q=>by subst q;exact hc),?_⟩
     rw[hv']
     have hn1:(g.alias nm k).ρ nm=g.ρ k:=by simp[Gh.alias]
     have hn2:(g.alias nm k).cp nm=g.cp k:=by simp[Gh.alias]
     rw[← hn2];exact .arr _ (hn1.trans h)
    ·subst hw'
     exact hwr b cap' cs' _ v' hv' (hcv.append hvr) e1 e2 e3 e4 (by rw[hq,hxe];exact hrun)
   ·refine hnone hm hl0 ?_
    rw[hq,hxe,hm]
    exact kM ht hi _ _ _ cap hlc w
end
def AV.gg (π:Nat→Nat):AV→AV
 | .any=>.any
 | .oc=>.oc
 | .pv p=>.pv p
 | .ptr k off=>.ptr (π k) off
 | .arr k n=>.arr (π k) n
 | .sp cells=>.sp cells
 | .fn f xs ys=>.fn f (k7 π xs) (k7 π ys)
 | .agg cs=>.agg (k7 π cs)
 | .fX cs=>.fX (k7 π cs)
 | .lF t v=>.lF t (v.gg π)
where
 k7 (π:Nat→Nat):List AV→List AV
  | []=>[]
  | x::xs=>x.gg π::k7 π xs
def M.gg (π:Nat→Nat):M→M
 | .box cs=>.box (AV.gg.k7 π cs)
 | .arr el sz cs=>.arr el sz cs
 | .app el sz cs=>.app el sz cs
theorem M.w8 (π:Nat→Nat) (e:M):(e.gg π).isApp=e.isApp:=by cases e<;>rfl
def AV.only (p:Nat→Bool):AV→Bool
 | .any|.oc|.pv _|.sp _=>true
 | .ptr k _=>p k
 | .arr k _=>p k
 | .fn _ xs ys=>jJ p xs&&jJ p ys
 | .agg cs=>jJ p cs
 | .fX cs=>jJ p cs
 | .lF _ v=>v.only p
where
 jJ (p:Nat→Bool):List AV→Bool
  | []=>true
  | x::xs=>x.only p&&jJ p xs
def Gh.pull (g:Gh) (π:Nat→Nat):Gh:={ ρ:=fun j=>g.ρ (π j),cp:=fun j=>g.cp (π j),G:=g.G }
mutual
theorem VR.pull {g:Gh} {π:Nat→Nat}:∀ {x:AV} {c:Value},VR g (x.gg π) c→VR (g.pull π) x c
 | .any,_,_=>.any _
 | .oc,_,h=>by simp only[AV.gg] at h;cases h with|oc h=>exact .oc h
 | .pv _,_,h=>by simp only[AV.gg] at h;cases h with|pv h=>exact .pv (PR.congr (g:=g) (g':=g.pull π) (fun _ _ q=>q) h)
 | .ptr k off,_,h=>by simp only[AV.gg] at h;cases h with|ptr _ h=>exact .ptr off h
 | .arr k n,_,h=>by
  simp only[AV.gg] at h
  cases h with
  | arr _ h=>exact VR.arr (g:=g.pull π) (k:=k) n h
  | n5 h=>exact .n5 h
 | .sp _,_,h=>by simp only[AV.gg] at h;cases h with|sp off h hl hc=>exact .sp off h hl hc
 | .fn f xs ys,_,h=>by simp only[AV.gg] at h;cases h with|fn _ hx hy=>exact .fn f (ga.pull hx) (ga.pull hy)
 | .agg cs,_,h=>by simp only[AV.gg] at h;cases h with|agg h=>exact .agg (ga.pull h)
 | .fX cs,_,h=>by simp only[AV.gg] at h;cases h with|fX h=>exact .fX (ga.pull h)
 | .lF t v,_,h=>by simp only[AV.gg] at h;cases h with|lF _ h=>exact .lF t (VR.pull h)
theorem ga.pull {g:Gh} {π:Nat→Nat}:∀ {x:List AV} {c:List Value},ga g (AV.gg.k7 π x) c→ga (g.pull π) x c
 | [],_,h=>by simp only[AV.gg.k7] at h;cases h;exact .nil
 | x::xs,_,h=>by simp only[AV.gg.k7] at h;cases h with|cons h t=>exact .cons (VR.pull h) (ga.pull t)
end
mutual
theorem VR.push {J:Nat→Bool} {g g':Gh} {π:Nat→Nat} (hρ:∀ j,J j=true→g'.ρ (π j)=g.ρ j) (hcp:∀ j,J j=true→g'.cp (π j)=g.cp j) (hG:∀ b ys,g.G b=some ys→g'.G b=some ys) :
  ∀ {x:AV} {c:Value},x.only J=true→VR g x c→VR g' (x.gg π) c
 | .any,_,_,_=>by simp only[AV.gg];exact .any _
 | .oc,_,_,h=>by simp only[AV.gg];cases h with|oc h=>exact .oc h
 | .pv _,_,_,h=>by simp only[AV.gg];cases h with|pv h=>exact .pv (h.congr hG)
 | .ptr k off,_,ho,h=>by
  simp only[AV.gg];simp only[AV.only] at ho
  cases h with|ptr _ h=>exact .ptr off ((hρ k ho).trans h)
 | .arr k n,_,ho,h=>by
  simp only[AV.gg];simp only[AV.only] at ho
  cases h with
  | arr _ h=>rw[← hcp k ho];exact .arr n ((hρ k ho).trans h)
  | n5 h=>exact .n5 ((hρ k ho).trans h)
 | .sp _,_,_,h=>by simp only[AV.gg];cases h with|sp off h hl hc=>exact .sp off (hG _ _ h) hl hc
 | .fn f xs ys,_,ho,h=>by
  simp only[AV.gg];simp only[AV.only,Bool.and_eq_true] at ho
  cases h with|fn _ hx hy=>exact .fn f (ga.push hρ hcp hG ho.1 hx) (ga.push hρ hcp hG ho.2 hy)
 | .agg cs,_,ho,h=>by simp only[AV.gg];simp only[AV.only] at ho;cases h with|agg h=>exact .agg (ga.push hρ hcp hG ho h)
 | .fX cs,_,ho,h=>by simp only[AV.gg];simp only[AV.only] at ho;cases h with|fX h=>exact .fX (ga.push hρ hcp hG ho h)
 | .lF t v,_,ho,h=>by simp only[AV.gg];simp only[AV.only] at ho;cases h with|lF _ h=>exact .lF t (VR.push hρ hcp hG ho h)
theorem ga.push {J:Nat→Bool} {g g':Gh} {π:Nat→Nat} (hρ:∀ j,J j=true→g'.ρ (π j)=g.ρ j) (hcp:∀ j,J j=true→g'.cp (π j)=g.cp j) (hG:∀ b ys,g.G b=some ys→g'.G b=some ys) :
  ∀ {x:List AV} {c:List Value},AV.only.jJ J x=true→ga g x c→ga g' (AV.gg.k7 π x) c
 | [],_,_,h=>by simp only[AV.gg.k7];cases h;exact .nil
 | x::xs,_,ho,h=>by
  simp only[AV.gg.k7];simp only[AV.only.jJ,Bool.and_eq_true] at ho
  cases h with|cons h t=>exact .cons (VR.push hρ hcp hG ho.1 h) (ga.push hρ hcp hG ho.2 t)
end
theorem iv.pull {g:Gh} {w:World} {π:Nat→Nat} {j:Nat} {e:M} (h:iv g w (π j) (e.gg π)):iv (g.pull π) w j e:=by
 cases e with
 | box cells=>
  simp only[M.gg] at h
  cases h with|box h hw hc h1=>exact .box h hw (ga.pull hc) h1
 | arr el sz cells=>
  simp only[M.gg] at h
  cases h with
  | n5 h=>exact .n5 h
  | arr h hw hl hz hm hc=>exact .arr h hw hl hz hm (kL.congr (g:=g) (g':=g.pull π) (fun _ _ q=>q) hc)
 | app el sz cells=>
  simp only[M.gg] at h
  cases h with
  | uW h=>exact .uW h
  | app h hG hw hl hz hm hc=>exact .app h hG hw hl hz hm (kL.congr (g:=g) (g':=g.pull π) (fun _ _ q=>q) hc)
theorem iv.push {J:Nat→Bool} {g g':Gh} {w:World} {π:Nat→Nat} (hρ:∀ j,J j=true→g'.ρ (π j)=g.ρ j) (hcp:∀ j,J j=true→g'.cp (π j)=g.cp j)
  (hG:∀ b ys,g.G b=some ys→g'.G b=some ys) {j:Nat} {e:M} (hj:J j=true) (ho:AV.only.jJ J e.cells=true) (h:iv g w j e):iv g' w (π j) (e.gg π):=by
 cases h with
 | box h hw hc h1=>exact .box ((hρ j hj).trans h) hw (hc.push hρ hcp hG ho) h1
 | n5 h=>exact .n5 ((hρ j hj).trans h)
 | arr h hw hl hz hm hc=>exact .arr ((hρ j hj).trans h) hw hl (by rw[hcp j hj];exact hz) (by rw[hcp j hj];exact hm) (hc.congr hG)
 | uW h=>exact .uW ((hρ j hj).trans h)
 | app h hg hw hl hz hm hc=>exact .app ((hρ j hj).trans h) (hG _ _ hg) hw hl (by rw[hcp j hj];exact hz) (by rw[hcp j hj];exact hm) (hc.congr hG)
def after (σ:Z) (π:Nat→Nat) (L J:List Nat) (σc:Z):Z:=fun k=>
 match J.find? (fun j=>π j==k) with
 | some j=>(σc j).map (M.gg π)
 | none=>if L.any (fun j=>π j==k) then none else σ k
structure uA (E:Env) (fr:ew) (σ:Z) (π:Nat→Nat) (L J:List Nat) (σ0 σc:Z) (v:AV):Prop where
 DH:∀ j e,σc j=some e→J.contains j=true∧AV.only.jJ J.contains e.cells=true
 val:v.only J.contains=true
 inj:∀ j j',J.contains j=true→J.contains j'=true→π j=π j'→j=j'
 same:∀ j,J.contains j=true→(∃ cs,σ0 j=some (.box cs))∨(fr.clear (π j)∧(∀ k e,L.any (fun i=>π i==k)=false→σ k=some e→AV.ed.fg (π j) e.cells=false)∧E.fix (π j)=none)
section
variable {P:Program} {E:Env} {n:Nat} {Q:dS} {fr:ew} {σ:Z}
def Gh.join (g g':Gh) (π:Nat→Nat) (J:List Nat):Gh where
 ρ:=fun k=>match J.find? (fun j=>π j==k) with
  | some j=>g'.ρ j
  | none=>g.ρ k
 cp:=fun k=>match J.find? (fun j=>π j==k) with
  | some j=>g'.cp j
  | none=>g.cp k
 G:=g'.G
theorem B0 {π:Nat→Nat} {J:List Nat} (inj:∀ j j',J.contains j=true→J.contains j'=true→π j=π j'→j=j') {j:Nat} (hj:J.contains j=true) :
  J.find? (fun i=>π i==π j)=some j:=by
 cases h:J.find? (fun i=>π i==π j) with
 | none=>
  have:=List.find?_eq_none.1 h j (by simpa using hj)
  simp at this
 | some i=>
  have h1:=List.find?_some h
  have h2:=List.mem_of_find?_eq_some h
  rw[inj i j (by simpa using h2) hj (by simpa using h1)]
theorem tv {g g':Gh} {w w':World} {a:Act} {π:Nat→Nat} {L J:List Nat} {σ0 σc:Z} {v:AV} {c:Value} (hR:Rel E g σ w) (hF:FR n g fr a)
  (hL:∀ j,(σ0 j).isSome=true→L.contains j=true) (hσ:∀ j e,σ0 j=some e→σ (π j)=some (e.gg π))
  (hB:uA E fr σ π L J σ0 σc v) (hR':Rel (Env.of E.wS (g.pull π) σ0 w) g' σc w') (hv:VR g' v c) :
  Rel E (g.join g' π J) (after σ π L J σc) w'∧FR n (g.join g' π J) fr a∧VR (g.join g' π J) (v.gg π) c:=by
 have hfind:∀ j,J.contains j=true→J.find? (fun i=>π i==π j)=some j:=fun j hj=>B0 hB.inj hj
 have hρJ:∀ j,J.contains j=true→(g.join g' π J).ρ (π j)=g'.ρ j:=fun j hj=>by simp only[Gh.join,hfind j hj]
 have hcJ:∀ j,J.contains j=true→(g.join g' π J).cp (π j)=g'.cp j:=fun j hj=>by simp only[Gh.join,hfind j hj]
 have hbox:∀ j cs,σ0 j=some (.box cs)→g'.ρ j=g.ρ (π j)∧g'.cp j=g.cp (π j):=fun j cs hcs=>by
  have he:=hσ j _ hcs
  cases hR.iZ _ _ he with
  | box hb=>
   rename_i b _ _ _ _ _
   have hfx:(Env.of E.wS (g.pull π) σ0 w).fix j=some b:=by simp only[Env.of,hcs,Gh.pull];exact hb
   exact ⟨(hR'.fix j b hfx).trans hb.symm,hR'.ib j b hfx⟩
 have hle:ju (fun k=>∃ j,J.contains j=true∧π j=k∧¬ ∃ cs,σ0 j=some (.box cs)) g (g.join g' π J):=by
  refine ⟨fun k hk=>?_,fun k hk=>?_,fun b ys hb=>hR'.g0 b ys hb⟩
  all_goals
   cases hf:J.find? (fun j=>π j==k) with
   | none=>simp only[Gh.join,hf]
   | some j=>
    have h1:=List.find?_some hf
    have h2:=List.mem_of_find?_eq_some hf
    have hj:J.contains j=true:=by simpa using h2
    have hjk:π j=k:=by simpa using h1
    simp only[Gh.join,hf]
    have hb:∃ cs,σ0 j=some (.box cs):=Classical.byContradiction fun q=>hk ⟨j,hj,hjk,q⟩
    obtain ⟨cs,hcs⟩:=hb
    have:=hbox j cs hcs
    rw[hjk] at this
    first|exact this.1|exact this.2
 have hclear:∀ k,(∃ j,J.contains j=true∧π j=k∧¬ ∃ cs,σ0 j=some (.box cs))→fr.clear k∧(∀ i e,L.any (fun j=>π j==i)=false→σ i=some e→AV.ed.fg k e.cells=false)∧E.fix k=none:=by
  rintro k ⟨j,hj,rfl,hn⟩
  rcases hB.same j hj with q|q
  ·exact absurd q hn
  ·exact q
 have hown0:∀ b,(Env.of E.wS (g.pull π) σ0 w).own b↔∃ j,(σ0 j).isSome=true∧g.ρ (π j)=some b:=fun b=>Iff.rfl
 have hsome:∀ j,(σ0 j).isSome=true→(σ (π j)).isSome=true:=fun j hj=>by
  cases q:σ0 j with
  | none=>rw[q] at hj;cases hj
  | some e=>rw[hσ j e q];rfl
 have hrest:∀ k e,after σ π L J σc k=some e→(∃ j ec,J.contains j=true∧π j=k∧σc j=some ec∧e=ec.gg π)∨
   (σ k=some e∧L.any (fun j=>π j==k)=false∧∀ j,J.contains j=true→π j≠k):=by
  intro k e hk
  unfold after at hk
  cases hf:J.find? (fun j=>π j==k) with
  | some j=>
   rw[hf] at hk
   have h1:=List.find?_some hf
   have h2:=List.mem_of_find?_eq_some hf
   simp only at hk
   cases q:σc j with
   | none=>rw[q] at hk;cases hk
   | some ec=>rw[q] at hk;cases hk;exact .inl ⟨j,ec,by simpa using h2,by simpa using h1,q,rfl⟩
  | none=>
   rw[hf] at hk
   simp only at hk
   split at hk
   ·cases hk
   ·rename_i hn
    refine .inr ⟨hk,by simpa using hn,fun j hj q=>?_⟩
    have:=List.find?_eq_none.1 hf j (by simpa using hj)
    simp[q] at this
 have hnot:∀ k b,(σ k).isSome=true→L.any (fun j=>π j==k)=false→g.ρ k=some b→¬ (Env.of E.wS (g.pull π) σ0 w).own b:=by
  rintro k b hk hl hb ⟨j,hj,hjb⟩
  have:=hR.inj (π j) k b (hsome j hj) hk hjb hb
  have hlj:=hL j hj
  have:L.any (fun j=>π j==k)=true:=List.any_eq_true.2 ⟨j,by simpa using hlj,by simpa using this⟩
  rw[hl] at this;cases this
 have hρrest:∀ k,(∀ j,J.contains j=true→π j≠k)→(g.join g' π J).ρ k=g.ρ k:=fun k hk=>by
  cases hf:J.find? (fun j=>π j==k) with
  | none=>simp only[Gh.join,hf]
  | some j=>
   have h1:=List.find?_some hf
   have h2:=List.mem_of_find?_eq_some hf
   exact absurd (by simpa using h1) (hk j (by simpa using h2))
 have hJc:∀ j ec,σc j=some ec→J.contains j=true:=fun j ec h=>(hB.DH j ec h).1
 have hown:∀ b,(Env.of E.wS (g.pull π) σ0 w).own b→E.own b∨E.w0.heap.size≤b:=by
  rintro b ⟨j,hj,hjb⟩
  exact hR.own (π j) b (hsome j hj) hjb
 have hGk:∀ k e b,σ k=some e→L.any (fun j=>π j==k)=false→g.ρ k=some b→e.isApp=true→(g.join g' π J).G b=g.G b:=by
  intro k e b he hl hb hea
  have hks:(σ k).isSome=true:=by rw[he];rfl
  cases e with
  | box _=>cases hea
  | arr _ _ _=>cases hea
  | app el sz cells=>
   cases hR.iZ k _ he with
   | uW h=>rw[h] at hb;cases hb
   | app h hG=>
    rw[h] at hb;cases hb
    obtain ⟨zs,h1⟩:=hR'.g0 b cells hG
    rcases hR'.gn b _ h1 with q|q|q
    ·have q':g.G b=some (cells++zs):=q
     exact h1.trans q'.symm
    ·exact (hnot k b hks hl h q).elim
    ·exact absurd (hR.lt hks h) (Nat.not_lt.2 q)
 refine ⟨{ iZ:=?_,inj:=?_,gl:=?_,apart:=?_,size:=?_,nB:=?_,own:=?_,fix:=?_,ib:=?_,g0:=?_,gn:=?_,os:=?_,out:=?_,tape:=?_,x:=?_ },?_,?_⟩
 ·intro k e hk
  rcases hrest k e hk with ⟨j,ec,hj,rfl,hec,rfl⟩|⟨he,hl,hJ⟩
  ·exact (hR'.iZ j ec hec).push (fun i hi=>hρJ i hi) (fun i hi=>hcJ i hi) (fun _ _ q=>q) hj (hB.DH j ec hec).2
  ·have hks:(σ k).isSome=true:=by rw[he];rfl
   refine (hR.iZ k e he).le hle (fun q=>?_) (fun b hb hea=>hGk k e b he hl hb hea) (fun i hi=>(hclear i hi).2.1 k e hl he) (fun b hb=>?_)
   ·obtain ⟨j,hj,hjk,_⟩:=q;exact hJ j hj hjk
   ·exact hR'.nB b ((hR.iZ k e he).lt hb) (hnot k b hks hl hb)
 ·intro k k' b hk hk' hb hb'
  have key:∀ k,(after σ π L J σc k).isSome=true→(g.join g' π J).ρ k=some b→(∃ j,J.contains j=true∧π j=k∧(σc j).isSome=true∧g'.ρ j=some b)∨((σ k).isSome=true∧L.any (fun j=>π j==k)=false∧g.ρ k=some b):=by
   intro k hk hb
   cases q:after σ π L J σc k with
   | none=>rw[q] at hk;cases hk
   | some e=>
    rcases hrest k e q with ⟨j,ec,hj,rfl,hec,rfl⟩|⟨he,hl,hJ⟩
    ·exact .inl ⟨j,hj,rfl,by rw[hec];rfl,(hρJ j hj).symm.trans hb⟩
    ·exact .inr ⟨by rw[he];rfl,hl,(hρrest k hJ).symm.trans hb⟩
  have qY:∀ j k,(σc j).isSome=true→g'.ρ j=some b→(σ k).isSome=true→L.any (fun i=>π i==k)=false→g.ρ k=some b→False:=by
   intro j k hj hjb hk hl hkb
   rcases hR'.own j b hj hjb with q|q
   ·exact hnot k b hk hl hkb q
   ·exact absurd (hR.lt hk hkb) (Nat.not_lt.2 q)
  rcases key k hk hb with ⟨j,hj,rfl,hs,hr⟩|⟨hs,hl,hr⟩
  ·rcases key k' hk' hb' with ⟨j',hj',rfl,hs',hr'⟩|⟨hs',hl',hr'⟩
   ·rw[hR'.inj j j' b hs hs' hr hr']
   ·exact (qY j k' hs hr hs' hl' hr').elim
  ·rcases key k' hk' hb' with ⟨j',hj',rfl,hs',hr'⟩|⟨hs',hl',hr'⟩
   ·exact (qY j' k hs' hr' hs hl hr).elim
   ·exact hR.inj k k' b hs hs' hr hr'
 ·intro b ys hb
  obtain ⟨cs,el,fz,h1,h2,h3⟩:=hR'.gl b ys hb
  exact ⟨cs,el,fz,h1,h2,kL.congr (g:=g') (g':=g.join g' π J) (fun _ _ q=>q) h3⟩
 ·intro k b e q hea hb
  rcases hrest k e q with ⟨j,ec,hj,rfl,hec,rfl⟩|⟨he,hl,hJ⟩
  ·exact hR'.apart j b ec hec (by rw[← hea,M.w8]) ((hρJ j hj).symm.trans hb)
  ·have hkb:=(hρrest k hJ).symm.trans hb
   have hks:(σ k).isSome=true:=by rw[he];rfl
   cases hG:(g.join g' π J).G b with
   | none=>rfl
   | some ys=>
    rcases hR'.gn b ys hG with q|q|q
    ·have:=hR.apart k b e he hea hkb
     simp only[Env.of,Gh.pull] at q
     rw[this] at q;cases q
    ·exact (hnot k b hks hl hkb q).elim
    ·exact absurd (hR.lt hks hkb) (Nat.not_lt.2 q)
 ·exact Nat.le_trans hR.size hR'.size
 ·intro b hb ho
  have h1:¬ (Env.of E.wS (g.pull π) σ0 w).own b:=fun q=>by
   rcases hown b q with q|q
   ·exact ho q
   ·exact absurd hb (Nat.not_lt.2 q)
  rw[hR'.nB b (Nat.lt_of_lt_of_le hb hR.size) h1]
  exact hR.nB b hb ho
 ·intro k b hk hb
  cases q:after σ π L J σc k with
  | none=>rw[q] at hk;cases hk
  | some e=>
   rcases hrest k e q with ⟨j,ec,hj,rfl,hec,rfl⟩|⟨he,hl,hJ⟩
   ·rcases hR'.own j b (by rw[hec];rfl) ((hρJ j hj).symm.trans hb) with q|q
    ·exact hown b q
    ·exact .inr (Nat.le_trans hR.size q)
   ·exact hR.own k b (by rw[he];rfl) ((hρrest k hJ).symm.trans hb)
 ·intro k b hk
  rw[hle.ρ k (fun q=>by have:=(hclear k q).2.2;rw[this] at hk;cases hk)]
  exact hR.fix k b hk
 ·intro k b hk
  rw[hle.cp k (fun q=>by have:=(hclear k q).2.2;rw[this] at hk;cases hk)]
  exact hR.ib k b hk
 ·intro b ys hb
  obtain ⟨zs,h1⟩:=hR.g0 b ys hb
  obtain ⟨us,h2⟩:=hR'.g0 b _ h1
  exact ⟨zs++us,by rw[← List.append_assoc];exact h2⟩
 ·intro b ys hb
  rcases hR'.gn b ys hb with q|q|q
  ·exact hR.gn b ys q
  ·exact .inr (hown b q)
  ·exact .inr (.inr (Nat.le_trans hR.size q))
 ·exact hR'.os.trans hR.os
 ·exact hR'.out.trans hR.out
 ·exact hR'.tape.trans hR.tape
 ·exact {
      vN:=fun b cs el fz hb=>by
       obtain ⟨c1,h1,h2⟩:=hR.x.vN b cs el fz hb
       obtain ⟨c2,h3,h4⟩:=hR'.x.vN b c1 el fz h1
       exact ⟨c2,h3,h4.trans h2⟩
      flat:=fun k b cs el fz hk hb hfl=>by
       obtain ⟨c1,h1,h1f⟩:=hR.x.flat k b cs el fz hk hb hfl
       by_cases q:∃ j,(σ0 j).isSome=true∧g.ρ (π j)=some b
       ·obtain ⟨j,hj,hjb⟩:=q
        have hkj:=hR.x.mH k b (π j) hk (hsome j hj) hjb
        cases q0:σ0 j with
        | none=>rw[q0] at hj;cases hj
        | some e0=>
         have h2:=hσ j e0 q0
         rw[hkj] at h2
         obtain ⟨cs2,h3⟩:=hR.x.mI k b _ hk h2
         cases e0 with
         | box cs0=>
          have hfx:(Env.of E.wS (g.pull π) σ0 w).fix j=some b:=by simp only[Env.of,q0];exact hjb
          exact hR'.x.flat j b c1 el fz hfx h1 h1f
         | arr _ _ _=>cases h3
         | app _ _ _=>cases h3
       ·exact ⟨c1,by rw[hR'.nB b (pE h1) (fun ⟨j,hj,hjb⟩=>q ⟨j,hj,hjb⟩)];exact h1,h1f⟩
      set:=hR'.x.set,vO:=hR.x.vO
      hi:=fun k b hk hb=>by
       cases q:after σ π L J σc k with
       | none=>rw[q] at hk;cases hk
       | some e=>
        rcases hrest k e q with ⟨j,ec,hj,rfl,hec,rfl⟩|⟨he,hl,hJ⟩
        ·exact hR'.x.hi j b (by rw[hec];rfl) ((hρJ j hj).symm.trans hb)
        ·exact hR.x.hi k b (by rw[he];rfl) ((hρrest k hJ).symm.trans hb)
      gf:=hR.x.gf
      mG:=hR.x.mG
      nc:=fun k b hf=>by
       cases hG:(g.join g' π J).G b with
       | none=>rfl
       | some ys=>
        rcases hR'.gn b ys hG with q|q|q
        ·have:=hR.x.nc k b hf
         simp only[Env.of,Gh.pull] at q
         rw[this] at q;cases q
        ·obtain ⟨j,hj,hjb⟩:=q
         have hjb':g.ρ (π j)=some b:=hjb
         have hkj:=hR.x.mH k b (π j) hf (hsome j hj) hjb'
         cases q0:σ0 j with
         | none=>rw[q0] at hj;cases hj
         | some e0=>
          have h1:=hσ j e0 q0
          rw[hkj] at h1
          obtain ⟨cs,h2⟩:=hR.x.mI k b _ hf h1
          cases e0 with
          | box cs0=>
           have hfx:(Env.of E.wS (g.pull π) σ0 w).fix j=some b:=by simp only[Env.of,q0];exact hjb
           have:=hR'.x.nc j b hfx
           have hG':g'.G b=some ys:=hG
           rw[this] at hG';cases hG'
          | arr _ _ _=>cases h2
          | app _ _ _=>cases h2
        ·have:=hR.x.mG k b hf
         exact absurd (Nat.lt_of_lt_of_le this hR.size) (Nat.not_lt.2 q)
      mH:=fun k b k' hf hk hb=>by
       cases q:after σ π L J σc k' with
       | none=>rw[q] at hk;cases hk
       | some e=>
        rcases hrest k' e q with ⟨j,ec,hj,rfl,hec,rfl⟩|⟨he,hl,hJ⟩
        ·have hjb:=(hρJ j hj).symm.trans hb
         rcases hR'.own j b (by rw[hec];rfl) hjb with q1|q1
         ·obtain ⟨j0,hj0,hjb0⟩:=q1
          have hkj:=hR.x.mH k b (π j0) hf (hsome j0 hj0) hjb0
          cases q0:σ0 j0 with
          | none=>rw[q0] at hj0;cases hj0
          | some e0=>
           have h1:=hσ j0 e0 q0
           rw[hkj] at h1
           obtain ⟨cs,h2⟩:=hR.x.mI k b _ hf h1
           cases e0 with
           | box cs0=>
            have hfx:(Env.of E.wS (g.pull π) σ0 w).fix j0=some b:=by simp only[Env.of,q0];exact hjb0
            have:=hR'.x.mH j0 b j hfx (by rw[hec];rfl) hjb
            rw[this];exact hkj
           | arr _ _ _=>cases h2
           | app _ _ _=>cases h2
         ·have:=hR.x.mG k b hf
          exact absurd (Nat.lt_of_lt_of_le this hR.size) (Nat.not_lt.2 q1)
        ·exact hR.x.mH k b k' hf (by rw[he];rfl) ((hρrest k' hJ).symm.trans hb)
      mI:=fun k b e hf hk=>by
       rcases hrest k e hk with ⟨j,ec,hj,rfl,hec,rfl⟩|⟨he,hl,hJ⟩
       ·rcases hB.same j hj with ⟨cs,hcs⟩|⟨_,_,h3⟩
        ·have hfx:∃ b',(Env.of E.wS (g.pull π) σ0 w).fix j=some b':=by
          cases hR.iZ _ _ (hσ j _ hcs) with
          | box h1=>exact ⟨_,by simp only[Env.of,hcs];exact h1⟩
         obtain ⟨b',hfx⟩:=hfx
         obtain ⟨cs',h4⟩:=hR'.x.mI j b' ec hfx hec
         subst h4;exact ⟨_,rfl⟩
        ·rw[h3] at hf;cases hf
       ·exact hR.x.mI k b e hf he }
 ·exact hF.le hle fun k hk=>(hclear k hk).1
 ·exact hv.push (fun i hi=>hρJ i hi) (fun i hi=>hcJ i hi) (fun _ _ q=>q) hB.val
theorem Ax {g:Gh} {w:World} {π:Nat→Nat} {σ0:Z} (hR:Rel E g σ w) (hσ:∀ j e,σ0 j=some e→σ (π j)=some (e.gg π))
    (hinj:∀ j j',(σ0 j).isSome=true→(σ0 j').isSome=true→π j=π j'→j=j'):Rel (Env.of E.wS (g.pull π) σ0 w) (g.pull π) σ0 w:=by
  have hsome:∀ j,(σ0 j).isSome=true→(σ (π j)).isSome=true:=fun j hj=>by
    cases q:σ0 j with
    | none=>rw[q] at hj;cases hj
    | some e=>rw[hσ j e q];rfl
  exact {
          iZ:=fun k e hk=>(hR.iZ _ _ (hσ k e hk)).pull
          inj:=fun k k' b hk hk' hb hb'=>hinj k k' hk hk' (hR.inj _ _ b (hsome k hk) (hsome k' hk') hb hb')
          gl:=fun b ys hb=>by
            obtain ⟨cs,el,fz,h1,h2,h3⟩:=hR.gl b ys hb
            exact ⟨cs,el,fz,h1,h2,kL.congr (g:=g) (g':=g.pull π) (fun _ _ q=>q) h3⟩
          apart:=fun k b e hk hea hb=>hR.apart _ b (e.gg π) (hσ k e hk) (by rw[M.w8];exact hea) hb
          size:=Nat.le_refl _
          nB:=fun _ _ _=>rfl
          own:=fun k b hk hb=>.inl ⟨k,hk,hb⟩
          fix:=fun k b hk=>by
            simp only[Env.of] at hk
            split at hk
            · exact hk
            · cases hk
          ib:=fun _ _ _=>rfl
          g0:=fun _ _ h=>⟨[],by simpa[Env.of] using h⟩
          gn:=fun _ _ h=>.inl h
          os:=rfl,out:=rfl,tape:=rfl
          x:={
                 vN:=fun _ cs _ _ h=>⟨cs,h,rfl⟩
                 flat:=fun _ _ cs _ _ _ h hf=>⟨cs,h,hf⟩
                 set:=hR.x.set,vO:=Nat.le_trans hR.x.vO hR.size
                 hi:=fun k b hk hb=>hR.x.hi (π k) b (hsome k hk) hb
                 gf:=hR.x.gf
                 mG:=fun k b hk=>by
                   simp only[Env.of] at hk
                   split at hk
                   · rename_i cs hc
                     exact hR.lt (hsome k (by rw[hc];rfl)) hk
                   · cases hk
                 nc:=fun k b hk=>by
                   simp only[Env.of] at hk
                   split at hk
                   · rename_i cs hc
                     exact hR.apart (π k) b _ (hσ k _ hc) rfl hk
                   · cases hk
                 mH:=fun k b k' hk hk' hb=>by
                   simp only[Env.of] at hk
                   split at hk
                   · rename_i cs hc
                     exact hinj k' k hk' (by rw[hc];rfl) (hR.inj _ _ b (hsome k' hk') (hsome k (by rw[hc];rfl)) hb hk)
                   · cases hk
                 mI:=fun k b e hk he=>by
                   simp only[Env.of] at hk
                   split at hk
                   · rename_i cs hc;rw[hc] at he;cases he;exact ⟨cs,rfl⟩
                   · cases hk } }
def Enters (P:Program) (f:FuncId):Prop:=∀ (args:Array Value) (w:World),(callFunc f args).run P w=.ok (.enter f args) w
theorem ga.HA {g:Gh} {ev:Operand→Value} (h:∀ x,VR g (fr.val x) (ev x)) (xs:List Operand):ga g (xs.map fr.val) (xs.map ev):=ga.map fun x _=>h x
theorem u6 {o:Oper} {f:Operand} {args:List Operand} {ts:Array TypeId} {fid:FuncId} {first cap argsC:List AV} {σ0:Z} {R:n7→Z→Prop} {next:ew→Z→Prop}
  {fr':ew} (hwk:fr.le fr') (π:Nat→Nat) (L:List Nat) (hen:Enters P fid) (ho:o.op=.call ⟨.value f,args.toArray,ts⟩) (hf:fr.val f=.fn fid first cap)
  (hargs:first++args.map fr.val++cap=AV.gg.k7 π argsC) (hC:SC P fid argsC σ0 R) (hL:∀ j,(σ0 j).isSome=true→L.contains j=true)
  (hσ:∀ j e,σ0 j=some e→σ (π j)=some (e.gg π)) (hinj:∀ j j',(σ0 j).isSome=true→(σ0 j').isSome=true→π j=π j'→j=j')
  (hd:∀ d,o.dst=some d→d<n)
  (hret:∀ v σc,R (.ret v) σc→∃ J,uA E fr' σ π L J σ0 σc v∧next (fr'.hY o.dst (v.gg π)) (after σ π L J σc))
  (hpan:∀ v σc,R (.panic v) σc→∃ J,uA E fr' σ π L J σ0 σc v∧Q (.panic (v.gg π)) fr' (after σ π L J σc)):Step P E n Q o fr σ next:=by
 intro g a w K hR hF hK
 have qf:=hF.eval f;rw[hf] at qf
 have qa:=ga.HA (fr:=fr) (fun x=>hF.eval x) args
 generalize he:a.eval f=c at qf
 cases qf with
 | fn _ hx hy=>
  rename_i xs ys
  have hall:ga g (AV.gg.k7 π argsC) (xs++args.map a.eval++ys):=by rw[← hargs];exact (hx.append qa).append hy
  have hcall:=hC E.wS (g.pull π) w _ (Ax hR hσ hinj) hall.pull
  have hrun:(execOp a.eval o).run P w=.ok (.enter fid (xs++args.map a.eval++ys).toArray) w:=by
   simp only[execOp,ho,resolve,he,Deferred.ofValue,Sem.run_bind,Sem.run_pure,Result.andThen_ok,invoke,List.map_toArray,List.append_toArray,hen _ w]
  simp only[Oper.wp,hrun,Oper.upon]
  refine hcall.mono fun e w' hq=>?_
  obtain ⟨g',ae,σc,hr,hE,hR'⟩:=hq
  cases hE with
  | ret hv=>
   obtain ⟨J,hB,hn⟩:=hret _ _ hr
   obtain ⟨h1,h2,h3⟩:=tv hR (hF.ya hwk) hL hσ hB hR' hv
   exact hK _ _ _ _ _ hn h1 (h2.put hd h3)
  | panic hv=>
   obtain ⟨J,hB,hn⟩:=hpan _ _ hr
   obtain ⟨h1,h2,h3⟩:=tv hR (hF.ya hwk) hL hσ hB hR' hv
   exact ⟨_,_,fr',_,hn,.panic h3,h1,h2⟩
theorem wq {o:Oper} {f:Operand} {args:List Operand} {ts:Array TypeId} {fid:FuncId} {first cap argsC:List AV} {σ0:Z} {R:n7→Z→Prop} {next:ew→Z→Prop}
  (π:Nat→Nat) (L:List Nat) (hen:Enters P fid) (ho:o.op=.call ⟨.value f,args.toArray,ts⟩) (hf:fr.val f=.fn fid first cap)
  (hargs:first++args.map fr.val++cap=AV.gg.k7 π argsC) (hC:SC P fid argsC σ0 R) (hL:∀ j,(σ0 j).isSome=true→L.contains j=true)
  (hσ:∀ j e,σ0 j=some e→σ (π j)=some (e.gg π)) (hinj:∀ j j',(σ0 j).isSome=true→(σ0 j').isSome=true→π j=π j'→j=j')
  (hd:∀ d,o.dst=some d→d<n)
  (hret:∀ v σc,R (.ret v) σc→∃ J,uA E fr σ π L J σ0 σc v∧next (fr.hY o.dst (v.gg π)) (after σ π L J σc))
  (hpan:∀ v σc,R (.panic v) σc→∃ J,uA E fr σ π L J σ0 σc v∧Q (.panic (v.gg π)) fr (after σ π L J σc)):Step P E n Q o fr σ next:=
 u6 ⟨fun _=>.inl rfl,rfl⟩ π L hen ho hf hargs hC hL hσ hinj hd hret hpan
end
def kc:List (Nat×AV)→Nat→AV
 | [],_=>.any
 | (j,v)::l,i=>if i=j then v else kc l i
def jU:List (Nat×M)→Nat→Option M
 | [],_=>none
 | (j,v)::l,i=>if i=j then some v else jU l i
def Y (l:List (Nat×AV)) (ds:List (FuncId×List AV):=[]):ew:=⟨kc l,ds⟩
def U (l:List (Nat×M)):Z:=jU l
theorem yc (l:List (Nat×AV)) (ds:List (FuncId×List AV)) (d:Nat) (v:AV):(Y l ds).hY (some d) v=Y ((d,v)::l) ds:=rfl
def kF (k:Nat):List (Nat×AV)→Bool
 | []=>false
 | (_,v)::l=>v.ed k||kF k l
def ja (k:Nat):List (FuncId×List AV)→Bool
 | []=>false
 | (_,v)::l=>AV.ed.fg k v||ja k l
def M.mq (k:Nat):M→Bool
 | .app _ _ _=>false
 | .box cs=>AV.ed.fg k cs
 | .arr _ _ _=>false
theorem M.w9 {k:Nat}:∀ {e:M},e.mq k=false→AV.ed.fg k e.cells=false
 | .app _ _ c,_=>mb k c
 | .box _,h=>h
 | .arr _ _ c,_=>mb k c
def mX (k:Nat):List (Nat×M)→Bool
 | []=>false
 | (_,e)::l=>e.mq k||mX k l
theorem wu {k:Nat}:∀ {l:List (Nat×AV)},kF k l=false→∀ i,(kc l i).ed k=false
 | [],_,_=>rfl
 | (j,v)::l,h,i=>by
  simp only[kF,Bool.or_eq_false_iff] at h
  simp only[kc];split
  ·exact h.1
  ·exact wu h.2 i
theorem ss {k:Nat}:∀ {l:List (FuncId×List AV)},ja k l=false→∀ p∈l,AV.ed.fg k p.2=false
 | [],_,p,hp=>by cases hp
 | (f,v)::l,h,p,hp=>by
  simp only[ja,Bool.or_eq_false_iff] at h
  rcases List.mem_cons.1 hp with q|q
  ·subst q;exact h.1
  ·exact ss h.2 p q
theorem fR {k:Nat} {l:List (Nat×AV)} {ds:List (FuncId×List AV)} (h:kF k l=false) (hd:ja k ds=false):(Y l ds).clear k:=⟨fun i=>wu h i,ss hd⟩
theorem jb {k:Nat}:∀ {l:List (Nat×M)},mX k l=false→(U l).clear k
 | [],_,j,e,h=>by cases h
 | (i,v)::l,h,j,e,he=>by
  simp only[mX,Bool.or_eq_false_iff] at h
  simp only[U,jU] at he
  split at he
  ·cases he;exact M.w9 h.1
  ·exact jb h.2 j e he
theorem xa {fr:ew} {l:List (Nat×AV)} (h:∀ p∈l,fr.s p.1=kc l p.1):fr.le (Y l fr.ds):=by
 refine ⟨fun i=>?_,rfl⟩
 have key:∀ m:List (Nat×AV),(∃ p∈m,p.1=i)∨kc m i=.any:=by
  intro m
  induction m with
  | nil=>exact .inr rfl
  | cons a m ih=>
   obtain ⟨j,v⟩:=a
   by_cases q:i=j
   ·exact .inl ⟨(j,v),by simp,q.symm⟩
   ·rcases ih with ⟨p,hp,he⟩|he
    ·exact .inl ⟨p,by simp[hp],he⟩
    ·exact .inr (by simp[kc,q,he])
 rcases key l with ⟨p,hp,he⟩|he
 ·left;have:=h p hp;rw[he] at this;exact this.symm
 ·exact .inr he
theorem xb {σ:Z} {l:List (Nat×M)} (h:∀ p∈l,σ p.1=jU l p.1):∀ k e,U l k=some e→σ k=some e:=by
 intro k e hk
 have key:∀ m:List (Nat×M),jU m k=some e→∃ p∈m,p.1=k:=by
  intro m
  induction m with
  | nil=>intro h;cases h
  | cons a m ih=>
   obtain ⟨j,v⟩:=a
   intro h
   by_cases q:k=j
   ·exact ⟨(j,v),by simp,q.symm⟩
   ·simp only[jU,if_neg q] at h
    obtain ⟨p,hp,he⟩:=ih h
    exact ⟨p,by simp[hp],he⟩
 obtain ⟨p,hp,he⟩:=key l hk
 have:=h p hp
 rw[he] at this
 exact this.trans hk
def AV.le (x y:AV):Prop:=∀ (g:Gh) (c:Value),VR g x c→VR g y c
theorem AV.le_refl (x:AV):x.le x:=fun _ _ h=>h
theorem AV.le_nil:(Sc (.slice none 0 0)).le (.pv (.sl 0 [])):=fun g c h=>by rw[h.dz];exact .pv (.nil _ _)
inductive xU:List AV→List AV→Prop
 | nil:xU [] []
 | cons {x y:AV} {xs ys:List AV} (h:x.le y) (t:xU xs ys):xU (x::xs) (y::ys)
theorem xU.E4 {g:Gh}:∀ {xs ys:List AV},xU xs ys→∀ {vs:List Value},ga g xs vs→ga g ys vs
 | _,_,.nil,_,.nil=>.nil
 | _,_,.cons h t,_,.cons a b=>.cons (h g _ a) (t.E4 b)
theorem xU.refl:∀ l:List AV,xU l l
 | []=>.nil
 | x::l=>.cons (AV.le_refl x) (xU.refl l)
theorem AV.Fx {xs ys:List AV} (h:xU xs ys):(AV.agg xs).le (.agg ys):=fun g c q=>by cases q with|agg q=>exact .agg (h.E4 q)
inductive RV (P:Program) (fr:ew) (σ:Z):ResultVar→AV→Prop
 | tmp (t:Nat):RV P fr σ (.tmp t) (fr.s t)
 | agg {a k:Nat} {t:TypeId} {cs:List AV} (hk:fr.s a=.ptr k 0) (hs:σ k=some (.box cs)) (ht:vL P t=some cs.length) (ha:oJ P t=some true):RV P fr σ (.cell a t) (.agg cs)
 | one {a k:Nat} {t:TypeId} {c:AV} (hk:fr.s a=.ptr k 0) (hs:σ k=some (.box [c])) (ha:oJ P t=some false):RV P fr σ (.cell a t) c
inductive Bc (P:Program) (fr:ew) (σ:Z):List ResultVar→List AV→Prop
 | nil:Bc P fr σ [] []
 | cons {r:ResultVar} {v:AV} {rs:List ResultVar} {vs:List AV} (h:RV P fr σ r v) (t:Bc P fr σ rs vs):Bc P fr σ (r::rs) (v::vs)
def mJ:List AV→AV
 | [v]=>v
 | vs=>.fX vs
section
variable {P:Program} {E:Env} {n:Nat} {Q:dS} {fr:ew} {σ:Z}
def u7 (tmps:Array Value):ResultVar→Sem Value
 | .tmp t=>pure (tmps.getD t undef)
 | .cell a t=>do loadVar t (← asAddr (tmps.getD a undef))
theorem RV.run {g:Gh} {a:Act} {w:World} (hR:Rel E g σ w) (hF:FR n g fr a) {r:ResultVar} {v:AV} (h:RV P fr σ r v):∃ c,(u7 a.tmps r).run P w=.ok c w∧VR g v c:=by
 cases h with
 | tmp t=>exact ⟨_,rfl,hF.gX t⟩
 | agg hk hs ht ha=>
  rename_i x k t cs
  have q:=hF.gX x;rw[hk] at q
  generalize hq:a.tmps.getD x undef=c at q
  cases q with
  | ptr _ hb=>
   obtain ⟨cs',el,hw,hl,hc⟩:=(hR.iZ k _ hs).at hb
   simp only[M.cells] at hl hc
   refine ⟨.agg ((cs'.toList.drop 0).take cs.length).toArray,?_,.agg (by simpa using hc)⟩
   simp only[u7,hq,asAddr,Sem.run_bind,Sem.run_pure,Result.andThen_ok,qT ht ha hw (show 0+cs.length≤cs'.size by omega)]
 | one hk hs ha=>
  rename_i x k t
  have q:=hF.gX x;rw[hk] at q
  generalize hq:a.tmps.getD x undef=c at q
  cases q with
  | ptr _ hb=>
   obtain ⟨cs',el,hw,hl,hc⟩:=(hR.iZ k _ hs).at hb
   simp only[M.cells] at hl hc
   obtain ⟨c,h1,h2⟩:=hc.get 0 v rfl
   have h3:cs'.toList[0]?=some c:=by
    rw[List.getElem?_take] at h1
    split at h1
    ·exact h1
    ·cases h1
   exact ⟨c,by simp only[u7,hq,asAddr,Sem.run_bind,Sem.run_pure,Result.andThen_ok,l9 ha hw h3],h2⟩
theorem su (fn:Func) (tmps:Array Value):results fn tmps=(do
  let vs ← fn.results.mapM (u7 tmps)
  pure (if h:vs.size=1 then vs[0] else .tuple vs)):=by
 unfold results
 congr 1
theorem Bc.run {g:Gh} {a:Act} {w:World} (hR:Rel E g σ w) (hF:FR n g fr a):∀ {rs:List ResultVar} {vs:List AV},Bc P fr σ rs vs→
  ∃ cs,(rs.mapM (u7 a.tmps)).run P w=.ok cs w∧ga g vs cs
 | _,_,.nil=>⟨[],by simp,.nil⟩
 | _,_,.cons h t=>by
  obtain ⟨c,h1,h2⟩:=h.run hR hF
  obtain ⟨cs,h3,h4⟩:=Bc.run hR hF t
  exact ⟨c::cs,by simp[h1,h3],.cons h2 h4⟩
theorem ga.mJ {g:Gh} {vs:List AV} {cs:List Value} (h:ga g vs cs):VR g (mJ vs) (if hh:cs.toArray.size=1 then cs.toArray[0] else .tuple cs.toArray):=by
 cases h with
 | nil=>exact .fX .nil
 | cons h t=>
  cases t with
  | nil=>simpa[Abs.mJ] using h
  | cons h' t=>rw[dif_neg (by simp)];exact .fX (.cons h (.cons h' t))
def nf (P:Program) (fn:Func) (R:n7→Z→Prop):dS
 | .normal,fr,σ|.ret,fr,σ=>fr.ds=[]∧∃ vs v σ',Bc P fr σ fn.results.toList vs∧(mJ vs).le v∧(∀ k e,σ' k=some e→σ k=some e)∧R (.ret v) σ'
 | .panic v,fr,σ=>fr.ds=[]∧∃ σ',(∀ k e,σ' k=some e→σ k=some e)∧R (.panic v) σ'
 | _,_,_=>False
theorem DR.ng {g:Gh} {ds:List Deferred} (h:DR g [] ds):ds=[]:=by cases h;rfl
theorem B1 {f:FuncId} {fn:Func} {c:Code} {args:List AV} {R:n7→Z→Prop} (hf:P.funcs[f]?=some fn) (hb:fn.body=some c) (hn:args.length≤fn.ntmps)
  (h:∀ E:Env,(∀ k,(∀ cs,σ k≠some (.box cs))→E.fix k=none)→SW P E fn.ntmps c (nf P fn R) ⟨fun i=>args[i]?.getD .any,[]⟩ σ):SC P f args σ R:=by
 intro wS g w vs hR hv
 have hE:∀ k,(∀ cs,σ k≠some (.box cs))→(Env.of wS g σ w).fix k=none:=fun k hk=>by
  cases q:σ k with
  | none=>simp only[Env.of,q]
  | some e=>cases e with
   | box cs=>exact absurd q (hk cs)
   | arr el sz cs=>simp only[Env.of,q]
   | app el sz cs=>simp only[Env.of,q]
 have hlen:=hv.length
 refine calls_of_wp hf hb (wp_mono (h _ hE g { tmps:=vs.toArray++Array.replicate (fn.ntmps - vs.toArray.size) undef,defers:=[] } w hR ⟨by simp;omega,fun i=>?_,.nil⟩) fun e a w' hq=>?_)
 ·rw[Array.getD_eq_getD_getElem?]
  rcases Nat.lt_or_ge i args.length with q|q
  ·obtain ⟨c,h1,h2⟩:=hv.get i args[i] (by simp)
   have:(vs.toArray++Array.replicate (fn.ntmps - vs.toArray.size) undef)[i]?=some c:=by
    rw[Array.getElem?_append_left (by simp;omega)];simpa using h1
   rw[this]
   simp[q];exact h2
  ·have e:args[i]?=none:=List.getElem?_eq_none q
   simp only[e,Option.getD_none];exact .any _
 ·obtain ⟨g',ae,fr',σ',q,hx,hR',hF'⟩:=hq
  have fin:∀ vs v σ2,Bc P fr' σ' fn.results.toList vs→(mJ vs).le v→(∀ k e,σ2 k=some e→σ' k=some e)→R (.ret v) σ2→
    ∃ c,(results fn a.tmps).run P w'=.ok c w'∧∃ g' ae σ',R ae σ'∧ER g' ae (.returned c)∧Rel (Env.of wS g σ w) g' σ' w':=by
   intro vs v σ2 h1 h2 hs h3
   obtain ⟨cs,h4,h5⟩:=h1.run hR' hF'
   refine ⟨if hh:cs.toArray.size=1 then cs.toArray[0] else .tuple cs.toArray,?_,g',.ret v,σ2,h3,.ret (h2 g' _ h5.mJ),hR'.sub hs⟩
   rw[su,← Array.toArray_toList (xs:=fn.results)]
   simp only[List.mapM_toArray,Sem.run_bind,Sem.run_map,h4,Result.andThen_ok,Sem.run_pure]
  cases hx with
  | normal=>
   obtain ⟨hd,vs,v,σ2,h1,h2,hs,h3⟩:=q
   obtain ⟨c,h4,h5⟩:=fin vs v σ2 h1 h2 hs h3
   have:=hF'.ds;rw[hd] at this
   exact ⟨this.ng,c,h4,h5⟩
  | ret=>
   obtain ⟨hd,vs,v,σ2,h1,h2,hs,h3⟩:=q
   obtain ⟨c,h4,h5⟩:=fin vs v σ2 h1 h2 hs h3
   have:=hF'.ds;rw[hd] at this
   exact ⟨this.ng,c,h4,h5⟩
  | panic hv=>
   obtain ⟨hd,σ2,hs,h1⟩:=q
   have:=hF'.ds;rw[hd] at this
   exact ⟨this.ng,g',_,σ2,h1,.panic hv,hR'.sub hs⟩
  | exit id=>exact q.elim
  | goto l=>exact q.elim
end
def mc (ops:Array Oper):Nat→Nat→Nat→Bool
 | 0,_,_=>false
 | fuel+1,j,i=>match ops[j]? with
  | none=>false
  | some o=>o.after.toList.any (fun e=>Region.binds .any e&&e.on==i)||o.after.toList.any (fun e=>Region.binds .any e&&mc ops fuel e.on i)
def dN (o:Oper):Bool:=
 match o.op with
 | .call c=>match c.callee with
  | .builtin .len|.builtin .min|.builtin .max=>false
  | _=>true
 | .store ..|.assign _|.panic _=>true
 | _=>false
def looks (ops:Array Oper) (o:Oper):List Nat:=o.looksAt ops
def oK (ops:Array Oper) (i j:Nat):Bool:=
 match ops[i]?,ops[j]? with
 | some a,some b=>
  !mc ops ops.size i j&&(!dN a||dN b||mc ops ops.size j i)&&
  (match b.dst with|some d=>dN a||(!(looks ops a).contains d&&a.dst !=some d)|none=>true)&&
  (match a.dst with|some d=>!(looks ops b).contains d||mc ops ops.size j i|none=>true)
 | _,_=>false
def k8 (ops:Array Oper):List Nat→Bool
 | []=>true
 | i::l=>!l.contains i&&l.all (oK ops i)&&k8 ops l
def strict (ops:Array Oper):List Nat→Bool
 | []=>true
 | i::l=>l.all (fun j=>match ops[i]?,ops[j]? with
  | some a,some b=>!(dN a&&dN b)||mc ops ops.size j i
  | _,_=>true)&&strict ops l
theorem tw {ops:Array Oper} {i j:Nat} {l:List Nat} {a b:Oper} (h:strict ops (i::l)=true) (hj:j∈l) (ha:ops[i]?=some a) (hb:ops[j]?=some b) (h1:dN a=true) (h2:dN b=true):mc ops ops.size j i=true:=by
 simp only[strict,Bool.and_eq_true,List.all_eq_true] at h
 have:=h.1 j hj
 simp only[ha,hb,h1,h2,Bool.and_self,Bool.not_true,Bool.false_or] at this
 exact this
theorem iB {ops:Array Oper} {i:Nat} {l:List Nat} (h:strict ops (i::l)=true):strict ops l=true:=by
 simp only[strict,Bool.and_eq_true] at h;exact h.2
def sv (ops:Array Oper) (i:Nat):Bool:=
 match ops[i]? with
 | some o=>o.after.toList.all (fun e=>!Region.binds .any e||decide (e.on<i))&&(dN o||(match o.dst with|some d=>!(looks ops o).contains d|none=>true))
 | none=>false
def GH (ops:Array Oper) (L:List Nat):Bool:=
 L.all (sv ops)&&(List.range ops.size).all (fun i=>L.contains i)&&L.all (fun i=>decide (i<ops.size))&&k8 ops L&&strict ops L&&L.length==ops.size
structure Rec where
 i:Nat
 dst:Option Nat
 rd:List (Nat×M)
 nm:Option Nat
def gh (ops:Array Oper) (recs:List Rec) (j:Nat):List Rec:=recs.filter fun r=>!mc ops ops.size j r.i
def ey (fr:ew) (m:Nat→Bool):ew:=⟨fun i=>if m i then .any else fr.s i,fr.ds⟩
def eo (σ:Z) (m:Nat→Bool):Z:=fun k=>if m k then none else σ k
section
variable (P:Program) (E:Env) (n:Nat) (Q:dS) (N:Prop)
inductive ui (o:Oper) (fr:ew) (σ:Z) (next:ew→Z→Prop):List Nat→Prop
 | ev {v:AV} (h:fJ P o.op fr [] v) (hd:∀ d,o.dst=some d→d<n) (hn:next (fr.hY o.dst v) σ):ui o fr σ next []
 | store {t:TypeId} {x y:Operand} {k off:Nat} {e:M} {l:List AV} (ho:o.op=.store t x y) (hd:o.dst=none)
   (hx:fr.val x=.ptr k off) (hk:σ k=some e) (hea:e.isApp=false) (hy:(fr.val y).fh=some l) (h1:AV.iW l=true) (ht:vL P t=some l.length) (hl:off+l.length≤e.cells.length)
   (hpa:e.BZ=true→∃ ps:List PV,l=ps.map .pv) (hn:next fr (σ.set k (e.Aw off l))):ui o fr σ next [k]
 | append {t e:TypeId} {s x:Operand} {sz bytes k nm m len:Nat} {cells l:List PV}
   (ho:o.op=.call ⟨.builtin .append,#[s,x],#[t,t]⟩) (ht:P.underlying t=some (.slice e)) (hb:pI P e=some (sz,bytes))
   (hs:fr.val s=.arr k len) (hk:σ k=some (.app e sz cells)) (hlen:cells.length=len*sz) (hx:Dw sz (fr.val x) m l)
   (h1:PV.iW l=true) (hc:fr.clear nm) (hcs:(σ.del k).clear nm) (hf:E.fix nm=none)
   (hbig:(len+m)*bytes≤140737488355328) (hmax:len+m≤maxLen) (hd:∀ d,o.dst=some d→d<n)
   (hn:next (fr.hY o.dst (.arr nm (len+m))) ((σ.del k).set nm (.app e sz (cells++l)))):ui o fr σ next [k,nm]
 | Ay {t e:TypeId} {s x:Operand} {sz bytes k nm m len:Nat} {cells l:List PV}
   (ho:o.op=.call ⟨.builtin .append,#[s,x],#[t,t]⟩) (ht:P.underlying t=some (.slice e)) (hb:pI P e=some (sz,bytes))
   (hs:fr.val s=.arr k len) (hk:σ k=some (.arr e sz cells)) (hlen:cells.length=len*sz) (hx:Dw sz (fr.val x) m l)
   (h1:PV.iW l=true) (hc:fr.clear nm) (hcs:(σ.del k).clear nm) (hf:E.fix nm=none)
   (hbig:(len+m)*bytes≤140737488355328) (hmax:len+m≤maxLen) (hd:∀ d,o.dst=some d→d<n)
   (hn:next (fr.hY o.dst (.arr nm (len+m))) ((σ.del k).set nm (.arr e sz (cells++l)))):ui o fr σ next [k,nm]
 | call {f:Operand} {args:List Operand} {ts:Array TypeId} {fid:FuncId} {first cap argsC:List AV} {σ0:Z} {R:n7→Z→Prop}
   (π:Nat→Nat) (L:List Nat) (hen:Enters P fid) (ho:o.op=.call ⟨.value f,args.toArray,ts⟩) (hf:fr.val f=.fn fid first cap)
   (hargs:first++args.map fr.val++cap=AV.gg.k7 π argsC) (hC:SC P fid argsC σ0 R) (hL:∀ j,(σ0 j).isSome=true→L.contains j=true)
   (hσ:∀ j e,σ0 j=some e→σ (π j)=some (e.gg π)) (hL':∀ j,L.contains j=true→(σ0 j).isSome=true)
   (hinj:∀ j j',(σ0 j).isSome=true→(σ0 j').isSome=true→π j=π j'→j=j')
   (hd:∀ d,o.dst=some d→d<n)
   (hret:∀ v σc,R (.ret v) σc→uA E fr σ π L L σ0 σc v∧next (fr.hY o.dst (v.gg π)) (after σ π L L σc))
   (hpan:∀ v σc,R (.panic v) σc→uA E fr σ π L L σ0 σc v∧∀ fr' σ',fr'.ds=fr.ds→(∀ k e,σ' k=some e→after σ π L L σc k=some e)→(N→fr'=fr∧σ'=after σ π L L σc)→Q (.panic (v.gg π)) fr' σ'):ui o fr σ next (L.map π)
variable {P E n Q N}
theorem yd {fr:ew} {m:Nat→Bool} {x:Operand} (h:∀ t,x=.tmp t→m t=false):(ey fr m).val x=fr.val x:=by
 cases x with
 | tmp t=>simp[ew.val,ey,h t rfl]
 | const v=>rfl
 | global k=>rfl
 | func f=>rfl
theorem oZ {fr:ew} {m:Nat→Bool} {d:Option Nat} {v:AV} (h:∀ x,d=some x→m x=false):(ey fr m).hY d v=ey (fr.hY d v) m:=by
 cases d with
 | none=>rfl
 | some d=>
  simp only[ew.hY,ew.put,ey,ew.mk.injEq,and_true]
  funext i
  by_cases q:i=d
  ·subst q;simp[h i rfl]
  ·simp[q]
theorem sw {fr:ew} {m:Nat→Bool} {k:Nat} (h:fr.clear k):(ey fr m).clear k:=⟨fun i=>by
 simp only[ey];split
 ·rfl
 ·exact h.1 i,h.2⟩
theorem uj {σ:Z} {m:Nat→Bool} {k:Nat} (h:σ.clear k):(eo σ m).clear k:=fun j e he=>by
 simp only[eo] at he
 split at he
 ·cases he
 ·exact h j e he
theorem u9 {σ:Z} {m:Nat→Bool} {k:Nat} {e:M} (h:eo σ m k=some e):σ k=some e:=by
 simp only[eo] at h
 split at h
 ·cases h
 ·exact h
theorem o0 {σ:Z} {m:Nat→Bool} {k:Nat} (h:m k=false):eo σ m k=σ k:=by simp[eo,h]
theorem tx {σ:Z} {m:Nat→Bool} {k:Nat} {e:M} (h:m k=false):(eo σ m).set k e=eo (σ.set k e) m:=by
 funext j
 by_cases q:j=k
 ·subst q;simp[Z.set,eo,h]
 ·simp[Z.set,eo,q]
theorem rR {σ:Z} {m:Nat→Bool} {k:Nat}:(eo σ m).del k=eo (σ.del k) m:=by
 funext j
 by_cases q:j=k
 ·subst q;simp[Z.del,eo]
 ·simp[Z.del,eo,q]
theorem qZ {σ:Z} {m:Nat→Bool} {π:Nat→Nat} {L:List Nat} {σc:Z} (h:∀ j,L.contains j=true→m (π j)=false) :
  after (eo σ m) π L L σc=eo (after σ π L L σc) m:=by
 funext k
 simp only[after,eo]
 cases hf:L.find? (fun j=>π j==k) with
 | some j=>
  have h1:=List.find?_some hf
  have h2:=List.mem_of_find?_eq_some hf
  have:m k=false:=by
   have hk:π j=k:=by simpa using h1
   rw[← hk];exact h j (by simpa using h2)
  simp[this]
 | none=>
  simp only
  by_cases q:m k=true
  ·simp[q]
  ·simp[q]
theorem uA.mask {fr:ew} {σ:Z} {m mm:Nat→Bool} {π:Nat→Nat} {L J:List Nat} {σ0 σc:Z} {v:AV} (h:uA E fr σ π L J σ0 σc v) :
  uA E (ey fr m) (eo σ mm) π L J σ0 σc v where
 DH:=h.DH
 val:=h.val
 inj:=h.inj
 same:=fun j hj=>by
  rcases h.same j hj with q|⟨q1,q2,q3⟩
  ·exact .inl q
  ·exact .inr ⟨sw q1,fun k e hl he=>q2 k e hl (u9 he),q3⟩
structure HO (o:Oper) (ks:List Nat) (fr fr0:ew) (σ σ0:Z):Prop where
 s:∀ i,o.dst≠some i→fr0.s i=fr.s i
 ds:fr0.ds=fr.ds
 h:∀ k,k ∉ ks→σ0 k=σ k
theorem ra {o:Oper} {fr:ew} {v:AV} (i:Nat) (h:o.dst≠some i):(fr.hY o.dst v).s i=fr.s i:=by
 cases hd:o.dst with
 | none=>rfl
 | some d=>
  have:i≠d:=fun q=>h (by rw[hd,q])
  simp[ew.hY,ew.put,this]
theorem rb {fr:ew} {d:Option Nat} {v:AV}:(fr.hY d v).ds=fr.ds:=by cases d<;>rfl
theorem ui.run {o:Oper} {fr:ew} {σ:Z} {next:ew→Z→Prop} {ks:List Nat} (h:ui P E n Q N o fr σ next ks) {m mm:Nat→Bool} (hN:N→(∀ k,mm k=false)∧∀ i,m i=false)
  (hm:∀ t,.tmp t∈o.op.operands→m t=false) (hdm:∀ d,o.dst=some d→m d=false) (hmm:∀ k,k∈ks→mm k=false) :
  Step P E n Q o (ey fr m) (eo σ mm) (fun fr' σ'=>∃ fr0 σ0,next fr0 σ0∧HO o ks fr fr0 σ σ0∧fr'=ey fr0 m∧σ'=eo σ0 mm):=by
 have hval:∀ x,x∈o.op.operands→(ey fr m).val x=fr.val x:=fun x hx=>yd fun t ht=>hm t (ht▸hx)
 cases h with
 | @ev v h hd hn=>
  refine w6 (rd:=[]) (v:=v) (fun o' ho' g ev w hG hv hr=>h o' ho' g ev w hG (fun x hx=>by rw[← hval x hx];exact hv x hx) hr) (fun p hp=>by cases hp) hd ?_
  exact ⟨_,_,hn,⟨ra,rb,fun _ _=>rfl⟩,oZ hdm,rfl⟩
 | @store t x y k off e l ho hd hx hk hea hy h1 ht hl hpa hn=>
  have hkm:=hmm k (by simp)
  refine pH ho hd (by rw[hval x (by simp[ho,Op.operands])];exact hx) (by rw[o0 hkm];exact hk) hea (by rw[hval y (by simp[ho,Op.operands])];exact hy) h1 ht hl hpa ?_
  refine ⟨_,_,hn,⟨fun _ _=>rfl,rfl,fun j hj=>?_⟩,rfl,tx hkm⟩
  simp at hj;simp[Z.set,hj]
 | @append t e s x sz bytes k nm mm' len cells l ho ht hb hs hk hlen hx h1 hc hcs hf hbig hmax hd hn=>
  have hkm:=hmm k (by simp)
  have hnm:=hmm nm (by simp)
  refine sU (nm:=nm) ho ht hb (by rw[hval s (by simp[ho,Op.operands,Call.operands])];exact hs) (by rw[o0 hkm];exact hk) hlen (by rw[hval x (by simp[ho,Op.operands,Call.operands])];exact hx) h1 (sw hc)
   (by rw[rR];exact uj hcs) hf hbig hmax hd ?_
  refine ⟨_,_,hn,⟨ra,rb,fun j hj=>?_⟩,oZ hdm,by rw[rR,tx hnm]⟩
  simp at hj;simp[Z.set,Z.del,hj]
 | @Ay t e s x sz bytes k nm mm' len cells l ho ht hb hs hk hlen hx h1 hc hcs hf hbig hmax hd hn=>
  have hkm:=hmm k (by simp)
  have hnm:=hmm nm (by simp)
  refine sV (nm:=nm) ho ht hb (by rw[hval s (by simp[ho,Op.operands,Call.operands])];exact hs) (by rw[o0 hkm];exact hk) hlen (by rw[hval x (by simp[ho,Op.operands,Call.operands])];exact hx) h1 (sw hc)
   (by rw[rR];exact uj hcs) hf hbig hmax hd ?_
  refine ⟨_,_,hn,⟨ra,rb,fun j hj=>?_⟩,oZ hdm,by rw[rR,tx hnm]⟩
  simp at hj;simp[Z.set,Z.del,hj]
 | @call f args ts fid first cap argsC σ0 R π L hen ho hf hargs hC hL hσ hL' hinj hd hret hpan=>
  have hLm:∀ j,L.contains j=true→mm (π j)=false:=fun j hj=>hmm _ (List.mem_map.2 ⟨j,by simpa using hj,rfl⟩)
  have hav:args.map (ey fr m).val=args.map fr.val:=List.map_congr_left fun x hx=>hval x (by simp[ho,Op.operands,Call.operands,hx])
  refine wq π L hen ho (by rw[hval f (by simp[ho,Op.operands,Call.operands])];exact hf) (by rw[hav];exact hargs) hC hL
   (fun j e hj=>by rw[o0 (hLm j (hL j (by rw[hj];rfl)))];exact hσ j e hj) hinj hd (fun v σc hr=>?_) (fun v σc hr=>?_)
  ·obtain ⟨hB,hn⟩:=hret v σc hr
   refine ⟨L,hB.mask,_,_,hn,⟨ra,rb,fun k hk=>?_⟩,oZ hdm,qZ hLm⟩
   have hno:∀ j,j∈L→π j≠k:=fun j hj q=>hk (List.mem_map.2 ⟨j,hj,q⟩)
   have h1:L.find? (fun j=>π j==k)=none:=List.find?_eq_none.2 fun j hj=>by simpa using hno j hj
   have h2:L.any (fun j=>π j==k)=false:=by
    rw[List.any_eq_false];intro j hj;simpa using hno j hj
   simp[after,h1,h2]
  ·obtain ⟨hB,hn⟩:=hpan v σc hr
   refine ⟨L,hB.mask,hn _ _ rfl (fun k e hk=>?_) (fun q=>?_)⟩
   ·rw[qZ hLm] at hk
    exact u9 hk
   ·refine ⟨?_,by rw[qZ hLm];funext k;exact o0 ((hN q).1 k)⟩
    have:(fun i=>if m i then AV.any else fr.s i)=fr.s:=by funext i;simp[(hN q).2 i]
    simp only[ey,this]
end
def gC (ops:Array Oper) (o:Oper) (fr:ew):Prop:=o.guard=none∨∃ j want d,o.guard=some (j,want)∧(ops[j]?).bind (·.dst)=some d∧fr.s d=Bo want
def re (ops:Array Oper) (o:Oper) (fr:ew):Prop:=∃ (j:Nat) (want:Bool) (d:Nat) (v:Value),o.guard=some (j,want)∧(ops[j]?).bind (·.dst)=some d∧fr.s d=Sc v∧v≠.bool want
section
variable (P:Program) (E:Env) (n:Nat) (ops:Array Oper) (Q:dS)
inductive DStep (next:List Rec→ew→Z→Prop) (recs:List Rec) (i:Nat) (o:Oper) (fr:ew) (σ:Z):Prop
 | skip (hu:re ops o fr) (hd:∀ d,o.dst=some d→d<n) (hn:next (if dN o then recs else ⟨i,o.dst,[],none⟩::recs) (fr.hY o.dst (Sc undef)) σ)
 | ev (hw:gC ops o fr) (hh:dN o=false) {rd:List (Nat×M)} {v:AV} (h:fJ P o.op fr rd v) (hr:∀ p,p∈rd→Fk σ p) (hd:∀ d,o.dst=some d→d<n)
   (hc:∀ r,r∈gh ops recs i→∀ nm,r.nm=some nm→v.ed nm=false∧∀ p,p∈rd→p.1≠nm) (hn:next (⟨i,o.dst,rd,none⟩::recs) (fr.hY o.dst v) σ)
 | nw (hw:gC ops o fr) (hh:dN o=false) {nm:Nat} {e:M} {v:AV} (h:zP P o.op fr nm e v) (hcf:fr.clear nm) (hcs:σ.clear nm) (hs:σ nm=none) (hf:E.fix nm=none)
   (hd:∀ d,o.dst=some d→d<n) (hc:∀ r,r∈gh ops recs i→∀ k,r.nm=some k→v.ed k=false∧AV.ed.fg k e.cells=false) (hrn:∀ r,r∈recs→r.nm≠some nm)
   (hrd:∀ r,r∈recs→∀ p,p∈r.rd→p.1≠nm) (hnv:AV.ed.fg nm e.cells=false)
   (hn:next (⟨i,o.dst,[],some nm⟩::recs) (fr.hY o.dst v) (σ.set nm e))
 | fz (hw:gC ops o fr) (hh:dN o=false) {v:AV} (h:BX P o.op fr v) (hd:∀ d,o.dst=some d→d<n)
   (hc:∀ r,r∈gh ops recs i→∀ nm,r.nm=some nm→v.ed nm=false) (hn:next (⟨i,o.dst,[],none⟩::recs) (fr.hY o.dst v) σ)
 | dN (hw:gC ops o fr) (hh:dN o=true) {ks:List Nat} (h:ui P E n Q (gh ops recs i=[]) o fr σ (fun fr' σ'=>(∀ r,r∈gh ops recs i→(∀ p,p∈r.rd→Fk σ' p)∧
    ∀ nm,r.nm=some nm→(∀ d,o.dst=some d→(fr'.s d).ed nm=false)∧∀ k,k∈ks→∀ e,σ' k=some e→AV.ed.fg nm e.cells=false)∧next recs fr' σ') ks)
   (hk:∀ r,r∈gh ops recs i→∀ k,k∈ks→r.nm≠some k)
def lC (B:List Rec→ew→Z→Prop):List Nat→List Rec→ew→Z→Prop
 | [],recs,fr,σ=>B recs fr σ
 | i::L,recs,fr,σ=>∃ o,ops[i]?=some o∧DStep P E n ops Q (lC B L) recs i o fr σ
abbrev DW:List Nat→List Rec→ew→Z→Prop:=lC P E n ops Q fun _ fr σ=>Q .normal fr σ
inductive B2 (fr:ew) (σ:Z) (r:Rec) (o:Oper):Prop
 | skip (hu:re ops o fr) (hv:∀ d,o.dst=some d→fr.s d=Sc undef) (hrd:r.rd=[]) (hnm:r.nm=none)
 | ev (hw:gC ops o fr) {v:AV} (h:fJ P o.op fr r.rd v) (hv:∀ d,o.dst=some d→fr.s d=v) (hnm:r.nm=none)
 | nw (hw:gC ops o fr) {nm:Nat} {e:M} {v:AV} (h:zP P o.op fr nm e v) (hv:∀ d,o.dst=some d→fr.s d=v) (hrd:r.rd=[]) (hnm:r.nm=some nm) (hs:σ nm=some e) (hf:E.fix nm=none)
   (hne:AV.ed.fg nm e.cells=false)
 | fz (hw:gC ops o fr) {v:AV} (h:BX P o.op fr v) (hv:∀ d,o.dst=some d→fr.s d=v) (hrd:r.rd=[]) (hnm:r.nm=none)
variable {P E n ops Q}
def o3 (listed:Array Bool) (i:Nat):Bool:=listed.getD i false
def kO (listed:Array Bool) (recs:List Rec):List Rec:=recs.filter fun r=>!o3 listed r.i
def mF (listed:Array Bool) (recs:List Rec):Nat→Bool:=fun i=>(kO listed recs).any fun r=>r.dst==some i
def mS (listed:Array Bool) (recs:List Rec):Nat→Bool:=fun k=>(kO listed recs).any fun r=>r.nm==some k
theorem dA {listed:Array Bool} {recs:List Rec} {r:Rec}:r∈kO listed recs↔r∈recs∧o3 listed r.i=false:=by simp[kO]
theorem jx {listed:Array Bool} {recs:List Rec} {i:Nat}:mF listed recs i=true↔∃ r,r∈kO listed recs∧r.dst=some i:=by simp[mF]
theorem gQ {listed:Array Bool} {recs:List Rec} {i:Nat}:mS listed recs i=true↔∃ r,r∈kO listed recs∧r.nm=some i:=by simp[mS]
variable (P E n ops) in
structure Inv (listed:Array Bool) (L:List Nat) (recs:List Rec) (fr:ew) (σ:Z):Prop where
 size:listed.size=ops.size
 todo:∀ i,i∈L→i<ops.size∧o3 listed i=false
 done:∀ i o,ops[i]?=some o→i ∉ L→(dN o=true→o3 listed i=true)∧(dN o=false→∃ r,r∈recs∧r.i=i)
 gR:∀ r,r∈recs→r.i ∉ L∧∃ o,ops[r.i]?=some o∧dN o=false∧r.dst=o.dst∧∀ d,o.dst=some d→d<n∧d ∉ o.looksAt ops
 vd:∀ i,i∈L→sv ops i=true
 apart:∀ r r',r∈recs→r'∈recs→r.i=r'.i→r=r'
 names:∀ r r' k,r∈recs→r'∈recs→r.nm=some k→r'.nm=some k→r=r'
 wv:∀ r r',r∈recs→r'∈recs→r.i≠r'.i→oK ops r.i r'.i=true∨oK ops r'.i r.i=true
 uk:∀ i j,i<ops.size→i ∉ L→j∈L→oK ops i j=true
 tz:k8 ops L=true
 down:∀ i o,ops[i]?=some o→o3 listed i=true→∀ e,e∈o.after.toList→Region.binds .any e=true→o3 listed e.on=true
 wx:∀ r,r∈kO listed recs→∃ o,ops[r.i]?=some o∧B2 P E ops fr σ r o
 reads:∀ r,r∈kO listed recs→∀ p,p∈r.rd→Fk σ p
 gX:∀ r,r∈kO listed recs→∀ nm,r.nm=some nm→∀ i,mF listed recs i=false→(fr.s i).ed nm=false
 ds:∀ r,r∈kO listed recs→∀ nm,r.nm=some nm→∀ p,p∈fr.ds→AV.ed.fg nm p.2=false
 Bd:∀ r,r∈kO listed recs→∀ nm,r.nm=some nm→∀ k e,mS listed recs k=false→σ k=some e→AV.ed.fg nm e.cells=false
 qY:∀ r r',r∈kO listed recs→r'∈kO listed recs→∀ nm,r.nm=some nm→mc ops ops.size r'.i r.i=false→r.i≠r'.i→
  (∀ d,r'.dst=some d→(fr.s d).ed nm=false)∧(∀ k e,r'.nm=some k→σ k=some e→AV.ed.fg nm e.cells=false)∧∀ p,p∈r'.rd→p.1≠nm
theorem nI {listed:Array Bool} (down:∀ i o,ops[i]?=some o→o3 listed i=true→∀ e,e∈o.after.toList→Region.binds .any e=true→o3 listed e.on=true) :
  ∀ (fuel j i:Nat) (o:Oper),ops[j]?=some o→(∀ e,e∈o.after.toList→Region.binds .any e=true→o3 listed e.on=true)→mc ops fuel j i=true→o3 listed i=true
 | 0,_,_,_,_,_,h=>by simp[mc] at h
 | fuel+1,j,i,o,ho,hr,h=>by
  simp only[mc,ho,Bool.or_eq_true,List.any_eq_true,Bool.and_eq_true] at h
  rcases h with ⟨e,he,hb,hi⟩|⟨e,he,hb,hi⟩
  ·have:=hr e he hb
   rw[beq_iff_eq.1 hi] at this;exact this
  ·have hran:=hr e he hb
   cases hoe:ops[e.on]? with
   | none=>cases fuel<;>simp[mc,hoe] at hi
   | some oe=>exact nI down fuel e.on i oe hoe (down e.on oe hoe hran) hi
theorem sx {listed:Array Bool} {i:Nat} (hs:listed.size=ops.size) (h:i∈Region.ready .any ops listed) :
  i<ops.size∧o3 listed i=false∧∃ o,ops[i]?=some o∧∀ e,e∈o.after.toList→Region.binds .any e=true→o3 listed e.on=true:=by
 simp only[Region.ready,List.mem_filter,List.mem_range,Bool.and_eq_true,Bool.not_eq_true'] at h
 obtain ⟨hlt,h1,h2⟩:=h
 refine ⟨hlt,?_,?_⟩
 ·have:listed.getD i true=listed.getD i false:=by simp[Array.getD,hs,hlt]
  unfold o3;rw[← this];exact h1
 ·rw[Array.getElem?_eq_getElem hlt] at h2 ⊢
  simp only[Option.map_some,Option.getD_some] at h2
  refine ⟨_,rfl,fun e he hb=>?_⟩
  rw[Array.all_eq_true_iff_forall_mem] at h2
  have:=h2 e (by simpa using he)
  simpa[hb,o3] using this
theorem og {fr:ew} {o:Oper} {m:Nat→Bool} (h:gC ops o fr) (hm:∀ d,d∈o.looksAt ops→m d=false):gC ops o (ey fr m):=by
 rcases h with q|⟨j,want,d,hg,hj,hb⟩
 ·exact .inl q
 ·refine .inr ⟨j,want,d,hg,hj,?_⟩
  have:m d=false:=hm d (by simp[Oper.looksAt,hg,hj])
  simp[ey,this,hb]
theorem sf {fr:ew} {o:Oper} {m:Nat→Bool} (h:re ops o fr) (hm:∀ d,d∈o.looksAt ops→m d=false):re ops o (ey fr m):=by
 obtain ⟨j,want,d,b,hg,hj,hb,hn⟩:=h
 refine ⟨j,want,d,b,hg,hj,?_,hn⟩
 have:m d=false:=hm d (by simp[Oper.looksAt,hg,hj])
 simp[ey,this,hb]
theorem rf {o:Oper} {t:Nat} (h:.tmp t∈o.op.operands):t∈o.looksAt ops:=by
 simp only[Oper.looksAt,List.mem_append,List.mem_filterMap]
 exact .inl ⟨.tmp t,by simpa using h,rfl⟩
theorem oh {Q':Exit→Act→World→Prop} {i:Nat} {o:Oper} {fr:ew} {g:Gh} {a:Act} {w:World} {K:Act→World→Prop} (ho:ops[i]?=some o) (hw:gC ops o fr) (hF:FR n g fr a)
  (h:o.wp P a w K Q'):wpOp P ops Q' i K a w:=by
 unfold wpOp
 rw[ho]
 simp only
 rcases hw with q|⟨j,want,d,hg,hj,hb⟩
 ·rw[if_pos (by simp[Region.wanted,q])];exact .inl h
 ·rw[if_pos (by simp[Region.wanted,hg,hF.yield hj hb])];exact .inl h
theorem sg {Q':Exit→Act→World→Prop} {i:Nat} {o:Oper} {fr:ew} {g:Gh} {a:Act} {w:World} {K:Act→World→Prop} (ho:ops[i]?=some o) (hw:re ops o fr) (hF:FR n g fr a)
  (h:K (a.put o.dst undef) w):wpOp P ops Q' i K a w:=by
 unfold wpOp
 rw[ho]
 simp only
 obtain ⟨j,want,d,b,hg,hj,hb,hn⟩:=hw
 rw[if_neg (by simp[Region.wanted,hg,hF.Au hj hb hn])];exact h
theorem kP {i j:Nat} {a b:Oper} (ha:ops[i]?=some a) (hb:ops[j]?=some b) (h:oK ops i j=true) :
  (dN a=false→∀ d,b.dst=some d→d ∉ a.looksAt ops∧a.dst≠some d)∧(∀ d,a.dst=some d→d∈b.looksAt ops→mc ops ops.size j i=true)∧
  (dN a=true→dN b=true∨mc ops ops.size j i=true):=by
 simp only[oK,ha,hb,Bool.and_eq_true,looks] at h
 obtain ⟨⟨⟨_,h1⟩,h2⟩,h3⟩:=h
 refine ⟨fun hh d hd=>?_,fun d hd hl=>?_,fun hh=>by simpa[hh] using h1⟩
 ·rw[hd] at h2;simpa[hh] using h2
 ·rw[hd] at h3
  simp only[Bool.or_eq_true,Bool.not_eq_true'] at h3
  rcases h3 with q|q
  ·simp at q;exact absurd hl q
  ·exact q
end
section
variable {P:Program} {E:Env} {n:Nat} {ops:Array Oper} {Q:dS} {listed:Array Bool} {L:List Nat} {recs:List Rec} {fr:ew} {σ:Z}
theorem nh {i k:Nat} (hi:i<listed.size):o3 (listed.setIfInBounds i true) k=(decide (k=i)||o3 listed k):=by
 simp only[o3,Array.getD_eq_getD_getElem?]
 by_cases h:k=i
 ·subst h;simp[hi]
 ·rw[Array.getElem?_setIfInBounds_ne (fun q=>h q.symm)];simp[h]
theorem ye (hI:Inv P E n ops listed L recs fr σ) {i:Nat} {o:Oper} (ho:ops[i]?=some o) (hr:∀ e,e∈o.after.toList→Region.binds .any e=true→o3 listed e.on=true)
  (hi:(∃ r,r∈recs∧r.i=i)∨i∈L):∀ d,d∈o.looksAt ops→mF listed recs d=false:=by
 intro d hd
 cases hm:mF listed recs d with
 | false=>rfl
 | true=>
  exfalso
  obtain ⟨r,hrp,hrd⟩:=jx.1 hm
  obtain ⟨hrr,hran⟩:=dA.1 hrp
  obtain ⟨hnL,or,hor,hheavy,hdst,hself⟩:=hI.gR r hrr
  rw[hdst] at hrd
  have hno:mc ops ops.size i r.i=true→False:=fun q=>by
   have:=nI hI.down _ _ _ o ho hr q
   rw[this] at hran;cases hran
  have hlt:r.i<ops.size:=by
   rcases Nat.lt_or_ge r.i ops.size with q|q
   ·exact q
   ·rw[Array.getElem?_eq_none q] at hor;cases hor
  rcases hi with ⟨ri,hri,rfl⟩|hi
  ·by_cases q:r.i=ri.i
   ·have:=hI.apart r ri hrr hri q;subst this
    rw[hor] at ho;cases ho
    exact (hself d hrd).2 hd
   ·rcases hI.wv r ri hrr hri q with h|h
    ·exact hno ((kP hor ho h).2.1 d hrd hd)
    ·obtain ⟨_,ori,hori,hh,_⟩:=hI.gR ri hri
     rw[ho] at hori;cases hori
     exact ((kP ho hor h).1 hh d hrd).1 hd
  ·exact hno ((kP hor ho (hI.uk r.i i hlt hnL hi)).2.1 d hrd hd)
theorem gY {i:Nat} (hi:i<listed.size) {r:Rec}:r∈kO (listed.setIfInBounds i true) recs↔r∈kO listed recs∧r.i≠i:=by
 rw[dA,dA,nh hi]
 constructor
 ·rintro ⟨h1,h2⟩
  simp at h2
  exact ⟨⟨h1,h2.2⟩,h2.1⟩
 ·rintro ⟨⟨h1,h2⟩,h3⟩
  exact ⟨h1,by simp[h2,h3]⟩
theorem xc {i k:Nat} (hi:i<listed.size) (h:mF listed recs k=false):mF (listed.setIfInBounds i true) recs k=false:=by
 cases q:mF (listed.setIfInBounds i true) recs k with
 | false=>rfl
 | true=>
  obtain ⟨r,hr,hd⟩:=jx.1 q
  have:=jx.2 ⟨r,((gY hi).1 hr).1,hd⟩
  rw[h] at this;cases this
theorem pJ {i k:Nat} (hi:i<listed.size) (h:mS listed recs k=false):mS (listed.setIfInBounds i true) recs k=false:=by
 cases q:mS (listed.setIfInBounds i true) recs k with
 | false=>rfl
 | true=>
  obtain ⟨r,hr,hd⟩:=gQ.1 q
  have:=gQ.2 ⟨r,((gY hi).1 hr).1,hd⟩
  rw[h] at this;cases this
theorem Inv.goes {i:Nat} {o:Oper} (hI:Inv P E n ops listed L recs fr σ) (ho:ops[i]?=some o) (hr:∀ e,e∈o.after.toList→Region.binds .any e=true→o3 listed e.on=true)
  {r:Rec} (hrp:r∈kO listed recs) (hri:r.i=i):Inv P E n ops (listed.setIfInBounds i true) L recs fr σ:=by
 have hrr:=(dA.1 hrp).1
 have hlt:i<listed.size:=by
  rw[hI.size]
  rcases Nat.lt_or_ge i ops.size with q|q
  ·exact q
  ·rw[Array.getElem?_eq_none q] at ho;cases ho
 have hno:∀ r1,r1∈kO listed recs→mc ops ops.size i r1.i=false:=fun r1 h1=>by
  cases q:mc ops ops.size i r1.i with
  | false=>rfl
  | true=>
   have:=nI hI.down _ _ _ o ho hr q
   rw[(dA.1 h1).2] at this;cases this
 have hiL:i ∉ L:=hri▸(hI.gR r hrr).1
 refine Inv.mk (by simpa using hI.size) (fun k hk=>?_) (fun k ok hok hk=>?_) hI.gR hI.vd hI.apart hI.names hI.wv hI.uk hI.tz
  (fun k ok hok hk e he hb=>?_) (fun r1 h1=>hI.wx r1 ((gY hlt).1 h1).1) (fun r1 h1=>hI.reads r1 ((gY hlt).1 h1).1) (fun r1 h1 nm hnm k hk=>?_)
  (fun r1 h1=>hI.ds r1 ((gY hlt).1 h1).1) (fun r1 h1 nm hnm k e hk he=>?_) (fun r1 r2 h1 h2=>hI.qY r1 r2 ((gY hlt).1 h1).1 ((gY hlt).1 h2).1)
 ·have:=hI.todo k hk
  refine ⟨this.1,?_⟩
  have hne:k≠i:=fun q=>hiL (q▸hk)
  rw[nh hlt];simp[hne,this.2]
 ·have:=hI.done k ok hok hk
  exact ⟨fun q=>by rw[nh hlt];simp[this.1 q],this.2⟩
 ·rw[nh hlt] at hk ⊢
  simp only[Bool.or_eq_true,decide_eq_true_eq] at hk
  rcases hk with q|q
  ·subst q;rw[ho] at hok;cases hok;simp[hr e he hb]
  ·simp[hI.down k ok hok q e he hb]
 ·obtain ⟨h1,h1i⟩:=(gY hlt).1 h1
  cases q:mF listed recs k with
  | false=>exact hI.gX r1 h1 nm hnm k q
  | true=>
   obtain ⟨r2,h2,hd⟩:=jx.1 q
   by_cases q2:r2.i=i
   ·have e2:=hI.apart r2 r (dA.1 h2).1 hrr (q2.trans hri.symm);subst e2
    exact (hI.qY r1 r2 h1 h2 nm hnm (by rw[q2];exact hno r1 h1) (fun q3=>h1i (q3.trans q2))).1 k hd
   ·have:=jx.2 ⟨r2,(gY hlt).2 ⟨h2,q2⟩,hd⟩
    rw[hk] at this;cases this
 ·obtain ⟨h1,h1i⟩:=(gY hlt).1 h1
  cases q:mS listed recs k with
  | false=>exact hI.Bd r1 h1 nm hnm k e q he
  | true=>
   obtain ⟨r2,h2,hd⟩:=gQ.1 q
   by_cases q2:r2.i=i
   ·have e2:=hI.apart r2 r (dA.1 h2).1 hrr (q2.trans hri.symm);subst e2
    exact (hI.qY r1 r2 h1 h2 nm hnm (by rw[q2];exact hno r1 h1) (fun q3=>h1i (q3.trans q2))).2.1 k e hd he
   ·have:=gQ.2 ⟨r2,(gY hlt).2 ⟨h2,q2⟩,hd⟩
    rw[hk] at this;cases this
theorem FR.xd {m m':Nat→Bool} {g:Gh} {a:Act} {d:Option Nat} {v:AV} {c:Value} (hF:FR n g (ey fr m) a) (hd:∀ x,d=some x→x<n) (hv:VR g v c)
  (hs:∀ x,d=some x→fr.s x=v) (hm:∀ i,m' i=false→m i=false∨d=some i):FR n g (ey fr m') (a.put d c):=by
 have h1:=hF.put hd hv
 have hds:((ey fr m).hY d v).ds=(ey fr m').ds:=rb
 refine ⟨h1.size,fun i=>?_,by rw[← hds];exact h1.ds⟩
 ·by_cases q:m' i=true
  ·simp only[ey,q,if_true];exact .any _
  ·have q':m' i=false:=by simpa using q
   have h2:=h1.gX i
   simp only[ey,q',Bool.false_eq_true,if_false]
   by_cases hdi:d=some i
   ·subst hdi
    simp only[ew.hY,ew.put,if_true] at h2
    rw[hs i rfl];exact h2
   ·have hmi:m i=false:=(hm i q').resolve_right hdi
    cases d with
    | none=>simpa[ew.hY,ey,hmi] using h2
    | some x=>
     have:i≠x:=fun q=>hdi (by rw[q])
     simpa[ew.hY,ew.put,ey,hmi,this] using h2
theorem yf {i:Nat} {o:Oper} (hI:Inv P E n ops listed L recs fr σ) (ho:ops[i]?=some o) (hr:∀ e,e∈o.after.toList→Region.binds .any e=true→o3 listed e.on=true)
  {r:Rec} (hrp:r∈kO listed recs) (hri:r.i=i) {g:Gh} {a:Act} {w:World} (hR:Rel E g (eo σ (mS listed recs)) w) (hF:FR n g (ey fr (mF listed recs)) a)
  {K:Act→World→Prop} {Q':Exit→Act→World→Prop}
  (hK:∀ g' a' w',Inv P E n ops (listed.setIfInBounds i true) L recs fr σ→Rel E g' (eo σ (mS (listed.setIfInBounds i true) recs)) w'→
   FR n g' (ey fr (mF (listed.setIfInBounds i true) recs)) a'→K a' w'):wpOp P ops Q' i K a w:=by
 have hrr:=(dA.1 hrp).1
 have hI':=hI.goes ho hr hrp hri
 have hlt:i<listed.size:=by
  rw[hI.size]
  rcases Nat.lt_or_ge i ops.size with q|q
  ·exact q
  ·rw[Array.getElem?_eq_none q] at ho;cases ho
 have hno:∀ r1,r1∈kO listed recs→mc ops ops.size i r1.i=false:=fun r1 h1=>by
  cases q:mc ops ops.size i r1.i with
  | false=>rfl
  | true=>
   have:=nI hI.down _ _ _ o ho hr q
   rw[(dA.1 h1).2] at this;cases this
 obtain ⟨hiL,or,hor,hheavy,hdst,hself⟩:=hI.gR r hrr
 rw[hri,ho] at hor;cases hor
 have hum:=ye hI ho hr (.inl ⟨r,hrr,hri⟩)
 have hmF:∀ k,mF (listed.setIfInBounds i true) recs k=false→mF listed recs k=false∨o.dst=some k:=fun k hk=>by
  cases q:mF listed recs k with
  | false=>exact .inl rfl
  | true=>
   obtain ⟨r2,h2,hd⟩:=jx.1 q
   by_cases q2:r2.i=i
   ·have e2:=hI.apart r2 r (dA.1 h2).1 hrr (q2.trans hri.symm);subst e2
    exact .inr (hdst.symm.trans hd)
   ·have:=jx.2 ⟨r2,(gY hlt).2 ⟨h2,q2⟩,hd⟩
    rw[hk] at this;cases this
 have hmS:r.nm=none→eo σ (mS (listed.setIfInBounds i true) recs)=eo σ (mS listed recs):=fun hnm=>by
  funext k
  have:mS (listed.setIfInBounds i true) recs k=mS listed recs k:=by
   cases q:mS listed recs k with
   | false=>exact pJ hlt q
   | true=>
    obtain ⟨r2,h2,hd⟩:=gQ.1 q
    refine gQ.2 ⟨r2,(gY hlt).2 ⟨h2,fun q2=>?_⟩,hd⟩
    have e2:=hI.apart r2 r (dA.1 h2).1 hrr (q2.trans hri.symm);subst e2
    rw[hnm] at hd;cases hd
  simp[eo,this]
 have hopd:∀ x,x∈o.op.operands→VR g (fr.val x) (a.eval x):=fun x hx=>by
  have h1:=hF.eval x
  rwa [yd (fun t ht=>hum t (rf (ht▸hx)))] at h1
 have hdn:∀ x,o.dst=some x→x<n:=fun x hx=>(hself x hx).1
 obtain ⟨o',ho',hp⟩:=hI.wx r hrp
 rw[hri,ho] at ho';cases ho'
 cases hp with
 | skip hu hv hrd hnm=>
  refine sg ho (sf hu hum) hF (hK g _ w hI' ?_ ?_)
  ·rw[hmS hnm];exact hR
  ·exact hF.xd (v:=Sc undef) hdn (.pv (.sc _)) hv hmF
 | @ev hw v h hv hnm=>
  refine oh ho (og hw hum) hF ?_
  obtain ⟨c,hrun,hvr⟩:=h o rfl g a.eval w hR.gl hopd (fun p hp=>by
   obtain ⟨e0,hs,hle⟩:=hI.reads r hrp p hp
   refine hle _ _ _ (hR.iZ p.1 e0 ?_)
   rw[o0]
   ·exact hs
   ·cases q:mS listed recs p.1 with
    | false=>rfl
    | true=>
     exfalso
     obtain ⟨r2,h2,hd⟩:=gQ.1 q
     by_cases q2:r2.i=i
     ·have e2:=hI.apart r2 r (dA.1 h2).1 hrr (q2.trans hri.symm);subst e2
      rw[hnm] at hd;cases hd
     ·exact (hI.qY r2 r h2 hrp _ hd (by rw[hri];exact hno r2 h2) (fun q3=>q2 (q3.trans hri))).2.2 p hp rfl)
  simp only[Oper.wp,hrun,Oper.upon]
  refine hK g _ w hI' ?_ ?_
  ·rw[hmS hnm];exact hR
  ·exact hF.xd hdn hvr hv hmF
 | @nw hw nm e v h hv hrd hnm hs hf hne=>
  refine oh ho (og hw hum) hF ?_
  have hsl:=hI.gX r hrp nm hnm
  have hcl:(ey fr (mF listed recs)).clear nm:=⟨fun k=>by
   simp only[ey];split
   ·rfl
   ·rename_i q;exact hsl k (by simpa using q),hI.ds r hrp nm hnm⟩
  have hcs:(eo σ (mS listed recs)).clear nm:=fun k e' hk=>by
   simp only[eo] at hk
   split at hk
   ·cases hk
   ·rename_i q;exact hI.Bd r hrp nm hnm k e' (by simpa using q) hk
  obtain ⟨c,cs,el,cap,hrun,he,hvr⟩:=h o rfl g a.eval w hR.gl.fresh (fun x hx=>⟨hopd x hx,by
   cases x with
   | tmp t=>exact hsl t (hum t (rf hx))
   | const v=>rfl
   | global k=>rfl
   | func f=>rfl⟩)
  simp only[Oper.wp,hrun,Oper.upon]
  have hR2:=hR.BP hcs hf he
  have hF2:FR n (g.fresh nm w.heap.size cap e) (ey fr (mF listed recs)) a:=hF.le (ju.fresh g nm _ _ e hR.gl.fresh) fun k q=>by subst q;exact hcl
  refine hK _ _ _ hI' ?_ (hF2.xd hdn hvr hv hmF)
  have:eo σ (mS (listed.setIfInBounds i true) recs)=(eo σ (mS listed recs)).set nm e:=by
   funext k
   by_cases q:k=nm
   ·subst q
    have:mS (listed.setIfInBounds i true) recs k=false:=by
     cases q:mS (listed.setIfInBounds i true) recs k with
     | false=>rfl
     | true=>
      exfalso
      obtain ⟨r2,h2,hd⟩:=gQ.1 q
      obtain ⟨h2,h2i⟩:=(gY hlt).1 h2
      have:=hI.names r2 r k (dA.1 h2).1 hrr hd hnm
      subst this;exact h2i hri
    simp[eo,this,Z.set,hs]
   ·have:mS (listed.setIfInBounds i true) recs k=mS listed recs k:=by
     cases q2:mS listed recs k with
     | false=>exact pJ hlt q2
     | true=>
      obtain ⟨r2,h2,hd⟩:=gQ.1 q2
      refine gQ.2 ⟨r2,(gY hlt).2 ⟨h2,fun q3=>?_⟩,hd⟩
      have e2:=hI.apart r2 r (dA.1 h2).1 hrr (q3.trans hri.symm);subst e2
      rw[hnm] at hd;cases hd;exact q rfl
    simp[eo,this,Z.set,q]
  rw[this];exact hR2
 | @fz hw v h hv hrd hnm=>
  refine oh ho (og hw hum) hF ?_
  obtain ⟨c,cs,el,ys,hrun,hl,hp,hvr⟩:=h o rfl g a.eval w hopd
  simp only[Oper.wp,hrun,Oper.upon]
  refine hK (g.dq w.heap.size ys) _ _ hI' ?_ ?_
  ·rw[hmS hnm];exact hR.frozen hl hp
  ·exact (hF.le (nn:=fun _=>False) (ju.dq g _ ys hR.gl.fresh) fun k q=>q.elim).xd hdn hvr hv hmF
theorem B2.congr {fr':ew} {σ':Z} {r:Rec} {o:Oper} (h:B2 P E ops fr σ r o) (hl:∀ t,t∈o.looksAt ops→fr'.s t=fr.s t) (hd:∀ d,o.dst=some d→fr'.s d=fr.s d)
  (hs:∀ nm,r.nm=some nm→σ' nm=σ nm):B2 P E ops fr' σ' r o:=by
 have hval:∀ x,x∈o.op.operands→fr'.val x=fr.val x:=fun x hx=>by
  cases x with
  | tmp t=>exact hl t (rf hx)
  | const v=>rfl
  | global k=>rfl
  | func f=>rfl
 have hwan:gC ops o fr→gC ops o fr':=fun hw=>by
  rcases hw with q|⟨j,want,d,hg,hj,hb⟩
  ·exact .inl q
  ·exact .inr ⟨j,want,d,hg,hj,by rw[hl d (by simp[Oper.looksAt,hg,hj])];exact hb⟩
 cases h with
 | skip hu hv hrd hnm=>
  obtain ⟨j,want,d,b,hg,hj,hb,hn⟩:=hu
  exact .skip ⟨j,want,d,b,hg,hj,by rw[hl d (by simp[Oper.looksAt,hg,hj])];exact hb,hn⟩ (fun d hd'=>(hd d hd').trans (hv d hd')) hrd hnm
 | ev hw h hv hnm=>exact .ev (hwan hw) (fun o' ho' g ev w hG hx=>h o' ho' g ev w hG fun x hx'=>by rw[← hval x hx'];exact hx x hx') (fun d hd'=>(hd d hd').trans (hv d hd')) hnm
 | nw hw h hv hrd hnm hs' hf hne=>
  exact .nw (hwan hw) (fun o' ho' g ev w hG0 hx=>h o' ho' g ev w hG0 fun x hx'=>by rw[← hval x hx'];exact hx x hx') (fun d hd'=>(hd d hd').trans (hv d hd')) hrd hnm ((hs _ hnm).trans hs') hf hne
 | fz hw h hv hrd hnm=>exact .fz (hwan hw) (fun o' ho' g ev w hx=>h o' ho' g ev w fun x hx'=>by rw[← hval x hx'];exact hx x hx') (fun d hd'=>(hd d hd').trans (hv d hd')) hrd hnm
theorem ke {d:Option Nat} {v:AV} {i:Nat} (h:d≠some i):(fr.hY d v).s i=fr.s i:=by
 cases d with
 | none=>rfl
 | some d=>
  have:i≠d:=fun q=>h (by rw[q])
  simp[ew.hY,ew.put,this]
theorem nC {d:Option Nat} {v:AV} {i:Nat} (h:d=some i):(fr.hY d v).s i=v:=by
 subst h;simp[ew.hY,ew.put]
theorem advance {c:Nat} {o:Oper} {v:AV} {rd:List (Nat×M)} {onm:Option Nat} {σ':Z} (hI:Inv P E n ops listed (c::L) recs fr σ) (ho:ops[c]?=some o) (hh:dN o=false)
  (hd:∀ d,o.dst=some d→d<n) (hp:B2 P E ops (fr.hY o.dst v) σ' ⟨c,o.dst,rd,onm⟩ o)
  (hσ:∀ k,onm≠some k→σ' k=σ k)
  (hrn:∀ k,onm=some k→(∀ r,r∈recs→r.nm≠some k∧∀ p,p∈r.rd→p.1≠k)∧σ k=none∧fr.clear k∧σ.clear k∧∀ e,σ' k=some e→AV.ed.fg k e.cells=false)
  (hrd:∀ p,p∈rd→Fk σ' p)
  (hc:∀ r,r∈gh ops recs c→∀ nm,r.nm=some nm→v.ed nm=false∧(∀ p,p∈rd→p.1≠nm)∧∀ k e,onm=some k→σ' k=some e→AV.ed.fg nm e.cells=false)
  {g:Gh} {a:Act} {w:World} (hR:Rel E g (eo σ (mS listed recs)) w) (hF:FR n g (ey fr (mF listed recs)) a) :
  Inv P E n ops listed L (⟨c,o.dst,rd,onm⟩::recs) (fr.hY o.dst v) σ'∧Rel E g (eo σ' (mS listed (⟨c,o.dst,rd,onm⟩::recs))) w∧
   FR n g (ey (fr.hY o.dst v) (mF listed (⟨c,o.dst,rd,onm⟩::recs))) a:=by
 have hcL:=hI.todo c (by simp)
 have hPP:=hI.tz
 simp only[k8,Bool.and_eq_true,Bool.not_eq_true'] at hPP
 obtain ⟨⟨hcn,hca⟩,hPL⟩:=hPP
 have hcnL:c ∉ L:=by simpa using hcn
 have hself:=hI.vd c (by simp)
 simp only[sv,ho,hh,Bool.false_or,Bool.and_eq_true,looks] at hself
 have hdl:∀ d,o.dst=some d→d ∉ o.looksAt ops:=fun d hd'=>by
  have:=hself.2;rw[hd'] at this;simpa using this
 have hne:∀ r,r∈recs→r.i≠c:=fun r hr q=>(hI.gR r hr).1 (by simp[q])
 have hlt:∀ r,r∈recs→r.i<ops.size:=fun r hr=>by
  obtain ⟨_,or,hor,_⟩:=hI.gR r hr
  rcases Nat.lt_or_ge r.i ops.size with q|q
  ·exact q
  ·rw[Array.getElem?_eq_none q] at hor;cases hor
 have hpair:∀ r,r∈recs→oK ops r.i c=true:=fun r hr=>hI.uk r.i c (hlt r hr) (hI.gR r hr).1 (by simp)
 have hfree:∀ r,r∈recs→∀ or,ops[r.i]?=some or→∀ d,o.dst=some d→d ∉ or.looksAt ops∧or.dst≠some d:=fun r hr or hor d hd'=>by
  obtain ⟨_,or',hor',hhv,_⟩:=hI.gR r hr
  rw[hor] at hor';cases hor'
  exact (kP hor ho (hpair r hr)).1 hhv d hd'
 have hrdst:∀ r,r∈recs→∀ d,r.dst=some d→o.dst≠some d:=fun r hr d hd' q=>by
  obtain ⟨_,or,hor,_,hds,_⟩:=hI.gR r hr
  exact (hfree r hr or hor d q).2 (hds.symm.trans hd')
 have hsame:∀ r,r∈recs→∀ d,r.dst=some d→(fr.hY o.dst v).s d=fr.s d:=fun r hr d hd'=>ke (hrdst r hr d hd')
 have hpm:∀ r,r∈kO listed (⟨c,o.dst,rd,onm⟩::recs)↔r=⟨c,o.dst,rd,onm⟩∨r∈kO listed recs:=fun r=>by
  rw[dA,dA]
  constructor
  ·rintro ⟨h1,h2⟩
   rcases List.mem_cons.1 h1 with q|q
   ·exact .inl q
   ·exact .inr ⟨q,h2⟩
  ·rintro (q|⟨h1,h2⟩)
   ·subst q;exact ⟨by simp,hcL.2⟩
   ·exact ⟨by simp[h1],h2⟩
 have hmF:∀ k,mF listed (⟨c,o.dst,rd,onm⟩::recs) k=false→o.dst≠some k∧mF listed recs k=false:=fun k hk=>by
  refine ⟨fun q=>?_,?_⟩
  ·have:=jx.2 ⟨⟨c,o.dst,rd,onm⟩,(hpm _).2 (.inl rfl),q⟩
   rw[hk] at this;cases this
  ·cases q:mF listed recs k with
   | false=>rfl
   | true=>
    obtain ⟨r,h1,h2⟩:=jx.1 q
    have:=jx.2 ⟨r,(hpm r).2 (.inr h1),h2⟩
    rw[hk] at this;cases this
 have hmS:∀ k,mS listed (⟨c,o.dst,rd,onm⟩::recs) k=false→onm≠some k∧mS listed recs k=false:=fun k hk=>by
  refine ⟨fun q=>?_,?_⟩
  ·have:=gQ.2 ⟨⟨c,o.dst,rd,onm⟩,(hpm _).2 (.inl rfl),q⟩
   rw[hk] at this;cases this
  ·cases q:mS listed recs k with
   | false=>rfl
   | true=>
    obtain ⟨r,h1,h2⟩:=gQ.1 q
    have:=gQ.2 ⟨r,(hpm r).2 (.inr h1),h2⟩
    rw[hk] at this;cases this
 have hmS':∀ k,mS listed (⟨c,o.dst,rd,onm⟩::recs) k=true→onm=some k∨mS listed recs k=true:=fun k hk=>by
  obtain ⟨r,h1,h2⟩:=gQ.1 hk
  rcases (hpm r).1 h1 with q|q
  ·subst q;exact .inl h2
  ·exact .inr (gQ.2 ⟨r,q,h2⟩)
 refine ⟨?_,?_,?_⟩
 ·refine Inv.mk hI.size (fun i hi=>hI.todo i (by simp[hi])) (fun i oi hoi hi=>?_) (fun r hr=>?_) (fun i hi=>hI.vd i (by simp[hi])) (fun r r' hr hr' q=>?_) (fun r r' k hr hr' q q'=>?_)
   (fun r r' hr hr' q=>?_) (fun i j hi hiL hj=>?_) hPL hI.down (fun r hr=>?_) (fun r hr p hpr=>?_) (fun r hr nm hnm i hi=>?_) (fun r hr nm hnm p hpp=>?_) (fun r hr nm hnm k e hk he=>?_)
   (fun r r' hr hr' nm hnm hord hri=>?_)
  ·by_cases q:i=c
   ·subst q;rw[ho] at hoi;cases hoi
    exact ⟨fun q=>(by rw[hh] at q;cases q),fun _=>⟨_,List.mem_cons_self ..,rfl⟩⟩
   ·obtain ⟨h1,h2⟩:=hI.done i oi hoi (by simp[q,hi])
    exact ⟨h1,fun q2=>let ⟨r,hr,e⟩:=h2 q2;⟨r,by simp[hr],e⟩⟩
  ·rcases List.mem_cons.1 hr with q|q
   ·subst q;exact ⟨hcnL,o,ho,hh,rfl,fun d hd'=>⟨hd d hd',hdl d hd'⟩⟩
   ·obtain ⟨h1,h2⟩:=hI.gR r q
    exact ⟨fun q2=>h1 (by simp[q2]),h2⟩
  ·rcases List.mem_cons.1 hr with h1|h1
   ·rcases List.mem_cons.1 hr' with h2|h2
    ·rw[h1,h2]
    ·subst h1;exact absurd q.symm (hne r' h2)
   ·rcases List.mem_cons.1 hr' with h2|h2
    ·subst h2;exact absurd q (hne r h1)
    ·exact hI.apart r r' h1 h2 q
  ·rcases List.mem_cons.1 hr with h1|h1
   ·rcases List.mem_cons.1 hr' with h2|h2
    ·rw[h1,h2]
    ·subst h1;exact absurd q' ((hrn k q).1 r' h2).1
   ·rcases List.mem_cons.1 hr' with h2|h2
    ·subst h2;exact absurd q ((hrn k q').1 r h1).1
    ·exact hI.names r r' k h1 h2 q q'
  ·rcases List.mem_cons.1 hr with h1|h1
   ·rcases List.mem_cons.1 hr' with h2|h2
    ·subst h1 h2;exact absurd rfl q
    ·subst h1;exact .inr (hpair r' h2)
   ·rcases List.mem_cons.1 hr' with h2|h2
    ·subst h2;exact .inl (hpair r h1)
    ·exact hI.wv r r' h1 h2 q
  ·by_cases q:i=c
   ·subst q;exact List.all_eq_true.1 hca j hj
   ·exact hI.uk i j hi (by simp[q,hiL]) (by simp[hj])
  ·rcases (hpm r).1 hr with q|q
   ·subst q;exact ⟨o,ho,hp⟩
   ·obtain ⟨or,hor,hpr⟩:=hI.wx r q
    have hrr:=(dA.1 q).1
    refine ⟨or,hor,hpr.congr (fun t ht=>ke fun q2=>(hfree r hrr or hor t q2).1 ht) (fun d hd'=>ke fun q2=>(hfree r hrr or hor d q2).2 hd') (fun nm hnm=>hσ nm fun q2=>((hrn nm q2).1 r hrr).1 hnm)⟩
  ·rcases (hpm r).1 hr with q|q
   ·subst q;exact hrd p hpr
   ·obtain ⟨e0,hs,hle⟩:=hI.reads r q p hpr
    exact ⟨e0,by rw[hσ p.1 fun q2=>((hrn p.1 q2).1 r (dA.1 q).1).2 p hpr rfl];exact hs,hle⟩
  ·obtain ⟨h1,h2⟩:=hmF i hi
   rw[ke h1]
   rcases (hpm r).1 hr with q|q
   ·subst q;exact (hrn nm hnm).2.2.1.1 i
   ·exact hI.gX r q nm hnm i h2
  ·rw[rb] at hpp
   rcases (hpm r).1 hr with q|q
   ·subst q;exact (hrn nm hnm).2.2.1.2 p hpp
   ·exact hI.ds r q nm hnm p hpp
  ·obtain ⟨h1,h2⟩:=hmS k hk
   rw[hσ k h1] at he
   rcases (hpm r).1 hr with q|q
   ·subst q;exact (hrn nm hnm).2.2.2.1 k e he
   ·exact hI.Bd r q nm hnm k e h2 he
  ·rcases (hpm r).1 hr with q|q
   ·subst q
    rcases (hpm r').1 hr' with q'|q'
    ·subst q';exact absurd rfl hri
    ·have hrr':=(dA.1 q').1
     refine ⟨fun d hd'=>by rw[hsame r' hrr' d hd'];exact (hrn nm hnm).2.2.1.1 d,fun k e hk he=>?_,fun p hpp=>((hrn nm hnm).1 r' hrr').2 p hpp⟩
     rw[hσ k (fun q2=>((hrn k q2).1 r' hrr').1 hk)] at he
     exact (hrn nm hnm).2.2.2.1 k e he
   ·have hrr:=(dA.1 q).1
    rcases (hpm r').1 hr' with q'|q'
    ·subst q'
     have hfl:r∈gh ops recs c:=by simp[gh,hrr,hord]
     obtain ⟨h1,h2,h3⟩:=hc r hfl nm hnm
     exact ⟨fun d hd'=>by rw[nC hd'];exact h1,fun k e hk he=>h3 k e hk he,h2⟩
    ·have hrr':=(dA.1 q').1
     obtain ⟨h1,h2,h3⟩:=hI.qY r r' q q' nm hnm hord hri
     refine ⟨fun d hd'=>by rw[hsame r' hrr' d hd'];exact h1 d hd',fun k e hk he=>?_,h3⟩
     rw[hσ k (fun q2=>((hrn k q2).1 r' hrr').1 hk)] at he
     exact h2 k e hk he
 ·have:eo σ' (mS listed (⟨c,o.dst,rd,onm⟩::recs))=eo σ (mS listed recs):=by
   funext k
   simp only[eo]
   cases q:mS listed (⟨c,o.dst,rd,onm⟩::recs) k with
   | false=>
    obtain ⟨h1,h2⟩:=hmS k q
    simp[h2,hσ k h1]
   | true=>
    simp only[if_true]
    rcases hmS' k q with h1|h1
    ·split
     ·rfl
     ·exact (hrn k h1).2.1.symm
    ·simp[h1]
  rw[this];exact hR
 ·refine ⟨hF.size,fun i=>?_,?_⟩
  ·simp only[ey]
   split
   ·exact .any _
   ·rename_i q
    obtain ⟨h1,h2⟩:=hmF i (by simpa using q)
    have:=hF.gX i
    simp only[ey,h2] at this
    rw[ke h1];exact this
  ·have h0:(ey (fr.hY o.dst v) (mF listed (⟨c,o.dst,rd,onm⟩::recs))).ds=fr.ds:=rb
   rw[h0];exact hF.ds
theorem fJ.congr {op:Op} {fr fr':ew} {rd:List (Nat×M)} {v:AV} (h:fJ P op fr rd v) (he:∀ x,x∈op.operands→fr'.val x=fr.val x):fJ P op fr' rd v:=
 fun o' ho' g ev w hG hx=>h o' ho' g ev w hG fun x hx'=>by rw[← he x hx'];exact hx x hx'
theorem B3 {x:Operand} {d:Option Nat} {v:AV} (h:∀ t,x=.tmp t→d≠some t):(fr.hY d v).val x=fr.val x:=by
 cases x with
 | tmp t=>exact ke (h t rfl)
 | const v=>rfl
 | global k=>rfl
 | func f=>rfl
theorem rh {o:Oper} {d:Option Nat} {v:AV} (h:gC ops o fr) (hd:∀ t,t∈o.looksAt ops→d≠some t):gC ops o (fr.hY d v):=by
 rcases h with q|⟨j,want,x,hg,hj,hb⟩
 ·exact .inl q
 ·exact .inr ⟨j,want,x,hg,hj,by rw[ke (hd x (by simp[Oper.looksAt,hg,hj]))];exact hb⟩
theorem walk {c:Nat} {o:Oper} {next:List Rec→ew→Z→Prop} (hI:Inv P E n ops listed (c::L) recs fr σ) (ho:ops[c]?=some o) (hh:dN o=false)
  (hS:DStep P E n ops Q next recs c o fr σ) {g:Gh} {a:Act} {w:World} (hR:Rel E g (eo σ (mS listed recs)) w) (hF:FR n g (ey fr (mF listed recs)) a) :
  ∃ r recs' fr' σ',recs'=r::recs∧r.i=c∧next recs' fr' σ'∧Inv P E n ops listed L recs' fr' σ'∧Rel E g (eo σ' (mS listed recs')) w∧FR n g (ey fr' (mF listed recs')) a:=by
 have hself:=hI.vd c (by simp)
 simp only[sv,ho,hh,Bool.false_or,Bool.and_eq_true,looks] at hself
 have hdl:∀ t,t∈o.looksAt ops→o.dst≠some t:=fun t ht q=>by
  have:=hself.2;rw[q] at this;simp at this;exact this ht
 have hval:∀ v x,x∈o.op.operands→(fr.hY o.dst v).val x=fr.val x:=fun v x hx=>B3 fun t ht=>hdl t (rf (ht▸hx))
 cases hS with
 | skip hu hd hn=>
  simp only[hh,Bool.false_eq_true,if_false] at hn
  obtain ⟨j,want,d,b,hg,hj,hb,hne⟩:=hu
  obtain ⟨h1,h2,h3⟩:=advance (v:=Sc undef) (rd:=[]) (onm:=none) (σ':=σ) hI ho hh hd
   (.skip ⟨j,want,d,b,hg,hj,by rw[ke (hdl d (by simp[Oper.looksAt,hg,hj]))];exact hb,hne⟩ (fun d hd=>nC hd) rfl rfl)
   (fun _ _=>rfl) (fun k q=>by cases q) (fun p q=>by cases q) (fun r _ nm _=>⟨rfl,(fun p q=>by cases q),fun k e q=>by cases q⟩) hR hF
  exact ⟨_,_,_,_,rfl,rfl,hn,h1,h2,h3⟩
 | @ev hw _ rd v h hr hd hc hn=>
  obtain ⟨h1,h2,h3⟩:=advance (v:=v) (rd:=rd) (onm:=none) (σ':=σ) hI ho hh hd (.ev (rh hw hdl) (h.congr (hval v)) (fun d hd=>nC hd) rfl)
   (fun _ _=>rfl) (fun k q=>by cases q) hr (fun r hr nm hnm=>⟨(hc r hr nm hnm).1,(hc r hr nm hnm).2,fun k e q=>by cases q⟩) hR hF
  exact ⟨_,_,_,_,rfl,rfl,hn,h1,h2,h3⟩
 | @nw hw _ nm e v h hcf hcs hs hf hd hc hrn hrd hnv hn=>
  obtain ⟨h1,h2,h3⟩:=advance (v:=v) (rd:=[]) (onm:=some nm) (σ':=σ.set nm e) hI ho hh hd
   (.nw (rh hw hdl) (fun o' ho' g ev w hG0 hx=>h o' ho' g ev w hG0 fun x hx'=>by rw[← hval v x hx'];exact hx x hx') (fun d hd=>nC hd) rfl rfl (by simp[Z.set]) hf hnv)
   (fun k q=>by
    have:k≠nm:=fun q2=>q (by rw[q2])
    simp[Z.set,this])
   (fun k q=>by
    cases q
    exact ⟨fun r hr=>⟨hrn r hr,hrd r hr⟩,hs,hcf,hcs,fun e' he'=>by simp[Z.set] at he';subst he';exact hnv⟩)
   (fun p q=>by cases q) (fun r hr k hk=>⟨(hc r hr k hk).1,(fun p q=>by cases q),fun k' e' q he'=>by cases q;simp[Z.set] at he';subst he';exact (hc r hr k hk).2⟩) hR hF
  exact ⟨_,_,_,_,rfl,rfl,hn,h1,h2,h3⟩
 | @fz hw _ v h hd hc hn=>
  obtain ⟨h1,h2,h3⟩:=advance (v:=v) (rd:=[]) (onm:=none) (σ':=σ) hI ho hh hd
   (.fz (rh hw hdl) (fun o' ho' g ev w hx=>h o' ho' g ev w fun x hx'=>by rw[← hval v x hx'];exact hx x hx') (fun d hd=>nC hd) rfl rfl)
   (fun _ _=>rfl) (fun k q=>by cases q) (fun p q=>by cases q) (fun r hr nm hnm=>⟨hc r hr nm hnm,(fun p q=>by cases q),fun k e q=>by cases q⟩) hR hF
  exact ⟨_,_,_,_,rfl,rfl,hn,h1,h2,h3⟩
 | dN _ hh'=>rw[hh] at hh';cases hh'
end
section
variable {P:Program} {E:Env} {n:Nat} {ops:Array Oper} {Q:dS}
theorem tA {listed:Array Bool} {L:List Nat} {recs:List Rec} {fr:ew} {σ:Z} {c:Nat} {o:Oper} {next:List Rec→ew→Z→Prop} (hI:Inv P E n ops listed (c::L) recs fr σ) (ho:ops[c]?=some o)
  (hh:dN o=true) (hr:∀ e,e∈o.after.toList→Region.binds .any e=true→o3 listed e.on=true) (hS:DStep P E n ops Q next recs c o fr σ)
  {g:Gh} {a:Act} {w:World} (hR:Rel E g (eo σ (mS listed recs)) w) (hF:FR n g (ey fr (mF listed recs)) a) {K:Act→World→Prop}
  (hK:∀ g' fr' σ' a' w',next recs fr' σ'→Inv P E n ops (listed.setIfInBounds c true) L recs fr' σ'→Rel E g' (eo σ' (mS (listed.setIfInBounds c true) recs)) w'→
   FR n g' (ey fr' (mF (listed.setIfInBounds c true) recs)) a'→K a' w'):wpOp P ops (LQ E n Q) c K a w:=by
 have hcL:=hI.todo c (by simp)
 have hlt:c<listed.size:=by rw[hI.size];exact hcL.1
 have hPP:=hI.tz
 simp only[k8,Bool.and_eq_true,Bool.not_eq_true'] at hPP
 obtain ⟨⟨hcn,hca⟩,hPL⟩:=hPP
 have hcnL:c ∉ L:=by simpa using hcn
 have hne:∀ r,r∈recs→r.i≠c:=fun r hr q=>(hI.gR r hr).1 (by simp[q])
 have hltr:∀ r,r∈recs→r.i<ops.size:=fun r hr=>by
  obtain ⟨_,or,hor,_⟩:=hI.gR r hr
  rcases Nat.lt_or_ge r.i ops.size with q|q
  ·exact q
  ·rw[Array.getElem?_eq_none q] at hor;cases hor
 have hpair:∀ r,r∈recs→oK ops r.i c=true:=fun r hr=>hI.uk r.i c (hltr r hr) (hI.gR r hr).1 (by simp)
 have hfree:∀ r,r∈recs→∀ or,ops[r.i]?=some or→∀ d,o.dst=some d→d ∉ or.looksAt ops∧or.dst≠some d:=fun r hr or hor d hd'=>by
  obtain ⟨_,or',hor',hhv,_⟩:=hI.gR r hr
  rw[hor] at hor';cases hor'
  exact (kP hor ho (hpair r hr)).1 hhv d hd'
 have hrdst:∀ r,r∈recs→∀ d,r.dst=some d→o.dst≠some d:=fun r hr d hd' q=>by
  obtain ⟨_,or,hor,_,hds,_⟩:=hI.gR r hr
  exact (hfree r hr or hor d q).2 (hds.symm.trans hd')
 have hno:∀ r1,r1∈kO listed recs→mc ops ops.size c r1.i=false:=fun r1 h1=>by
  cases q:mc ops ops.size c r1.i with
  | false=>rfl
  | true=>
   have:=nI hI.down _ _ _ o ho hr q
   rw[(dA.1 h1).2] at this;cases this
 have hfl:∀ r,r∈kO listed recs→r∈gh ops recs c:=fun r hr=>by simp[gh,(dA.1 hr).1,hno r hr]
 have hum:=ye hI ho hr (.inr (by simp))
 have hdm:∀ d,o.dst=some d→mF listed recs d=false:=fun d hd=>by
  cases q:mF listed recs d with
  | false=>rfl
  | true=>
   obtain ⟨r,h1,h2⟩:=jx.1 q
   exact absurd hd (hrdst r (dA.1 h1).1 d h2)
 have hpe:∀ r,r∈kO (listed.setIfInBounds c true) recs↔r∈kO listed recs:=fun r=>by
  rw[gY hlt];exact ⟨fun h=>h.1,fun h=>⟨h,hne r (dA.1 h).1⟩⟩
 have hmFe:mF (listed.setIfInBounds c true) recs=mF listed recs:=by
  funext k
  cases q:mF listed recs k with
  | false=>exact xc hlt q
  | true=>
   obtain ⟨r,h1,h2⟩:=jx.1 q
   exact jx.2 ⟨r,(hpe r).2 h1,h2⟩
 have hmSe:mS (listed.setIfInBounds c true) recs=mS listed recs:=by
  funext k
  cases q:mS listed recs k with
  | false=>exact pJ hlt q
  | true=>
   obtain ⟨r,h1,h2⟩:=gQ.1 q
   exact gQ.2 ⟨r,(hpe r).2 h1,h2⟩
 have hinv:∀ fr0 σ0 ks,HO o ks fr fr0 σ σ0→(∀ r,r∈kO listed recs→∀ k,k∈ks→r.nm≠some k)→
   (∀ r,r∈kO listed recs→(∀ p,p∈r.rd→Fk σ0 p)∧∀ nm,r.nm=some nm→(∀ d,o.dst=some d→(fr0.s d).ed nm=false)∧∀ k,k∈ks→∀ e,σ0 k=some e→AV.ed.fg nm e.cells=false)→
   Inv P E n ops (listed.setIfInBounds c true) L recs fr0 σ0:=by
  intro fr0 σ0 ks hch hks hst
  have hs:∀ r,r∈recs→∀ d,r.dst=some d→fr0.s d=fr.s d:=fun r hr d hd=>hch.s d (hrdst r hr d hd)
  refine Inv.mk (by simpa using hI.size) (fun i hi=>?_) (fun i oi hoi hi=>?_) (fun r hr=>?_) (fun i hi=>hI.vd i (by simp[hi])) hI.apart hI.names hI.wv (fun i j hi hiL hj=>?_) hPL
   (fun k ok hok hk e he hb=>?_) (fun r hr'=>?_) (fun r hr'=>(hst r ((hpe r).1 hr')).1) (fun r hr' nm hnm i hi=>?_) (fun r hr' nm hnm p hp=>?_) (fun r hr' nm hnm k e hk he=>?_)
   (fun r r' h1 h2 nm hnm hord hri=>?_)
  ·have:=hI.todo i (by simp[hi])
   have hn:i≠c:=fun q=>hcnL (q▸hi)
   exact ⟨this.1,by rw[nh hlt];simp[hn,this.2]⟩
  ·by_cases q:i=c
   ·subst q;rw[ho] at hoi;cases hoi
    exact ⟨fun _=>by rw[nh hlt];simp,fun q=>(by rw[hh] at q;cases q)⟩
   ·obtain ⟨h1,h2⟩:=hI.done i oi hoi (by simp[q,hi])
    exact ⟨fun q2=>by rw[nh hlt];simp[h1 q2],h2⟩
  ·obtain ⟨h1,h2⟩:=hI.gR r hr
   exact ⟨fun q=>h1 (by simp[q]),h2⟩
  ·by_cases q:i=c
   ·subst q;exact List.all_eq_true.1 hca j hj
   ·exact hI.uk i j hi (by simp[q,hiL]) (by simp[hj])
  ·rw[nh hlt] at hk ⊢
   simp only[Bool.or_eq_true,decide_eq_true_eq] at hk
   rcases hk with q|q
   ·subst q;rw[ho] at hok;cases hok;simp[hr e he hb]
   ·simp[hI.down k ok hok q e he hb]
  ·have hp:=(hpe r).1 hr'
   have hrr:=(dA.1 hp).1
   obtain ⟨or,hor,hpp⟩:=hI.wx r hp
   exact ⟨or,hor,hpp.congr (fun t ht=>hch.s t fun q=>(hfree r hrr or hor t q).1 ht) (fun d hd=>hch.s d fun q=>(hfree r hrr or hor d q).2 hd) (fun nm hnm=>hch.h nm fun q=>hks r hp nm q hnm)⟩
  ·have hp:=(hpe r).1 hr'
   rw[hmFe] at hi
   by_cases q:o.dst=some i
   ·exact ((hst r hp).2 nm hnm).1 i q
   ·rw[hch.s i q];exact hI.gX r hp nm hnm i hi
  ·rw[hch.ds] at hp;exact hI.ds r ((hpe r).1 hr') nm hnm p hp
  ·have hp:=(hpe r).1 hr'
   rw[hmSe] at hk
   by_cases q:k∈ks
   ·exact ((hst r hp).2 nm hnm).2 k q e he
   ·rw[hch.h k q] at he;exact hI.Bd r hp nm hnm k e hk he
  ·have hp:=(hpe r).1 h1
   have hp':=(hpe r').1 h2
   obtain ⟨q1,q2,q3⟩:=hI.qY r r' hp hp' nm hnm hord hri
   refine ⟨fun d hd=>by rw[hs r' (dA.1 hp').1 d hd];exact q1 d hd,fun k e hk he=>?_,q3⟩
   rw[hch.h k fun q=>hks r' hp' k q hk] at he
   exact q2 k e hk he
 cases hS with
 | skip hu hd hn=>
  simp only[hh,if_true] at hn
  refine sg ho (sf hu hum) hF (hK g _ σ _ w hn (hinv _ _ [] ⟨ra,rb,fun _ _=>rfl⟩ (fun _ _ _ q=>by cases q) fun r hr=>?_) ?_ ?_)
  ·exact ⟨hI.reads r hr,fun nm hnm=>⟨fun d hd'=>by rw[nC hd'];rfl,fun k q=>by cases q⟩⟩
  ·rw[hmSe];exact hR
  ·rw[hmFe,← oZ hdm];exact hF.put hd (.pv (.sc _))
 | ev _ hh'=>rw[hh] at hh';cases hh'
 | nw _ hh'=>rw[hh] at hh';cases hh'
 | fz _ hh'=>rw[hh] at hh';cases hh'
 | @dN hw _ ks h hk=>
  have hst:=h.run (m:=mF listed recs) (mm:=mS listed recs) (fun hN=>by
   have hp:∀ r,r∈kO listed recs→False:=fun r hr=>by
    have h1:=hno r hr
    have h2:r∈gh ops recs c:=by simp[gh,(dA.1 hr).1,h1]
    rw[hN] at h2;cases h2
   refine ⟨fun k=>?_,fun k=>?_⟩
   ·cases q:mS listed recs k with
    | false=>rfl
    | true=>obtain ⟨r,hr,_⟩:=gQ.1 q;exact (hp r hr).elim
   ·cases q:mF listed recs k with
    | false=>rfl
    | true=>obtain ⟨r,hr,_⟩:=jx.1 q;exact (hp r hr).elim) (fun t ht=>hum t (rf ht)) hdm (fun k hkk=>by
   cases q:mS listed recs k with
   | false=>rfl
   | true=>
    obtain ⟨r,h1,h2⟩:=gQ.1 q
    exact absurd h2 (hk r (hfl r h1) k hkk))
  refine oh ho (og hw hum) hF (hst g a w K hR hF fun g' fr' σ' a' w' hq hR' hF'=>?_)
  obtain ⟨fr0,σ0,⟨hst2,hn⟩,hch,rfl,rfl⟩:=hq
  refine hK g' fr0 σ0 a' w' hn (hinv fr0 σ0 ks hch (fun r hr k hkk=>hk r (hfl r hr) k hkk) fun r hr=>hst2 r (hfl r hr)) ?_ ?_
  ·rw[hmSe];exact hR'
  ·rw[hmFe];exact hF'
theorem Az {listed:Array Bool} {i:Nat} {o:Oper} (ho:ops[i]?=some o) (hr:∀ e,e∈o.after.toList→Region.binds .any e=true→o3 listed e.on=true) :
  ∀ (L:List Nat) (recs:List Rec) (fr:ew) (σ:Z) (g:Gh) (a:Act) (w:World),i∈L→strict ops L=true→Inv P E n ops listed L recs fr σ→DW P E n ops Q L recs fr σ→Rel E g (eo σ (mS listed recs)) w→
   FR n g (ey fr (mF listed recs)) a→∃ L' recs' fr' σ',strict ops (i::L')=true∧Inv P E n ops listed (i::L') recs' fr' σ'∧DW P E n ops Q (i::L') recs' fr' σ'∧Rel E g (eo σ' (mS listed recs')) w∧FR n g (ey fr' (mF listed recs')) a
 | [],_,_,_,_,_,_,hi,_,_,_,_,_=>by cases hi
 | c::L,recs,fr,σ,g,a,w,hi,hs,hI,hD,hR,hF=>by
  by_cases q:c=i
  ·subst q;exact ⟨L,recs,fr,σ,hs,hI,hD,hR,hF⟩
  ·have hiL:i∈L:=by
    rcases List.mem_cons.1 hi with h|h
    ·exact absurd h.symm q
    ·exact h
   obtain ⟨oc,hoc,hS⟩:=hD
   have hPP:=hI.tz
   simp only[k8,Bool.and_eq_true] at hPP
   have hpair:oK ops c i=true:=List.all_eq_true.1 hPP.1.2 i hiL
   have hhv:dN oc=false:=by
    cases h:dN oc with
    | false=>rfl
    | true=>
     have h1:mc ops ops.size i c=true:=by
      rcases (kP hoc ho hpair).2.2 h with h0|h0
      ·exact tw hs hiL hoc ho h h0
      ·exact h0
     have h2:=nI hI.down _ _ _ o ho hr h1
     rw[(hI.todo c (by simp)).2] at h2;cases h2
   obtain ⟨r,recs',fr',σ',rfl,_,hn,hI',hR',hF'⟩:=walk hI hoc hhv hS hR hF
   exact Az ho hr L _ fr' σ' g a w hiL (iB hs) hI' hn hR' hF'
theorem AA {listed:Array Bool} {L:List Nat} {recs:List Rec} {fr:ew} {σ:Z} (hI:Inv P E n ops listed L recs fr σ) (hsm:∀ i o,ops[i]?=some o→∀ e,e∈o.after.toList→Region.binds .any e=true→e.on<i)
  (h:Region.ready .any ops listed=[]):∀ i,i<ops.size→o3 listed i=true:=by
 intro i
 induction i using Nat.strongRecOn with
 | _ i ih=>
  intro hi
  cases q:o3 listed i with
  | true=>rfl
  | false=>
   exfalso
   have:i∈Region.ready .any ops listed:=by
    simp only[Region.ready,List.mem_filter,List.mem_range,Bool.and_eq_true,Bool.not_eq_true']
    refine ⟨hi,?_,?_⟩
    ·have h1:listed.getD i true=listed.getD i false:=by simp[Array.getD,hI.size,hi]
     rw[h1];exact q
    ·rw[Array.getElem?_eq_getElem hi]
     simp only[Option.map_some,Option.getD_some]
     rw[Array.all_eq_true_iff_forall_mem]
     intro e he
     by_cases hb:Region.binds .any e=true
     ·have hlt:=hsm i _ (Array.getElem?_eq_getElem hi) e (by simpa using he) hb
      have:=ih e.on hlt (Nat.lt_trans hlt hi)
      simpa[hb,o3] using this
     ·simp[hb]
   rw[h] at this;cases this
def left (ops:Array Oper) (listed:Array Bool):Nat:=(List.range ops.size).countP fun i=>!o3 listed i
theorem yg {listed:Array Bool} {i:Nat} (hs:listed.size=ops.size) (hi:i<ops.size) (hr:o3 listed i=false):left ops (listed.setIfInBounds i true)<left ops listed:=by
 have key:∀ l:List Nat,l.countP (fun k=>!o3 (listed.setIfInBounds i true) k)≤l.countP (fun k=>!o3 listed k)∧
   (i∈l→l.countP (fun k=>!o3 (listed.setIfInBounds i true) k)<l.countP (fun k=>!o3 listed k)):=by
  intro l
  induction l with
  | nil=>simp
  | cons k l ih=>
   have hk:o3 (listed.setIfInBounds i true) k=(decide (k=i)||o3 listed k):=nh (by rw[hs];exact hi)
   simp only[List.countP_cons,hk]
   by_cases q:k=i
   ·subst q
    simp only[decide_true,Bool.true_or,hr,Bool.not_true,Bool.not_false,if_true,Bool.false_eq_true,if_false]
    exact ⟨by omega,fun _=>by omega⟩
   ·simp only[q,decide_false,Bool.false_or]
    refine ⟨by omega,fun h=>?_⟩
    rcases List.mem_cons.1 h with h|h
    ·exact absurd h.symm q
    ·have:=ih.2 h;omega
 exact (key _).2 (by simpa using hi)
theorem yh (hsm:∀ i o,ops[i]?=some o→∀ e,e∈o.after.toList→Region.binds .any e=true→e.on<i) :
  ∀ (fuel:Nat) (listed:Array Bool) (L:List Nat) (recs:List Rec) (fr:ew) (σ:Z) (g:Gh) (a:Act) (w:World),left ops listed≤fuel→strict ops L=true→Inv P E n ops listed L recs fr σ→DW P E n ops Q L recs fr σ→
   Rel E g (eo σ (mS listed recs)) w→FR n g (ey fr (mF listed recs)) a→wpAny P .any ops (LQ E n Q) fuel listed a w:=by
 intro fuel
 have fin:∀ (listed:Array Bool) (L:List Nat) (recs:List Rec) (fr:ew) (σ:Z) (g:Gh) (a:Act) (w:World),Inv P E n ops listed L recs fr σ→DW P E n ops Q L recs fr σ→
   Rel E g (eo σ (mS listed recs)) w→FR n g (ey fr (mF listed recs)) a→(∀ i,i<ops.size→o3 listed i=true)→LQ E n Q .normal a w:=by
  intro listed L recs fr σ g a w hI hD hR hF hall
  have hL:L=[]:=by
   cases L with
   | nil=>rfl
   | cons c L=>
    have:=hI.todo c (by simp)
    rw[hall c this.1] at this;cases this.2
  subst hL
  have hp:∀ r,r ∉ kO listed recs:=fun r hr=>by
   obtain ⟨h1,h2⟩:=dA.1 hr
   obtain ⟨_,or,hor,_⟩:=hI.gR r h1
   have:r.i<ops.size:=by
    rcases Nat.lt_or_ge r.i ops.size with q|q
    ·exact q
    ·rw[Array.getElem?_eq_none q] at hor;cases hor
   rw[hall r.i this] at h2;cases h2
  have h1:mF listed recs=fun _=>false:=by
   funext k
   cases q:mF listed recs k with
   | false=>rfl
   | true=>obtain ⟨r,hr,_⟩:=jx.1 q;exact absurd hr (hp r)
  have h2:mS listed recs=fun _=>false:=by
   funext k
   cases q:mS listed recs k with
   | false=>rfl
   | true=>obtain ⟨r,hr,_⟩:=gQ.1 q;exact absurd hr (hp r)
  have h3:ey fr (fun _=>false)=fr:=by simp[ey]
  have h4:eo σ (fun _=>false)=σ:=by funext k;simp[eo]
  rw[h2,h4] at hR
  rw[h1,h3] at hF
  exact ⟨g,.normal,fr,σ,hD,.normal,hR,hF⟩
 induction fuel with
 | zero=>
  intro listed L recs fr σ g a w hfu hs hI hD hR hF
  have hall:∀ i,i<ops.size→o3 listed i=true:=fun i hi=>by
   have:left ops listed=0:=by omega
   unfold left at this
   rw[List.countP_eq_zero] at this
   simpa using this i (by simpa using hi)
  refine ⟨?_,fin listed L recs fr σ g a w hI hD hR hF hall⟩
  cases q:Region.ready .any ops listed with
  | nil=>rfl
  | cons i l=>
   exfalso
   have hi:i∈Region.ready .any ops listed:=by rw[q];simp
   obtain ⟨h1,h2,_⟩:=sx hI.size hi
   rw[hall i h1] at h2;cases h2
 | succ fuel ih=>
  intro listed L recs fr σ g a w hfu hs hI hD hR hF
  refine ⟨fun hnil=>fin listed L recs fr σ g a w hI hD hR hF (AA hI hsm hnil),fun i hi=>?_⟩
  obtain ⟨h1,h2,o,ho,hr⟩:=sx hI.size hi
  have hlf:left ops (listed.setIfInBounds i true)≤fuel:=by have:=yg hI.size h1 h2;omega
  have hpend:∀ L recs fr σ g a w,strict ops L=true→(∃ r,r∈kO listed recs∧r.i=i)→Inv P E n ops listed L recs fr σ→DW P E n ops Q L recs fr σ→Rel E g (eo σ (mS listed recs)) w→FR n g (ey fr (mF listed recs)) a→
    wpOp P ops (LQ E n Q) i (wpAny P .any ops (LQ E n Q) fuel (listed.setIfInBounds i true)) a w:=by
   rintro L recs fr σ g a w hs ⟨r,hrp,hri⟩ hI hD hR hF
   exact yf hI ho hr hrp hri hR hF fun g' a' w' hI' hR' hF'=>ih _ L recs fr σ g' a' w' hlf hs hI' hD hR' hF'
  by_cases hiL:i∈L
  ·obtain ⟨L',recs',fr',σ',hs',hI',hD',hR',hF'⟩:=Az ho hr L recs fr σ g a w hiL hs hI hD hR hF
   obtain ⟨oc,hoc,hS⟩:=hD'
   rw[ho] at hoc;cases hoc
   cases hh:dN o with
   | true=>
    exact tA hI' ho hh hr hS hR' hF' fun g2 fr2 σ2 a2 w2 hn hI2 hR2 hF2=>ih _ L' recs' fr2 σ2 g2 a2 w2 hlf (iB hs') hI2 hn hR2 hF2
   | false=>
    obtain ⟨r,recs2,fr2,σ2,rfl,hri,hn,hI2,hR2,hF2⟩:=walk hI' ho hh hS hR' hF'
    exact hpend L' _ fr2 σ2 g a w (iB hs') ⟨r,dA.2 ⟨by simp,by rw[hri];exact h2⟩,hri⟩ hI2 hn hR2 hF2
  ·obtain ⟨hd1,hd2⟩:=hI.done i o ho hiL
   cases hh:dN o with
   | true=>rw[hd1 hh] at h2;cases h2
   | false=>
    obtain ⟨r,hrr,hri⟩:=hd2 hh
    exact hpend L recs fr σ g a w hs ⟨r,dA.2 ⟨hrr,by rw[hri];exact h2⟩,hri⟩ hI hD hR hF
theorem DI {id:Nat} {fr:ew} {σ:Z} (L:List Nat) (hm:P.follows .mixedOrders=true) (hchk:GH ops L=true) (h:DW P E n ops Q L [] fr σ):SW P E n (.region id ops true) Q fr σ:=by
 intro g a w hR hF
 simp only[GH,Bool.and_eq_true,List.all_eq_true,decide_eq_true_eq] at hchk
 obtain ⟨⟨⟨⟨⟨hself,hall⟩,hin⟩,hpairs⟩,hstr⟩,_⟩:=hchk
 have hsm:∀ i o,ops[i]?=some o→∀ e,e∈o.after.toList→Region.binds .any e=true→e.on<i:=fun i o ho e he hb=>by
  have hi:i<ops.size:=by
   rcases Nat.lt_or_ge i ops.size with q|q
   ·exact q
   ·rw[Array.getElem?_eq_none q] at ho;cases ho
  have h1:=hself i (by simpa using hall i (by simpa using hi))
  simp only[sv,ho,Bool.and_eq_true,List.all_eq_true] at h1
  have:=h1.1 e he
  simpa[hb] using this
 have hnone:∀ i,o3 (Array.replicate ops.size false) i=false:=fun i=>by
  simp only[o3,Array.getD_eq_getD_getElem?]
  rcases Nat.lt_or_ge i ops.size with q|q
  ·simp[q]
  ·rw[Array.getElem?_eq_none (by simpa using q)];rfl
 have hI:Inv P E n ops (Array.replicate ops.size false) L [] fr σ:=
  Inv.mk (by simp) (fun i hi=>⟨by simpa using hin i hi,hnone i⟩) (fun i o ho hi=>by
    exfalso
    have hlt:i<ops.size:=by
     rcases Nat.lt_or_ge i ops.size with q|q
     ·exact q
     ·rw[Array.getElem?_eq_none q] at ho;cases ho
    exact hi (by simpa using hall i (by simpa using hlt))) (fun r hr=>by cases hr) hself (fun r _ hr=>by cases hr) (fun r _ _ hr=>by cases hr) (fun r _ hr=>by cases hr)
   (fun i j hi hiL hj=>absurd (by simpa using hall i (by simpa using hi)) hiL) hpairs (fun i o _ h=>by rw[hnone i] at h;cases h) (fun r hr=>by cases hr) (fun r hr=>by cases hr)
   (fun r hr=>by cases hr) (fun r hr=>by cases hr) (fun r hr=>by cases hr) (fun r _ hr=>by cases hr)
 have h1:mF (Array.replicate ops.size false) []=fun _=>false:=rfl
 have h2:mS (Array.replicate ops.size false) []=fun _=>false:=rfl
 have h3:ey fr (fun _=>false)=fr:=by simp[ey]
 have h4:eo σ (fun _=>false)=σ:=by funext k;simp[eo]
 refine wp_region_any hm (yh hsm ops.size _ L [] fr σ g a _ ?_ hstr hI h ?_ ?_)
 ·exact Nat.le_trans (List.countP_le_length) (by simp)
 ·rw[h2,h4];exact hR.drew
 ·rw[h1,h3];exact hF
end
def jK:List (Nat×AV)→Nat→Option AV
 | [],_=>none
 | (j,v)::l,i=>match Nat.beq i j with
  | true=>some v
  | false=>jK l i
def dB:List (Nat×M)→Nat→Option M
 | [],_=>none
 | (j,v)::l,i=>match Nat.beq i j with
  | true=>some v
  | false=>dB l i
def bT (l:List (Nat×AV)):Operand→Option AV
 | .tmp t=>jK l t
 | .const v=>some (Sc v)
 | .global _=>some .any
 | .func f=>some (.fn f [] [])
theorem eW:∀ {l:List (Nat×AV)} {i:Nat} {v:AV},jK l i=some v→kc l i=v
 | [],_,_,h=>by simp[jK] at h
 | (j,w)::l,i,v,h=>by
  simp only[jK] at h
  split at h
  ·rename_i q
   cases h
   have:=Nat.eq_of_beq_eq_true q
   simp[kc,this]
  ·rename_i q
   have hn:i≠j:=fun e=>by subst e;simp at q
   simp[kc,hn,eW h]
theorem bW:∀ {l:List (Nat×M)} {i:Nat} {v:M},dB l i=some v→U l i=some v
 | [],_,_,h=>by simp[dB] at h
 | (j,w)::l,i,v,h=>by
  simp only[dB] at h
  split at h
  ·rename_i q
   cases h
   have:=Nat.eq_of_beq_eq_true q
   simp[U,jU,this]
  ·rename_i q
   have hn:i≠j:=fun e=>by subst e;simp at q
   have:=bW h
   simp only[U] at this
   simp[U,jU,hn,this]
theorem aE {l:List (Nat×AV)} {ds:List (FuncId×List AV)} {x:Operand} {v:AV} (h:bT l x=some v):(Y l ds).val x=v:=by
 cases x with
 | tmp t=>exact eW h
 | const c=>simpa[bT,ew.val] using h
 | global k=>simpa[bT,ew.val] using h
 | func f=>simpa[bT,ew.val] using h
class lG (P:Program) (t:TypeId) (n:outParam Nat):Prop where h:vL P t=some n
class ic (P:Program) (t:TypeId) (b:outParam Bool):Prop where h:oJ P t=some b
class k4 (P:Program) (s:TypeId) (f:Nat) (d:outParam Nat):Prop where h:GA P s f=some d
class AB (P:Program) (t:TypeId) (e:outParam TypeId) (sz:outParam Nat):Prop where h:GB P t=some (e,sz)
class Fy (P:Program) (t:TypeId) (k:outParam Nat) (sz:outParam Nat):Prop where h:BQ P t=some (k,sz)
class jV (P:Program) (t:TypeId) (d:outParam TypeDesc):Prop where h:P.underlying t=some d
class kf (P:Program) (t:TypeId) (z:outParam (List Value)):Prop where h:BR P t=some z
class gT (P:Program) (t:TypeId) (z:outParam (List Value)) (pl:outParam (List (Nat×Nat))):Prop where h:uK P t=some (z,pl)
class kg (P:Program) (t:TypeId) (n:Nat) (e sz:outParam Nat) (zs:outParam (List Value)) (pl:outParam (List (Nat×Nat))):Prop where h:wo P t n=some (e,sz,zs,pl)
class eL (P:Program) (t:TypeId) (sz b:outParam Nat):Prop where h:pI P t=some (sz,b)
structure iC (P:Program) (op:Op) (l:List (Nat×AV)) (ds:List (FuncId×List AV)) (s:List (Nat×M)) (v:AV) (rd:List (Nat×M)):Prop where
 h:fJ P op (Y l ds) rd v
 r:∀ p,p∈rd→Fk (U s) p
section
variable {P:Program} {l:List (Nat×AV)} {ds:List (FuncId×List AV)} {s:List (Nat×M)}
theorem iC.of {op:Op} {v:AV} (h:fJ P op (Y l ds) [] v):iC P op l ds s v []:=⟨h,fun p hp=>by cases hp⟩
theorem iC.on {op:Op} {v:AV} {k:Nat} {e:M} (hk:dB s k=some e) (h:fJ P op (Y l ds) [(k,e)] v):iC P op l ds s v [(k,e)]:=
 ⟨h,fun p hp=>by simp at hp;subst hp;exact ⟨_,bW hk,M.le_refl _⟩⟩
theorem W {x:Operand} {v:AV} (hx:bT l x=some v):iC P (.move x) l ds s v []:=.of (aE (ds:=ds) hx▸Dx x)
theorem B4 {x:Operand} {v:AV} (hx:bT l x=some v):iC P (.assign x) l ds s v []:=.of (aE (ds:=ds) hx▸tj x)
theorem uL {c a b:Operand} {v:AV} (hc:bT l c=some (Bo true)) (ha:bT l a=some v):iC P (.pick c a b) l ds s v []:=
 .of (by have:=Ap (P:=P) (a:=a) (b:=b) (aE (ds:=ds) hc);rw[if_pos rfl,aE ha] at this;exact this)
theorem dI {c a b:Operand} {v:AV} (hc:bT l c=some (Bo false)) (hb:bT l b=some v):iC P (.pick c a b) l ds s v []:=
 .of (by have:=Ap (P:=P) (a:=a) (b:=b) (aE (ds:=ds) hc);rw[if_neg (by simp),aE hb] at this;exact this)
theorem da {x:Operand} {k off:Nat} (hx:bT l x=some (.ptr k off)):iC P (.nilCheck x) l ds s (.ptr k off) []:=.of (uw (aE hx))
theorem bR {t:TypeId} {x:Operand} {f d k off:Nat} [hf:k4 P t f d] (hx:bT l x=some (.ptr k off)):iC P (.fieldAddr t x f) l ds s (.ptr k (off+d)) []:=.of (wR hf.h (aE hx))
theorem kZ {t:TypeId} {x:Operand} {f d:Nat} {c:List PV} [hf:k4 P t f d] (hx:bT l x=some (.sp c)) (hd:Nat.ble d c.length=true):iC P (.fieldAddr t x f) l ds s (.sp (c.drop d)) []:=
 .of (ux hf.h (aE hx) (Nat.le_of_ble_eq_true hd))
theorem bp {t:TypeId} {x:Operand} {k off:Nat} {e:M} {v:AV} [ha:ic P t false] (hx:bT l x=some (.ptr k off)) (hk:dB s k=some e) (hv:e.cells[off]?=some v) :
  iC P (.load t x) l ds s v [(k,e)]:=.on hk (qU ha.h (aE hx) hv)
theorem iT {t:TypeId} {x:Operand} {k off n:Nat} {e:M} {cs:List AV} [ha:ic P t true] [hz:lG P t n] (hx:bT l x=some (.ptr k off)) (hk:dB s k=some e)
  (hn:Nat.ble (off+n) e.cells.length=true) (hc:(e.cells.drop off).take n=cs):iC P (.load t x) l ds s (.agg cs) [(k,e)]:=
 .on hk (hc▸xY hz.h ha.h (aE hx) (Nat.le_of_ble_eq_true hn))
theorem gx {t:TypeId} {x:Operand} {c:List PV} {p:PV} [ha:ic P t false] (hx:bT l x=some (.sp c)) (hv:c[0]?=some p):iC P (.load t x) l ds s (.pv p) []:=
 .of (uY ha.h (aE hx) hv)
theorem iw {t:TypeId} {x:Operand} {n:Nat} {c:List PV} [ha:ic P t true] [hz:lG P t n] (hx:bT l x=some (.sp c)) (hn:Nat.ble n c.length=true) :
  iC P (.load t x) l ds s (.agg ((c.take n).map .pv)) []:=.of (uX hz.h ha.h (aE hx) (Nat.le_of_ble_eq_true hn))
theorem eS {t:TypeId} {x:Operand} {b:Bool} (hx:bT l x=some (Bo b)):iC P (.unOp .not t x) l ds s (Bo (!b)) []:=.of (Fs (aE hx))
theorem bw {op:BinOp} {xt yt:TypeId} {x y:Operand} {k:IntKind} {a b:Int} {r:Bool} (hx:bT l x=some (Sc (.int k a))) (hy:bT l y=some (Sc (.int k b))) (hr:Dy op a b=some r) :
  iC P (.binOp op xt x y yt) l ds s (Bo r) []:=.of (Dz (aE hx) (aE hy) hr)
theorem jc {xt yt:TypeId} {x y:Operand} {a b:List UInt8} (hx:bT l x=some (F a)) (hy:bT l y=some (F b)):iC P (.binOp .eql xt x y yt) l ds s (Bo (a==b)) []:=
 .of (Fo (aE hx) (aE hy))
theorem um {xt yt:TypeId} {x y:Operand} {a b:List UInt8} (hx:bT l x=some (F a)) (hy:bT l y=some (F b)):iC P (.binOp .neq xt x y yt) l ds s (Bo (a !=b)) []:=
 .of (Fp (aE hx) (aE hy))
theorem o4 {x:Operand} {i:Nat} {vs:List AV} {v:AV} (hx:bT l x=some (.fX vs)) (hv:vs[i]?=some v):iC P (.extract x i) l ds s v []:=.of (zN (aE hx) hv)
theorem k9 {xt yt:TypeId} {x y:Operand} {a b:Int} (hx:bT l x=some (I a)) (hy:bT l y=some (I b)) (h:-9223372036854775808≤a+b∧a+b≤9223372036854775807) :
  iC P (.binOp .add xt x y yt) l ds s (I (a+b)) []:=.of (Fl (aE hx) (aE hy) h)
theorem qv {xt yt:TypeId} {x y:Operand} {a b:Int} (hx:bT l x=some (I a)) (hy:bT l y=some (I b)) (h:-9223372036854775808≤a - b∧a - b≤9223372036854775807) :
  iC P (.binOp .sub xt x y yt) l ds s (I (a - b)) []:=.of (Fm (aE hx) (aE hy) h)
theorem lN {xt yt:TypeId} {x y:Operand} {a b:List UInt8} (hx:bT l x=some (F a)) (hy:bT l y=some (F b)) (h:a.length+b.length≤9223372036854775807) :
  iC P (.binOp .add xt x y yt) l ds s (F (a++b)) []:=.of (DB (aE hx) (aE hy) h)
theorem DJ {t e:TypeId} {sz m:Nat} {cells c':List PV} {x ix:Operand} {k:IntKind} {i:Int} [ht:AB P t e sz] (hx:bT l x=some (.pv (.sl m cells))) (hi:bT l ix=some (Sc (.int k i)))
  (h0:0≤i) (h1:i<m) (h2:i.toNat*sz≤cells.length) (hc:cells.drop (i.toNat*sz)=c'):iC P (.indexAddr t x ix) l ds s (.sp c') []:=
 .of (hc▸uz ht.h (aE hx) (aE hi) h0 h1 h2)
theorem me {t e:TypeId} {sz m kk:Nat} {x ix:Operand} {k:IntKind} {i:Int} [ht:AB P t e sz] (hx:bT l x=some (.arr kk m)) (hi:bT l ix=some (Sc (.int k i))) (h0:0≤i) (h1:i<m) :
  iC P (.indexAddr t x ix) l ds s (.ptr kk (i.toNat*sz)) []:=.of (tm ht.h (aE hx) (aE hi) h0 h1)
theorem iD {t:TypeId} {sz m kk off:Nat} {x ix:Operand} {k:IntKind} {i:Int} [ht:Fy P t m sz] (hx:bT l x=some (.ptr kk off)) (hi:bT l ix=some (Sc (.int k i))) (h0:0≤i) (h1:i<m) :
  iC P (.indexAddr t x ix) l ds s (.ptr kk (off+i.toNat*sz)) []:=.of (tp ht.h (aE hx) (aE hi) h0 h1)
theorem dZ {t:TypeId} {x ix:Operand} {k:IntKind} {i:Int} {c:List UInt8} {b:UInt8} [ht:jV P t .string] (hx:bT l x=some (F c)) (hi:bT l ix=some (Sc (.int k i))) (h0:0≤i)
  (hb:c[i.toNat]?=some b):iC P (.index t x ix) l ds s (Sc (.int .u8 b.toNat)) []:=.of (A8 ht.h (aE hx) (aE hi) h0 hb)
theorem ve {t:TypeId} {x lo hi:Operand} {k k':IntKind} {i j:Int} {c:List UInt8} [ht:jV P t .string] (hx:bT l x=some (F c)) (hl:bT l lo=some (Sc (.int k i))) (hh:bT l hi=some (Sc (.int k' j)))
  (h0:0≤i) (h1:i≤j) (h2:j≤c.length):iC P (.slice t x (some lo) (some hi) none) l ds s (F ((c.drop i.toNat).take (j.toNat - i.toNat))) []:=
 .of (A9 ht.h (aE hx) (aE hl) (aE hh) h0 h1 h2)
theorem hZ {t:TypeId} {x lo:Operand} {k:IntKind} {i:Int} {c:List UInt8} [ht:jV P t .string] (hx:bT l x=some (F c)) (hl:bT l lo=some (Sc (.int k i)))
  (h0:0≤i) (h2:i≤c.length):iC P (.slice t x (some lo) none none) l ds s (F (c.drop i.toNat)) []:=.of (wX ht.h (aE hx) (aE hl) h0 h2)
theorem pK {t:TypeId} {x hi:Operand} {k:IntKind} {j:Int} {c:List UInt8} [ht:jV P t .string] (hx:bT l x=some (F c)) (hh:bT l hi=some (Sc (.int k j)))
  (h0:0≤j) (h2:j≤c.length):iC P (.slice t x none (some hi) none) l ds s (F (c.take j.toNat)) []:=.of (wY ht.h (aE hx) (aE hh) h0 h2)
theorem dr {t:TypeId} {x:Operand} {c:List UInt8} [ht:jV P t .string] (hx:bT l x=some (F c)):iC P (.call ⟨.builtin .len,#[x],#[t]⟩) l ds s (I c.length) []:=.of (DC ht.h (aE hx))
theorem cJ {t e:TypeId} {x:Operand} {m sz:Nat} {c:List PV} [ht:AB P t e sz] (hx:bT l x=some (.pv (.sl m c))):iC P (.call ⟨.builtin .len,#[x],#[t]⟩) l ds s (I m) []:=
 .of (BU (wT ht.h).1 (aE hx))
theorem mf {t e:TypeId} {x:Operand} {k m sz:Nat} [ht:AB P t e sz] (hx:bT l x=some (.arr k m)):iC P (.call ⟨.builtin .len,#[x],#[t]⟩) l ds s (I m) []:=
 .of (Ba (wT ht.h).1 (aE hx))
theorem GI {ts:Array TypeId} {x y:Operand} {k:IntKind} {a b:Int} (hx:bT l x=some (Sc (.int k a))) (hy:bT l y=some (Sc (.int k b))) :
  iC P (.call ⟨.builtin .min,#[x,y],ts⟩) l ds s (Sc (.int k (if b<a then b else a))) []:=.of (Ft (aE hx) (aE hy))
theorem dC {t:TypeId} {parts:List (Nat×Operand)} {z:List Value} {pl:List (Nat×Nat)} {pv:List (Nat×AV)} {out:List AV} [ht:gT P t z pl]
  (hp:parts.mapM (fun p=>(bT l p.2).map fun v=>(p.1,v))=some pv) (h:k6 pl (z.map fun v=>.pv (.sc v)) pv=some out):iC P (.build t parts.toArray) l ds s (.agg out) []:=by
 refine .of (BW ht.h ?_)
 have key:∀ (ps:List (Nat×Operand)) (pv:List (Nat×AV)),ps.mapM (fun p=>(bT l p.2).map fun v=>(p.1,v))=some pv→(ps.map fun p=>(p.1,(Y l ds).val p.2))=pv:=by
  intro ps
  induction ps with
  | nil=>intro pv h;simp at h;simp[h]
  | cons p ps ih=>
   intro pv h
   rw[List.mapM_cons] at h
   cases hv:bT l p.2 with
   | none=>simp[hv] at h
   | some v=>
    cases hr:ps.mapM (fun p=>(bT l p.2).map fun v=>(p.1,v)) with
    | none=>simp[hv,hr] at h
    | some r=>
     simp[hv,hr] at h
     subst h
     simp[ih r hr,aE (ds:=ds) hv]
 rw[key parts pv hp];exact h
theorem GJ {xt yt:TypeId} {x y:Operand} {a b:Bool} [ht:jV P xt .bool] (hx:bT l x=some (Bo a)) (hy:bT l y=some (Bo b)):iC P (.binOp .eql xt x y yt) l ds s (Bo (a==b)) []:=
 .of (Fq ht.h (aE hx) (aE hy))
end
section
variable {P:Program} {E:Env} {n:Nat} {ops:Array Oper} {Q:dS} {rest:List Oper} {l:List (Nat×AV)} {ds:List (FuncId×List AV)} {s:List (Nat×M)}
theorem J {d:Nat} {op:Op} {ty:TypeId} {pos:String} {af:Array Edge} {v:AV} {rd:List (Nat×M)}
  (h:iC P op l ds s v rd) (hd:Nat.blt d n=true) (hn:SL P E n ops Q rest (Y ((d,v)::l) ds) (U s)):SL P E n ops Q (⟨some d,op,ty,pos,af,none⟩::rest) (Y l ds) (U s):=
 iA rfl (w6 h.h h.r (fun x hx=>by cases hx;simpa[Nat.blt_eq] using hd) hn)
theorem Fz {d j g:Nat} {op:Op} {ty:TypeId} {pos:String} {af:Array Edge} {v:AV} {rd:List (Nat×M)} {want:Bool}
  (hj:(ops[j]?).bind (·.dst)=some g∧jK l g=some (Bo want))
  (h:iC P op l ds s v rd) (hd:Nat.blt d n=true) (hn:SL P E n ops Q rest (Y ((d,v)::l) ds) (U s)):SL P E n ops Q (⟨some d,op,ty,pos,af,some (j,want)⟩::rest) (Y l ds) (U s):=
 u2 rfl hj.1 (eW hj.2) (fun x hx=>by cases hx;simpa[Nat.blt_eq] using hd) (fun _=>w6 h.h h.r (fun x hx=>by cases hx;simpa[Nat.blt_eq] using hd) hn) (fun q=>absurd rfl q)
theorem GK {d j g:Nat} {op:Op} {ty:TypeId} {pos:String} {af:Array Edge} {want b:Bool}
  (h:(ops[j]?).bind (·.dst)=some g∧jK l g=some (Bo b)∧(b==want)=false)
  (hd:Nat.blt d n=true) (hn:SL P E n ops Q rest (Y ((d,Sc undef)::l) ds) (U s)):SL P E n ops Q (⟨some d,op,ty,pos,af,some (j,want)⟩::rest) (Y l ds) (U s):=
 u2 rfl h.1 (eW h.2.1) (fun x hx=>by cases hx;simpa[Nat.blt_eq] using hd) (fun q=>by have:=h.2.2;subst q;simp at this) (fun _=>hn)
theorem GM {d j g:Nat} {op:Op} {ty:TypeId} {pos:String} {af:Array Edge} {want:Bool} (h:(ops[j]?).bind (·.dst)=some g∧jK l g=some (Sc undef))
  (hd:Nat.blt d n=true) (hn:SL P E n ops Q rest (Y ((d,Sc undef)::l) ds) (U s)):SL P E n ops Q (⟨some d,op,ty,pos,af,some (j,want)⟩::rest) (Y l ds) (U s):=
 Fv rfl h.1 (eW h.2) (by simp[undef]) (fun x hx=>by cases hx;simpa[Nat.blt_eq] using hd) hn
theorem eg {d:Nat} {t:TypeId} {x:Operand} {ty:TypeId} {pos:String} {af:Array Edge} {v:AV} {c:List AV} (nm:Nat) (hE:E.fix nm=none)
  (h:bT l x=some v∧v.fh=some c∧AV.ed.fg nm c=false∧kF nm l=false∧ja nm ds=false∧mX nm s=false∧AV.iW c=true)
  (hd:Nat.blt d n=true) (hn:SL P E n ops Q rest (Y ((d,.ptr nm 0)::l) ds) (U ((nm,.box c)::s))) :
  SL P E n ops Q (⟨some d,.box t x,ty,pos,af,none⟩::rest) (Y l ds) (U s):=
 iA rfl (w7 (Fu nm (by rw[aE h.1];exact h.2.1) h.2.2.2.2.2.2 h.2.2.1) (fR h.2.2.2.1 h.2.2.2.2.1) (jb h.2.2.2.2.2.1) hE (fun x hx=>by cases hx;simpa[Nat.blt_eq] using hd) hn)
end
end Go.Abs
end
