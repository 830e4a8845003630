/- PROVED: lemmas of the proof of: valid_card. CONDITIONS: as each lemma states. -/
import Derived.Orders
import Derived.Laws.CopyRow
import Derived.Laws.Tables
import Derived.Laws.Rows
import Derived.Laws.AppendOwn
import Derived.Lib.ItoaMem
import Derived.IntWalk
import Derived.Lib.Strings
import Derived.Laws.Cover1
import Derived.Scope
set_option linter.all false
section
namespace Go.Abs
abbrev ByS:=List UInt8
abbrev eSt:Value:=.string ⟨#[]⟩
def GF (w:World):Prop:=(∃ m:Int,w.cell? ⟨0,0,none⟩=some (.int .i64 m))/\(∃ ev,w.cell? ⟨1,0,none⟩=some ev/\(ev=.nilIface\/∃ te pe,ev=.iface te pe))/\
 (∃ ev,w.cell? ⟨2,0,none⟩=some ev/\(ev=.nilIface\/∃ te pe,ev=.iface te pe))/\∃ el fz,w.heap[3]?=some (.cells (Lib.pow10Tab.map λz=>Value.int .u64 z).toArray el fz)
end Go.Abs
end
section
namespace Go.Abs
inductive PV where
 | sc (v:Value)
 | sl (n:Nat) (cells:List PV)
 | pt (o:Option (List PV))
inductive AV where
 | any
 | oc
 | pv (p:PV)
 | ptr (k off:Nat)
 | arr (k n:Nat)
 | sp (cells:List PV)
 | fn (f:FuncId) (first captured:List AV)
 | agg (cs:List AV)
 | gZ (vs:List AV)
 | ny (t:TypeId) (v:AV)
structure Gh where
 ρ:Nat->Option Nat
 cp:Nat->Nat
 G:Nat->Option (List PV)
inductive PR (g:Gh):PV->Value->Prop
 | sc (v:Value):PR g (.sc v) v
 | nil (a:Option Addr) (cap:Nat):PR g (.sl 0 []) (.slice a 0 cap)
 | sl (b:Nat) (ys:List PV) (off n cap:Nat) (cells:List PV) (h:g.G b=some ys) (hl:off+cells.length<=ys.length)
  (hc:cells=(ys.drop off).take cells.length) (hn:n<=cap):PR g (.sl n cells) (.slice (some ⟨b,off,none⟩) n cap)
 | FE:PR g (.pt none) (.pointer none)
 | Fx (b:Nat) (ys:List PV) (off:Nat) (cells:List PV) (h:g.G b=some ys) (hl:off+cells.length<=ys.length)
  (hc:cells=(ys.drop off).take cells.length):PR g (.pt (some cells)) (.pointer (some ⟨b,off,none⟩))
inductive mQ (g:Gh):List PV->List Value->Prop
 | nil:mQ g [] []
 | cons {p:PV} {v:Value} {ps:List PV} {vs:List Value} (h:PR g p v) (t:mQ g ps vs):mQ g (p::ps) (v::vs)
mutual
inductive VR (g:Gh):AV->Value->Prop
 | any (v:Value):VR g .any v
 | oc {v:Value} (h:v.oneCell'=true):VR g .oc v
 | pv {p:PV} {v:Value} (h:PR g p v):VR g (.pv p) v
 | ptr {k b:Nat} (off:Nat) (h:g.ρ k=some b):VR g (.ptr k off) (.pointer (some ⟨b,off,none⟩))
 | arr {k b:Nat} (n:Nat) (h:g.ρ k=some b):VR g (.arr k n) (.slice (some ⟨b,0,none⟩) n (g.cp k))
 | qH {k:Nat} (h:g.ρ k=none):VR g (.arr k 0) (.slice none 0 0)
 | sp {b:Nat} {ys:List PV} (off:Nat) {cells:List PV} (h:g.G b=some ys) (hl:off+cells.length<=ys.length) (hc:cells=(ys.drop off).take cells.length) :
  VR g (.sp cells) (.pointer (some ⟨b,off,none⟩))
 | fn (f:FuncId) {x y:List AV} {xs ys:List Value} (hx:iv g x xs) (hy:iv g y ys):VR g (.fn f x y) (.func (.func f) xs.toArray ys.toArray)
 | agg {cs:List AV} {vs:List Value} (h:iv g cs vs):VR g (.agg cs) (.agg vs.toArray)
 | gZ {cs:List AV} {vs:List Value} (h:iv g cs vs):VR g (.gZ cs) (.tuple vs.toArray)
 | ny (t:TypeId) {x:AV} {v:Value} (h:VR g x v):VR g (.ny t x) (.iface t v)
inductive iv (g:Gh):List AV->List Value->Prop
 | nil:iv g [] []
 | cons {p:AV} {v:Value} {ps:List AV} {vs:List Value} (h:VR g p v) (t:iv g ps vs):iv g (p::ps) (v::vs)
end
theorem iv.length {g:Gh} {cs:List AV}:∀ {vs:List Value},iv g cs vs->cs.length=vs.length:=by
 induction cs with
 | nil=>intro vs h;cases h;rfl
 | cons a l ih=>intro vs h;cases h with|cons _ t=>simp[ih t]
theorem mQ.length {g:Gh} {cs:List PV}:∀ {vs:List Value},mQ g cs vs->cs.length=vs.length:=by
 induction cs with
 | nil=>intro vs h;cases h;rfl
 | cons a l ih=>intro vs h;cases h with|cons _ t=>simp[ih t]
theorem iv.get {g:Gh} {cs:List AV}:∀ {vs:List Value},iv g cs vs->∀ (i:Nat) (x:AV),cs[i]?=some x->∃ v,vs[i]?=some v/\VR g x v:=by
 induction cs with
 | nil=>intro vs h i x hx;simp at hx
 | cons a l ih=>
  intro vs h i x hx
  cases h with
  | cons h0 t=>
   cases i with
   | zero=>simp at hx;subst hx;exact ⟨_,rfl,h0⟩
   | succ i=>simpa using ih t i x (by simpa using hx)
theorem mQ.get {g:Gh} {cs:List PV}:∀ {vs:List Value},mQ g cs vs->∀ (i:Nat) (x:PV),cs[i]?=some x->∃ v,vs[i]?=some v/\PR g x v:=by
 induction cs with
 | nil=>intro vs h i x hx;simp at hx
 | cons a l ih=>
  intro vs h i x hx
  cases h with
  | cons h0 t=>
   cases i with
   | zero=>simp at hx;subst hx;exact ⟨_,rfl,h0⟩
   | succ i=>simpa using ih t i x (by simpa using hx)
theorem iv.append {g:Gh} {cs ds:List AV}:∀ {vs us:List Value},iv g cs vs->iv g ds us->iv g (cs++ds) (vs++us):=by
 induction cs with
 | nil=>intro vs us h hd;cases h;simpa using hd
 | cons a l ih=>intro vs us h hd;cases h with|cons h0 t=>exact .cons h0 (ih t hd)
theorem mQ.append {g:Gh} {cs ds:List PV}:∀ {vs us:List Value},mQ g cs vs->mQ g ds us->mQ g (cs++ds) (vs++us):=by
 induction cs with
 | nil=>intro vs us h hd;cases h;simpa using hd
 | cons a l ih=>intro vs us h hd;cases h with|cons h0 t=>exact .cons h0 (ih t hd)
theorem iv.drop {g:Gh}:∀ (i:Nat) {cs:List AV} {vs:List Value},iv g cs vs->iv g (cs.drop i) (vs.drop i):=by
 intro i
 induction i with
 | zero=>intro cs vs h;simpa using h
 | succ i ih=>intro cs vs h;cases h with
  | nil=>exact .nil
  | cons _ t=>simpa using ih t
theorem iv.take {g:Gh}:∀ (i:Nat) {cs:List AV} {vs:List Value},iv g cs vs->iv g (cs.take i) (vs.take i):=by
 intro i
 induction i with
 | zero=>intro cs vs h;simpa using iv.nil
 | succ i ih=>intro cs vs h;cases h with
  | nil=>exact .nil
  | cons h0 t=>simpa using iv.cons h0 (ih t)
theorem mQ.drop {g:Gh}:∀ (i:Nat) {cs:List PV} {vs:List Value},mQ g cs vs->mQ g (cs.drop i) (vs.drop i):=by
 intro i
 induction i with
 | zero=>intro cs vs h;simpa using h
 | succ i ih=>intro cs vs h;cases h with
  | nil=>exact .nil
  | cons _ t=>simpa using ih t
theorem mQ.take {g:Gh}:∀ (i:Nat) {cs:List PV} {vs:List Value},mQ g cs vs->mQ g (cs.take i) (vs.take i):=by
 intro i
 induction i with
 | zero=>intro cs vs h;simpa using mQ.nil
 | succ i ih=>intro cs vs h;cases h with
  | nil=>exact .nil
  | cons h0 t=>simpa using mQ.cons h0 (ih t)
theorem mQ.JX {g:Gh} {cs:List PV}:∀ {vs:List Value},mQ g cs vs->iv g (cs.map .pv) vs:=by
 induction cs with
 | nil=>intro vs h;cases h;exact .nil
 | cons a l ih=>intro vs h;cases h with|cons h0 t=>exact .cons (.pv h0) (ih t)
def AV.eG (k:Nat):AV->Bool
 | .any|.oc|.pv _|.sp _=>false
 | .ptr j _=>j==k
 | .arr j _=>j==k
 | .fn _ xs ys=>fP k xs||fP k ys
 | .agg cs=>fP k cs
 | .gZ cs=>fP k cs
 | .ny _ v=>v.eG k
where
 fP (k:Nat):List AV->Bool
  | []=>false
  | x::xs=>x.eG k||fP k xs
structure lj (nn:Nat->Prop) (g g':Gh):Prop where
 ρ:∀ k,¬ nn k->g'.ρ k=g.ρ k
 cp:∀ k,¬ nn k->g'.cp k=g.cp k
 G:∀ b ys,g.G b=some ys->∃ zs,g'.G b=some (ys++zs)
theorem lj.refl (nn:Nat->Prop) (g:Gh):lj nn g g:=⟨λ_ _=>rfl,λ_ _=>rfl,λ_ _ h=>⟨[],by simpa using h⟩⟩
theorem lj.trans {nn:Nat->Prop} {a b c:Gh} (h:lj nn a b) (h':lj nn b c):lj nn a c:=
 ⟨λk hk=>(h'.ρ k hk).trans (h.ρ k hk),λk hk=>(h'.cp k hk).trans (h.cp k hk),λb ys hb=>by
  obtain ⟨zs,h1⟩:=h.G b ys hb;obtain ⟨us,h2⟩:=h'.G b _ h1;exact ⟨zs++us,by rw[h2,List.append_assoc]⟩⟩
theorem Ar {ys zs:List PV} {off:Nat} {cells:List PV} (hl:off+cells.length<=ys.length) (hc:cells=(ys.drop off).take cells.length) :
  off+cells.length<=(ys++zs).length/\cells=((ys++zs).drop off).take cells.length:=by
 refine ⟨by simp;omega,?_⟩
 rw[List.drop_append_of_le_length (by omega),List.take_append_of_le_length (by simp;omega)]
 exact hc
theorem PR.le {nn:Nat->Prop} {g g':Gh} (hg:lj nn g g') {p:PV} {v:Value} (h:PR g p v):PR g' p v:=by
 cases h with
 | sc=>exact .sc _
 | nil=>exact .nil _ _
 | sl b ys off n cap cells h hl hc hn=>
  obtain ⟨zs,h'⟩:=hg.G _ _ h
  obtain ⟨h1,h2⟩:=Ar (zs:=zs) hl hc
  exact .sl b _ off n cap cells h' h1 h2 hn
 | FE=>exact .FE
 | Fx b ys off cells h hl hc=>
  obtain ⟨zs,h'⟩:=hg.G _ _ h
  obtain ⟨h1,h2⟩:=Ar (zs:=zs) hl hc
  exact .Fx b _ off cells h' h1 h2
theorem mQ.le {nn:Nat->Prop} {g g':Gh} (hg:lj nn g g') {ps:List PV}:∀ {vs:List Value},mQ g ps vs->mQ g' ps vs:=by
 induction ps with
 | nil=>intro vs h;cases h;exact .nil
 | cons a l ih=>intro vs h;cases h with|cons h0 t=>exact .cons (h0.le hg) (ih t)
theorem PR.congr {g g':Gh} (hG:∀ b ys,g.G b=some ys->g'.G b=some ys) {p:PV} {v:Value} (h:PR g p v):PR g' p v:=by
 cases h with
 | sc=>exact .sc _
 | nil=>exact .nil _ _
 | sl b ys off n cap cells h hl hc hn=>exact .sl b ys off n cap cells (hG _ _ h) hl hc hn
 | FE=>exact .FE
 | Fx b ys off cells h hl hc=>exact .Fx b ys off cells (hG _ _ h) hl hc
theorem mQ.congr {g g':Gh} (hG:∀ b ys,g.G b=some ys->g'.G b=some ys) {ps:List PV}:∀ {vs:List Value},mQ g ps vs->mQ g' ps vs:=by
 induction ps with
 | nil=>intro vs h;cases h;exact .nil
 | cons a l ih=>intro vs h;cases h with|cons h0 t=>exact .cons (h0.congr hG) (ih t)
mutual
theorem VR.le {nn:Nat->Prop} {g g':Gh} (hg:lj nn g g'):∀ {x:AV} {v:Value},(∀ k,nn k->x.eG k=false)->VR g x v->VR g' x v
 | .any,_,_,_=>.any _
 | .oc,_,_,h=>by cases h with|oc h=>exact .oc h
 | .pv _,_,_,h=>by cases h with|pv h=>exact .pv (h.le hg)
 | .ptr k off,_,hm,h=>by
  cases h with|ptr _ h=>exact .ptr off (by rw[hg.ρ];exact h;intro q;simpa[AV.eG] using hm _ q)
 | .arr k n,_,hm,h=>by
  have hk:¬ nn k:=by intro q;simpa[AV.eG] using hm _ q
  cases h with
  | arr _ h=>rw[<- hg.cp k hk];exact .arr n (by rw[hg.ρ k hk];exact h)
  | qH h=>exact .qH (by rw[hg.ρ k hk];exact h)
 | .sp _,_,_,h=>by cases h with
  | sp off h hl hc=>
   obtain ⟨zs,h'⟩:=hg.G _ _ h
   obtain ⟨h1,h2⟩:=Ar (zs:=zs) hl hc
   exact .sp off h' h1 h2
 | .fn f x y,_,hm,h=>by
  cases h with
  | fn _ hx hy=>
   exact .fn f (iv.le hg (λk q=>by have:=hm k q;simp[AV.eG] at this;exact this.1) hx)
    (iv.le hg (λk q=>by have:=hm k q;simp[AV.eG] at this;exact this.2) hy)
 | .agg x,_,hm,h=>by cases h with|agg h=>exact .agg (iv.le hg (λk q=>by have:=hm k q;simpa[AV.eG] using this) h)
 | .gZ x,_,hm,h=>by cases h with|gZ h=>exact .gZ (iv.le hg (λk q=>by have:=hm k q;simpa[AV.eG] using this) h)
 | .ny t x,_,hm,h=>by cases h with|ny _ h=>exact .ny t (VR.le hg (λk q=>by have:=hm k q;simpa[AV.eG] using this) h)
theorem iv.le {nn:Nat->Prop} {g g':Gh} (hg:lj nn g g'):∀ {x:List AV} {v:List Value},(∀ k,nn k->AV.eG.fP k x=false)->iv g x v->iv g' x v
 | [],_,_,h=>by cases h;exact .nil
 | x::xs,_,hm,h=>by
  cases h with
  | cons h t=>
   exact .cons (VR.le hg (λk q=>by have:=hm k q;simp[AV.eG.fP] at this;exact this.1) h)
    (iv.le hg (λk q=>by have:=hm k q;simp[AV.eG.fP] at this;exact this.2) t)
end
inductive bh where
 | box (cells:List AV)
 | arr (el:TypeId) (sz:Nat) (cells:List PV)
 | app (el:TypeId) (sz:Nat) (cells:List PV)
def bh.isApp:bh->Bool
 | .app ..=>true
 | _=>false
def bh.cells:bh->List AV
 | .box cs=>cs
 | .arr _ _ cs=>cs.map .pv
 | .app _ _ cs=>cs.map .pv
abbrev cl:=Nat->Option bh
def Flat (cs:Array Value):Prop:=∀ v,v∈cs.toList->v.oneCell'=true
inductive kz (g:Gh) (w:World) (k:Nat):bh->Prop
 | box {b:Nat} {cells:List AV} {cs:Array Value} {el:TypeId} (h:g.ρ k=some b) (hw:w.heap[b]?=some (.cells cs el (0,0)))
  (hc:iv g cells cs.toList) (h1:Flat cs):kz g w k (.box cells)
 | qH {el:TypeId} {sz:Nat} (h:g.ρ k=none):kz g w k (.arr el sz [])
 | arr {b:Nat} {sz:Nat} {cells:List PV} {cs:Array Value} {el:TypeId} (h:g.ρ k=some b) (hw:w.heap[b]?=some (.cells cs el (0,0)))
  (hl:cells.length<=cs.size) (hz:cs.size=g.cp k*sz) (hm:g.cp k<=maxLen) (hc:mQ g cells (cs.toList.take cells.length)):kz g w k (.arr el sz cells)
 | xd {el:TypeId} {sz:Nat} (h:g.ρ k=none):kz g w k (.app el sz [])
 | app {b:Nat} {sz:Nat} {cells:List PV} {cs:Array Value} {el:TypeId} (h:g.ρ k=some b) (hG:g.G b=some cells) (hw:w.heap[b]?=some (.cells cs el (0,0)))
  (hl:cells.length<=cs.size) (hz:cs.size=g.cp k*sz) (hm:g.cp k<=maxLen) (hc:mQ g cells (cs.toList.take cells.length)):kz g w k (.app el sz cells)
def DF (g:Gh) (w:World):Prop:=∀ b ys,g.G b=some ys->∃ cs el fz,w.heap[b]?=some (.cells cs el fz)/\ys.length<=cs.size/\mQ g ys (cs.toList.take ys.length)
structure Env where
 wS:World
 w0:World
 own:Nat->Prop
 G0:Nat->Option (List PV)
 fix:Nat->Option Nat
 ke:Nat->Nat
structure vB (E:Env) (g:Gh) (σ:cl) (w:World):Prop where
 yM:∀ (b:Nat) (cs:Array Value) (el:TypeId) (fz:Nat×Nat),E.w0.heap[b]?=some (.cells cs el fz)->∃ cs':Array Value,w.heap[b]?=some (.cells cs' el fz)/\cs'.size=cs.size
 flat:∀ (k b:Nat) (cs:Array Value) (el:TypeId) (fz:Nat×Nat),E.fix k=some b->E.w0.heap[b]?=some (.cells cs el fz)->Flat cs->∃ cs':Array Value,w.heap[b]?=some (.cells cs' el fz)/\Flat cs'
 set:∀ b,b<E.wS.heap.size->w.heap[b]?=E.wS.heap[b]?
 yN:E.wS.heap.size<=E.w0.heap.size
 hi:∀ k b,(σ k).isSome=true->g.ρ k=some b->E.wS.heap.size<=b
 gf:GF E.wS
 o7:∀ k b,E.fix k=some b->b<E.w0.heap.size
 pD:∀ k b,E.fix k=some b->g.G b=none
 o8:∀ k b k',E.fix k=some b->(σ k').isSome=true->g.ρ k'=some b->k'=k
 o9:∀ k b e,E.fix k=some b->σ k=some e->∃ cs,e=.box cs
structure Rel (E:Env) (g:Gh) (σ:cl) (w:World):Prop where
 kX:∀ k e,σ k=some e->kz g w k e
 inj:∀ k k' b,(σ k).isSome=true->(σ k').isSome=true->g.ρ k=some b->g.ρ k'=some b->k=k'
 gl:DF g w
 apart:∀ k b e,σ k=some e->e.isApp=false->g.ρ k=some b->g.G b=none
 size:E.w0.heap.size<=w.heap.size
 pV:∀ b,b<E.w0.heap.size->¬ E.own b->w.heap[b]?=E.w0.heap[b]?
 own:∀ k b,(σ k).isSome=true->g.ρ k=some b->E.own b\/E.w0.heap.size<=b
 fix:∀ k b,E.fix k=some b->g.ρ k=some b
 ke:∀ k b,E.fix k=some b->g.cp k=E.ke k
 g0:∀ b ys,E.G0 b=some ys->∃ zs,g.G b=some (ys++zs)
 gn:∀ b ys,g.G b=some ys->E.G0 b=some ys\/E.own b\/E.w0.heap.size<=b
 os:w.os=E.w0.os
 out:w.output=E.w0.output
 tape:w.tape=E.w0.tape
 x:vB E g σ w
def Env.of (wS:World) (g:Gh) (σ:cl) (w:World):Env where
 wS:=wS
 w0:=w
 own:=λb=>∃ k,(σ k).isSome=true/\g.ρ k=some b
 G0:=g.G
 fix:=λk=>match σ k with|some (.box _)=>g.ρ k|_=>none
 ke:=g.cp
def bh.le (e e':bh):Prop:=∀ (g:Gh) (w:World) (k:Nat),kz g w k e->kz g w k e'
theorem bh.le_refl (e:bh):e.le e:=λ_ _ _ h=>h
def Kf (σ:cl) (p:Nat×bh):Prop:=∃ e,σ p.1=some e/\e.le p.2
structure eQ where
 s:Nat->AV
 ds:List (FuncId×List AV)
inductive DR (g:Gh):List (FuncId×List AV)->List Deferred->Prop
 | nil:DR g [] []
 | cons {f:FuncId} {cap:List AV} {cv:List Value} {l:List (FuncId×List AV)} {ds:List Deferred} (h:iv g cap cv) (t:DR g l ds) :
  DR g ((f,cap)::l) ({ target:=.fn (.func f) cv.toArray,args:=#[] }::ds)
structure FR (n:Nat) (g:Gh) (fr:eQ) (a:Act):Prop where
 size:a.tmps.size=n
 jH:∀ i,VR g (fr.s i) (a.tmps.getD i undef)
 ds:DR g fr.ds a.defers
def eQ.put (fr:eQ) (d:Nat) (v:AV):eQ:={ fr with s:=λi=>if i=d then v else fr.s i }
def eQ.jM (fr:eQ) (d:Option Nat) (v:AV):eQ:=match d with|some d=>fr.put d v|none=>fr
def eQ.val (fr:eQ):Operand->AV
 | .tmp t=>fr.s t
 | .const v=>.pv (.sc v)
 | .global _=>.any
 | .func f=>.fn f [] []
theorem FR.eval {n:Nat} {g:Gh} {fr:eQ} {a:Act} (h:FR n g fr a) (x:Operand):VR g (fr.val x) (a.eval x):=by
 cases x with
 | tmp t=>exact h.jH t
 | const v=>exact .pv (.sc v)
 | global k=>exact .any _
 | func f=>exact .fn f .nil .nil
theorem FR.put {n:Nat} {g:Gh} {fr:eQ} {a:Act} (h:FR n g fr a) {d:Option Nat} {v:AV} {c:Value} (hd:∀ x,d=some x->x<n) (hv:VR g v c) :
  FR n g (fr.jM d v) (a.put d c):=by
 cases d with
 | none=>exact h
 | some d=>
  refine ⟨by simp[Act.put,h.size],λi=>?_,h.ds⟩
  simp only[eQ.jM,eQ.put,Act.put]
  by_cases hi:i=d
  ·subst hi
   have:=hd i rfl
   simpa[Array.getD_eq_getD_getElem?,h.size,this] using hv
  ·rw[if_neg hi]
   have hne:d≠i:=λq=>hi q.symm
   have:=h.jH i
   simpa[Array.getD_eq_getD_getElem?,Array.getElem?_setIfInBounds_ne hne] using this
def eQ.clear (fr:eQ) (k:Nat):Prop:=(∀ i,(fr.s i).eG k=false)/\∀ p∈fr.ds,AV.eG.fP k p.2=false
def cl.clear (σ:cl) (k:Nat):Prop:=∀ j e,σ j=some e->AV.eG.fP k e.cells=false
theorem DR.le {nn:Nat->Prop} {g g':Gh} (hg:lj nn g g') {l:List (FuncId×List AV)}:∀ {ds:List Deferred},(∀ k,nn k->∀ p∈l,AV.eG.fP k p.2=false)->
  DR g l ds->DR g' l ds:=by
 induction l with
 | nil=>intro ds _ h;cases h;exact .nil
 | cons a l ih=>intro ds hm h;cases h with
  | cons h0 t=>exact .cons (h0.le hg λk q=>hm k q (_,_) (List.mem_cons_self ..)) (ih (λk q p hp=>hm k q p (by simp[hp])) t)
theorem FR.le {nn:Nat->Prop} {n:Nat} {g g':Gh} (hg:lj nn g g') {fr:eQ} {a:Act} (hm:∀ k,nn k->fr.clear k) (h:FR n g fr a):FR n g' fr a:=
 ⟨h.size,λi=>(h.jH i).le hg λk q=>(hm k q).1 i,h.ds.le hg λk q=>(hm k q).2⟩
theorem kz.le {nn:Nat->Prop} {g g':Gh} {w w':World} (hg:lj nn g g') {k:Nat} {e:bh} (hk:¬ nn k) (hGe:∀ b,g.ρ k=some b->e.isApp=true->g'.G b=g.G b) (hm:∀ j,nn j->AV.eG.fP j e.cells=false)
  (hw:∀ b,g.ρ k=some b->w'.heap[b]?=w.heap[b]?) (h:kz g w k e):kz g' w' k e:=by
 cases h with
 | box h hw0 hc h1=>exact .box (by rw[hg.ρ k hk];exact h) (by rw[hw _ h];exact hw0) (hc.le hg hm) h1
 | qH h=>exact .qH (by rw[hg.ρ k hk];exact h)
 | arr h hw0 hl hz hx hc=>exact .arr (by rw[hg.ρ k hk];exact h) (by rw[hw _ h];exact hw0) hl (by rw[hg.cp k hk];exact hz) (by rw[hg.cp k hk];exact hx) (hc.le hg)
 | xd h=>exact .xd (by rw[hg.ρ k hk];exact h)
 | app h hG hw0 hl hz hx hc=>exact .app (by rw[hg.ρ k hk];exact h) (by rw[hGe _ h rfl];exact hG) (by rw[hw _ h];exact hw0) hl (by rw[hg.cp k hk];exact hz) (by rw[hg.cp k hk];exact hx) (hc.le hg)
def AV.one:AV->Bool
 | .any|.agg _|.gZ _=>false
 | .pv (.sc v)=>v.oneCell'
 | _=>true
def AV.kF:List AV->Bool
 | []=>true
 | x::xs=>x.one&&kF xs
theorem VR.one {g:Gh} {v:AV} {c:Value} (h:VR g v c) (ho:v.one=true):c.oneCell'=true:=by
 cases h with
 | any=>simp[AV.one] at ho
 | oc h=>exact h
 | pv h=>cases h with
  | sc v=>exact ho
  | nil=>rfl
  | sl=>rfl
  | FE=>rfl
  | Fx=>rfl
 | ptr=>rfl
 | arr=>rfl
 | qH=>rfl
 | sp=>rfl
 | fn=>rfl
 | agg=>simp[AV.one] at ho
 | gZ=>simp[AV.one] at ho
 | ny=>rfl
theorem iv.one {g:Gh}:∀ {l:List AV} {vs:List Value},iv g l vs->AV.kF l=true->∀ v,v∈vs->v.oneCell'=true
 | _,_,.nil,_,v,hv=>by cases hv
 | _,_,.cons h t,ho,v,hv=>by
  simp[AV.kF] at ho;rcases List.mem_cons.1 hv with q|q
  ·subst q;exact h.one ho.1
  exact t.one ho.2 v q
end Go.Abs
end
section
namespace Go.Abs
def cl.set (σ:cl) (k:Nat) (e:bh):cl:=λj=>if j=k then some e else σ j
def cl.del (σ:cl) (k:Nat):cl:=λj=>if j=k then none else σ j
def Gh.bind (g:Gh) (k b c:Nat):Gh:={ g with ρ:=λj=>if j=k then some b else g.ρ j,cp:=λj=>if j=k then c else g.cp j }
def Gh.unbind (g:Gh) (k:Nat):Gh:={ g with ρ:=λj=>if j=k then none else g.ρ j }
def Gh.dH (g:Gh) (b:Nat) (ys:List PV):Gh:={ g with G:=λj=>if j=b then some ys else g.G j }
theorem Gh.Bw {g:Gh} {b:Nat} {ys:List PV} (h:g.G b=some ys):∃ zs,g.G b=some (ys++zs):=⟨[],by simpa using h⟩
theorem lj.bind (g:Gh) (k b c:Nat):lj (·=k) g (g.bind k b c):=
 ⟨λj hj=>by simp[Gh.bind,hj],λj hj=>by simp[Gh.bind,hj],λ_ _ h=>Gh.Bw h⟩
theorem lj.unbind (g:Gh) (k:Nat):lj (·=k) g (g.unbind k):=
 ⟨λj hj=>by simp[Gh.unbind,hj],λ_ _=>rfl,λ_ _ h=>Gh.Bw h⟩
theorem lj.dH {nn:Nat->Prop} (g:Gh) (b:Nat) (ys:List PV) (h:g.G b=none):lj nn g (g.dH b ys):=
 ⟨λ_ _=>rfl,λ_ _=>rfl,λj zs hj=>by
  by_cases q:j=b
  ·subst q;rw[h] at hj;cases hj
  exact ⟨[],by simpa[Gh.dH,q] using hj⟩⟩
theorem lj.grow {nn:Nat->Prop} (g:Gh) (b:Nat) (ys us:List PV) (h:g.G b=some ys):lj nn g (g.dH b (ys++us)):=
 ⟨λ_ _=>rfl,λ_ _=>rfl,λj zs hj=>by
  by_cases q:j=b
  ·subst q;rw[h] at hj;cases hj;exact ⟨us,by simp[Gh.dH]⟩
  exact ⟨[],by simpa[Gh.dH,q] using hj⟩⟩
theorem DF.lt {g:Gh} {w:World} (h:DF g w) {b:Nat} {ys:List PV} (hb:g.G b=some ys):b<w.heap.size:=by
 obtain ⟨cs,el,fz,hw,_⟩:=h b ys hb;rcases Nat.lt_or_ge b w.heap.size with q|q
 ·exact q
 simp[Array.getElem?_eq_none q] at hw
theorem DF.fresh {g:Gh} {w:World} (h:DF g w):g.G w.heap.size=none:=by
 cases hb:g.G w.heap.size with
 | none=>rfl
 | some ys=>exact absurd (h.lt hb) (Nat.lt_irrefl _)
theorem DF.le {nn:Nat->Prop} {g g':Gh} {w w':World} (hg:lj nn g g') (hG:g'.G=g.G) (hw:∀ b ys,g.G b=some ys->w'.heap[b]?=w.heap[b]?) (h:DF g w):DF g' w':=by
 intro b ys hb;rw[hG] at hb;obtain ⟨cs,el,fz,h1,h2,h3⟩:=h b ys hb;exact ⟨cs,el,fz,by rw[hw b ys hb];exact h1,h2,h3.le hg⟩
theorem kz.lt {g:Gh} {w:World} {k b:Nat} {e:bh} (h:kz g w k e) (hb:g.ρ k=some b):b<w.heap.size:=by
 have key:∀ {o:Obj},w.heap[b]?=some o->b<w.heap.size:=by
  intro o ho;rcases Nat.lt_or_ge b w.heap.size with q|q
  ·exact q
  simp[Array.getElem?_eq_none q] at ho
 cases h with
 | box h hw=>rw[h] at hb;cases hb;exact key hw
 | qH h=>rw[h] at hb;cases hb
 | arr h hw=>rw[h] at hb;cases hb;exact key hw
 | xd h=>rw[h] at hb;cases hb
 | app h hG hw=>rw[h] at hb;cases hb;exact key hw
theorem Rel.lt {E:Env} {g:Gh} {σ:cl} {w:World} (h:Rel E g σ w) {k b:Nat} (hk:(σ k).isSome=true) (hb:g.ρ k=some b):b<w.heap.size:=by
 cases hs:σ k with
 | none=>rw[hs] at hk;cases hk
 | some e=>exact (h.kX k e hs).lt hb
theorem r5 {w:World} {b:Nat} {o:Obj} (h:w.heap[b]?=some o):b<w.heap.size:=(Array.getElem?_eq_some_iff.1 h).1
theorem vB.sZ {E:Env} {g g':Gh} {σ σ':cl} {w w':World} (h:vB E g σ w) (hw:w'.heap=w.heap) (hG:g'.G=g.G) (hσ:∀ k b,(σ' k).isSome=true->g'.ρ k=some b->∃ k0,(σ k0).isSome=true/\g.ρ k0=some b/\(k0=k\/∃ e,σ k0=some e/\∀ cs,e≠.box cs))
  (hb:∀ k b e',E.fix k=some b->σ' k=some e'->(∃ e,σ k=some e/\((∃ cs,e=.box cs)->∃ cs,e'=.box cs))):vB E g' σ' w' where
 yM:=by rw[hw];exact h.yM
 flat:=by rw[hw];exact h.flat
 set:=by rw[hw];exact h.set
 yN:=h.yN
 hi:=λk b hk hr=>let ⟨k0,h1,h2,_⟩:=hσ k b hk hr;h.hi k0 b h1 h2
 gf:=h.gf
 o7:=h.o7
 pD:=by rw[hG];exact h.pD
 o8:=λk b k' hf hk hr=>by
  obtain ⟨k0,h1,h2,h3⟩:=hσ k' b hk hr
  have h4:=h.o8 k b k0 hf h1 h2
  subst h4
  rcases h3 with q|⟨e,h5,h6⟩
  ·exact q.symm
  ·obtain ⟨cs,h7⟩:=h.o9 k0 b e hf h5
   exact absurd h7 (h6 cs)
 o9:=λk b e' hf hk=>by
  obtain ⟨e,h1,h2⟩:=hb k b e' hf hk
  exact h2 (h.o9 k b e hf h1)
theorem vB.As {E:Env} {g g':Gh} {σ:cl} {w:World} (h:vB E g σ w) (hsz:E.w0.heap.size<=w.heap.size) {o:Obj} (hr:g'.ρ=g.ρ) (hG:∀ b,b≠w.heap.size->g'.G b=g.G b):vB E g' σ (w.alloc o) where
 yM:=λb cs el fz hb=>let ⟨cs',h1,h2⟩:=h.yM b cs el fz hb;⟨cs',by rw[heap_alloc_old w o b (r5 h1)];exact h1,h2⟩
 flat:=λk b cs el fz hk hb hf=>let ⟨cs',h1,h2⟩:=h.flat k b cs el fz hk hb hf;⟨cs',by rw[heap_alloc_old w o b (r5 h1)];exact h1,h2⟩
 set:=λb hb=>by
  have h1:=h.set b hb;have:b<w.heap.size:=by
   have:E.wS.heap[b]?=some E.wS.heap[b]:=Array.getElem?_eq_getElem hb;rw[this] at h1;exact r5 h1
  rw[heap_alloc_old w o b this];exact h1
 yN:=h.yN
 hi:=by rw[hr];exact h.hi
 gf:=h.gf
 o7:=h.o7
 pD:=λk b hf=>by rw[hG b (by have:=h.o7 k b hf;omega)];exact h.pD k b hf
 o8:=by rw[hr];exact h.o8
 o9:=h.o9
theorem vB.alloc {E:Env} {g g':Gh} {σ:cl} {w:World} (h:vB E g σ w) (hsz:E.w0.heap.size<=w.heap.size) {nm:Nat} {e:bh} {o:Obj} (hf:E.fix nm=none) (hr:∀ j,j≠nm->g'.ρ j=g.ρ j) (hrn:g'.ρ nm=some w.heap.size)
  (hG:∀ b,b≠w.heap.size->g'.G b=g.G b):vB E g' (σ.set nm e) (w.alloc o) where
 yM:=(h.As (g':=g) hsz rfl (λ_ _=>rfl)).yM
 flat:=(h.As (g':=g) hsz rfl (λ_ _=>rfl)).flat
 set:=(h.As (g':=g) hsz rfl (λ_ _=>rfl)).set
 yN:=h.yN
 hi:=λk b hk hb=>by
  by_cases q:k=nm
  ·subst q;rw[hrn] at hb;cases hb;exact Nat.le_trans h.yN hsz
  ·rw[hr k q] at hb;exact h.hi k b (by simpa[cl.set,q] using hk) hb
 gf:=h.gf
 o7:=h.o7
 pD:=λk b hf=>by rw[hG b (by have:=h.o7 k b hf;omega)];exact h.pD k b hf
 o8:=λk b k' hfk hk hb=>by
  by_cases q:k'=nm
  ·subst q;rw[hrn] at hb;cases hb
   have:=h.o7 k _ hfk;omega
  ·rw[hr k' q] at hb;exact h.o8 k b k' hfk (by simpa[cl.set,q] using hk) hb
 o9:=λk b e' hfk hk=>by
  have q:k≠nm:=λq=>by subst q;rw[hf] at hfk;cases hfk
  exact h.o9 k b e' hfk (by simpa[cl.set,q] using hk)
theorem vB.write {E:Env} {g g':Gh} {σ:cl} {w:World} (h:vB E g σ w) {k c:Nat} {e:bh} {cs1 cs0:Array Value} {el0:TypeId} {fz0:Nat×Nat} (hks:(σ k).isSome=true) (hb:g.ρ k=some c) (hr:g'.ρ=g.ρ)
  (h0:w.heap[c]?=some (.cells cs0 el0 fz0)) (hz:cs1.size=cs0.size) (hbx:∀ e0,σ k=some e0->(∃ cs,e0=.box cs)->∃ cs,e=.box cs) (hG:∀ b,b≠c->g'.G b=g.G b) (hGc:(∀ k',E.fix k'≠some c)\/g'.G c=g.G c) (hfl:(∃ k',E.fix k'=some c)->Flat cs0->Flat cs1):vB E g' (σ.set k e) (w.setRow c cs1) where
 yM:=λb cs el fz hb=>by
  obtain ⟨cs',h1,h2⟩:=h.yM b cs el fz hb
  by_cases q:b=c
  ·subst q
   rw[h0] at h1;cases h1
   exact ⟨cs1,setRow_heap w b cs0 cs1 _ _ h0,hz.trans h2⟩
  ·exact ⟨cs',by rw[setRow_other w c b cs1 q];exact h1,h2⟩
 flat:=λk b cs el fz hk hb hf=>by
  obtain ⟨cs',h1,h2⟩:=h.flat k b cs el fz hk hb hf
  by_cases q:b=c
  ·subst q
   rw[h0] at h1;cases h1
   exact ⟨cs1,setRow_heap w b cs0 cs1 _ _ h0,hfl ⟨k,hk⟩ h2⟩
  ·exact ⟨cs',by rw[setRow_other w c b cs1 q];exact h1,h2⟩
 set:=λb hlt=>by
  have:=h.hi k c hks hb
  rw[setRow_other w c b cs1 (by omega)];exact h.set b hlt
 yN:=h.yN
 hi:=λj b hj hjb=>by
  rw[hr] at hjb
  by_cases q:j=k
  ·subst q;exact h.hi j b hks hjb
  ·exact h.hi j b (by simpa[cl.set,q] using hj) hjb
 gf:=h.gf
 o7:=h.o7
 pD:=λj b hf=>by
  by_cases q:b=c
  ·subst q
   rcases hGc with q|q
   ·exact absurd hf (q j)
   ·rw[q];exact h.pD j b hf
  ·rw[hG b q];exact h.pD j b hf
 o8:=λj b j' hf hj hjb=>by
  rw[hr] at hjb
  by_cases q:j'=k
  ·subst q;exact h.o8 j b j' hf hks hjb
  ·exact h.o8 j b j' hf (by simpa[cl.set,q] using hj) hjb
 o9:=λj b e' hf hj=>by
  by_cases q:j=k
  ·subst q
   simp[cl.set] at hj;subst hj
   cases hs:σ j with
   | none=>rw[hs] at hks;cases hks
   | some e0=>exact hbx e0 hs (h.o9 j b e0 hf hs)
  ·exact h.o9 j b e' hf (by simpa[cl.set,q] using hj)
theorem lF (w:World) (o:Obj) {b:Nat} (h:b<w.heap.size):(w.alloc o).heap[b]?=w.heap[b]?:=heap_alloc_old w o b h
theorem Rel.alloc {E:Env} {g:Gh} {σ:cl} {w:World} (h:Rel E g σ w) {nm cap:Nat} {e:bh} {o:Obj} (hc:σ.clear nm) (hf:E.fix nm=none)
  (he:kz (g.bind nm w.heap.size cap) (w.alloc o) nm e):Rel E (g.bind nm w.heap.size cap) (σ.set nm e) (w.alloc o):=by
 have hle:=lj.bind g nm w.heap.size cap
 have hne:∀ j,(σ.set nm e j).isSome=true->j≠nm->(σ j).isSome=true:=λj hj q=>by simpa[cl.set,q] using hj
 have hρ:∀ j,j≠nm->(g.bind nm w.heap.size cap).ρ j=g.ρ j:=λj q=>by simp[Gh.bind,q]
 have hρn:(g.bind nm w.heap.size cap).ρ nm=some w.heap.size:=by simp[Gh.bind]
 refine { kX:=?_,inj:=?_,gl:=?_,apart:=?_,size:=?_,pV:=?_,own:=?_,fix:=?_,ke:=?_,g0:=h.g0,gn:=h.gn,os:=h.os,out:=h.out,tape:=h.tape,x:=h.x.alloc h.size hf hρ hρn (λ_ _=>rfl) }
 ·intro k e' hk
  by_cases q:k=nm
  ·subst q;simp[cl.set] at hk;subst hk;exact he
  ·simp[cl.set,q] at hk
   exact (h.kX k e' hk).le hle q (λ_ _ _=>rfl) (λj hj=>by subst hj;exact hc k e' hk) (λb hb=>lF w _ ((h.kX k e' hk).lt hb))
 ·intro k k' b hk hk' hb hb'
  by_cases q:k=nm
  ·by_cases q':k'=nm
   ·rw[q,q']
   ·subst q
    rw[hρn] at hb;cases hb
    rw[hρ k' q'] at hb'
    exact absurd (h.lt (hne k' hk' q') hb') (Nat.lt_irrefl _)
  ·by_cases q':k'=nm
   ·subst q'
    rw[hρn] at hb';cases hb'
    rw[hρ k q] at hb
    exact absurd (h.lt (hne k hk q) hb) (Nat.lt_irrefl _)
   ·rw[hρ k q] at hb;rw[hρ k' q'] at hb'
    exact h.inj k k' b (hne k hk q) (hne k' hk' q') hb hb'
 ·exact h.gl.le hle rfl (λb ys hb=>lF w _ (h.gl.lt hb))
 ·intro k b e' hk hka hb
  by_cases q:k=nm
  ·subst q;rw[hρn] at hb;cases hb;exact h.gl.fresh
  ·rw[hρ k q] at hb;exact h.apart k b e' (by simpa[cl.set,q] using hk) hka hb
 ·rw[World.size_alloc];exact Nat.le_succ_of_le h.size
 ·intro b hb ho
  rw[lF w _ (Nat.lt_of_lt_of_le hb h.size)];exact h.pV b hb ho
 ·intro k b hk hb
  by_cases q:k=nm
  ·subst q;rw[hρn] at hb;cases hb;exact .inr h.size
  ·rw[hρ k q] at hb;exact h.own k b (hne k hk q) hb
 ·intro k b hk
  have q:k≠nm:=λq=>by subst q;rw[hf] at hk;cases hk
  rw[hρ k q];exact h.fix k b hk
 ·intro k b hk
  have q:k≠nm:=λq=>by subst q;rw[hf] at hk;cases hk
  have:(g.bind nm w.heap.size cap).cp k=g.cp k:=by simp[Gh.bind,q]
  rw[this];exact h.ke k b hk
theorem Rel.DG {E:Env} {g:Gh} {σ:cl} {w:World} (h:Rel E g σ w) {ys:List PV} {cs:Array Value} {el:TypeId}
  (hl:ys.length<=cs.size) (hp:mQ (g.dH w.heap.size ys) ys (cs.toList.take ys.length)):Rel E (g.dH w.heap.size ys) σ (w.alloc (.cells cs el (0,0))):=by
 have hle:lj (λ_=>False) g (g.dH w.heap.size ys):=lj.dH g _ ys h.gl.fresh
 refine { kX:=?_,inj:=h.inj,gl:=?_,apart:=?_,size:=?_,pV:=?_,own:=h.own,fix:=h.fix,ke:=h.ke,g0:=?_,gn:=?_,os:=h.os,out:=h.out,tape:=h.tape,x:=h.x.As h.size rfl (λb q=>by simp[Gh.dH,q]) }
 ·intro k e hk
  exact (h.kX k e hk).le hle (λq=>q) (λb hb _=>by
   have:=(h.kX k e hk).lt hb
   simp[Gh.dH,Nat.ne_of_lt this]) (λ_ q=>q.elim) (λb hb=>lF w _ ((h.kX k e hk).lt hb))
 ·intro b zs hb
  by_cases q:b=w.heap.size
  ·subst q
   simp[Gh.dH] at hb;subst hb
   exact ⟨cs,el,(0,0),heap_alloc_new w _,hl,hp⟩
  ·simp[Gh.dH,q] at hb
   obtain ⟨c,e,f,h1,h2,h3⟩:=h.gl b zs hb
   exact ⟨c,e,f,by rw[lF w _ (h.gl.lt hb)];exact h1,h2,h3.le hle⟩
 ·intro k b e' hk hka hb
  have:=(h.kX k e' hk).lt hb
  have q:b≠w.heap.size:=Nat.ne_of_lt this
  simp only[Gh.dH,q,if_false]
  exact h.apart k b e' hk hka hb
 ·rw[World.size_alloc];exact Nat.le_succ_of_le h.size
 ·intro b hb ho
  rw[lF w _ (Nat.lt_of_lt_of_le hb h.size)];exact h.pV b hb ho
 ·intro b zs hb
  obtain ⟨us,h1⟩:=h.g0 b zs hb
  obtain ⟨vs,h2⟩:=hle.G b _ h1
  exact ⟨us++vs,by rw[h2,List.append_assoc]⟩
 ·intro b zs hb
  by_cases q:b=w.heap.size
  ·subst q;exact .inr (.inr h.size)
  ·simp[Gh.dH,q] at hb;exact h.gn b zs hb
theorem Rel.frozen {E:Env} {g:Gh} {σ:cl} {w:World} (h:Rel E g σ w) {ys:List PV} {cs:Array Value} {el:TypeId}
  (hl:ys.length<=cs.size) (hp:mQ g ys (cs.toList.take ys.length)):Rel E (g.dH w.heap.size ys) σ (w.alloc (.cells cs el (0,0))):=
 h.DG hl (hp.le (nn:=λ_=>False) (lj.dH g _ ys h.gl.fresh))
theorem Rel.write {E:Env} {g:Gh} {σ:cl} {w:World} (h:Rel E g σ w) {k b:Nat} {e:bh} {cs:Array Value} {e0:bh} (hk0:σ k=some e0) (ha0:e0.isApp=false) (hb:g.ρ k=some b)
  (he:kz g (w.setRow b cs) k e) (hsz:∃ (cs0:Array Value) (el:TypeId) (fz:Nat×Nat),w.heap[b]?=some (.cells cs0 el fz)/\cs.size=cs0.size/\((∃ k',E.fix k'=some b)->Flat cs0->Flat cs)) (hbx:(∃ cs,e0=.box cs)->∃ cs,e=.box cs):Rel E g (σ.set k e) (w.setRow b cs):=by
 have hk:(σ k).isSome=true:=by rw[hk0];rfl
 have hs:∀ j,(σ.set k e j).isSome=true->(σ j).isSome=true:=λj hj=>by
  by_cases q:j=k
  ·subst q;exact hk
  ·simpa[cl.set,q] using hj
 refine { kX:=?_,inj:=?_,gl:=?_,apart:=?_,size:=?_,pV:=?_,own:=?_,fix:=h.fix,ke:=h.ke,g0:=h.g0,gn:=h.gn,os:=h.os,out:=h.out,tape:=h.tape,x:=(let ⟨_,_,_,q1,q2,q3⟩:=hsz;h.x.write hk hb rfl q1 q2 (λe1 q q'=>hbx (by rw[hk0] at q;cases q;exact q')) (λ_ _=>rfl) (.inr rfl) q3) }
 ·intro j e' hj
  by_cases q:j=k
  ·subst q;simp[cl.set] at hj;subst hj;exact he
  ·simp[cl.set,q] at hj
   refine (h.kX j e' hj).le (lj.refl (λ_=>False) g) (λq=>q) (λ_ _ _=>rfl) (λ_ q=>q.elim) (λc hc=>setRow_other w b c cs ?_)
   intro hcb;subst hcb
   exact q (h.inj j k c (by rw[hj];rfl) hk hc hb)
 ·exact λj j' c hj hj'=>h.inj j j' c (hs j hj) (hs j' hj')
 ·exact h.gl.le (lj.refl (λ_=>False) g) rfl (λc ys hc=>setRow_other w b c cs (by
   intro q;subst q;rw[h.apart k c e0 hk0 ha0 hb] at hc;cases hc))
 ·intro j c e' hj hja hc
  by_cases q:j=k
  ·subst q;exact h.apart j c e0 hk0 ha0 hc
  ·exact h.apart j c e' (by simpa[cl.set,q] using hj) hja hc
 ·simpa using h.size
 ·intro c hc ho
  have hcb:c≠b:=by
   intro q;subst q
   rcases h.own k c hk hb with q|q
   ·exact ho q
   ·exact absurd hc (Nat.not_lt.2 q)
  rw[setRow_other w b c cs hcb];exact h.pV c hc ho
 ·exact λj c hj hc=>h.own j c (hs j hj) hc
theorem Rel.drew {E:Env} {g:Gh} {σ:cl} {w:World} (h:Rel E g σ w):Rel E g σ w.drew:=
 {
  kX:=λk e hk=>kz.le (w:=w) (w':=w.drew) (lj.refl (λ_=>False) g) (λq=>q) (λ_ _ _=>rfl) (λ_ q=>q.elim) (λ_ _=>rfl) (h.kX k e hk)
  inj:=h.inj,gl:=h.gl,apart:=h.apart,size:=h.size,pV:=h.pV,own:=h.own,fix:=h.fix,ke:=h.ke,g0:=h.g0,gn:=h.gn,os:=h.os,out:=h.out,tape:=h.tape,x:=h.x.sZ rfl rfl (λk b hk hb=>⟨k,hk,hb,.inl rfl⟩) (λk b e' _ hk=>⟨e',hk,id⟩) }
def Gh.alias (g:Gh) (nm k:Nat):Gh:={ g with ρ:=λj=>if j=nm then g.ρ k else g.ρ j,cp:=λj=>if j=nm then g.cp k else g.cp j }
theorem lj.alias (g:Gh) (nm k:Nat):lj (·=nm) g (g.alias nm k):=
 ⟨λj hj=>by simp[Gh.alias,hj],λj hj=>by simp[Gh.alias,hj],λ_ _ h=>Gh.Bw h⟩
theorem Rel.rename {E:Env} {g:Gh} {σ:cl} {w:World} (h:Rel E g σ w) {nm k:Nat} {e:bh} (hk:σ k=some e) (hc:(σ.del k).clear nm) (he:AV.eG.fP nm e.cells=false)
  (hf:E.fix nm=none) (hnb:∀ cs,e≠.box cs):Rel E (g.alias nm k) ((σ.del k).set nm e) w:=by
 have hle:=lj.alias g nm k
 have hn:(g.alias nm k).ρ nm=g.ρ k:=by simp[Gh.alias]
 have ho:∀ j,j≠nm->(g.alias nm k).ρ j=g.ρ j:=λj q=>by simp[Gh.alias,q]
 have hkk:(σ k).isSome=true:=by rw[hk];rfl
 have key:∀ j,(((σ.del k).set nm e) j).isSome=true->∃ i,(σ i).isSome=true/\(g.alias nm k).ρ j=g.ρ i/\(j=nm->i=k)/\(j≠nm->i=j/\i≠k):=λj hj=>by
  by_cases q:j=nm
  ·subst q;exact ⟨k,hkk,hn,λ_=>rfl,λq=>absurd rfl q⟩
  ·by_cases q':j=k
   ·subst q';simp[cl.set,cl.del,q] at hj
   ·simp[cl.set,cl.del,q,q'] at hj
    exact ⟨j,hj,ho j q,λq2=>absurd q2 q,λ_=>⟨rfl,q'⟩⟩
 refine { kX:=?_,inj:=?_,gl:=?_,apart:=?_,size:=h.size,pV:=h.pV,own:=?_,fix:=?_,ke:=?_,g0:=h.g0,gn:=h.gn,os:=h.os,out:=h.out,tape:=h.tape,x:=h.x.sZ rfl rfl (λj b hj hb=>(by
   obtain ⟨i,h1,h2,h3,h4⟩:=key j hj
   refine ⟨i,h1,h2▸hb,?_⟩
   by_cases q:j=nm
   ·have:=h3 q;subst this;exact .inr ⟨e,hk,hnb⟩
   ·exact .inl (h4 q).1)) (λj b e' hfj hj=>by
   have q:j≠nm:=λq=>by subst q;rw[hf] at hfj;cases hfj
   by_cases q':j=k
   ·subst q';simp[cl.set,cl.del,q] at hj
   ·simp[cl.set,cl.del,q,q'] at hj
    exact ⟨e',hj,id⟩) }
 ·intro j e' hj
  by_cases q:j=nm
  ·subst q
   simp[cl.set] at hj;subst hj
   have hcp:(g.alias j k).cp j=g.cp k:=by simp[Gh.alias]
   cases h.kX k e hk with
   | box h1 h2 h3 h4=>exact .box (hn.trans h1) h2 (h3.le hle λi q=>by subst q;exact he) h4
   | qH h1=>exact .qH (hn.trans h1)
   | arr h1 h2 h3 h4 h5 h6=>exact .arr (hn.trans h1) h2 h3 (by rw[hcp];exact h4) (by rw[hcp];exact h5) (h6.le hle)
   | xd h1=>exact .xd (hn.trans h1)
   | app h1 hG h2 h3 h4 h5 h6=>exact .app (hn.trans h1) hG h2 h3 (by rw[hcp];exact h4) (by rw[hcp];exact h5) (h6.le hle)
  ·have hj2:(σ.del k) j=some e':=by simpa[cl.set,q] using hj
   have hj3:σ j=some e':=by
    by_cases q':j=k
    ·subst q';simp[cl.del] at hj2
    ·simpa[cl.del,q'] using hj2
   exact (h.kX j e' hj3).le hle q (λ_ _ _=>rfl) (λi q2=>by subst q2;exact hc j e' hj2) (λ_ _=>rfl)
 ·intro j j' b hj hj' hb hb'
  obtain ⟨i,hi,hr,h1,h2⟩:=key j hj
  obtain ⟨i',hi',hr',h1',h2'⟩:=key j' hj'
  rw[hr] at hb;rw[hr'] at hb'
  have hii:=h.inj i i' b hi hi' hb hb'
  by_cases q:j=nm
  ·by_cases q':j'=nm
   ·rw[q,q']
   ·have:=h1 q;have:=h2' q';omega
  ·by_cases q':j'=nm
   ·have:=h1' q';have:=h2 q;omega
   ·have:=h2 q;have:=h2' q';omega
 ·exact h.gl.le hle rfl (λ_ _ _=>rfl)
 ·intro j b e' hj hja hb
  obtain ⟨i,hi,hr,h1,h2⟩:=key j (by rw[hj];rfl)
  rw[hr] at hb
  by_cases q:j=nm
  ·have:=h1 q;subst this
   subst q;simp[cl.set] at hj;subst hj
   exact h.apart i b _ hk hja hb
  ·obtain ⟨rfl,q2⟩:=h2 q
   exact h.apart i b e' (by simpa[cl.set,cl.del,q,q2] using hj) hja hb
 ·intro j b hj hb
  obtain ⟨i,hi,hr,_⟩:=key j hj
  rw[hr] at hb;exact h.own i b hi hb
 ·intro j b hj
  have q:j≠nm:=λq=>by subst q;rw[hf] at hj;cases hj
  rw[ho j q];exact h.fix j b hj
 ·intro j b hj
  have q:j≠nm:=λq=>by subst q;rw[hf] at hj;cases hj
  have:(g.alias nm k).cp j=g.cp j:=by simp[Gh.alias,q]
  rw[this];exact h.ke j b hj
theorem Rel.sub {E:Env} {g:Gh} {σ σ':cl} {w:World} (h:Rel E g σ w) (hs:∀ k e,σ' k=some e->σ k=some e):Rel E g σ' w:=by
 have hi:∀ k,(σ' k).isSome=true->(σ k).isSome=true:=λk hk=>by
  cases q:σ' k with
  | none=>rw[q] at hk;cases hk
  | some e=>rw[hs k e q];rfl
 exact {
  kX:=λk e hk=>h.kX k e (hs k e hk),inj:=λk k' b hk hk'=>h.inj k k' b (hi k hk) (hi k' hk'),gl:=h.gl
  apart:=λk b e hk=>h.apart k b e (hs k e hk),size:=h.size,pV:=h.pV,own:=λk b hk=>h.own k b (hi k hk),fix:=h.fix,ke:=h.ke,g0:=h.g0,gn:=h.gn,os:=h.os,out:=h.out,tape:=h.tape,x:=h.x.sZ rfl rfl (λk b hk hb=>⟨k,hi k hk,hb,.inl rfl⟩) (λk b e' _ hk=>⟨e',hs k _ hk,id⟩) }
theorem Rel.Bx {E:Env} {g:Gh} {σ:cl} {w:World} (h:Rel E g σ w) {nm cap sz:Nat} {ys:List PV} {cs:Array Value} {el:TypeId} (hc:σ.clear nm) (hf:E.fix nm=none)
  (hl:ys.length<=cs.size) (hz:cs.size=cap*sz) (hm:cap<=maxLen) (hp:mQ (g.dH w.heap.size ys) ys (cs.toList.take ys.length)) :
  Rel E ((g.bind nm w.heap.size cap).dH w.heap.size ys) (σ.set nm (.app el sz ys)) (w.alloc (.cells cs el (0,0))):=by
 have h0:=h.DG (el:=el) hl hp
 have hle:lj (·=nm) (g.dH w.heap.size ys) ((g.bind nm w.heap.size cap).dH w.heap.size ys):=
  ⟨λj hj=>by simp[Gh.bind,Gh.dH,hj],λj hj=>by simp[Gh.bind,Gh.dH,hj],λ_ _ h=>Gh.Bw h⟩
 have hρ:∀ j,j≠nm->((g.bind nm w.heap.size cap).dH w.heap.size ys).ρ j=g.ρ j:=λj q=>by simp[Gh.bind,Gh.dH,q]
 have hρn:((g.bind nm w.heap.size cap).dH w.heap.size ys).ρ nm=some w.heap.size:=by simp[Gh.bind,Gh.dH]
 have hne:∀ j,(σ.set nm (.app el sz ys) j).isSome=true->j≠nm->(σ j).isSome=true:=λj hj q=>by simpa[cl.set,q] using hj
 refine { kX:=?_,inj:=?_,gl:=?_,apart:=?_,size:=h0.size,pV:=h0.pV,own:=?_,fix:=?_,ke:=?_,g0:=h0.g0,gn:=h0.gn,os:=h0.os,out:=h0.out,tape:=h0.tape,x:=h.x.alloc h.size hf hρ hρn (λb q=>by simp[Gh.bind,Gh.dH,q]) }
 ·intro k e' hk
  by_cases q:k=nm
  ·subst q;simp[cl.set] at hk;subst hk
   exact .app hρn (by simp[Gh.dH]) (heap_alloc_new w _) hl (by simpa[Gh.bind,Gh.dH] using hz) (by simpa[Gh.bind,Gh.dH] using hm) (hp.le hle)
  ·simp[cl.set,q] at hk
   exact (h0.kX k e' hk).le hle q (λ_ _ _=>rfl) (λj hj=>by subst hj;exact hc k e' hk) (λ_ _=>rfl)
 ·intro k k' b hk hk' hb hb'
  by_cases q:k=nm
  ·by_cases q':k'=nm
   ·rw[q,q']
   ·subst q
    rw[hρn] at hb;cases hb
    rw[hρ k' q'] at hb'
    exact absurd (h.lt (hne k' hk' q') hb') (Nat.lt_irrefl _)
  ·by_cases q':k'=nm
   ·subst q'
    rw[hρn] at hb';cases hb'
    rw[hρ k q] at hb
    exact absurd (h.lt (hne k hk q) hb) (Nat.lt_irrefl _)
   ·rw[hρ k q] at hb;rw[hρ k' q'] at hb'
    exact h.inj k k' b (hne k hk q) (hne k' hk' q') hb hb'
 ·exact h0.gl.le hle rfl (λ_ _ _=>rfl)
 ·intro k b e' hk hka hb
  by_cases q:k=nm
  ·subst q;simp[cl.set] at hk;subst hk;cases hka
  ·rw[hρ k q] at hb;exact h0.apart k b e' (by simpa[cl.set,q] using hk) hka hb
 ·intro k b hk hb
  by_cases q:k=nm
  ·subst q;rw[hρn] at hb;cases hb;exact .inr h.size
  ·rw[hρ k q] at hb;exact h.own k b (hne k hk q) hb
 ·intro k b hk
  have q:k≠nm:=λq=>by subst q;rw[hf] at hk;cases hk
  rw[hρ k q];exact h.fix k b hk
 ·intro k b hk
  have q:k≠nm:=λq=>by subst q;rw[hf] at hk;cases hk
  have:((g.bind nm w.heap.size cap).dH w.heap.size ys).cp k=g.cp k:=by simp[Gh.bind,Gh.dH,q]
  rw[this];exact h.ke k b hk
def Gh.fresh (g:Gh) (nm b cap:Nat) (e:bh):Gh:=match e with
 | .app _ _ ys=>(g.bind nm b cap).dH b ys
 | _=>g.bind nm b cap
theorem lj.fresh (g:Gh) (nm b cap:Nat) (e:bh) (h:g.G b=none):lj (·=nm) g (g.fresh nm b cap e):=by
 cases e with
 | box _=>exact lj.bind ..
 | arr _ _ _=>exact lj.bind ..
 | app _ _ ys=>exact (lj.bind g nm b cap).trans (lj.dH _ b ys (by simpa[Gh.bind] using h))
theorem Rel.FF {E:Env} {g:Gh} {σ:cl} {w:World} (h:Rel E g σ w) {nm cap:Nat} {e:bh} {cs:Array Value} {el:TypeId} (hc:σ.clear nm) (hf:E.fix nm=none)
  (he:kz (g.fresh nm w.heap.size cap e) (w.alloc (.cells cs el (0,0))) nm e):Rel E (g.fresh nm w.heap.size cap e) (σ.set nm e) (w.alloc (.cells cs el (0,0))):=by
 cases e with
 | box _=>exact h.alloc hc hf he
 | arr _ _ _=>exact h.alloc hc hf he
 | app ee sz ys=>
  simp only[Gh.fresh] at he ⊢
  have hn:((g.bind nm w.heap.size cap).dH w.heap.size ys).ρ nm=some w.heap.size:=by simp[Gh.bind,Gh.dH]
  have hcp:((g.bind nm w.heap.size cap).dH w.heap.size ys).cp nm=cap:=by simp[Gh.bind,Gh.dH]
  cases he with
  | xd h=>rw[hn] at h;cases h
  | app h1 hG hw hl hz hm hp=>
   rw[hn] at h1;cases h1
   rw[heap_alloc_new w _] at hw
   cases hw
   rw[hcp] at hz hm
   exact h.Bx hc hf hl hz hm (mQ.congr (g:=(g.bind nm w.heap.size cap).dH w.heap.size ys) (g':=g.dH w.heap.size ys) (λ_ _ q=>q) hp)
theorem Rel.extend {E:Env} {g:Gh} {σ:cl} {w:World} (h:Rel E g σ w) {k b sz:Nat} {el:TypeId} {ys us:List PV} {cs:Array Value} (hk:σ k=some (.app el sz ys)) (hb:g.ρ k=some b)
  (hl:(ys++us).length<=cs.size) (hz:cs.size=g.cp k*sz) (hel:∃ cs0,w.heap[b]?=some (.cells cs0 el (0,0))) (hp:mQ g (ys++us) (cs.toList.take (ys++us).length)) :
  Rel E (g.dH b (ys++us)) (σ.set k (.app el sz (ys++us))) (w.setRow b cs):=by
 obtain ⟨cs0,hw0⟩:=hel
 have hG:g.G b=some ys:=by
  cases h.kX k _ hk with
  | xd h1=>rw[h1] at hb;cases hb
  | app h1 hG=>rw[h1] at hb;cases hb;exact hG
 have hcm:g.cp k<=maxLen:=by
  cases h.kX k _ hk with
  | xd h1=>rw[h1] at hb;cases hb
  | app h1 hG _ _ _ hm=>exact hm
 have hsz0:∀ {cs0:Array Value},w.heap[b]?=some (.cells cs0 el (0,0))->cs0.size=g.cp k*sz:=λ{cs0} hw0=>by
  cases h.kX k _ hk with
  | xd h1=>rw[h1] at hb;cases hb
  | app h1 hG hw1 _ hz1 _=>rw[h1] at hb;cases hb;rw[hw0] at hw1;cases hw1;exact hz1
 have hks:(σ k).isSome=true:=by rw[hk];rfl
 have hle:lj (λ_=>False) g (g.dH b (ys++us)):=lj.grow g b ys us hG
 have hs:∀ j,(σ.set k (.app el sz (ys++us)) j).isSome=true->(σ j).isSome=true:=λj hj=>by
  by_cases q:j=k
  ·subst q;exact hks
  ·simpa[cl.set,q] using hj
 have hGo:∀ c,c≠b->(g.dH b (ys++us)).G c=g.G c:=λc q=>by simp[Gh.dH,q]
 have hnew:(w.setRow b cs).heap[b]?=some (.cells cs el (0,0)):=setRow_heap w b cs0 cs el _ hw0
 refine { kX:=?_,inj:=?_,gl:=?_,apart:=?_,size:=?_,pV:=?_,own:=?_,fix:=h.fix,ke:=h.ke,g0:=?_,gn:=?_,os:=h.os,out:=h.out,tape:=h.tape,x:=h.x.write hks hb rfl hw0 (hz.trans (hsz0 hw0).symm) (λe0 q q'=>(by rw[hk] at q;cases q;obtain ⟨_,q'⟩:=q';cases q')) (λc q=>hGo c q) (.inl λk' q=>(by
   have h1:=h.x.pD k' b q
   rw[hG] at h1;cases h1)) (λ⟨k',q⟩=>(by
   have h1:=h.x.pD k' b q
   rw[hG] at h1;cases h1)) }
 ·intro j e' hj
  by_cases q:j=k
  ·subst q;simp[cl.set] at hj;subst hj
   exact .app hb (by simp[Gh.dH]) hnew hl hz hcm (hp.le hle)
  ·simp[cl.set,q] at hj
   have hne:∀ c,g.ρ j=some c->c≠b:=λc hc hcb=>by
    subst hcb
    exact q (h.inj j k c (by rw[hj];rfl) hks hc hb)
   exact (h.kX j e' hj).le hle (λq=>q) (λc hc _=>hGo c (hne c hc)) (λ_ q=>q.elim) (λc hc=>setRow_other w b c cs (hne c hc))
 ·exact λj j' c hj hj'=>h.inj j j' c (hs j hj) (hs j' hj')
 ·intro c zs hc
  by_cases q:c=b
  ·subst q
   simp[Gh.dH] at hc;subst hc
   exact ⟨cs,el,(0,0),hnew,hl,hp.le hle⟩
  ·rw[hGo c q] at hc
   obtain ⟨c1,e1,f1,h1,h2,h3⟩:=h.gl c zs hc
   exact ⟨c1,e1,f1,by rw[setRow_other w b c cs q];exact h1,h2,h3.le hle⟩
 ·intro j c e' hj hja hc
  by_cases q:j=k
  ·subst q;simp[cl.set] at hj;subst hj;cases hja
  ·have hj':σ j=some e':=by simpa[cl.set,q] using hj
   have:c≠b:=λhcb=>by
    subst hcb
    exact q (h.inj j k c (by rw[hj'];rfl) hks hc hb)
   rw[hGo c this];exact h.apart j c e' hj' hja hc
 ·simpa using h.size
 ·intro c hc ho
  have hcb:c≠b:=by
   intro q;subst q
   rcases h.own k c hks hb with q|q
   ·exact ho q
   ·exact absurd hc (Nat.not_lt.2 q)
  rw[setRow_other w b c cs hcb];exact h.pV c hc ho
 ·exact λj c hj hc=>h.own j c (hs j hj) hc
 ·intro c zs hc
  obtain ⟨us',h1⟩:=h.g0 c zs hc
  obtain ⟨vs,h2⟩:=hle.G c _ h1
  exact ⟨us'++vs,by rw[h2,List.append_assoc]⟩
 ·intro c zs hc
  by_cases q:c=b
  ·subst q
   rcases h.own k c hks hb with q|q
   ·exact .inr (.inl q)
   ·exact .inr (.inr q)
  ·rw[hGo c q] at hc;exact h.gn c zs hc
end Go.Abs
end
section
namespace Go.Abs
def Mr:TypeDesc->Bool
 | .struct _|.array _ _=>true
 | _=>false
def yI (P:Program) (t:TypeId):Option Nat:=(P.info? t).map (·.size)
def p7 (P:Program) (t:TypeId):Option Bool:=(P.underlying t).map Mr
def Lp (P:Program) (s:TypeId) (f:Nat):Option Nat:=
 match P.underlying s with
 | some (.struct fs)=>match fs[f]? with
  | some fd=>match yI P fd.type with
   | some (_+1)=>some fd.offset
   | _=>none
  | none=>none
 | _=>none
def Lq (P:Program) (t:TypeId):Option (TypeId×Nat):=
 match P.underlying t with
 | some (.slice e)=>(yI P e).map (e,·)
 | _=>none
def FG (P:Program) (t:TypeId):Option (Nat×Nat):=
 match P.underlying t with
 | some (.array n e)=>(yI P e).map (n,·)
 | _=>none
def FH (P:Program) (t:TypeId):Option (List Value):=(P.info? t).bind λi=>i.zero.bind λz=>match z.cells.toList.all Value.oneCell' with
 | true=>some z.cells.toList
 | false=>none
theorem nr {P:Program} {t:TypeId} {n:Nat} (h:yI P t=some n) (w:World):(sizeOf t).run P w=.ok n w:=by
 unfold yI at h;cases hi:P.info? t with
 | none=>simp[hi] at h
 | some i=>simp[hi] at h;subst h;simp[sizeOf,typeInfo,hi]
theorem p8 {P:Program} {t:TypeId} {b:Bool} (h:p7 P t=some b) (w:World):(isAgg t).run P w=.ok b w:=by
 unfold p7 at h;cases hd:P.underlying t with
 | none=>simp[hd] at h
 | some d=>
  simp[hd] at h;subst h
  simp only[isAgg,Sem.run_bind,run_underlying hd,Result.andThen_ok]
  cases d<;>rfl
theorem s4 {P:Program} {w:World} {t:TypeId} {n b off:Nat} {cs:Array Value} {el:TypeId} {fz:Nat×Nat} (ht:yI P t=some n) (ha:p7 P t=some true)
  (hw:w.heap[b]?=some (.cells cs el fz)) (hn:off+n<=cs.size):(loadVar t ⟨b,off,none⟩).run P w=.ok (.agg ((cs.toList.drop off).take n).toArray) w:=by
 have hl:=run_loadCells_list (P:=P) w ⟨b,off,none⟩ ((cs.toList.drop off).take n) (λj v hj=>by
  rw[Addr.add_lit,cell_of_row w b _ cs el fz hw]
  rw[List.getElem?_take] at hj
  split at hj
  ·rw[List.getElem?_drop] at hj;simpa using hj
  ·cases hj)
 have hlen:((cs.toList.drop off).take n).length=n:=by simp;omega
 rw[hlen] at hl
 simp[loadVar,p8 ha,nr ht,hl]
theorem oG {P:Program} {w:World} {t:TypeId} {b off:Nat} {cs:Array Value} {el:TypeId} {fz:Nat×Nat} {v:Value} (ha:p7 P t=some false)
  (hw:w.heap[b]?=some (.cells cs el fz)) (hv:cs.toList[off]?=some v):(loadVar t ⟨b,off,none⟩).run P w=.ok v w:=by
 have:=cell_of_row w b off cs el fz hw
 have hv':cs[off]?=some v:=by simpa using hv
 rw[hv'] at this
 simp[loadVar,p8 ha,this]
def fD (P:Program) (op:Op) (fr:eQ) (rd:List (Nat×bh)) (v:AV):Prop:=
 ∀ (o:Oper),o.op=op->∀ (g:Gh) (ev:Operand->Value) (w:World),DF g w->(∀ x,x∈op.operands->VR g (fr.val x) (ev x))->
  (∀ p,p∈rd->kz g w p.1 p.2)->∃ c,(execOp ev o).run P w=.ok (.value c) w/\VR g v c
abbrev I (n:Int):AV:=.pv (.sc (.int .i64 n))
abbrev Bo (b:Bool):AV:=.pv (.sc (.bool b))
def S (l:ByS):Value:=.string ⟨l.toArray⟩
abbrev aZ (l:ByS):AV:=.pv (.sc (S l))
abbrev Sc (v:Value):AV:=.pv (.sc v)
abbrev nSl:AV:=Sc (.slice none 0 0)
theorem VR.c6 {g:Gh} {v c:Value} (h:VR g (Sc v) c):c=v:=by
 cases h with|pv h=>cases h with|sc=>rfl
theorem VR.sc (g:Gh) (v:Value):VR g (Sc v) v:=.pv (.sc v)
section
variable {P:Program} {fr:eQ}
theorem Ij (x:Operand):fD P (.move x) fr [] (fr.val x):=by
 intro o ho g ev w _ hx _;exact ⟨ev x,by simp[execOp,ho],hx x (by simp[Op.operands])⟩
theorem vC (x:Operand):fD P (.assign x) fr [] (fr.val x):=by
 intro o ho g ev w _ hx _;exact ⟨ev x,by simp[execOp,ho],hx x (by simp[Op.operands])⟩
theorem DH {c a b:Operand} {t:Bool} (hc:fr.val c=Bo t):fD P (.pick c a b) fr [] (if t then fr.val a else fr.val b):=by
 intro o ho g ev w _ hx _;have h1:=hx c (by simp[Op.operands]);rw[hc] at h1;refine ⟨if t then ev a else ev b,by simp[execOp,ho,h1.c6,asBool],?_⟩;cases t
 ·exact hx b (by simp[Op.operands])
 exact hx a (by simp[Op.operands])
theorem wI {x:Operand} {k off:Nat} (h:fr.val x=.ptr k off):fD P (.nilCheck x) fr [] (.ptr k off):=by
 intro o ho g ev w _ hx _;have h1:=hx x (by simp[Op.operands]);rw[h] at h1;generalize hq:ev x=c at h1;refine ⟨c,?_,h1⟩;cases h1 with|ptr _ hk=>simp[execOp,ho,hq]
theorem xe {x:Operand} {cells:List PV} (h:fr.val x=.sp cells):fD P (.nilCheck x) fr [] (.sp cells):=by
 intro o ho g ev w _ hx _;have h1:=hx x (by simp[Op.operands]);rw[h] at h1;generalize hq:ev x=c at h1;refine ⟨c,?_,h1⟩;cases h1 with|sp _ hk=>simp[execOp,ho,hq]
theorem xf {x:Operand} {f:FuncId} {a b:List AV} (h:fr.val x=.fn f a b):fD P (.nilCheck x) fr [] (.fn f a b):=by
 intro o ho g ev w _ hx _;have h1:=hx x (by simp[Op.operands]);rw[h] at h1;generalize hq:ev x=c at h1;refine ⟨c,?_,h1⟩;cases h1 with|fn _ hk=>simp[execOp,ho,hq]
theorem wo {s:TypeId} {f d b off:Nat} (h:Lp P s f=some d) (w:World) :
  (Instr.fieldAt s (.pointer (some ⟨b,off,none⟩)) f).run P w=.ok (.pointer (some ⟨b,off+d,none⟩)) w:=by
 unfold Lp at h
 split at h
 ·rename_i fs hs
  split at h
  ·rename_i fd hf
   split at h
   ·rename_i n hn
    cases h
    simp[Instr.fieldAt,run_underlying hs,hf,Instr.sureAddr,fieldPlace,nr hn,Addr.add_lit]
   ·cases h
  ·cases h
 ·cases h
theorem Au {s:TypeId} {x:Operand} {f d k off:Nat} (h:Lp P s f=some d) (hx:fr.val x=.ptr k off):fD P (.fieldAddr s x f) fr [] (.ptr k (off+d)):=by
 intro o ho g ev w _ hv _;have h1:=hv x (by simp[Op.operands]);rw[hx] at h1;generalize hq:ev x=c at h1;cases h1 with
 | ptr _ hk=>
  rename_i b
  refine ⟨_,?_,.ptr (off+d) hk⟩
  simp[execOp,ho,hq,wo h]
theorem wJ {s:TypeId} {x:Operand} {f d:Nat} {cells:List PV} (h:Lp P s f=some d) (hx:fr.val x=.sp cells) (hd:d<=cells.length) :
  fD P (.fieldAddr s x f) fr [] (.sp (cells.drop d)):=by
 intro o ho g ev w _ hv _
 have h1:=hv x (by simp[Op.operands]);rw[hx] at h1
 generalize hq:ev x=c at h1
 cases h1 with
 | sp off hk hl hc=>
  rename_i b ys
  refine ⟨_,?_,.sp (off+d) hk ?_ ?_⟩
  ·simp[execOp,ho,hq,wo h]
  ·simp;omega
  ·rw[hc,List.drop_take,List.drop_drop];simp
theorem wU {t:TypeId} {e:TypeId} {sz:Nat} (h:Lq P t=some (e,sz)):P.underlying t=some (.slice e)/\yI P e=some sz:=by
 unfold Lq at h;split at h
 ·rename_i e' he;cases hs:yI P e' with
  | none=>simp[hs] at h
  | some n=>simp[hs] at h;obtain ⟨rfl,rfl⟩:=h;exact ⟨he,hs⟩
 cases h
theorem FI {t:TypeId} {n:Nat} {sz:Nat} (h:FG P t=some (n,sz)):∃ e,P.underlying t=some (.array n e)/\yI P e=some sz:=by
 unfold FG at h;split at h
 ·rename_i m e' he;cases hs:yI P e' with
  | none=>simp[hs] at h
  | some n=>simp[hs] at h;obtain ⟨rfl,rfl⟩:=h;exact ⟨e',he,hs⟩
 cases h
theorem wq {t e:TypeId} {sz b off n cap:Nat} {k:IntKind} {i:Int} (h:Lq P t=some (e,sz)) (h0:0<=i) (h1:i<n) (w:World) :
  (Instr.indexAt t (.slice (some ⟨b,off,none⟩) n cap) (.int k i)).run P w=.ok (.pointer (some ⟨b,off+i.toNat*sz,none⟩)) w:=by
 obtain ⟨hu,hs⟩:=wU h
 simp[Instr.indexAt,asIntOf,run_underlying hu,h0,h1,nr hs,Addr.add_lit]
theorem wK {t:TypeId} {sz b off n:Nat} {k:IntKind} {i:Int} (h:FG P t=some (n,sz)) (h0:0<=i) (h1:i<n) (w:World) :
  (Instr.indexAt t (.pointer (some ⟨b,off,none⟩)) (.int k i)).run P w=.ok (.pointer (some ⟨b,off+i.toNat*sz,none⟩)) w:=by
 obtain ⟨e,hu,hs⟩:=FI h
 simp[Instr.indexAt,asIntOf,run_underlying hu,h0,h1,nr hs,Addr.add_lit,Instr.sureAddr]
theorem wL {t e:TypeId} {sz n:Nat} {cells:List PV} {x ix:Operand} {k:IntKind} {i:Int} (h:Lq P t=some (e,sz)) (hx:fr.val x=.pv (.sl n cells))
  (hi:fr.val ix=Sc (.int k i)) (h0:0<=i) (h1:i<n) (h2:i.toNat*sz<=cells.length):fD P (.indexAddr t x ix) fr [] (.sp (cells.drop (i.toNat*sz))):=by
 intro o ho g ev w _ hv _
 have q1:=hv x (by simp[Op.operands]);rw[hx] at q1
 have q2:=hv ix (by simp[Op.operands]);rw[hi] at q2
 generalize hq:ev x=c at q1
 cases q1 with
 | pv q1=>
  cases q1 with
  | nil a cap=>omega
  | sl b ys off _ cap _ hb hl hc hn=>
   refine ⟨_,?_,.sp (off+i.toNat*sz) hb ?_ ?_⟩
   ·simp[execOp,ho,hq,q2.c6,wq h h0 h1]
   ·simp;omega
   ·rw[hc,List.drop_take,List.drop_drop];simp
theorem vD {t e:TypeId} {sz n kk:Nat} {x ix:Operand} {k:IntKind} {i:Int} (h:Lq P t=some (e,sz)) (hx:fr.val x=.arr kk n)
  (hi:fr.val ix=Sc (.int k i)) (h0:0<=i) (h1:i<n):fD P (.indexAddr t x ix) fr [] (.ptr kk (i.toNat*sz)):=by
 intro o ho g ev w _ hv _
 have q1:=hv x (by simp[Op.operands]);rw[hx] at q1
 have q2:=hv ix (by simp[Op.operands]);rw[hi] at q2
 generalize hq:ev x=c at q1
 cases q1 with
 | arr _ hk=>
  rename_i b
  have:=VR.ptr (g:=g) (i.toNat*sz) hk
  refine ⟨_,?_,this⟩
  simp[execOp,ho,hq,q2.c6,wq h h0 h1]
 | qH=>omega
theorem vE {t:TypeId} {sz n kk off:Nat} {x ix:Operand} {k:IntKind} {i:Int} (h:FG P t=some (n,sz)) (hx:fr.val x=.ptr kk off)
  (hi:fr.val ix=Sc (.int k i)) (h0:0<=i) (h1:i<n):fD P (.indexAddr t x ix) fr [] (.ptr kk (off+i.toNat*sz)):=by
 intro o ho g ev w _ hv _
 have q1:=hv x (by simp[Op.operands]);rw[hx] at q1
 have q2:=hv ix (by simp[Op.operands]);rw[hi] at q2
 generalize hq:ev x=c at q1
 cases q1 with
 | ptr _ hk=>
  rename_i b
  refine ⟨_,?_,.ptr (off+i.toNat*sz) hk⟩
  simp[execOp,ho,hq,q2.c6,wK h h0 h1]
theorem kz.at {g:Gh} {w:World} {k b:Nat} {e:bh} (h:kz g w k e) (hb:g.ρ k=some b) :
  ∃ cs el,w.heap[b]?=some (.cells cs el (0,0))/\e.cells.length<=cs.size/\iv g e.cells (cs.toList.take e.cells.length):=by
 cases h with
 | box h hw hc=>
  rw[h] at hb;cases hb
  have hl:=hc.length
  refine ⟨_,_,hw,by simp[bh.cells,hl],?_⟩
  rw[List.take_of_length_le (by simp[bh.cells,hl])];exact hc
 | qH h=>rw[h] at hb;cases hb
 | arr h hw hl hz hm hc=>rw[h] at hb;cases hb;exact ⟨_,_,hw,by simpa[bh.cells] using hl,by simpa[bh.cells] using hc.JX⟩
 | xd h=>rw[h] at hb;cases hb
 | app h hG hw hl hz hm hc=>rw[h] at hb;cases hb;exact ⟨_,_,hw,by simpa[bh.cells] using hl,by simpa[bh.cells] using hc.JX⟩
theorem VR.view {g:Gh} {w:World} {k n sz:Nat} {el:TypeId} {cells:List PV} {c:Value} (h:VR g (.arr k n) c) (hE:kz g w k (.app el sz cells)) (hz:0<sz) (hn:cells.length=n*sz) :
  VR g (.pv (.sl n cells)) c:=by
 cases h with
 | arr _ hb=>
  cases hE with
  | xd h=>rw[h] at hb;cases hb
  | app h hG hw hl hcs hm hc=>
   rw[h] at hb;cases hb
   refine .pv (.sl _ cells 0 n _ cells hG (by simp) (by simp) ?_)
   have:n*sz<=g.cp k*sz:=by rw[<- hn,<- hcs];exact hl
   exact Nat.le_of_mul_le_mul_right this hz
 | qH hb=>
  have h0:cells=[]:=List.eq_nil_of_length_eq_zero (by simpa using hn)
  subst h0;exact .pv (.nil _ _)
theorem Av {x:Operand} {k n sz:Nat} {el:TypeId} {cells:List PV} (hx:fr.val x=.arr k n) (hz:0<sz) (hn:cells.length=n*sz) :
  fD P (.move x) fr [(k,.app el sz cells)] (.pv (.sl n cells)):=by
 intro o ho g ev w _ hv hr
 have q:=hv x (by simp[Op.operands]);rw[hx] at q
 have hE:=hr (k,.app el sz cells) (by simp)
 exact ⟨_,by simp[execOp,ho],q.view hE hz hn⟩
theorem Aw {t:TypeId} {x:Operand} {k j off n sz:Nat} {el:TypeId} {cells:List PV} {e:bh} (ha:p7 P t=some false) (hx:fr.val x=.ptr k off)
  (hv:e.cells[off]?=some (.arr j n)) (hz:0<sz) (hn:cells.length=n*sz):fD P (.load t x) fr [(k,e),(j,.app el sz cells)] (.pv (.sl n cells)):=by
 intro o ho g ev w hG hx' hr
 have hload:∃ c,(execOp ev o).run P w=.ok (.value c) w/\VR g (.arr j n) c:=by
  have q:=hx' x (by simp[Op.operands]);rw[hx] at q
  generalize hq:ev x=c at q
  cases q with
  | ptr _ hb=>
   obtain ⟨cs,el,hw,hl,hc⟩:=(hr (k,e) (by simp)).at hb
   obtain ⟨c,hc1,hc2⟩:=hc.get off _ hv
   have hc3:cs.toList[off]?=some c:=by
    rw[List.getElem?_take] at hc1
    split at hc1
    ·exact hc1
    ·cases hc1
   refine ⟨c,?_,hc2⟩
   simp only[execOp,ho,hq,Instr.loadAt,Instr.sureAddr,Sem.run_bind,Sem.run_pure,Result.andThen_ok,oG ha hw hc3]
 obtain ⟨c,h1,h2⟩:=hload
 exact ⟨c,h1,h2.view (hr (j,.app el sz cells) (by simp)) hz hn⟩
theorem By {t:TypeId} {x:Operand} {n k off:Nat} {e:bh} (ht:yI P t=some n) (ha:p7 P t=some true) (hx:fr.val x=.ptr k off)
  (hn:off+n<=e.cells.length):fD P (.load t x) fr [(k,e)] (.agg ((e.cells.drop off).take n)):=by
 intro o ho g ev w _ hv hr
 have q:=hv x (by simp[Op.operands]);rw[hx] at q
 generalize hq:ev x=c at q
 cases q with
 | ptr _ hk=>
  rename_i b
  obtain ⟨cs,el,hw,hl,hc⟩:=(hr (k,e) (by simp)).at hk
  have hl':off+n<=cs.size:=by simp only at hl;omega
  refine ⟨.agg ((cs.toList.drop off).take n).toArray,?_,?_⟩
  ·simp only[execOp,ho,hq,Instr.loadAt,Instr.sureAddr,Sem.run_bind,Sem.run_pure,Result.andThen_ok,s4 ht ha hw hl']
  ·simp only at hc
   have:=(hc.drop off).take n
   rw[List.drop_take,List.take_take,Nat.min_eq_left (by omega)] at this
   exact .agg this
theorem s5 {t:TypeId} {x:Operand} {k off:Nat} {e:bh} {v:AV} (ha:p7 P t=some false) (hx:fr.val x=.ptr k off)
  (hn:e.cells[off]?=some v):fD P (.load t x) fr [(k,e)] v:=by
 intro o ho g ev w _ hv hr
 have q:=hv x (by simp[Op.operands]);rw[hx] at q
 generalize hq:ev x=c at q
 cases q with
 | ptr _ hk=>
  rename_i b
  obtain ⟨cs,el,hw,hl,hc⟩:=(hr (k,e) (by simp)).at hk
  obtain ⟨c,hc1,hc2⟩:=hc.get off v hn
  have hc3:cs.toList[off]?=some c:=by
   rw[List.getElem?_take] at hc1
   split at hc1
   ·exact hc1
   ·cases hc1
  refine ⟨c,?_,hc2⟩
  simp only[execOp,ho,hq,Instr.loadAt,Instr.sureAddr,Sem.run_bind,Sem.run_pure,Result.andThen_ok,oG ha hw hc3]
theorem DI {g:Gh} {w:World} (hG:DF g w) {b off:Nat} {ys:List PV} {cells:List PV} (h:g.G b=some ys) (hl:off+cells.length<=ys.length)
  (hc:cells=(ys.drop off).take cells.length):∃ cs el fz,w.heap[b]?=some (.cells cs el fz)/\off+cells.length<=cs.size/\mQ g cells ((cs.toList.drop off).take cells.length):=by
 obtain ⟨cs,el,fz,hw,h1,h2⟩:=hG b ys h
 refine ⟨cs,el,fz,hw,by omega,?_⟩
 have:=(h2.drop off).take cells.length
 rw[<- hc,List.drop_take,List.take_take,Nat.min_eq_left (by omega)] at this
 exact this
theorem xg {t:TypeId} {x:Operand} {n:Nat} {cells:List PV} (ht:yI P t=some n) (ha:p7 P t=some true) (hx:fr.val x=.sp cells)
  (hn:n<=cells.length):fD P (.load t x) fr [] (.agg ((cells.take n).map .pv)):=by
 intro o ho g ev w hG hv _
 have q:=hv x (by simp[Op.operands]);rw[hx] at q
 generalize hq:ev x=c at q
 cases q with
 | sp off h hl hc=>
  rename_i b ys
  obtain ⟨cs,el,fz,hw,h1,h2⟩:=DI hG h hl hc
  refine ⟨.agg ((cs.toList.drop off).take n).toArray,?_,?_⟩
  ·simp only[execOp,ho,hq,Instr.loadAt,Instr.sureAddr,Sem.run_bind,Sem.run_pure,Result.andThen_ok,s4 ht ha hw (show off+n<=cs.size by omega)]
  ·have:=h2.take n
   rw[List.take_take,Nat.min_eq_left hn] at this
   exact .agg this.JX
theorem xh {t:TypeId} {x:Operand} {cells:List PV} {p:PV} (ha:p7 P t=some false) (hx:fr.val x=.sp cells)
  (hn:cells[0]?=some p):fD P (.load t x) fr [] (.pv p):=by
 intro o ho g ev w hG hv _
 have q:=hv x (by simp[Op.operands]);rw[hx] at q
 generalize hq:ev x=c at q
 cases q with
 | sp off h hl hc=>
  rename_i b ys
  obtain ⟨cs,el,fz,hw,h1,h2⟩:=DI hG h hl hc
  obtain ⟨c,hc1,hc2⟩:=h2.get 0 p hn
  have hc3:cs.toList[off]?=some c:=by
   rw[List.getElem?_take] at hc1
   split at hc1
   ·simpa using hc1
   ·cases hc1
  refine ⟨c,?_,.pv hc2⟩
  simp only[execOp,ho,hq,Instr.loadAt,Instr.sureAddr,Sem.run_bind,Sem.run_pure,Result.andThen_ok,oG ha hw hc3]
end
end Go.Abs
end
section
namespace Go.Abs
section
variable {P:Program} {fr:eQ}
theorem pa {op:BinOp} {xt yt:TypeId} {x y:Operand} {a b c:Value} (hx:fr.val x=Sc a) (hy:fr.val y=Sc b)
  (hg:∀ w,(eqGuard op xt x y a b).run P w=.ok () w) (h:∀ w,(binOp op xt a b).run P w=.ok c w):fD P (.binOp op xt x y yt) fr [] (Sc c):=by
 intro o ho g ev w _ hv _
 have q1:=hv x (by simp[Op.operands]);rw[hx] at q1
 have q2:=hv y (by simp[Op.operands]);rw[hy] at q2
 refine ⟨c,?_,.sc g c⟩
 simp[execOp,ho,q1.c6,q2.c6,hg,h]
theorem oH (op:BinOp) (t:TypeId) (x y:Operand) (k k':IntKind) (a b:Int) (w:World):(eqGuard op t x y (.int k a) (.int k' b)).run P w=.ok () w:=by
 cases op<;>rfl
theorem s6 (op:BinOp) (t:TypeId) (x y:Operand) (a b:ByS) (w:World):(eqGuard op t x y (S a) (S b)).run P w=.ok () w:=by
 cases op<;>rfl
theorem uP (op:BinOp) (t:TypeId) (x y:Operand) (a b:Bool) (w:World):(eqGuard op t x y (.bool a) (.bool b)).run P w=.ok () w:=by
 cases op<;>rfl
theorem qP (op:BinOp) (t:TypeId) (x y:Operand) (a:Option Addr) (b:Value) (w:World):(eqGuard op t x y (.pointer a) b).run P w=.ok () w:=by
 cases op<;>rfl
def Ik:BinOp->Int->Int->Option Bool
 | .eql,a,b=>some (a==b)
 | .neq,a,b=>some (a !=b)
 | .lss,a,b=>some (decide (a<b))
 | .leq,a,b=>some (decide (a<=b))
 | .gtr,a,b=>some (decide (b<a))
 | .geq,a,b=>some (decide (b<=a))
 | _,_,_=>none
theorem Il {op:BinOp} {xt yt:TypeId} {x y:Operand} {k:IntKind} {a b:Int} {r:Bool} (hx:fr.val x=Sc (.int k a)) (hy:fr.val y=Sc (.int k b))
  (h:Ik op a b=some r):fD P (.binOp op xt x y yt) fr [] (Bo r):=by
 refine pa hx hy (oH op xt x y k k a b) λw=>?_
 cases op<;>simp[Ik] at h<;>subst h<;>simp[binOp,Op.intCmp,GT.gt,GE.ge]
theorem DJ {xt yt:TypeId} {x y:Operand} {k:IntKind} {a b:Int} (hx:fr.val x=Sc (.int k a)) (hy:fr.val y=Sc (.int k b)) :
  fD P (.binOp .add xt x y yt) fr [] (Sc (.int k (k.wrap (a+b)))):=
 pa hx hy (oH _ xt x y k k a b) λw=>by simp[binOp,Op.intArith]
theorem DK {xt yt:TypeId} {x y:Operand} {k:IntKind} {a b:Int} (hx:fr.val x=Sc (.int k a)) (hy:fr.val y=Sc (.int k b)) :
  fD P (.binOp .sub xt x y yt) fr [] (Sc (.int k (k.wrap (a - b)))):=
 pa hx hy (oH _ xt x y k k a b) λw=>by simp[binOp,Op.intArith]
theorem Im {xt yt:TypeId} {x y:Operand} {k:IntKind} {a b:Int} (hx:fr.val x=Sc (.int k a)) (hy:fr.val y=Sc (.int k b)) :
  fD P (.binOp .mul xt x y yt) fr [] (Sc (.int k (k.wrap (a*b)))):=
 pa hx hy (oH _ xt x y k k a b) λw=>by simp[binOp,Op.intArith]
theorem Kg {xt yt:TypeId} {x y:Operand} {a b:Int} (hx:fr.val x=I a) (hy:fr.val y=I b) (h:-9223372036854775808<=a+b/\a+b<=9223372036854775807) :
  fD P (.binOp .add xt x y yt) fr [] (I (a+b)):=by
 have:=DJ (P:=P) (xt:=xt) (yt:=yt) hx hy
 rwa [IntWalk.i64_in _ h] at this
theorem Kh {xt yt:TypeId} {x y:Operand} {a b:Int} (hx:fr.val x=I a) (hy:fr.val y=I b) (h:-9223372036854775808<=a - b/\a - b<=9223372036854775807) :
  fD P (.binOp .sub xt x y yt) fr [] (I (a - b)):=by
 have:=DK (P:=P) (xt:=xt) (yt:=yt) hx hy
 rwa [IntWalk.i64_in _ h] at this
theorem qQ {op:BinOp} {xt yt:TypeId} {x y:Operand} {k k':IntKind} {a b:Int} {c:Value} (hx:fr.val x=Sc (.int k a)) (hy:fr.val y=Sc (.int k' b))
  (h:∀ w,(binOp op xt (.int k a) (.int k' b)).run P w=.ok c w):fD P (.binOp op xt x y yt) fr [] (Sc c):=
 pa hx hy (oH op xt x y k k' a b) h
theorem xi (l:ByS):(⟨l.toArray⟩:ByteArray).size=l.length:=by simp[ByteArray.size]
theorem Ki {xt yt:TypeId} {x y:Operand} {a b:ByS} (hx:fr.val x=aZ a) (hy:fr.val y=aZ b) :
  fD P (.binOp .eql xt x y yt) fr [] (Bo (a==b)):=
 pa hx hy (s6 _ xt x y a b) λw=>by simp[binOp,Op.stringOp,S]
theorem Kj {xt yt:TypeId} {x y:Operand} {a b:ByS} (hx:fr.val x=aZ a) (hy:fr.val y=aZ b) :
  fD P (.binOp .neq xt x y yt) fr [] (Bo (a !=b)):=
 pa hx hy (s6 _ xt x y a b) λw=>by simp[binOp,Op.stringOp,S,bne]
theorem FJ (a b:ByS):(⟨a.toArray⟩:ByteArray)++⟨b.toArray⟩=⟨(a++b).toArray⟩:=by
 have h:((⟨a.toArray⟩:ByteArray)++⟨b.toArray⟩).data.toList=a++b:=by simp
 rw[<- Lib.mk_data ((⟨a.toArray⟩:ByteArray)++⟨b.toArray⟩),h]
theorem Io {xt yt:TypeId} {x y:Operand} {a b:ByS} (hx:fr.val x=aZ a) (hy:fr.val y=aZ b) (h:a.length+b.length<=9223372036854775807) :
  fD P (.binOp .add xt x y yt) fr [] (aZ (a++b)):=by
 refine pa hx hy (s6 _ xt x y a b) λw=>?_
 have hm:¬ (((a.length+b.length:Nat):Int)>IntKind.i64.max):=by simp[IntKind.max,IntKind.bits,IntKind.signed];omega
 simp only[S,binOp,Op.stringOp,xi,if_neg hm,FJ];rfl
theorem run_equalIn_bool {t:TypeId} (ht:P.underlying t=some .bool) (d:Nat) (a b:Bool) (w:World) :
  (Op.equalIn (d+1) t (.bool a) (.bool b)).run P w=.ok (a==b) w:=by
 simp[Op.equalIn,run_underlying ht]
theorem mR {t el:TypeId} (ht:P.underlying t=some (.pointer el)) (d:Nat) (b:Option Addr) (w:World) :
  (Op.equalIn (d+1) t (.pointer none) (.pointer b)).run P w=.ok b.isNone w:=by
 simp[Op.equalIn,run_underlying ht]
theorem mT {t el:TypeId} (ht:P.underlying t=some (.pointer el)) (d:Nat) (a:Addr) (w:World) :
  (Op.equalIn (d+1) t (.pointer (some a)) (.pointer none)).run P w=.ok false w:=by
 simp[Op.equalIn,run_underlying ht]
theorem Kk {xt yt:TypeId} {x y:Operand} {a b:Bool} (ht:P.underlying xt=some .bool) (hx:fr.val x=Bo a) (hy:fr.val y=Bo b) :
  fD P (.binOp .eql xt x y yt) fr [] (Bo (a==b)):=
 pa hx hy (uP _ xt x y a b) λw=>by simp only[binOp];simp[Op.equal,Op.maxDepth,run_equalIn_bool ht 9999]
theorem Kl {xt yt:TypeId} {x y:Operand} {a b:Bool} (ht:P.underlying xt=some .bool) (hx:fr.val x=Bo a) (hy:fr.val y=Bo b) :
  fD P (.binOp .neq xt x y yt) fr [] (Bo (a !=b)):=
 pa hx hy (uP _ xt x y a b) λw=>by simp only[binOp];simp[Op.equal,Op.maxDepth,run_equalIn_bool ht 9999,bne]
theorem FK {xt yt el:TypeId} {x y:Operand} {k off:Nat} (ht:P.underlying xt=some (.pointer el)) (hx:fr.val x=.ptr k off) (hy:fr.val y=Sc (.pointer none)) :
  fD P (.binOp .eql xt x y yt) fr [] (Bo false):=by
 intro o ho g ev w _ hv _
 have q1:=hv x (by simp[Op.operands]);rw[hx] at q1
 have q2:=hv y (by simp[Op.operands]);rw[hy] at q2
 generalize hq:ev x=c at q1
 cases q1 with
 | ptr _ hk=>exact ⟨.bool false,by simp only[execOp,ho,hq,q2.c6,eqGuard,binOp];simp[Op.equal,Op.maxDepth,mT ht 9999],.sc g _⟩
theorem FL {xt yt el:TypeId} {x y:Operand} {k off:Nat} (ht:P.underlying xt=some (.pointer el)) (hx:fr.val x=.ptr k off) (hy:fr.val y=Sc (.pointer none)) :
  fD P (.binOp .neq xt x y yt) fr [] (Bo true):=by
 intro o ho g ev w _ hv _
 have q1:=hv x (by simp[Op.operands]);rw[hx] at q1
 have q2:=hv y (by simp[Op.operands]);rw[hy] at q2
 generalize hq:ev x=c at q1
 cases q1 with
 | ptr _ hk=>exact ⟨.bool true,by simp only[execOp,ho,hq,q2.c6,eqGuard,binOp];simp[Op.equal,Op.maxDepth,mT ht 9999],.sc g _⟩
theorem FM {xt yt el:TypeId} {x y:Operand} (ht:P.underlying xt=some (.pointer el)) (hx:fr.val x=Sc (.pointer none)) (hy:fr.val y=Sc (.pointer none)) :
  fD P (.binOp .eql xt x y yt) fr [] (Bo true):=
 pa hx hy (qP _ xt x y none _) λw=>by simp only[binOp];simp[Op.equal,Op.maxDepth,mR ht 9999]
theorem FN {xt yt el:TypeId} {x y:Operand} (ht:P.underlying xt=some (.pointer el)) (hx:fr.val x=Sc (.pointer none)) (hy:fr.val y=Sc (.pointer none)) :
  fD P (.binOp .neq xt x y yt) fr [] (Bo false):=
 pa hx hy (qP _ xt x y none _) λw=>by simp only[binOp];simp[Op.equal,Op.maxDepth,mR ht 9999]
theorem Km {t:TypeId} {x:Operand} {b:Bool} (hx:fr.val x=Bo b):fD P (.unOp .not t x) fr [] (Bo (!b)):=by
 intro o ho g ev w _ hv _;have q:=hv x (by simp[Op.operands]);rw[hx] at q;exact ⟨.bool (!b),by simp[execOp,ho,q.c6,Op.unary],.sc g _⟩
theorem EK {t:TypeId} {x ix:Operand} {k:IntKind} {i:Int} {l:ByS} {b:UInt8} (ht:P.underlying t=some .string) (hx:fr.val x=aZ l)
  (hi:fr.val ix=Sc (.int k i)) (h0:0<=i) (hb:l[i.toNat]?=some b):fD P (.index t x ix) fr [] (Sc (.int .u8 b.toNat)):=by
 intro o ho g ev w _ hv _
 have q1:=hv x (by simp[Op.operands]);rw[hx] at q1
 have q2:=hv ix (by simp[Op.operands]);rw[hi] at q2
 have hb':(⟨l.toArray⟩:ByteArray)[i.toNat]?=some b:=by
  obtain ⟨h1,h2⟩:=List.getElem?_eq_some_iff.1 hb
  rw[getElem?_pos _ _ (by simpa[ByteArray.size] using h1)]
  simpa[ByteArray.getElem_eq_getElem_data] using h2
 exact ⟨.int .u8 b.toNat,by simp[execOp,ho,q1.c6,q2.c6,S,Instr.index,asIntOf,run_underlying ht,h0,hb'],.sc g _⟩
theorem vF (l:ByS) (a b:Nat):(⟨l.toArray⟩:ByteArray).extract a b=⟨((l.drop a).take (b - a)).toArray⟩:=by rw[Lib.extract_eq]
theorem nB {k:IntKind} {i:Int} {y:Nat} {c:BoundsCode} (h0:0<=i) (h1:i<=y) (w:World):(Instr.sliceBound (.int k i) y c).run P w=.ok i.toNat w:=by
 simp[Instr.sliceBound,asIntOf,h0,h1]
theorem EL {t:TypeId} {x lo hi:Operand} {k k':IntKind} {i j:Int} {l:ByS} (ht:P.underlying t=some .string) (hx:fr.val x=aZ l)
  (hl:fr.val lo=Sc (.int k i)) (hh:fr.val hi=Sc (.int k' j)) (h0:0<=i) (h1:i<=j) (h2:j<=l.length) :
  fD P (.slice t x (some lo) (some hi) none) fr [] (aZ ((l.drop i.toNat).take (j.toNat - i.toNat))):=by
 intro o ho g ev w _ hv _
 have q1:=hv x (by simp[Op.operands]);rw[hx] at q1
 have q2:=hv lo (by simp[Op.operands]);rw[hl] at q2
 have q3:=hv hi (by simp[Op.operands]);rw[hh] at q3
 refine ⟨S ((l.drop i.toNat).take (j.toNat - i.toNat)),?_,.sc g _⟩
 simp[execOp,ho,q1.c6,q2.c6,q3.c6,S,Instr.sliceAt,Instr.slice,Instr.sliceBounds,run_underlying ht,xi,
  nB (P:=P) (show (0:Int)<=j by omega) h2,nB (P:=P) h0 (show i<=(j.toNat:Nat) by omega),vF]
theorem Ax {t:TypeId} {x lo:Operand} {k:IntKind} {i:Int} {l:ByS} (ht:P.underlying t=some .string) (hx:fr.val x=aZ l)
  (hl:fr.val lo=Sc (.int k i)) (h0:0<=i) (h2:i<=l.length) :
  fD P (.slice t x (some lo) none none) fr [] (aZ (l.drop i.toNat)):=by
 intro o ho g ev w _ hv _
 have q1:=hv x (by simp[Op.operands]);rw[hx] at q1
 have q2:=hv lo (by simp[Op.operands]);rw[hl] at q2
 have e:(l.drop i.toNat).take (l.length - i.toNat)=l.drop i.toNat:=List.take_of_length_le (by simp)
 refine ⟨S (l.drop i.toNat),?_,.sc g _⟩
 simp[execOp,ho,q1.c6,q2.c6,S,Instr.sliceAt,Instr.slice,Instr.sliceBounds,run_underlying ht,xi,
  nB (P:=P) h0 h2,vF,e]
theorem Ay {t:TypeId} {x hi:Operand} {k:IntKind} {j:Int} {l:ByS} (ht:P.underlying t=some .string) (hx:fr.val x=aZ l)
  (hh:fr.val hi=Sc (.int k j)) (h0:0<=j) (h2:j<=l.length) :
  fD P (.slice t x none (some hi) none) fr [] (aZ (l.take j.toNat)):=by
 intro o ho g ev w _ hv _
 have q1:=hv x (by simp[Op.operands]);rw[hx] at q1
 have q3:=hv hi (by simp[Op.operands]);rw[hh] at q3
 refine ⟨S (l.take j.toNat),?_,.sc g _⟩
 simp[execOp,ho,q1.c6,q3.c6,S,Instr.sliceAt,Instr.slice,Instr.sliceBounds,run_underlying ht,xi,
  nB (P:=P) h0 h2,vF]
theorem Ip {t:TypeId} {x:Operand} {l:ByS} (ht:P.underlying t=some .string) (hx:fr.val x=aZ l) :
  fD P (.call ⟨.builtin .len,#[x],#[t]⟩) fr [] (I l.length):=by
 intro o ho g ev w _ hv _
 have q:=hv x (by simp[Op.operands,Call.operands]);rw[hx] at q
 exact ⟨.int .i64 l.length,by simp[execOp,ho,resolve,invoke,builtin,Builtin.len_,q.c6,S,run_underlying ht,xi,goInt],.sc g _⟩
theorem FO {t e:TypeId} {x:Operand} {n:Nat} {cells:List PV} (ht:P.underlying t=some (.slice e)) (hx:fr.val x=.pv (.sl n cells)) :
  fD P (.call ⟨.builtin .len,#[x],#[t]⟩) fr [] (I n):=by
 intro o ho g ev w _ hv _
 have q:=hv x (by simp[Op.operands,Call.operands]);rw[hx] at q
 generalize hq:ev x=c at q
 refine ⟨.int .i64 n,?_,.sc g _⟩
 cases q with
 | pv q=>cases q<;>simp[execOp,ho,resolve,invoke,builtin,Builtin.len_,hq,run_underlying ht,goInt]
theorem EM {t e:TypeId} {x:Operand} {k n:Nat} (ht:P.underlying t=some (.slice e)) (hx:fr.val x=.arr k n) :
  fD P (.call ⟨.builtin .len,#[x],#[t]⟩) fr [] (I n):=by
 intro o ho g ev w _ hv _
 have q:=hv x (by simp[Op.operands,Call.operands]);rw[hx] at q
 generalize hq:ev x=c at q
 refine ⟨.int .i64 n,?_,.sc g _⟩
 cases q<;>simp[execOp,ho,resolve,invoke,builtin,Builtin.len_,hq,run_underlying ht,goInt]
theorem EN {t e:TypeId} {x:Operand} {cap:Nat} (ht:P.underlying t=some (.slice e)) (hx:fr.val x=Sc (.slice none 0 cap)) :
  fD P (.call ⟨.builtin .len,#[x],#[t]⟩) fr [] (I 0):=by
 intro o ho g ev w _ hv _
 have q:=hv x (by simp[Op.operands,Call.operands]);rw[hx] at q
 exact ⟨.int .i64 0,by simp[execOp,ho,resolve,invoke,builtin,Builtin.len_,q.c6,run_underlying ht,goInt],.sc g _⟩
theorem Kn {ts:Array TypeId} {x y:Operand} {k:IntKind} {a b:Int} (hx:fr.val x=Sc (.int k a)) (hy:fr.val y=Sc (.int k b)) :
  fD P (.call ⟨.builtin .min,#[x,y],ts⟩) fr [] (Sc (.int k (if b<a then b else a))):=by
 intro o ho g ev w _ hv _
 have q1:=hv x (by simp[Op.operands,Call.operands]);rw[hx] at q1
 have q2:=hv y (by simp[Op.operands,Call.operands]);rw[hy] at q2
 exact ⟨.int k (if b<a then b else a),by simp[execOp,ho,resolve,invoke,builtin,Builtin.min_,Builtin.min2,q1.c6,q2.c6],.sc g _⟩
theorem Ko {ts:Array TypeId} {x y:Operand} {k:IntKind} {a b:Int} (hx:fr.val x=Sc (.int k a)) (hy:fr.val y=Sc (.int k b)) :
  fD P (.call ⟨.builtin .max,#[x,y],ts⟩) fr [] (Sc (.int k (if b>a then b else a))):=by
 intro o ho g ev w _ hv _
 have q1:=hv x (by simp[Op.operands,Call.operands]);rw[hx] at q1
 have q2:=hv y (by simp[Op.operands,Call.operands]);rw[hy] at q2
 exact ⟨.int k (if b>a then b else a),by simp[execOp,ho,resolve,invoke,builtin,Builtin.max_,Builtin.max2,q1.c6,q2.c6],.sc g _⟩
theorem C2 {x:Operand} {i:Nat} {vs:List AV} {v:AV} (hx:fr.val x=.gZ vs) (hv:vs[i]?=some v):fD P (.extract x i) fr [] v:=by
 intro o ho g ev w _ hh _;have q:=hh x (by simp[Op.operands]);rw[hx] at q;generalize hq:ev x=c at q;cases q with
 | gZ h=>
  obtain ⟨c,h1,h2⟩:=h.get i v hv
  exact ⟨c,by simp[execOp,ho,hq,Instr.extract,h1],h2⟩
theorem iv.map {g:Gh} {ev:Operand->Value}:∀ {xs:List Operand},(∀ x,x∈xs->VR g (fr.val x) (ev x))->iv g (xs.map fr.val) (xs.map ev)
 | [],_=>.nil
 | x::xs,h=>.cons (h x (by simp)) (iv.map λy hy=>h y (by simp[hy]))
theorem Bz {f:FuncId} {a b:List Operand}:fD P (.makeFunc (.func f) a.toArray b.toArray) fr [] (.fn f (a.map fr.val) (b.map fr.val)):=by
 intro o ho g ev w _ hh _;refine ⟨.func (.func f) (a.map ev).toArray (b.map ev).toArray,by simp[execOp,ho,Instr.makeFunc],.fn f (iv.map λx hx=>hh x ?_) (iv.map λx hx=>hh x ?_)⟩
 ·simp[Op.operands,hx]
 simp[Op.operands,hx]
def FP:TypeDesc->Bool
 | .interface _=>true
 | _=>false
theorem Az {t:TypeId} {x:Operand} {d:TypeDesc} {v:AV} (ht:P.underlying t=some d) (hd:FP d=false) (hx:fr.val x=v) :
  fD P (.makeInterface t x) fr [] (.ny t v):=by
 intro o ho g ev w _ hh _
 have q:=hh x (by simp[Op.operands]);rw[hx] at q
 refine ⟨.iface t (ev x),?_,.ny t q⟩
 cases d<;>first|(simp[FP] at hd;done)|simp[execOp,ho,Instr.makeInterface,run_underlying ht]
theorem C3 {s t:TypeId} {x:Operand} {k k':IntKind} {a:Int} (hs:P.underlying s=some (.int k')) (ht:P.underlying t=some (.int k)) (hx:fr.val x=Sc (.int k' a)) :
  fD P (.convert s t x) fr [] (Sc (.int k (k.wrap a))):=by
 intro o ho g ev w _ hh _
 have q:=hh x (by simp[Op.operands]);rw[hx] at q
 exact ⟨.int k (k.wrap a),by simp[execOp,ho,q.c6,convert,run_underlying hs,run_underlying ht,Conv.intToInt],.sc g _⟩
end
end Go.Abs
end
section
namespace Go.Abs
def wV (P:Program) (t:TypeId):Option (List Value×List (Nat×Nat)):=
 match P.info? t,P.underlying t with
 | some it,some (.struct fields)=>
  match it.zero,fields.toList.mapM (λf=>(P.info? f.type).map λi=>(f.offset,i.size)) with
  | some z,some places=>some (z.cells.toList,places)
  | _,_=>none
 | some it,some (.array n e)=>
  match it.zero,P.info? e with
  | some z,some ie=>some (z.cells.toList,(List.range n).map λi=>(i*ie.size,ie.size))
  | _,_=>none
 | _,_=>none
def AV.fN:AV->Option (List AV)
 | .any=>none
 | .agg cs=>some cs
 | .pv (.sc v)=>some (v.cells.toList.map λc=>.pv (.sc c))
 | v=>some [v]
def lU (places:List (Nat×Nat)) (cells:List AV):List (Nat×AV)->Option (List AV)
 | []=>some cells
 | (i,v)::rest=>
  match places[i]?,v.fN with
  | some (off,size),some vc=>if vc.length=size/\off+size<=cells.length then lU places (cells.take off++vc++cells.drop (off+size)) rest else none
  | _,_=>none
theorem iv.r6 (g:Gh):∀ (l:List Value),iv g (l.map λc=>.pv (.sc c)) l
 | []=>.nil
 | _::l=>.cons (.sc g _) (iv.r6 g l)
theorem VR.fN {g:Gh} {v:AV} {c:Value} {l:List AV} (h:VR g v c) (hl:v.fN=some l):iv g l c.cells.toList:=by
 cases h with
 | any=>simp[AV.fN] at hl
 | oc h=>
  simp[AV.fN] at hl;subst hl
  cases c<;>first|(simp[Value.oneCell'] at h;done)|exact .cons (.oc h) .nil
 | pv h=>cases h with
  | sc v=>simp[AV.fN] at hl;subst hl;exact iv.r6 g _
  | nil a cap=>simp[AV.fN] at hl;subst hl;exact .cons (.pv (.nil a cap)) .nil
  | sl b ys off n cap cells h hl' hc hn=>simp[AV.fN] at hl;subst hl;exact .cons (.pv (.sl b ys off n cap cells h hl' hc hn)) .nil
  | FE=>simp[AV.fN] at hl;subst hl;exact .cons (.pv .FE) .nil
  | Fx b ys off cells h hl' hc=>simp[AV.fN] at hl;subst hl;exact .cons (.pv (.Fx b ys off cells h hl' hc)) .nil
 | ptr off h=>simp[AV.fN] at hl;subst hl;exact .cons (.ptr off h) .nil
 | arr n h=>simp[AV.fN] at hl;subst hl;exact .cons (.arr n h) .nil
 | qH h=>simp[AV.fN] at hl;subst hl;exact .cons (.qH h) .nil
 | sp off h hl' hc=>simp[AV.fN] at hl;subst hl;exact .cons (.sp off h hl' hc) .nil
 | fn f hx hy=>simp[AV.fN] at hl;subst hl;exact .cons (.fn f hx hy) .nil
 | agg h=>simp[AV.fN] at hl;subst hl;simpa[Value.cells] using h
 | gZ h=>simp[AV.fN] at hl;subst hl;exact .cons (.gZ h) .nil
 | ny t h=>simp[AV.fN] at hl;subst hl;exact .cons (.ny t h) .nil
theorem zR (off:Nat):∀ (l:List Value) (j:Nat) (cs:Array Value),off+j+l.length<=cs.size->
  ((l.zipIdx j).foldl (λcs (c,j)=>cs.setIfInBounds (off+j) c) cs).toList=cs.toList.take (off+j)++l++cs.toList.drop (off+j+l.length)
 | [],j,cs,_=>by simp
 | v::l,j,cs,h=>by
  have hl:off+j<cs.size:=by simp at h;omega
  have ih:=zR off l (j+1) (cs.setIfInBounds (off+j) v) (by simp at h ⊢;omega)
  simp only[List.zipIdx_cons,List.foldl_cons]
  rw[ih]
  simp only[Array.toList_setIfInBounds]
  have h1:(cs.toList.set (off+j) v).take (off+(j+1))=cs.toList.take (off+j)++[v]:=by
   rw[show off+(j+1)=off+j+1 by omega,List.take_succ_eq_append_getElem (by simpa using hl)]
   rw[List.take_set_of_le (Nat.le_refl _)]
   simp
  have h2:(cs.toList.set (off+j) v).drop (off+(j+1)+l.length)=cs.toList.drop (off+j+(v::l).length):=by
   rw[List.drop_set_of_lt (by omega)]
   congr 1
   simp;omega
  rw[h1,h2];simp
theorem s7 {g:Gh} {places:List (Nat×Nat)} {place:Nat->Option (Nat×Nat)} (hp:∀ i x,places[i]?=some x->place i=some x) :
  ∀ {ps:List (Nat×AV)} {cells out:List AV} {cs:Array Value} {vs:List (Nat×Value)},lU places cells ps=some out->iv g cells cs.toList->
   vs.map (·.1)=ps.map (·.1)->iv g (ps.map (·.2)) (vs.map (·.2))->True->(∀ i v,(i,v)∈ps->∃ l,v.fN=some l)->
   ∃ cs',Instr.fill place cs vs=some cs'/\iv g out cs'.toList
 | [],cells,out,cs,vs,h,hc,h1,_,_,_=>by
  cases vs with
  | nil=>simp[lU] at h;subst h;exact ⟨cs,rfl,hc⟩
  | cons a l=>simp at h1
 | (i,v)::rest,cells,out,cs,vs,h,hc,h1,h2,_,h3=>by
  cases vs with
  | nil=>simp at h1
  | cons a l=>
   obtain ⟨j,c⟩:=a
   simp at h1
   obtain ⟨rfl,h1⟩:=h1
   cases h2 with
   | cons hv h2=>
    simp only[lU] at h
    split at h
    ·rename_i off size vc hpl hac
     split at h
     ·rename_i hcond
      have hvc:=hv.fN hac
      have hlen:=hvc.length
      have hcl:=hc.length
      simp at hlen hcl
      have hstep:iv g (cells.take off++vc++cells.drop (off+size)) (((c.cells.zipIdx.foldl (λcs (x:Value×Nat)=>cs.setIfInBounds (off+x.2) x.1) cs)).toList):=by
       have:=zR off c.cells.toList 0 cs (by simp;omega)
       rw[<- Array.foldl_toList,Array.toList_zipIdx]
       rw[this]
       simp only[Nat.add_zero]
       have e:off+c.cells.toList.length=off+size:=by simp;omega
       rw[e]
       exact ((hc.take off).append hvc).append (hc.drop (off+size))
      obtain ⟨cs',hf,hr⟩:=s7 hp h hstep h1 h2 trivial (λi v hm=>h3 i v (by simp[hm]))
      refine ⟨cs',?_,hr⟩
      simp only[Instr.fill,hp _ _ hpl]
      rw[if_neg (by simp;omega)]
      exact hf
     ·cases h
    ·cases h
section
variable {P:Program} {fr:eQ}
theorem BA {t:TypeId} {z:List Value} {places:List (Nat×Nat)} (h:wV P t=some (z,places)) :
  ∃ (place:Nat->Option (Nat×Nat)),(∀ i x,places[i]?=some x->place i=some x)/\∀ parts cells,Instr.fill place z.toArray parts=some cells->P.built t parts=some cells:=by
 unfold wV at h
 split at h
 ·rename_i it fields hi hu
  split at h
  ·rename_i zz pl hz hpl
   cases h
   exact ⟨λx=>places.toArray[x]?,λi x hx=>by simpa using hx,λparts cells hf=>by simp[Program.built,hi,hu,hz,hpl];simpa using hf⟩
  ·cases h
 ·rename_i it n e hi hu
  split at h
  ·rename_i zz ie hz hie
   cases h
   refine ⟨λi=>some (i*ie.size,ie.size),λi x hx=>?_,λparts cells hf=>by simp[Program.built,hi,hu,hz,hie];simpa using hf⟩
   rw[List.getElem?_map,List.getElem?_range] at hx
   ·simpa using hx
   ·rcases Nat.lt_or_ge i n with q|q
    ·exact q
    ·rw[List.getElem?_eq_none (by simpa using q)] at hx;cases hx
  ·cases h
 ·cases h
theorem s8 {places:List (Nat×Nat)}:∀ {ps:List (Nat×AV)} {cells out:List AV},lU places cells ps=some out->∀ i v,(i,v)∈ps->∃ l,v.fN=some l
 | [],_,_,_,i,v,h=>by cases h
 | (j,u)::rest,cells,out,h,i,v,hm=>by
  simp only[lU] at h;split at h
  ·rename_i off size vc hpl hac;split at h
   ·rcases List.mem_cons.1 hm with q|q
    ·cases q;exact ⟨_,hac⟩
    exact s8 h i v q
   cases h
  cases h
theorem FQ {t:TypeId} {parts:List (Nat×Operand)} {z:List Value} {places:List (Nat×Nat)} {out:List AV} (ht:wV P t=some (z,places))
  (h:lU places (z.map λv=>.pv (.sc v)) (parts.map λp=>(p.1,fr.val p.2))=some out):fD P (.build t parts.toArray) fr [] (.agg out):=by
 intro o ho g ev w _ hv _
 obtain ⟨place,hp,hb⟩:=BA ht
 obtain ⟨cs',hf,hr⟩:=s7 (g:=g) (vs:=parts.map λp=>(p.1,ev p.2)) (cs:=z.toArray) hp h (by simpa using iv.r6 g z) (by simp)
  (by
   have:∀ (ps:List (Nat×Operand)),(∀ p,p∈ps->p∈parts)->iv g ((ps.map λp=>(p.1,fr.val p.2)).map (·.2)) ((ps.map λp=>(p.1,ev p.2)).map (·.2)):=by
    intro ps
    induction ps with
    | nil=>intro _;exact .nil
    | cons p ps ih=>intro hm;exact .cons (hv p.2 (by simp[Op.operands];exact ⟨_,hm p (by simp)⟩)) (ih λq hq=>hm q (by simp[hq]))
   exact this parts λ_ hp=>hp) trivial (s8 h)
 refine ⟨.agg cs',?_,by have:=VR.agg hr;simpa using this⟩
 have e:(parts.toArray.map λ(x:Nat×Operand)=>(x.1,ev x.2)).toList=parts.map λp=>(p.1,ev p.2):=by simp
 have hrun:=run_build (P:=P) w t (parts.toArray.map λ(x:Nat×Operand)=>(x.1,ev x.2)) cs' (by rw[e];exact hb _ _ hf)
 simp only[execOp,ho,Sem.run_bind,hrun,Result.andThen_ok,Sem.run_pure]
theorem AA {t ft:TypeId} {x:Operand} {f:Nat} {cs:List AV} {v:AV} {fields:Array Field} {fd:Field} (hu:P.underlying t=some (.struct fields)) (hf:fields[f]?=some fd)
  (hft:fd.type=ft) (ha:p7 P ft=some false) (hx:fr.val x=.agg cs) (hv:cs[fd.offset]?=some v):fD P (.field t x f) fr [] v:=by
 subst hft
 intro o ho g ev w _ hh _
 have q:=hh x (by simp[Op.operands]);rw[hx] at q
 generalize hq:ev x=c at q
 cases q with
 | agg h=>
  obtain ⟨c,h1,h2⟩:=h.get _ v hv
  exact ⟨c,by simp[execOp,ho,hq,Instr.field,run_underlying hu,hf,part,p8 ha,asAgg,h1],h2⟩
theorem AB {t:TypeId} {x ix:Operand} {n:Nat} {e:TypeId} {cs:List AV} {k:IntKind} {i:Int} {v:AV} (hu:P.underlying t=some (.array n e)) (ha:p7 P e=some false)
  (hs:yI P e=some 1) (hx:fr.val x=.agg cs) (hi:fr.val ix=Sc (.int k i)) (h0:0<=i) (h1:i<n) (hv:cs[i.toNat]?=some v):fD P (.index t x ix) fr [] v:=by
 intro o ho g ev w _ hh _
 have q:=hh x (by simp[Op.operands]);rw[hx] at q
 have q2:=hh ix (by simp[Op.operands]);rw[hi] at q2
 generalize hq:ev x=c at q
 cases q with
 | agg h=>
  obtain ⟨c,hc1,hc2⟩:=h.get _ v hv
  exact ⟨c,by simp[execOp,ho,hq,q2.c6,Instr.index,asIntOf,run_underlying hu,h0,h1,part,p8 ha,nr hs,hc1],hc2⟩
def C4 (P:Program) (op:Op) (fr:eQ) (nm:Nat) (e:bh) (v:AV):Prop:=
 ∀ (o:Oper),o.op=op->∀ (g:Gh) (ev:Operand->Value) (w:World),g.G w.heap.size=none->(∀ x,x∈op.operands->VR g (fr.val x) (ev x)/\(fr.val x).eG nm=false)->
  ∃ c cs el cap,(execOp ev o).run P w=.ok (.value c) (w.alloc (.cells cs el (0,0)))/\kz (g.fresh nm w.heap.size cap e) (w.alloc (.cells cs el (0,0))) nm e/\
   VR (g.fresh nm w.heap.size cap e) v c
def FT (P:Program) (op:Op) (fr:eQ) (v:AV):Prop:=
 ∀ (o:Oper),o.op=op->∀ (g:Gh) (ev:Operand->Value) (w:World),(∀ x,x∈op.operands->VR g (fr.val x) (ev x))->
  ∃ c cs el ys,(execOp ev o).run P w=.ok (.value c) (w.alloc (.cells cs el (0,0)))/\ys.length<=cs.size/\mQ g ys (cs.toList.take ys.length)/\VR (g.dH w.heap.size ys) v c
theorem xj (g:Gh) (nm b cap:Nat):(g.bind nm b cap).ρ nm=some b:=by simp[Gh.bind]
theorem AD (g:Gh) (nm b cap:Nat):(g.bind nm b cap).cp nm=cap:=by simp[Gh.bind]
theorem BB {t:TypeId} {z:List Value} (nm:Nat) (hz:FH P t=some z):C4 P (.alloc t) fr nm (.box (z.map λv=>.pv (.sc v))) (.ptr nm 0):=by
 intro o ho g ev w hG0 _;unfold FH at hz;cases hi:P.info? t with
 | none=>simp[hi] at hz
 | some i=>
  cases hzz:i.zero with
  | none=>simp[hi,hzz] at hz
  | some zv=>
   simp only[hi,hzz,Option.bind_some] at hz
   cases ha:zv.cells.toList.all Value.oneCell' with
   | false=>rw[ha] at hz;cases hz
   | true=>
   rw[ha] at hz
   have hz:zv.cells.toList=z:=by injection hz
   have h1:∀ v,v∈zv.cells.toList->v.oneCell'=true:=λv hv=>List.all_eq_true.1 ha v hv
   refine ⟨.pointer (some ⟨w.heap.size,0,none⟩),zv.cells,t,0,?_,?_,.ptr 0 (xj ..)⟩
   ·simp[execOp,ho,Instr.alloc,zeroValue,typeInfo,hi,hzz,newVar,newRow]
   ·refine .box (xj ..) (heap_alloc_new w _) ?_ h1;rw[hz];exact iv.r6 _ z
theorem Kp {t:TypeId} {x:Operand} {l:List AV} (nm:Nat) (hx:(fr.val x).fN=some l) (ho1:AV.kF l=true) (hm:AV.eG.fP nm l=false):C4 P (.box t x) fr nm (.box l) (.ptr nm 0):=by
 intro o ho g ev w hG0 hv;obtain ⟨h1,h2⟩:=hv x (by simp[Op.operands]);refine ⟨.pointer (some ⟨w.heap.size,0,none⟩),(ev x).cells,t,0,?_,?_,.ptr 0 (xj ..)⟩
 ·simp[execOp,ho,Instr.box,newVar,newRow]
 exact .box (xj ..) (heap_alloc_new w _) ((h1.fN hx).le (lj.bind g nm _ _) λk q=>by subst q;exact hm) ((h1.fN hx).one ho1)
def zS (P:Program) (t:TypeId) (n:Nat):Option (TypeId×Nat×List Value×List (Nat×Nat)):=
 match P.underlying t with
 | some (.slice e)=>
  match P.info? e with
  | some i=>match i.zero with
   | some z=>if 0<n*i.size/\n*i.size<=16777216/\z.cells.size=i.size then some (e,i.size,((List.range (n*i.size)).map λj=>z.cells[j % z.cells.size]!),(List.range n).map λj=>(j*i.size,i.size)) else none
   | none=>none
  | none=>none
 | _=>none
theorem p9 {t e:TypeId} {n sz:Nat} {zs:List Value} {places:List (Nat×Nat)} (h:zS P t n=some (e,sz,zs,places)) :
  ∃ (place:Nat->Option (Nat×Nat)),(∀ i x,places[i]?=some x->place i=some x)/\zs.length=n*sz/\
   ∀ parts cells w,Instr.fill place zs.toArray parts.toList=some cells->
    (Instr.buildSlice t n parts).run P w=.ok (.slice (some ⟨w.heap.size,0,none⟩) n n) (w.alloc (.cells cells e (0,0))):=by
 unfold zS at h
 split at h
 ·rename_i e' hu
  split at h
  ·rename_i i hi
   split at h
   ·rename_i z hz
    split at h
    ·rename_i hc
     simp only[Option.some.injEq,Prod.mk.injEq] at h
     obtain ⟨rfl,rfl,rfl,rfl⟩:=h
     refine ⟨λj=>some (j*i.size,i.size),λj x hx=>?_,by simp,λparts cells w hf=>?_⟩
     ·rw[List.getElem?_map] at hx
      rcases Nat.lt_or_ge j n with q|q
      ·rw[List.getElem?_range q] at hx;simpa using hx
      ·rw[List.getElem?_eq_none (by simpa using q)] at hx;cases hx
     ·have hf':Instr.fill (λj=>some (j*i.size,i.size)) ((Array.range (n*i.size)).map λj=>z.cells[j % z.cells.size]!) parts.toList=some cells:=by
       rw[<- hf];congr 1
       rw[<- Array.toList_inj];simp[Array.toList_range]
      have h0:n*i.size≠0:=by omega
      have hle:¬ (2 ^ 24<n*i.size):=by omega
      simp[Instr.buildSlice,run_underlying hu,sizeOf,typeInfo,hi,zeroValue,hz,h0,hle,hf',newRow]
    ·cases h
   ·cases h
  ·cases h
 ·cases h
theorem vG {g:Gh} {ev:Operand->Value} {parts:List (Nat×Operand)} (hv:∀ p,p∈parts->VR g (fr.val p.2) (ev p.2)) :
  iv g ((parts.map λp=>(p.1,fr.val p.2)).map (·.2)) ((parts.map λp=>(p.1,ev p.2)).map (·.2)):=by
 have:∀ (ps:List (Nat×Operand)),(∀ p,p∈ps->p∈parts)->iv g ((ps.map λp=>(p.1,fr.val p.2)).map (·.2)) ((ps.map λp=>(p.1,ev p.2)).map (·.2)):=by
  intro ps
  induction ps with
  | nil=>intro _;exact .nil
  | cons p ps ih=>intro hm;exact .cons (hv p (hm p (by simp))) (ih λq hq=>hm q (by simp[hq]))
 exact this parts λ_ hp=>hp
theorem mQ.xk {g:Gh} {ps:List PV}:∀ {vs:List Value},iv g (ps.map .pv) vs->mQ g ps vs:=by
 induction ps with
 | nil=>intro vs h;cases h;exact .nil
 | cons p ps ih=>intro vs h;cases h with|cons h t=>cases h with|pv h=>exact .cons h (ih t)
theorem rf {t e:TypeId} {n sz:Nat} {zs:List Value} {places:List (Nat×Nat)} {parts:List (Nat×Operand)} {cells:List PV} (ht:zS P t n=some (e,sz,zs,places))
  (h:lU places (zs.map λv=>.pv (.sc v)) (parts.map λp=>(p.1,fr.val p.2))=some (cells.map .pv)):FT P (.buildSlice t n parts.toArray) fr (.pv (.sl n cells)):=by
 intro o ho g ev w hv
 obtain ⟨place,hp,hzl,hb⟩:=p9 ht
 obtain ⟨cs',hf,hr⟩:=s7 (g:=g) (vs:=parts.map λp=>(p.1,ev p.2)) (cs:=zs.toArray) hp h (by simpa using iv.r6 g zs) (by simp)
  (vG λp hp=>hv p.2 (by simp[Op.operands];exact ⟨_,hp⟩)) trivial (s8 h)
 have e1:(parts.toArray.map λ(x:Nat×Operand)=>(x.1,ev x.2)).toList=parts.map λp=>(p.1,ev p.2):=by simp
 have hrun:=hb (parts.toArray.map λ(x:Nat×Operand)=>(x.1,ev x.2)) cs' w (by rw[e1];exact hf)
 have hps:=mQ.xk hr
 have hlen:=hps.length
 refine ⟨.slice (some ⟨w.heap.size,0,none⟩) n n,cs',e,cells,?_,by simp at hlen;omega,?_,.pv (.sl w.heap.size cells 0 n n cells (by simp[Gh.dH]) (by simp) (by simp) (Nat.le_refl _))⟩
 ·simp only[execOp,ho,Sem.run_bind,hrun,Result.andThen_ok,Sem.run_pure]
 ·rw[List.take_of_length_le (by simp at hlen;simp;omega)];exact hps
theorem wu {t e:TypeId} {n sz:Nat} {zs:List Value} {places:List (Nat×Nat)} {parts:List (Nat×Operand)} {cells:List PV} (nm:Nat) (ht:zS P t n=some (e,sz,zs,places))
  (h:lU places (zs.map λv=>.pv (.sc v)) (parts.map λp=>(p.1,fr.val p.2))=some (cells.map .pv)) (hl:cells.length=n*sz) (hn:n<=maxLen) :
  C4 P (.buildSlice t n parts.toArray) fr nm (.app e sz cells) (.arr nm n):=by
 intro o ho g ev w hG0 hv
 obtain ⟨place,hp,hzl,hb⟩:=p9 ht
 obtain ⟨cs',hf,hr⟩:=s7 (g:=g) (vs:=parts.map λp=>(p.1,ev p.2)) (cs:=zs.toArray) hp h (by simpa using iv.r6 _ zs) (by simp)
  (vG λp hp=>(hv p.2 (by simp[Op.operands];exact ⟨_,hp⟩)).1) trivial (s8 h)
 ·have e1:(parts.toArray.map λ(x:Nat×Operand)=>(x.1,ev x.2)).toList=parts.map λp=>(p.1,ev p.2):=by simp
  have hrun:=hb (parts.toArray.map λ(x:Nat×Operand)=>(x.1,ev x.2)) cs' w (by rw[e1];exact hf)
  have hps:=mQ.xk hr
  have hlen:=hps.length
  simp at hlen
  refine ⟨.slice (some ⟨w.heap.size,0,none⟩) n n,cs',e,n,?_,?_,?_⟩
  ·simp only[execOp,ho,Sem.run_bind,hrun,Result.andThen_ok,Sem.run_pure]
  ·refine .app (by simp[Gh.fresh,Gh.bind,Gh.dH]) (by simp[Gh.fresh,Gh.dH]) (heap_alloc_new w _) (by omega) (by simp[Gh.fresh,Gh.bind,Gh.dH];omega) (by simp[Gh.fresh,Gh.bind,Gh.dH];exact hn) ?_
   rw[List.take_of_length_le (by simp;omega)]
   exact hps.le (lj.fresh g nm _ n (.app e sz cells) hG0)
  ·have:=VR.arr (g:=g.fresh nm w.heap.size n (.app e sz cells)) (k:=nm) (b:=w.heap.size) n (by simp[Gh.fresh,Gh.bind,Gh.dH])
   simpa[Gh.fresh,Gh.bind,Gh.dH] using this
end
end Go.Abs
end
section
namespace Go.Abs
inductive uh where
 | normal
 | exit (id:Nat)
 | goto (l:Nat)
 | ret
 | panic (v:AV)
inductive qI where
 | ret (v:AV)
 | panic (v:AV)
inductive XR (g:Gh):uh->Exit->Prop
 | normal:XR g .normal .normal
 | exit (id:Nat):XR g (.exit id) (.exit id)
 | goto (l:Nat):XR g (.goto l) (.goto l)
 | ret:XR g .ret .ret
 | panic {v:AV} {c:Value} (h:VR g v c):XR g (.panic v) (.panic [{ v:=c,recovered:=false }])
inductive ER (g:Gh):qI->Ending->Prop
 | ret {v:AV} {c:Value} (h:VR g v c):ER g (.ret v) (.returned c)
 | panic {v:AV} {c:Value} (h:VR g v c):ER g (.panic v) (.panicked [{ v:=c,recovered:=false }])
abbrev dU:=uh->eQ->cl->Prop
def LQ (E:Env) (n:Nat) (Q:dU):Exit->Act->World->Prop:=
 λe a w=>∃ g ae fr σ,Q ae fr σ/\XR g ae e/\Rel E g σ w/\FR n g fr a
def Step (P:Program) (E:Env) (n:Nat) (Q:dU) (o:Oper) (fr:eQ) (σ:cl) (next:eQ->cl->Prop):Prop:=
 ∀ (g:Gh) (a:Act) (w:World) (K:Act->World->Prop),Rel E g σ w->FR n g fr a->
  (∀ g' fr' σ' a' w',next fr' σ'->Rel E g' σ' w'->FR n g' fr' a'->K a' w')->o.wp P a w K (LQ E n Q)
def SL (P:Program) (E:Env) (n:Nat) (ops:Array Oper) (Q:dU) (l:List Oper) (fr:eQ) (σ:cl):Prop:=
 ∀ (g:Gh) (a:Act) (w:World),Rel E g σ w->FR n g fr a->wpList P ops (LQ E n Q) l a w
def SW (P:Program) (E:Env) (n:Nat) (c:Code) (Q:dU) (fr:eQ) (σ:cl):Prop:=
 ∀ (g:Gh) (a:Act) (w:World),Rel E g σ w->FR n g fr a->c.wp P (LQ E n Q) a w
def SC (P:Program) (f:FuncId) (args:List AV) (σ:cl) (R:qI->cl->Prop):Prop:=
 ∀ (wS:World) (g:Gh) (w:World) (vs:List Value),Rel (Env.of wS g σ w) g σ w->iv g args vs->
  Calls P f vs.toArray w λe w'=>∃ g' ae σ',R ae σ'/\ER g' ae e/\Rel (Env.of wS g σ w) g' σ' w'
section
variable {P:Program} {E:Env} {n:Nat} {Q:dU} {ops:Array Oper} {fr:eQ} {σ:cl}
theorem AE {o:Oper} {rd:List (Nat×bh)} {v:AV} {next:eQ->cl->Prop} (h:fD P o.op fr rd v) (hr:∀ p,p∈rd->Kf σ p)
  (hd:∀ d,o.dst=some d->d<n) (hn:next (fr.jM o.dst v) σ):Step P E n Q o fr σ next:=by
 intro g a w K hR hF hK
 obtain ⟨c,hrun,hv⟩:=h o rfl g a.eval w hR.gl (λx _=>hF.eval x) (λp hp=>let ⟨e,h1,h2⟩:=hr p hp;h2 _ _ _ (hR.kX _ _ h1))
 simp only[Oper.wp,hrun,Oper.upon]
 exact hK g _ σ _ w hn hR (hF.put hd hv)
theorem AF {o:Oper} {nm:Nat} {e:bh} {v:AV} {next:eQ->cl->Prop} (h:C4 P o.op fr nm e v) (hc:fr.clear nm) (hs:σ.clear nm) (hf:E.fix nm=none)
  (hd:∀ d,o.dst=some d->d<n) (hn:next (fr.jM o.dst v) (σ.set nm e)):Step P E n Q o fr σ next:=by
 intro g a w K hR hF hK
 have hval:∀ x,(fr.val x).eG nm=false:=λx=>by
  cases x with
  | tmp t=>exact hc.1 t
  | const v=>rfl
  | global k=>rfl
  | func f=>rfl
 obtain ⟨c,cs,el,cap,hrun,he,hv⟩:=h o rfl g a.eval w hR.gl.fresh (λx _=>⟨hF.eval x,hval x⟩)
 simp only[Oper.wp,hrun,Oper.upon]
 refine hK (g.fresh nm w.heap.size cap e) _ _ _ _ hn (hR.FF hs hf he) (FR.put ?_ hd hv)
 exact hF.le (lj.fresh g nm _ _ e hR.gl.fresh) λk q=>by subst q;exact hc
theorem DM {o:Oper} {v:AV} {next:eQ->cl->Prop} (h:FT P o.op fr v) (hd:∀ d,o.dst=some d->d<n) (hn:next (fr.jM o.dst v) σ):Step P E n Q o fr σ next:=by
 intro g a w K hR hF hK;obtain ⟨c,cs,el,ys,hrun,hl,hp,hv⟩:=h o rfl g a.eval w (λx _=>hF.eval x);simp only[Oper.wp,hrun,Oper.upon];exact hK (g.dH w.heap.size ys) _ _ _ _ hn (hR.frozen hl hp) ((hF.le (nn:=λ_=>False) (lj.dH g _ ys hR.gl.fresh) λk q=>q.elim).put hd hv)
theorem FR.DN {g:Gh} {a:Act} (hF:FR n g fr a) {j d:Nat} {v:Value} {want:Bool} (hj:(ops[j]?).bind (·.dst)=some d) (hb:fr.s d=Sc v) (hv:v≠.bool want):yielded ops a.tmps j≠some want:=by
 have:=hF.jH d;rw[hb] at this;have h1:=this.c6;intro q;simp only[yielded,hj,Option.bind_some] at q;split at q
 ·rename_i b h2;cases q;rw[Array.getD_eq_getD_getElem?,h2] at h1;exact hv (by simpa using h1.symm)
 cases q
theorem aH (h:Q .normal fr σ):SL P E n ops Q [] fr σ:=λg _ _ hR hF=>⟨g,.normal,fr,σ,h,.normal,hR,hF⟩
theorem kG {o:Oper} {rest:List Oper} (hg:o.guard=none) (h:Step P E n Q o fr σ (SL P E n ops Q rest)):SL P E n ops Q (o::rest) fr σ:=by
 intro g a w hR hF;unfold wpList;rw[if_pos (by simp[Region.wanted,hg])];exact .inl (h g a w _ hR hF λg' fr' σ' a' w' hn hR' hF'=>hn g' a' w' hR' hF')
theorem FR.yield {g:Gh} {a:Act} (hF:FR n g fr a) {j d:Nat} {b:Bool} (hj:(ops[j]?).bind (·.dst)=some d) (hb:fr.s d=Bo b):yielded ops a.tmps j=some b:=by
 have:=hF.jH d;rw[hb] at this;have h1:=this.c6;have hlt:d<a.tmps.size:=by
  rcases Nat.lt_or_ge d a.tmps.size with q|q
  ·exact q
  rw[Array.getD_eq_getD_getElem?,Array.getElem?_eq_none q] at h1;simp[undef] at h1
 have h2:a.tmps[d]?=some (.bool b):=by
  rw[Array.getD_eq_getD_getElem?,Array.getElem?_eq_getElem hlt] at h1;rw[Array.getElem?_eq_getElem hlt];simpa using h1
 simp[yielded,hj,h2]
theorem uQ {o:Oper} {rest:List Oper} {j d:Nat} {want b:Bool} (hg:o.guard=some (j,want)) (hj:(ops[j]?).bind (·.dst)=some d) (hb:fr.s d=Bo b)
  (hd:∀ d,o.dst=some d->d<n) (hyes:b=want->Step P E n Q o fr σ (SL P E n ops Q rest)) (hno:b≠want->SL P E n ops Q rest (fr.jM o.dst (Sc undef)) σ) :
  SL P E n ops Q (o::rest) fr σ:=by
 intro g a w hR hF
 unfold wpList
 have hy:=hF.yield (ops:=ops) hj hb
 by_cases hw:b=want
 ·rw[if_pos (by simp[Region.wanted,hg,hy,hw])]
  exact .inl (hyes hw g a w _ hR hF λg' fr' σ' a' w' hn hR' hF'=>hn g' a' w' hR' hF')
 ·rw[if_neg (by simp[Region.wanted,hg,hy,hw])]
  exact hno hw g _ w hR (hF.put hd (.pv (.sc _)))
theorem Kq {o:Oper} {rest:List Oper} {j d:Nat} {v:Value} {want:Bool} (hg:o.guard=some (j,want)) (hj:(ops[j]?).bind (·.dst)=some d) (hb:fr.s d=Sc v) (hv:v≠.bool want)
  (hd:∀ d,o.dst=some d->d<n) (hno:SL P E n ops Q rest (fr.jM o.dst (Sc undef)) σ):SL P E n ops Q (o::rest) fr σ:=by
 intro g a w hR hF
 unfold wpList
 rw[if_neg (by simp[Region.wanted,hg,hF.DN hj hb hv])]
 exact hno g _ w hR (hF.put hd (.pv (.sc _)))
theorem ab {id:Nat} {l:List Oper} (h:SL P E n l.toArray Q l fr σ):SW P E n (.region id l.toArray false) Q fr σ:=
 λg a w hR hF=>wp_region_lit (h g a w hR hF)
def s9 (K:eQ->cl->Prop) (Q:dU):dU
 | .normal,fr,σ=>K fr σ
 | e,fr,σ=>Q e fr σ
def C5 (id:Nat) (Q:dU):dU
 | .exit id',fr,σ=>if id'=id then Q .normal fr σ else Q (.exit id') fr σ
 | e,fr,σ=>Q e fr σ
theorem FU {x y:Code} (h:SW P E n x (s9 (SW P E n y Q) Q) fr σ):SW P E n (.seq x y) Q fr σ:=by
 intro g a w hR hF;refine wp_seq (wp_mono (h g a w hR hF) λe a w hq=>?_);obtain ⟨g',ae,fr',σ',q,hx,hR',hF'⟩:=hq;cases hx with
 | normal=>exact q g' a w hR' hF'
 | exit id=>exact ⟨g',_,fr',σ',q,.exit id,hR',hF'⟩
 | goto l=>exact ⟨g',_,fr',σ',q,.goto l,hR',hF'⟩
 | ret=>exact ⟨g',_,fr',σ',q,.ret,hR',hF'⟩
 | panic hv=>exact ⟨g',_,fr',σ',q,.panic hv,hR',hF'⟩
theorem ag {x y:Code} (h:∀ K:eQ->cl->Prop,(∀ fr σ,SW P E n y Q fr σ->K fr σ)->SW P E n x (s9 K Q) fr σ):SW P E n (.seq x y) Q fr σ:=
 FU (h _ λ_ _ h=>h)
theorem Iq {c:Operand} {x y:Code} {b:Bool} (hb:fr.val c=Bo b) (ht:b=true->SW P E n x Q fr σ) (hf:b=false->SW P E n y Q fr σ):SW P E n (.cond c x y) Q fr σ:=by
 intro g a w hR hF;have:=hF.eval c;rw[hb] at this;exact wp_cond_split this.c6 (λh=>ht h g a w hR hF) (λh=>hf h g a w hR hF)
theorem aD (h:Q .normal fr σ):SW P E n .skip Q fr σ:=λg _ _ hR hF=>wp_skip ⟨g,.normal,fr,σ,h,.normal,hR,hF⟩
theorem BC {l:Nat} (h:Q .normal fr σ):SW P E n (.label l) Q fr σ:=λg _ _ hR hF=>wp_label ⟨g,.normal,fr,σ,h,.normal,hR,hF⟩
theorem cx {id:Nat} (h:Q (.exit id) fr σ):SW P E n (.exit id) Q fr σ:=λg _ _ hR hF=>wp_exit ⟨g,.exit id,fr,σ,h,.exit id,hR,hF⟩
theorem aN (h:Q .ret fr σ):SW P E n .ret Q fr σ:=λg _ _ hR hF=>wp_ret ⟨g,.ret,fr,σ,h,.ret,hR,hF⟩
theorem ba {id:Nat} {c:Code} (h:SW P E n c (C5 id Q) fr σ):SW P E n (.block id c) Q fr σ:=by
 intro g a w hR hF;refine wp_block (wp_mono (h g a w hR hF) λe a w hq=>?_);obtain ⟨g',ae,fr',σ',q,hx,hR',hF'⟩:=hq;cases hx with
 | normal=>exact ⟨g',_,fr',σ',q,.normal,hR',hF'⟩
 | exit id'=>
  simp only[C5] at q
  simp only[Exit.inBlock]
  split at q
  ·rename_i he;rw[if_pos he];exact ⟨g',_,fr',σ',q,.normal,hR',hF'⟩
  ·rename_i he;rw[if_neg he];exact ⟨g',_,fr',σ',q,.exit id',hR',hF'⟩
 | goto l=>exact ⟨g',_,fr',σ',q,.goto l,hR',hF'⟩
 | ret=>exact ⟨g',_,fr',σ',q,.ret,hR',hF'⟩
 | panic hv=>exact ⟨g',_,fr',σ',q,.panic hv,hR',hF'⟩
theorem Ir {c:Code} (I:Nat->eQ->cl->Prop) (m:Nat) (h0:I m fr σ)
  (round:∀ k fr σ,I k fr σ->SW P E n c (s9 (λfr' σ'=>∃ j,j<k/\I j fr' σ') Q) fr σ):SW P E n (.loop c) Q fr σ:=by
 have key:∀ k,∀ fr σ,I k fr σ->SW P E n (.loop c) Q fr σ/\∀ (g:Gh) (a:Act) (w:World),Rel E g σ w->FR n g fr a->∀ (b:Frame) (kk:List Item) (cs:List Frame),
   ∃ e a' w',LQ E n Q e a' w'/\Arrives P (lone (b.at a (.code c::.inLoop c::kk)) cs w) b kk cs e a' w':=by
  intro k
  induction k using Nat.strongRecOn with
  | _ k ih=>
   intro fr σ hI
   have main:∀ (g:Gh) (a:Act) (w:World),Rel E g σ w->FR n g fr a->∀ (b:Frame) (kk:List Item) (cs:List Frame),
     ∃ e a' w',LQ E n Q e a' w'/\Arrives P (lone (b.at a (.code c::.inLoop c::kk)) cs w) b kk cs e a' w':=by
    intro g a w hR hF b kk cs
    obtain ⟨e,a₁,w₁,hq,harr⟩:=round k fr σ hI g a w hR hF b (.inLoop c::kk) cs
    obtain ⟨g',ae,fr',σ',q,hx,hR',hF'⟩:=hq
    cases hx with
    | normal=>
     obtain ⟨j,hj,hI'⟩:=q
     obtain ⟨e₂,a₂,w₂,hq₂,harr₂⟩:=(ih j hj fr' σ' hI').2 g' a₁ w₁ hR' hF' b kk cs
     exact ⟨e₂,a₂,w₂,hq₂,.of_steps (Steps.trans harr (.one step_inLoop)) harr₂⟩
    | exit id=>exact ⟨_,a₁,w₁,⟨g',_,fr',σ',q,.exit id,hR',hF'⟩,.pass (x:=.inLoop c) rfl (λ_ _=>.inl (by simp)) harr⟩
    | goto l=>exact ⟨_,a₁,w₁,⟨g',_,fr',σ',q,.goto l,hR',hF'⟩,.pass (x:=.inLoop c) rfl (λ_ _=>.inl (by simp)) harr⟩
    | ret=>exact ⟨_,a₁,w₁,⟨g',_,fr',σ',q,.ret,hR',hF'⟩,.pass (x:=.inLoop c) rfl (λ_ _=>.inl (by simp)) harr⟩
    | panic hv=>exact ⟨_,a₁,w₁,⟨g',_,fr',σ',q,.panic hv,hR',hF'⟩,.pass (x:=.inLoop c) rfl (λ_ _=>.inl (by simp)) harr⟩
   refine ⟨λg a w hR hF b kk cs=>?_,main⟩
   obtain ⟨e,a',w',hq,harr⟩:=main g a w hR hF b kk cs
   exact ⟨e,a',w',hq,.of_steps (.one step_loop) harr⟩
 exact (key m fr σ h0).1
def eQ.le (fr fr':eQ):Prop:=(∀ i,fr'.s i=fr.s i\/fr'.s i=.any)/\fr'.ds=fr.ds
theorem FR.BD {fr':eQ} {g:Gh} {a:Act} (h:fr.le fr') (hF:FR n g fr a):FR n g fr' a:=
 ⟨hF.size,λi=>by
  rcases h.1 i with q|q
  ·rw[q];exact hF.jH i
  rw[q];exact .any _,by rw[h.2];exact hF.ds⟩
theorem DO {c:Code} {fr':eQ} {σ':cl} (hf:fr.le fr') (hs:∀ k e,σ' k=some e->σ k=some e) (h:SW P E n c Q fr' σ'):SW P E n c Q fr σ:=
 λg a w hR hF=>h g a w (hR.sub hs) (hF.BD hf)
end
end Go.Abs
end
section
namespace Go.Abs
theorem BE {α:Type} (A v:List α) (off c:Nat) (h1:off+v.length<=c) (h2:c<=A.length) :
  (A.take off++v++A.drop (off+v.length)).take c=(A.take c).take off++v++(A.take c).drop (off+v.length):=by
 rw[List.take_append,List.drop_take,List.take_take,Nat.min_eq_left (by omega)]
 have e:(A.take off++v).length=off+v.length:=by simp;omega
 rw[e,List.take_of_length_le (by rw[e];exact h1)]
def AV.Kr:AV->PV
 | .pv p=>p
 | _=>.sc undef
theorem oI (nm:Nat):∀ l:List PV,AV.eG.fP nm (l.map .pv)=false
 | []=>rfl
 | x::l=>by simp[AV.eG.fP,AV.eG,oI nm l]
theorem xl:∀ l:List PV,(l.map AV.pv).map AV.Kr=l
 | []=>rfl
 | x::l=>by rw[List.map_cons,List.map_cons,xl l];rfl
def bh.FV:bh->Bool
 | .arr ..=>true
 | _=>false
def bh.DQ (off:Nat) (l:List AV):bh->bh
 | .box cs=>.box (cs.take off++l++cs.drop (off+l.length))
 | .arr el sz cs=>.arr el sz (cs.take off++l.map AV.Kr++cs.drop (off+l.length))
 | e=>e
section
variable {P:Program} {E:Env} {n:Nat} {Q:dU} {ops:Array Oper} {fr:eQ} {σ:cl}
theorem r7 {o:Oper} {t:TypeId} {x y:Operand} {k off:Nat} {e:bh} {l:List AV} {next:eQ->cl->Prop} (ho:o.op=.store t x y) (hd:o.dst=none)
  (hx:fr.val x=.ptr k off) (hk:σ k=some e) (hea:e.isApp=false) (hy:(fr.val y).fN=some l) (h1:AV.kF l=true) (ht:yI P t=some l.length) (hl:off+l.length<=e.cells.length)
  (hpa:e.FV=true->∃ ps:List PV,l=ps.map .pv) (hn:next fr (σ.set k (e.DQ off l))):Step P E n Q o fr σ next:=by
 intro g a w K hR hF hK
 have q:=hF.eval x;rw[hx] at q
 have r:=(hF.eval y).fN hy
 generalize hq:a.eval x=c at q
 cases q with
 | ptr _ hb=>
  rename_i b
  obtain ⟨cs,el,hw,hcl,hc⟩:=(hR.kX k e hk).at hb
  have hlen:=r.length
  simp at hlen
  have hst:=run_storeCells_at P b off el (a.eval y).cells.toList 0 cs w hw (by simp;omega) (r.one h1)
  simp only[Nat.add_zero] at hst
  have hput:a.put o.dst undef=a:=by rw[hd];rfl
  have hrun:(execOp a.eval o).run P w=.ok .skip (w.setRow b (cs.toList.take off++(a.eval y).cells.toList++cs.toList.drop (off+(a.eval y).cells.toList.length)).toArray):=by
   simp only[execOp,ho,hq,Instr.storeAt,Instr.sureAddr,Sem.run_bind,Sem.run_pure,Result.andThen_ok,storeVar,nr ht]
   rw[if_neg (by simp;omega)]
   simp[hst]
  simp only[Oper.wp,hrun,Oper.upon,hput]
  refine hK g _ _ _ _ hn (hR.write hk hea hb ?_ ⟨_,_,_,hw,by simp;omega,λ_ hf v hv=>(by
   simp only[List.mem_append] at hv
   rcases hv with (hv|hv)|hv
   ·exact hf v (List.mem_of_mem_take hv)
   ·exact r.one h1 v hv
   ·exact hf v (List.mem_of_mem_drop hv))⟩ (λ⟨c,q⟩=>by cases e with|box c=>exact ⟨_,rfl⟩|arr _ _ _=>cases q|app _ _ _=>cases q)) hF
  have hlen2:(a.eval y).cells.toList.length=l.length:=by simp;omega
  rw[hlen2]
  cases e with
  | box cells=>
   cases hR.kX k _ hk with
   | box h hw0 hc0 hb1=>
    rw[h] at hb;cases hb
    rw[hw] at hw0;cases hw0
    refine .box h (setRow_heap w b cs _ el _ hw) ?_ ?_
    ·simp only
     exact ((hc0.take off).append r).append (hc0.drop (off+l.length))
    ·intro v hv
     simp only[List.mem_append] at hv
     rcases hv with (hv|hv)|hv
     ·exact hb1 v (List.mem_of_mem_take hv)
     ·exact r.one h1 v hv
     ·exact hb1 v (List.mem_of_mem_drop hv)
  | arr ee sz cells=>
   cases hR.kX k _ hk with
   | qH h=>rw[h] at hb;cases hb
   | arr h hw0 hl0 hz hm hc0=>
    rw[h] at hb;cases hb
    rw[hw] at hw0;cases hw0
    obtain ⟨ps,hps⟩:=hpa rfl
    have r':=mQ.xk (hps▸r)
    have hpl:ps.length=l.length:=by rw[hps,List.length_map]
    simp only[bh.cells,List.length_map] at hl hcl hc
    have hc:=hc0
    have e0:l.map AV.Kr=ps:=by rw[hps,xl]
    have hll:(cells.take off++ps++cells.drop (off+l.length)).length=cells.length:=by simp;omega
    simp only[bh.DQ]
    rw[e0]
    refine .arr h (setRow_heap w b cs _ el _ hw) ?_ ?_ hm ?_
    ·simp;omega
    ·rw[<- hz];simp;omega
    ·rw[hll]
     have e1:=BE cs.toList (a.eval y).cells.toList off cells.length (by rw[hlen2];exact hl) (by simpa using hcl)
     rw[hlen2] at e1
     simp only
     rw[e1]
     exact ((hc.take off).append r').append (hc.drop (off+l.length))
  | app ee sz cells=>cases hea
theorem C6 {o:Oper} {x:Operand} {t:TypeId} {v:AV} {next:eQ->cl->Prop} (ho:o.op=.panic x) (hx:fr.val x=.ny t v) (hq:Q (.panic (.ny t v)) fr σ) :
  Step P E n Q o fr σ next:=by
 intro g a w K hR hF hK
 have q:=hF.eval x;rw[hx] at q
 generalize he:a.eval x=c at q
 cases q with
 | ny _ h=>
  rename_i v'
  have hrun:(execOp a.eval o).run P w=.halt (.panic (.iface t v')) w:=by simp[execOp,ho,he,Instr.panic]
  simp only[Oper.wp,hrun,Oper.upon]
  exact ⟨g,_,fr,σ,hq,.panic (.ny t h),hR,hF⟩
def r8 (P:Program) (t:TypeId):Option (Nat×Nat):=(P.info? t).bind λi=>i.zero.bind λz=>if z.cells.size=i.size/\0<i.size then some (i.size,i.bytes) else none
theorem mU {t ty e:TypeId} {i:TypeInfo} (ht:P.underlying t=some (.slice e)) (hi:P.info? e=some i) (a:Option Addr) (sLen sCap cap:Nat) (hl:sLen<=sCap) (w:World) :
  (Builtin.append_ #[t,t] ty #[.slice a sLen sCap,.slice none 0 cap]).run P w=.ok (.slice a sLen sCap) w:=by
 cases a<;>simp[Builtin.append_,run_underlying ht,sizeOf,typeInfo,hi,Builtin.lenOf,hl,Builtin.firstCells,storeCells]
theorem uR {t ty e:TypeId} {i:TypeInfo} {z:Value} (ht:P.underlying t=some (.slice e)) (hi:P.info? e=some i) (hz:i.zero=some z) (hzs:z.cells.size=i.size)
   (w:World) {b cap len:Nat} {cs:Array Value} (hw:w.heap[b]?=some (.cells cs e (0,0))) (hcs:cs.size=cap*i.size) (hlen:len<=cap)
   {a:Addr} {m c:Nat} {news:List Value} (hl:news.length=m*i.size) (hnews:∀ j u,news[j]?=some u->w.cell? (a.add j)=some u) (h1:∀ u∈news,u.oneCell'=true)
   (hmax:len+m<=maxLen) (hbig:(len+m)*i.bytes<=140737488355328) :
   ∃ v' w',(Builtin.append_ #[t,t] ty #[.slice (some ⟨b,0,none⟩) len cap,.slice (some a) m c]).run P w=.ok v' w'/\
     ((len+m<=cap/\v'=.slice (some ⟨b,0,none⟩) (len+m) cap/\w'=w.setRow b (cs.toList.take (len*i.size)++news++cs.toList.drop (len*i.size+news.length)).toArray)\/
      ∃ cap' cs',v'=.slice (some ⟨w.heap.size,0,none⟩) (len+m) cap'/\w'=w.drew.alloc (.cells cs' e (0,0))/\cs'.size=cap'*i.size/\cap'<=maxLen/\len+m<=cap'/\
        cs'.toList.take ((len+m)*i.size)=cs.toList.take (len*i.size)++news):=by
 have hsmall:len+m<=9223372036854775807:=by simp only[maxLen] at hmax;omega
 have hle:len*i.size<=cs.size:=by rw[hcs];exact Nat.mul_le_mul_right _ hlen
 by_cases hroom:len+m<=cap
 · have hfit:len*i.size+news.length<=cs.size:=by rw[hl,hcs,<- Nat.add_mul];exact Nat.mul_le_mul_right _ hroom
   exact ⟨_,_,run_append_room (P:=P) w t ty e i ht hi b len cap cs hw a m c news hl hnews h1 hroom hfit,.inl ⟨hroom,rfl,rfl⟩⟩
 · have hxs:(cs.toList.take (len*i.size)).length=len*i.size:=by simp;omega
   have hr:=run_append_grow (P:=P) w t ty e i z ht hi hz ⟨b,0,none⟩ len cap (cs.toList.take (len*i.size)) hxs (λj u hj=>by
     rw[Addr.add_lit,cell_of_row w b _ cs e _ hw]
     rw[List.getElem?_take] at hj
     split at hj
     · simpa using hj
     · cases hj) a m c news hl hnews (by omega) (by omega) (growslice_fits (by omega) hbig)
   have hge:=grownCap_ge w (len+m) cap e
   refine ⟨_,_,hr,.inr ⟨_,_,rfl,rfl,?_,grownCap_le_maxLen w _ _ e hmax,hge,?_⟩⟩
   · simp only[Array.size_append,List.size_toArray,size_zeroCells,hzs,hxs,hl,<- Nat.add_mul]
     congr 1
     omega
   · have e1:(cs.toList.take (len*i.size)++news).length=(len+m)*i.size:=by rw[List.length_append,hxs,hl,Nat.add_mul]
     simp only[Array.toList_append,List.append_assoc]
     rw[<- List.append_assoc,<- e1]
     exact List.take_left
theorem rz {t ty e:TypeId} {i:TypeInfo} {z:Value} (ht:P.underlying t=some (.slice e)) (hi:P.info? e=some i) (hz:i.zero=some z) (hzs:z.cells.size=i.size)
   (w:World) {a:Addr} {m c:Nat} {news:List Value} (hl:news.length=m*i.size) (hnews:∀ j u,news[j]?=some u->w.cell? (a.add j)=some u)
   (hmax:m<=maxLen) (hbig:m*i.bytes<=140737488355328) (hm:0<m) :
   ∃ v' w',(Builtin.append_ #[t,t] ty #[.slice none 0 0,.slice (some a) m c]).run P w=.ok v' w'/\
      ∃ cap' cs',v'=.slice (some ⟨w.heap.size,0,none⟩) m cap'/\w'=w.drew.alloc (.cells cs' e (0,0))/\cs'.size=cap'*i.size/\cap'<=maxLen/\m<=cap'/\
        cs'.toList.take (m*i.size)=news:=by
 have hsmall:m<=9223372036854775807:=by simp only[maxLen] at hmax;omega
 have hr:=run_append_nil (P:=P) w t ty e i z ht hi hz a m c news hl hnews hm (by omega) (by omega)
 have hge:=grownCap_ge w m 0 e
 refine ⟨_,_,hr,_,_,rfl,rfl,?_,grownCap_le_maxLen w _ _ e hmax,hge,?_⟩
 · simp only[Array.size_append,List.size_toArray,size_zeroCells,hzs,hl,<- Nat.add_mul]
   congr 1
   omega
 · simp only[Array.toList_append]
   rw[<- hl]
   exact List.take_left
theorem xm {e sz bytes:Nat} (h:r8 P e=some (sz,bytes)):∃ i z,P.info? e=some i/\i.zero=some z/\z.cells.size=i.size/\0<i.size/\i.size=sz/\i.bytes=bytes:=by
 unfold r8 at h;cases hi:P.info? e with
 | none=>simp[hi] at h
 | some i=>
  cases hz:i.zero with
  | none=>simp[hi,hz] at h
  | some z=>
   simp[hi,hz] at h
   exact ⟨i,z,rfl,hz,h.1.1,h.1.2,h.2.1,h.2.2⟩
theorem EO {g:Gh} {w:World} (hR:Rel E g σ w) {nm e sz cap' m:Nat} {cs':Array Value} {l:List PV} {news:List Value} (hs:σ.clear nm) (hf:E.fix nm=none) (hl:mQ g l news)
  (hll:l.length=m*sz) (h1:cs'.size=cap'*sz) (h2:cap'<=maxLen) (h3:m<=cap') (h4:cs'.toList.take (m*sz)=news) :
  Rel E (g.bind nm w.heap.size cap') (σ.set nm (.arr e sz l)) (w.drew.alloc (.cells cs' e (0,0))):=by
 have hle:l.length<=cs'.size:=by rw[hll,h1];exact Nat.mul_le_mul_right _ h3
 have h0:=hR.drew
 have:=h0.alloc (nm:=nm) (cap:=cap') (e:=.arr e sz l) (o:=.cells cs' e (0,0)) hs hf (.arr (by simp[Gh.bind]) (heap_alloc_new w.drew _) hle (by rw[AD];exact h1) (by rw[AD];exact h2)
  (by rw[hll,h4];exact hl.le (lj.bind g nm _ _)))
 exact this
theorem C7 {g:Gh} {w:World} (hR:Rel E g σ w) {nm e sz cap' m:Nat} {cs':Array Value} {l:List PV} {news:List Value} (hs:σ.clear nm) (hf:E.fix nm=none) (hl:mQ g l news)
  (hll:l.length=m*sz) (h1:cs'.size=cap'*sz) (h2:cap'<=maxLen) (h3:m<=cap') (h4:cs'.toList.take (m*sz)=news) :
  Rel E ((g.bind nm w.heap.size cap').dH w.heap.size l) (σ.set nm (.app e sz l)) (w.drew.alloc (.cells cs' e (0,0))):=by
 have hle:l.length<=cs'.size:=by rw[hll,h1];exact Nat.mul_le_mul_right _ h3
 exact hR.drew.Bx hs hf hle h1 h2 (by rw[hll,h4];exact hl.le (nn:=λ_=>False) (lj.dH g _ l hR.gl.fresh))
def PV.one:PV->Bool
 | .sc v=>v.oneCell'
 | _=>true
def PV.kF:List PV->Bool
 | []=>true
 | x::xs=>x.one&&kF xs
theorem PR.one {g:Gh} {v:PV} {c:Value} (h:PR g v c) (ho:v.one=true):c.oneCell'=true:=by
 cases h with
 | sc v=>exact ho
 | nil=>rfl
 | sl=>rfl
 | FE=>rfl
 | Fx=>rfl
theorem mQ.one {g:Gh}:∀ {l:List PV} {vs:List Value},mQ g l vs->PV.kF l=true->∀ v,v∈vs->v.oneCell'=true
 | _,_,.nil,_,v,hv=>by cases hv
 | _,_,.cons h t,ho,v,hv=>by
  simp[PV.kF] at ho;rcases List.mem_cons.1 hv with q|q
  ·subst q;exact h.one ho.1
  exact t.one ho.2 v q
inductive HV (sz:Nat):AV->Nat->List PV->Prop
 | sl (m:Nat) (cells:List PV) (h:cells.length=m*sz):HV sz (.pv (.sl m cells)) m cells
 | nil:HV sz (nSl) 0 []
theorem HV.read {g:Gh} {w:World} {sz m:Nat} {x:AV} {l:List PV} {c:Value} (h:HV sz x m l) (hG:DF g w) (hv:VR g x c) :
  (∃ a cap news,c=.slice (some a) m cap/\mQ g l news/\∀ j u,news[j]?=some u->w.cell? (a.add j)=some u)\/∃ cap,c=.slice none m cap/\m=0/\l=[]:=by
 cases h with
 | sl m cells h=>
  cases hv with
  | pv hv=>
   cases hv with
   | nil a cap=>
    cases a with
    | none=>exact .inr ⟨_,rfl,rfl,rfl⟩
    | some a=>exact .inl ⟨a,cap,[],rfl,.nil,λj u hj=>by simp at hj⟩
   | sl b ys off _ cap _ hb hl hc hn=>
    obtain ⟨cs,el,fz,hw,h1,h2⟩:=DI hG hb hl hc
    refine .inl ⟨_,cap,_,rfl,h2,λj u hj=>?_⟩
    rw[Addr.add_lit,cell_of_row w b _ cs el fz hw]
    rw[List.getElem?_take] at hj
    split at hj
    ·rw[List.getElem?_drop] at hj;simpa using hj
    ·cases hj
 | nil=>cases hv with|pv hv=>cases hv with|sc=>exact .inr ⟨0,rfl,rfl,rfl⟩
theorem uS {o:Oper} {t e:TypeId} {s x:Operand} {sz bytes k nm m len:Nat} {cells l:List PV} {next:eQ->cl->Prop}
  (ho:o.op=.call ⟨.builtin .append,#[s,x],#[t,t]⟩) (ht:P.underlying t=some (.slice e)) (hb:r8 P e=some (sz,bytes))
  (hs:fr.val s=.arr k len) (hk:σ k=some (.app e sz cells)) (hlen:cells.length=len*sz) (hx:HV sz (fr.val x) m l) (h1:PV.kF l=true)
  (hc:fr.clear nm) (hcs:(σ.del k).clear nm) (hf:E.fix nm=none)
  (hbig:(len+m)*bytes<=140737488355328) (hmax:len+m<=maxLen) (hd:∀ d,o.dst=some d->d<n)
  (hn:next (fr.jM o.dst (.arr nm (len+m))) ((σ.del k).set nm (.app e sz (cells++l)))):Step P E n Q o fr σ next:=by
 obtain ⟨i,z,hi,hz,hzs,hsz,rfl,rfl⟩:=xm hb
 intro g a w K hR hF hK
 have qs:=hF.eval s;rw[hs] at qs
 have qx:=hF.eval x
 generalize fr.val x=av at hx qx
 have hml:AV.eG.fP nm (bh.app e i.size (cells++l)).cells=false:=by
  have:∀ zs:List PV,AV.eG.fP nm (zs.map .pv)=false:=by
   intro zs;induction zs with
   | nil=>rfl
   | cons z zs ih=>simp[AV.eG.fP,AV.eG,ih]
  exact this _
 have hll:l.length=m*i.size:=by
  cases hx with
  | sl m cells h=>exact h
  | nil=>simp
 have hcl:(cells++l).length=(len+m)*i.size:=by rw[List.length_append,hlen,hll,Nat.add_mul]
 have hrd:=hx.read hR.gl qx
 have hstep:∀ v' w',(Builtin.append_ #[t,t] o.type #[a.eval s,a.eval x]).run P w=.ok v' w'->(∃ g',Rel E g' ((σ.del k).set nm (.app e i.size (cells++l))) w'/\FR n g' fr a/\VR g' (.arr nm (len+m)) v')->
   o.wp P a w K (LQ E n Q):=by
  intro v' w' hrun ⟨g',hR',hF',hv'⟩
  have hrun':(execOp a.eval o).run P w=.ok (.value v') w':=by
   simp only[execOp,ho,resolve,invoke,builtin,Sem.run_bind,Sem.run_pure,Result.andThen_ok,List.map_toArray,List.map_cons,List.map_nil,hrun]
  simp only[Oper.wp,hrun',Oper.upon]
  exact hK g' _ _ _ _ hn hR' (hF'.put hd hv')
 have hsub:Rel E g (σ.del k) w:=hR.sub λj e' hj=>by
  by_cases q:j=k
  ·subst q;simp[cl.del] at hj
  ·simpa[cl.del,q] using hj
 have hnone:m=0->l=[]->(Builtin.append_ #[t,t] o.type #[a.eval s,a.eval x]).run P w=.ok (a.eval s) w->o.wp P a w K (LQ E n Q):=by
  intro hm hl0 hrun
  subst hm hl0
  refine hstep _ _ hrun ⟨g.alias nm k,?_,hF.le (lj.alias g nm k) (λj q=>by subst q;exact hc),?_⟩
  ·rw[List.append_nil] at hml ⊢
   exact hR.rename hk hcs hml hf (λ_ q=>by cases q)
  ·have hn1:(g.alias nm k).ρ nm=g.ρ k:=by simp[Gh.alias]
   have hn2:(g.alias nm k).cp nm=g.cp k:=by simp[Gh.alias]
   generalize hq:a.eval s=cc at qs
   cases qs with
   | arr _ h=>rw[<- hn2];exact .arr _ (hn1.trans h)
   | qH h=>exact .qH (hn1.trans h)
 have hwr:∀ (cap':Nat) (cs':Array Value) (news:List Value) (v':Value),v'=.slice (some ⟨w.heap.size,0,none⟩) (len+m) cap'->mQ g (cells++l) news->
   cs'.size=cap'*i.size->cap'<=maxLen->len+m<=cap'->cs'.toList.take ((len+m)*i.size)=news->
   (Builtin.append_ #[t,t] o.type #[a.eval s,a.eval x]).run P w=.ok v' (w.drew.alloc (.cells cs' e (0,0)))->o.wp P a w K (LQ E n Q):=by
  intro cap' cs' news v' hv' hvr e1 e2 e3 e4 hrun
  have hle:lj (·=nm) g ((g.bind nm w.heap.size cap').dH w.heap.size (cells++l)):=
   (lj.bind g nm _ _).trans (lj.dH _ _ _ (by simpa[Gh.bind] using hR.gl.fresh))
  refine hstep _ _ hrun ⟨_,C7 hsub hcs hf hvr hcl e1 e2 e3 e4,hF.le hle (λj q=>by subst q;exact hc),?_⟩
  rw[hv']
  have:=VR.arr (g:=(g.bind nm w.heap.size cap').dH w.heap.size (cells++l)) (k:=nm) (b:=w.heap.size) (len+m) (by simp[Gh.bind,Gh.dH])
  simpa[Gh.bind,Gh.dH] using this
 generalize hq:a.eval s=cc at qs
 cases qs with
 | qH hρ=>
  have hc0:cells=[]:=List.eq_nil_of_length_eq_zero (by simpa using hlen)
  subst hc0
  rcases hrd with ⟨ad,cap,news,hxe,hvr,hcell⟩|⟨cap,hxe,hm,hl0⟩
  ·by_cases hm:m=0
   ·subst hm
    have hl0:l=[]:=List.eq_nil_of_length_eq_zero (by simpa using hll)
    refine hnone rfl hl0 ?_
    rw[hq,hxe]
    have hn0:news=[]:=List.eq_nil_of_length_eq_zero (by rw[<- hvr.length,hl0];rfl)
    simp[Builtin.append_,run_underlying ht,sizeOf,typeInfo,hi,Builtin.lenOf,Builtin.firstCells,loadCells,loadCellsFrom]
   ·have hnl:news.length=m*i.size:=by rw[<- hvr.length,hll]
    obtain ⟨v',w',hrun,cap',cs',hv',hw',e1,e2,e3,e4⟩:=rz (P:=P) (ty:=o.type) (c:=cap) ht hi hz hzs w hnl hcell (by omega) (by simpa using hbig) (Nat.pos_of_ne_zero hm)
    subst hw'
    exact hwr cap' cs' news v' (by simpa using hv') (by simpa using hvr) e1 e2 (by simpa using e3) (by simpa using e4) (by rw[hq,hxe];exact hrun)
  ·refine hnone hm hl0 ?_
   rw[hq,hxe,hm]
   exact mU ht hi none 0 0 cap (Nat.le_refl _) w
 | arr _ hρ=>
  rename_i b
  cases hR.kX k _ hk with
  | xd h=>rw[h] at hρ;cases hρ
  | app h hGk hw hcle hcz hcm hcv=>
   rename_i cs
   rw[h] at hρ;cases hρ
   have hlc:len<=g.cp k:=by
    have:len*i.size<=g.cp k*i.size:=by rw[<- hlen,<- hcz];exact hcle
    exact Nat.le_of_mul_le_mul_right this hsz
   rcases hrd with ⟨ad,cap,news,hxe,hvr,hcell⟩|⟨cap,hxe,hm,hl0⟩
   ·have hnl:news.length=m*i.size:=by rw[<- hvr.length,hll]
    obtain ⟨v',w',hrun,hcase⟩:=uR (P:=P) (ty:=o.type) (c:=cap) ht hi hz hzs w hw hcz hlc hnl hcell (hvr.one h1) hmax hbig
    rw[hlen] at hcv
    rcases hcase with ⟨hroom,hv',hw'⟩|⟨cap',cs',hv',hw',e1,e2,e3,e4⟩
    ·subst hw'
     have hfit:len*i.size+news.length<=cs.size:=by rw[hnl,hcz,<- Nat.add_mul];exact Nat.mul_le_mul_right _ hroom
     have htake:(cs.toList.take (len*i.size)++news++cs.toList.drop (len*i.size+news.length)).take (cells++l).length=cs.toList.take (len*i.size)++news:=by
      have:(cs.toList.take (len*i.size)++news).length=(cells++l).length:=by rw[hcl,List.length_append,hnl,Nat.add_mul];simp;omega
      rw[<- this];exact List.take_left
     have hR1:=hR.extend (k:=k) (us:=l) (cs:=(cs.toList.take (len*i.size)++news++cs.toList.drop (len*i.size+news.length)).toArray) hk h
      (by rw[hcl];simp;rw[hnl,Nat.add_mul];omega) (by rw[<- hcz];simp;omega) ⟨_,hw⟩ (by simp only;rw[htake];exact hcv.append hvr)
     have hR2:=hR1.rename (nm:=nm) (k:=k) (e:=.app e i.size (cells++l)) (by simp[cl.set]) (λj e' hj=>hcs j e' (by
      by_cases q:j=k
      ·subst q;simp[cl.del] at hj
      ·simpa[cl.del,cl.set,q] using hj)) hml hf (λ_ q=>by cases q)
     have hσ:((σ.set k (.app e i.size (cells++l))).del k).set nm (.app e i.size (cells++l))=(σ.del k).set nm (.app e i.size (cells++l)):=by
      funext j;simp only[cl.set,cl.del];split<;>(try rfl);split<;>rfl
     rw[hσ] at hR2
     refine hstep _ _ (by rw[hq,hxe];exact hrun) ⟨_,hR2,hF.le ((lj.grow g b cells l hGk).trans (lj.alias _ nm k)) (λj q=>by subst q;exact hc),?_⟩
     rw[hv']
     have hn1:((g.dH b (cells++l)).alias nm k).ρ nm=g.ρ k:=by simp[Gh.alias,Gh.dH]
     have hn2:((g.dH b (cells++l)).alias nm k).cp nm=g.cp k:=by simp[Gh.alias,Gh.dH]
     rw[<- hn2];exact .arr _ (hn1.trans h)
    ·subst hw'
     exact hwr cap' cs' _ v' hv' (hcv.append hvr) e1 e2 e3 e4 (by rw[hq,hxe];exact hrun)
   ·refine hnone hm hl0 ?_
    rw[hq,hxe,hm]
    exact mU ht hi _ _ _ cap hlc w
theorem xn:∀ {l:List PV},PV.kF l=true->AV.kF (l.map .pv)=true
 | [],_=>rfl
 | x::l,h=>by
  simp[PV.kF] at h;have hx:(AV.pv x).one=true:=by
   cases x with
   | sc v=>simpa[AV.one,PV.one] using h.1
   | sl _ _=>rfl
   | pt _=>rfl
  simp[AV.kF,hx,xn h.2]
theorem uT {o:Oper} {t e:TypeId} {s x:Operand} {sz bytes k nm m len:Nat} {cells l:List PV} {next:eQ->cl->Prop}
  (ho:o.op=.call ⟨.builtin .append,#[s,x],#[t,t]⟩) (ht:P.underlying t=some (.slice e)) (hb:r8 P e=some (sz,bytes))
  (hs:fr.val s=.arr k len) (hk:σ k=some (.arr e sz cells)) (hlen:cells.length=len*sz) (hx:HV sz (fr.val x) m l) (h1:PV.kF l=true)
  (hc:fr.clear nm) (hcs:(σ.del k).clear nm) (hf:E.fix nm=none)
  (hbig:(len+m)*bytes<=140737488355328) (hmax:len+m<=maxLen) (hd:∀ d,o.dst=some d->d<n)
  (hn:next (fr.jM o.dst (.arr nm (len+m))) ((σ.del k).set nm (.arr e sz (cells++l)))):Step P E n Q o fr σ next:=by
 obtain ⟨i,z,hi,hz,hzs,hsz,rfl,rfl⟩:=xm hb
 intro g a w K hR hF hK
 have qs:=hF.eval s;rw[hs] at qs
 have qx:=hF.eval x
 generalize fr.val x=av at hx qx
 have hll:l.length=m*i.size:=by
  cases hx with
  | sl m cells h=>exact h
  | nil=>simp
 have hcl:(cells++l).length=(len+m)*i.size:=by rw[List.length_append,hlen,hll,Nat.add_mul]
 have hrd:=hx.read hR.gl qx
 have hstep:∀ v' w',(Builtin.append_ #[t,t] o.type #[a.eval s,a.eval x]).run P w=.ok v' w'->(∃ g',Rel E g' ((σ.del k).set nm (.arr e i.size (cells++l))) w'/\FR n g' fr a/\VR g' (.arr nm (len+m)) v')->
   o.wp P a w K (LQ E n Q):=by
  intro v' w' hrun ⟨g',hR',hF',hv'⟩
  have hrun':(execOp a.eval o).run P w=.ok (.value v') w':=by
   simp only[execOp,ho,resolve,invoke,builtin,Sem.run_bind,Sem.run_pure,Result.andThen_ok,List.map_toArray,List.map_cons,List.map_nil,hrun]
  simp only[Oper.wp,hrun',Oper.upon]
  exact hK g' _ _ _ _ hn hR' (hF'.put hd hv')
 have hsub:Rel E g (σ.del k) w:=hR.sub λj e' hj=>by
  by_cases q:j=k
  ·subst q;simp[cl.del] at hj
  ·simpa[cl.del,q] using hj
 have hnone:m=0->l=[]->(Builtin.append_ #[t,t] o.type #[a.eval s,a.eval x]).run P w=.ok (a.eval s) w->o.wp P a w K (LQ E n Q):=by
  intro hm hl0 hrun
  subst hm hl0
  refine hstep _ _ hrun ⟨g.alias nm k,?_,hF.le (lj.alias g nm k) (λj q=>by subst q;exact hc),?_⟩
  ·rw[List.append_nil]
   exact hR.rename hk hcs (oI nm _) hf (λ_ q=>by cases q)
  ·have hn1:(g.alias nm k).ρ nm=g.ρ k:=by simp[Gh.alias]
   have hn2:(g.alias nm k).cp nm=g.cp k:=by simp[Gh.alias]
   generalize hq:a.eval s=cc at qs
   cases qs with
   | arr _ h=>rw[<- hn2];exact .arr _ (hn1.trans h)
   | qH h=>exact .qH (hn1.trans h)
 have hwr:∀ (b:Nat) (cap':Nat) (cs':Array Value) (news:List Value) (v':Value),v'=.slice (some ⟨w.heap.size,0,none⟩) (len+m) cap'->mQ g (cells++l) news->
   cs'.size=cap'*i.size->cap'<=maxLen->len+m<=cap'->cs'.toList.take ((len+m)*i.size)=news->
   (Builtin.append_ #[t,t] o.type #[a.eval s,a.eval x]).run P w=.ok v' (w.drew.alloc (.cells cs' e (0,0)))->o.wp P a w K (LQ E n Q):=by
  intro b cap' cs' news v' hv' hvr e1 e2 e3 e4 hrun
  refine hstep _ _ hrun ⟨g.bind nm w.heap.size cap',EO hsub hcs hf hvr hcl e1 e2 e3 e4,hF.le (lj.bind g nm _ _) (λj q=>by subst q;exact hc),?_⟩
  rw[hv']
  have:=VR.arr (g:=g.bind nm w.heap.size cap') (k:=nm) (len+m) (xj ..)
  rwa [AD] at this
 generalize hq:a.eval s=cc at qs
 cases qs with
 | qH hρ=>
  have hc0:cells=[]:=List.eq_nil_of_length_eq_zero (by simpa using hlen)
  subst hc0
  rcases hrd with ⟨ad,cap,news,hxe,hvr,hcell⟩|⟨cap,hxe,hm,hl0⟩
  ·by_cases hm:m=0
   ·subst hm
    have hl0:l=[]:=List.eq_nil_of_length_eq_zero (by simpa using hll)
    refine hnone rfl hl0 ?_
    rw[hq,hxe]
    have hn0:news=[]:=List.eq_nil_of_length_eq_zero (by rw[<- hvr.length,hl0];rfl)
    simp[Builtin.append_,run_underlying ht,sizeOf,typeInfo,hi,Builtin.lenOf,Builtin.firstCells,loadCells,loadCellsFrom]
   ·have hnl:news.length=m*i.size:=by rw[<- hvr.length,hll]
    obtain ⟨v',w',hrun,cap',cs',hv',hw',e1,e2,e3,e4⟩:=rz (P:=P) (ty:=o.type) (c:=cap) ht hi hz hzs w hnl hcell (by omega) (by simpa using hbig) (Nat.pos_of_ne_zero hm)
    subst hw'
    exact hwr 0 cap' cs' news v' (by simpa using hv') (by simpa using hvr) e1 e2 (by simpa using e3) (by simpa using e4) (by rw[hq,hxe];exact hrun)
  ·refine hnone hm hl0 ?_
   rw[hq,hxe,hm]
   exact mU ht hi none 0 0 cap (Nat.le_refl _) w
 | arr _ hρ=>
  rename_i b
  cases hR.kX k _ hk with
  | qH h=>rw[h] at hρ;cases hρ
  | arr h hw hcle hcz hcm hcv=>
   rename_i cs
   rw[h] at hρ;cases hρ
   have hlc:len<=g.cp k:=by
    have:len*i.size<=g.cp k*i.size:=by rw[<- hlen,<- hcz];exact hcle
    exact Nat.le_of_mul_le_mul_right this hsz
   rcases hrd with ⟨ad,cap,news,hxe,hvr,hcell⟩|⟨cap,hxe,hm,hl0⟩
   ·have hnl:news.length=m*i.size:=by rw[<- hvr.length,hll]
    obtain ⟨v',w',hrun,hcase⟩:=uR (P:=P) (ty:=o.type) (c:=cap) ht hi hz hzs w hw hcz hlc hnl hcell (hvr.one h1) hmax hbig
    rw[hlen] at hcv
    rcases hcase with ⟨hroom,hv',hw'⟩|⟨cap',cs',hv',hw',e1,e2,e3,e4⟩
    ·subst hw'
     have hfit:len*i.size+news.length<=cs.size:=by rw[hnl,hcz,<- Nat.add_mul];exact Nat.mul_le_mul_right _ hroom
     have htake:(cs.toList.take (len*i.size)++news++cs.toList.drop (len*i.size+news.length)).take (cells++l).length=cs.toList.take (len*i.size)++news:=by
      have:(cs.toList.take (len*i.size)++news).length=(cells++l).length:=by rw[hcl,List.length_append,hnl,Nat.add_mul];simp;omega
      rw[<- this];exact List.take_left
     have hnew:kz g (w.setRow b (cs.toList.take (len*i.size)++news++cs.toList.drop (len*i.size+news.length)).toArray) k (.arr e i.size (cells++l)):=by
      refine .arr h (setRow_heap w b cs _ e _ hw) ?_ ?_ hcm ?_
      ·rw[hcl];simp;rw[hnl,Nat.add_mul];omega
      ·rw[<- hcz];simp;omega
      ·simp only;rw[htake];exact hcv.append hvr
     have hR1:=hR.write hk rfl h hnew ⟨_,_,_,hw,by simp;omega,λ⟨k',q⟩ _=>(by
      have:=hR.x.o8 k' b k q (by rw[hk];rfl) h
      subst this
      obtain ⟨_,q'⟩:=hR.x.o9 k b _ q hk;cases q')⟩ (λ⟨_,q⟩=>by cases q)
     have hR2:=hR1.rename (nm:=nm) (k:=k) (e:=.arr e i.size (cells++l)) (by simp[cl.set]) (λj e' hj=>hcs j e' (by
      by_cases q:j=k
      ·subst q;simp[cl.del] at hj
      ·simpa[cl.del,cl.set,q] using hj)) (oI nm _) hf (λ_ q=>by cases q)
     have hσ:((σ.set k (.arr e i.size (cells++l))).del k).set nm (.arr e i.size (cells++l))=(σ.del k).set nm (.arr e i.size (cells++l)):=by
      funext j;simp only[cl.set,cl.del];split<;>(try rfl);split<;>rfl
     rw[hσ] at hR2
     refine hstep _ _ (by rw[hq,hxe];exact hrun) ⟨g.alias nm k,hR2,hF.le (lj.alias g nm k) (λj q=>by subst q;exact hc),?_⟩
     rw[hv']
     have hn1:(g.alias nm k).ρ nm=g.ρ k:=by simp[Gh.alias]
     have hn2:(g.alias nm k).cp nm=g.cp k:=by simp[Gh.alias]
     rw[<- hn2];exact .arr _ (hn1.trans h)
    ·subst hw'
     exact hwr b cap' cs' _ v' hv' (hcv.append hvr) e1 e2 e3 e4 (by rw[hq,hxe];exact hrun)
   ·refine hnone hm hl0 ?_
    rw[hq,hxe,hm]
    exact mU ht hi _ _ _ cap hlc w
end
end Go.Abs
end
section
namespace Go.Abs
def AV.hQ (π:Nat->Nat):AV->AV
 | .any=>.any
 | .oc=>.oc
 | .pv p=>.pv p
 | .ptr k off=>.ptr (π k) off
 | .arr k n=>.arr (π k) n
 | .sp cells=>.sp cells
 | .fn f xs ys=>.fn f (mE π xs) (mE π ys)
 | .agg cs=>.agg (mE π cs)
 | .gZ cs=>.gZ (mE π cs)
 | .ny t v=>.ny t (v.hQ π)
where
 mE (π:Nat->Nat):List AV->List AV
  | []=>[]
  | x::xs=>x.hQ π::mE π xs
def bh.hQ (π:Nat->Nat):bh->bh
 | .box cs=>.box (AV.hQ.mE π cs)
 | .arr el sz cs=>.arr el sz cs
 | .app el sz cs=>.app el sz cs
theorem bh.AG (π:Nat->Nat) (e:bh):(e.hQ π).isApp=e.isApp:=by cases e<;>rfl
def AV.only (p:Nat->Bool):AV->Bool
 | .any|.oc|.pv _|.sp _=>true
 | .ptr k _=>p k
 | .arr k _=>p k
 | .fn _ xs ys=>lu p xs&&lu p ys
 | .agg cs=>lu p cs
 | .gZ cs=>lu p cs
 | .ny _ v=>v.only p
where
 lu (p:Nat->Bool):List AV->Bool
  | []=>true
  | x::xs=>x.only p&&lu p xs
def Gh.pull (g:Gh) (π:Nat->Nat):Gh:={ ρ:=λj=>g.ρ (π j),cp:=λj=>g.cp (π j),G:=g.G }
mutual
theorem VR.pull {g:Gh} {π:Nat->Nat}:∀ {x:AV} {c:Value},VR g (x.hQ π) c->VR (g.pull π) x c
 | .any,_,_=>.any _
 | .oc,_,h=>by simp only[AV.hQ] at h;cases h with|oc h=>exact .oc h
 | .pv _,_,h=>by simp only[AV.hQ] at h;cases h with|pv h=>exact .pv (PR.congr (g:=g) (g':=g.pull π) (λ_ _ q=>q) h)
 | .ptr k off,_,h=>by simp only[AV.hQ] at h;cases h with|ptr _ h=>exact .ptr off h
 | .arr k n,_,h=>by
  simp only[AV.hQ] at h;cases h with
  | arr _ h=>exact VR.arr (g:=g.pull π) (k:=k) n h
  | qH h=>exact .qH h
 | .sp _,_,h=>by simp only[AV.hQ] at h;cases h with|sp off h hl hc=>exact .sp off h hl hc
 | .fn f xs ys,_,h=>by simp only[AV.hQ] at h;cases h with|fn _ hx hy=>exact .fn f (iv.pull hx) (iv.pull hy)
 | .agg cs,_,h=>by simp only[AV.hQ] at h;cases h with|agg h=>exact .agg (iv.pull h)
 | .gZ cs,_,h=>by simp only[AV.hQ] at h;cases h with|gZ h=>exact .gZ (iv.pull h)
 | .ny t v,_,h=>by simp only[AV.hQ] at h;cases h with|ny _ h=>exact .ny t (VR.pull h)
theorem iv.pull {g:Gh} {π:Nat->Nat}:∀ {x:List AV} {c:List Value},iv g (AV.hQ.mE π x) c->iv (g.pull π) x c
 | [],_,h=>by simp only[AV.hQ.mE] at h;cases h;exact .nil
 | x::xs,_,h=>by simp only[AV.hQ.mE] at h;cases h with|cons h t=>exact .cons (VR.pull h) (iv.pull t)
end
mutual
theorem VR.push {J:Nat->Bool} {g g':Gh} {π:Nat->Nat} (hρ:∀ j,J j=true->g'.ρ (π j)=g.ρ j) (hcp:∀ j,J j=true->g'.cp (π j)=g.cp j) (hG:∀ b ys,g.G b=some ys->g'.G b=some ys) :
  ∀ {x:AV} {c:Value},x.only J=true->VR g x c->VR g' (x.hQ π) c
 | .any,_,_,_=>by simp only[AV.hQ];exact .any _
 | .oc,_,_,h=>by simp only[AV.hQ];cases h with|oc h=>exact .oc h
 | .pv _,_,_,h=>by simp only[AV.hQ];cases h with|pv h=>exact .pv (h.congr hG)
 | .ptr k off,_,ho,h=>by
  simp only[AV.hQ];simp only[AV.only] at ho
  cases h with|ptr _ h=>exact .ptr off ((hρ k ho).trans h)
 | .arr k n,_,ho,h=>by
  simp only[AV.hQ];simp only[AV.only] at ho
  cases h with
  | arr _ h=>rw[<- hcp k ho];exact .arr n ((hρ k ho).trans h)
  | qH h=>exact .qH ((hρ k ho).trans h)
 | .sp _,_,_,h=>by simp only[AV.hQ];cases h with|sp off h hl hc=>exact .sp off (hG _ _ h) hl hc
 | .fn f xs ys,_,ho,h=>by
  simp only[AV.hQ];simp only[AV.only,Bool.and_eq_true] at ho
  cases h with|fn _ hx hy=>exact .fn f (iv.push hρ hcp hG ho.1 hx) (iv.push hρ hcp hG ho.2 hy)
 | .agg cs,_,ho,h=>by simp only[AV.hQ];simp only[AV.only] at ho;cases h with|agg h=>exact .agg (iv.push hρ hcp hG ho h)
 | .gZ cs,_,ho,h=>by simp only[AV.hQ];simp only[AV.only] at ho;cases h with|gZ h=>exact .gZ (iv.push hρ hcp hG ho h)
 | .ny t v,_,ho,h=>by simp only[AV.hQ];simp only[AV.only] at ho;cases h with|ny _ h=>exact .ny t (VR.push hρ hcp hG ho h)
theorem iv.push {J:Nat->Bool} {g g':Gh} {π:Nat->Nat} (hρ:∀ j,J j=true->g'.ρ (π j)=g.ρ j) (hcp:∀ j,J j=true->g'.cp (π j)=g.cp j) (hG:∀ b ys,g.G b=some ys->g'.G b=some ys) :
  ∀ {x:List AV} {c:List Value},AV.only.lu J x=true->iv g x c->iv g' (AV.hQ.mE π x) c
 | [],_,_,h=>by simp only[AV.hQ.mE];cases h;exact .nil
 | x::xs,_,ho,h=>by
  simp only[AV.hQ.mE];simp only[AV.only.lu,Bool.and_eq_true] at ho
  cases h with|cons h t=>exact .cons (VR.push hρ hcp hG ho.1 h) (iv.push hρ hcp hG ho.2 t)
end
theorem kz.pull {g:Gh} {w:World} {π:Nat->Nat} {j:Nat} {e:bh} (h:kz g w (π j) (e.hQ π)):kz (g.pull π) w j e:=by
 cases e with
 | box cells=>
  simp only[bh.hQ] at h
  cases h with|box h hw hc h1=>exact .box h hw (iv.pull hc) h1
 | arr el sz cells=>
  simp only[bh.hQ] at h
  cases h with
  | qH h=>exact .qH h
  | arr h hw hl hz hm hc=>exact .arr h hw hl hz hm (mQ.congr (g:=g) (g':=g.pull π) (λ_ _ q=>q) hc)
 | app el sz cells=>
  simp only[bh.hQ] at h
  cases h with
  | xd h=>exact .xd h
  | app h hG hw hl hz hm hc=>exact .app h hG hw hl hz hm (mQ.congr (g:=g) (g':=g.pull π) (λ_ _ q=>q) hc)
theorem kz.push {J:Nat->Bool} {g g':Gh} {w:World} {π:Nat->Nat} (hρ:∀ j,J j=true->g'.ρ (π j)=g.ρ j) (hcp:∀ j,J j=true->g'.cp (π j)=g.cp j)
  (hG:∀ b ys,g.G b=some ys->g'.G b=some ys) {j:Nat} {e:bh} (hj:J j=true) (ho:AV.only.lu J e.cells=true) (h:kz g w j e):kz g' w (π j) (e.hQ π):=by
 cases h with
 | box h hw hc h1=>exact .box ((hρ j hj).trans h) hw (hc.push hρ hcp hG ho) h1
 | qH h=>exact .qH ((hρ j hj).trans h)
 | arr h hw hl hz hm hc=>exact .arr ((hρ j hj).trans h) hw hl (by rw[hcp j hj];exact hz) (by rw[hcp j hj];exact hm) (hc.congr hG)
 | xd h=>exact .xd ((hρ j hj).trans h)
 | app h hg hw hl hz hm hc=>exact .app ((hρ j hj).trans h) (hG _ _ hg) hw hl (by rw[hcp j hj];exact hz) (by rw[hcp j hj];exact hm) (hc.congr hG)
def after (σ:cl) (π:Nat->Nat) (L J:List Nat) (σc:cl):cl:=λk=>
 match J.find? (λj=>π j==k) with
 | some j=>(σc j).map (bh.hQ π)
 | none=>if L.any (λj=>π j==k) then none else σ k
structure wM (E:Env) (fr:eQ) (σ:cl) (π:Nat->Nat) (L J:List Nat) (σ0 σc:cl) (v:AV):Prop where
 Is:∀ j e,σc j=some e->J.contains j=true/\AV.only.lu J.contains e.cells=true
 val:v.only J.contains=true
 inj:∀ j j',J.contains j=true->J.contains j'=true->π j=π j'->j=j'
 same:∀ j,J.contains j=true->(∃ cs,σ0 j=some (.box cs))\/(fr.clear (π j)/\(∀ k e,L.any (λi=>π i==k)=false->σ k=some e->AV.eG.fP (π j) e.cells=false)/\E.fix (π j)=none)
section
variable {P:Program} {E:Env} {n:Nat} {Q:dU} {fr:eQ} {σ:cl}
def Gh.join (g g':Gh) (π:Nat->Nat) (J:List Nat):Gh where
 ρ:=λk=>match J.find? (λj=>π j==k) with
  | some j=>g'.ρ j
  | none=>g.ρ k
 cp:=λk=>match J.find? (λj=>π j==k) with
  | some j=>g'.cp j
  | none=>g.cp k
 G:=g'.G
theorem FW {π:Nat->Nat} {J:List Nat} (inj:∀ j j',J.contains j=true->J.contains j'=true->π j=π j'->j=j') {j:Nat} (hj:J.contains j=true) :
  J.find? (λi=>π i==π j)=some j:=by
 cases h:J.find? (λi=>π i==π j) with
 | none=>
  have:=List.find?_eq_none.1 h j (by simpa using hj)
  simp at this
 | some i=>
  have h1:=List.find?_some h
  have h2:=List.mem_of_find?_eq_some h
  rw[inj i j (by simpa using h2) hj (by simpa using h1)]
theorem vH {g g':Gh} {w w':World} {a:Act} {π:Nat->Nat} {L J:List Nat} {σ0 σc:cl} {v:AV} {c:Value} (hR:Rel E g σ w) (hF:FR n g fr a)
  (hL:∀ j,(σ0 j).isSome=true->L.contains j=true) (hσ:∀ j e,σ0 j=some e->σ (π j)=some (e.hQ π))
  (hB:wM E fr σ π L J σ0 σc v) (hR':Rel (Env.of E.wS (g.pull π) σ0 w) g' σc w') (hv:VR g' v c) :
  Rel E (g.join g' π J) (after σ π L J σc) w'/\FR n (g.join g' π J) fr a/\VR (g.join g' π J) (v.hQ π) c:=by
 have hfind:∀ j,J.contains j=true->J.find? (λi=>π i==π j)=some j:=λj hj=>FW hB.inj hj
 have hρJ:∀ j,J.contains j=true->(g.join g' π J).ρ (π j)=g'.ρ j:=λj hj=>by simp only[Gh.join,hfind j hj]
 have hcJ:∀ j,J.contains j=true->(g.join g' π J).cp (π j)=g'.cp j:=λj hj=>by simp only[Gh.join,hfind j hj]
 have hbox:∀ j cs,σ0 j=some (.box cs)->g'.ρ j=g.ρ (π j)/\g'.cp j=g.cp (π j):=λj cs hcs=>by
  have he:=hσ j _ hcs
  cases hR.kX _ _ he with
  | box hb=>
   rename_i b _ _ _ _ _
   have hfx:(Env.of E.wS (g.pull π) σ0 w).fix j=some b:=by simp only[Env.of,hcs,Gh.pull];exact hb
   exact ⟨(hR'.fix j b hfx).trans hb.symm,hR'.ke j b hfx⟩
 have hle:lj (λk=>∃ j,J.contains j=true/\π j=k/\¬ ∃ cs,σ0 j=some (.box cs)) g (g.join g' π J):=by
  refine ⟨λk hk=>?_,λk hk=>?_,λb ys hb=>hR'.g0 b ys hb⟩
  all_goals
   cases hf:J.find? (λj=>π j==k) with
   | none=>simp only[Gh.join,hf]
   | some j=>
    have h1:=List.find?_some hf
    have h2:=List.mem_of_find?_eq_some hf
    have hj:J.contains j=true:=by simpa using h2
    have hjk:π j=k:=by simpa using h1
    simp only[Gh.join,hf]
    have hb:∃ cs,σ0 j=some (.box cs):=Classical.byContradiction λq=>hk ⟨j,hj,hjk,q⟩
    obtain ⟨cs,hcs⟩:=hb
    have:=hbox j cs hcs
    rw[hjk] at this
    first|exact this.1|exact this.2
 have hclear:∀ k,(∃ j,J.contains j=true/\π j=k/\¬ ∃ cs,σ0 j=some (.box cs))->fr.clear k/\(∀ i e,L.any (λj=>π j==i)=false->σ i=some e->AV.eG.fP k e.cells=false)/\E.fix k=none:=by
  rintro k ⟨j,hj,rfl,hn⟩
  rcases hB.same j hj with q|q
  ·exact absurd q hn
  ·exact q
 have hown0:∀ b,(Env.of E.wS (g.pull π) σ0 w).own b↔∃ j,(σ0 j).isSome=true/\g.ρ (π j)=some b:=λb=>Iff.rfl
 have hsome:∀ j,(σ0 j).isSome=true->(σ (π j)).isSome=true:=λj hj=>by
  cases q:σ0 j with
  | none=>rw[q] at hj;cases hj
  | some e=>rw[hσ j e q];rfl
 have hrest:∀ k e,after σ π L J σc k=some e->(∃ j ec,J.contains j=true/\π j=k/\σc j=some ec/\e=ec.hQ π)\/
   (σ k=some e/\L.any (λj=>π j==k)=false/\∀ j,J.contains j=true->π j≠k):=by
  intro k e hk
  unfold after at hk
  cases hf:J.find? (λj=>π j==k) with
  | some j=>
   rw[hf] at hk
   have h1:=List.find?_some hf
   have h2:=List.mem_of_find?_eq_some hf
   simp only at hk
   cases q:σc j with
   | none=>rw[q] at hk;cases hk
   | some ec=>rw[q] at hk;cases hk;exact .inl ⟨j,ec,by simpa using h2,by simpa using h1,q,rfl⟩
  | none=>
   rw[hf] at hk
   simp only at hk
   split at hk
   ·cases hk
   ·rename_i hn
    refine .inr ⟨hk,by simpa using hn,λj hj q=>?_⟩
    have:=List.find?_eq_none.1 hf j (by simpa using hj)
    simp[q] at this
 have hnot:∀ k b,(σ k).isSome=true->L.any (λj=>π j==k)=false->g.ρ k=some b->¬ (Env.of E.wS (g.pull π) σ0 w).own b:=by
  rintro k b hk hl hb ⟨j,hj,hjb⟩
  have:=hR.inj (π j) k b (hsome j hj) hk hjb hb
  have hlj:=hL j hj
  have:L.any (λj=>π j==k)=true:=List.any_eq_true.2 ⟨j,by simpa using hlj,by simpa using this⟩
  rw[hl] at this;cases this
 have hρrest:∀ k,(∀ j,J.contains j=true->π j≠k)->(g.join g' π J).ρ k=g.ρ k:=λk hk=>by
  cases hf:J.find? (λj=>π j==k) with
  | none=>simp only[Gh.join,hf]
  | some j=>
   have h1:=List.find?_some hf
   have h2:=List.mem_of_find?_eq_some hf
   exact absurd (by simpa using h1) (hk j (by simpa using h2))
 have hJc:∀ j ec,σc j=some ec->J.contains j=true:=λj ec h=>(hB.Is j ec h).1
 have hown:∀ b,(Env.of E.wS (g.pull π) σ0 w).own b->E.own b\/E.w0.heap.size<=b:=by
  rintro b ⟨j,hj,hjb⟩
  exact hR.own (π j) b (hsome j hj) hjb
 have hGk:∀ k e b,σ k=some e->L.any (λj=>π j==k)=false->g.ρ k=some b->e.isApp=true->(g.join g' π J).G b=g.G b:=by
  intro k e b he hl hb hea
  have hks:(σ k).isSome=true:=by rw[he];rfl
  cases e with
  | box _=>cases hea
  | arr _ _ _=>cases hea
  | app el sz cells=>
   cases hR.kX k _ he with
   | xd h=>rw[h] at hb;cases hb
   | app h hG=>
    rw[h] at hb;cases hb
    obtain ⟨zs,h1⟩:=hR'.g0 b cells hG
    rcases hR'.gn b _ h1 with q|q|q
    ·have q':g.G b=some (cells++zs):=q
     exact h1.trans q'.symm
    ·exact (hnot k b hks hl h q).elim
    ·exact absurd (hR.lt hks h) (Nat.not_lt.2 q)
 refine ⟨{ kX:=?_,inj:=?_,gl:=?_,apart:=?_,size:=?_,pV:=?_,own:=?_,fix:=?_,ke:=?_,g0:=?_,gn:=?_,os:=?_,out:=?_,tape:=?_,x:=?_ },?_,?_⟩
 ·intro k e hk
  rcases hrest k e hk with ⟨j,ec,hj,rfl,hec,rfl⟩|⟨he,hl,hJ⟩
  ·exact (hR'.kX j ec hec).push (λi hi=>hρJ i hi) (λi hi=>hcJ i hi) (λ_ _ q=>q) hj (hB.Is j ec hec).2
  ·have hks:(σ k).isSome=true:=by rw[he];rfl
   refine (hR.kX k e he).le hle (λq=>?_) (λb hb hea=>hGk k e b he hl hb hea) (λi hi=>(hclear i hi).2.1 k e hl he) (λb hb=>?_)
   ·obtain ⟨j,hj,hjk,_⟩:=q;exact hJ j hj hjk
   ·exact hR'.pV b ((hR.kX k e he).lt hb) (hnot k b hks hl hb)
 ·intro k k' b hk hk' hb hb'
  have key:∀ k,(after σ π L J σc k).isSome=true->(g.join g' π J).ρ k=some b->(∃ j,J.contains j=true/\π j=k/\(σc j).isSome=true/\g'.ρ j=some b)\/((σ k).isSome=true/\L.any (λj=>π j==k)=false/\g.ρ k=some b):=by
   intro k hk hb
   cases q:after σ π L J σc k with
   | none=>rw[q] at hk;cases hk
   | some e=>
    rcases hrest k e q with ⟨j,ec,hj,rfl,hec,rfl⟩|⟨he,hl,hJ⟩
    ·exact .inl ⟨j,hj,rfl,by rw[hec];rfl,(hρJ j hj).symm.trans hb⟩
    ·exact .inr ⟨by rw[he];rfl,hl,(hρrest k hJ).symm.trans hb⟩
  have ta:∀ j k,(σc j).isSome=true->g'.ρ j=some b->(σ k).isSome=true->L.any (λi=>π i==k)=false->g.ρ k=some b->False:=by
   intro j k hj hjb hk hl hkb
   rcases hR'.own j b hj hjb with q|q
   ·exact hnot k b hk hl hkb q
   ·exact absurd (hR.lt hk hkb) (Nat.not_lt.2 q)
  rcases key k hk hb with ⟨j,hj,rfl,hs,hr⟩|⟨hs,hl,hr⟩
  ·rcases key k' hk' hb' with ⟨j',hj',rfl,hs',hr'⟩|⟨hs',hl',hr'⟩
   ·rw[hR'.inj j j' b hs hs' hr hr']
   ·exact (ta j k' hs hr hs' hl' hr').elim
  ·rcases key k' hk' hb' with ⟨j',hj',rfl,hs',hr'⟩|⟨hs',hl',hr'⟩
   ·exact (ta j' k hs' hr' hs hl hr).elim
   ·exact hR.inj k k' b hs hs' hr hr'
 ·intro b ys hb
  obtain ⟨cs,el,fz,h1,h2,h3⟩:=hR'.gl b ys hb
  exact ⟨cs,el,fz,h1,h2,mQ.congr (g:=g') (g':=g.join g' π J) (λ_ _ q=>q) h3⟩
 ·intro k b e q hea hb
  rcases hrest k e q with ⟨j,ec,hj,rfl,hec,rfl⟩|⟨he,hl,hJ⟩
  ·exact hR'.apart j b ec hec (by rw[<- hea,bh.AG]) ((hρJ j hj).symm.trans hb)
  ·have hkb:=(hρrest k hJ).symm.trans hb
   have hks:(σ k).isSome=true:=by rw[he];rfl
   cases hG:(g.join g' π J).G b with
   | none=>rfl
   | some ys=>
    rcases hR'.gn b ys hG with q|q|q
    ·have:=hR.apart k b e he hea hkb
     simp only[Env.of,Gh.pull] at q
     rw[this] at q;cases q
    ·exact (hnot k b hks hl hkb q).elim
    ·exact absurd (hR.lt hks hkb) (Nat.not_lt.2 q)
 ·exact Nat.le_trans hR.size hR'.size
 ·intro b hb ho
  have h1:¬ (Env.of E.wS (g.pull π) σ0 w).own b:=λq=>by
   rcases hown b q with q|q
   ·exact ho q
   ·exact absurd hb (Nat.not_lt.2 q)
  rw[hR'.pV b (Nat.lt_of_lt_of_le hb hR.size) h1]
  exact hR.pV b hb ho
 ·intro k b hk hb
  cases q:after σ π L J σc k with
  | none=>rw[q] at hk;cases hk
  | some e=>
   rcases hrest k e q with ⟨j,ec,hj,rfl,hec,rfl⟩|⟨he,hl,hJ⟩
   ·rcases hR'.own j b (by rw[hec];rfl) ((hρJ j hj).symm.trans hb) with q|q
    ·exact hown b q
    ·exact .inr (Nat.le_trans hR.size q)
   ·exact hR.own k b (by rw[he];rfl) ((hρrest k hJ).symm.trans hb)
 ·intro k b hk
  rw[hle.ρ k (λq=>by have:=(hclear k q).2.2;rw[this] at hk;cases hk)]
  exact hR.fix k b hk
 ·intro k b hk
  rw[hle.cp k (λq=>by have:=(hclear k q).2.2;rw[this] at hk;cases hk)]
  exact hR.ke k b hk
 ·intro b ys hb
  obtain ⟨zs,h1⟩:=hR.g0 b ys hb
  obtain ⟨us,h2⟩:=hR'.g0 b _ h1
  exact ⟨zs++us,by rw[<- List.append_assoc];exact h2⟩
 ·intro b ys hb
  rcases hR'.gn b ys hb with q|q|q
  ·exact hR.gn b ys q
  ·exact .inr (hown b q)
  ·exact .inr (.inr (Nat.le_trans hR.size q))
 ·exact hR'.os.trans hR.os
 ·exact hR'.out.trans hR.out
 ·exact hR'.tape.trans hR.tape
 ·exact {
      yM:=λb cs el fz hb=>by
       obtain ⟨c1,h1,h2⟩:=hR.x.yM b cs el fz hb
       obtain ⟨c2,h3,h4⟩:=hR'.x.yM b c1 el fz h1
       exact ⟨c2,h3,h4.trans h2⟩
      flat:=λk b cs el fz hk hb hfl=>by
       obtain ⟨c1,h1,h1f⟩:=hR.x.flat k b cs el fz hk hb hfl
       by_cases q:∃ j,(σ0 j).isSome=true/\g.ρ (π j)=some b
       ·obtain ⟨j,hj,hjb⟩:=q
        have hkj:=hR.x.o8 k b (π j) hk (hsome j hj) hjb
        cases q0:σ0 j with
        | none=>rw[q0] at hj;cases hj
        | some e0=>
         have h2:=hσ j e0 q0
         rw[hkj] at h2
         obtain ⟨cs2,h3⟩:=hR.x.o9 k b _ hk h2
         cases e0 with
         | box cs0=>
          have hfx:(Env.of E.wS (g.pull π) σ0 w).fix j=some b:=by simp only[Env.of,q0];exact hjb
          exact hR'.x.flat j b c1 el fz hfx h1 h1f
         | arr _ _ _=>cases h3
         | app _ _ _=>cases h3
       ·exact ⟨c1,by rw[hR'.pV b (r5 h1) (λ⟨j,hj,hjb⟩=>q ⟨j,hj,hjb⟩)];exact h1,h1f⟩
      set:=hR'.x.set,yN:=hR.x.yN
      hi:=λk b hk hb=>by
       cases q:after σ π L J σc k with
       | none=>rw[q] at hk;cases hk
       | some e=>
        rcases hrest k e q with ⟨j,ec,hj,rfl,hec,rfl⟩|⟨he,hl,hJ⟩
        ·exact hR'.x.hi j b (by rw[hec];rfl) ((hρJ j hj).symm.trans hb)
        ·exact hR.x.hi k b (by rw[he];rfl) ((hρrest k hJ).symm.trans hb)
      gf:=hR.x.gf
      o7:=hR.x.o7
      pD:=λk b hf=>by
       cases hG:(g.join g' π J).G b with
       | none=>rfl
       | some ys=>
        rcases hR'.gn b ys hG with q|q|q
        ·have:=hR.x.pD k b hf
         simp only[Env.of,Gh.pull] at q
         rw[this] at q;cases q
        ·obtain ⟨j,hj,hjb⟩:=q
         have hjb':g.ρ (π j)=some b:=hjb
         have hkj:=hR.x.o8 k b (π j) hf (hsome j hj) hjb'
         cases q0:σ0 j with
         | none=>rw[q0] at hj;cases hj
         | some e0=>
          have h1:=hσ j e0 q0
          rw[hkj] at h1
          obtain ⟨cs,h2⟩:=hR.x.o9 k b _ hf h1
          cases e0 with
          | box cs0=>
           have hfx:(Env.of E.wS (g.pull π) σ0 w).fix j=some b:=by simp only[Env.of,q0];exact hjb
           have:=hR'.x.pD j b hfx
           have hG':g'.G b=some ys:=hG
           rw[this] at hG';cases hG'
          | arr _ _ _=>cases h2
          | app _ _ _=>cases h2
        ·have:=hR.x.o7 k b hf
         exact absurd (Nat.lt_of_lt_of_le this hR.size) (Nat.not_lt.2 q)
      o8:=λk b k' hf hk hb=>by
       cases q:after σ π L J σc k' with
       | none=>rw[q] at hk;cases hk
       | some e=>
        rcases hrest k' e q with ⟨j,ec,hj,rfl,hec,rfl⟩|⟨he,hl,hJ⟩
        ·have hjb:=(hρJ j hj).symm.trans hb
         rcases hR'.own j b (by rw[hec];rfl) hjb with q1|q1
         ·obtain ⟨j0,hj0,hjb0⟩:=q1
          have hkj:=hR.x.o8 k b (π j0) hf (hsome j0 hj0) hjb0
          cases q0:σ0 j0 with
          | none=>rw[q0] at hj0;cases hj0
          | some e0=>
           have h1:=hσ j0 e0 q0
           rw[hkj] at h1
           obtain ⟨cs,h2⟩:=hR.x.o9 k b _ hf h1
           cases e0 with
           | box cs0=>
            have hfx:(Env.of E.wS (g.pull π) σ0 w).fix j0=some b:=by simp only[Env.of,q0];exact hjb0
            have:=hR'.x.o8 j0 b j hfx (by rw[hec];rfl) hjb
            rw[this];exact hkj
           | arr _ _ _=>cases h2
           | app _ _ _=>cases h2
         ·have:=hR.x.o7 k b hf
          exact absurd (Nat.lt_of_lt_of_le this hR.size) (Nat.not_lt.2 q1)
        ·exact hR.x.o8 k b k' hf (by rw[he];rfl) ((hρrest k' hJ).symm.trans hb)
      o9:=λk b e hf hk=>by
       rcases hrest k e hk with ⟨j,ec,hj,rfl,hec,rfl⟩|⟨he,hl,hJ⟩
       ·rcases hB.same j hj with ⟨cs,hcs⟩|⟨_,_,h3⟩
        ·have hfx:∃ b',(Env.of E.wS (g.pull π) σ0 w).fix j=some b':=by
          cases hR.kX _ _ (hσ j _ hcs) with
          | box h1=>exact ⟨_,by simp only[Env.of,hcs];exact h1⟩
         obtain ⟨b',hfx⟩:=hfx
         obtain ⟨cs',h4⟩:=hR'.x.o9 j b' ec hfx hec
         subst h4;exact ⟨_,rfl⟩
        ·rw[h3] at hf;cases hf
       ·exact hR.x.o9 k b e hf he }
 ·exact hF.le hle λk hk=>(hclear k hk).1
 ·exact hv.push (λi hi=>hρJ i hi) (λi hi=>hcJ i hi) (λ_ _ q=>q) hB.val
theorem DS {g:Gh} {w:World} {π:Nat->Nat} {σ0:cl} (hR:Rel E g σ w) (hσ:∀ j e,σ0 j=some e->σ (π j)=some (e.hQ π))
   (hinj:∀ j j',(σ0 j).isSome=true->(σ0 j').isSome=true->π j=π j'->j=j'):Rel (Env.of E.wS (g.pull π) σ0 w) (g.pull π) σ0 w:=by
 have hsome:∀ j,(σ0 j).isSome=true->(σ (π j)).isSome=true:=λj hj=>by
   cases q:σ0 j with
   | none=>rw[q] at hj;cases hj
   | some e=>rw[hσ j e q];rfl
 exact {
         kX:=λk e hk=>(hR.kX _ _ (hσ k e hk)).pull
         inj:=λk k' b hk hk' hb hb'=>hinj k k' hk hk' (hR.inj _ _ b (hsome k hk) (hsome k' hk') hb hb')
         gl:=λb ys hb=>by
           obtain ⟨cs,el,fz,h1,h2,h3⟩:=hR.gl b ys hb
           exact ⟨cs,el,fz,h1,h2,mQ.congr (g:=g) (g':=g.pull π) (λ_ _ q=>q) h3⟩
         apart:=λk b e hk hea hb=>hR.apart _ b (e.hQ π) (hσ k e hk) (by rw[bh.AG];exact hea) hb
         size:=Nat.le_refl _
         pV:=λ_ _ _=>rfl
         own:=λk b hk hb=>.inl ⟨k,hk,hb⟩
         fix:=λk b hk=>by
           simp only[Env.of] at hk
           split at hk
           · exact hk
           · cases hk
         ke:=λ_ _ _=>rfl
         g0:=λ_ _ h=>⟨[],by simpa[Env.of] using h⟩
         gn:=λ_ _ h=>.inl h
         os:=rfl,out:=rfl,tape:=rfl
         x:={
                yM:=λ_ cs _ _ h=>⟨cs,h,rfl⟩
                flat:=λ_ _ cs _ _ _ h hf=>⟨cs,h,hf⟩
                set:=hR.x.set,yN:=Nat.le_trans hR.x.yN hR.size
                hi:=λk b hk hb=>hR.x.hi (π k) b (hsome k hk) hb
                gf:=hR.x.gf
                o7:=λk b hk=>by
                  simp only[Env.of] at hk
                  split at hk
                  · rename_i cs hc
                    exact hR.lt (hsome k (by rw[hc];rfl)) hk
                  · cases hk
                pD:=λk b hk=>by
                  simp only[Env.of] at hk
                  split at hk
                  · rename_i cs hc
                    exact hR.apart (π k) b _ (hσ k _ hc) rfl hk
                  · cases hk
                o8:=λk b k' hk hk' hb=>by
                  simp only[Env.of] at hk
                  split at hk
                  · rename_i cs hc
                    exact hinj k' k hk' (by rw[hc];rfl) (hR.inj _ _ b (hsome k' hk') (hsome k (by rw[hc];rfl)) hb hk)
                  · cases hk
                o9:=λk b e hk he=>by
                  simp only[Env.of] at hk
                  split at hk
                  · rename_i cs hc;rw[hc] at he;cases he;exact ⟨cs,rfl⟩
                  · cases hk } }
def Enters (P:Program) (f:FuncId):Prop:=∀ (args:Array Value) (w:World),(callFunc f args).run P w=.ok (.enter f args) w
theorem iv.Ms {g:Gh} {ev:Operand->Value} (h:∀ x,VR g (fr.val x) (ev x)) (xs:List Operand):iv g (xs.map fr.val) (xs.map ev):=iv.map λx _=>h x
theorem xo {o:Oper} {f:Operand} {args:List Operand} {ts:Array TypeId} {fid:FuncId} {first cap argsC:List AV} {σ0:cl} {R:qI->cl->Prop} {next:eQ->cl->Prop}
  {fr':eQ} (hwk:fr.le fr') (π:Nat->Nat) (L:List Nat) (hen:Enters P fid) (ho:o.op=.call ⟨.value f,args.toArray,ts⟩) (hf:fr.val f=.fn fid first cap)
  (hargs:first++args.map fr.val++cap=AV.hQ.mE π argsC) (hC:SC P fid argsC σ0 R) (hL:∀ j,(σ0 j).isSome=true->L.contains j=true)
  (hσ:∀ j e,σ0 j=some e->σ (π j)=some (e.hQ π)) (hinj:∀ j j',(σ0 j).isSome=true->(σ0 j').isSome=true->π j=π j'->j=j')
  (hd:∀ d,o.dst=some d->d<n)
  (hret:∀ v σc,R (.ret v) σc->∃ J,wM E fr' σ π L J σ0 σc v/\next (fr'.jM o.dst (v.hQ π)) (after σ π L J σc))
  (hpan:∀ v σc,R (.panic v) σc->∃ J,wM E fr' σ π L J σ0 σc v/\Q (.panic (v.hQ π)) fr' (after σ π L J σc)):Step P E n Q o fr σ next:=by
 intro g a w K hR hF hK
 have qf:=hF.eval f;rw[hf] at qf
 have qa:=iv.Ms (fr:=fr) (λx=>hF.eval x) args
 generalize he:a.eval f=c at qf
 cases qf with
 | fn _ hx hy=>
  rename_i xs ys
  have hall:iv g (AV.hQ.mE π argsC) (xs++args.map a.eval++ys):=by rw[<- hargs];exact (hx.append qa).append hy
  have hcall:=hC E.wS (g.pull π) w _ (DS hR hσ hinj) hall.pull
  have hrun:(execOp a.eval o).run P w=.ok (.enter fid (xs++args.map a.eval++ys).toArray) w:=by
   simp only[execOp,ho,resolve,he,Deferred.ofValue,Sem.run_bind,Sem.run_pure,Result.andThen_ok,invoke,List.map_toArray,List.append_toArray,hen _ w]
  simp only[Oper.wp,hrun,Oper.upon]
  refine hcall.mono λe w' hq=>?_
  obtain ⟨g',ae,σc,hr,hE,hR'⟩:=hq
  cases hE with
  | ret hv=>
   obtain ⟨J,hB,hn⟩:=hret _ _ hr
   obtain ⟨h1,h2,h3⟩:=vH hR (hF.BD hwk) hL hσ hB hR' hv
   exact hK _ _ _ _ _ hn h1 (h2.put hd h3)
  | panic hv=>
   obtain ⟨J,hB,hn⟩:=hpan _ _ hr
   obtain ⟨h1,h2,h3⟩:=vH hR (hF.BD hwk) hL hσ hB hR' hv
   exact ⟨_,_,fr',_,hn,.panic h3,h1,h2⟩
theorem zT {o:Oper} {f:Operand} {args:List Operand} {ts:Array TypeId} {fid:FuncId} {first cap argsC:List AV} {σ0:cl} {R:qI->cl->Prop} {next:eQ->cl->Prop}
  (π:Nat->Nat) (L:List Nat) (hen:Enters P fid) (ho:o.op=.call ⟨.value f,args.toArray,ts⟩) (hf:fr.val f=.fn fid first cap)
  (hargs:first++args.map fr.val++cap=AV.hQ.mE π argsC) (hC:SC P fid argsC σ0 R) (hL:∀ j,(σ0 j).isSome=true->L.contains j=true)
  (hσ:∀ j e,σ0 j=some e->σ (π j)=some (e.hQ π)) (hinj:∀ j j',(σ0 j).isSome=true->(σ0 j').isSome=true->π j=π j'->j=j')
  (hd:∀ d,o.dst=some d->d<n)
  (hret:∀ v σc,R (.ret v) σc->∃ J,wM E fr σ π L J σ0 σc v/\next (fr.jM o.dst (v.hQ π)) (after σ π L J σc))
  (hpan:∀ v σc,R (.panic v) σc->∃ J,wM E fr σ π L J σ0 σc v/\Q (.panic (v.hQ π)) fr (after σ π L J σc)):Step P E n Q o fr σ next:=
 xo ⟨λ_=>.inl rfl,rfl⟩ π L hen ho hf hargs hC hL hσ hinj hd hret hpan
end
end Go.Abs
end
section
namespace Go.Abs
def lV:List (Nat×AV)->Nat->AV
 | [],_=>.any
 | (j,v)::l,i=>if i=j then v else lV l i
def lI:List (Nat×bh)->Nat->Option bh
 | [],_=>none
 | (j,v)::l,i=>if i=j then some v else lI l i
def bL (l:List (Nat×AV)) (ds:List (FuncId×List AV):=[]):eQ:=⟨lV l,ds⟩
def bn (l:List (Nat×bh)):cl:=lI l
theorem BF (l:List (Nat×AV)) (ds:List (FuncId×List AV)) (d:Nat) (v:AV):(bL l ds).jM (some d) v=bL ((d,v)::l) ds:=rfl
def lL (k:Nat):List (Nat×AV)->Bool
 | []=>false
 | (_,v)::l=>v.eG k||lL k l
def kt (k:Nat):List (FuncId×List AV)->Bool
 | []=>false
 | (_,v)::l=>AV.eG.fP k v||kt k l
def bh.mq (k:Nat):bh->Bool
 | .app _ _ _=>false
 | .box cs=>AV.eG.fP k cs
 | .arr _ _ _=>false
theorem bh.AH {k:Nat}:∀ {e:bh},e.mq k=false->AV.eG.fP k e.cells=false
 | .app _ _ c,_=>oI k c
 | .box _,h=>h
 | .arr _ _ c,_=>oI k c
def nC (k:Nat):List (Nat×bh)->Bool
 | []=>false
 | (_,e)::l=>e.mq k||nC k l
theorem zU {k:Nat}:∀ {l:List (Nat×AV)},lL k l=false->∀ i,(lV l i).eG k=false
 | [],_,_=>rfl
 | (j,v)::l,h,i=>by
  simp only[lL,Bool.or_eq_false_iff] at h;simp only[lV];split
  ·exact h.1
  exact zU h.2 i
theorem uu {k:Nat}:∀ {l:List (FuncId×List AV)},kt k l=false->∀ p∈l,AV.eG.fP k p.2=false
 | [],_,p,hp=>by cases hp
 | (f,v)::l,h,p,hp=>by
  simp only[kt,Bool.or_eq_false_iff] at h;rcases List.mem_cons.1 hp with q|q
  ·subst q;exact h.1
  exact uu h.2 p q
theorem hY {k:Nat} {l:List (Nat×AV)} {ds:List (FuncId×List AV)} (h:lL k l=false) (hd:kt k ds=false):(bL l ds).clear k:=⟨λi=>zU h i,uu hd⟩
theorem kY {k:Nat}:∀ {l:List (Nat×bh)},nC k l=false->(bn l).clear k
 | [],_,j,e,h=>by cases h
 | (i,v)::l,h,j,e,he=>by
  simp only[nC,Bool.or_eq_false_iff] at h;simp only[bn,lI] at he;split at he
  ·cases he;exact bh.AH h.1
  exact kY h.2 j e he
theorem AI {fr:eQ} {l:List (Nat×AV)} (h:∀ p∈l,fr.s p.1=lV l p.1):fr.le (bL l fr.ds):=by
 refine ⟨λi=>?_,rfl⟩;have key:∀ m:List (Nat×AV),(∃ p∈m,p.1=i)\/lV m i=.any:=by
  intro m
  induction m with
  | nil=>exact .inr rfl
  | cons a m ih=>
   obtain ⟨j,v⟩:=a
   by_cases q:i=j
   ·exact .inl ⟨(j,v),by simp,q.symm⟩
   ·rcases ih with ⟨p,hp,he⟩|he
    ·exact .inl ⟨p,by simp[hp],he⟩
    exact .inr (by simp[lV,q,he])
 rcases key l with ⟨p,hp,he⟩|he
 ·left;have:=h p hp;rw[he] at this;exact this.symm
 exact .inr he
theorem AJ {σ:cl} {l:List (Nat×bh)} (h:∀ p∈l,σ p.1=lI l p.1):∀ k e,bn l k=some e->σ k=some e:=by
 intro k e hk;have key:∀ m:List (Nat×bh),lI m k=some e->∃ p∈m,p.1=k:=by
  intro m
  induction m with
  | nil=>intro h;cases h
  | cons a m ih=>
   obtain ⟨j,v⟩:=a
   intro h
   by_cases q:k=j
   ·exact ⟨(j,v),by simp,q.symm⟩
   ·simp only[lI,if_neg q] at h;obtain ⟨p,hp,he⟩:=ih h;exact ⟨p,by simp[hp],he⟩
 obtain ⟨p,hp,he⟩:=key l hk;have:=h p hp;rw[he] at this;exact this.trans hk
def AV.le (x y:AV):Prop:=∀ (g:Gh) (c:Value),VR g x c->VR g y c
theorem AV.le_refl (x:AV):x.le x:=λ_ _ h=>h
theorem AV.le_nil:(nSl).le (.pv (.sl 0 [])):=λg c h=>by rw[h.c6];exact .pv (.nil _ _)
inductive Bn:List AV->List AV->Prop
 | nil:Bn [] []
 | cons {x y:AV} {xs ys:List AV} (h:x.le y) (t:Bn xs ys):Bn (x::xs) (y::ys)
theorem Bn.JX {g:Gh}:∀ {xs ys:List AV},Bn xs ys->∀ {vs:List Value},iv g xs vs->iv g ys vs
 | _,_,.nil,_,.nil=>.nil
 | _,_,.cons h t,_,.cons a b=>.cons (h g _ a) (t.JX b)
theorem Bn.refl:∀ l:List AV,Bn l l
 | []=>.nil
 | x::l=>.cons (AV.le_refl x) (Bn.refl l)
theorem AV.Ks {xs ys:List AV} (h:Bn xs ys):(AV.agg xs).le (.agg ys):=λg c q=>by cases q with|agg q=>exact .agg (h.JX q)
inductive RV (P:Program) (fr:eQ) (σ:cl):ResultVar->AV->Prop
 | tmp (t:Nat):RV P fr σ (.tmp t) (fr.s t)
 | agg {a k:Nat} {t:TypeId} {cs:List AV} (hk:fr.s a=.ptr k 0) (hs:σ k=some (.box cs)) (ht:yI P t=some cs.length) (ha:p7 P t=some true):RV P fr σ (.cell a t) (.agg cs)
 | one {a k:Nat} {t:TypeId} {c:AV} (hk:fr.s a=.ptr k 0) (hs:σ k=some (.box [c])) (ha:p7 P t=some false):RV P fr σ (.cell a t) c
inductive C8 (P:Program) (fr:eQ) (σ:cl):List ResultVar->List AV->Prop
 | nil:C8 P fr σ [] []
 | cons {r:ResultVar} {v:AV} {rs:List ResultVar} {vs:List AV} (h:RV P fr σ r v) (t:C8 P fr σ rs vs):C8 P fr σ (r::rs) (v::vs)
def pb:List AV->AV
 | [v]=>v
 | vs=>.gZ vs
section
variable {P:Program} {E:Env} {n:Nat} {Q:dU} {fr:eQ} {σ:cl}
def xp (tmps:Array Value):ResultVar->Sem Value
 | .tmp t=>pure (tmps.getD t undef)
 | .cell a t=>do loadVar t (<- asAddr (tmps.getD a undef))
theorem RV.run {g:Gh} {a:Act} {w:World} (hR:Rel E g σ w) (hF:FR n g fr a) {r:ResultVar} {v:AV} (h:RV P fr σ r v):∃ c,(xp a.tmps r).run P w=.ok c w/\VR g v c:=by
 cases h with
 | tmp t=>exact ⟨_,rfl,hF.jH t⟩
 | agg hk hs ht ha=>
  rename_i x k t cs
  have q:=hF.jH x;rw[hk] at q
  generalize hq:a.tmps.getD x undef=c at q
  cases q with
  | ptr _ hb=>
   obtain ⟨cs',el,hw,hl,hc⟩:=(hR.kX k _ hs).at hb
   simp only[bh.cells] at hl hc
   refine ⟨.agg ((cs'.toList.drop 0).take cs.length).toArray,?_,.agg (by simpa using hc)⟩
   simp only[xp,hq,asAddr,Sem.run_bind,Sem.run_pure,Result.andThen_ok,s4 ht ha hw (show 0+cs.length<=cs'.size by omega)]
 | one hk hs ha=>
  rename_i x k t
  have q:=hF.jH x;rw[hk] at q
  generalize hq:a.tmps.getD x undef=c at q
  cases q with
  | ptr _ hb=>
   obtain ⟨cs',el,hw,hl,hc⟩:=(hR.kX k _ hs).at hb
   simp only[bh.cells] at hl hc
   obtain ⟨c,h1,h2⟩:=hc.get 0 v rfl
   have h3:cs'.toList[0]?=some c:=by
    rw[List.getElem?_take] at h1;split at h1
    ·exact h1
    cases h1
   exact ⟨c,by simp only[xp,hq,asAddr,Sem.run_bind,Sem.run_pure,Result.andThen_ok,oG ha hw h3],h2⟩
theorem uv (fn:Func) (tmps:Array Value):results fn tmps=(do
  let vs <- fn.results.mapM (xp tmps)
  pure (if h:vs.size=1 then vs[0] else .tuple vs)):=by
 unfold results
 congr 1
theorem C8.run {g:Gh} {a:Act} {w:World} (hR:Rel E g σ w) (hF:FR n g fr a):∀ {rs:List ResultVar} {vs:List AV},C8 P fr σ rs vs->
  ∃ cs,(rs.mapM (xp a.tmps)).run P w=.ok cs w/\iv g vs cs
 | _,_,.nil=>⟨[],by simp,.nil⟩
 | _,_,.cons h t=>by
  obtain ⟨c,h1,h2⟩:=h.run hR hF
  obtain ⟨cs,h3,h4⟩:=C8.run hR hF t
  exact ⟨c::cs,by simp[h1,h3],.cons h2 h4⟩
theorem iv.pb {g:Gh} {vs:List AV} {cs:List Value} (h:iv g vs cs):VR g (pb vs) (if hh:cs.toArray.size=1 then cs.toArray[0] else .tuple cs.toArray):=by
 cases h with
 | nil=>exact .gZ .nil
 | cons h t=>
  cases t with
  | nil=>simpa[Abs.pb] using h
  | cons h' t=>rw[dif_neg (by simp)];exact .gZ (.cons h (.cons h' t))
def nD (P:Program) (fn:Func) (R:qI->cl->Prop):dU
 | .normal,fr,σ|.ret,fr,σ=>fr.ds=[]/\∃ vs v σ',C8 P fr σ fn.results.toList vs/\(pb vs).le v/\(∀ k e,σ' k=some e->σ k=some e)/\R (.ret v) σ'
 | .panic v,fr,σ=>fr.ds=[]/\∃ σ',(∀ k e,σ' k=some e->σ k=some e)/\R (.panic v) σ'
 | _,_,_=>False
theorem DR.pE {g:Gh} {ds:List Deferred} (h:DR g [] ds):ds=[]:=by cases h;rfl
theorem FX {f:FuncId} {fn:Func} {c:Code} {args:List AV} {R:qI->cl->Prop} (hf:P.funcs[f]?=some fn) (hb:fn.body=some c) (hn:args.length<=fn.ntmps)
  (h:∀ E:Env,(∀ k,(∀ cs,σ k≠some (.box cs))->E.fix k=none)->SW P E fn.ntmps c (nD P fn R) ⟨λi=>args[i]?.getD .any,[]⟩ σ):SC P f args σ R:=by
 intro wS g w vs hR hv
 have hE:∀ k,(∀ cs,σ k≠some (.box cs))->(Env.of wS g σ w).fix k=none:=λk hk=>by
  cases q:σ k with
  | none=>simp only[Env.of,q]
  | some e=>cases e with
   | box cs=>exact absurd q (hk cs)
   | arr el sz cs=>simp only[Env.of,q]
   | app el sz cs=>simp only[Env.of,q]
 have hlen:=hv.length
 refine calls_of_wp hf hb (wp_mono (h _ hE g { tmps:=vs.toArray++Array.replicate (fn.ntmps - vs.toArray.size) undef,defers:=[] } w hR ⟨by simp;omega,λi=>?_,.nil⟩) λe a w' hq=>?_)
 ·rw[Array.getD_eq_getD_getElem?]
  rcases Nat.lt_or_ge i args.length with q|q
  ·obtain ⟨c,h1,h2⟩:=hv.get i args[i] (by simp)
   have:(vs.toArray++Array.replicate (fn.ntmps - vs.toArray.size) undef)[i]?=some c:=by
    rw[Array.getElem?_append_left (by simp;omega)];simpa using h1
   rw[this]
   simp[q];exact h2
  ·have e:args[i]?=none:=List.getElem?_eq_none q
   simp only[e,Option.getD_none];exact .any _
 ·obtain ⟨g',ae,fr',σ',q,hx,hR',hF'⟩:=hq
  have fin:∀ vs v σ2,C8 P fr' σ' fn.results.toList vs->(pb vs).le v->(∀ k e,σ2 k=some e->σ' k=some e)->R (.ret v) σ2->
    ∃ c,(results fn a.tmps).run P w'=.ok c w'/\∃ g' ae σ',R ae σ'/\ER g' ae (.returned c)/\Rel (Env.of wS g σ w) g' σ' w':=by
   intro vs v σ2 h1 h2 hs h3
   obtain ⟨cs,h4,h5⟩:=h1.run hR' hF'
   refine ⟨if hh:cs.toArray.size=1 then cs.toArray[0] else .tuple cs.toArray,?_,g',.ret v,σ2,h3,.ret (h2 g' _ h5.pb),hR'.sub hs⟩
   rw[uv,<- Array.toArray_toList (xs:=fn.results)]
   simp only[List.mapM_toArray,Sem.run_bind,Sem.run_map,h4,Result.andThen_ok,Sem.run_pure]
  cases hx with
  | normal=>
   obtain ⟨hd,vs,v,σ2,h1,h2,hs,h3⟩:=q
   obtain ⟨c,h4,h5⟩:=fin vs v σ2 h1 h2 hs h3
   have:=hF'.ds;rw[hd] at this
   exact ⟨this.pE,c,h4,h5⟩
  | ret=>
   obtain ⟨hd,vs,v,σ2,h1,h2,hs,h3⟩:=q
   obtain ⟨c,h4,h5⟩:=fin vs v σ2 h1 h2 hs h3
   have:=hF'.ds;rw[hd] at this
   exact ⟨this.pE,c,h4,h5⟩
  | panic hv=>
   obtain ⟨hd,σ2,hs,h1⟩:=q
   have:=hF'.ds;rw[hd] at this
   exact ⟨this.pE,g',_,σ2,h1,.panic hv,hR'.sub hs⟩
  | exit id=>exact q.elim
  | goto l=>exact q.elim
end
end Go.Abs
end
section
namespace Go.Abs
def oJ (ops:Array Oper):Nat->Nat->Nat->Bool
 | 0,_,_=>false
 | fuel+1,j,i=>match ops[j]? with
  | none=>false
  | some o=>o.after.toList.any (λe=>Region.binds .any e&&e.on==i)||o.after.toList.any (λe=>Region.binds .any e&&oJ ops fuel e.on i)
def dI (o:Oper):Bool:=
 match o.op with
 | .call c=>match c.callee with
  | .builtin .len|.builtin .min|.builtin .max=>false
  | _=>true
 | .store ..|.assign _|.panic _=>true
 | _=>false
def looks (ops:Array Oper) (o:Oper):List Nat:=o.looksAt ops
def rh (ops:Array Oper) (i j:Nat):Bool:=
 match ops[i]?,ops[j]? with
 | some a,some b=>
  !oJ ops ops.size i j&&(!dI a||dI b||oJ ops ops.size j i)&&
  (match b.dst with|some d=>dI a||(!(looks ops a).contains d&&a.dst !=some d)|none=>true)&&
  (match a.dst with|some d=>!(looks ops b).contains d||oJ ops ops.size j i|none=>true)
 | _,_=>false
def nE (ops:Array Oper):List Nat->Bool
 | []=>true
 | i::l=>!l.contains i&&l.all (rh ops i)&&nE ops l
def strict (ops:Array Oper):List Nat->Bool
 | []=>true
 | i::l=>l.all (λj=>match ops[i]?,ops[j]? with
  | some a,some b=>!(dI a&&dI b)||oJ ops ops.size j i
  | _,_=>true)&&strict ops l
theorem vI {ops:Array Oper} {i j:Nat} {l:List Nat} {a b:Oper} (h:strict ops (i::l)=true) (hj:j∈l) (ha:ops[i]?=some a) (hb:ops[j]?=some b) (h1:dI a=true) (h2:dI b=true):oJ ops ops.size j i=true:=by
 simp only[strict,Bool.and_eq_true,List.all_eq_true] at h;have:=h.1 j hj;simp only[ha,hb,h1,h2,Bool.and_self,Bool.not_true,Bool.false_or] at this;exact this
theorem kH {ops:Array Oper} {i:Nat} {l:List Nat} (h:strict ops (i::l)=true):strict ops l=true:=by
 simp only[strict,Bool.and_eq_true] at h;exact h.2
def uw (ops:Array Oper) (i:Nat):Bool:=
 match ops[i]? with
 | some o=>o.after.toList.all (λe=>!Region.binds .any e||decide (e.on<i))&&(dI o||(match o.dst with|some d=>!(looks ops o).contains d|none=>true))
 | none=>false
def Mm (ops:Array Oper) (L:List Nat):Bool:=
 L.all (uw ops)&&(List.range ops.size).all (λi=>L.contains i)&&L.all (λi=>decide (i<ops.size))&&nE ops L&&strict ops L&&L.length==ops.size
structure Rec where
 i:Nat
 dst:Option Nat
 rd:List (Nat×bh)
 nm:Option Nat
def iw (ops:Array Oper) (recs:List Rec) (j:Nat):List Rec:=recs.filter λr=>!oJ ops ops.size j r.i
def fe (fr:eQ) (m:Nat->Bool):eQ:=⟨λi=>if m i then .any else fr.s i,fr.ds⟩
def eZ (σ:cl) (m:Nat->Bool):cl:=λk=>if m k then none else σ k
section
variable (P:Program) (E:Env) (n:Nat) (Q:dU) (N:Prop)
inductive wv (o:Oper) (fr:eQ) (σ:cl) (next:eQ->cl->Prop):List Nat->Prop
 | ev {v:AV} (h:fD P o.op fr [] v) (hd:∀ d,o.dst=some d->d<n) (hn:next (fr.jM o.dst v) σ):wv o fr σ next []
 | store {t:TypeId} {x y:Operand} {k off:Nat} {e:bh} {l:List AV} (ho:o.op=.store t x y) (hd:o.dst=none)
  (hx:fr.val x=.ptr k off) (hk:σ k=some e) (hea:e.isApp=false) (hy:(fr.val y).fN=some l) (h1:AV.kF l=true) (ht:yI P t=some l.length) (hl:off+l.length<=e.cells.length)
  (hpa:e.FV=true->∃ ps:List PV,l=ps.map .pv) (hn:next fr (σ.set k (e.DQ off l))):wv o fr σ next [k]
 | append {t e:TypeId} {s x:Operand} {sz bytes k nm m len:Nat} {cells l:List PV}
  (ho:o.op=.call ⟨.builtin .append,#[s,x],#[t,t]⟩) (ht:P.underlying t=some (.slice e)) (hb:r8 P e=some (sz,bytes))
  (hs:fr.val s=.arr k len) (hk:σ k=some (.app e sz cells)) (hlen:cells.length=len*sz) (hx:HV sz (fr.val x) m l)
  (h1:PV.kF l=true) (hc:fr.clear nm) (hcs:(σ.del k).clear nm) (hf:E.fix nm=none)
  (hbig:(len+m)*bytes<=140737488355328) (hmax:len+m<=maxLen) (hd:∀ d,o.dst=some d->d<n)
  (hn:next (fr.jM o.dst (.arr nm (len+m))) ((σ.del k).set nm (.app e sz (cells++l)))):wv o fr σ next [k,nm]
 | DT {t e:TypeId} {s x:Operand} {sz bytes k nm m len:Nat} {cells l:List PV}
  (ho:o.op=.call ⟨.builtin .append,#[s,x],#[t,t]⟩) (ht:P.underlying t=some (.slice e)) (hb:r8 P e=some (sz,bytes))
  (hs:fr.val s=.arr k len) (hk:σ k=some (.arr e sz cells)) (hlen:cells.length=len*sz) (hx:HV sz (fr.val x) m l)
  (h1:PV.kF l=true) (hc:fr.clear nm) (hcs:(σ.del k).clear nm) (hf:E.fix nm=none)
  (hbig:(len+m)*bytes<=140737488355328) (hmax:len+m<=maxLen) (hd:∀ d,o.dst=some d->d<n)
  (hn:next (fr.jM o.dst (.arr nm (len+m))) ((σ.del k).set nm (.arr e sz (cells++l)))):wv o fr σ next [k,nm]
 | call {f:Operand} {args:List Operand} {ts:Array TypeId} {fid:FuncId} {first cap argsC:List AV} {σ0:cl} {R:qI->cl->Prop}
  (π:Nat->Nat) (L:List Nat) (hen:Enters P fid) (ho:o.op=.call ⟨.value f,args.toArray,ts⟩) (hf:fr.val f=.fn fid first cap)
  (hargs:first++args.map fr.val++cap=AV.hQ.mE π argsC) (hC:SC P fid argsC σ0 R) (hL:∀ j,(σ0 j).isSome=true->L.contains j=true)
  (hσ:∀ j e,σ0 j=some e->σ (π j)=some (e.hQ π)) (hL':∀ j,L.contains j=true->(σ0 j).isSome=true)
  (hinj:∀ j j',(σ0 j).isSome=true->(σ0 j').isSome=true->π j=π j'->j=j')
  (hd:∀ d,o.dst=some d->d<n)
  (hret:∀ v σc,R (.ret v) σc->wM E fr σ π L L σ0 σc v/\next (fr.jM o.dst (v.hQ π)) (after σ π L L σc))
  (hpan:∀ v σc,R (.panic v) σc->wM E fr σ π L L σ0 σc v/\∀ fr' σ',fr'.ds=fr.ds->(∀ k e,σ' k=some e->after σ π L L σc k=some e)->(N->fr'=fr/\σ'=after σ π L L σc)->Q (.panic (v.hQ π)) fr' σ'):wv o fr σ next (L.map π)
variable {P E n Q N}
theorem BG {fr:eQ} {m:Nat->Bool} {x:Operand} (h:∀ t,x=.tmp t->m t=false):(fe fr m).val x=fr.val x:=by
 cases x with
 | tmp t=>simp[eQ.val,fe,h t rfl]
 | const v=>rfl
 | global k=>rfl
 | func f=>rfl
theorem rA {fr:eQ} {m:Nat->Bool} {d:Option Nat} {v:AV} (h:∀ x,d=some x->m x=false):(fe fr m).jM d v=fe (fr.jM d v) m:=by
 cases d with
 | none=>rfl
 | some d=>
  simp only[eQ.jM,eQ.put,fe,eQ.mk.injEq,and_true]
  funext i
  by_cases q:i=d
  ·subst q;simp[h i rfl]
  ·simp[q]
theorem ux {fr:eQ} {m:Nat->Bool} {k:Nat} (h:fr.clear k):(fe fr m).clear k:=⟨λi=>by
 simp only[fe];split
 ·rfl
 exact h.1 i,h.2⟩
theorem wx {σ:cl} {m:Nat->Bool} {k:Nat} (h:σ.clear k):(eZ σ m).clear k:=λj e he=>by
 simp only[eZ] at he;split at he
 ·cases he
 exact h j e he
theorem xq {σ:cl} {m:Nat->Bool} {k:Nat} {e:bh} (h:eZ σ m k=some e):σ k=some e:=by
 simp only[eZ] at h;split at h
 ·cases h
 exact h
theorem rB {σ:cl} {m:Nat->Bool} {k:Nat} (h:m k=false):eZ σ m k=σ k:=by simp[eZ,h]
theorem vJ {σ:cl} {m:Nat->Bool} {k:Nat} {e:bh} (h:m k=false):(eZ σ m).set k e=eZ (σ.set k e) m:=by
 funext j;by_cases q:j=k
 ·subst q;simp[cl.set,eZ,h]
 simp[cl.set,eZ,q]
theorem tO {σ:cl} {m:Nat->Bool} {k:Nat}:(eZ σ m).del k=eZ (σ.del k) m:=by
 funext j;by_cases q:j=k
 ·subst q;simp[cl.del,eZ]
 simp[cl.del,eZ,q]
theorem tb {σ:cl} {m:Nat->Bool} {π:Nat->Nat} {L:List Nat} {σc:cl} (h:∀ j,L.contains j=true->m (π j)=false) :
  after (eZ σ m) π L L σc=eZ (after σ π L L σc) m:=by
 funext k
 simp only[after,eZ]
 cases hf:L.find? (λj=>π j==k) with
 | some j=>
  have h1:=List.find?_some hf
  have h2:=List.mem_of_find?_eq_some hf
  have:m k=false:=by
   have hk:π j=k:=by simpa using h1
   rw[<- hk];exact h j (by simpa using h2)
  simp[this]
 | none=>
  simp only
  by_cases q:m k=true
  ·simp[q]
  ·simp[q]
theorem wM.mask {fr:eQ} {σ:cl} {m mm:Nat->Bool} {π:Nat->Nat} {L J:List Nat} {σ0 σc:cl} {v:AV} (h:wM E fr σ π L J σ0 σc v) :
  wM E (fe fr m) (eZ σ mm) π L J σ0 σc v where
 Is:=h.Is
 val:=h.val
 inj:=h.inj
 same:=λj hj=>by
  rcases h.same j hj with q|⟨q1,q2,q3⟩
  ·exact .inl q
  ·exact .inr ⟨ux q1,λk e hl he=>q2 k e hl (xq he),q3⟩
structure MT (o:Oper) (ks:List Nat) (fr fr0:eQ) (σ σ0:cl):Prop where
 s:∀ i,o.dst≠some i->fr0.s i=fr.s i
 ds:fr0.ds=fr.ds
 h:∀ k,k ∉ ks->σ0 k=σ k
theorem tc {o:Oper} {fr:eQ} {v:AV} (i:Nat) (h:o.dst≠some i):(fr.jM o.dst v).s i=fr.s i:=by
 cases hd:o.dst with
 | none=>rfl
 | some d=>
  have:i≠d:=λq=>h (by rw[hd,q])
  simp[eQ.jM,eQ.put,this]
theorem td {fr:eQ} {d:Option Nat} {v:AV}:(fr.jM d v).ds=fr.ds:=by cases d<;>rfl
theorem wv.run {o:Oper} {fr:eQ} {σ:cl} {next:eQ->cl->Prop} {ks:List Nat} (h:wv P E n Q N o fr σ next ks) {m mm:Nat->Bool} (hN:N->(∀ k,mm k=false)/\∀ i,m i=false)
  (hm:∀ t,.tmp t∈o.op.operands->m t=false) (hdm:∀ d,o.dst=some d->m d=false) (hmm:∀ k,k∈ks->mm k=false) :
  Step P E n Q o (fe fr m) (eZ σ mm) (λfr' σ'=>∃ fr0 σ0,next fr0 σ0/\MT o ks fr fr0 σ σ0/\fr'=fe fr0 m/\σ'=eZ σ0 mm):=by
 have hval:∀ x,x∈o.op.operands->(fe fr m).val x=fr.val x:=λx hx=>BG λt ht=>hm t (ht▸hx)
 cases h with
 | @ev v h hd hn=>
  refine AE (rd:=[]) (v:=v) (λo' ho' g ev w hG hv hr=>h o' ho' g ev w hG (λx hx=>by rw[<- hval x hx];exact hv x hx) hr) (λp hp=>by cases hp) hd ?_
  exact ⟨_,_,hn,⟨tc,td,λ_ _=>rfl⟩,rA hdm,rfl⟩
 | @store t x y k off e l ho hd hx hk hea hy h1 ht hl hpa hn=>
  have hkm:=hmm k (by simp)
  refine r7 ho hd (by rw[hval x (by simp[ho,Op.operands])];exact hx) (by rw[rB hkm];exact hk) hea (by rw[hval y (by simp[ho,Op.operands])];exact hy) h1 ht hl hpa ?_
  refine ⟨_,_,hn,⟨λ_ _=>rfl,rfl,λj hj=>?_⟩,rfl,vJ hkm⟩
  simp at hj;simp[cl.set,hj]
 | @append t e s x sz bytes k nm mm' len cells l ho ht hb hs hk hlen hx h1 hc hcs hf hbig hmax hd hn=>
  have hkm:=hmm k (by simp)
  have hnm:=hmm nm (by simp)
  refine uS (nm:=nm) ho ht hb (by rw[hval s (by simp[ho,Op.operands,Call.operands])];exact hs) (by rw[rB hkm];exact hk) hlen (by rw[hval x (by simp[ho,Op.operands,Call.operands])];exact hx) h1 (ux hc)
   (by rw[tO];exact wx hcs) hf hbig hmax hd ?_
  refine ⟨_,_,hn,⟨tc,td,λj hj=>?_⟩,rA hdm,by rw[tO,vJ hnm]⟩
  simp at hj;simp[cl.set,cl.del,hj]
 | @DT t e s x sz bytes k nm mm' len cells l ho ht hb hs hk hlen hx h1 hc hcs hf hbig hmax hd hn=>
  have hkm:=hmm k (by simp)
  have hnm:=hmm nm (by simp)
  refine uT (nm:=nm) ho ht hb (by rw[hval s (by simp[ho,Op.operands,Call.operands])];exact hs) (by rw[rB hkm];exact hk) hlen (by rw[hval x (by simp[ho,Op.operands,Call.operands])];exact hx) h1 (ux hc)
   (by rw[tO];exact wx hcs) hf hbig hmax hd ?_
  refine ⟨_,_,hn,⟨tc,td,λj hj=>?_⟩,rA hdm,by rw[tO,vJ hnm]⟩
  simp at hj;simp[cl.set,cl.del,hj]
 | @call f args ts fid first cap argsC σ0 R π L hen ho hf hargs hC hL hσ hL' hinj hd hret hpan=>
  have hLm:∀ j,L.contains j=true->mm (π j)=false:=λj hj=>hmm _ (List.mem_map.2 ⟨j,by simpa using hj,rfl⟩)
  have hav:args.map (fe fr m).val=args.map fr.val:=List.map_congr_left λx hx=>hval x (by simp[ho,Op.operands,Call.operands,hx])
  refine zT π L hen ho (by rw[hval f (by simp[ho,Op.operands,Call.operands])];exact hf) (by rw[hav];exact hargs) hC hL
   (λj e hj=>by rw[rB (hLm j (hL j (by rw[hj];rfl)))];exact hσ j e hj) hinj hd (λv σc hr=>?_) (λv σc hr=>?_)
  ·obtain ⟨hB,hn⟩:=hret v σc hr
   refine ⟨L,hB.mask,_,_,hn,⟨tc,td,λk hk=>?_⟩,rA hdm,tb hLm⟩
   have hno:∀ j,j∈L->π j≠k:=λj hj q=>hk (List.mem_map.2 ⟨j,hj,q⟩)
   have h1:L.find? (λj=>π j==k)=none:=List.find?_eq_none.2 λj hj=>by simpa using hno j hj
   have h2:L.any (λj=>π j==k)=false:=by
    rw[List.any_eq_false];intro j hj;simpa using hno j hj
   simp[after,h1,h2]
  ·obtain ⟨hB,hn⟩:=hpan v σc hr
   refine ⟨L,hB.mask,hn _ _ rfl (λk e hk=>?_) (λq=>?_)⟩
   ·rw[tb hLm] at hk
    exact xq hk
   ·refine ⟨?_,by rw[tb hLm];funext k;exact rB ((hN q).1 k)⟩
    have:(λi=>if m i then AV.any else fr.s i)=fr.s:=by funext i;simp[(hN q).2 i]
    simp only[fe,this]
end
end Go.Abs
end
section
namespace Go.Abs
def iQ (ops:Array Oper) (o:Oper) (fr:eQ):Prop:=o.guard=none\/∃ j want d,o.guard=some (j,want)/\(ops[j]?).bind (·.dst)=some d/\fr.s d=Bo want
def tf (ops:Array Oper) (o:Oper) (fr:eQ):Prop:=∃ (j:Nat) (want:Bool) (d:Nat) (v:Value),o.guard=some (j,want)/\(ops[j]?).bind (·.dst)=some d/\fr.s d=Sc v/\v≠.bool want
section
variable (P:Program) (E:Env) (n:Nat) (ops:Array Oper) (Q:dU)
inductive DStep (next:List Rec->eQ->cl->Prop) (recs:List Rec) (i:Nat) (o:Oper) (fr:eQ) (σ:cl):Prop
 | skip (hu:tf ops o fr) (hd:∀ d,o.dst=some d->d<n) (hn:next (if dI o then recs else ⟨i,o.dst,[],none⟩::recs) (fr.jM o.dst (Sc undef)) σ)
 | ev (hw:iQ ops o fr) (hh:dI o=false) {rd:List (Nat×bh)} {v:AV} (h:fD P o.op fr rd v) (hr:∀ p,p∈rd->Kf σ p) (hd:∀ d,o.dst=some d->d<n)
  (hc:∀ r,r∈iw ops recs i->∀ nm,r.nm=some nm->v.eG nm=false/\∀ p,p∈rd->p.1≠nm) (hn:next (⟨i,o.dst,rd,none⟩::recs) (fr.jM o.dst v) σ)
 | nw (hw:iQ ops o fr) (hh:dI o=false) {nm:Nat} {e:bh} {v:AV} (h:C4 P o.op fr nm e v) (hcf:fr.clear nm) (hcs:σ.clear nm) (hs:σ nm=none) (hf:E.fix nm=none)
  (hd:∀ d,o.dst=some d->d<n) (hc:∀ r,r∈iw ops recs i->∀ k,r.nm=some k->v.eG k=false/\AV.eG.fP k e.cells=false) (hrn:∀ r,r∈recs->r.nm≠some nm)
  (hrd:∀ r,r∈recs->∀ p,p∈r.rd->p.1≠nm) (hnv:AV.eG.fP nm e.cells=false)
  (hn:next (⟨i,o.dst,[],some nm⟩::recs) (fr.jM o.dst v) (σ.set nm e))
 | fz (hw:iQ ops o fr) (hh:dI o=false) {v:AV} (h:FT P o.op fr v) (hd:∀ d,o.dst=some d->d<n)
  (hc:∀ r,r∈iw ops recs i->∀ nm,r.nm=some nm->v.eG nm=false) (hn:next (⟨i,o.dst,[],none⟩::recs) (fr.jM o.dst v) σ)
 | dI (hw:iQ ops o fr) (hh:dI o=true) {ks:List Nat} (h:wv P E n Q (iw ops recs i=[]) o fr σ (λfr' σ'=>(∀ r,r∈iw ops recs i->(∀ p,p∈r.rd->Kf σ' p)/\
   ∀ nm,r.nm=some nm->(∀ d,o.dst=some d->(fr'.s d).eG nm=false)/\∀ k,k∈ks->∀ e,σ' k=some e->AV.eG.fP nm e.cells=false)/\next recs fr' σ') ks)
  (hk:∀ r,r∈iw ops recs i->∀ k,k∈ks->r.nm≠some k)
def kZ (B:List Rec->eQ->cl->Prop):List Nat->List Rec->eQ->cl->Prop
 | [],recs,fr,σ=>B recs fr σ
 | i::L,recs,fr,σ=>∃ o,ops[i]?=some o/\DStep P E n ops Q (kZ B L) recs i o fr σ
abbrev DW:List Nat->List Rec->eQ->cl->Prop:=kZ P E n ops Q λ_ fr σ=>Q .normal fr σ
inductive FY (fr:eQ) (σ:cl) (r:Rec) (o:Oper):Prop
 | skip (hu:tf ops o fr) (hv:∀ d,o.dst=some d->fr.s d=Sc undef) (hrd:r.rd=[]) (hnm:r.nm=none)
 | ev (hw:iQ ops o fr) {v:AV} (h:fD P o.op fr r.rd v) (hv:∀ d,o.dst=some d->fr.s d=v) (hnm:r.nm=none)
 | nw (hw:iQ ops o fr) {nm:Nat} {e:bh} {v:AV} (h:C4 P o.op fr nm e v) (hv:∀ d,o.dst=some d->fr.s d=v) (hrd:r.rd=[]) (hnm:r.nm=some nm) (hs:σ nm=some e) (hf:E.fix nm=none)
  (hne:AV.eG.fP nm e.cells=false)
 | fz (hw:iQ ops o fr) {v:AV} (h:FT P o.op fr v) (hv:∀ d,o.dst=some d->fr.s d=v) (hrd:r.rd=[]) (hnm:r.nm=none)
variable {P E n ops Q}
def rC (listed:Array Bool) (i:Nat):Bool:=listed.getD i false
def mY (listed:Array Bool) (recs:List Rec):List Rec:=recs.filter λr=>!rC listed r.i
def mF (listed:Array Bool) (recs:List Rec):Nat->Bool:=λi=>(mY listed recs).any λr=>r.dst==some i
def mS (listed:Array Bool) (recs:List Rec):Nat->Bool:=λk=>(mY listed recs).any λr=>r.nm==some k
theorem dV {listed:Array Bool} {recs:List Rec} {r:Rec}:r∈mY listed recs↔r∈recs/\rC listed r.i=false:=by simp[mY]
theorem ln {listed:Array Bool} {recs:List Rec} {i:Nat}:mF listed recs i=true↔∃ r,r∈mY listed recs/\r.dst=some i:=by simp[mF]
theorem jq {listed:Array Bool} {recs:List Rec} {i:Nat}:mS listed recs i=true↔∃ r,r∈mY listed recs/\r.nm=some i:=by simp[mS]
variable (P E n ops) in
structure Inv (listed:Array Bool) (L:List Nat) (recs:List Rec) (fr:eQ) (σ:cl):Prop where
 size:listed.size=ops.size
 todo:∀ i,i∈L->i<ops.size/\rC listed i=false
 done:∀ i o,ops[i]?=some o->i ∉ L->(dI o=true->rC listed i=true)/\(dI o=false->∃ r,r∈recs/\r.i=i)
 jr:∀ r,r∈recs->r.i ∉ L/\∃ o,ops[r.i]?=some o/\dI o=false/\r.dst=o.dst/\∀ d,o.dst=some d->d<n/\d ∉ o.looksAt ops
 xr:∀ i,i∈L->uw ops i=true
 apart:∀ r r',r∈recs->r'∈recs->r.i=r'.i->r=r'
 names:∀ r r' k,r∈recs->r'∈recs->r.nm=some k->r'.nm=some k->r=r'
 zV:∀ r r',r∈recs->r'∈recs->r.i≠r'.i->rh ops r.i r'.i=true\/rh ops r'.i r.i=true
 wy:∀ i j,i<ops.size->i ∉ L->j∈L->rh ops i j=true
 vK:nE ops L=true
 down:∀ i o,ops[i]?=some o->rC listed i=true->∀ e,e∈o.after.toList->Region.binds .any e=true->rC listed e.on=true
 zW:∀ r,r∈mY listed recs->∃ o,ops[r.i]?=some o/\FY P E ops fr σ r o
 reads:∀ r,r∈mY listed recs->∀ p,p∈r.rd->Kf σ p
 jH:∀ r,r∈mY listed recs->∀ nm,r.nm=some nm->∀ i,mF listed recs i=false->(fr.s i).eG nm=false
 ds:∀ r,r∈mY listed recs->∀ nm,r.nm=some nm->∀ p,p∈fr.ds->AV.eG.fP nm p.2=false
 EP:∀ r,r∈mY listed recs->∀ nm,r.nm=some nm->∀ k e,mS listed recs k=false->σ k=some e->AV.eG.fP nm e.cells=false
 ta:∀ r r',r∈mY listed recs->r'∈mY listed recs->∀ nm,r.nm=some nm->oJ ops ops.size r'.i r.i=false->r.i≠r'.i->
  (∀ d,r'.dst=some d->(fr.s d).eG nm=false)/\(∀ k e,r'.nm=some k->σ k=some e->AV.eG.fP nm e.cells=false)/\∀ p,p∈r'.rd->p.1≠nm
theorem qb {listed:Array Bool} (down:∀ i o,ops[i]?=some o->rC listed i=true->∀ e,e∈o.after.toList->Region.binds .any e=true->rC listed e.on=true) :
  ∀ (fuel j i:Nat) (o:Oper),ops[j]?=some o->(∀ e,e∈o.after.toList->Region.binds .any e=true->rC listed e.on=true)->oJ ops fuel j i=true->rC listed i=true
 | 0,_,_,_,_,_,h=>by simp[oJ] at h
 | fuel+1,j,i,o,ho,hr,h=>by
  simp only[oJ,ho,Bool.or_eq_true,List.any_eq_true,Bool.and_eq_true] at h
  rcases h with ⟨e,he,hb,hi⟩|⟨e,he,hb,hi⟩
  ·have:=hr e he hb
   rw[beq_iff_eq.1 hi] at this;exact this
  ·have hran:=hr e he hb
   cases hoe:ops[e.on]? with
   | none=>cases fuel<;>simp[oJ,hoe] at hi
   | some oe=>exact qb down fuel e.on i oe hoe (down e.on oe hoe hran) hi
theorem uy {listed:Array Bool} {i:Nat} (hs:listed.size=ops.size) (h:i∈Region.ready .any ops listed) :
  i<ops.size/\rC listed i=false/\∃ o,ops[i]?=some o/\∀ e,e∈o.after.toList->Region.binds .any e=true->rC listed e.on=true:=by
 simp only[Region.ready,List.mem_filter,List.mem_range,Bool.and_eq_true,Bool.not_eq_true'] at h
 obtain ⟨hlt,h1,h2⟩:=h
 refine ⟨hlt,?_,?_⟩
 ·have:listed.getD i true=listed.getD i false:=by simp[Array.getD,hs,hlt]
  unfold rC;rw[<- this];exact h1
 ·rw[Array.getElem?_eq_getElem hlt] at h2 ⊢
  simp only[Option.map_some,Option.getD_some] at h2
  refine ⟨_,rfl,λe he hb=>?_⟩
  rw[Array.all_eq_true_iff_forall_mem] at h2
  have:=h2 e (by simpa using he)
  simpa[hb,rC] using this
theorem qR {fr:eQ} {o:Oper} {m:Nat->Bool} (h:iQ ops o fr) (hm:∀ d,d∈o.looksAt ops->m d=false):iQ ops o (fe fr m):=by
 rcases h with q|⟨j,want,d,hg,hj,hb⟩
 ·exact .inl q
 refine .inr ⟨j,want,d,hg,hj,?_⟩;have:m d=false:=hm d (by simp[Oper.looksAt,hg,hj]);simp[fe,this,hb]
theorem ui {fr:eQ} {o:Oper} {m:Nat->Bool} (h:tf ops o fr) (hm:∀ d,d∈o.looksAt ops->m d=false):tf ops o (fe fr m):=by
 obtain ⟨j,want,d,b,hg,hj,hb,hn⟩:=h;refine ⟨j,want,d,b,hg,hj,?_,hn⟩;have:m d=false:=hm d (by simp[Oper.looksAt,hg,hj]);simp[fe,this,hb]
theorem tg {o:Oper} {t:Nat} (h:.tmp t∈o.op.operands):t∈o.looksAt ops:=by
 simp only[Oper.looksAt,List.mem_append,List.mem_filterMap];exact .inl ⟨.tmp t,by simpa using h,rfl⟩
theorem qS {Q':Exit->Act->World->Prop} {i:Nat} {o:Oper} {fr:eQ} {g:Gh} {a:Act} {w:World} {K:Act->World->Prop} (ho:ops[i]?=some o) (hw:iQ ops o fr) (hF:FR n g fr a)
  (h:o.wp P a w K Q'):wpOp P ops Q' i K a w:=by
 unfold wpOp
 rw[ho]
 simp only
 rcases hw with q|⟨j,want,d,hg,hj,hb⟩
 ·rw[if_pos (by simp[Region.wanted,q])];exact .inl h
 ·rw[if_pos (by simp[Region.wanted,hg,hF.yield hj hb])];exact .inl h
theorem uj {Q':Exit->Act->World->Prop} {i:Nat} {o:Oper} {fr:eQ} {g:Gh} {a:Act} {w:World} {K:Act->World->Prop} (ho:ops[i]?=some o) (hw:tf ops o fr) (hF:FR n g fr a)
  (h:K (a.put o.dst undef) w):wpOp P ops Q' i K a w:=by
 unfold wpOp
 rw[ho]
 simp only
 obtain ⟨j,want,d,b,hg,hj,hb,hn⟩:=hw
 rw[if_neg (by simp[Region.wanted,hg,hF.DN hj hb hn])];exact h
theorem mZ {i j:Nat} {a b:Oper} (ha:ops[i]?=some a) (hb:ops[j]?=some b) (h:rh ops i j=true) :
  (dI a=false->∀ d,b.dst=some d->d ∉ a.looksAt ops/\a.dst≠some d)/\(∀ d,a.dst=some d->d∈b.looksAt ops->oJ ops ops.size j i=true)/\
  (dI a=true->dI b=true\/oJ ops ops.size j i=true):=by
 simp only[rh,ha,hb,Bool.and_eq_true,looks] at h
 obtain ⟨⟨⟨_,h1⟩,h2⟩,h3⟩:=h
 refine ⟨λhh d hd=>?_,λd hd hl=>?_,λhh=>by simpa[hh] using h1⟩
 ·rw[hd] at h2;simpa[hh] using h2
 ·rw[hd] at h3
  simp only[Bool.or_eq_true,Bool.not_eq_true'] at h3
  rcases h3 with q|q
  ·simp at q;exact absurd hl q
  ·exact q
end
end Go.Abs
end
section
namespace Go.Abs
section
variable {P:Program} {E:Env} {n:Nat} {ops:Array Oper} {Q:dU} {listed:Array Bool} {L:List Nat} {recs:List Rec} {fr:eQ} {σ:cl}
theorem pF {i k:Nat} (hi:i<listed.size):rC (listed.setIfInBounds i true) k=(decide (k=i)||rC listed k):=by
 simp only[rC,Array.getD_eq_getD_getElem?];by_cases h:k=i
 ·subst h;simp[hi]
 rw[Array.getElem?_setIfInBounds_ne (λq=>h q.symm)];simp[h]
theorem BH (hI:Inv P E n ops listed L recs fr σ) {i:Nat} {o:Oper} (ho:ops[i]?=some o) (hr:∀ e,e∈o.after.toList->Region.binds .any e=true->rC listed e.on=true)
  (hi:(∃ r,r∈recs/\r.i=i)\/i∈L):∀ d,d∈o.looksAt ops->mF listed recs d=false:=by
 intro d hd
 cases hm:mF listed recs d with
 | false=>rfl
 | true=>
  exfalso
  obtain ⟨r,hrp,hrd⟩:=ln.1 hm
  obtain ⟨hrr,hran⟩:=dV.1 hrp
  obtain ⟨hnL,or,hor,hheavy,hdst,hself⟩:=hI.jr r hrr
  rw[hdst] at hrd
  have hno:oJ ops ops.size i r.i=true->False:=λq=>by
   have:=qb hI.down _ _ _ o ho hr q
   rw[this] at hran;cases hran
  have hlt:r.i<ops.size:=by
   rcases Nat.lt_or_ge r.i ops.size with q|q
   ·exact q
   ·rw[Array.getElem?_eq_none q] at hor;cases hor
  rcases hi with ⟨ri,hri,rfl⟩|hi
  ·by_cases q:r.i=ri.i
   ·have:=hI.apart r ri hrr hri q;subst this
    rw[hor] at ho;cases ho
    exact (hself d hrd).2 hd
   ·rcases hI.zV r ri hrr hri q with h|h
    ·exact hno ((mZ hor ho h).2.1 d hrd hd)
    ·obtain ⟨_,ori,hori,hh,_⟩:=hI.jr ri hri
     rw[ho] at hori;cases hori
     exact ((mZ ho hor h).1 hh d hrd).1 hd
  ·exact hno ((mZ hor ho (hI.wy r.i i hlt hnL hi)).2.1 d hrd hd)
theorem jI {i:Nat} (hi:i<listed.size) {r:Rec}:r∈mY (listed.setIfInBounds i true) recs↔r∈mY listed recs/\r.i≠i:=by
 rw[dV,dV,pF hi];constructor
 ·rintro ⟨h1,h2⟩;simp at h2;exact ⟨⟨h1,h2.2⟩,h2.1⟩
 rintro ⟨⟨h1,h2⟩,h3⟩;exact ⟨h1,by simp[h2,h3]⟩
theorem AK {i k:Nat} (hi:i<listed.size) (h:mF listed recs k=false):mF (listed.setIfInBounds i true) recs k=false:=by
 cases q:mF (listed.setIfInBounds i true) recs k with
 | false=>rfl
 | true=>
  obtain ⟨r,hr,hd⟩:=ln.1 q
  have:=ln.2 ⟨r,((jI hi).1 hr).1,hd⟩
  rw[h] at this;cases this
theorem r9 {i k:Nat} (hi:i<listed.size) (h:mS listed recs k=false):mS (listed.setIfInBounds i true) recs k=false:=by
 cases q:mS (listed.setIfInBounds i true) recs k with
 | false=>rfl
 | true=>
  obtain ⟨r,hr,hd⟩:=jq.1 q
  have:=jq.2 ⟨r,((jI hi).1 hr).1,hd⟩
  rw[h] at this;cases this
theorem Inv.goes {i:Nat} {o:Oper} (hI:Inv P E n ops listed L recs fr σ) (ho:ops[i]?=some o) (hr:∀ e,e∈o.after.toList->Region.binds .any e=true->rC listed e.on=true)
  {r:Rec} (hrp:r∈mY listed recs) (hri:r.i=i):Inv P E n ops (listed.setIfInBounds i true) L recs fr σ:=by
 have hrr:=(dV.1 hrp).1
 have hlt:i<listed.size:=by
  rw[hI.size]
  rcases Nat.lt_or_ge i ops.size with q|q
  ·exact q
  ·rw[Array.getElem?_eq_none q] at ho;cases ho
 have hno:∀ r1,r1∈mY listed recs->oJ ops ops.size i r1.i=false:=λr1 h1=>by
  cases q:oJ ops ops.size i r1.i with
  | false=>rfl
  | true=>
   have:=qb hI.down _ _ _ o ho hr q
   rw[(dV.1 h1).2] at this;cases this
 have hiL:i ∉ L:=hri▸(hI.jr r hrr).1
 refine Inv.mk (by simpa using hI.size) (λk hk=>?_) (λk ok hok hk=>?_) hI.jr hI.xr hI.apart hI.names hI.zV hI.wy hI.vK
  (λk ok hok hk e he hb=>?_) (λr1 h1=>hI.zW r1 ((jI hlt).1 h1).1) (λr1 h1=>hI.reads r1 ((jI hlt).1 h1).1) (λr1 h1 nm hnm k hk=>?_)
  (λr1 h1=>hI.ds r1 ((jI hlt).1 h1).1) (λr1 h1 nm hnm k e hk he=>?_) (λr1 r2 h1 h2=>hI.ta r1 r2 ((jI hlt).1 h1).1 ((jI hlt).1 h2).1)
 ·have:=hI.todo k hk
  refine ⟨this.1,?_⟩
  have hne:k≠i:=λq=>hiL (q▸hk)
  rw[pF hlt];simp[hne,this.2]
 ·have:=hI.done k ok hok hk
  exact ⟨λq=>by rw[pF hlt];simp[this.1 q],this.2⟩
 ·rw[pF hlt] at hk ⊢
  simp only[Bool.or_eq_true,decide_eq_true_eq] at hk
  rcases hk with q|q
  ·subst q;rw[ho] at hok;cases hok;simp[hr e he hb]
  ·simp[hI.down k ok hok q e he hb]
 ·obtain ⟨h1,h1i⟩:=(jI hlt).1 h1
  cases q:mF listed recs k with
  | false=>exact hI.jH r1 h1 nm hnm k q
  | true=>
   obtain ⟨r2,h2,hd⟩:=ln.1 q
   by_cases q2:r2.i=i
   ·have e2:=hI.apart r2 r (dV.1 h2).1 hrr (q2.trans hri.symm);subst e2
    exact (hI.ta r1 r2 h1 h2 nm hnm (by rw[q2];exact hno r1 h1) (λq3=>h1i (q3.trans q2))).1 k hd
   ·have:=ln.2 ⟨r2,(jI hlt).2 ⟨h2,q2⟩,hd⟩
    rw[hk] at this;cases this
 ·obtain ⟨h1,h1i⟩:=(jI hlt).1 h1
  cases q:mS listed recs k with
  | false=>exact hI.EP r1 h1 nm hnm k e q he
  | true=>
   obtain ⟨r2,h2,hd⟩:=jq.1 q
   by_cases q2:r2.i=i
   ·have e2:=hI.apart r2 r (dV.1 h2).1 hrr (q2.trans hri.symm);subst e2
    exact (hI.ta r1 r2 h1 h2 nm hnm (by rw[q2];exact hno r1 h1) (λq3=>h1i (q3.trans q2))).2.1 k e hd he
   ·have:=jq.2 ⟨r2,(jI hlt).2 ⟨h2,q2⟩,hd⟩
    rw[hk] at this;cases this
theorem FR.AL {m m':Nat->Bool} {g:Gh} {a:Act} {d:Option Nat} {v:AV} {c:Value} (hF:FR n g (fe fr m) a) (hd:∀ x,d=some x->x<n) (hv:VR g v c)
  (hs:∀ x,d=some x->fr.s x=v) (hm:∀ i,m' i=false->m i=false\/d=some i):FR n g (fe fr m') (a.put d c):=by
 have h1:=hF.put hd hv
 have hds:((fe fr m).jM d v).ds=(fe fr m').ds:=td
 refine ⟨h1.size,λi=>?_,by rw[<- hds];exact h1.ds⟩
 ·by_cases q:m' i=true
  ·simp only[fe,q,if_true];exact .any _
  ·have q':m' i=false:=by simpa using q
   have h2:=h1.jH i
   simp only[fe,q',Bool.false_eq_true,if_false]
   by_cases hdi:d=some i
   ·subst hdi
    simp only[eQ.jM,eQ.put,if_true] at h2
    rw[hs i rfl];exact h2
   ·have hmi:m i=false:=(hm i q').resolve_right hdi
    cases d with
    | none=>simpa[eQ.jM,fe,hmi] using h2
    | some x=>
     have:i≠x:=λq=>hdi (by rw[q])
     simpa[eQ.jM,eQ.put,fe,hmi,this] using h2
end
end Go.Abs
end
section
namespace Go.Abs
section
variable {P:Program} {E:Env} {n:Nat} {ops:Array Oper} {Q:dU} {listed:Array Bool} {L:List Nat} {recs:List Rec} {fr:eQ} {σ:cl}
theorem BI {i:Nat} {o:Oper} (hI:Inv P E n ops listed L recs fr σ) (ho:ops[i]?=some o) (hr:∀ e,e∈o.after.toList->Region.binds .any e=true->rC listed e.on=true)
  {r:Rec} (hrp:r∈mY listed recs) (hri:r.i=i) {g:Gh} {a:Act} {w:World} (hR:Rel E g (eZ σ (mS listed recs)) w) (hF:FR n g (fe fr (mF listed recs)) a)
  {K:Act->World->Prop} {Q':Exit->Act->World->Prop}
  (hK:∀ g' a' w',Inv P E n ops (listed.setIfInBounds i true) L recs fr σ->Rel E g' (eZ σ (mS (listed.setIfInBounds i true) recs)) w'->
   FR n g' (fe fr (mF (listed.setIfInBounds i true) recs)) a'->K a' w'):wpOp P ops Q' i K a w:=by
 have hrr:=(dV.1 hrp).1
 have hI':=hI.goes ho hr hrp hri
 have hlt:i<listed.size:=by
  rw[hI.size]
  rcases Nat.lt_or_ge i ops.size with q|q
  ·exact q
  ·rw[Array.getElem?_eq_none q] at ho;cases ho
 have hno:∀ r1,r1∈mY listed recs->oJ ops ops.size i r1.i=false:=λr1 h1=>by
  cases q:oJ ops ops.size i r1.i with
  | false=>rfl
  | true=>
   have:=qb hI.down _ _ _ o ho hr q
   rw[(dV.1 h1).2] at this;cases this
 obtain ⟨hiL,or,hor,hheavy,hdst,hself⟩:=hI.jr r hrr
 rw[hri,ho] at hor;cases hor
 have hum:=BH hI ho hr (.inl ⟨r,hrr,hri⟩)
 have hmF:∀ k,mF (listed.setIfInBounds i true) recs k=false->mF listed recs k=false\/o.dst=some k:=λk hk=>by
  cases q:mF listed recs k with
  | false=>exact .inl rfl
  | true=>
   obtain ⟨r2,h2,hd⟩:=ln.1 q
   by_cases q2:r2.i=i
   ·have e2:=hI.apart r2 r (dV.1 h2).1 hrr (q2.trans hri.symm);subst e2
    exact .inr (hdst.symm.trans hd)
   ·have:=ln.2 ⟨r2,(jI hlt).2 ⟨h2,q2⟩,hd⟩
    rw[hk] at this;cases this
 have hmS:r.nm=none->eZ σ (mS (listed.setIfInBounds i true) recs)=eZ σ (mS listed recs):=λhnm=>by
  funext k
  have:mS (listed.setIfInBounds i true) recs k=mS listed recs k:=by
   cases q:mS listed recs k with
   | false=>exact r9 hlt q
   | true=>
    obtain ⟨r2,h2,hd⟩:=jq.1 q
    refine jq.2 ⟨r2,(jI hlt).2 ⟨h2,λq2=>?_⟩,hd⟩
    have e2:=hI.apart r2 r (dV.1 h2).1 hrr (q2.trans hri.symm);subst e2
    rw[hnm] at hd;cases hd
  simp[eZ,this]
 have hopd:∀ x,x∈o.op.operands->VR g (fr.val x) (a.eval x):=λx hx=>by
  have h1:=hF.eval x
  rwa [BG (λt ht=>hum t (tg (ht▸hx)))] at h1
 have hdn:∀ x,o.dst=some x->x<n:=λx hx=>(hself x hx).1
 obtain ⟨o',ho',hp⟩:=hI.zW r hrp
 rw[hri,ho] at ho';cases ho'
 cases hp with
 | skip hu hv hrd hnm=>
  refine uj ho (ui hu hum) hF (hK g _ w hI' ?_ ?_)
  ·rw[hmS hnm];exact hR
  ·exact hF.AL (v:=Sc undef) hdn (.pv (.sc _)) hv hmF
 | @ev hw v h hv hnm=>
  refine qS ho (qR hw hum) hF ?_
  obtain ⟨c,hrun,hvr⟩:=h o rfl g a.eval w hR.gl hopd (λp hp=>by
   obtain ⟨e0,hs,hle⟩:=hI.reads r hrp p hp
   refine hle _ _ _ (hR.kX p.1 e0 ?_)
   rw[rB]
   ·exact hs
   ·cases q:mS listed recs p.1 with
    | false=>rfl
    | true=>
     exfalso
     obtain ⟨r2,h2,hd⟩:=jq.1 q
     by_cases q2:r2.i=i
     ·have e2:=hI.apart r2 r (dV.1 h2).1 hrr (q2.trans hri.symm);subst e2
      rw[hnm] at hd;cases hd
     ·exact (hI.ta r2 r h2 hrp _ hd (by rw[hri];exact hno r2 h2) (λq3=>q2 (q3.trans hri))).2.2 p hp rfl)
  simp only[Oper.wp,hrun,Oper.upon]
  refine hK g _ w hI' ?_ ?_
  ·rw[hmS hnm];exact hR
  ·exact hF.AL hdn hvr hv hmF
 | @nw hw nm e v h hv hrd hnm hs hf hne=>
  refine qS ho (qR hw hum) hF ?_
  have hsl:=hI.jH r hrp nm hnm
  have hcl:(fe fr (mF listed recs)).clear nm:=⟨λk=>by
   simp only[fe];split
   ·rfl
   ·rename_i q;exact hsl k (by simpa using q),hI.ds r hrp nm hnm⟩
  have hcs:(eZ σ (mS listed recs)).clear nm:=λk e' hk=>by
   simp only[eZ] at hk
   split at hk
   ·cases hk
   ·rename_i q;exact hI.EP r hrp nm hnm k e' (by simpa using q) hk
  obtain ⟨c,cs,el,cap,hrun,he,hvr⟩:=h o rfl g a.eval w hR.gl.fresh (λx hx=>⟨hopd x hx,by
   cases x with
   | tmp t=>exact hsl t (hum t (tg hx))
   | const v=>rfl
   | global k=>rfl
   | func f=>rfl⟩)
  simp only[Oper.wp,hrun,Oper.upon]
  have hR2:=hR.FF hcs hf he
  have hF2:FR n (g.fresh nm w.heap.size cap e) (fe fr (mF listed recs)) a:=hF.le (lj.fresh g nm _ _ e hR.gl.fresh) λk q=>by subst q;exact hcl
  refine hK _ _ _ hI' ?_ (hF2.AL hdn hvr hv hmF)
  have:eZ σ (mS (listed.setIfInBounds i true) recs)=(eZ σ (mS listed recs)).set nm e:=by
   funext k
   by_cases q:k=nm
   ·subst q
    have:mS (listed.setIfInBounds i true) recs k=false:=by
     cases q:mS (listed.setIfInBounds i true) recs k with
     | false=>rfl
     | true=>
      exfalso
      obtain ⟨r2,h2,hd⟩:=jq.1 q
      obtain ⟨h2,h2i⟩:=(jI hlt).1 h2
      have:=hI.names r2 r k (dV.1 h2).1 hrr hd hnm
      subst this;exact h2i hri
    simp[eZ,this,cl.set,hs]
   ·have:mS (listed.setIfInBounds i true) recs k=mS listed recs k:=by
     cases q2:mS listed recs k with
     | false=>exact r9 hlt q2
     | true=>
      obtain ⟨r2,h2,hd⟩:=jq.1 q2
      refine jq.2 ⟨r2,(jI hlt).2 ⟨h2,λq3=>?_⟩,hd⟩
      have e2:=hI.apart r2 r (dV.1 h2).1 hrr (q3.trans hri.symm);subst e2
      rw[hnm] at hd;cases hd;exact q rfl
    simp[eZ,this,cl.set,q]
  rw[this];exact hR2
 | @fz hw v h hv hrd hnm=>
  refine qS ho (qR hw hum) hF ?_
  obtain ⟨c,cs,el,ys,hrun,hl,hp,hvr⟩:=h o rfl g a.eval w hopd
  simp only[Oper.wp,hrun,Oper.upon]
  refine hK (g.dH w.heap.size ys) _ _ hI' ?_ ?_
  ·rw[hmS hnm];exact hR.frozen hl hp
  ·exact (hF.le (nn:=λ_=>False) (lj.dH g _ ys hR.gl.fresh) λk q=>q.elim).AL hdn hvr hv hmF
theorem FY.congr {fr':eQ} {σ':cl} {r:Rec} {o:Oper} (h:FY P E ops fr σ r o) (hl:∀ t,t∈o.looksAt ops->fr'.s t=fr.s t) (hd:∀ d,o.dst=some d->fr'.s d=fr.s d)
  (hs:∀ nm,r.nm=some nm->σ' nm=σ nm):FY P E ops fr' σ' r o:=by
 have hval:∀ x,x∈o.op.operands->fr'.val x=fr.val x:=λx hx=>by
  cases x with
  | tmp t=>exact hl t (tg hx)
  | const v=>rfl
  | global k=>rfl
  | func f=>rfl
 have hwan:iQ ops o fr->iQ ops o fr':=λhw=>by
  rcases hw with q|⟨j,want,d,hg,hj,hb⟩
  ·exact .inl q
  ·exact .inr ⟨j,want,d,hg,hj,by rw[hl d (by simp[Oper.looksAt,hg,hj])];exact hb⟩
 cases h with
 | skip hu hv hrd hnm=>
  obtain ⟨j,want,d,b,hg,hj,hb,hn⟩:=hu
  exact .skip ⟨j,want,d,b,hg,hj,by rw[hl d (by simp[Oper.looksAt,hg,hj])];exact hb,hn⟩ (λd hd'=>(hd d hd').trans (hv d hd')) hrd hnm
 | ev hw h hv hnm=>exact .ev (hwan hw) (λo' ho' g ev w hG hx=>h o' ho' g ev w hG λx hx'=>by rw[<- hval x hx'];exact hx x hx') (λd hd'=>(hd d hd').trans (hv d hd')) hnm
 | nw hw h hv hrd hnm hs' hf hne=>
  exact .nw (hwan hw) (λo' ho' g ev w hG0 hx=>h o' ho' g ev w hG0 λx hx'=>by rw[<- hval x hx'];exact hx x hx') (λd hd'=>(hd d hd').trans (hv d hd')) hrd hnm ((hs _ hnm).trans hs') hf hne
 | fz hw h hv hrd hnm=>exact .fz (hwan hw) (λo' ho' g ev w hx=>h o' ho' g ev w λx hx'=>by rw[<- hval x hx'];exact hx x hx') (λd hd'=>(hd d hd').trans (hv d hd')) hrd hnm
end
end Go.Abs
end
section
namespace Go.Abs
section
variable {P:Program} {E:Env} {n:Nat} {ops:Array Oper} {Q:dU} {listed:Array Bool} {L:List Nat} {recs:List Rec} {fr:eQ} {σ:cl}
theorem lW {d:Option Nat} {v:AV} {i:Nat} (h:d≠some i):(fr.jM d v).s i=fr.s i:=by
 cases d with
 | none=>rfl
 | some d=>
  have:i≠d:=λq=>h (by rw[q])
  simp[eQ.jM,eQ.put,this]
theorem pW {d:Option Nat} {v:AV} {i:Nat} (h:d=some i):(fr.jM d v).s i=v:=by
 subst h;simp[eQ.jM,eQ.put]
theorem advance {c:Nat} {o:Oper} {v:AV} {rd:List (Nat×bh)} {onm:Option Nat} {σ':cl} (hI:Inv P E n ops listed (c::L) recs fr σ) (ho:ops[c]?=some o) (hh:dI o=false)
  (hd:∀ d,o.dst=some d->d<n) (hp:FY P E ops (fr.jM o.dst v) σ' ⟨c,o.dst,rd,onm⟩ o)
  (hσ:∀ k,onm≠some k->σ' k=σ k)
  (hrn:∀ k,onm=some k->(∀ r,r∈recs->r.nm≠some k/\∀ p,p∈r.rd->p.1≠k)/\σ k=none/\fr.clear k/\σ.clear k/\∀ e,σ' k=some e->AV.eG.fP k e.cells=false)
  (hrd:∀ p,p∈rd->Kf σ' p)
  (hc:∀ r,r∈iw ops recs c->∀ nm,r.nm=some nm->v.eG nm=false/\(∀ p,p∈rd->p.1≠nm)/\∀ k e,onm=some k->σ' k=some e->AV.eG.fP nm e.cells=false)
  {g:Gh} {a:Act} {w:World} (hR:Rel E g (eZ σ (mS listed recs)) w) (hF:FR n g (fe fr (mF listed recs)) a) :
  Inv P E n ops listed L (⟨c,o.dst,rd,onm⟩::recs) (fr.jM o.dst v) σ'/\Rel E g (eZ σ' (mS listed (⟨c,o.dst,rd,onm⟩::recs))) w/\
   FR n g (fe (fr.jM o.dst v) (mF listed (⟨c,o.dst,rd,onm⟩::recs))) a:=by
 have hcL:=hI.todo c (by simp)
 have hPP:=hI.vK
 simp only[nE,Bool.and_eq_true,Bool.not_eq_true'] at hPP
 obtain ⟨⟨hcn,hca⟩,hPL⟩:=hPP
 have hcnL:c ∉ L:=by simpa using hcn
 have hself:=hI.xr c (by simp)
 simp only[uw,ho,hh,Bool.false_or,Bool.and_eq_true,looks] at hself
 have hdl:∀ d,o.dst=some d->d ∉ o.looksAt ops:=λd hd'=>by
  have:=hself.2;rw[hd'] at this;simpa using this
 have hne:∀ r,r∈recs->r.i≠c:=λr hr q=>(hI.jr r hr).1 (by simp[q])
 have hlt:∀ r,r∈recs->r.i<ops.size:=λr hr=>by
  obtain ⟨_,or,hor,_⟩:=hI.jr r hr
  rcases Nat.lt_or_ge r.i ops.size with q|q
  ·exact q
  ·rw[Array.getElem?_eq_none q] at hor;cases hor
 have hpair:∀ r,r∈recs->rh ops r.i c=true:=λr hr=>hI.wy r.i c (hlt r hr) (hI.jr r hr).1 (by simp)
 have hfree:∀ r,r∈recs->∀ or,ops[r.i]?=some or->∀ d,o.dst=some d->d ∉ or.looksAt ops/\or.dst≠some d:=λr hr or hor d hd'=>by
  obtain ⟨_,or',hor',hhv,_⟩:=hI.jr r hr
  rw[hor] at hor';cases hor'
  exact (mZ hor ho (hpair r hr)).1 hhv d hd'
 have hrdst:∀ r,r∈recs->∀ d,r.dst=some d->o.dst≠some d:=λr hr d hd' q=>by
  obtain ⟨_,or,hor,_,hds,_⟩:=hI.jr r hr
  exact (hfree r hr or hor d q).2 (hds.symm.trans hd')
 have hsame:∀ r,r∈recs->∀ d,r.dst=some d->(fr.jM o.dst v).s d=fr.s d:=λr hr d hd'=>lW (hrdst r hr d hd')
 have hpm:∀ r,r∈mY listed (⟨c,o.dst,rd,onm⟩::recs)↔r=⟨c,o.dst,rd,onm⟩\/r∈mY listed recs:=λr=>by
  rw[dV,dV]
  constructor
  ·rintro ⟨h1,h2⟩
   rcases List.mem_cons.1 h1 with q|q
   ·exact .inl q
   ·exact .inr ⟨q,h2⟩
  ·rintro (q|⟨h1,h2⟩)
   ·subst q;exact ⟨by simp,hcL.2⟩
   ·exact ⟨by simp[h1],h2⟩
 have hmF:∀ k,mF listed (⟨c,o.dst,rd,onm⟩::recs) k=false->o.dst≠some k/\mF listed recs k=false:=λk hk=>by
  refine ⟨λq=>?_,?_⟩
  ·have:=ln.2 ⟨⟨c,o.dst,rd,onm⟩,(hpm _).2 (.inl rfl),q⟩
   rw[hk] at this;cases this
  ·cases q:mF listed recs k with
   | false=>rfl
   | true=>
    obtain ⟨r,h1,h2⟩:=ln.1 q
    have:=ln.2 ⟨r,(hpm r).2 (.inr h1),h2⟩
    rw[hk] at this;cases this
 have hmS:∀ k,mS listed (⟨c,o.dst,rd,onm⟩::recs) k=false->onm≠some k/\mS listed recs k=false:=λk hk=>by
  refine ⟨λq=>?_,?_⟩
  ·have:=jq.2 ⟨⟨c,o.dst,rd,onm⟩,(hpm _).2 (.inl rfl),q⟩
   rw[hk] at this;cases this
  ·cases q:mS listed recs k with
   | false=>rfl
   | true=>
    obtain ⟨r,h1,h2⟩:=jq.1 q
    have:=jq.2 ⟨r,(hpm r).2 (.inr h1),h2⟩
    rw[hk] at this;cases this
 have hmS':∀ k,mS listed (⟨c,o.dst,rd,onm⟩::recs) k=true->onm=some k\/mS listed recs k=true:=λk hk=>by
  obtain ⟨r,h1,h2⟩:=jq.1 hk
  rcases (hpm r).1 h1 with q|q
  ·subst q;exact .inl h2
  ·exact .inr (jq.2 ⟨r,q,h2⟩)
 refine ⟨?_,?_,?_⟩
 ·refine Inv.mk hI.size (λi hi=>hI.todo i (by simp[hi])) (λi oi hoi hi=>?_) (λr hr=>?_) (λi hi=>hI.xr i (by simp[hi])) (λr r' hr hr' q=>?_) (λr r' k hr hr' q q'=>?_)
   (λr r' hr hr' q=>?_) (λi j hi hiL hj=>?_) hPL hI.down (λr hr=>?_) (λr hr p hpr=>?_) (λr hr nm hnm i hi=>?_) (λr hr nm hnm p hpp=>?_) (λr hr nm hnm k e hk he=>?_)
   (λr r' hr hr' nm hnm hord hri=>?_)
  ·by_cases q:i=c
   ·subst q;rw[ho] at hoi;cases hoi
    exact ⟨λq=>(by rw[hh] at q;cases q),λ_=>⟨_,List.mem_cons_self ..,rfl⟩⟩
   ·obtain ⟨h1,h2⟩:=hI.done i oi hoi (by simp[q,hi])
    exact ⟨h1,λq2=>let ⟨r,hr,e⟩:=h2 q2;⟨r,by simp[hr],e⟩⟩
  ·rcases List.mem_cons.1 hr with q|q
   ·subst q;exact ⟨hcnL,o,ho,hh,rfl,λd hd'=>⟨hd d hd',hdl d hd'⟩⟩
   ·obtain ⟨h1,h2⟩:=hI.jr r q
    exact ⟨λq2=>h1 (by simp[q2]),h2⟩
  ·rcases List.mem_cons.1 hr with h1|h1
   ·rcases List.mem_cons.1 hr' with h2|h2
    ·rw[h1,h2]
    ·subst h1;exact absurd q.symm (hne r' h2)
   ·rcases List.mem_cons.1 hr' with h2|h2
    ·subst h2;exact absurd q (hne r h1)
    ·exact hI.apart r r' h1 h2 q
  ·rcases List.mem_cons.1 hr with h1|h1
   ·rcases List.mem_cons.1 hr' with h2|h2
    ·rw[h1,h2]
    ·subst h1;exact absurd q' ((hrn k q).1 r' h2).1
   ·rcases List.mem_cons.1 hr' with h2|h2
    ·subst h2;exact absurd q ((hrn k q').1 r h1).1
    ·exact hI.names r r' k h1 h2 q q'
  ·rcases List.mem_cons.1 hr with h1|h1
   ·rcases List.mem_cons.1 hr' with h2|h2
    ·subst h1 h2;exact absurd rfl q
    ·subst h1;exact .inr (hpair r' h2)
   ·rcases List.mem_cons.1 hr' with h2|h2
    ·subst h2;exact .inl (hpair r h1)
    ·exact hI.zV r r' h1 h2 q
  ·by_cases q:i=c
   ·subst q;exact List.all_eq_true.1 hca j hj
   ·exact hI.wy i j hi (by simp[q,hiL]) (by simp[hj])
  ·rcases (hpm r).1 hr with q|q
   ·subst q;exact ⟨o,ho,hp⟩
   ·obtain ⟨or,hor,hpr⟩:=hI.zW r q
    have hrr:=(dV.1 q).1
    refine ⟨or,hor,hpr.congr (λt ht=>lW λq2=>(hfree r hrr or hor t q2).1 ht) (λd hd'=>lW λq2=>(hfree r hrr or hor d q2).2 hd') (λnm hnm=>hσ nm λq2=>((hrn nm q2).1 r hrr).1 hnm)⟩
  ·rcases (hpm r).1 hr with q|q
   ·subst q;exact hrd p hpr
   ·obtain ⟨e0,hs,hle⟩:=hI.reads r q p hpr
    exact ⟨e0,by rw[hσ p.1 λq2=>((hrn p.1 q2).1 r (dV.1 q).1).2 p hpr rfl];exact hs,hle⟩
  ·obtain ⟨h1,h2⟩:=hmF i hi
   rw[lW h1]
   rcases (hpm r).1 hr with q|q
   ·subst q;exact (hrn nm hnm).2.2.1.1 i
   ·exact hI.jH r q nm hnm i h2
  ·rw[td] at hpp
   rcases (hpm r).1 hr with q|q
   ·subst q;exact (hrn nm hnm).2.2.1.2 p hpp
   ·exact hI.ds r q nm hnm p hpp
  ·obtain ⟨h1,h2⟩:=hmS k hk
   rw[hσ k h1] at he
   rcases (hpm r).1 hr with q|q
   ·subst q;exact (hrn nm hnm).2.2.2.1 k e he
   ·exact hI.EP r q nm hnm k e h2 he
  ·rcases (hpm r).1 hr with q|q
   ·subst q
    rcases (hpm r').1 hr' with q'|q'
    ·subst q';exact absurd rfl hri
    ·have hrr':=(dV.1 q').1
     refine ⟨λd hd'=>by rw[hsame r' hrr' d hd'];exact (hrn nm hnm).2.2.1.1 d,λk e hk he=>?_,λp hpp=>((hrn nm hnm).1 r' hrr').2 p hpp⟩
     rw[hσ k (λq2=>((hrn k q2).1 r' hrr').1 hk)] at he
     exact (hrn nm hnm).2.2.2.1 k e he
   ·have hrr:=(dV.1 q).1
    rcases (hpm r').1 hr' with q'|q'
    ·subst q'
     have hfl:r∈iw ops recs c:=by simp[iw,hrr,hord]
     obtain ⟨h1,h2,h3⟩:=hc r hfl nm hnm
     exact ⟨λd hd'=>by rw[pW hd'];exact h1,λk e hk he=>h3 k e hk he,h2⟩
    ·have hrr':=(dV.1 q').1
     obtain ⟨h1,h2,h3⟩:=hI.ta r r' q q' nm hnm hord hri
     refine ⟨λd hd'=>by rw[hsame r' hrr' d hd'];exact h1 d hd',λk e hk he=>?_,h3⟩
     rw[hσ k (λq2=>((hrn k q2).1 r' hrr').1 hk)] at he
     exact h2 k e hk he
 ·have:eZ σ' (mS listed (⟨c,o.dst,rd,onm⟩::recs))=eZ σ (mS listed recs):=by
   funext k
   simp only[eZ]
   cases q:mS listed (⟨c,o.dst,rd,onm⟩::recs) k with
   | false=>
    obtain ⟨h1,h2⟩:=hmS k q
    simp[h2,hσ k h1]
   | true=>
    simp only[if_true]
    rcases hmS' k q with h1|h1
    ·split
     ·rfl
     ·exact (hrn k h1).2.1.symm
    ·simp[h1]
  rw[this];exact hR
 ·refine ⟨hF.size,λi=>?_,?_⟩
  ·simp only[fe]
   split
   ·exact .any _
   ·rename_i q
    obtain ⟨h1,h2⟩:=hmF i (by simpa using q)
    have:=hF.jH i
    simp only[fe,h2] at this
    rw[lW h1];exact this
  ·have h0:(fe (fr.jM o.dst v) (mF listed (⟨c,o.dst,rd,onm⟩::recs))).ds=fr.ds:=td
   rw[h0];exact hF.ds
theorem fD.congr {op:Op} {fr fr':eQ} {rd:List (Nat×bh)} {v:AV} (h:fD P op fr rd v) (he:∀ x,x∈op.operands->fr'.val x=fr.val x):fD P op fr' rd v:=
 λo' ho' g ev w hG hx=>h o' ho' g ev w hG λx hx'=>by rw[<- he x hx'];exact hx x hx'
theorem FZ {x:Operand} {d:Option Nat} {v:AV} (h:∀ t,x=.tmp t->d≠some t):(fr.jM d v).val x=fr.val x:=by
 cases x with
 | tmp t=>exact lW (h t rfl)
 | const v=>rfl
 | global k=>rfl
 | func f=>rfl
theorem th {o:Oper} {d:Option Nat} {v:AV} (h:iQ ops o fr) (hd:∀ t,t∈o.looksAt ops->d≠some t):iQ ops o (fr.jM d v):=by
 rcases h with q|⟨j,want,x,hg,hj,hb⟩
 ·exact .inl q
 exact .inr ⟨j,want,x,hg,hj,by rw[lW (hd x (by simp[Oper.looksAt,hg,hj]))];exact hb⟩
theorem walk {c:Nat} {o:Oper} {next:List Rec->eQ->cl->Prop} (hI:Inv P E n ops listed (c::L) recs fr σ) (ho:ops[c]?=some o) (hh:dI o=false)
  (hS:DStep P E n ops Q next recs c o fr σ) {g:Gh} {a:Act} {w:World} (hR:Rel E g (eZ σ (mS listed recs)) w) (hF:FR n g (fe fr (mF listed recs)) a) :
  ∃ r recs' fr' σ',recs'=r::recs/\r.i=c/\next recs' fr' σ'/\Inv P E n ops listed L recs' fr' σ'/\Rel E g (eZ σ' (mS listed recs')) w/\FR n g (fe fr' (mF listed recs')) a:=by
 have hself:=hI.xr c (by simp)
 simp only[uw,ho,hh,Bool.false_or,Bool.and_eq_true,looks] at hself
 have hdl:∀ t,t∈o.looksAt ops->o.dst≠some t:=λt ht q=>by
  have:=hself.2;rw[q] at this;simp at this;exact this ht
 have hval:∀ v x,x∈o.op.operands->(fr.jM o.dst v).val x=fr.val x:=λv x hx=>FZ λt ht=>hdl t (tg (ht▸hx))
 cases hS with
 | skip hu hd hn=>
  simp only[hh,Bool.false_eq_true,if_false] at hn
  obtain ⟨j,want,d,b,hg,hj,hb,hne⟩:=hu
  obtain ⟨h1,h2,h3⟩:=advance (v:=Sc undef) (rd:=[]) (onm:=none) (σ':=σ) hI ho hh hd
   (.skip ⟨j,want,d,b,hg,hj,by rw[lW (hdl d (by simp[Oper.looksAt,hg,hj]))];exact hb,hne⟩ (λd hd=>pW hd) rfl rfl)
   (λ_ _=>rfl) (λk q=>by cases q) (λp q=>by cases q) (λr _ nm _=>⟨rfl,(λp q=>by cases q),λk e q=>by cases q⟩) hR hF
  exact ⟨_,_,_,_,rfl,rfl,hn,h1,h2,h3⟩
 | @ev hw _ rd v h hr hd hc hn=>
  obtain ⟨h1,h2,h3⟩:=advance (v:=v) (rd:=rd) (onm:=none) (σ':=σ) hI ho hh hd (.ev (th hw hdl) (h.congr (hval v)) (λd hd=>pW hd) rfl)
   (λ_ _=>rfl) (λk q=>by cases q) hr (λr hr nm hnm=>⟨(hc r hr nm hnm).1,(hc r hr nm hnm).2,λk e q=>by cases q⟩) hR hF
  exact ⟨_,_,_,_,rfl,rfl,hn,h1,h2,h3⟩
 | @nw hw _ nm e v h hcf hcs hs hf hd hc hrn hrd hnv hn=>
  obtain ⟨h1,h2,h3⟩:=advance (v:=v) (rd:=[]) (onm:=some nm) (σ':=σ.set nm e) hI ho hh hd
   (.nw (th hw hdl) (λo' ho' g ev w hG0 hx=>h o' ho' g ev w hG0 λx hx'=>by rw[<- hval v x hx'];exact hx x hx') (λd hd=>pW hd) rfl rfl (by simp[cl.set]) hf hnv)
   (λk q=>by
    have:k≠nm:=λq2=>q (by rw[q2])
    simp[cl.set,this])
   (λk q=>by
    cases q
    exact ⟨λr hr=>⟨hrn r hr,hrd r hr⟩,hs,hcf,hcs,λe' he'=>by simp[cl.set] at he';subst he';exact hnv⟩)
   (λp q=>by cases q) (λr hr k hk=>⟨(hc r hr k hk).1,(λp q=>by cases q),λk' e' q he'=>by cases q;simp[cl.set] at he';subst he';exact (hc r hr k hk).2⟩) hR hF
  exact ⟨_,_,_,_,rfl,rfl,hn,h1,h2,h3⟩
 | @fz hw _ v h hd hc hn=>
  obtain ⟨h1,h2,h3⟩:=advance (v:=v) (rd:=[]) (onm:=none) (σ':=σ) hI ho hh hd
   (.fz (th hw hdl) (λo' ho' g ev w hx=>h o' ho' g ev w λx hx'=>by rw[<- hval v x hx'];exact hx x hx') (λd hd=>pW hd) rfl rfl)
   (λ_ _=>rfl) (λk q=>by cases q) (λp q=>by cases q) (λr hr nm hnm=>⟨hc r hr nm hnm,(λp q=>by cases q),λk e q=>by cases q⟩) hR hF
  exact ⟨_,_,_,_,rfl,rfl,hn,h1,h2,h3⟩
 | dI _ hh'=>rw[hh] at hh';cases hh'
end
end Go.Abs
end
section
namespace Go.Abs
section
variable {P:Program} {E:Env} {n:Nat} {ops:Array Oper} {Q:dU}
theorem vL {listed:Array Bool} {L:List Nat} {recs:List Rec} {fr:eQ} {σ:cl} {c:Nat} {o:Oper} {next:List Rec->eQ->cl->Prop} (hI:Inv P E n ops listed (c::L) recs fr σ) (ho:ops[c]?=some o)
  (hh:dI o=true) (hr:∀ e,e∈o.after.toList->Region.binds .any e=true->rC listed e.on=true) (hS:DStep P E n ops Q next recs c o fr σ)
  {g:Gh} {a:Act} {w:World} (hR:Rel E g (eZ σ (mS listed recs)) w) (hF:FR n g (fe fr (mF listed recs)) a) {K:Act->World->Prop}
  (hK:∀ g' fr' σ' a' w',next recs fr' σ'->Inv P E n ops (listed.setIfInBounds c true) L recs fr' σ'->Rel E g' (eZ σ' (mS (listed.setIfInBounds c true) recs)) w'->
   FR n g' (fe fr' (mF (listed.setIfInBounds c true) recs)) a'->K a' w'):wpOp P ops (LQ E n Q) c K a w:=by
 have hcL:=hI.todo c (by simp)
 have hlt:c<listed.size:=by rw[hI.size];exact hcL.1
 have hPP:=hI.vK
 simp only[nE,Bool.and_eq_true,Bool.not_eq_true'] at hPP
 obtain ⟨⟨hcn,hca⟩,hPL⟩:=hPP
 have hcnL:c ∉ L:=by simpa using hcn
 have hne:∀ r,r∈recs->r.i≠c:=λr hr q=>(hI.jr r hr).1 (by simp[q])
 have hltr:∀ r,r∈recs->r.i<ops.size:=λr hr=>by
  obtain ⟨_,or,hor,_⟩:=hI.jr r hr
  rcases Nat.lt_or_ge r.i ops.size with q|q
  ·exact q
  ·rw[Array.getElem?_eq_none q] at hor;cases hor
 have hpair:∀ r,r∈recs->rh ops r.i c=true:=λr hr=>hI.wy r.i c (hltr r hr) (hI.jr r hr).1 (by simp)
 have hfree:∀ r,r∈recs->∀ or,ops[r.i]?=some or->∀ d,o.dst=some d->d ∉ or.looksAt ops/\or.dst≠some d:=λr hr or hor d hd'=>by
  obtain ⟨_,or',hor',hhv,_⟩:=hI.jr r hr
  rw[hor] at hor';cases hor'
  exact (mZ hor ho (hpair r hr)).1 hhv d hd'
 have hrdst:∀ r,r∈recs->∀ d,r.dst=some d->o.dst≠some d:=λr hr d hd' q=>by
  obtain ⟨_,or,hor,_,hds,_⟩:=hI.jr r hr
  exact (hfree r hr or hor d q).2 (hds.symm.trans hd')
 have hno:∀ r1,r1∈mY listed recs->oJ ops ops.size c r1.i=false:=λr1 h1=>by
  cases q:oJ ops ops.size c r1.i with
  | false=>rfl
  | true=>
   have:=qb hI.down _ _ _ o ho hr q
   rw[(dV.1 h1).2] at this;cases this
 have hfl:∀ r,r∈mY listed recs->r∈iw ops recs c:=λr hr=>by simp[iw,(dV.1 hr).1,hno r hr]
 have hum:=BH hI ho hr (.inr (by simp))
 have hdm:∀ d,o.dst=some d->mF listed recs d=false:=λd hd=>by
  cases q:mF listed recs d with
  | false=>rfl
  | true=>
   obtain ⟨r,h1,h2⟩:=ln.1 q
   exact absurd hd (hrdst r (dV.1 h1).1 d h2)
 have hpe:∀ r,r∈mY (listed.setIfInBounds c true) recs↔r∈mY listed recs:=λr=>by
  rw[jI hlt];exact ⟨λh=>h.1,λh=>⟨h,hne r (dV.1 h).1⟩⟩
 have hmFe:mF (listed.setIfInBounds c true) recs=mF listed recs:=by
  funext k
  cases q:mF listed recs k with
  | false=>exact AK hlt q
  | true=>
   obtain ⟨r,h1,h2⟩:=ln.1 q
   exact ln.2 ⟨r,(hpe r).2 h1,h2⟩
 have hmSe:mS (listed.setIfInBounds c true) recs=mS listed recs:=by
  funext k
  cases q:mS listed recs k with
  | false=>exact r9 hlt q
  | true=>
   obtain ⟨r,h1,h2⟩:=jq.1 q
   exact jq.2 ⟨r,(hpe r).2 h1,h2⟩
 have hinv:∀ fr0 σ0 ks,MT o ks fr fr0 σ σ0->(∀ r,r∈mY listed recs->∀ k,k∈ks->r.nm≠some k)->
   (∀ r,r∈mY listed recs->(∀ p,p∈r.rd->Kf σ0 p)/\∀ nm,r.nm=some nm->(∀ d,o.dst=some d->(fr0.s d).eG nm=false)/\∀ k,k∈ks->∀ e,σ0 k=some e->AV.eG.fP nm e.cells=false)->
   Inv P E n ops (listed.setIfInBounds c true) L recs fr0 σ0:=by
  intro fr0 σ0 ks hch hks hst
  have hs:∀ r,r∈recs->∀ d,r.dst=some d->fr0.s d=fr.s d:=λr hr d hd=>hch.s d (hrdst r hr d hd)
  refine Inv.mk (by simpa using hI.size) (λi hi=>?_) (λi oi hoi hi=>?_) (λr hr=>?_) (λi hi=>hI.xr i (by simp[hi])) hI.apart hI.names hI.zV (λi j hi hiL hj=>?_) hPL
   (λk ok hok hk e he hb=>?_) (λr hr'=>?_) (λr hr'=>(hst r ((hpe r).1 hr')).1) (λr hr' nm hnm i hi=>?_) (λr hr' nm hnm p hp=>?_) (λr hr' nm hnm k e hk he=>?_)
   (λr r' h1 h2 nm hnm hord hri=>?_)
  ·have:=hI.todo i (by simp[hi])
   have hn:i≠c:=λq=>hcnL (q▸hi)
   exact ⟨this.1,by rw[pF hlt];simp[hn,this.2]⟩
  ·by_cases q:i=c
   ·subst q;rw[ho] at hoi;cases hoi
    exact ⟨λ_=>by rw[pF hlt];simp,λq=>(by rw[hh] at q;cases q)⟩
   ·obtain ⟨h1,h2⟩:=hI.done i oi hoi (by simp[q,hi])
    exact ⟨λq2=>by rw[pF hlt];simp[h1 q2],h2⟩
  ·obtain ⟨h1,h2⟩:=hI.jr r hr
   exact ⟨λq=>h1 (by simp[q]),h2⟩
  ·by_cases q:i=c
   ·subst q;exact List.all_eq_true.1 hca j hj
   ·exact hI.wy i j hi (by simp[q,hiL]) (by simp[hj])
  ·rw[pF hlt] at hk ⊢
   simp only[Bool.or_eq_true,decide_eq_true_eq] at hk
   rcases hk with q|q
   ·subst q;rw[ho] at hok;cases hok;simp[hr e he hb]
   ·simp[hI.down k ok hok q e he hb]
  ·have hp:=(hpe r).1 hr'
   have hrr:=(dV.1 hp).1
   obtain ⟨or,hor,hpp⟩:=hI.zW r hp
   exact ⟨or,hor,hpp.congr (λt ht=>hch.s t λq=>(hfree r hrr or hor t q).1 ht) (λd hd=>hch.s d λq=>(hfree r hrr or hor d q).2 hd) (λnm hnm=>hch.h nm λq=>hks r hp nm q hnm)⟩
  ·have hp:=(hpe r).1 hr'
   rw[hmFe] at hi
   by_cases q:o.dst=some i
   ·exact ((hst r hp).2 nm hnm).1 i q
   ·rw[hch.s i q];exact hI.jH r hp nm hnm i hi
  ·rw[hch.ds] at hp;exact hI.ds r ((hpe r).1 hr') nm hnm p hp
  ·have hp:=(hpe r).1 hr'
   rw[hmSe] at hk
   by_cases q:k∈ks
   ·exact ((hst r hp).2 nm hnm).2 k q e he
   ·rw[hch.h k q] at he;exact hI.EP r hp nm hnm k e hk he
  ·have hp:=(hpe r).1 h1
   have hp':=(hpe r').1 h2
   obtain ⟨q1,q2,q3⟩:=hI.ta r r' hp hp' nm hnm hord hri
   refine ⟨λd hd=>by rw[hs r' (dV.1 hp').1 d hd];exact q1 d hd,λk e hk he=>?_,q3⟩
   rw[hch.h k λq=>hks r' hp' k q hk] at he
   exact q2 k e hk he
 cases hS with
 | skip hu hd hn=>
  simp only[hh,if_true] at hn
  refine uj ho (ui hu hum) hF (hK g _ σ _ w hn (hinv _ _ [] ⟨tc,td,λ_ _=>rfl⟩ (λ_ _ _ q=>by cases q) λr hr=>?_) ?_ ?_)
  ·exact ⟨hI.reads r hr,λnm hnm=>⟨λd hd'=>by rw[pW hd'];rfl,λk q=>by cases q⟩⟩
  ·rw[hmSe];exact hR
  ·rw[hmFe,<- rA hdm];exact hF.put hd (.pv (.sc _))
 | ev _ hh'=>rw[hh] at hh';cases hh'
 | nw _ hh'=>rw[hh] at hh';cases hh'
 | fz _ hh'=>rw[hh] at hh';cases hh'
 | @dI hw _ ks h hk=>
  have hst:=h.run (m:=mF listed recs) (mm:=mS listed recs) (λhN=>by
   have hp:∀ r,r∈mY listed recs->False:=λr hr=>by
    have h1:=hno r hr
    have h2:r∈iw ops recs c:=by simp[iw,(dV.1 hr).1,h1]
    rw[hN] at h2;cases h2
   refine ⟨λk=>?_,λk=>?_⟩
   ·cases q:mS listed recs k with
    | false=>rfl
    | true=>obtain ⟨r,hr,_⟩:=jq.1 q;exact (hp r hr).elim
   ·cases q:mF listed recs k with
    | false=>rfl
    | true=>obtain ⟨r,hr,_⟩:=ln.1 q;exact (hp r hr).elim) (λt ht=>hum t (tg ht)) hdm (λk hkk=>by
   cases q:mS listed recs k with
   | false=>rfl
   | true=>
    obtain ⟨r,h1,h2⟩:=jq.1 q
    exact absurd h2 (hk r (hfl r h1) k hkk))
  refine qS ho (qR hw hum) hF (hst g a w K hR hF λg' fr' σ' a' w' hq hR' hF'=>?_)
  obtain ⟨fr0,σ0,⟨hst2,hn⟩,hch,rfl,rfl⟩:=hq
  refine hK g' fr0 σ0 a' w' hn (hinv fr0 σ0 ks hch (λr hr k hkk=>hk r (hfl r hr) k hkk) λr hr=>hst2 r (hfl r hr)) ?_ ?_
  ·rw[hmSe];exact hR'
  ·rw[hmFe];exact hF'
theorem DU {listed:Array Bool} {i:Nat} {o:Oper} (ho:ops[i]?=some o) (hr:∀ e,e∈o.after.toList->Region.binds .any e=true->rC listed e.on=true) :
  ∀ (L:List Nat) (recs:List Rec) (fr:eQ) (σ:cl) (g:Gh) (a:Act) (w:World),i∈L->strict ops L=true->Inv P E n ops listed L recs fr σ->DW P E n ops Q L recs fr σ->Rel E g (eZ σ (mS listed recs)) w->
   FR n g (fe fr (mF listed recs)) a->∃ L' recs' fr' σ',strict ops (i::L')=true/\Inv P E n ops listed (i::L') recs' fr' σ'/\DW P E n ops Q (i::L') recs' fr' σ'/\Rel E g (eZ σ' (mS listed recs')) w/\FR n g (fe fr' (mF listed recs')) a
 | [],_,_,_,_,_,_,hi,_,_,_,_,_=>by cases hi
 | c::L,recs,fr,σ,g,a,w,hi,hs,hI,hD,hR,hF=>by
  by_cases q:c=i
  ·subst q;exact ⟨L,recs,fr,σ,hs,hI,hD,hR,hF⟩
  ·have hiL:i∈L:=by
    rcases List.mem_cons.1 hi with h|h
    ·exact absurd h.symm q
    ·exact h
   obtain ⟨oc,hoc,hS⟩:=hD
   have hPP:=hI.vK
   simp only[nE,Bool.and_eq_true] at hPP
   have hpair:rh ops c i=true:=List.all_eq_true.1 hPP.1.2 i hiL
   have hhv:dI oc=false:=by
    cases h:dI oc with
    | false=>rfl
    | true=>
     have h1:oJ ops ops.size i c=true:=by
      rcases (mZ hoc ho hpair).2.2 h with h0|h0
      ·exact vI hs hiL hoc ho h h0
      ·exact h0
     have h2:=qb hI.down _ _ _ o ho hr h1
     rw[(hI.todo c (by simp)).2] at h2;cases h2
   obtain ⟨r,recs',fr',σ',rfl,_,hn,hI',hR',hF'⟩:=walk hI hoc hhv hS hR hF
   exact DU ho hr L _ fr' σ' g a w hiL (kH hs) hI' hn hR' hF'
theorem DY {listed:Array Bool} {L:List Nat} {recs:List Rec} {fr:eQ} {σ:cl} (hI:Inv P E n ops listed L recs fr σ) (hsm:∀ i o,ops[i]?=some o->∀ e,e∈o.after.toList->Region.binds .any e=true->e.on<i)
  (h:Region.ready .any ops listed=[]):∀ i,i<ops.size->rC listed i=true:=by
 intro i
 induction i using Nat.strongRecOn with
 | _ i ih=>
  intro hi
  cases q:rC listed i with
  | true=>rfl
  | false=>
   exfalso
   have:i∈Region.ready .any ops listed:=by
    simp only[Region.ready,List.mem_filter,List.mem_range,Bool.and_eq_true,Bool.not_eq_true']
    refine ⟨hi,?_,?_⟩
    ·have h1:listed.getD i true=listed.getD i false:=by simp[Array.getD,hI.size,hi]
     rw[h1];exact q
    ·rw[Array.getElem?_eq_getElem hi]
     simp only[Option.map_some,Option.getD_some]
     rw[Array.all_eq_true_iff_forall_mem]
     intro e he
     by_cases hb:Region.binds .any e=true
     ·have hlt:=hsm i _ (Array.getElem?_eq_getElem hi) e (by simpa using he) hb
      have:=ih e.on hlt (Nat.lt_trans hlt hi)
      simpa[hb,rC] using this
     ·simp[hb]
   rw[h] at this;cases this
def left (ops:Array Oper) (listed:Array Bool):Nat:=(List.range ops.size).countP λi=>!rC listed i
theorem BJ {listed:Array Bool} {i:Nat} (hs:listed.size=ops.size) (hi:i<ops.size) (hr:rC listed i=false):left ops (listed.setIfInBounds i true)<left ops listed:=by
 have key:∀ l:List Nat,l.countP (λk=>!rC (listed.setIfInBounds i true) k)<=l.countP (λk=>!rC listed k)/\
   (i∈l->l.countP (λk=>!rC (listed.setIfInBounds i true) k)<l.countP (λk=>!rC listed k)):=by
  intro l
  induction l with
  | nil=>simp
  | cons k l ih=>
   have hk:rC (listed.setIfInBounds i true) k=(decide (k=i)||rC listed k):=pF (by rw[hs];exact hi)
   simp only[List.countP_cons,hk]
   by_cases q:k=i
   ·subst q
    simp only[decide_true,Bool.true_or,hr,Bool.not_true,Bool.not_false,if_true,Bool.false_eq_true,if_false]
    exact ⟨by omega,λ_=>by omega⟩
   ·simp only[q,decide_false,Bool.false_or]
    refine ⟨by omega,λh=>?_⟩
    rcases List.mem_cons.1 h with h|h
    ·exact absurd h.symm q
    ·have:=ih.2 h;omega
 exact (key _).2 (by simpa using hi)
theorem BK (hsm:∀ i o,ops[i]?=some o->∀ e,e∈o.after.toList->Region.binds .any e=true->e.on<i) :
  ∀ (fuel:Nat) (listed:Array Bool) (L:List Nat) (recs:List Rec) (fr:eQ) (σ:cl) (g:Gh) (a:Act) (w:World),left ops listed<=fuel->strict ops L=true->Inv P E n ops listed L recs fr σ->DW P E n ops Q L recs fr σ->
   Rel E g (eZ σ (mS listed recs)) w->FR n g (fe fr (mF listed recs)) a->wpAny P .any ops (LQ E n Q) fuel listed a w:=by
 intro fuel
 have fin:∀ (listed:Array Bool) (L:List Nat) (recs:List Rec) (fr:eQ) (σ:cl) (g:Gh) (a:Act) (w:World),Inv P E n ops listed L recs fr σ->DW P E n ops Q L recs fr σ->
   Rel E g (eZ σ (mS listed recs)) w->FR n g (fe fr (mF listed recs)) a->(∀ i,i<ops.size->rC listed i=true)->LQ E n Q .normal a w:=by
  intro listed L recs fr σ g a w hI hD hR hF hall
  have hL:L=[]:=by
   cases L with
   | nil=>rfl
   | cons c L=>
    have:=hI.todo c (by simp)
    rw[hall c this.1] at this;cases this.2
  subst hL
  have hp:∀ r,r ∉ mY listed recs:=λr hr=>by
   obtain ⟨h1,h2⟩:=dV.1 hr
   obtain ⟨_,or,hor,_⟩:=hI.jr r h1
   have:r.i<ops.size:=by
    rcases Nat.lt_or_ge r.i ops.size with q|q
    ·exact q
    ·rw[Array.getElem?_eq_none q] at hor;cases hor
   rw[hall r.i this] at h2;cases h2
  have h1:mF listed recs=λ_=>false:=by
   funext k
   cases q:mF listed recs k with
   | false=>rfl
   | true=>obtain ⟨r,hr,_⟩:=ln.1 q;exact absurd hr (hp r)
  have h2:mS listed recs=λ_=>false:=by
   funext k
   cases q:mS listed recs k with
   | false=>rfl
   | true=>obtain ⟨r,hr,_⟩:=jq.1 q;exact absurd hr (hp r)
  have h3:fe fr (λ_=>false)=fr:=by simp[fe]
  have h4:eZ σ (λ_=>false)=σ:=by funext k;simp[eZ]
  rw[h2,h4] at hR
  rw[h1,h3] at hF
  exact ⟨g,.normal,fr,σ,hD,.normal,hR,hF⟩
 induction fuel with
 | zero=>
  intro listed L recs fr σ g a w hfu hs hI hD hR hF
  have hall:∀ i,i<ops.size->rC listed i=true:=λi hi=>by
   have:left ops listed=0:=by omega
   unfold left at this
   rw[List.countP_eq_zero] at this
   simpa using this i (by simpa using hi)
  refine ⟨?_,fin listed L recs fr σ g a w hI hD hR hF hall⟩
  cases q:Region.ready .any ops listed with
  | nil=>rfl
  | cons i l=>
   exfalso
   have hi:i∈Region.ready .any ops listed:=by rw[q];simp
   obtain ⟨h1,h2,_⟩:=uy hI.size hi
   rw[hall i h1] at h2;cases h2
 | succ fuel ih=>
  intro listed L recs fr σ g a w hfu hs hI hD hR hF
  refine ⟨λhnil=>fin listed L recs fr σ g a w hI hD hR hF (DY hI hsm hnil),λi hi=>?_⟩
  obtain ⟨h1,h2,o,ho,hr⟩:=uy hI.size hi
  have hlf:left ops (listed.setIfInBounds i true)<=fuel:=by have:=BJ hI.size h1 h2;omega
  have hpend:∀ L recs fr σ g a w,strict ops L=true->(∃ r,r∈mY listed recs/\r.i=i)->Inv P E n ops listed L recs fr σ->DW P E n ops Q L recs fr σ->Rel E g (eZ σ (mS listed recs)) w->FR n g (fe fr (mF listed recs)) a->
    wpOp P ops (LQ E n Q) i (wpAny P .any ops (LQ E n Q) fuel (listed.setIfInBounds i true)) a w:=by
   rintro L recs fr σ g a w hs ⟨r,hrp,hri⟩ hI hD hR hF
   exact BI hI ho hr hrp hri hR hF λg' a' w' hI' hR' hF'=>ih _ L recs fr σ g' a' w' hlf hs hI' hD hR' hF'
  by_cases hiL:i∈L
  ·obtain ⟨L',recs',fr',σ',hs',hI',hD',hR',hF'⟩:=DU ho hr L recs fr σ g a w hiL hs hI hD hR hF
   obtain ⟨oc,hoc,hS⟩:=hD'
   rw[ho] at hoc;cases hoc
   cases hh:dI o with
   | true=>
    exact vL hI' ho hh hr hS hR' hF' λg2 fr2 σ2 a2 w2 hn hI2 hR2 hF2=>ih _ L' recs' fr2 σ2 g2 a2 w2 hlf (kH hs') hI2 hn hR2 hF2
   | false=>
    obtain ⟨r,recs2,fr2,σ2,rfl,hri,hn,hI2,hR2,hF2⟩:=walk hI' ho hh hS hR' hF'
    exact hpend L' _ fr2 σ2 g a w (kH hs') ⟨r,dV.2 ⟨by simp,by rw[hri];exact h2⟩,hri⟩ hI2 hn hR2 hF2
  ·obtain ⟨hd1,hd2⟩:=hI.done i o ho hiL
   cases hh:dI o with
   | true=>rw[hd1 hh] at h2;cases h2
   | false=>
    obtain ⟨r,hrr,hri⟩:=hd2 hh
    exact hpend L recs fr σ g a w hs ⟨r,dV.2 ⟨hrr,by rw[hri];exact h2⟩,hri⟩ hI hD hR hF
theorem It {id:Nat} {fr:eQ} {σ:cl} (L:List Nat) (hm:P.follows .mixedOrders=true) (hchk:Mm ops L=true) (h:DW P E n ops Q L [] fr σ):SW P E n (.region id ops true) Q fr σ:=by
 intro g a w hR hF;simp only[Mm,Bool.and_eq_true,List.all_eq_true,decide_eq_true_eq] at hchk;obtain ⟨⟨⟨⟨⟨hself,hall⟩,hin⟩,hpairs⟩,hstr⟩,_⟩:=hchk;have hsm:∀ i o,ops[i]?=some o->∀ e,e∈o.after.toList->Region.binds .any e=true->e.on<i:=λi o ho e he hb=>by
  have hi:i<ops.size:=by
   rcases Nat.lt_or_ge i ops.size with q|q
   ·exact q
   rw[Array.getElem?_eq_none q] at ho;cases ho
  have h1:=hself i (by simpa using hall i (by simpa using hi));simp only[uw,ho,Bool.and_eq_true,List.all_eq_true] at h1;have:=h1.1 e he;simpa[hb] using this
 have hnone:∀ i,rC (Array.replicate ops.size false) i=false:=λi=>by
  simp only[rC,Array.getD_eq_getD_getElem?];rcases Nat.lt_or_ge i ops.size with q|q
  ·simp[q]
  rw[Array.getElem?_eq_none (by simpa using q)];rfl
 have hI:Inv P E n ops (Array.replicate ops.size false) L [] fr σ:=
  Inv.mk (by simp) (λi hi=>⟨by simpa using hin i hi,hnone i⟩) (λi o ho hi=>by
    exfalso
    have hlt:i<ops.size:=by
     rcases Nat.lt_or_ge i ops.size with q|q
     ·exact q
     ·rw[Array.getElem?_eq_none q] at ho;cases ho
    exact hi (by simpa using hall i (by simpa using hlt))) (λr hr=>by cases hr) hself (λr _ hr=>by cases hr) (λr _ _ hr=>by cases hr) (λr _ hr=>by cases hr)
   (λi j hi hiL hj=>absurd (by simpa using hall i (by simpa using hi)) hiL) hpairs (λi o _ h=>by rw[hnone i] at h;cases h) (λr hr=>by cases hr) (λr hr=>by cases hr)
   (λr hr=>by cases hr) (λr hr=>by cases hr) (λr hr=>by cases hr) (λr _ hr=>by cases hr)
 have h1:mF (Array.replicate ops.size false) []=λ_=>false:=rfl;have h2:mS (Array.replicate ops.size false) []=λ_=>false:=rfl;have h3:fe fr (λ_=>false)=fr:=by simp[fe]
 have h4:eZ σ (λ_=>false)=σ:=by funext k;simp[eZ]
 refine wp_region_any hm (BK hsm ops.size _ L [] fr σ g a _ ?_ hstr hI h ?_ ?_)
 ·exact Nat.le_trans (List.countP_le_length) (by simp)
 ·rw[h2,h4];exact hR.drew
 rw[h1,h3];exact hF
end
end Go.Abs
end
section
namespace Go.Abs
def jo:List (Nat×AV)->Nat->Option AV
 | [],_=>none
 | (j,v)::l,i=>match Nat.beq i j with
  | true=>some v
  | false=>jo l i
def dq:List (Nat×bh)->Nat->Option bh
 | [],_=>none
 | (j,v)::l,i=>match Nat.beq i j with
  | true=>some v
  | false=>dq l i
def bj (l:List (Nat×AV)):Operand->Option AV
 | .tmp t=>jo l t
 | .const v=>some (Sc v)
 | .global _=>some .any
 | .func f=>some (.fn f [] [])
theorem ff:∀ {l:List (Nat×AV)} {i:Nat} {v:AV},jo l i=some v->lV l i=v
 | [],_,_,h=>by simp[jo] at h
 | (j,w)::l,i,v,h=>by
  simp only[jo] at h;split at h
  ·rename_i q;cases h;have:=Nat.eq_of_beq_eq_true q;simp[lV,this]
  rename_i q;have hn:i≠j:=λe=>by subst e;simp at q
  simp[lV,hn,ff h]
theorem bW:∀ {l:List (Nat×bh)} {i:Nat} {v:bh},dq l i=some v->bn l i=some v
 | [],_,_,h=>by simp[dq] at h
 | (j,w)::l,i,v,h=>by
  simp only[dq] at h;split at h
  ·rename_i q;cases h;have:=Nat.eq_of_beq_eq_true q;simp[bn,lI,this]
  rename_i q;have hn:i≠j:=λe=>by subst e;simp at q
  have:=bW h;simp only[bn] at this;simp[bn,lI,hn,this]
theorem N {l:List (Nat×AV)} {ds:List (FuncId×List AV)} {x:Operand} {v:AV} (h:bj l x=some v):(bL l ds).val x=v:=by
 cases x with
 | tmp t=>exact ff h
 | const c=>simpa[bj,eQ.val] using h
 | global k=>simpa[bj,eQ.val] using h
 | func f=>simpa[bj,eQ.val] using h
class nA (P:Program) (t:TypeId) (n:outParam Nat):Prop where h:yI P t=some n
class je (P:Program) (t:TypeId) (b:outParam Bool):Prop where h:p7 P t=some b
class T (P:Program) (s:TypeId) (f:Nat) (d:outParam Nat):Prop where h:Lp P s f=some d
class CX (P:Program) (t:TypeId) (e:outParam TypeId) (sz:outParam Nat):Prop where h:Lq P t=some (e,sz)
class F0 (P:Program) (t:TypeId) (k:outParam Nat) (sz:outParam Nat):Prop where h:FG P t=some (k,sz)
class kI (P:Program) (t:TypeId) (d:outParam TypeDesc):Prop where h:P.underlying t=some d
class lx (P:Program) (t:TypeId) (z:outParam (List Value)):Prop where h:FH P t=some z
class iZ (P:Program) (t:TypeId) (z:outParam (List Value)) (pl:outParam (List (Nat×Nat))):Prop where h:wV P t=some (z,pl)
class ku (P:Program) (t:TypeId) (n:Nat) (e sz:outParam Nat) (zs:outParam (List Value)) (pl:outParam (List (Nat×Nat))):Prop where h:zS P t n=some (e,sz,zs,pl)
class fg (P:Program) (t:TypeId) (sz b:outParam Nat):Prop where h:r8 P t=some (sz,b)
structure iy (P:Program) (op:Op) (l:List (Nat×AV)) (ds:List (FuncId×List AV)) (s:List (Nat×bh)) (v:AV) (rd:List (Nat×bh)):Prop where
 h:fD P op (bL l ds) rd v
 r:∀ p,p∈rd->Kf (bn s) p
section
variable {P:Program} {l:List (Nat×AV)} {ds:List (FuncId×List AV)} {s:List (Nat×bh)}
theorem iy.of {op:Op} {v:AV} (h:fD P op (bL l ds) [] v):iy P op l ds s v []:=⟨h,λp hp=>by cases hp⟩
theorem iy.on {op:Op} {v:AV} {k:Nat} {e:bh} (hk:dq s k=some e) (h:fD P op (bL l ds) [(k,e)] v):iy P op l ds s v [(k,e)]:=
 ⟨h,λp hp=>by simp at hp;subst hp;exact ⟨_,bW hk,bh.le_refl _⟩⟩
theorem aK {x:Operand} {v:AV} (hx:bj l x=some v):iy P (.move x) l ds s v []:=.of (N (ds:=ds) hx▸Ij x)
theorem rD {x:Operand} {v:AV} (hx:bj l x=some v):iy P (.assign x) l ds s v []:=.of (N (ds:=ds) hx▸vC x)
theorem tP {c a b:Operand} {v:AV} (hc:bj l c=some (Bo true)) (ha:bj l a=some v):iy P (.pick c a b) l ds s v []:=
 .of (by have:=DH (P:=P) (a:=a) (b:=b) (N (ds:=ds) hc);rw[if_pos rfl,N ha] at this;exact this)
theorem jN {c a b:Operand} {v:AV} (hc:bj l c=some (Bo false)) (hb:bj l b=some v):iy P (.pick c a b) l ds s v []:=
 .of (by have:=DH (P:=P) (a:=a) (b:=b) (N (ds:=ds) hc);rw[if_neg (by simp),N hb] at this;exact this)
theorem eH {x:Operand} {k off:Nat} (hx:bj l x=some (.ptr k off)):iy P (.nilCheck x) l ds s (.ptr k off) []:=.of (wI (N hx))
theorem xu {x:Operand} {c:List PV} (hx:bj l x=some (.sp c)):iy P (.nilCheck x) l ds s (.sp c) []:=.of (xe (N hx))
theorem xv {x:Operand} {f:FuncId} {a b:List AV} (hx:bj l x=some (.fn f a b)):iy P (.nilCheck x) l ds s (.fn f a b) []:=.of (xf (N hx))
theorem fa {t:TypeId} {x:Operand} {f d k off:Nat} [hf:T P t f d] (hx:bj l x=some (.ptr k off)):iy P (.fieldAddr t x f) l ds s (.ptr k (off+d)) []:=.of (Au hf.h (N hx))
theorem nG {t:TypeId} {x:Operand} {f d:Nat} {c:List PV} [hf:T P t f d] (hx:bj l x=some (.sp c)) (hd:Nat.ble d c.length=true):iy P (.fieldAddr t x f) l ds s (.sp (c.drop d)) []:=
 .of (wJ hf.h (N hx) (Nat.le_of_ble_eq_true hd))
theorem dZ {t:TypeId} {x:Operand} {k off:Nat} {e:bh} {v:AV} [ha:je P t false] (hx:bj l x=some (.ptr k off)) (hk:dq s k=some e) (hv:e.cells[off]?=some v) :
 iy P (.load t x) l ds s v [(k,e)]:=.on hk (s5 ha.h (N hx) hv)
theorem lM {t:TypeId} {x:Operand} {k off n:Nat} {e:bh} {cs:List AV} [ha:je P t true] [hz:nA P t n] (hx:bj l x=some (.ptr k off)) (hk:dq s k=some e)
  (hn:Nat.ble (off+n) e.cells.length=true) (hc:(e.cells.drop off).take n=cs):iy P (.load t x) l ds s (.agg cs) [(k,e)]:=
 .on hk (hc▸By hz.h ha.h (N hx) (Nat.le_of_ble_eq_true hn))
theorem k1 {t:TypeId} {x:Operand} {c:List PV} {p:PV} [ha:je P t false] (hx:bj l x=some (.sp c)) (hv:c[0]?=some p):iy P (.load t x) l ds s (.pv p) []:=
 .of (xh ha.h (N hx) hv)
theorem qc {t:TypeId} {x:Operand} {n:Nat} {c:List PV} [ha:je P t true] [hz:nA P t n] (hx:bj l x=some (.sp c)) (hn:Nat.ble n c.length=true) :
 iy P (.load t x) l ds s (.agg ((c.take n).map .pv)) []:=.of (xg hz.h ha.h (N hx) (Nat.le_of_ble_eq_true hn))
theorem iX {t:TypeId} {x:Operand} {b:Bool} (hx:bj l x=some (Bo b)):iy P (.unOp .not t x) l ds s (Bo (!b)) []:=.of (Km (N hx))
theorem dT {op:BinOp} {xt yt:TypeId} {x y:Operand} {k:IntKind} {a b:Int} {r:Bool} (hx:bj l x=some (Sc (.int k a))) (hy:bj l y=some (Sc (.int k b))) (hr:Ik op a b=some r) :
 iy P (.binOp op xt x y yt) l ds s (Bo r) []:=.of (Il (N hx) (N hy) hr)
theorem qT {xt yt:TypeId} {x y:Operand} {a b:ByS} (hx:bj l x=some (aZ a)) (hy:bj l y=some (aZ b)):iy P (.binOp .eql xt x y yt) l ds s (Bo (a==b)) []:=
 .of (Ki (N hx) (N hy))
theorem zZ {xt yt:TypeId} {x y:Operand} {a b:ByS} (hx:bj l x=some (aZ a)) (hy:bj l y=some (aZ b)):iy P (.binOp .neq xt x y yt) l ds s (Bo (a !=b)) []:=
 .of (Kj (N hx) (N hy))
theorem ns {x:Operand} {i:Nat} {vs:List AV} {v:AV} (hx:bj l x=some (.gZ vs)) (hv:vs[i]?=some v):iy P (.extract x i) l ds s v []:=.of (C2 (N hx) hv)
end
section
variable {P:Program} {l:List (Nat×AV)} {ds:List (FuncId×List AV)} {s:List (Nat×bh)}
theorem ti {xt yt:TypeId} {x y:Operand} {a b:Int} (hx:bj l x=some (I a)) (hy:bj l y=some (I b)) (h:-9223372036854775808<=a+b/\a+b<=9223372036854775807) :
 iy P (.binOp .add xt x y yt) l ds s (I (a+b)) []:=.of (Kg (N hx) (N hy) h)
theorem uU {xt yt:TypeId} {x y:Operand} {a b:Int} (hx:bj l x=some (I a)) (hy:bj l y=some (I b)) (h:-9223372036854775808<=a - b/\a - b<=9223372036854775807) :
 iy P (.binOp .sub xt x y yt) l ds s (I (a - b)) []:=.of (Kh (N hx) (N hy) h)
theorem sa {xt yt:TypeId} {x y:Operand} {a b:ByS} (hx:bj l x=some (aZ a)) (hy:bj l y=some (aZ b)) (h:a.length+b.length<=9223372036854775807) :
 iy P (.binOp .add xt x y yt) l ds s (aZ (a++b)) []:=.of (Io (N hx) (N hy) h)
theorem Iu {t e:TypeId} {sz m:Nat} {cells c':List PV} {x ix:Operand} {k:IntKind} {i:Int} [ht:CX P t e sz] (hx:bj l x=some (.pv (.sl m cells))) (hi:bj l ix=some (Sc (.int k i)))
  (h0:0<=i) (h1:i<m) (h2:i.toNat*sz<=cells.length) (hc:cells.drop (i.toNat*sz)=c'):iy P (.indexAddr t x ix) l ds s (.sp c') []:=
 .of (hc▸wL ht.h (N hx) (N hi) h0 h1 h2)
theorem oK {t e:TypeId} {sz m kk:Nat} {x ix:Operand} {k:IntKind} {i:Int} [ht:CX P t e sz] (hx:bj l x=some (.arr kk m)) (hi:bj l ix=some (Sc (.int k i))) (h0:0<=i) (h1:i<m) :
 iy P (.indexAddr t x ix) l ds s (.ptr kk (i.toNat*sz)) []:=.of (vD ht.h (N hx) (N hi) h0 h1)
theorem BL {t:TypeId} {sz m kk off:Nat} {x ix:Operand} {k:IntKind} {i:Int} [ht:F0 P t m sz] (hx:bj l x=some (.ptr kk off)) (hi:bj l ix=some (Sc (.int k i))) (h0:0<=i) (h1:i<m) :
 iy P (.indexAddr t x ix) l ds s (.ptr kk (off+i.toNat*sz)) []:=.of (vE ht.h (N hx) (N hi) h0 h1)
theorem gi {t:TypeId} {x ix:Operand} {k:IntKind} {i:Int} {c:ByS} {b:UInt8} [ht:kI P t .string] (hx:bj l x=some (aZ c)) (hi:bj l ix=some (Sc (.int k i))) (h0:0<=i)
 (hb:c[i.toNat]?=some b):iy P (.index t x ix) l ds s (Sc (.int .u8 b.toNat)) []:=.of (EK ht.h (N hx) (N hi) h0 hb)
theorem JY {t:TypeId} {x lo hi:Operand} {k k':IntKind} {i j:Int} {c:ByS} [ht:kI P t .string] (hx:bj l x=some (aZ c)) (hl:bj l lo=some (Sc (.int k i))) (hh:bj l hi=some (Sc (.int k' j)))
  (h0:0<=i) (h1:i<=j) (h2:j<=c.length):iy P (.slice t x (some lo) (some hi) none) l ds s (aZ ((c.drop i.toNat).take (j.toNat - i.toNat))) []:=
 .of (EL ht.h (N hx) (N hl) (N hh) h0 h1 h2)
theorem mr {t:TypeId} {x lo:Operand} {k:IntKind} {i:Int} {c:ByS} [ht:kI P t .string] (hx:bj l x=some (aZ c)) (hl:bj l lo=some (Sc (.int k i)))
 (h0:0<=i) (h2:i<=c.length):iy P (.slice t x (some lo) none none) l ds s (aZ (c.drop i.toNat)) []:=.of (Ax ht.h (N hx) (N hl) h0 h2)
theorem DZ {t:TypeId} {x hi:Operand} {k:IntKind} {j:Int} {c:ByS} [ht:kI P t .string] (hx:bj l x=some (aZ c)) (hh:bj l hi=some (Sc (.int k j)))
 (h0:0<=j) (h2:j<=c.length):iy P (.slice t x none (some hi) none) l ds s (aZ (c.take j.toNat)) []:=.of (Ay ht.h (N hx) (N hh) h0 h2)
theorem gj {t:TypeId} {x:Operand} {c:ByS} [ht:kI P t .string] (hx:bj l x=some (aZ c)):iy P (.call ⟨.builtin .len,#[x],#[t]⟩) l ds s (I c.length) []:=.of (Ip ht.h (N hx))
theorem ko {t e:TypeId} {x:Operand} {m sz:Nat} {c:List PV} [ht:CX P t e sz] (hx:bj l x=some (.pv (.sl m c))):iy P (.call ⟨.builtin .len,#[x],#[t]⟩) l ds s (I m) []:=
 .of (FO (wU ht.h).1 (N hx))
theorem oL {t e:TypeId} {x:Operand} {k m sz:Nat} [ht:CX P t e sz] (hx:bj l x=some (.arr k m)):iy P (.call ⟨.builtin .len,#[x],#[t]⟩) l ds s (I m) []:=
 .of (EM (wU ht.h).1 (N hx))
theorem tj {t e:TypeId} {x:Operand} {m sz:Nat} [ht:CX P t e sz] (hx:bj l x=some (Sc (.slice none 0 m))):iy P (.call ⟨.builtin .len,#[x],#[t]⟩) l ds s (I 0) []:=
 .of (EN (wU ht.h).1 (N hx))
theorem BM {ts:Array TypeId} {x y:Operand} {k:IntKind} {a b:Int} (hx:bj l x=some (Sc (.int k a))) (hy:bj l y=some (Sc (.int k b))) :
 iy P (.call ⟨.builtin .min,#[x,y],ts⟩) l ds s (Sc (.int k (if b<a then b else a))) []:=.of (Kn (N hx) (N hy))
theorem BN {ts:Array TypeId} {x y:Operand} {k:IntKind} {a b:Int} (hx:bj l x=some (Sc (.int k a))) (hy:bj l y=some (Sc (.int k b))) :
 iy P (.call ⟨.builtin .max,#[x,y],ts⟩) l ds s (Sc (.int k (if b>a then b else a))) []:=.of (Ko (N hx) (N hy))
theorem cj {t:TypeId} {parts:List (Nat×Operand)} {z:List Value} {pl:List (Nat×Nat)} {pv:List (Nat×AV)} {out:List AV} [ht:iZ P t z pl]
  (hp:parts.mapM (λp=>(bj l p.2).map λv=>(p.1,v))=some pv) (h:lU pl (z.map λv=>.pv (.sc v)) pv=some out):iy P (.build t parts.toArray) l ds s (.agg out) []:=by
 refine .of (FQ ht.h ?_)
 have key:∀ (ps:List (Nat×Operand)) (pv:List (Nat×AV)),ps.mapM (λp=>(bj l p.2).map λv=>(p.1,v))=some pv->(ps.map λp=>(p.1,(bL l ds).val p.2))=pv:=by
  intro ps
  induction ps with
  | nil=>intro pv h;simp at h;simp[h]
  | cons p ps ih=>
   intro pv h
   rw[List.mapM_cons] at h
   cases hv:bj l p.2 with
   | none=>simp[hv] at h
   | some v=>
    cases hr:ps.mapM (λp=>(bj l p.2).map λv=>(p.1,v)) with
    | none=>simp[hv,hr] at h
    | some r=>
     simp[hv,hr] at h
     subst h
     simp[ih r hr,N (ds:=ds) hv]
 rw[key parts pv hp];exact h
theorem uV {xt yt el:TypeId} {x y:Operand} {k off:Nat} [ht:kI P xt (.pointer el)] (hx:bj l x=some (.ptr k off)) (hy:bj l y=some (Sc (.pointer none))):iy P (.binOp .eql xt x y yt) l ds s (Bo false) []:=
 .of (FK ht.h (N hx) (N hy))
theorem uW {xt yt el:TypeId} {x y:Operand} [ht:kI P xt (.pointer el)] (hx:bj l x=some (Sc (.pointer none))) (hy:bj l y=some (Sc (.pointer none))):iy P (.binOp .eql xt x y yt) l ds s (Bo true) []:=
 .of (FM ht.h (N hx) (N hy))
theorem uX {xt yt el:TypeId} {x y:Operand} {k off:Nat} [ht:kI P xt (.pointer el)] (hx:bj l x=some (.ptr k off)) (hy:bj l y=some (Sc (.pointer none))):iy P (.binOp .neq xt x y yt) l ds s (Bo true) []:=
 .of (FL ht.h (N hx) (N hy))
theorem uY {xt yt el:TypeId} {x y:Operand} [ht:kI P xt (.pointer el)] (hx:bj l x=some (Sc (.pointer none))) (hy:bj l y=some (Sc (.pointer none))):iy P (.binOp .neq xt x y yt) l ds s (Bo false) []:=
 .of (FN ht.h (N hx) (N hy))
theorem BO {xt yt:TypeId} {x y:Operand} {a b:Bool} [ht:kI P xt .bool] (hx:bj l x=some (Bo a)) (hy:bj l y=some (Bo b)):iy P (.binOp .eql xt x y yt) l ds s (Bo (a==b)) []:=
 .of (Kk ht.h (N hx) (N hy))
theorem BP {xt yt:TypeId} {x y:Operand} {a b:Bool} [ht:kI P xt .bool] (hx:bj l x=some (Bo a)) (hy:bj l y=some (Bo b)):iy P (.binOp .neq xt x y yt) l ds s (Bo (a !=b)) []:=
 .of (Kl ht.h (N hx) (N hy))
end
section
variable {P:Program} {E:Env} {n:Nat} {ops:Array Oper} {Q:dU} {rest:List Oper} {l:List (Nat×AV)} {ds:List (FuncId×List AV)} {s:List (Nat×bh)}
theorem aB {d:Nat} {op:Op} {ty:TypeId} {pos:String} {af:Array Edge} {v:AV} {rd:List (Nat×bh)}
  (h:iy P op l ds s v rd) (hd:Nat.blt d n=true) (hn:SL P E n ops Q rest (bL ((d,v)::l) ds) (bn s)):SL P E n ops Q (⟨some d,op,ty,pos,af,none⟩::rest) (bL l ds) (bn s):=
 kG rfl (AE h.h h.r (λx hx=>by cases hx;simpa[Nat.blt_eq] using hd) hn)
theorem Kt {d j g:Nat} {op:Op} {ty:TypeId} {pos:String} {af:Array Edge} {v:AV} {rd:List (Nat×bh)} {want:Bool}
  (hj:(ops[j]?).bind (·.dst)=some g/\jo l g=some (Bo want))
  (h:iy P op l ds s v rd) (hd:Nat.blt d n=true) (hn:SL P E n ops Q rest (bL ((d,v)::l) ds) (bn s)):SL P E n ops Q (⟨some d,op,ty,pos,af,some (j,want)⟩::rest) (bL l ds) (bn s):=
 uQ rfl hj.1 (ff hj.2) (λx hx=>by cases hx;simpa[Nat.blt_eq] using hd) (λ_=>AE h.h h.r (λx hx=>by cases hx;simpa[Nat.blt_eq] using hd) hn) (λq=>absurd rfl q)
theorem Lx {d j g:Nat} {op:Op} {ty:TypeId} {pos:String} {af:Array Edge} {want b:Bool}
  (h:(ops[j]?).bind (·.dst)=some g/\jo l g=some (Bo b)/\(b==want)=false)
  (hd:Nat.blt d n=true) (hn:SL P E n ops Q rest (bL ((d,Sc undef)::l) ds) (bn s)):SL P E n ops Q (⟨some d,op,ty,pos,af,some (j,want)⟩::rest) (bL l ds) (bn s):=
 uQ rfl h.1 (ff h.2.1) (λx hx=>by cases hx;simpa[Nat.blt_eq] using hd) (λq=>by have:=h.2.2;subst q;simp at this) (λ_=>hn)
theorem Ly {d j g:Nat} {op:Op} {ty:TypeId} {pos:String} {af:Array Edge} {want:Bool} (h:(ops[j]?).bind (·.dst)=some g/\jo l g=some (Sc undef))
  (hd:Nat.blt d n=true) (hn:SL P E n ops Q rest (bL ((d,Sc undef)::l) ds) (bn s)):SL P E n ops Q (⟨some d,op,ty,pos,af,some (j,want)⟩::rest) (bL l ds) (bn s):=
 Kq rfl h.1 (ff h.2) (by simp[undef]) (λx hx=>by cases hx;simpa[Nat.blt_eq] using hd) hn
theorem lp {d:Nat} {t:TypeId} {x:Operand} {ty:TypeId} {pos:String} {af:Array Edge} {v:AV} {c:List AV} (nm:Nat) (hE:E.fix nm=none)
  (h:bj l x=some v/\v.fN=some c/\AV.eG.fP nm c=false/\lL nm l=false/\kt nm ds=false/\nC nm s=false/\AV.kF c=true)
  (hd:Nat.blt d n=true) (hn:SL P E n ops Q rest (bL ((d,.ptr nm 0)::l) ds) (bn ((nm,.box c)::s))) :
  SL P E n ops Q (⟨some d,.box t x,ty,pos,af,none⟩::rest) (bL l ds) (bn s):=
 kG rfl (AF (Kp nm (by rw[N h.1];exact h.2.1) h.2.2.2.2.2.2 h.2.2.1) (hY h.2.2.2.1 h.2.2.2.2.1) (kY h.2.2.2.2.2.1) hE (λx hx=>by cases hx;simpa[Nat.blt_eq] using hd) hn)
end
end Go.Abs
end
