/- PROVED: lemmas of a proof that ParserParens returns true. CONDITIONS: as each states. -/
import Derived.Test.YtkhjeiaafiodeaaGreatDoorF5
section
namespace Go.Abs
open D
section
variable {C:Cx} {n:Nat} {a:Int} {k j:Bool}
theorem Db (ih:GL n) (hC:C.kW) (h0:0≤a) {t0:au} (ht0:C.T[a.toNat]?=some t0) (hk0:t0.Kind=3∨t0.Kind=1) {d d':o} (hd:DD d d'):RN (VF C k a) C k a (fun p=>cZ (n+1) j p d) (fun p=>cZ (n+1) j p d'):=by
 unfold RN
 show RS NZ _ (fa n (ai n) j _ d) (fa n (ai n) j _ d')
 unfold fa
 have hx:=hd.x
 rw[hx.a,hx.b,hx.tl,hx.ld,hx.tr]
 refine fZ hC fun a2 t t' h2 ht hs e2=>?_
 have e2:=e2.2 t0 ht0 (fun _=>by omega)
 subst e2
 rw[ht0] at ht;cases ht
 have hs:=hs.s (by omega)
 dsimp only
 rw[hs.2,nx]
 refine RS.gd fun _ _=>RS.jn (fun v w=>Rl C k a2 v.1 w.1∧DD v.2 w.2) (fun v w h=>?_) (fun j0 j0' hj=>?_)
 ·obtain ⟨p,e⟩:=v
  obtain ⟨p',e'⟩:=w
  obtain ⟨⟨a3,g1,g2,h3⟩,he⟩:=h
  dsimp only at g1 g2 he;subst g1 g2;dsimp only
  have hx:=he.x
  refine js hC fun a4 t h4 _ _=>jP (ih.g.expr hC (by omega) .none) fun x x' a5 h5 hx5=>?_
  dsimp only
  rw[hx.k,hx.p,hx.t,hx.a,hx.b,hx.tl,hx.ld,hx.tr]
  exact RS.ok ⟨.mk (by omega),.of (.one hx5) hx.d⟩
 ·refine kx hC (fun a4 t h4 _ _=>?_) (fun a4 h4=>?_)
  ·exact RS.br rfl (fun _=>hj _ _ ⟨.mk (by omega),.of hx.s hx.d⟩) (fun h=>by cases h)
  ·dsimp only
   refine RS.br rfl (fun h=>by cases h) (fun _=>kx hC (fun a5 t h5 _ _=>?_) (fun a5 h5=>?_))
   ·exact RS.br rfl (fun _=>hj _ _ ⟨.mk (by omega),.of hx.s hx.d⟩) (fun h=>by cases h)
   ·exact RS.br rfl (fun h=>by cases h) (fun _=>hj _ _ ⟨.mk (by omega),.of hx.s hx.d⟩)
theorem Ad (ih:GL n) (hC:C.kW) (h0:0≤a) {d d':o} (hd:DD d d'):RN (VF C k a) C k a (fun p=>cF (n+1) j p d) (fun p=>cF (n+1) j p d'):=by
 unfold RN
 show RS NZ _ (eE n (ai n) j _ d) (eE n (ai n) j _ d')
 unfold eE
 have hx:=hd.x
 rw[hx.p,hx.a,hx.b,hx.tl,hx.ld,hx.tr]
 refine js hC fun a2 t h2 _ _=>Bv hC (by omega) (.of hx.s hx.d) fun a3 e e' h3 he=>?_
 dsimp only
 have hx:=he.x
 rw[nx]
 refine RS.gd fun _ _=>js hC fun a4 t h4 _ _=>jP (ih.g.expr hC (by omega) .none) fun x x' a5 h5 hx5=>?_
 dsimp only
 rw[hx.k,hx.p,hx.t,hx.a,hx.b,hx.tl,hx.ld,hx.tr]
 exact RS.ok ⟨.mk (by omega),.of (.one hx5) hx.d⟩
theorem Ae (ih:GL n) (hC:C.kW) (h0:0≤a) {d d':o} (hd:DD d d'):RN (VF C k a) C k a (fun p=>cE (n+1) j p d) (fun p=>cE (n+1) j p d'):=by
 unfold RN
 show RS NZ _ (eD n (ai n) j _ d) (eD n (ai n) j _ d')
 unfold eD
 have hx:=hd.x
 rw[hx.p,hx.t,hx.a,hx.b,hx.tl,hx.ld,hx.tr]
 refine jP (ih.g.parens hC h0) fun e e' a2 h2 he=>?_
 dsimp only
 refine fZ hC fun a3 t t' h3 _ hs _=>?_
 dsimp only
 refine ka hs fun r _=>RS.br rfl (fun _=>?_) (fun _=>?_)
 ·refine lz hC fun a5 v v' h5 _=>?_
  dsimp only
  refine ky he fun x x' hx5=>?_
  dsimp only
  rw[nx]
  refine RS.gd fun _ _=>jP (ih.g.expr hC (by omega) .none) fun y y' a6 h6 hy=>?_
  exact RS.ok ⟨.mk (by omega),.of (.two hx5 hy) hx.d⟩
 ·refine jP (ih.g.expr hC (by omega) (.inr ⟨e,e',rfl,rfl,he⟩)) fun y y' a6 h6 hy=>?_
  exact RS.ok ⟨.mk (by omega),.of (.one hy) hx.d⟩
theorem ED (ih:GL n) (hC:C.kW) (h0:0≤a):RN (VD C k a) C k a (cl (n+1) j) (cl (n+1) j):=by
 unfold RN
 show RS NZ _ (fw n (ai n) j _) (fw n (ai n) j _)
 unfold fw
 refine fZ hC fun a2 t t' h2 ht hs hh=>?_
 dsimp only
 refine lz hC fun a5 v v' h5 e5=>?_
 have e5:=e5 t ht hh.1
 subst e5
 dsimp only
 refine lU hC fun u u' hu=>?_
 dsimp only
 refine RS.jn (fun v w=>VF C k a v w) (fun v w h=>RS.ok h) (fun j0 j0' hj=>?_)
 refine RS.jn (fun x y=>y=x∧(x=true→t.Kind=3∨t.Kind=1)) (fun x y h=>?_) (fun j2 j2' hj2=>?_)
 ·obtain ⟨rfl,hx⟩:=h
  refine RS.br rfl (fun h=>?_) (fun _=>?_)
  ·exact CY (P:=DD) (ih.g.field hC (by omega) ht (hx h) (.of .nil .nil)) fun x x' a6 h6 hx=>hj _ _ ⟨.mk (by omega),hx⟩
  refine xC hC fun a6 r h6=>?_
  dsimp only
  refine RS.br rfl (fun _=>?_) (fun _=>?_)
  ·exact CY (P:=DD) (ih.g.pattern hC (by omega) (.of .nil .nil)) fun x x' a6 h6 hx=>hj _ _ ⟨.mk (by omega),hx⟩
  refine ql hs fun r=>RS.br rfl (fun _=>?_) (fun _=>?_)
  ·refine RS.jn (fun p p'=>p=(aY C.s C.T a6 C.b k none)∧p'=(aY C.s' C.T' (a6+C.κ) C.b' k none)) (fun p p' h=>?_) (fun j3 j3' hj3=>?_)
   ·obtain ⟨rfl,rfl⟩:=h
    dsimp only
    rw[nx]
    refine RS.gd fun _ _=>uV hC fun a7 x h7=>?_
    dsimp only
    refine js hC fun a8 t8 h8 _ _=>jP (ih.g.expr hC (by omega) .none) fun x x' a9 h9 hx=>?_
    exact hj _ _ ⟨.mk (by omega),.of (.one hx) .nil⟩
   ·exact RS.br rfl (fun _=>gr) (fun _=>hj3 _ _ ⟨rfl,rfl⟩)
  refine ka hs fun r _=>RS.br rfl (fun _=>?_) (fun _=>?_)
  ·refine RS.jn (fun p p'=>p=(aY C.s C.T a6 C.b k none)∧p'=(aY C.s' C.T' (a6+C.κ) C.b' k none)) (fun p p' h=>?_) (fun j3 j3' hj3=>?_)
   ·obtain ⟨rfl,rfl⟩:=h
    dsimp only
    exact RS.gd fun _ _=>hj _ _ ⟨.mk' (by omega) nx,.of .nil .nil⟩
   ·exact RS.br rfl (fun _=>gr) (fun _=>hj3 _ _ ⟨rfl,rfl⟩)
  rw[nx]
  refine ql hs fun r=>RS.br rfl (fun _=>?_) (fun _=>?_)
  ·refine RS.gd fun _ _=>jP (ih.g.expr hC (by omega) .none) fun x x' a9 h9 hx=>?_
   dsimp only
   refine RS.bind (ih.g.block hC (by omega)) fun r r' h=>?_
   obtain ⟨l,tl,p⟩:=r
   obtain ⟨l',tl',p'⟩:=r'
   obtain ⟨⟨a3,g1,g2,h3⟩,hl,ht⟩:=h
   dsimp only at g1 g2 hl ht;subst g1 g2 ht
   exact hj _ _ ⟨.mk (by omega),.of (.one hx) hl⟩
  refine ql hs fun r=>RS.br rfl (fun _=>?_) (fun _=>?_)
  ·refine RS.gd fun _ _=>yW hC fun a7 nm h7=>?_
   dsimp only
   refine qm hC fun a8 h8=>jP (ih.g.expr hC (by omega) .none) fun x x' a9 h9 hx=>?_
   dsimp only
   refine RS.bind (ih.g.block hC (by omega)) fun r r' h=>?_
   obtain ⟨l,tl,p⟩:=r
   obtain ⟨l',tl',p'⟩:=r'
   obtain ⟨⟨a3,g1,g2,h3⟩,hl,ht⟩:=h
   dsimp only at g1 g2 hl ht;subst g1 g2 ht
   exact hj _ _ ⟨.mk (by omega),.of (.one hx) hl⟩
  refine ka hs fun r _=>RS.br rfl (fun _=>?_) (fun _=>?_)
  ·exact CY (P:=DD) (ih.g.tb hC (by omega) (.of .nil .nil)) fun x x' a6 h6 hx=>hj _ _ ⟨.mk (by omega),hx⟩
  ·exact jP (ih.g.expr hC (by omega) .none) fun x x' a9 h9 hx=>hj _ _ ⟨.mk (by omega),.of (.one hx) .nil⟩
 ·refine sJ hs fun r hr=>RS.br rfl (fun h=>ta hu fun r _=>hj2 _ _ ⟨rfl,fun _=>hr h⟩) (fun _=>hj2 _ _ ⟨rfl,fun h=>by cases h⟩)
theorem Dc (hd:GR n) (hC:C.kW) (h0:0≤a) (hB:Ej C a) {lead:List (List UInt8)}:RS (ZB C) (VB C k a) (fE n lead j (aY C.s C.T a C.b k none)) (fE n lead j (aY C.s' C.T' (a+C.κ) C.b' k none)):=by
 unfold fE
 refine RS.iter (fun (v w:L×(List (List UInt8))×(List o)×Int×Bool)=>Rl C k a v.1 w.1∧w.2.1=v.2.1∧LR DD v.2.2.1 w.2.2.1∧((0<v.2.2.2.1→w.2.2.2.1=v.2.2.2.1+C.κ)∧(v.2.2.2.1≤0→w.2.2.2.1≤0))∧w.2.2.2.2=v.2.2.2.2)
  (fun v w h next next' hn=>?_) _ _ ⟨.mk (by omega),rfl,.nil,⟨fun h=>by simp at h,fun _=>by simp⟩,rfl⟩
 obtain ⟨p,ld,out,e,sep⟩:=v
 obtain ⟨p',ld',out',e',sep'⟩:=w
 obtain ⟨⟨a1,g1,g2,h1⟩,g3,hl,he,g4⟩:=h
 dsimp only at g1 g2 g3 hl he g4;subst g1 g2 g3 g4;dsimp only
 refine Ek hC (fun a2 r h2 hr=>?_) fun a2 u h2 hu hk x e=>by cases e;exact ⟨by dsimp only;omega,rfl,u,hu,hk⟩
 dsimp only
 refine RS.br rfl (fun h=>?_) (fun _=>RS.ok ⟨.mk (by omega),hl,rfl⟩)
 obtain ⟨u,hu,hk0,hk7⟩:=hr (by simpa using h)
 refine fZ hC fun a3 t t' h3 ht hsT e3=>?_
 have e3:=e3.2 u hu hk7
 subst e3
 rw[hu] at ht;cases ht
 have hs:=hsT.s hk0
 dsimp only
 rw[hs.1,hs.2,nx,hl.1]
 refine RS.jn (fun x y=>y=x) (fun x y h=>?_) (fun j1 j1' hj1=>?_)
 ·subst h
  refine RS.br rfl (fun _=>?_) (fun _=>?_)
  ·exact RS.gd fun _ _=>hn _ _ ⟨.mk (by omega),rfl,hl,he,rfl⟩
  refine RS.jn (fun v w=>v.1=(aY C.s C.T a3 C.b k none)∧w.1=(aY C.s' C.T' (a3+C.κ) C.b' k none)∧w.2=v.2) (fun v w h=>?_) (fun j2 j2' hj2=>?_)
  ·obtain ⟨p,x⟩:=v
   obtain ⟨p',x'⟩:=w
   obtain ⟨g1,g2,g3⟩:=h
   dsimp only at g1 g2 g3;subst g1 g2 g3;dsimp only
   refine RS.br rfl (fun _=>?_) (fun _=>?_)
   ·refine RS.gd fun _ _=>RS.el fun d d' _ _ hd1 hd1'=>?_
    have hdr:=hl.2 _ _ _ hd1 hd1'
    have hx:=hdr.x
    rw[nx,hx.k,hx.p,hx.t,hx.a,hx.b,hx.tl,hx.ld]
    exact RS.gd fun _ _=>hn _ _ ⟨.mk (by omega),rfl,hl.set (.of hx.s hx.d) _,he,rfl⟩
   ·refine RS.jn (fun v w=>v.1=(aY C.s C.T a3 C.b k none)∧w.1=(aY C.s' C.T' (a3+C.κ) C.b' k none)∧w.2=v.2) (fun v w h=>?_) (fun j3 j3' hj3=>?_)
    ·obtain ⟨p,x⟩:=v
     obtain ⟨p',x'⟩:=w
     obtain ⟨g1,g2,g3⟩:=h
     dsimp only at g1 g2 g3;subst g1 g2 g3;dsimp only
     refine RS.br rfl (fun _=>?_) (fun _=>?_)
     ·exact RS.gd fun _ _=>RS.gd fun _ _=>hn _ _ ⟨.mk' (by omega) nx,rfl,hl,he,rfl⟩
     ·refine RS.jn (fun x y=>y=x) (fun x y h=>?_) (fun j4 j4' hj4=>?_)
      ·subst h
       refine RS.br rfl (fun _=>gr) (fun _=>jP (hd.decl hC (by omega)) fun d d' a4 h4 hdr=>?_)
       have hx:=hdr.x
       dsimp only
       rw[hx.k,hx.p,hx.t,hx.a,hx.b,hx.tl,hx.tr]
       refine RS.gd fun _ _=>hn _ _ ⟨.mk (by omega),rfl,hl.snoc (.of hx.s hx.d),⟨fun _=>rfl,fun h=>?_⟩,rfl⟩
       dsimp only at h ⊢
       rcases hB with w|⟨i,_,w,_⟩
       ·rw[w];omega
       ·omega
      ·exact RS.br rfl (fun _=>hj4 _ _ rfl) (fun _=>hj4 _ _ rfl)
    ·refine RS.br rfl (fun _=>C1 hC (hB.mono (by omega)) (by omega) fun r=>hj3 _ _ ⟨rfl,rfl,rfl⟩) (fun _=>hj3 _ _ ⟨rfl,rfl,rfl⟩)
  ·refine RS.br rfl (fun _=>RS.br (decide_eq_decide.2 ⟨fun h=>?_,fun h=>?_⟩) (fun h=>?_) (fun _=>hj2 _ _ ⟨rfl,rfl,rfl⟩)) (fun _=>hj2 _ _ ⟨rfl,rfl,rfl⟩)
   ·by_cases w:0<e
    ·exact w
    ·have:=he.2 (by omega);omega
   ·have:=he.1 h;omega
   ·have h:=of_decide_eq_true h
    exact Bu hC (by omega) (by omega) (he.1 h) fun r=>hj2 _ _ ⟨rfl,rfl,rfl⟩
 ·exact RS.br rfl (fun _=>hj1 _ _ rfl) (fun _=>ka hsT fun r _=>hj1 _ _ rfl)
theorem EF (ih:GL n) {x:List UInt8} {v v':Int}:RS NZ (fun r r'=>r.2=true→r'.2=true∧EE r.1 r'.1) (fV (n+1) x v) (fV (n+1) x v'):=by
 show RS NZ _ (iQ n (ai n) x v) (iQ n (ai n) x v')
 unfold iQ
 refine RS.same fun y _=>RS.br rfl (fun _=>RS.ok fun h=>by cases h) (fun _=>RS.same fun z _=>RS.br rfl (fun _=>RS.ok fun h=>by cases h) (fun _=>?_))
 refine RS.wG ?_ fun p a _ h=>?_
 ·have hC:(Cx.mk x y.1 v x y.1 v' 0 false).kW:=.refl
  refine jP (C:=Cx.mk x y.1 v x y.1 v' 0 false) (ih.g.expr hC (Int.le_refl 0) .none) fun e e' a2 h2 he=>?_
  dsimp only
  refine fZ hC fun a3 t t' h3 _ hs _=>RS.ok ?_
  dsimp only
  rw[show t'.Kind=t.Kind by rcases hs with h|⟨h,_⟩;exact h.1;cases h]
  exact fun h=>⟨h,he⟩
 ·have hf:∀ (p:oj) (r:aj×Bool),(sB 86 p fun v=>D.bind (gp v) fun y=>.ok (y.1,y.2))=.ok r→r.2=false:=fun p r h=>by
   obtain ⟨v,_,h⟩:=lR (fun q=>by cases q) h
   unfold gp at h;cases h;rfl
  have ha:=hf p a h
  refine ⟨fun b _ q=>(by rw[ha] at q;cases q),fun p' _=>?_⟩
  cases hh:(sB 86 p' fun v=>D.bind (gp v) fun y=>.ok (y.1,y.2)) with
  | stuck=>exact .inl rfl
  | ok b=>exact .inr ⟨b,rfl,fun q=>by rw[ha] at q;cases q⟩
  | kT w=>
   obtain ⟨v,_,h⟩:=lR (fun q=>by cases q) hh
   unfold gp at h;cases h
theorem sN:∀ n,GL n:=by
 intro n
 induction n with
 | zero=>
  intro i hi
  have e:i=0:=by omega
  subst e
  constructor<;>intros<;>first|exact RS.nil|(intro q q' _;exact RS.nil)
 | succ n ih=>
  intro i hi
  by_cases h:i≤n
  ·exact ih i h
  have e:i=n+1:=by omega
  subst e
  exact {
      expr:=Ew ih,alt:=Gg ih,rL:=Ex ih,bin:=fun hC h0=>Gi ih hC h0,unary:=C8 ih,post:=Ey ih,tW:=EC ih,named:=fun hC h0 ht hk=>C9 ih hC h0 ht hk,tX:=fun hs=>BA ih hs,parens:=BB ih,rM:=BC ih
      list:=EB ih,block:=Da ih,args:=Ez ih,item:=EA ih,field:=fun hC h0 ht hk hd=>Db ih hC h0 ht hk hd,pattern:=fun hC h0 hd=>Ad ih hC h0 hd,tb:=fun hC h0 hd=>Ae ih hC h0 hd,decl:=ED ih,decls:=fun hC h0 hB=>Dc (lead:=[]) ih.g hC h0 hB,code:=EF ih }
end
section
variable {α β γ δ X Y:Type} {V:α→β→Prop} {Z:α→Prop}
def lM (Z:α→Prop) (x:D α):Prop:=∀ a,x=.ok a→Z a
theorem RS.H6 {j:X→D α} {j':Y→D β} {p:(X→D α)→D α} {p':(Y→D β)→D β} (J:X→Y→Prop) (N:X→Prop) (hj:∀ v w,J v w→RS Z V (j v) (j' w)) (hN:∀ v,N v→lM Z (j v))
  (hp:∀ (j:X→D α) (j':Y→D β),(∀ v w,J v w→RS Z V (j v) (j' w))→(∀ v,N v→lM Z (j v))→RS Z V (p j) (p' j')):RS Z V (D.jn j p) (D.jn j' p'):=hp j j' hj hN
theorem lM.iter {body:(X→D α)→X→D α} (N:X→Prop) (hN:∀ x,N x→∀ next,(∀ v,N v→lM Z (next v))→lM Z (body next x)):∀ (n:Nat) {x:X},N x→lM Z (D.iter body n x)
 | 0,_,_=>fun a e=>by cases e
 | n+1,x,h=>hN x h _ fun _ q=>lM.iter N hN n q
theorem RS.Dd {body:(X→D α)→X→D α} {body':(Y→D β)→Y→D β} (I:X→Y→Prop) (N:X→Prop) (hN:∀ x,N x→∀ next,(∀ v,N v→lM Z (next v))→lM Z (body next x))
  (hb:∀ x y,I x y→∀ (next:X→D α) (next':Y→D β),(∀ v w,I v w→RS Z V (next v) (next' w))→(∀ v,N v→lM Z (next v))→RS Z V (body next x) (body' next' y)) :
  ∀ (n n':Nat) {x:X} {y:Y},I x y→RS Z V (D.iter body n x) (D.iter body' n' y)
 | 0,_,_,_,_=>RS.nil
 | _+1,0,_,_,_=>RS.sD
 | n+1,n'+1,x,y,h=>hb x y h _ _ (fun _ _ q=>RS.Dd I N hN hb n n' q) (fun _ q=>lM.iter N hN n q)
theorem lM.bind {x:D γ} {f:γ→D α} (h:∀ c,x=.ok c→lM Z (f c)):lM Z (D.bind x f):=fun a e=>by
 cases x with
 | stuck=>cases e
 | kT p=>cases e
 | ok c=>exact h c rfl a e
theorem lM.br {b:Bool} {x y:D α} (ht:b=true→lM Z x) (hf:b=false→lM Z y):lM Z (D.br b x y):=by
 cases b with
 | true=>exact ht rfl
 | false=>exact hf rfl
theorem lM.ok {a:α} (h:Z a):lM Z (.ok a):=fun _ e=>by cases e;exact h
theorem lM.yC {x:D α} (h:gZ x):lM Z x:=fun a e=>absurd e (h a)
end
def sO (T:List au) (a:Int):Prop:=∃ t,T[a.toNat]?=some t∧t.Kind=7
def BD (T:List au) (a:Int):Prop:=∃ t,T[a.toNat]?=some t∧t.Kind=0
def R2 (T:List au) (a a':Int):Prop:=¬ sO T a∧a'=a∨sO T a∧BD T (a+1)∧(a'=a∨a'=a+1)
def Zs (T:List au) (a:Int):Prop:=0≤a∧sO T a∧¬ BD T (a+1)
def NC (T:List au) (a:Int):Prop:=0<a∧∀ t,T[(a - 1).toNat]?=some t→t.Kind≠6
section
variable {α β γ δ X Y:Type} {V:α→β→Prop} {Z:α→Prop} {s:List UInt8} {T:List au} {b a a':Int} {m:Nat} {q:Option aj}
theorem Zs.bad (h:Zs T a):uH T false a:=by
 obtain ⟨h0,⟨t,ht,hk⟩,_⟩:=h
 exact .of h0 ht (.inr ⟨hk,rfl⟩)
theorem De {k:Bool} (h0:0≤a) {t:au} (ht:T[a.toNat]?=some t) (hk:k=true→t.Kind≠7):az m (aY s T a b k q)=.stuck∨az m (aY s T a b k q)=.ok (t,aY s T a b k q):=by
 unfold az
 cases m with
 | zero=>exact .inl rfl
 | succ m=>
  right
  show D.br k (D.el T a fun x=>D.br (x.Kind==7) (D.gd (bK (a+1)) (D.iter _ m (aY s T (a+1) b k q))) (D.el T a fun x=>.ok (x,aY s T a b k q))) (D.el T a fun x=>.ok (x,aY s T a b k q))=_
  have e1:∀ {β:Type} (K:au→D β),D.el T a K=K t:=fun K=>by simp only[D.el];rw[if_pos h0,ht]
  rw[e1,e1]
  cases k with
  | false=>rfl
  | true=>
   have e3:(t.Kind==7)=false:=beq_eq_false_iff_ne.2 (hk rfl)
   rw[e3];rfl
theorem Hk (h0:0≤a) (hl:sO T a) {u:au} (hu:T[(a+1).toNat]?=some u) (hk:u.Kind≠7):az m (aY s T a b true q)=.stuck∨az m (aY s T a b true q)=.ok (u,aY s T (a+1) b true q):=by
 obtain ⟨t,ht,hk7⟩:=hl
 have h:=De (m:=m - 1) (s:=s) (b:=b) (k:=true) (q:=q) (a:=a+1) (by omega) hu (fun _=>hk)
 unfold az at h ⊢
 cases m with
 | zero=>exact .inl rfl
 | succ m=>
  rw[Nat.add_sub_cancel] at h
  show D.br true (D.el T a fun x=>D.br (x.Kind==7) (D.gd (bK (a+1)) (D.iter _ m (aY s T (a+1) b true q))) (D.el T a fun x=>.ok (x,aY s T a b true q))) (D.el T a fun x=>.ok (x,aY s T a b true q))=_∨D.br true (D.el T a fun x=>D.br (x.Kind==7) (D.gd (bK (a+1)) (D.iter _ m (aY s T (a+1) b true q))) (D.el T a fun x=>.ok (x,aY s T a b true q))) (D.el T a fun x=>.ok (x,aY s T a b true q))=_
  have e1:∀ {β:Type} (K:au→D β),D.el T a K=K t:=fun K=>by simp only[D.el];rw[if_pos h0,ht]
  rw[e1]
  have e3:(t.Kind==7)=true:=by simp[hk7]
  rw[e3]
  simp only[D.br,D.gd]
  split
  ·exact h
  ·exact .inl rfl
def TT (T:List au) (a a':Int) (t t':au):Prop:=T[a.toNat]?=some t∧R2 T a a'∧(t'=t∧a'=a∧t.Kind≠7∨t.Kind=7∧t'.Kind=0)
theorem oF (h0:0≤a) (h:R2 T a a') {K:au×L→D α} {K':au×L→D β} (hk:∀ t t' a2,TT T a a2 t t'→RS Z V (K (t,aY s T a b false q)) (K' (t',aY s T a2 b true q))) :
  RS Z V (D.bind (az m (aY s T a b false q)) K) (D.bind (az m (aY s T a' b true q)) K'):=by
 cases ht:T[a.toNat]? with
 | none=>exact RS.yC (gZ.mY (xB (by have:=List.getElem?_eq_none_iff.1 ht;omega)))
 | some t=>
  rcases De (m:=m) (s:=s) (b:=b) (q:=q) (k:=false) h0 ht (fun h=>by cases h) with e|e
  ·rw[e];exact RS.nil
  ·rw[e]
   rcases h with ⟨h1,rfl⟩|⟨h1,⟨u,hu,hku⟩,h2⟩
   ·have h7:t.Kind≠7:=fun h=>h1 ⟨t,ht,h⟩
    rcases De (m:=m) (s:=s) (b:=b) (q:=q) (k:=true) h0 ht (fun _=>h7) with e|e
    ·rw[e];exact RS.sD
    ·rw[e];exact hk t t a' ⟨ht,.inl ⟨h1,rfl⟩,.inl ⟨rfl,rfl,h7⟩⟩
   ·have h7:t.Kind=7:=by obtain ⟨t2,g1,g2⟩:=h1;rw[ht] at g1;cases g1;exact g2
    have e2:az m (aY s T a' b true q)=.stuck∨az m (aY s T a' b true q)=.ok (u,aY s T (a+1) b true q):=by
     rcases h2 with rfl|rfl
     ·exact Hk h0 h1 hu (by omega)
     ·exact De (by omega) hu (fun _=>by omega)
    rcases e2 with e|e
    ·rw[e];exact RS.sD
    ·rw[e];exact hk t u (a+1) ⟨ht,.inr ⟨h1,⟨u,hu,hku⟩,.inr rfl⟩,.inr ⟨h7,hku⟩⟩
theorem TT.op {t t':au} (h:TT T a a' t t') (x:List UInt8):bJ t' x=bJ t x:=by
 rcases h.2.2 with ⟨rfl,_⟩|⟨h1,h2⟩
 ·rfl
 ·rw[nA (by omega),nA (by omega)]
theorem TT.oneOf {t t':au} (h:TT T a a' t t') (x:List UInt8):dM m t' x=dM m t x:=by
 rcases h.2.2 with ⟨rfl,_⟩|⟨h1,h2⟩
 ·rfl
 ·rw[qn (by omega),qn (by omega)]
theorem EG {t:au} {x:List UInt8} {r:Bool} (hr:dM m t x=.ok r) (e:r=true):t.Kind=5:=by
 by_cases h:t.Kind=5
 ·exact h
 ·rw[qn h] at hr;cases hr;cases e
theorem TT.here {t t':au} (h:TT T a a' t t') (hk:t.Kind≠7):a'=a∧t'=t:=by
 rcases h.2.2 with ⟨h1,h2,_⟩|⟨h1,_⟩
 ·exact ⟨h2,h1⟩
 ·exact absurd h1 hk
theorem tf (h0:0≤a) (h:R2 T a a') {K:Int×L→D α} {K':Int×L→D β} (hk:∀ v v' a2,R2 T a a2→(¬ sO T a→a2=a)→RS Z V (K (v,aY s T a b false q)) (K' (v',aY s T a2 b true q))) :
  RS Z V (D.bind (bm m (aY s T a b false q)) K) (D.bind (bm m (aY s T a' b true q)) K'):=by
 refine RS.bind (W:=fun r r'=>∃ v v' a2,r=(v,aY s T a b false q)∧r'=(v',aY s T a2 b true q)∧R2 T a a2∧(¬ sO T a→a2=a)) ?_ fun r r' h=>?_
 ·unfold bm
  exact oF h0 h fun t t' a2 h=>RS.gd fun _ _=>RS.ok ⟨_,_,a2,rfl,rfl,h.2.1,fun hl=>(h.here fun h7=>hl ⟨t,h.1,h7⟩).1⟩
 ·obtain ⟨v,v',a2,rfl,rfl,h1,h2⟩:=h
  exact hk v v' a2 h1 h2
theorem A1 (h0:0≤a) (h:R2 T a a') {x:List UInt8} {K:Bool×L→D α} {K':Bool×L→D β} (ht:NC T (a+1)→RS Z V (K (true,aY s T (a+1) b false q)) (K' (true,aY s T (a+1) b true q)))
  (hf:∀ a2,R2 T a a2→RS Z V (K (false,aY s T a b false q)) (K' (false,aY s T a2 b true q))) :
  RS Z V (D.bind (bc m x (aY s T a b false q)) K) (D.bind (bc m x (aY s T a' b true q)) K'):=by
 refine RS.bind (W:=fun r r'=>(r=(true,aY s T (a+1) b false q)∧r'=(true,aY s T (a+1) b true q)∧NC T (a+1))∨∃ a2,r=(false,aY s T a b false q)∧r'=(false,aY s T a2 b true q)∧R2 T a a2) ?_ fun r r' h=>?_
 ·unfold bc
  refine oF h0 h fun t t' a2 h=>?_
  dsimp only
  rw[h.op]
  refine RS.same fun r hr=>RS.br rfl (fun _=>RS.ok (.inr ⟨a2,rfl,rfl,h.2.1⟩)) (fun e=>?_)
  have h5:=(yV hr (by simpa using e)).1
  obtain ⟨rfl,_⟩:=h.here (by omega)
  exact RS.gd fun _ _=>RS.ok (.inl ⟨rfl,rfl,by omega,fun u hu=>by rw[Int.add_sub_cancel,h.1] at hu;cases hu;omega⟩)
 ·rcases h with ⟨rfl,rfl,h⟩|⟨a2,rfl,rfl,h⟩
  ·exact ht h
  ·exact hf a2 h
theorem qp (h:uH T false a) {x:List UInt8} {K:L→D α}:gZ (D.bind (bu m x (aY s T a b false q)) K):=by
 refine gZ.mY ?_
 unfold bu
 refine gZ.bind fun c e=>?_
 have:=sM h c e
 subst this
 exact gZ.br (fun _=>kv) (fun h=>by cases h)
theorem A2 (h0:0≤a) (h:R2 T a a') {x:List UInt8} {K K':L→D _} {V:α→α→Prop} (ht:NC T (a+1)→RS Z V (K (aY s T (a+1) b false q)) (K' (aY s T (a+1) b true q))) :
  RS Z V (D.bind (bu m x (aY s T a b false q)) K) (D.bind (bu m x (aY s T a' b true q)) K'):=by
 refine RS.bind (W:=fun r r'=>r=aY s T (a+1) b false q∧r'=aY s T (a+1) b true q∧NC T (a+1)) ?_ fun r r' h=>?_
 ·unfold bu
  exact A1 h0 h (fun h=>RS.br rfl (fun h=>by cases h) (fun _=>RS.ok ⟨rfl,rfl,h⟩)) (fun a2 _=>RS.br rfl (fun _=>gr) (fun h=>by cases h))
 ·obtain ⟨rfl,rfl,h⟩:=h
  exact ht h
end
def V2 (s:List UInt8) (T:List au) (b:Int) (p p':L):Prop:=∃ a1 a2,p=aY s T a1 b false none∧p'=aY s T a2 b true none∧NC T a1∧R2 T a1 a2
def Z2 (s:List UInt8) (T:List au) (b:Int) (p:L):Prop:=∃ a1,p=aY s T a1 b false none∧Zs T a1
def RX {X:Type} (R:X→X→Prop) (s:List UInt8) (T:List au) (b a:Int) (F:L→D (X×L)):Prop:=
 RS (fun r=>Z2 s T b r.2) (fun r r'=>V2 s T b r.2 r'.2∧R r.1 r'.1) (F (aY s T a b false none)) (F (aY s T a b true none))
structure GS (n:Nat):Prop where
 expr:∀ {s:List UInt8} {T:List au} {b a:Int} {j:Bool},0≤a→RX EE s T b a (aD n j)
 alt:∀ {s:List UInt8} {T:List au} {b a:Int} {j:Bool},0≤a→RX EE s T b a (aV n j)
 rL:∀ {s:List UInt8} {T:List au} {b a:Int} {j:Bool},0≤a→RX EE s T b a (aW n j)
 bin:∀ {s:List UInt8} {T:List au} {b a l:Int} {j:Bool},0≤a→RX EE s T b a (bn n l j)
 unary:∀ {s:List UInt8} {T:List au} {b a:Int} {j:Bool},0≤a→RX EE s T b a (bU n j)
 post:∀ {s:List UInt8} {T:List au} {b a:Int} {j:Bool},0≤a→RX EE s T b a (bG n j)
 tW:∀ {s:List UInt8} {T:List au} {b a:Int} {j:Bool},0≤a→RX EE s T b a (bS n j)
 named:∀ {s:List UInt8} {T:List au} {b a:Int} {t:au},0≤a→T[a.toNat]?=some t→t.Kind=1→RX EE s T b a (cx n)
 parens:∀ {s:List UInt8} {T:List au} {b a:Int} {j:Bool},0≤a→RX EE s T b a (bM n j)
 rM:∀ {s:List UInt8} {T:List au} {b a:Int} {j:Bool},0≤a→RX EE s T b a (ck n j)
 list:∀ {s:List UInt8} {T:List au} {b a:Int},0≤a→RX EE s T b a (cM n)
 args:∀ {s:List UInt8} {T:List au} {b a:Int},0≤a→RX (LR EE) s T b a (cL n)
section
variable {s:List UInt8} {T:List au} {b a a':Int} {n:Nat} {j:Bool} {X:Type} {R:X→X→Prop}
theorem xH (h:¬ uH T false a) (h0:0≤a):∃ t,T[a.toNat]?=some t∧t.Kind≠0∧t.Kind≠7∧R2 T a a:=by
 cases ht:T[a.toNat]? with
 | none=>exact absurd ⟨h0,fun t q=>by rw[ht] at q;cases q⟩ h
 | some t=>
  have h1:t.Kind≠0:=fun q=>h (.of h0 ht (.inl q))
  have h2:t.Kind≠7:=fun q=>h (.of h0 ht (.inr ⟨q,rfl⟩))
  exact ⟨t,rfl,h1,h2,.inl ⟨fun ⟨u,hu,hk⟩=>by rw[ht] at hu;cases hu;exact h2 hk,rfl⟩⟩
theorem fin {x x':X} (h:NC T a) (hx:R x x'):RS (fun r=>Z2 s T b r.2) (fun r r'=>V2 s T b r.2 r'.2∧R r.1 r'.1) (.ok (x,aY s T a b false none)) (.ok (x',aY s T a b true none)):=by
 by_cases hl:sO T a
 ·by_cases he:BD T (a+1)
  ·exact RS.ok ⟨⟨a,a,rfl,rfl,h,.inr ⟨hl,he,.inl rfl⟩⟩,hx⟩
  ·exact RS.D0 ⟨a,rfl,by have:=h.1;omega,hl,he⟩
 ·exact RS.ok ⟨⟨a,a,rfl,rfl,h,.inl ⟨hl,rfl⟩⟩,hx⟩
theorem BM {x:X} (h:Zs T a):lM (fun r=>Z2 s T b r.2) (.ok (x,aY s T a b false none):D (X×L)):=lM.ok ⟨a,rfl,h⟩
theorem tZ {α:Type} {Z:α→Prop} {V:α→α→Prop} {F:L→D (X×L)} (h:RX R s T b a F) {K K':X×L→D α}
  (hz:∀ x a1,Zs T a1→lM Z (K (x,aY s T a1 b false none))) (hk:∀ x x' a1 a2,NC T a1→R2 T a1 a2→R x x'→RS Z V (K (x,aY s T a1 b false none)) (K' (x',aY s T a2 b true none))) :
  RS Z V (D.bind (F (aY s T a b false none)) K) (D.bind (F (aY s T a b true none)) K'):=by
 refine RS.vq h (fun c hc=>?_) fun r r' h=>?_
 ·obtain ⟨x,p⟩:=c
  obtain ⟨a1,hp,h1⟩:=hc
  dsimp only at hp;subst hp
  exact hz x a1 h1
 ·obtain ⟨x,p⟩:=r
  obtain ⟨x',p'⟩:=r'
  obtain ⟨⟨a1,a2,g1,g2,h1,h2⟩,h3⟩:=h
  dsimp only at g1 g2 h3;subst g1 g2
  exact hk x x' a1 a2 h1 h2 h3
theorem Df {F:L→D (X×L)} (h:RX R s T b a F) {n:Nat} {body body':(L×X→D (X×L))→L×X→D (X×L)}
  (hN:∀ x:L×X,Z2 s T b x.1→∀ next:L×X→D (X×L),(∀ v:L×X,Z2 s T b v.1→lM (fun r:X×L=>Z2 s T b r.2) (next v))→lM (fun r:X×L=>Z2 s T b r.2) (body next x))
  (hb:∀ x y:L×X,V2 s T b x.1 y.1∧R x.2 y.2→∀ next next':L×X→D (X×L),(∀ v w:L×X,V2 s T b v.1 w.1∧R v.2 w.2→RS (fun r=>Z2 s T b r.2) (fun r r'=>V2 s T b r.2 r'.2∧R r.1 r'.1) (next v) (next' w))→
   (∀ v:L×X,Z2 s T b v.1→lM (fun r:X×L=>Z2 s T b r.2) (next v))→RS (fun r=>Z2 s T b r.2) (fun r r'=>V2 s T b r.2 r'.2∧R r.1 r'.1) (body next x) (body' next' y)) :
  RS (fun r=>Z2 s T b r.2) (fun r r'=>V2 s T b r.2 r'.2∧R r.1 r'.1) (D.bind (F (aY s T a b false none)) fun y=>D.iter body n (y.2,y.1)) (D.bind (F (aY s T a b true none)) fun y=>D.iter body' n (y.2,y.1)):=
 tZ h (fun _ a1 h=>lM.iter (fun v=>Z2 s T b v.1) hN n ⟨a1,rfl,h⟩) fun _ _ a1 a2 h1 h2 he=>RS.Dd (fun (v w:L×X)=>V2 s T b v.1 w.1∧R v.2 w.2) (fun v=>Z2 s T b v.1) hN hb _ _ ⟨⟨a1,a2,rfl,rfl,h1,h2⟩,he⟩
theorem yY {α:Type} {Z:α→Prop} {m:Nat} (h:Zs T a) {K:au×L→D α} (hk:∀ t,t.Kind≠5→lM Z (K (t,aY s T a b false none))):lM Z (D.bind (az m (aY s T a b false none)) K):=
 lM.bind fun c e=>by
  obtain ⟨t,rfl,_,hk7⟩:=oE h.bad c e
  exact hk t (by omega)
theorem yZ {α:Type} {Z:α→Prop} {m:Nat} (h:Zs T a) {x:List UInt8} {K:Bool×L→D α} (hk:lM Z (K (false,aY s T a b false none))):lM Z (D.bind (bc m x (aY s T a b false none)) K):=
 lM.bind fun c e=>by
  have:=sM h.bad c e
  subst this;exact hk
theorem Gj (ih:GS n) (h0:0≤a):RX EE s T b a (aV (n+1) j):=by
 by_cases hb:uH T false a
 ·exact RS.yC ((vJ _).alt hb)
 obtain ⟨t,ht,_,hk7,hR⟩:=xH hb h0
 show RS _ _ (bO n (ai n) j (aY s T a b false none)) (bO n (ai n) j (aY s T a b true none))
 unfold bO
 refine RS.br rfl (fun _=>?_) (fun h=>by cases h)
 refine tf h0 hR fun v v' a2 h2 e2=>?_
 dsimp only
 have hz:∀ {e:aj} {a1:Int},Zs T a1→lM (fun r:aj×L=>Z2 s T b r.2) (.ok (e,aY s T a1 b false none)):=fun h=>BM h
 refine A1 h0 h2 (fun h3=>?_) (fun a3 h3=>?_)
 ·exact RS.br rfl (fun _=>tZ (ih.rL (by omega)) (fun x a1 h=>BM h) fun x x' a1 a2 h4 h5 hx=>RS.ok ⟨⟨a1,a2,rfl,rfl,h4,h5⟩,.sub (.one hx)⟩) (fun h=>by cases h)
 ·refine RS.br rfl (fun h=>by cases h) (fun _=>?_)
  have:a3=a:=by
   rcases h3 with ⟨_,h⟩|⟨⟨u,hu,hk⟩,_⟩
   ·exact h
   ·rw[ht] at hu;cases hu;exact absurd hk hk7
  subst this
  exact tZ (ih.rL h0) (fun x a1 h=>BM h) fun x x' a1 a2 h4 h5 hx=>RS.ok ⟨⟨a1,a2,rfl,rfl,h4,h5⟩,hx⟩
theorem EH (ih:GS n) (h0:0≤a):RX EE s T b a (aW (n+1) j):=by
 show RS _ _ (bP n (ai n) j (aY s T a b false none)) (bP n (ai n) j (aY s T a b true none))
 unfold bP
 refine Df (ih.bin h0) ?_ ?_
 ·rintro ⟨p,e⟩ ⟨a1,hp,h1⟩ next _
  dsimp only at hp;subst hp
  exact yZ h1 (lM.br (fun h=>by cases h) (fun _=>BM h1))
 ·rintro v w h next next' hn hz
  obtain ⟨p,e⟩:=v
  obtain ⟨p',e'⟩:=w
  obtain ⟨⟨a1,a2,g1,g2,h1,h2⟩,he⟩:=h
  dsimp only at g1 g2 he;subst g1 g2;dsimp only
  have:=h1.1
  refine A1 (by omega) h2 (fun h3=>?_) (fun a3 h3=>RS.br rfl (fun h=>by cases h) (fun _=>RS.ok ⟨⟨a1,a3,rfl,rfl,h1,h3⟩,he⟩))
  exact RS.br rfl (fun _=>tZ (ih.bin (by omega)) (fun x a4 h=>hz _ ⟨a4,rfl,h⟩) fun x x' a4 a5 h4 h5 hx=>hn _ _ ⟨⟨a4,a5,rfl,rfl,h4,h5⟩,.sub (.two he hx)⟩) (fun h=>by cases h)
theorem Gk (ih:GS n) (h0:0≤a) {l:Int}:RX EE s T b a (bn (n+1) l j):=by
 show RS _ _ (cb n (ai n) l j (aY s T a b false none)) (cb n (ai n) l j (aY s T a b true none))
 unfold cb
 refine RS.br rfl (fun _=>tZ (ih.unary h0) (fun x a1 h=>BM h) fun x x' a1 a2 h4 h5 hx=>RS.ok ⟨⟨a1,a2,rfl,rfl,h4,h5⟩,hx⟩) (fun _=>RS.gd fun _ _=>?_)
 refine Df (ih.bin h0) ?_ ?_
 ·rintro ⟨p,e⟩ ⟨a1,hp,h1⟩ next _
  dsimp only at hp;subst hp
  refine yY h1 fun t ht=>lM.bind fun ops _=>?_
  dsimp only
  rw[qn ht]
  exact lM.bind fun c e=>by
   cases e
   exact lM.br (fun h=>by cases h) (fun _=>BM h1)
 ·rintro v w h next next' hn hz
  obtain ⟨p,e⟩:=v
  obtain ⟨p',e'⟩:=w
  obtain ⟨⟨a1,a2,g1,g2,h1,h2⟩,he⟩:=h
  dsimp only at g1 g2 he;subst g1 g2;dsimp only
  have:=h1.1
  refine oF (by omega) h2 fun t t' a3 h3=>RS.same fun ops _=>?_
  dsimp only
  rw[h3.oneOf]
  refine RS.same fun r hr=>RS.br rfl (fun hrt=>?_) (fun _=>RS.ok ⟨⟨a1,a3,rfl,rfl,h1,h3.2.1⟩,he⟩)
  have h5:=EG hr hrt
  obtain ⟨rfl,rfl⟩:=h3.here (by omega)
  have hR:=h3.2.1
  have hnl:¬ sO T a3:=fun ⟨u,hu,hk⟩=>by rw[h3.1] at hu;cases hu;omega
  refine tf (by omega) hR fun v v' a4 h4 e4=>?_
  have e4:=e4 hnl
  subst e4
  dsimp only
  refine ky he fun x x' hx=>?_
  dsimp only
  refine oF (by omega) hR fun t2 t2' a5 h6=>?_
  have ht2:t2=t':=by have:=h6.1;rw[h3.1] at this;cases this;rfl
  subst ht2
  obtain ⟨rfl,rfl⟩:=h6.here (by omega)
  dsimp only
  refine RS.gd fun _ _=>RS.gd fun _ _=>tZ (ih.bin (by omega)) (fun x a4 h=>hz _ ⟨a4,rfl,h⟩) fun x x' a4 a5 h4 h5 hx2=>hn _ _ ⟨⟨a4,a5,rfl,rfl,h4,h5⟩,.sub (.two hx hx2)⟩
theorem Dg (ih:GS n) (h0:0≤a):RX EE s T b a (bU (n+1) j):=by
 by_cases hb:uH T false a
 ·exact RS.yC ((vJ _).unary hb)
 obtain ⟨t,ht,_,hk7,hR⟩:=xH hb h0
 show RS _ _ (cq n (ai n) j (aY s T a b false none)) (cq n (ai n) j (aY s T a b true none))
 unfold cq
 refine RS.br rfl (fun h=>by cases h) (fun _=>oF h0 hR fun t2 t2' a3 h3=>?_)
 have e2:t2=t:=by have:=h3.1;rw[ht] at this;cases this;rfl
 subst e2
 obtain ⟨rfl,rfl⟩:=h3.here hk7
 dsimp only
 refine tf h0 hR fun v v' a4 h4 e4=>?_
 have e4:=e4 fun ⟨u,hu,hk⟩=>by rw[ht] at hu;cases hu;exact hk7 hk
 subst e4
 dsimp only
 refine RS.jn (fun x y=>y=x) (fun x y h=>?_) (fun j0 j0' hj=>?_)
 ·subst h
  exact RS.gd fun _ _=>tZ (ih.unary (by omega)) (fun x a1 h=>BM h) fun x x' a1 a2 h4 h5 hx=>RS.ok ⟨⟨a1,a2,rfl,rfl,h4,h5⟩,.sub (.one hx)⟩
 ·refine RS.same fun r _=>RS.br rfl (fun _=>hj _ _ rfl) (fun _=>RS.same fun r _=>RS.br rfl (fun _=>hj _ _ rfl) (fun _=>?_))
  exact tZ (ih.post h0) (fun x a1 h=>BM h) fun x x' a1 a2 h4 h5 hx=>RS.ok ⟨⟨a1,a2,rfl,rfl,h4,h5⟩,hx⟩
theorem hS {b b':Int}:(Cx.mk s T b s T b' 0 false).kW:=.refl
theorem Hy (h0:0≤a) {t:au} (ht:T[a.toNat]?=some t) (hk:t.Kind≠6):NC T (a+1):=⟨by omega,fun u hu=>by rw[Int.add_sub_cancel,ht] at hu;cases hu;exact hk⟩
theorem zh {α:Type} {Z:α→Prop} {V:α→α→Prop} {Y:Type} {P:Y→Y→Prop} (F F':L→D (L×Y)) {K K':L×Y→D α} (h0:0≤a) (h:RS NZ (fun r r'=>Rk (Cx.mk s T b s T b 0 false) false true a r.1 r'.1∧P r.2 r'.2) (F (aY s T a b false none)) (F' (aY s T (a+((0:Nat):Int)) b true none)))
  (hk:∀ v w a1,0≤a1→NC T (a1+1)→P v w→RS Z V (K (aY s T a1 b false none,v)) (K' (aY s T a1 b true none,w))):RS Z V (D.bind (F (aY s T a b false none)) K) (D.bind (F' (aY s T a b true none)) K'):=by
 rw[show a+((0:Nat):Int)=a by simp] at h
 refine Bt h fun v w a1 t h1 ht hk5 hp=>?_
 have:=hk v w a1 (by omega) (Hy (by omega) ht (by omega)) hp
 simpa using this
theorem EI (ih:GS n) (h0:0≤a):RX EE s T b a (bG (n+1) j):=by
 show RS _ _ (bZ n (ai n) j (aY s T a b false none)) (bZ n (ai n) j (aY s T a b true none))
 unfold bZ
 refine Df (ih.tW h0) ?_ ?_
 ·rintro ⟨p,e⟩ ⟨a1,hp,h1⟩ next _
  dsimp only at hp;subst hp
  refine yY h1 fun t ht=>lM.bind fun c e=>?_
  obtain ⟨v,rfl⟩:=qo h1.bad c e
  dsimp only
  rw[nA ht,nA ht]
  exact lM.bind fun c e=>by
   cases e
   exact lM.br (fun h=>by cases h) (fun _=>lM.bind fun c e=>by
    cases e
    exact lM.br (fun h=>by cases h) (fun _=>BM h1))
 ·rintro v w h next next' hn hz
  obtain ⟨p,e⟩:=v
  obtain ⟨p',e'⟩:=w
  obtain ⟨⟨a1,a2,g1,g2,h1,h2⟩,he⟩:=h
  dsimp only at g1 g2 he;subst g1 g2;dsimp only
  have:=h1.1
  have hnx:∀ {x x':aj} {a:Int},NC T a→EE x x'→RS (fun r=>Z2 s T b r.2) (fun r r'=>V2 s T b r.2 r'.2∧EE r.1 r'.1) (next (aY s T a b false none,x)) (next' (aY s T a b true none,x')):=by
   intro x x' a h hx
   by_cases hl:sO T a
   ·by_cases hE:BD T (a+1)
    ·exact hn _ _ ⟨⟨a,a,rfl,rfl,h,.inr ⟨hl,hE,.inl rfl⟩⟩,hx⟩
    ·exact fun r e=>.inl (hz _ ⟨a,rfl,by have:=h.1;omega,hl,hE⟩ r e)
   ·exact hn _ _ ⟨⟨a,a,rfl,rfl,h,.inl ⟨hl,rfl⟩⟩,hx⟩
  refine oF (by omega) h2 fun t t' a3 h3=>?_
  dsimp only
  refine tf (by omega) h3.2.1 fun v v' a4 h4 e4=>?_
  dsimp only
  rw[h3.op,h3.op]
  have h5:t.Kind=5→a4=a1∧¬ sO T a1:=fun h5=>by
   have hnl:¬ sO T a1:=fun ⟨u,hu,hk⟩=>by rw[h3.1] at hu;cases hu;omega
   exact ⟨e4 hnl,hnl⟩
  refine RS.same fun r hr=>RS.br rfl (fun hrt=>?_) (fun _=>RS.same fun r hr=>RS.br rfl (fun hrt=>?_) (fun _=>RS.ok ⟨⟨a1,a4,rfl,rfl,h1,h4⟩,he⟩))
  ·obtain ⟨rfl,_⟩:=h5 (yV hr hrt).1
   refine ky he fun x x' hx=>?_
   dsimp only
   refine RS.gd fun _ _=>?_
   by_cases hb:uH T false (a4+1)
   ·refine RS.yC (gZ.bind fun c e=>?_)
    obtain ⟨u,rfl,_,hk⟩:=oE hb c e
    dsimp only
    refine gZ.jn (gZ.bind fun c e=>?_)
    have:c=false:=by
     cases c with
     | false=>rfl
     | true=>
      unfold eU at e
      have e1:(u.Kind==3)=false:=beq_eq_false_iff_ne.2 (by omega)
      have e2:(u.Kind==1)=false:=beq_eq_false_iff_ne.2 (by omega)
      rw[e1,e2] at e;cases e
    subst this
    exact gZ.br (fun _=>kv) (fun h=>by cases h)
   ·obtain ⟨u,hu,_,hu7,hRu⟩:=xH hb (by omega)
    refine oF (by omega) hRu fun t2 t2' a6 h6=>?_
    have e2:t2=u:=by have:=h6.1;rw[hu] at this;cases this;rfl
    subst e2
    obtain ⟨rfl,rfl⟩:=h6.here hu7
    dsimp only
    refine RS.jn (fun v w=>v=aY s T (a4+1) b false none∧w=aY s T (a4+1) b true none∧t2'.Kind≠6) (fun v w h=>?_) (fun j0 j0' hj=>?_)
    ·obtain ⟨rfl,rfl,hk⟩:=h
     dsimp only
     exact RS.gd fun _ _=>hnx (Hy (by omega) hu hk) (.sub (.one hx))
    ·refine sJ (p:=false) (.inl ⟨rfl,rfl⟩) fun r hr=>RS.br rfl (fun _=>gr) (fun h=>hj _ _ ⟨rfl,rfl,by have:=hr (by simpa using h);omega⟩)
  ·obtain ⟨rfl,_⟩:=h5 (yV hr hrt).1
   refine ky he fun x x' hx=>?_
   dsimp only
   refine RS.gd fun _ _=>zh (a:=a4+1) (fun p=>cw n true p x) (fun p=>cw n true p x') (by omega) (Fb (C:=Cx.mk s T b s T b 0 false) (k:=false) (k':=true) (sN n) hS (by omega) hx) fun x x' a6 h6 h7 hx=>?_
   dsimp only
   exact RS.gd fun _ _=>hnx h7 hx
theorem BE (h0:0≤a):RX EE s T b a (bM (n+1) j):=by
 show RS _ _ (cK n (ai n) j (aY s T a b false none)) (cK n (ai n) j (aY s T a b true none))
 unfold cK
 by_cases hb:uH T false a
 ·exact RS.yC (qp hb)
 obtain ⟨t,ht,_,hk7,hR⟩:=xH hb h0
 refine A2 h0 hR fun _=>zh (a:=a+1) (P:=fun x x':Bool×aj=>EE x.2 x'.2) (fun p=>cu n true p j _) (fun p=>cu n true p j _) (by omega) (Fc (C:=Cx.mk s T b s T b 0 false) (k:=false) (k':=true) (sN n) hS (by omega)) fun x x' a6 h6 h7 hx=>?_
 exact RS.gd fun _ _=>fin h7 hx
theorem EJ (h0:0≤a):RX EE s T b a (cM (n+1)):=by
 show RS _ _ (dG n (ai n) (aY s T a b false none)) (dG n (ai n) (aY s T a b true none))
 unfold dG
 by_cases hb:uH T false a
 ·refine RS.yC (gZ.bind fun c e=>?_)
  obtain ⟨v,rfl⟩:=qo hb c e
  exact qp hb
 obtain ⟨t,ht,_,hk7,hR⟩:=xH hb h0
 refine tf h0 hR fun v v' a4 h4 e4=>?_
 dsimp only
 refine A2 h0 h4 fun _=>zh (a:=a+1) (fun p=>cT n true p _) (fun p=>cT n true p _) (by omega) (Fg (C:=Cx.mk s T b s T b 0 false) (k:=false) (k':=true) (sN n) hS (by omega) .leaf) fun x x' a6 h6 h7 hx=>?_
 exact RS.gd fun _ _=>fin h7 hx
theorem EK (h0:0≤a):RX (LR EE) s T b a (cL (n+1)):=by
 show RS _ _ (dF n (ai n) (aY s T a b false none)) (dF n (ai n) (aY s T a b true none))
 unfold dF
 by_cases hb:uH T false a
 ·exact RS.yC (qp hb)
 obtain ⟨t,ht,_,hk7,hR⟩:=xH hb h0
 refine A2 h0 hR fun _=>zh (a:=a+1) (fun p=>cU n true p []) (fun p=>cU n true p []) (by omega) (Ff (C:=Cx.mk s T b s T b 0 false) (k:=false) (k':=true) (sN n) hS (by omega)) fun x x' a6 h6 h7 hx=>?_
 exact RS.gd fun _ _=>fin h7 hx
theorem BF (h0:0≤a):RX EE s T b a (ck (n+1) j):=by
 show RS _ _ (di n (ai n) j (aY s T a b false none)) (di n (ai n) j (aY s T a b true none))
 unfold di
 by_cases hb:uH T false a
 ·refine RS.yC (gZ.bind fun c e=>?_)
  obtain ⟨v,rfl⟩:=qo hb c e
  dsimp only
  refine gZ.jn (gZ.br (fun _=>gZ.mY ?_) (fun _=>gZ.mY ?_))<;>
  ·cases n with
   | zero=>exact fun r e=>by cases e
   | succ n=>exact qp hb
 obtain ⟨t,ht,_,hk7,hR⟩:=xH hb h0
 refine tf h0 hR fun v v' a4 h4 e4=>?_
 dsimp only
 refine RS.jn (fun e e'=>EE e e') (fun e e' he=>?_) (fun j0 j0' hj=>RS.br rfl (fun _=>hj _ _ .leaf) (fun _=>hj _ _ .leaf))
 have hx:=he.x
 cases n with
 | zero=>exact RS.nil
 | succ n=>
  refine RS.vq (Z':=fun r=>Z2 s T b r.2.2) (W:=fun r r'=>V2 s T b r.2.2 r'.2.2∧LR DD r.1 r'.1∧r'.2.1=r.2.1) ?_ (fun c hc x e=>by cases e;exact hc) fun r r' h=>?_
  ·show RS _ _ (dw n (ai n) j (aY s T a b false none)) (dw n (ai n) j (aY s T a4 b true none))
   unfold dw
   refine A2 h0 h4 fun hnc=>zh (a:=a+1) (P:=fun x x':Bool×List o×List (List UInt8)=>LR DD x.2.1 x'.2.1∧x'.2.2=x.2.2) (fun p=>cS n false p j [] []) (fun p=>cS n false p j [] []) (by omega) (Fe (C:=Cx.mk s T b s T b 0 false) (k:=false) (k':=true) (sN n) hS (by omega) (.inl rfl)) fun x x' a6 h6 h7 hx=>?_
   refine RS.gd fun _ _=>?_
   dsimp only
   by_cases hl:sO T (a6+1)
   ·by_cases hE:BD T (a6+1+1)
    ·exact RS.ok ⟨⟨_,_,rfl,rfl,h7,.inr ⟨hl,hE,.inl rfl⟩⟩,hx⟩
    ·exact RS.D0 ⟨_,rfl,by have:=h7.1;omega,hl,hE⟩
   ·exact RS.ok ⟨⟨_,_,rfl,rfl,h7,.inl ⟨hl,rfl⟩⟩,hx⟩
  ·obtain ⟨l,tl,p⟩:=r
   obtain ⟨l',tl',p'⟩:=r'
   obtain ⟨h1,hl,ht⟩:=h
   dsimp only at h1 hl ht;subst ht
   dsimp only
   rw[hx.k,hx.t,hx.n,hx.a,hx.b]
   exact RS.ok ⟨h1,EE.of .nil hl⟩
theorem Dh (ih:GS n) (h0:0≤a) {t:au} (ht:T[a.toNat]?=some t) (hk:t.Kind=1):RX EE s T b a (cx (n+1)):=by
 have hnl:¬ sO T a:=fun ⟨u,hu,hk⟩=>by rw[ht] at hu;cases hu;omega
 have hR:R2 T a a:=.inl ⟨hnl,rfl⟩
 show RS _ _ (dx n (ai n) (aY s T a b false none)) (dx n (ai n) (aY s T a b true none))
 unfold dx
 refine oF h0 hR fun t2 t2' a3 h3=>?_
 have e2:t2=t:=by have:=h3.1;rw[ht] at this;cases this;rfl
 subst e2
 obtain ⟨rfl,rfl⟩:=h3.here (by omega)
 dsimp only
 refine tf h0 hR fun v v' a4 h4 e4=>?_
 have e4:=e4 hnl
 subst e4
 dsimp only
 have hnc:=Hy h0 ht (by omega)
 refine RS.jn (fun e e'=>EE e e') (fun e e' he=>RS.gd fun _ _=>fin hnc (he.x.sub .nil)) (fun j0 j0' hj=>?_)
 refine RS.br rfl (fun _=>hj _ _ .leaf) (fun _=>RS.jn (fun x y=>y=x) (fun x y h=>?_) (fun j2 j2' hj2=>RS.br rfl (fun _=>hj2 _ _ rfl) (fun _=>hj2 _ _ rfl)))
 subst h
 refine RS.br rfl (fun _=>RS.br rfl (fun _=>hj _ _ .leaf) (fun _=>hj _ _ .leaf)) (fun _=>RS.jn (fun x y=>y=x) (fun x y h=>?_) (fun j2 j2' hj2=>RS.br rfl (fun _=>hj2 _ _ rfl) (fun _=>RS.br rfl (fun _=>hj2 _ _ rfl) (fun _=>RS.br rfl (fun _=>hj2 _ _ rfl) (fun _=>hj2 _ _ rfl)))))
 subst h
 refine RS.br rfl (fun _=>hj _ _ .leaf) (fun _=>?_)
 refine RS.bind (W:=fun r r'=>∃ x,r=(x,aY s T (a4+1) b false none)∧r'=(x,aY s T (a4+1) b true none)) ?_ fun r r' h=>?_
 ·unfold dc
  refine oF h0 hR fun t3 t3' a5 h5=>?_
  have e2:t3=t2':=by have:=h5.1;rw[ht] at this;cases this;rfl
  subst e2
  obtain ⟨rfl,rfl⟩:=h5.here (by omega)
  dsimp only
  refine RS.jn (fun v w=>v=aY s T a5 b false none∧w=aY s T a5 b true none) (fun v w h=>?_) (fun j j' hj=>?_)
  ·obtain ⟨rfl,rfl⟩:=h
   exact RS.gd fun _ _=>RS.ok ⟨_,rfl,rfl⟩
  ·exact RS.br rfl (fun _=>gr) (fun _=>RS.same fun r _=>RS.br rfl (fun _=>gr) (fun _=>hj _ _ ⟨rfl,rfl⟩))
 ·obtain ⟨x,rfl,rfl⟩:=h
  dsimp only
  have hz:∀ {e:aj} {a1:Int},Zs T a1→lM (fun r:aj×L=>Z2 s T b r.2) (.ok (e,aY s T a1 b false none)):=fun h=>BM h
  by_cases hz1:Zs T (a4+1)
  ·refine fun r e=>.inl (yY (Z:=fun r:aj×L=>Z2 s T b r.2) hz1 (fun t ht=>?_) r e)
   dsimp only
   rw[nA ht]
   exact lM.bind fun c e=>by
    cases e
    exact lM.br (fun h=>by cases h) (fun _=>hz hz1)
  have hR1:R2 T (a4+1) (a4+1):=by
   by_cases hl:sO T (a4+1)
   ·by_cases hE:BD T (a4+1+1)
    ·exact .inr ⟨hl,hE,.inl rfl⟩
    ·exact absurd ⟨by omega,hl,hE⟩ hz1
   ·exact .inl ⟨hl,rfl⟩
  refine oF (by omega) hR1 fun t3 t3' a5 h5=>?_
  dsimp only
  rw[h5.op]
  refine RS.same fun r hr=>RS.br rfl (fun hrt=>?_) (fun _=>RS.ok ⟨⟨_,a5,rfl,rfl,hnc,h5.2.1⟩,.leaf⟩)
  obtain ⟨rfl,rfl⟩:=h5.here (by have:=(yV hr hrt).1;omega)
  exact tZ (ih.args (by omega)) (fun x a1 h=>hz h) fun x x' a1 a2 h4 h5 hx=>RS.ok ⟨⟨a1,a2,rfl,rfl,h4,h5⟩,.sub hx⟩
theorem EL (ih:GS n) (h0:0≤a):RX EE s T b a (bS (n+1) j):=by
 by_cases hb:uH T false a
 ·exact RS.yC ((vJ _).tW hb)
 obtain ⟨t,ht,_,hk7,hR⟩:=xH hb h0
 show RS _ _ (b1 n (ai n) j (aY s T a b false none)) (b1 n (ai n) j (aY s T a b true none))
 unfold b1
 refine RS.br rfl (fun h=>by cases h) (fun _=>oF h0 hR fun t2 t2' a3 h3=>?_)
 have e2:t2=t:=by have:=h3.1;rw[ht] at this;cases this;rfl
 subst e2
 obtain ⟨rfl,rfl⟩:=h3.here hk7
 dsimp only
 refine tf h0 hR fun v v' a4 h4 e4=>?_
 have e4:=e4 fun ⟨u,hu,hk⟩=>by rw[ht] at hu;cases hu;exact hk7 hk
 subst e4
 dsimp only
 refine RS.jn (fun v w=>v.1=aY s T a4 b false none∧w.1=aY s T a4 b true none∧EE v.2 w.2∧t2'.Kind≠6) (fun v w h=>?_) (fun j0 j0' hj=>?_)
 ·obtain ⟨p,e⟩:=v
  obtain ⟨p',e'⟩:=w
  obtain ⟨g1,g2,he,hk⟩:=h
  dsimp only at g1 g2 he;subst g1 g2;dsimp only
  exact RS.gd fun _ _=>fin (Hy h0 ht hk) he
 ·have hp:=fun {F:L→D (aj×L)} (h:RX EE s T b a4 F)=>tZ (Z:=fun r=>Z2 s T b r.2) (V:=fun r r'=>V2 s T b r.2 r'.2∧EE r.1 r'.1) (K:=.ok) (K':=.ok) h (fun x a1 h=>BM h) fun x x' a1 a2 h4 h5 hx=>RS.ok ⟨⟨a1,a2,rfl,rfl,h4,h5⟩,hx⟩
  refine RS.br rfl (fun h=>hp (ih.named h0 ht (by simpa using h))) (fun _=>?_)
  refine RS.br rfl (fun h=>RS.same fun y _=>hj _ _ ⟨rfl,rfl,.leaf,by simp at h;omega⟩) (fun _=>?_)
  refine RS.br rfl (fun h=>hj _ _ ⟨rfl,rfl,.leaf,by simp at h;omega⟩) (fun _=>?_)
  refine RS.br rfl (fun h=>?_) (fun _=>?_)
  ·refine RS.bind ((sN n).g.tX rfl) fun r r' h2=>?_
   rw[h2.1,h2.2.1]
   exact hj _ _ ⟨rfl,rfl,h2.2.2,by simp at h;omega⟩
  refine RS.same fun r hr=>RS.br rfl (fun h=>hj _ _ ⟨rfl,rfl,.leaf,by have:=(yV hr h).1;omega⟩) (fun _=>?_)
  refine RS.same fun r hr=>RS.br rfl (fun h=>hj _ _ ⟨rfl,rfl,.leaf,by have:=(yV hr h).1;omega⟩) (fun _=>?_)
  refine RS.same fun r hr=>RS.br rfl (fun h=>hp (ih.parens h0)) (fun _=>?_)
  refine RS.same fun r hr=>RS.br rfl (fun h=>hp (ih.rM h0)) (fun _=>?_)
  exact RS.same fun r hr=>RS.br rfl (fun h=>hp (ih.list h0)) (fun _=>gr)
theorem EM (ih:GS n) (h0:0≤a):RX EE s T b a (aD (n+1) j):=by
 by_cases hb:uH T false a
 ·exact RS.yC ((vJ _).expr hb)
 obtain ⟨t,ht,_,hk7,hR⟩:=xH hb h0
 show RS _ _ (cB n (ai n) j (aY s T a b false none)) (cB n (ai n) j (aY s T a b true none))
 unfold cB
 dsimp only
 refine RS.jn (fun v w=>∃ z,v=(aY s T a b false none,z)∧w=(aY s T a b true none,z)) (fun v w h=>?_) (fun j0 j0' hj=>?_)
 ·obtain ⟨z,rfl,rfl⟩:=h
  dsimp only
  refine RS.H6 (fun v w=>V2 s T b v.1 w.1∧EE v.2 w.2) (fun v=>Z2 s T b v.1) (fun v w h=>?_) (fun v h=>?_) (fun j1 j1' hj hz=>?_)
  ·obtain ⟨p,e⟩:=v
   obtain ⟨p',e'⟩:=w
   obtain ⟨⟨a1,a2,g1,g2,h1,h2⟩,he⟩:=h
   dsimp only at g1 g2 he;subst g1 g2;dsimp only
   have h10:=h1.1
   refine RS.jn (fun v w=>∃ a2,v=aY s T a1 b false none∧w=aY s T a2 b true none∧R2 T a1 a2) (fun v w h=>?_) (fun j2 j2' hj=>?_)
   ·obtain ⟨a3,rfl,rfl,h3⟩:=h
    dsimp only
    refine RS.jn (fun v w=>∃ a2,v=aY s T a1 b false none∧w=aY s T a2 b true none∧R2 T a1 a2) (fun v w h=>?_) (fun j3 j3' hj=>?_)
    ·obtain ⟨a4,rfl,rfl,h4⟩:=h
     refine tf (by omega) h4 fun v v' a5 h5 _=>?_
     dsimp only
     refine ky he fun x x' hx=>?_
     dsimp only
     refine RS.Dd (fun (v w:L×List aj)=>V2 s T b v.1 w.1∧LR EE v.2 w.2) (fun v=>Z2 s T b v.1) ?_ (fun v w h next next' hn hz=>?_) _ _ ⟨⟨a1,a5,rfl,rfl,h1,h5⟩,.one hx⟩
     ·rintro ⟨p,l⟩ ⟨a6,hp,h6⟩ next _
      dsimp only at hp;subst hp
      refine yZ h6 (lM.br (fun h=>by cases h) (fun _=>fun r e=>?_))
      simp only[D.el] at e
      split at e
      ·split at e
       ·cases e;exact ⟨a6,rfl,h6⟩
       ·cases e
      ·cases e
     obtain ⟨p,l⟩:=v
     obtain ⟨p',l'⟩:=w
     obtain ⟨⟨a6,a7,g1,g2,h6,h7⟩,hl⟩:=h
     dsimp only at g1 g2 hl;subst g1 g2;dsimp only
     have:=h6.1
     refine A1 (by omega) h7 (fun h8=>?_) (fun a8 h8=>?_)
     ·refine RS.br rfl (fun _=>tZ (ih.alt (by omega)) (fun x a9 h=>?_) fun x x' a9 yX h9 h10 hx=>RS.gd fun _ _=>hn _ _ ⟨⟨a9,yX,rfl,rfl,h9,h10⟩,hl.snoc hx⟩) (fun h=>by cases h)
      dsimp only
      unfold D.gd
      split
      ·exact hz _ ⟨a9,rfl,h⟩
      ·exact fun r e=>by cases e
     ·exact RS.br rfl (fun h=>by cases h) (fun _=>RS.el fun x x' _ _ _ _=>RS.ok ⟨⟨a6,a8,rfl,rfl,h6,h8⟩,.sub hl⟩)
    ·refine oF (by omega) h3 fun t t' a4 h4=>?_
     dsimp only
     rw[h4.op]
     exact RS.same fun r _=>RS.br rfl (fun _=>gr) (fun _=>hj _ _ ⟨a4,rfl,rfl,h4.2.1⟩)
   ·refine RS.br rfl (fun _=>?_) (fun _=>hj _ _ ⟨a2,rfl,rfl,h2⟩)
    refine oF (by omega) h2 fun t t' a4 h4=>?_
    dsimp only
    rw[h4.op]
    exact RS.same fun r _=>RS.br rfl (fun _=>RS.ok ⟨⟨a1,a4,rfl,rfl,h1,h4.2.1⟩,he⟩) (fun _=>hj _ _ ⟨a4,rfl,rfl,h4.2.1⟩)
  ·obtain ⟨p,e⟩:=v
   obtain ⟨a1,hp,h1⟩:=h
   dsimp only at hp;subst hp;dsimp only
   show lM _ (D.br (!z) _ _)
   refine lM.br (fun _=>yY h1 fun t ht=>?_) (fun _=>?_)
   ·dsimp only
    rw[nA ht]
    exact lM.bind fun c e=>by
     cases e
     exact lM.br (fun _=>BM h1) (fun h=>by cases h)
   ·refine yY h1 fun t ht=>?_
    dsimp only
    rw[nA ht]
    exact lM.bind fun c e=>by
     cases e
     exact lM.br (fun _=>lM.yC kv) (fun h=>by cases h)
  ·exact RS.br rfl (fun _=>tZ (ih.alt h0) (fun x a1 h=>hz _ ⟨a1,rfl,h⟩) fun x x' a1 a2 h4 h5 hx=>hj _ _ ⟨⟨a1,a2,rfl,rfl,h4,h5⟩,hx⟩) (fun _=>tZ (ih.alt h0) (fun x a1 h=>hz _ ⟨a1,rfl,h⟩) fun x x' a1 a2 h4 h5 hx=>hj _ _ ⟨⟨a1,a2,rfl,rfl,h4,h5⟩,hx⟩)
 ·refine RS.br rfl (fun _=>oF h0 hR fun t2 t2' a3 h3=>?_) (fun h=>by cases h)
  have e2:t2=t:=by have:=h3.1;rw[ht] at this;cases this;rfl
  subst e2
  obtain ⟨rfl,rfl⟩:=h3.here hk7
  dsimp only
  exact RS.same fun r _=>hj _ _ ⟨r,rfl,rfl⟩
theorem Gl:∀ n,GS n:=by
 intro n
 induction n with
 | zero=>constructor<;>(intros;exact RS.nil)
 | succ n ih=>
  exact {
      expr:=fun h=>EM ih h,alt:=fun h=>Gj ih h,rL:=fun h=>EH ih h,bin:=fun h=>Gk ih h,unary:=fun h=>Dg ih h,post:=fun h=>EI ih h,tW:=fun h=>EL ih h
      named:=fun h ht hk=>Dh ih h ht hk,parens:=fun h=>BE h,rM:=fun h=>BF h,list:=fun h=>EJ h,args:=fun h=>EK h }
end
theorem mW:∀ (p s:List UInt8),p.isPrefixOf s=(s.take p.length==p)
 | [],s=>by simp
 | a::p,[]=>by simp
 | a::p,b::s=>by
  rw[List.isPrefixOf_cons_cons,mW p s]
  simp only[List.length_cons,List.take_succ_cons]
  rw[Bool.eq_iff_iff]
  simp
  exact fun _=>⟨fun h=>h.symm,fun h=>h.symm⟩
theorem jG (s p:List UInt8):strings_HasPrefix s p=.ok (p.isPrefixOf s):=by
 unfold strings_HasPrefix stringslite_HasPrefix
 rw[mW]
 by_cases h:p.length≤s.length
 ·have e:decide ((s.length:Int)≥(p.length:Int))=true:=by simp;omega
  rw[e]
  simp only[D.br,D.gd]
  rw[if_pos ⟨by omega,by omega⟩]
  simp[D.bind,iU]
 ·have e:decide ((s.length:Int)≥(p.length:Int))=false:=by simp;omega
  rw[e]
  simp only[D.br,D.bind]
  congr 1
  symm
  apply beq_eq_false_iff_ne.2
  intro q
  have:=congrArg List.length q
  simp at this;omega
theorem lB {α X:Type} (body:(X→D α)→X→D α) (n:Nat) (x:X):D.iter body (n+1) x=body (D.iter body n) x:=rfl
section
variable {α X:Type} {u w:List UInt8} {m:Nat}
theorem A3 {i:Nat} {x y:UInt8} (h:u[i]?=some x) (h':(u++w)[i]?=some y):y=x:=by
 have hl:=(List.getElem?_eq_some_iff.1 h).1
 rw[List.getElem?_append_left hl,h] at h';cases h';rfl
theorem Af {K:UInt8→D α}:D.el (u++41::w) (u.length:Int) K=K 41:=by
 simp[D.el]
theorem ua {β:Type} {Z:α→Prop} {V:α→β→Prop} {v:Int} {K:UInt8→D α} {K':UInt8→D β} (h:∀ x,0≤v→u[v.toNat]?=some x→RS Z V (K x) (K' x)):RS Z V (D.el u v K) (D.el (u++w) v K'):=
 RS.el fun x y h0 _ hx hy=>by rw[A3 hx hy];exact h x h0 hx
theorem EN (hu:u≠[]):RS NZ (fun a b=>b=a) (jE m u) (jE m (u++41::w)):=by
 have hl:1≤u.length:=by cases u with|nil=>exact absurd rfl hu|cons=>simp
 unfold jE
 refine RS.jn (fun v v'=>v'=v) (fun v v' h=>?_) (fun j j' hj=>?_)
 ·subst h
  exact RS.br rfl (fun _=>ua fun x _ _=>RS.same fun r _=>RS.br rfl (fun _=>RS.ok rfl) (fun _=>ua fun x _ _=>RS.br rfl (fun _=>RS.ok rfl) (fun _=>RS.ok rfl))) (fun _=>RS.ok rfl)
 ·refine RS.iter (fun (v v':Int)=>v'=v∧0≤v∧v≤u.length) (fun v v' h next next' hn=>?_) _ _ ⟨rfl,by omega,by omega⟩
  obtain ⟨rfl,h0,h1⟩:=h
  by_cases hlt:v'<u.length
  ·refine RS.jn (fun _ _=>True) (fun _ _ _=>RS.gd fun _ _=>hn _ _ ⟨rfl,by omega,by omega⟩) (fun j2 j2' hj2=>?_)
   have hj2:=hj2 () () trivial
   refine RS.br (decide_eq_decide.2 (by simp;omega)) (fun _=>?_) (fun _=>hj _ _ rfl)
   refine ua fun x _ _=>RS.same fun r _=>RS.br rfl (fun _=>hj2) (fun _=>RS.br rfl (fun _=>?_) (fun _=>?_))
   ·refine ua fun x _ _=>RS.same fun r _=>RS.br rfl (fun _=>hj2) (fun _=>RS.br rfl (fun _=>ua fun x _ _=>RS.br rfl (fun _=>hj2) (fun _=>hj _ _ rfl)) (fun _=>hj _ _ rfl))
   ·exact RS.br rfl (fun _=>ua fun x _ _=>RS.br rfl (fun _=>hj2) (fun _=>hj _ _ rfl)) (fun _=>hj _ _ rfl)
  ·obtain rfl:v'=u.length:=by omega
   have e1:decide ((u.length:Int)<(u.length:Int))=false:=by simp
   have e2:decide ((u.length:Int)<((u++41::w).length:Int))=true:=decide_eq_true (by simp;omega)
   have e3:decide ((u.length:Int)>0)=true:=by simp;omega
   have e4:((u.length:Int)==0)=false:=by simp;omega
   rw[e1,e2,e3,e4]
   simp only[D.jn,D.br,Af]
   exact hj _ _ rfl
theorem wL {j j':Int→D Int} (hj:∀ v:Int,0≤v→v≤u.length→RS NZ (fun a b=>b=a) (j v) (j' v)) {v:Int} (h0:0≤v) (h1:v≤u.length) :
  RS NZ (fun a b=>b=a) (D.iter (fun next (v:Int)=>D.br (decide (v<(List.length u:Int))) (D.el u v fun b=>D.bind (gv (b.toNat:Int)) fun y=>D.br y (D.gd (bK (v+1)) (next (v+1))) (j v)) (j v)) m v)
   (D.iter (fun next (v:Int)=>D.br (decide (v<(List.length (u++41::w):Int))) (D.el (u++41::w) v fun b=>D.bind (gv (b.toNat:Int)) fun y=>D.br y (D.gd (bK (v+1)) (next (v+1))) (j' v)) (j' v)) m v):=by
 refine RS.iter (fun (v v':Int)=>v'=v∧0≤v∧v≤u.length) (fun v v' h next next' hn=>?_) _ _ ⟨rfl,h0,h1⟩
 obtain ⟨rfl,h0,h1⟩:=h
 by_cases hlt:v'<u.length
 ·refine RS.br (decide_eq_decide.2 (by simp;omega)) (fun _=>?_) (fun _=>hj _ h0 h1)
  exact ua fun x _ _=>RS.same fun r _=>RS.br rfl (fun _=>RS.gd fun _ _=>hn _ _ ⟨rfl,by omega,by omega⟩) (fun _=>hj _ h0 h1)
 ·obtain rfl:v'=u.length:=by omega
  have e1:decide ((u.length:Int)<(u.length:Int))=false:=by simp
  have e2:decide ((u.length:Int)<((u++41::w).length:Int))=true:=decide_eq_true (by simp;omega)
  rw[e1,e2]
  simp only[D.br,Af]
  exact hj _ h0 h1
theorem BG:RS NZ (fun a b=>b=a) (jC m u) (jC m (u++41::w)):=by
 unfold jC
 refine RS.jn (fun (v v':Int)=>v'=v∧0≤v∧v≤u.length) (fun v v' h=>?_) (fun j j' hj=>?_)
 ·obtain ⟨rfl,h0,h1⟩:=h
  refine RS.jn (fun (z z':Bool)=>z'=z∧(z=true→v'+1<u.length)) (fun z z' h=>?_) (fun j j' hj=>?_)
  ·obtain ⟨rfl,h2⟩:=h
   refine RS.br rfl (fun h=>RS.gd fun _ _=>?_) (fun _=>RS.ok rfl)
   have:=h2 h
   exact wL (fun v _ _=>RS.ok rfl) (by omega) (by omega)
  ·refine RS.gd fun _ _=>?_
   by_cases hlt:v'+1<u.length
   ·refine RS.br (decide_eq_decide.2 (by simp;omega)) (fun _=>?_) (fun _=>hj _ _ ⟨rfl,fun h=>by cases h⟩)
    exact ua fun x _ _=>RS.br rfl (fun _=>RS.gd fun _ _=>ua fun x _ _=>RS.same fun r _=>hj _ _ ⟨rfl,fun _=>hlt⟩) (fun _=>hj _ _ ⟨rfl,fun h=>by cases h⟩)
   ·refine RS.GD (fun h=>absurd (of_decide_eq_true h) hlt) (fun _=>?_)
    have hj:=hj false false ⟨rfl,fun h=>by cases h⟩
    refine RS.G9 (fun _=>?_) (fun _=>hj)
    refine RS.HU fun y h2 hy=>RS.G9 (fun h46=>RS.HT fun _=>RS.HU fun z _ hz=>?_) (fun _=>hj)
    have e:v'+1=u.length:=by
     by_cases he:v'=u.length
     ·rw[he] at hy;simp at hy;subst hy;simp at h46
     ·omega
    rw[e] at hz;simp at hz;subst hz
    exact hj
 ·exact wL (fun v h0 h1=>hj _ _ ⟨rfl,h0,h1⟩) (by omega) (by omega)
theorem Ag:RS (fun c=>c.1=0) (fun a b=>b=a) (iP m u) (iP m (u++41::w)):=by
 unfold iP
 refine RS.iter (fun (v v':Bool×Int)=>v'=v∧0≤v.2) (fun v v' h next next' hn=>?_) _ _ ⟨rfl,by simp⟩
 obtain ⟨rfl,h0⟩:=h
 by_cases hlt:v'.2<u.length
 ·refine RS.br (decide_eq_decide.2 (by simp;omega)) (fun _=>?_) (fun _=>RS.ok rfl)
  refine RS.jn (fun (x y:Bool×Int)=>y=x∧0≤x.2) (fun x y h=>by rw[h.1];exact RS.gd fun _ _=>hn _ _ ⟨rfl,by dsimp only;have:=h.2;omega⟩) (fun j j' hj=>?_)
  refine ua fun x _ _=>RS.br rfl (fun _=>RS.gd fun _ _=>RS.ok rfl) (fun _=>ua fun x _ _=>RS.br rfl (fun _=>RS.br rfl (fun _=>RS.gd fun _ _=>hj _ _ ⟨rfl,by dsimp only;omega⟩) (fun _=>RS.gd fun _ _=>?_)) (fun _=>hj _ _ ⟨rfl,h0⟩))
  by_cases hl2:v'.2+1<u.length
  ·refine RS.br (decide_eq_decide.2 (by simp;omega)) (fun _=>RS.gd fun _ _=>ua fun x _ _=>RS.gd fun _ _=>hj _ _ ⟨rfl,by dsimp only;omega⟩) (fun _=>RS.gd fun _ _=>hj _ _ ⟨rfl,by dsimp only;omega⟩)
  ·refine RS.GD (fun h=>absurd (of_decide_eq_true h) hl2) (fun _=>?_)
   have e:v'.2+1=u.length:=by omega
   rw[e]
   refine RS.G9 (fun _=>RS.HT fun _=>?_) (fun _=>RS.gd fun _ _=>hj _ _ ⟨rfl,by dsimp only;omega⟩)
   rw[Af]
   exact RS.gd fun _ _=>hj _ _ ⟨rfl,by dsimp only;omega⟩
 ·exact RS.GD (fun h=>absurd (of_decide_eq_true h) hlt) (fun _=>RS.D0 rfl)
theorem xI:∀ {p u:List UInt8},u≠[]→p.tail.contains 41=false→p.isPrefixOf (u++41::w)=p.isPrefixOf u
 | [],_,_,_=>by simp
 | _::_,[],h,_=>absurd rfl h
 | [a],b::u,_,_=>by rw[List.cons_append,List.isPrefixOf_cons_cons,List.isPrefixOf_cons_cons];simp
 | a::c::p,[b],_,h=>by
  simp at h
  have:(c==41)=false:=by simp;exact fun q=>h.1 q.symm
  simp[List.isPrefixOf,this]
 | a::c::p,b::d::u,_,h=>by
  have:=xI (p:=c::p) (u:=d::u) (by simp) (by simp at h ⊢;exact h.2)
  rw[List.isPrefixOf_cons_cons,List.cons_append,List.isPrefixOf_cons_cons,this]
theorem zi (hu:u≠[]):RS NZ (fun a b=>b=a∧a.length≤u.length) (eV m u) (eV m (u++41::w)):=by
 unfold eV
 refine RS.iter (fun (v v':Int)=>v'=v) (fun v v' h next next' hn=>?_) _ _ rfl
 subst h
 refine RS.br rfl (fun _=>?_) (fun _=>RS.ok ⟨rfl,by simp⟩)
 refine RS.el fun x x' _ _ hx hx'=>?_
 rw[hx] at hx';cases hx'
 refine RS.same fun y hy=>?_
 have hy2:∀ p,p∈y→p.tail.contains 41=false:=by
  have hm:=List.mem_of_getElem? hx
  unfold strings_Split D.gd at hy
  split at hy
  ·cases hy
   simp only[List.mem_cons,List.not_mem_nil,or_false] at hm
   rcases hm with rfl|rfl|rfl<;>decide
  ·cases hy
 refine RS.iter (fun (v v':Int)=>v'=v) (fun v v' h next2 next2' hn2=>?_) _ _ rfl
 subst h
 refine RS.br rfl (fun _=>?_) (fun _=>RS.gd fun _ _=>hn _ _ rfl)
 refine RS.el fun p p' _ _ hp hp'=>?_
 rw[hp] at hp';cases hp'
 rw[jG,jG,xI hu (hy2 p (List.mem_of_getElem? hp))]
 refine RS.same fun r hr=>RS.br rfl (fun h=>RS.ok ⟨rfl,?_⟩) (fun _=>RS.gd fun _ _=>hn2 _ _ rfl)
 subst h
 have hr:p.isPrefixOf u=true:=D.ok.inj hr
 rw[mW] at hr
 have:=congrArg List.length (beq_iff_eq.1 hr)
 simp at this;omega
end
def sR (π:Nat) (t:au):au:=⟨t.Kind,t.Text,t.Pos+π,t.End+π⟩
def wM (pre w:List UInt8) (pt:List au) (x:P):P:=⟨pre++(x.text++41::w),x.at_+pre.length,pt++x.out.map (sR pre.length),x.line⟩
section
variable {pre w:List UInt8} {pt:List au} {m:Nat} {x:P}
theorem zj {s:List UInt8} {i:Int} (h:0≤i) (h1:i≤s.length):dp (pre++(s++41::w)) (i+pre.length)=dp s i++41::w:=by
 simp only[dp]
 rw[show (i+(pre.length:Int)).toNat=pre.length+i.toNat by omega,← List.drop_drop,List.drop_left,List.drop_append_of_le_length (by omega)]
theorem Di {s:List UInt8} {i j:Int} (h:0≤i) (h1:j≤s.length):sub (pre++(s++41::w)) (i+pre.length) (j+pre.length)=sub s i j:=by
 simp only[sub]
 rw[show (i+(pre.length:Int)).toNat=pre.length+i.toNat by omega,← List.drop_drop,List.drop_left,show (j+(pre.length:Int)).toNat - (pre.length+i.toNat)=j.toNat - i.toNat by omega]
 by_cases h2:i≤s.length
 ·rw[List.drop_append_of_le_length (by omega),List.take_append_of_le_length (by simp;omega)]
 ·rw[show j.toNat - i.toNat=0 by omega];simp
theorem zp:(wM pre w pt x).text=pre++(x.text++41::w):=rfl
theorem Ah:(wM pre w pt x).at_=x.at_+pre.length:=rfl
theorem Dj:(wM pre w pt x).line=x.line:=rfl
theorem xJ {k n:Int} {t:List UInt8}:RS NZ (fun r r'=>r'=wM pre w pt r∧r.text=x.text∧r.at_=x.at_+n) (bD k t n x) (bD k t n (wM pre w pt x)):=by
 unfold bD
 dsimp only [wM]
 refine RS.gd fun _ _=>RS.gd fun _ _=>RS.gd fun _ _=>?_
 have e:pt++x.out.map (sR pre.length)++[au.mk k t (x.at_+pre.length) (x.at_+pre.length+n)]=pt++(x.out++[au.mk k t x.at_ (x.at_+n)]).map (sR pre.length):=by
  simp[sR];omega
 have e2:x.at_+(pre.length:Int)+n=x.at_+n+pre.length:=by omega
 rw[e,e2]
 refine RS.br rfl (fun _=>RS.ok ⟨rfl,rfl,rfl⟩) (fun _=>RS.jn (fun v w=>w=v) (fun v w h=>?_) (fun j j' hj=>?_))
 ·subst h
  refine RS.br rfl (fun _=>RS.ok ⟨rfl,rfl,rfl⟩) (fun _=>RS.br rfl (fun _=>?_) (fun _=>RS.ok ⟨rfl,rfl,rfl⟩))
  refine RS.gd fun _ _=>RS.gd fun _ _=>RS.same fun y _=>RS.ok ⟨rfl,rfl,rfl⟩
 ·exact RS.br rfl (fun _=>hj _ _ rfl) (fun _=>RS.br rfl (fun _=>hj _ _ rfl) (fun _=>RS.br rfl (fun _=>hj _ _ rfl) (fun _=>hj _ _ rfl)))
theorem EO {n n':Int} {t t':List UInt8} {x':P}:RS NZ (fun r _=>r.text=x.text∧r.at_=x.at_+n∧∃ u,r.out=x.out++[u]∧u.Kind=6) (bD 6 t n x) (bD 6 t' n' x'):=by
 unfold bD
 refine RS.gd fun _ _=>RS.gd fun _ _=>RS.gd fun _ _=>?_
 exact RS.br rfl (fun _=>RS.ok ⟨rfl,rfl,_,rfl,rfl⟩) (fun h=>by cases h)
theorem Gm:RS (fun r=>r.1=false) (fun r r'=>r.1=true∧r'.1=true∧r'.2=wM pre w pt r.2∧r.2.text=x.text∧0≤r.2.at_∧r.2.at_≤(x.text.length:Int)) (gq m x) (gq m (wM pre w pt x)):=by
 unfold gq
 simp only[zp,Ah]
 refine RS.gd fun h _=>?_
 simp only[zj h.1 h.2]
 refine RS.vq Ag (fun c hc a e=>?_) fun y y' hy=>?_
 ·have e1:(c.1==0)=true:=by rw[hc];rfl
  rw[e1] at e;cases e;rfl
 ·subst hy
  refine RS.br rfl (fun _=>RS.D0 rfl) (fun _=>RS.gd fun _ _=>RS.gd fun hg _=>?_)
  simp only[show x.at_+(pre.length:Int)+y'.1=x.at_+y'.1+pre.length by omega,Di h.1 hg.2.2]
  refine RS.br rfl (fun _=>RS.gd fun _ _=>RS.gd fun _ _=>RS.same fun z _=>RS.br rfl (fun _=>RS.D0 rfl) (fun _=>?_)) (fun _=>RS.same fun z _=>RS.br rfl (fun _=>RS.D0 rfl) (fun _=>?_))
  ·exact RS.gd fun _ _=>RS.gd fun _ _=>RS.bind xJ fun r r' h=>RS.ok ⟨rfl,rfl,h.1,h.2.1,by have:=h.2.2;dsimp only;omega,by have:=h.2.2;dsimp only;omega⟩
  ·exact RS.bind xJ fun r r' h=>RS.ok ⟨rfl,rfl,h.1,h.2.1,by have:=h.2.2;dsimp only;omega,by have:=h.2.2;dsimp only;omega⟩
theorem zq:∀ {u v:List UInt8} {i:Nat},mn u [10]=some i→mn (u++v) [10]=some i
 | [],_,_,h=>by simp[mn] at h
 | b::u,v,i,h=>by
  simp only[mn,List.cons_append] at h ⊢
  have e:∀ l,([10]:List UInt8).isPrefixOf (b::l)=(10==b):=fun l=>by simp[List.isPrefixOf]
  rw[e] at h ⊢
  split at h
  ·rename_i q;rw[if_pos q];exact h
  ·rename_i q
   rw[if_neg q]
   cases q2:mn u [10] with
   | none=>rw[q2] at h;cases h
   | some k=>rw[q2] at h;rw[zq q2];exact h
def Cm (s:List UInt8) (r:P):Prop:=r.text=s∧r.at_=s.length∧∃ o t,r.out=o++[t]∧t.Kind=6
theorem EP (hlt:x.at_<x.text.length):RS (fun r=>r.1=false) (fun r r'=>r.1=true∧r'.1=true∧(r'.2=wM pre w pt r.2∧r.2.text=x.text∧0≤r.2.at_∧r.2.at_≤(x.text.length:Int)∨Cm x.text r.2)) (ej m x) (ej m (wM pre w pt x)):=by
 unfold ej
 simp only[zp,Ah]
 refine RS.gd fun h _=>?_
 simp only[zj h.1 h.2]
 have hl:=jR (c:=x.text) (i:=x.at_) h.1 h.2
 have hu:dp x.text x.at_≠[]:=fun q=>by rw[q] at hl;simp at hl;omega
 generalize hU:dp x.text x.at_=u at hl hu ⊢
 have A:∀ {k n:Int} {t:List UInt8},0≤n→n≤u.length→RS (fun r=>r.1=false) (fun r r'=>r.1=true∧r'.1=true∧(r'.2=wM pre w pt r.2∧r.2.text=x.text∧0≤r.2.at_∧r.2.at_≤(x.text.length:Int)∨Cm x.text r.2)) (D.bind (bD k t n x) fun r=>.ok (true,r)) (D.bind (bD k t n (wM pre w pt x)) fun r=>.ok (true,r)):=
  fun {k n t} g1 g2=>RS.bind xJ fun r r' h=>RS.ok ⟨rfl,rfl,.inl ⟨h.1,h.2.1,by have:=h.2.2;dsimp only;omega,by have:=h.2.2;dsimp only;omega⟩⟩
 rw[jG,jG,xI hu (by decide)]
 refine RS.same fun y _=>RS.br rfl (fun _=>?_) (fun _=>?_)
 ·refine RS.bind (W:=fun c c'=>c'.1=c.1∧c.1.length≤u.length∨c.1=u) ?_ fun c c' hc=>?_
  ·unfold strings_Cut
   refine RS.gd fun _ _=>RS.ok ?_
   cases q:mn u [10] with
   | none=>exact .inr rfl
   | some i=>
    have:=xy _ _ _ q
    rw[zq q]
    exact .inl ⟨by dsimp only;rw[List.take_append_of_le_length this],by simp;omega⟩
  ·rcases hc with ⟨h1,h2⟩|h1
   ·rw[h1];exact RS.gd fun _ _=>A (by omega) (by omega)
   ·refine RS.gd fun _ _=>RS.bind EO fun r r' h=>RS.ok ⟨rfl,rfl,.inr ⟨h.1,?_,?_⟩⟩
    ·dsimp only;rw[h.2.1,h1];omega
    ·obtain ⟨t,h2,h3⟩:=h.2.2;exact ⟨_,t,h2,h3⟩
 ·refine RS.bind (EN hu) fun y y' hy=>?_
  subst hy
  refine RS.br rfl (fun _=>RS.gd fun hg _=>?_) (fun _=>?_)
  ·have e:iU (u++41::w) y'=iU u y':=by simp only[iU];rw[List.take_append_of_le_length (by omega)]
   rw[e];exact A hg.1 hg.2
  ·refine ua fun b _ _=>RS.same fun d _=>RS.br rfl (fun _=>?_) (fun _=>RS.br rfl (fun _=>RS.vq Gm (fun c hc a e=>by cases e;exact hc) fun r r' h=>RS.ok ⟨h.1,h.2.1,.inl h.2.2⟩) (fun _=>?_))
   ·refine RS.bind BG fun y y' hy=>?_
    subst hy
    refine RS.gd fun hg _=>?_
    have e:iU (u++41::w) y'=iU u y':=by simp only[iU];rw[List.take_append_of_le_length (by omega)]
    rw[e]
    exact RS.same fun z _=>RS.br rfl (fun _=>RS.D0 rfl) (fun _=>RS.gd fun _ _=>A hg.1 hg.2)
   ·refine RS.bind (zi hu) fun y y' hy=>?_
    rw[hy.1]
    exact RS.br rfl (fun _=>RS.D0 rfl) (fun _=>A (by omega) (by omega))
end
def gw (n:Nat) (p0:List UInt8):(P→D (List au×dH))→P→D (List au×dH):=
 fun next10 (v9:P)=>br (decide (v9.at_<(List.length p0:Int))) (el p0 v9.at_ fun b16=>jn (fun (_:Unit)=>gd (bK (v9.at_+1)) (next10 ((P.mk v9.text (v9.at_+1) v9.out v9.line)))) fun j22=>br ((b16.toNat:Int)==10) (br v9.line (D.bind (bD 7 ([10]:List UInt8) 1 v9) fun y34=>next10 ((P.mk y34.text y34.at_ y34.out false))) (j22 ())) (br ((b16.toNat:Int)==32) (j22 ()) (br ((b16.toNat:Int)==9) (j22 ()) (br ((b16.toNat:Int)==13) (j22 ()) (D.bind (ej n v9) fun y44=>br (!y44.1) (.ok ([],(dH.mk 8 y44.2.at_))) (next10 (y44.2))))))) (D.bind (bD 0 ([]:List UInt8) 0 v9) fun y48=>.ok (y48.out,(dH.mk 0 0)))
theorem A4 (n:Nat) (s:List UInt8):fP n s=D.br (decide ((s.length:Int)>65536)) (.ok ([],dH.mk 2 0)) (D.iter (gw n s) n ⟨s,0,[],false⟩):=rfl
def ZT (a:List au×dH):Prop:=a.2.Errno≠0∨∃ o t e,a.1=o++[t,e]∧t.Kind=6
section
variable {pre w s:List UInt8} {pt:List au} {m:Nat}
theorem xK {k n:Int} {t:List UInt8} {x:P}:bD k t n x=.stuck∨∃ b,bD k t n x=.ok ⟨x.text,x.at_+n,x.out++[au.mk k t x.at_ (x.at_+n)],b⟩:=by
 unfold bD strings_Contains
 simp only[D.gd,D.jn,D.br,D.bind]
 repeat' split
 all_goals first|exact .inl rfl|exact .inr ⟨_,rfl⟩|skip
 all_goals simp_all
theorem ES {x:P} (h:Cm s x):∀ k a,D.iter (gw m s) k x=.ok a→ZT a:=by
 intro k a e
 cases k with
 | zero=>cases e
 | succ k=>
  rw[lB] at e
  unfold gw at e
  obtain ⟨h1,h2,o,t,h3,h4⟩:=h
  have e1:decide (x.at_<(s.length:Int))=false:=by simp;omega
  rw[e1] at e
  rcases xK (k:=0) (n:=0) (t:=[]) (x:=x) with q|⟨b,q⟩
  ·simp only[D.br] at e;rw[q] at e;cases e
  ·simp only[D.br] at e;rw[q] at e;cases e
   exact .inr ⟨o,t,_,by dsimp only;rw[h3];simp;rfl,h4⟩
theorem A5 {Tk:List au→Prop} (hT:∀ k o l,D.iter (gw m (pre++(s++41::w))) k ⟨pre++(s++41::w),s.length+pre.length,o,l⟩=.stuck∨∃ F ts,D.iter (gw m (pre++(s++41::w))) k ⟨pre++(s++41::w),s.length+pre.length,o,l⟩=.ok (o++ts,F)∧F.Errno=0∧Tk ts) :
  ∀ (k k':Nat) {x:P},x.text=s→0≤x.at_→x.at_≤s.length→RS ZT (fun a b=>b.2.Errno=0∧∃ U ts,a.1=U++[au.mk 0 [] s.length s.length]∧b.1=pt++U.map (sR pre.length)++ts∧Tk ts) (D.iter (gw m s) k x) (D.iter (gw m (pre++(s++41::w))) k' (wM pre w pt x))
 | 0,_,_,_,_,_=>RS.nil
 | k+1,0,_,_,_,_=>RS.sD
 | k+1,k'+1,x,hx,h0,h1=>by
  have ih:=fun {x:P} (a:x.text=s) (b:0≤x.at_) (c:x.at_≤s.length)=>A5 hT k k' a b c
  have hcm:=fun {x:P} (h:Cm s x) a=>ES (m:=m) h k a
  by_cases hlt:x.at_<s.length
  ·rw[lB,lB]
   generalize D.iter (gw m s) k=nx at ih hcm ⊢
   generalize D.iter (gw m (pre++(s++41::w))) k'=nx' at ih ⊢
   unfold gw
   simp only[Ah,Dj]
   refine RS.br (decide_eq_decide.2 (by simp;omega)) (fun _=>?_) (fun h=>absurd hlt (of_decide_eq_false h))
   refine RS.el fun b b' _ _ hb hb'=>?_
   rw[show (x.at_+(pre.length:Int)).toNat=pre.length+x.at_.toNat by omega,List.getElem?_append_right (by omega),Nat.add_sub_cancel_left] at hb'
   have eb:=A3 hb hb'
   subst eb
   refine RS.jn (fun _ _=>True) (fun _ _ _=>RS.gd fun _ _=>?_) (fun j j' hj=>?_)
   ·have:=ih (x:=⟨x.text,x.at_+1,x.out,x.line⟩) hx (by dsimp only;omega) (by dsimp only;omega)
    rw[show wM pre w pt ⟨x.text,x.at_+1,x.out,x.line⟩=⟨(wM pre w pt x).text,x.at_+pre.length+1,(wM pre w pt x).out,x.line⟩ by simp[wM];omega] at this
    exact this
   have hj:=hj () () trivial
   refine RS.br rfl (fun _=>RS.br rfl (fun _=>RS.bind xJ fun r r' h=>?_) (fun _=>hj)) (fun _=>RS.br rfl (fun _=>hj) (fun _=>RS.br rfl (fun _=>hj) (fun _=>RS.br rfl (fun _=>hj) (fun _=>?_))))
   ·rw[h.1]
    exact ih (x:=⟨r.text,r.at_,r.out,false⟩) (h.2.1.trans hx) (by have:=h.2.2;dsimp only;omega) (by have:=h.2.2;dsimp only;omega)
   ·refine RS.vq (EP (by rw[hx];exact hlt)) (fun c hc a e=>?_) fun r r' h=>?_
    ·rw[hc] at e;cases e;exact .inl (by simp)
    ·obtain ⟨g1,g2,g3⟩:=h
     rw[g1,g2]
     refine RS.br rfl (fun h=>by cases h) (fun _=>?_)
     rcases g3 with ⟨g4,g5,g6,g7⟩|g4
     ·rw[g4];exact ih (g5.trans hx) g6 (by rw[← hx];exact g7)
     ·rw[hx] at g4
      exact fun a e=>.inl (hcm g4 a e)
  ·have e:x.at_=s.length:=by omega
   rw[lB]
   conv=>arg 3;unfold gw
   rw[show decide (x.at_<(s.length:Int))=false by simp;omega]
   simp only[D.br]
   rcases xK (k:=0) (n:=0) (t:=[]) (x:=x) with q|⟨b,q⟩
   ·rw[q];exact RS.nil
   ·rw[q]
    have hs:wM pre w pt x=⟨pre++(s++41::w),s.length+pre.length,pt++x.out.map (sR pre.length),x.line⟩:=by simp[wM,hx,e]
    rw[hs]
    rcases hT (k'+1) (pt++x.out.map (sR pre.length)) x.line with q2|⟨F,ts,q2,q3,q4⟩
    ·rw[q2];exact RS.sD
    ·rw[q2]
     exact RS.ok ⟨q3,x.out,ts,by dsimp only;rw[e];simp,rfl,q4⟩
end
section
variable {w r s:List UInt8} {n m:Nat}
theorem Gn {c:UInt8} (h1:jD (c.toNat:Int)=.ok false) (_:gv (c.toNat:Int)=.ok false) (h3:((c.toNat:Int)==35)=false):jE (n+1) (c::r)=.ok 0:=by
 unfold jE
 simp[lB,D.jn,D.br,D.el,D.bind,h1,h3,show (0:Int)<r.length+1 by omega]
theorem zr:eV (n+20) (41::r)=.ok [41]:=by
 unfold eV
 simp only[jG]
 rfl
theorem uu:eV (n+20) (40::r)=.ok [40]:=by
 unfold eV
 simp only[jG]
 rfl
theorem xL {c:UInt8} {x:P} (h0:0≤x.at_) (h1:x.at_≤x.text.length) (hs:dp x.text x.at_=c::r) (hc:(c==47)=false) (hw:jD (c.toNat:Int)=.ok false) (hd:gv (c.toNat:Int)=.ok false) (h35:((c.toNat:Int)==35)=false)
  (h34:((c.toNat:Int)==34)=false) (ho:eV (n+20) (c::r)=.ok [c]):ej (n+20) x=D.bind (bD 5 [c] 1 x) fun y=>.ok (true,y):=by
 unfold ej
 rw[hs]
 simp only[D.gd]
 rw[if_pos ⟨h0,h1⟩,jG]
 have e:([47,47]:List UInt8).isPrefixOf (c::r)=false:=by
  have:(47==c)=false:=by rw[← hc,Bool.eq_iff_iff];simp;exact ⟨fun h=>h.symm,fun h=>h.symm⟩
  simp[List.isPrefixOf,this]
 rw[e]
 simp only[D.bind,D.br]
 rw[Gn (n:=n+19) hw hd h35]
 simp only[D.el]
 simp[hd,ho,h34]
theorem oG {x:P} (h0:0≤x.at_) (hs:dp x.text x.at_=41::r) (next:P→D (List au×dH)) :
  gw (n+20) x.text next x=.stuck∨∃ b,gw (n+20) x.text next x=next ⟨x.text,x.at_+1,x.out++[⟨5,[41],x.at_,x.at_+1⟩],b⟩:=by
 have hl:x.at_<x.text.length:=by
  have:=congrArg List.length hs
  simp[dp] at this;omega
 have hb:x.text[x.at_.toNat]?=some 41:=by
  have:=congrArg (fun l=>l[0]?) hs
  simpa[dp] using this
 unfold gw
 rw[decide_eq_true hl]
 simp only[D.br,D.el,D.jn]
 rw[if_pos h0,hb]
 simp only[]
 rw[xL h0 (by omega) hs rfl rfl rfl rfl rfl zr]
 rcases xK (k:=5) (n:=1) (t:=[41]) (x:=x) with q|⟨b,q⟩
 ·rw[q];exact .inl rfl
 ·rw[q];exact .inr ⟨b,rfl⟩
theorem zE {x:P} (h0:0≤x.at_) (hs:dp x.text x.at_=32::r) (next:P→D (List au×dH)) :
  gw m x.text next x=.stuck∨gw m x.text next x=next ⟨x.text,x.at_+1,x.out,x.line⟩:=by
 have hl:x.at_<x.text.length:=by
  have:=congrArg List.length hs
  simp[dp] at this;omega
 have hb:x.text[x.at_.toNat]?=some 32:=by
  have:=congrArg (fun l=>l[0]?) hs
  simpa[dp] using this
 unfold gw
 rw[decide_eq_true hl]
 simp only[D.br,D.el,D.jn,D.gd]
 rw[if_pos h0,hb]
 simp only[]
 show (if _ then _ else _)=_∨(if _ then _ else _)=_
 split
 ·exact .inr rfl
 ·exact .inl rfl
theorem BH {x:P} (hs:x.at_=x.text.length) (next:P→D (List au×dH)) :
  gw m x.text next x=.stuck∨gw m x.text next x=.ok (x.out++[⟨0,[],x.at_,x.at_⟩],dH.mk 0 0):=by
 unfold gw
 have e:decide (x.at_<(x.text.length:Int))=false:=by simp;omega
 rw[e]
 simp only[D.br]
 rcases xK (k:=0) (n:=0) (t:=[]) (x:=x) with q|⟨b,q⟩
 ·rw[q];exact .inl rfl
 ·rw[q];right;simp[D.bind]
theorem Gp {c:UInt8} {t:List UInt8} {a:Int} (h0:0≤a) (hs:dp t a=c::r):dp t (a+1)=r:=by
 simp only[dp] at hs ⊢
 rw[show (a+1).toNat=a.toNat+1 by omega,← List.drop_drop,hs];rfl
theorem Fh {t:List UInt8} {a:Int} (h0:0≤a) (hs:dp t a=[41]) (ha:a+1=t.length):∀ k o l,D.iter (gw (n+20) t) k ⟨t,a,o,l⟩=.stuck∨∃ F ts,D.iter (gw (n+20) t) k ⟨t,a,o,l⟩=.ok (o++ts,F)∧F.Errno=0∧ts=[au.mk 5 [41] a (a+1),au.mk 0 [] (a+1) (a+1)]
 | 0,o,l=>.inl rfl
 | 1,o,l=>by
  rw[lB]
  rcases oG (x:=⟨t,a,o,l⟩) h0 hs (D.iter (gw (n+20) t) 0) with q|⟨b,q⟩
  ·exact .inl q
  ·exact .inl q
 | k+2,o,l=>by
  rw[lB]
  rcases oG (x:=⟨t,a,o,l⟩) h0 hs (D.iter (gw (n+20) t) (k+1)) with q|⟨b,q⟩
  ·exact .inl q
  ·dsimp only at q
   rw[q,lB]
   rcases BH (m:=n+20) (x:=⟨t,a+1,o++[⟨5,[41],a,a+1⟩],b⟩) ha (D.iter (gw (n+20) t) k) with q|q
   ·exact .inl q
   ·dsimp only at q
    rw[q]
    exact .inr ⟨_,_,by rw[List.append_assoc];rfl,rfl,rfl⟩
theorem Hl {t:List UInt8} {a:Int} (h0:0≤a) (hs:dp t a=[41,32,41]) (ha:a+3=t.length):∀ k o l,D.iter (gw (n+20) t) k ⟨t,a,o,l⟩=.stuck∨∃ F ts,D.iter (gw (n+20) t) k ⟨t,a,o,l⟩=.ok (o++ts,F)∧F.Errno=0∧ts=[au.mk 5 [41] a (a+1),au.mk 5 [41] (a+2) (a+3),au.mk 0 [] (a+3) (a+3)]
 | 0,o,l=>.inl rfl
 | 1,o,l=>by
  rw[lB]
  rcases oG (x:=⟨t,a,o,l⟩) h0 hs (D.iter (gw (n+20) t) 0) with q|⟨b,q⟩<;>exact .inl q
 | k+2,o,l=>by
  rw[lB]
  rcases oG (x:=⟨t,a,o,l⟩) h0 hs (D.iter (gw (n+20) t) (k+1)) with q|⟨b,q⟩
  ·exact .inl q
  ·dsimp only at q
   rw[q,lB]
   rcases zE (m:=n+20) (x:=⟨t,a+1,o++[⟨5,[41],a,a+1⟩],b⟩) (by dsimp only;omega) (Gp h0 hs) (D.iter (gw (n+20) t) k) with q|q
   ·exact .inl q
   ·dsimp only at q
    rw[q]
    rcases Fh (n:=n) (t:=t) (a:=a+1+1) (by omega) (Gp (by omega) (Gp h0 hs)) (by omega) k (o++[⟨5,[41],a,a+1⟩]) b with q|⟨F,ts,q,q2,q3⟩
    ·exact .inl q
    ·refine .inr ⟨F,_,by rw[q,q3,List.append_assoc],q2,?_⟩
     rw[show a+1+1=a+2 by omega,show a+2+1=a+3 by omega];rfl
def tP (i:Int):au:=⟨5,[40],i,i+1⟩
theorem Fi (next:P→D (List au×dH)):gw (n+20) (40::r) next ⟨40::r,0,[],false⟩=next ⟨40::r,1,[tP 0],false⟩:=by
 unfold gw
 rw[decide_eq_true (by simp)]
 have h:=xL (n:=n) (c:=40) (r:=r) (x:=⟨40::r,0,[],false⟩) (Int.le_refl 0) (by simp;omega) rfl rfl rfl rfl rfl rfl uu
 simp only[D.br,D.el,D.jn]
 rw[h]
 rfl
theorem Hm (next:P→D (List au×dH)):gw (n+20) (40::40::r) next ⟨40::40::r,1,[tP 0],false⟩=next ⟨40::40::r,2,[tP 0,tP 1],false⟩:=by
 unfold gw
 rw[decide_eq_true (by simp;omega)]
 have h:=xL (n:=n) (c:=40) (r:=r) (x:=⟨40::40::r,1,[tP 0],false⟩) (by show (0:Int)≤1;omega) (by simp;omega) rfl rfl rfl rfl rfl rfl uu
 simp only[D.br,D.el,D.jn]
 rw[h]
 rfl
theorem Dk {pre:List UInt8} {pt:List au} {Tk:List au→Prop} (hpre:pre.length≤3) (hw:w.length≤3)
  (peel:∀ n j,D.iter (gw (n+20) (pre++(s++41::w))) (j+pre.length) ⟨pre++(s++41::w),0,[],false⟩=D.iter (gw (n+20) (pre++(s++41::w))) j ⟨pre++(s++41::w),pre.length,pt,false⟩)
  (tail:∀ n k o l,D.iter (gw (n+20) (pre++(s++41::w))) k ⟨pre++(s++41::w),s.length+pre.length,o,l⟩=.stuck∨∃ F ts,D.iter (gw (n+20) (pre++(s++41::w))) k ⟨pre++(s++41::w),s.length+pre.length,o,l⟩=.ok (o++ts,F)∧F.Errno=0∧Tk ts)
  {T:List au} {F:dH} (hL:∃ N,∀ i,N≤i→fP i s=.ok (T,F)) (hF:F.Errno=0) (hs:s.length≤400) (hnc:∀ o t e,T=o++[t,e]→t.Kind≠6) :
  Ev (fun i=>fP i (pre++(s++41::w))) (fun r=>r.2.Errno=0∧(∃ U ts,T=U++[au.mk 0 [] s.length s.length]∧r.1=pt++U.map (sR pre.length)++ts∧Tk ts)∧CV (pre++(s++41::w)) r.1) gA:=by
 obtain ⟨r,hr,N2,hN2⟩:=oT cm.id (s:=pre++(s++41::w))
 obtain ⟨N,hN⟩:=hL
 have h1:=hN (N+N2+20) (by omega)
 have h2:=hN2 (N+N2+20) (by omega)
 dsimp only at h2
 have hl:((pre++(s++41::w)).length:Int)≤500:=by simp;omega
 have h3:RS ZT (fun a b=>b.2.Errno=0∧∃ U ts,a.1=U++[au.mk 0 [] s.length s.length]∧b.1=pt++U.map (sR pre.length)++ts∧Tk ts) (fP (N+N2+20) s) (fP (N+N2+20) (pre++(s++41::w))):=by
  rw[A4,A4]
  refine RS.GD (fun h=>by simp at h;omega) (fun _=>RS.G9 (fun h=>by have:=of_decide_eq_true h;omega) (fun _=>?_))
  have e:N+N2+20=(N+N2+20 - pre.length)+pre.length:=by omega
  have hp:=peel (N+N2) (N+N2+20 - pre.length)
  rw[← e] at hp
  rw[hp]
  have:=A5 (pt:=pt) (tail (N+N2)) (N+N2+20) (N+N2+20 - pre.length) (x:=⟨s,0,[],false⟩) rfl (Int.le_refl 0) (by simp)
  simpa[wM] using this
 rcases h3 _ h1 with q|q|⟨b,q,hb⟩
 ·rcases q with q|⟨o,t,e,q,hk⟩
  ·exact absurd hF q
  ·exact absurd hk (hnc o t e q)
 ·rw[q] at h2;subst h2;exact hr.elim
 ·rw[q] at h2;subst h2
  exact ⟨.ok b,⟨hb.1,hb.2,(hr.2.2 hb.1).2⟩,N2,hN2⟩
end
section
variable {m:Nat→Nat}
theorem wg (hm:cm m) {l:List Bool} {x:Bool} (hl:l.length≤70000):Ev (fun i=>iM (m i) l x) (fun _=>True) gA:=by
 unfold iM
 refine Ev.aQ (Q:=fun _=>True) ?_ fun y _=>Ev.ok trivial
 unfold lx
 refine Ev.iter hm (fun (x:Int)=>0≤x∧x≤l.length) (fun x=>(l.length - x).toNat) (by omega) ?_
 intro x hx next hn
 refine Ev.ba (fun _=>?_) (fun _=>Ev.ok trivial)
 refine Ev.el (by omega) (by omega) fun t _=>Ev.br (fun _=>Ev.ok trivial) (fun _=>Ev.gd (by (first|omega|(simp[bK]<;>omega))) (hn _ (by omega) (by omega)))
theorem dT (hm:cm m) {l:List Bool} {p:al} (hl:l.length≤70000):Ev (fun i=>aC (m i) l p) (fun _=>True) gA:=by
 unfold aC
 refine Ev.br (fun _=>Ev.ok trivial) (fun _=>Ev.aQ (wg hm hl) fun y _=>Ev.ok trivial)
theorem wN (hm:cm m) {l:gz}:Ev (fun i=>kJ (m i) l) (fun _=>True) gA:=by
 unfold kJ
 refine Ev.aQ (il hm) fun y _=>Ev.br (fun _=>Ev.aQ (il hm) fun y _=>Ev.br (fun _=>Ev.ok trivial) (fun _=>Ev.ok trivial)) (fun _=>Ev.ok trivial)
theorem rP (hm:cm m) {l:List (List UInt8)} (hl:l.length≤70000) (hs:∀ x,x∈l→x.length≤65536):Ev (fun i=>gK (m i) l) (fun _=>True) gA:=by
 unfold gK iq
 refine Ev.aQ (Q:=fun _=>True) ?_ fun y _=>Ev.ok trivial
 refine Ev.aQ (Q:=fun _=>True) ?_ fun y _=>Ev.ok trivial
 unfold jq
 refine Ev.iter hm (fun (x:Int)=>0≤x∧x≤l.length) (fun x=>(l.length - x).toNat) (by omega) ?_
 intro x hx next hn
 refine Ev.ba (fun _=>?_) (fun _=>Ev.ok trivial)
 refine Ev.el (by omega) (by omega) fun t ht=>?_
 have:=hs t (List.mem_of_getElem? ht)
 refine Ev.aQ (Q:=fun _=>True) ?_ fun y _=>Ev.br (fun _=>Ev.ok trivial) (fun _=>Ev.gd (by (first|omega|(simp[bK]<;>omega))) (hn _ (by omega) (by omega)))
 unfold nX
 exact Ev.aQ (oB (by omega)) fun y _=>Ev.ok trivial
theorem oH (hm:cm m) {a b:List UInt8} (hb:b.length≤60000):Ev (fun i=>gW (m i) a b) (fun _=>True) gA:=by
 unfold gW
 refine Ev.br (fun _=>?_) (fun _=>Ev.ok trivial)
 exact Ev.aQ (vB (by simp) (by omega)) fun y hy=>Ev.aQ (iy hm (by omega)) fun z _=>Ev.ok trivial
theorem xM {l:gz}:Ev (fun _=>mC l) (fun _=>True) gA:=Ev.ok trivial
theorem xN (hm:cm m) {e:aj} {p:al}:Ev (fun i=>ek (m i) e p) (fun _=>True) gA:=by
 unfold ek
 refine Ev.aQ (il hm) fun y _=>Ev.aQ (dT hm (by simp)) fun y _=>?_
 refine Ev.br (fun _=>Ev.aQ xM fun y _=>Ev.aQ (dT hm (by simp)) fun y _=>Ev.ok trivial) (fun _=>?_)
 refine Ev.br (fun _=>Ev.aQ (dT hm (by simp)) fun y _=>Ev.ok trivial) (fun _=>?_)
 refine Ev.jn (fun _=>True) (fun v _=>Ev.br (fun _=>Ev.aQ (dT hm (by simp)) fun y _=>Ev.ok trivial) (fun _=>Ev.aQ (dT hm (by simp)) fun y _=>Ev.ok trivial)) (fun j hj=>?_)
 (repeat' (first|((with_reducible first|refine Ev.gd ?_ ?_|refine Ev.kp ?_ (fun _ _=>?_));(next=>(first|omega|(simp[bK,cV,c7,maxLen]<;>omega))))|with_reducible (first|apply Ev.cD|apply Ev.cg)|(with_reducible (first|apply Ev.ba|apply Ev.bE|apply Ev.b5|apply Ev.bA|apply Ev.br)<;>intro _)|((with_reducible apply Ev.jN);try dsimp only)))
 all_goals exact hj _ trivial
theorem ET (hm:cm m) {e:aj} {p:al}:Ev (fun i=>fC (m i) e p) (fun _=>True) gA:=by
 unfold fC
 have M:∀ {l:List Bool},l.length≤70000→Ev (fun i=>D.bind (aC (m i) l p) fun y=>.ok y) (fun _=>True) gA:=fun h=>Ev.aQ (dT hm h) fun y _=>Ev.ok trivial
 refine Ev.jn (fun _=>True) (fun v _=>?_) (fun j hj=>?_)
 ·refine Ev.br (fun _=>Ev.ok trivial) (fun _=>Ev.br (fun _=>M (by simp)) (fun _=>?_))
  refine Ev.jn (fun _=>True) (fun v _=>?_) (fun j hj=>?_)
  ·refine Ev.br (fun _=>M (by simp)) (fun _=>?_)
   refine Ev.jn (fun _=>True) (fun v _=>?_) (fun j hj=>?_)
   ·refine Ev.br (fun _=>M (by simp)) (fun _=>Ev.br (fun _=>Ev.br (fun _=>M (by simp)) (fun _=>M (by simp))) (fun _=>Ev.br (fun _=>M (by simp)) (fun _=>Ev.br (fun _=>M (by simp)) (fun _=>M (by simp)))))
   ·(repeat' (first|((with_reducible first|refine Ev.gd ?_ ?_|refine Ev.kp ?_ (fun _ _=>?_));(next=>(first|omega|(simp[bK,cV,c7,maxLen]<;>omega))))|with_reducible (first|apply Ev.cD|apply Ev.cg)|(with_reducible (first|apply Ev.ba|apply Ev.bE|apply Ev.b5|apply Ev.bA|apply Ev.br)<;>intro _)|((with_reducible apply Ev.jN);try dsimp only)))
    all_goals exact hj _ trivial
  ·(repeat' (first|((with_reducible first|refine Ev.gd ?_ ?_|refine Ev.kp ?_ (fun _ _=>?_));(next=>(first|omega|(simp[bK,cV,c7,maxLen]<;>omega))))|with_reducible (first|apply Ev.cD|apply Ev.cg)|(with_reducible (first|apply Ev.ba|apply Ev.bE|apply Ev.b5|apply Ev.bA|apply Ev.br)<;>intro _)|((with_reducible apply Ev.jN);try dsimp only)))
   all_goals exact hj _ trivial
 ·(repeat' (first|((with_reducible first|refine Ev.gd ?_ ?_|refine Ev.kp ?_ (fun _ _=>?_));(next=>(first|omega|(simp[bK,cV,c7,maxLen]<;>omega))))|with_reducible (first|apply Ev.cD|apply Ev.cg)|(with_reducible (first|apply Ev.ba|apply Ev.bE|apply Ev.b5|apply Ev.bA|apply Ev.br)<;>intro _)|((with_reducible apply Ev.jN);try dsimp only)))
  all_goals exact hj _ trivial
theorem EU (hm:cm m) {e:aj} {p:al}:Ev (fun i=>fD (m i) e p) (fun _=>True) gA:=by
 unfold fD
 have M:∀ {l:List Bool},l.length≤70000→Ev (fun i=>D.bind (aC (m i) l p) fun y=>.ok y) (fun _=>True) gA:=fun h=>Ev.aQ (dT hm h) fun y _=>Ev.ok trivial
 refine Ev.jn (fun _=>True) (fun v _=>?_) (fun j hj=>?_)
 ·refine Ev.br (fun _=>Ev.ok trivial) (fun _=>?_)
  refine Ev.br (fun _=>Ev.aQ (oH hm (by simp)) fun y _=>M (by simp)) (fun _=>?_)
  refine Ev.br (fun _=>Ev.aQ (oH hm (by simp)) fun y _=>M (by simp)) (fun _=>?_)
  refine Ev.br (fun _=>Ev.aQ (oH hm (by simp)) fun y _=>M (by simp)) (fun _=>?_)
  refine Ev.br (fun _=>Ev.aQ (oH hm (by simp)) fun y _=>M (by simp)) (fun _=>?_)
  refine Ev.br (fun _=>Ev.aQ (il hm) fun y _=>M (by simp)) (fun _=>M (by simp))
 ·(repeat' (first|((with_reducible first|refine Ev.gd ?_ ?_|refine Ev.kp ?_ (fun _ _=>?_));(next=>(first|omega|(simp[bK,cV,c7,maxLen]<;>omega))))|with_reducible (first|apply Ev.cD|apply Ev.cg)|(with_reducible (first|apply Ev.ba|apply Ev.bE|apply Ev.b5|apply Ev.bA|apply Ev.br)<;>intro _)|((with_reducible apply Ev.jN);try dsimp only)))
  all_goals exact hj _ trivial
theorem Gq (hm:cm m) {e:aj} (he:iV e) {at_:aO} {p:al}:Ev (fun i=>fQ (m i) e at_ p) (fun _=>True) gA:=by
 unfold fQ
 have M:∀ {l:List Bool} {p:al},l.length≤70000→Ev (fun i=>D.bind (aC (m i) l p) fun y=>.ok y) (fun _=>True) gA:=fun h=>Ev.aQ (dT hm h) fun y _=>Ev.ok trivial
 have h2:=he.l2
 have h3:=he.l3
 refine Ev.jn (fun _=>True) (fun v _=>?_) (fun j hj=>?_)
 ·refine Ev.aQ (ET hm) fun y _=>Ev.aQ (EU hm) fun y _=>?_
  refine Ev.jn (fun _=>True) (fun v _=>?_) (fun j hj=>Ev.br (fun _=>hj _ trivial) (fun _=>hj _ trivial))
  refine Ev.jn (fun _=>True) (fun v _=>?_) (fun j hj=>?_)
  ·refine Ev.jn (fun _=>True) (fun v _=>?_) (fun j hj=>?_)
   ·refine Ev.jn (fun _=>True) (fun v _=>?_) (fun j hj=>?_)
    ·refine Ev.jn (fun _=>True) (fun v _=>?_) (fun j hj=>?_)
     ·exact Ev.br (fun _=>Ev.br (fun _=>M (by simp)) (fun _=>M (by simp))) (fun _=>Ev.br (fun _=>M (by simp)) (fun _=>M (by simp)))
     ·exact Ev.br (fun _=>Ev.br (fun _=>Ev.aQ (dT hm (by simp)) fun y _=>hj _ trivial) (fun _=>Ev.aQ (dT hm (by simp)) fun y _=>hj _ trivial)) (fun _=>Ev.br (fun _=>Ev.aQ (dT hm (by simp)) fun y _=>hj _ trivial) (fun _=>Ev.aQ (dT hm (by simp)) fun y _=>hj _ trivial))
    ·exact Ev.br (fun _=>Ev.aQ (wN hm) fun y _=>Ev.aQ (dT hm (by simp)) fun y _=>hj _ trivial) (fun _=>Ev.aQ xM fun y _=>Ev.aQ (dT hm (by simp)) fun y _=>hj _ trivial)
   ·refine Ev.br (fun _=>Ev.aQ (xN hm) fun y _=>Ev.ok trivial) (fun _=>?_)
    refine Ev.jn (fun _=>True) (fun v _=>?_) (fun j2 hj2=>Ev.br (fun _=>hj2 _ trivial) (fun _=>hj2 _ trivial))
    refine Ev.br (fun _=>Ev.br (fun _=>Ev.aQ (dT hm (by simp)) fun y _=>hj _ trivial) (fun _=>Ev.aQ (dT hm (by simp)) fun y _=>hj _ trivial)) (fun _=>?_)
    exact Ev.br (fun _=>Ev.aQ nP fun y _=>Ev.aQ (dT hm (by simp)) fun y _=>hj _ trivial) (fun _=>Ev.aQ (dT hm (by simp)) fun y _=>hj _ trivial)
  ·refine Ev.br (fun _=>Ev.aQ (rP hm h3 he.l4) fun y _=>Ev.aQ (dT hm (by simp)) fun y _=>hj _ trivial) (fun _=>?_)
   refine Ev.gd (by (first|omega|(simp[bK]<;>omega))) (Ev.aQ (rP hm h3 he.l4) fun y _=>Ev.aQ (dT hm (by simp)) fun y _=>hj _ trivial)
 ·exact Ev.br (fun _=>Ev.aQ (dT hm (by simp)) fun y _=>hj _ trivial) (fun _=>Ev.aQ (dT hm (by simp)) fun y _=>hj _ trivial)
end
structure SG (N:Nat):Prop where
 e:∀ {m:Nat→Nat} {x:aj} {at_:aO} {p:al},cm m→iV x→2*SizeOf.sizeOf x<N→Ev (fun i=>aM (m i) x at_ p) (fun _=>True) gA
 d:∀ {m:Nat→Nat} {x:o} {t:Bool} {l:Int} {p:al},cm m→k3 x→2*SizeOf.sizeOf x<N→Ev (fun i=>dR (m i) x t l p) (fun _=>True) gA
theorem wO {N:Nat} (ih:SG N) {m:Nat→Nat} (hm:cm m) {l:List o} {t:Bool} {lv:Int} {p:al} (hl:l.length≤70000) (hs:∀ x,x∈l→k3 x∧2*SizeOf.sizeOf x<N):Ev (fun i=>bY (m i) l t lv p) (fun _=>True) gA:=by
 refine Ev.grow (F:=fun n=>bY n l t lv p) hm fun m hm=>?_
 show Ev (fun i=>eR (m i) (aU (m i)) l t lv p) _ _
 unfold eR
 refine Ev.iter hm (fun (x:al×Int)=>0≤x.2∧x.2≤l.length) (fun x=>(l.length - x.2).toNat) (by simp) ?_
 intro x hx next hn
 refine Ev.ba (fun _=>?_) (fun _=>Ev.ok trivial)
 refine Ev.el (by omega) (by omega) fun d hd=>?_
 have:=hs d (List.mem_of_getElem? hd)
 exact Ev.aQ (ih.d hm this.1 this.2) fun y _=>Ev.gd (by (first|omega|(simp[bK]<;>omega))) (hn _ (by dsimp only;omega) (by dsimp only;omega))
theorem Gr:∀ N,SG N:=by
 intro N
 induction N with
 | zero=>exact ⟨fun _ _ h=>absurd h (Nat.not_lt_zero _),fun _ _ h=>absurd h (Nat.not_lt_zero _)⟩
 | succ N ih=>
  refine ⟨?_,?_⟩
  ·intro m x at_ p hm he hN
   have hls:=he.l1
   have hld:=he.l2
   refine Ev.grow (F:=fun n=>aM n x at_ p) hm fun m hm=>?_
   show Ev (fun i=>fc (m i) (aU (m i)) x at_ p) _ _
   unfold fc
   refine Ev.jn (fun _=>True) (fun v _=>?_) (fun j hj=>Ev.ba (fun _=>hj _ trivial) (fun _=>hj _ trivial))
   refine Ev.aQ (Gq hm he) fun y _=>?_
   refine Ev.iter hm (fun (w:al×Int)=>0≤w.2∧w.2≤x.bf.length) (fun w=>(x.bf.length - w.2).toNat) (by simp) ?_
   intro w hw next hn
   refine Ev.ba (fun _=>?_) (fun _=>?_)
   ·refine Ev.jn (fun _=>True) (fun v _=>Ev.gd (by (first|omega|(simp[bK]<;>omega))) (hn _ (by dsimp only;omega) (by dsimp only;omega))) (fun j hj=>?_)
    refine Ev.el (by omega) (by omega) fun z hz=>?_
    have hzm:=List.mem_of_getElem? hz
    have hsz:=A0 hzm
    have hE:∀ {at_:aO} {p:al},Ev (fun i=>aM (m i) z at_ p) (fun _=>True) gA:=ih.e hm (he.s z hzm) (by omega)
    have hB:∀ {at_:aO} {p:al},Ev (fun i=>D.bind ((aU (m i)).aM z at_ p) fun y=>j i y) (fun _=>True) gA:=Ev.aQ hE fun y _=>hj _ trivial
    have hG:Ev (fun i=>D.br (x.Kind==14) (D.br (x.jv==0) (.ok p) (.ok p)) (.ok p)) (fun _=>True) gA:=Ev.br (fun _=>Ev.br (fun _=>Ev.ok trivial) (fun _=>Ev.ok trivial)) (fun _=>Ev.ok trivial)
    refine Ev.br (fun _=>Ev.br (fun _=>Ev.br (fun _=>Ev.br (fun _=>hB) (fun _=>Ev.gd (by (first|omega|(simp[bK]<;>omega))) hB)) (fun _=>hB)) (fun _=>Ev.br (fun _=>Ev.br (fun _=>hB) (fun _=>Ev.gd (by (first|omega|(simp[bK]<;>omega))) hB)) (fun _=>hB)))
     (fun _=>Ev.br (fun _=>Ev.br (fun _=>hB) (fun _=>Ev.gd (by (first|omega|(simp[bK]<;>omega))) hB)) (fun _=>hB))
   ·exact Ev.aQ (wO ih hm hld fun d hd=>⟨he.d d hd,by have:=z8 hd;omega⟩) fun y _=>Ev.ok trivial
  ·intro m x t l p hm he hN
   have hls:=he.l1
   have hlb:=he.l2
   have hlt:=he.l3
   refine Ev.grow (F:=fun n=>dR n x t l p) hm fun m hm=>?_
   show Ev (fun i=>fb (m i) (aU (m i)) x t l p) _ _
   unfold fb
   refine Ev.jn (fun _=>True) (fun v _=>?_) (fun j hj=>Ev.ba (fun _=>hj _ trivial) (fun _=>hj _ trivial))
   refine Ev.jn (fun _=>True) (fun v _=>?_) (fun j hj=>Ev.bE (fun _=>hj _ trivial) (fun _=>hj _ trivial))
   refine Ev.jn (fun _=>True) (fun v _=>?_) (fun j hj=>Ev.ba (fun _=>Ev.aQ (dT hm (by simp)) fun y _=>hj _ trivial) (fun _=>Ev.aQ (dT hm (by simp)) fun y _=>hj _ trivial))
   refine Ev.jn (fun _=>True) (fun v _=>?_) (fun j hj=>?_)
   ·refine Ev.jn (fun _=>True) (fun v _=>?_) (fun j hj=>?_)
    ·refine Ev.jn (fun _=>True) (fun v _=>?_) (fun j hj=>?_)
     ·refine Ev.jn (fun _=>True) (fun v _=>?_) (fun j hj=>?_)
      ·refine Ev.jn (fun _=>True) (fun v _=>?_) (fun j hj=>Ev.br (fun _=>hj _ trivial) (fun _=>Ev.br (fun _=>hj _ trivial) (fun _=>hj _ trivial)))
       refine Ev.aQ (dT hm (by simp)) fun y _=>?_
       refine Ev.jn (fun _=>True) (fun v _=>?_) (fun j hj=>Ev.br (fun _=>hj _ trivial) (fun _=>Ev.br (fun _=>hj _ trivial) (fun _=>Ev.br (fun _=>hj _ trivial) (fun _=>hj _ trivial))))
       refine Ev.iter hm (fun (w:al×Int)=>0≤w.2∧w.2≤x.bf.length) (fun w=>(x.bf.length - w.2).toNat) (by simp) ?_
       intro w hw next hn
       refine Ev.ba (fun _=>?_) (fun _=>?_)
       ·refine Ev.el (by omega) (by omega) fun z hz=>?_
        have hzm:=List.mem_of_getElem? hz
        have hsz:=CW hzm
        have hB:∀ {at_:aO} {p:al},Ev (fun i=>D.bind ((aU (m i)).aM z at_ p) fun y=>D.gd (bK (w.2+1)) (next i (y,w.2+1))) (fun _=>True) gA:=
         Ev.aQ (ih.e hm (he.s z hzm) (by omega)) fun y _=>Ev.gd (by (first|omega|(simp[bK]<;>omega))) (hn _ (by dsimp only;omega) (by dsimp only;omega))
        exact Ev.br (fun _=>Ev.br (fun _=>hB) (fun _=>hB)) (fun _=>hB)
       ·exact Ev.aQ (wO ih hm hlb fun d hd=>⟨he.d d hd,by have:=CX hd;omega⟩) fun y _=>Ev.ok trivial
      ·exact Ev.br (fun _=>Ev.aQ (wN hm) fun y _=>Ev.aQ (dT hm (by simp)) fun y _=>hj _ trivial) (fun _=>Ev.aQ xM fun y _=>Ev.aQ (dT hm (by simp)) fun y _=>hj _ trivial)
     ·refine Ev.br (fun _=>hj _ trivial) (fun _=>Ev.br (fun _=>Ev.aQ (rJ hm) fun y _=>Ev.aQ (dT hm (by simp)) fun y _=>hj _ trivial) (fun _=>?_))
      refine Ev.br (fun _=>Ev.aQ (il hm) fun y _=>Ev.aQ (dT hm (by simp)) fun y _=>hj _ trivial) (fun _=>?_)
      exact Ev.br (fun _=>Ev.aQ (dT hm (by simp)) fun y _=>hj _ trivial) (fun _=>Ev.aQ (dT hm (by simp)) fun y _=>hj _ trivial)
    ·exact Ev.br (fun _=>Ev.ba (fun _=>Ev.aQ (dT hm (by simp)) fun y _=>hj _ trivial) (fun _=>Ev.aQ (dT hm (by simp)) fun y _=>hj _ trivial)) (fun _=>Ev.aQ (dT hm (by simp)) fun y _=>hj _ trivial)
   ·refine Ev.aQ (rP hm he.l5 he.l6) fun y _=>Ev.aQ (rP hm hlt he.l4) fun y _=>Ev.aQ (rP hm (by simp) (by simpa using he.l7)) fun y _=>?_
    exact Ev.br (fun _=>Ev.aQ (dT hm (by simp)) fun y _=>hj _ trivial) (fun _=>Ev.gd (by (first|omega|(simp[bK]<;>omega))) (Ev.aQ (dT hm (by simp)) fun y _=>hj _ trivial))
theorem Dl {p:al}:Ev (fun _=>gO p) (fun _=>True) gA:=by
 unfold gO
 exact Ev.br (fun _=>Ev.ok trivial) (fun _=>Ev.br (fun _=>Ev.ok trivial) (fun _=>Ev.ok trivial))
theorem tg {m:Nat→Nat} (hm:cm m) {e:aj} (he:iV e):Ev (fun i=>eF (m i) e) (fun _=>True) gA:=by
 unfold eF
 exact Ev.aQ ((Gr _).e hm he (Nat.lt_succ_self _)) fun y _=>Ev.aQ Dl fun y _=>Ev.ok trivial
section
variable {e e':aj} {m:Nat}
theorem EV (h:EE e e') {p:al}:fC m e' p=fC m e p:=by
 have hx:=h.x
 unfold fC
 rw[hx.k,hx.n,hx.s.1]
theorem EW (h:EE e e') {p:al}:fD m e' p=fD m e p:=by
 have hx:=h.x
 unfold fD
 rw[hx.k,hx.t]
theorem Gs (h:EE e e') {p:al}:ek m e' p=ek m e p:=by
 have hx:=h.x
 unfold ek
 rw[hx.t,hx.n,hx.a,hx.b,hx.s.1]
theorem Gt (h:EE e e') {q:aO} {p:al}:fQ m e' q p=fQ m e q p:=by
 have hx:=h.x
 unfold fQ
 simp only[EV h,EW h,Gs h,hx.k,hx.n,hx.a,hx.b,hx.tl,← hx.d.1]
abbrev RQ {X:Type} (x y:D X):Prop:=RS NZ (fun a b=>b=a) x y
theorem RQ.bind {X Y:Type} {x y:D X} {f g:X→D Y} (h:RQ x y) (hk:∀ a,RQ (f a) (g a)):RQ (D.bind x f) (D.bind y g):=RS.bind h fun a b q=>by rw[q];exact hk a
theorem RQ.rfl {X:Type} {x:D X}:RQ x x:=fun a e=>.inr (.inr ⟨a,e,Eq.refl _⟩)
theorem RQ.jn {X Y:Type} {j j':X→D Y} {p p':(X→D Y)→D Y} (hj:∀ v,RQ (j v) (j' v)) (hp:∀ j j':X→D Y,(∀ v,RQ (j v) (j' v))→RQ (p j) (p' j')):RQ (D.jn j p) (D.jn j' p'):=hp j j' hj
structure CQ (n:Nat):Prop where
 e:∀ {e e':aj} {q:aO} {p:al},EE e e'→RQ (aM n e q p) (aM n e' q p)
 d:∀ {d d':o} {z:Bool} {l:Int} {p:al},DD d d'→RQ (dR n d z l p) (dR n d' z l p)
 l:∀ {d d':List o} {z:Bool} {l:Int} {p:al},LR DD d d'→RQ (bY n d z l p) (bY n d' z l p)
theorem Gu:∀ n,CQ n:=by
 intro n
 induction n with
 | zero=>constructor<;>(intros;exact RS.nil)
 | succ n ih=>
  refine ⟨?_,?_,?_⟩
  ·intro e e' q p he
   have hx:=he.x
   show RQ (fc n (aU n) e q p) (fc n (aU n) e' q p)
   unfold fc
   simp only[Gt he,hx.k,hx.n,← hx.s.1]
   refine RQ.jn (fun v=>RQ.bind RQ.rfl fun y=>?_) (fun j j' hj=>?_)
   ·refine RS.iter (fun (v w:al×Int)=>w=v) (fun v w h next next' hn=>?_) _ _ rfl
    subst h
    refine RS.br rfl (fun _=>RQ.jn (fun v=>RS.gd fun _ _=>hn _ _ rfl) fun j j' hj=>?_) (fun _=>RQ.bind (ih.l hx.d) fun y=>RQ.rfl)
    refine RS.el fun x x' _ _ hx1 hx2=>?_
    have hxx:=hx.s.2 _ _ _ hx1 hx2
    have A:∀ {q:aO},RQ (D.bind ((aU n).aM x q w.1) fun y=>j y) (D.bind ((aU n).aM x' q w.1) fun y=>j' y):=fun {q}=>RQ.bind (ih.e hxx) hj
    repeat' (first|exact A|refine RS.br rfl (fun _=>?_) (fun _=>?_)|refine RS.gd fun _ _=>?_)
   ·repeat' (first|exact hj _|refine RS.br rfl (fun _=>?_) (fun _=>?_))
  ·intro d d' z l p hd
   have hx:=hd.x
   show RQ (fb n (aU n) d z l p) (fb n (aU n) d' z l p)
   unfold fb
   simp only[hx.k,hx.p,hx.t,hx.a,hx.b,hx.tl,hx.ld,hx.tr,← hx.s.1,← hx.d.1]
   have A:∀ {x x':aj} {q:aO} {w:al},EE x x'→RQ ((aU n).aM x q w) ((aU n).aM x' q w):=ih.e
   have L:∀ {y:Int} {w:al},RQ ((aU n).bY d.Body false y w) ((aU n).bY d'.Body false y w):=ih.l hx.d
   repeat' (with_reducible first|refine RQ.jn (fun v=>?_) (fun j j' hj=>?_)|refine RS.br rfl (fun _=>?_) (fun _=>?_)|refine RS.gd fun _ _=>?_|exact hj _|refine RQ.bind RQ.rfl fun y=>?_|refine RS.el fun x x' _ _ hx1 hx2=>?_|exact RQ.bind L fun y=>RQ.rfl|(refine RS.iter (fun (v w:al×Int)=>w=v) (fun v w h next next' hn=>?_) _ _ rfl;subst h))
   all_goals exact RQ.bind (A (hx.s.2 _ _ _ hx1 hx2)) fun y=>RS.gd fun _ _=>hn _ _ rfl
  ·intro d d' z l p hd
   show RQ (eR n (aU n) d z l p) (eR n (aU n) d' z l p)
   unfold eR
   simp only[← hd.1]
   refine RS.iter (fun (v w:al×Int)=>w=v) (fun v w h next next' hn=>?_) _ _ rfl
   subst h
   refine RS.br rfl (fun _=>RS.el fun x x' _ _ hx1 hx2=>RQ.bind (ih.d (hd.2 _ _ _ hx1 hx2)) fun y=>RS.gd fun _ _=>hn _ _ rfl) (fun _=>RQ.rfl)
end
section
variable {α:Type} {Q:α→Prop} {R:oj→Prop} {m:Nat→Nat} {s:List UInt8} {T:List au} {b a:Int} {k:Bool} {q:Option aj}
theorem oX (hm:cm m) (hC:PC s T b) (h0:0≤a) {t:au} (ht:T[a.toNat]?=some t) (hk:k=true→t.Kind≠7) {K:Nat→au×L→D α} (h:Ev (fun i=>K i (t,aY s T a b k q)) Q R) :
  Ev (fun i=>D.bind (az (m i) (aY s T a b k q)) (K i)) Q R:=by
 have hl:=(List.getElem?_eq_some_iff.1 ht).1
 refine fB hm hC h0 (by omega) fun a' u h1 h2 hu h3 e=>?_
 have e:=e t ht hk
 subst e
 rw[ht] at hu;cases hu;exact h
theorem xO (hm:cm m) (hC:PC s T b) (h0:0≤a) {t:au} (ht:T[a.toNat]?=some t) (hk:k=true→t.Kind≠7) {K:Nat→Int×L→D α} (h:∀ v,Ev (fun i=>K i (v,aY s T a b k q)) Q R) :
  Ev (fun i=>D.bind (bm (m i) (aY s T a b k q)) (K i)) Q R:=by
 have hl:=(List.getElem?_eq_some_iff.1 ht).1
 refine kE hm hC h0 (by omega) fun a' u v h1 h2 hu e _ _ _=>?_
 have e:=e t ht hk
 subst e
 exact h v
theorem Hn (hm:cm m) (hC:PC s T b) (h0:0≤a) {t:au} (ht:T[a.toNat]?=some t) (hk:k=true→t.Kind≠7) {x:List UInt8} (hx:bJ t x=.ok false) {K:Nat→Bool×L→D α} (h:Ev (fun i=>K i (false,aY s T a b k q)) Q R) :
  Ev (fun i=>D.bind (bc (m i) x (aY s T a b k q)) (K i)) Q R:=by
 refine Ev.bind (Q:=fun r=>r=(false,aY s T a b k q)) (R':=gA) ?_ (fun _ q=>q.elim) fun r hr=>by subst hr;exact h
 unfold bc
 refine oX hm hC h0 ht hk ?_
 exact Ev.qw hx (Ev.bA (fun _=>Ev.ok rfl) (fun h=>by cases h))
theorem Gv (hm:cm m) (hC:PC s T b) (h0:0≤a) {t:au} (ht:T[a.toNat]?=some t) (hk:k=true→t.Kind≠7) {x:List UInt8} (hx:bJ t x=.ok true) {K:Nat→Bool×L→D α} (h:Ev (fun i=>K i (true,aY s T (a+1) b k q)) Q R) :
  Ev (fun i=>D.bind (bc (m i) x (aY s T a b k q)) (K i)) Q R:=by
 have hl:=(List.getElem?_eq_some_iff.1 ht).1
 have hl2:=hC.ls
 refine Ev.bind (Q:=fun r=>r=(true,aY s T (a+1) b k q)) (R':=gA) ?_ (fun _ q=>q.elim) fun r hr=>by subst hr;exact h
 unfold bc
 refine oX hm hC h0 ht hk ?_
 exact Ev.qw hx (Ev.bA (fun h=>by cases h) (fun _=>Ev.gd (by (first|omega|(simp[bK]<;>omega))) (Ev.ok rfl)))
theorem Ev.from {F:Nat→D α} {v:α} {c:Nat} (h:∀ n,F (n+c)=.ok v) (hm:cm m):Ev (fun i=>F (m i)) (fun r=>r=v) gA:=by
 obtain ⟨N,hN⟩:=hm c
 refine ⟨.ok v,rfl,N,fun i hi=>?_⟩
 obtain ⟨n,hn⟩:∃ n,m i=n+c:=⟨m i - c,by have:=hN i hi;omega⟩
 dsimp only
 rw[hn];exact h n
end
def BN (u:au):Prop:=u.Kind=0∨u.Kind=5∧(u.Text=[41]∨u.Text=[40])
theorem BN.k {u:au} (h:BN u):u.Kind≠7:=by rcases h with h|⟨h,_⟩<;>omega
theorem BN.op {u:au} (h:BN u) {x:List UInt8} (h1:x≠[41]) (h2:x≠[40]):bJ u x=.ok false:=by
 rcases h with h|⟨h,h3⟩
 ·exact nA (by omega)
 ·rw[CZ h]
  rcases h3 with h3|h3
  ·rw[h3,beq_eq_false_iff_ne.2 h1.symm]
  ·rw[h3,beq_eq_false_iff_ne.2 h2.symm]
theorem BN.oneOf {u:au} (h:BN u) {m:Nat→Nat} (hm:cm m) {x:List UInt8} (hx:x=[124,124]∨x=[38,38]∨x=[61,61,32,33,61,32,60,32,60,61,32,62,32,62,61]∨x=[43,32,45]∨x=[42,32,47,32,37]∨x=[45,32,33]∨x=[60,32,60,61,32,62,32,62,61,32,33,61,32,61,126,32,33,126]) :
  Ev (fun i=>dM (m i) u x) (fun r=>r=false) gA:=by
 refine Ev.from (F:=fun n=>dM n u x) (c:=20) (v:=false) (fun n=>?_) hm
 obtain ⟨k,t,p,e⟩:=u
 rcases h with h|⟨h,h2|h2⟩
 ·exact qn (by dsimp only at h ⊢;omega)
 ·dsimp only at h
  subst h
  dsimp only at h2;subst h2
  rcases hx with rfl|rfl|rfl|rfl|rfl|rfl|rfl<;>rfl
 ·dsimp only at h
  subst h
  dsimp only at h2;subst h2
  rcases hx with rfl|rfl|rfl|rfl|rfl|rfl|rfl<;>rfl
section
variable {α:Type} {Q:α→Prop} {R:oj→Prop} {m:Nat→Nat} {s:List UInt8} {T:List au} {b a:Int} {k:Bool} {q:Option aj} {u:au}
theorem BN.bd (h:BN u) {x:List UInt8} {K:Nat→Bool→D α} (hk:Ev (fun i=>K i false) Q R) (h1:x≠[41]:=by decide) (h2:x≠[40]:=by decide):Ev (fun i=>D.bind (bJ u x) (K i)) Q R:=Ev.qw (h.op h1 h2) hk
theorem BN.no (h:BN u) (hm:cm m) (hC:PC s T b) (h0:0≤a) (ht:T[a.toNat]?=some u) {x:List UInt8} {K:Nat→Bool×L→D α} (hk:Ev (fun i=>K i (false,aY s T a b k q)) Q R) (h1:x≠[41]:=by decide) (h2:x≠[40]:=by decide) :
  Ev (fun i=>D.bind (bc (m i) x (aY s T a b k q)) (K i)) Q R:=Hn hm hC h0 ht (fun _=>h.k) (h.op h1 h2) hk
end
theorem xP {l:Int} {ops:List UInt8} (h:db l=.ok ops):ops=[124,124]∨ops=[38,38]∨ops=[61,61,32,33,61,32,60,32,60,61,32,62,32,62,61]∨ops=[43,32,45]∨ops=[42,32,47,32,37]:=by
 unfold db at h
 cases h0:(l==0)<;>cases h1:(l==1)<;>cases h2:(l==2)<;>cases h3:(l==3)<;>(rw[h0,h1,h2,h3] at h;simp[D.br] at h;simp[← h])
section
variable {m:Nat→Nat} {s:List UInt8} {T:List au} {b a a1:Int} {k:Bool} {P:aj→Prop} {t u:au}
structure xQ (s:List UInt8) (T:List au) (b a a1:Int) (k:Bool) (P:aj→Prop) (t u:au):Prop where
 C:PC s T b
 a0:0≤a
 ht:T[a.toNat]?=some t
 tk:t.Kind=5
 tt:t.Text=[40]
 yX:0≤a1
 hu:T[a1.toNat]?=some u
 uc:BN u
 p:∀ {m:Nat→Nat},cm m→Ev (fun i=>bM (m i) true (aY s T a b k none)) (fun r=>P r.1∧r.2=aY s T a1 b k none) gA
abbrev Rd (s:List UInt8) (T:List au) (b a1:Int) (k:Bool) (P:aj→Prop) (r:aj×L):Prop:=P r.1∧r.2=aY s T a1 b k none
theorem xQ.tc (h:xQ s T b a a1 k P t u):BN t:=.inr ⟨h.tk,.inr h.tt⟩
theorem xR {α:Type} {Q:α→Prop} {R:oj→Prop} {F:Nat→D (aj×L)} {K:Nat→aj×L→D α} (h:Ev F (Rd s T b a1 k P) gA) (hk:∀ e,P e→Ev (fun i=>K i (e,aY s T a1 b k none)) Q R):Ev (fun i=>D.bind (F i) (K i)) Q R:=by
 refine Ev.ep h fun r hr=>?_
 obtain ⟨e,p⟩:=r
 obtain ⟨h1,h2⟩:=hr
 dsimp only at h1 h2;subst h2
 exact hk e h1
theorem xQ.tW (h:xQ s T b a a1 k P t u) (hm:cm m):Ev (fun i=>bS (m i) true (aY s T a b k none)) (Rd s T b a1 k P) gA:=by
 refine Ev.grow (F:=fun n=>bS n true (aY s T a b k none)) hm fun m hm=>?_
 show Ev (fun i=>b1 (m i) (ai (m i)) true (aY s T a b k none)) _ _
 unfold b1
 have hk:=h.tk
 refine Ev.cg (oX hm h.C h.a0 h.ht (fun _=>by omega) (xO hm h.C h.a0 h.ht (fun _=>by omega) fun v=>Ev.jN ?_))
 dsimp only
 refine Ev.bE (fun h=>by omega) (fun _=>Ev.bE (fun h=>by omega) (fun _=>Ev.bE (fun h=>by omega) (fun _=>Ev.bE (fun h=>by omega) (fun _=>?_))))
 refine h.tc.bd (Ev.cg (h.tc.bd (Ev.cg (Ev.qw (a:=true) (by rw[CZ hk,h.tt];rfl) (Ev.cD (xR (h.p hm) fun e he=>Ev.ok ⟨he,rfl⟩))))))
theorem xQ.post (h:xQ s T b a a1 k P t u) (hm:cm m):Ev (fun i=>bG (m i) true (aY s T a b k none)) (Rd s T b a1 k P) gA:=by
 refine Ev.grow (F:=fun n=>bG n true (aY s T a b k none)) hm fun m hm=>?_
 show Ev (fun i=>bZ (m i) (ai (m i)) true (aY s T a b k none)) _ _
 unfold bZ
 refine xR (h.tW hm) fun e he=>?_
 refine Ev.iter hm (fun x=>x=(aY s T a1 b k none,e)) (fun _=>0) rfl ?_
 rintro _ rfl next hn
 refine oX hm h.C h.yX h.hu (fun _=>h.uc.k) (xO hm h.C h.yX h.hu (fun _=>h.uc.k) fun v=>?_)
 exact h.uc.bd (Ev.cg (h.uc.bd (Ev.cg (Ev.ok ⟨he,rfl⟩))))
theorem xQ.unary (h:xQ s T b a a1 k P t u) (hm:cm m):Ev (fun i=>bU (m i) true (aY s T a b k none)) (Rd s T b a1 k P) gA:=by
 refine Ev.grow (F:=fun n=>bU n true (aY s T a b k none)) hm fun m hm=>?_
 show Ev (fun i=>cq (m i) (ai (m i)) true (aY s T a b k none)) _ _
 unfold cq
 refine Ev.cg (oX hm h.C h.a0 h.ht (fun _=>h.tc.k) (xO hm h.C h.a0 h.ht (fun _=>h.tc.k) fun v=>Ev.jN ?_))
 refine Ev.ep (h.tc.oneOf hm (by simp)) fun r hr=>?_
 subst hr
 refine Ev.cg (Ev.ep (h.tc.oneOf hm (by simp)) fun r hr=>?_)
 subst hr
 exact Ev.cg (xR (h.post hm) fun e he=>Ev.ok ⟨he,rfl⟩)
theorem xQ.bin (h:xQ s T b a a1 k P t u):∀ (N:Nat) {m:Nat→Nat} {l:Int},cm m→0≤l→l≤5→(5 - l).toNat<N→Ev (fun i=>bn (m i) l true (aY s T a b k none)) (Rd s T b a1 k P) gA:=by
 intro N
 induction N with
 | zero=>intro m l _ _ _ h;exact absurd h (Nat.not_lt_zero _)
 | succ N ih=>
  intro m l hm h0 h5 hN
  refine Ev.grow (F:=fun n=>bn n l true (aY s T a b k none)) hm fun m hm=>?_
  show Ev (fun i=>cb (m i) (ai (m i)) l true (aY s T a b k none)) _ _
  unfold cb
  refine Ev.ba (fun _=>xR (h.unary hm) fun e he=>Ev.ok ⟨he,rfl⟩) (fun hl=>Ev.gd (by (first|omega|(simp[bK]<;>omega))) (xR (ih hm (by omega) (by omega) (by omega)) fun e he=>?_))
  refine Ev.iter hm (fun x=>x=(aY s T a1 b k none,e)) (fun _=>0) rfl ?_
  rintro _ rfl next hn
  refine oX hm h.C h.yX h.hu (fun _=>h.uc.k) ?_
  obtain ⟨ops,ho⟩:∃ ops,db l=.ok ops:=by
   unfold db
   cases (l==0)<;>cases (l==1)<;>cases (l==2)<;>cases (l==3)<;>exact ⟨_,rfl⟩
  refine Ev.qw ho ?_
  refine Ev.ep (h.uc.oneOf hm (by rcases xP ho with q|q|q|q|q<;>simp[q])) fun r hr=>?_
  subst hr
  exact Ev.cg (Ev.ok ⟨he,rfl⟩)
theorem xQ.rL (h:xQ s T b a a1 k P t u) (hm:cm m):Ev (fun i=>aW (m i) true (aY s T a b k none)) (Rd s T b a1 k P) gA:=by
 refine Ev.grow (F:=fun n=>aW n true (aY s T a b k none)) hm fun m hm=>?_
 show Ev (fun i=>bP (m i) (ai (m i)) true (aY s T a b k none)) _ _
 unfold bP
 refine xR (h.bin 6 hm (Int.le_refl 0) (by omega) (by omega)) fun e he=>?_
 refine Ev.iter hm (fun x=>x=(aY s T a1 b k none,e)) (fun _=>0) rfl ?_
 rintro _ rfl next hn
 exact h.uc.no hm h.C h.yX h.hu (Ev.cg (Ev.ok ⟨he,rfl⟩))
theorem xQ.alt (h:xQ s T b a a1 k P t u) (hm:cm m):Ev (fun i=>aV (m i) true (aY s T a b k none)) (Rd s T b a1 k P) gA:=by
 refine Ev.grow (F:=fun n=>aV n true (aY s T a b k none)) hm fun m hm=>?_
 show Ev (fun i=>bO (m i) (ai (m i)) true (aY s T a b k none)) _ _
 unfold bO
 refine Ev.cD (xO hm h.C h.a0 h.ht (fun _=>h.tc.k) fun v=>?_)
 exact h.tc.no hm h.C h.a0 h.ht (Ev.cg (xR (h.rL hm) fun e he=>Ev.ok ⟨he,rfl⟩))
theorem xQ.expr (h:xQ s T b a a1 k P t u) (hm:cm m):Ev (fun i=>aD (m i) true (aY s T a b k none)) (Rd s T b a1 k P) gA:=by
 refine Ev.grow (F:=fun n=>aD n true (aY s T a b k none)) hm fun m hm=>?_
 show Ev (fun i=>cB (m i) (ai (m i)) true (aY s T a b k none)) _ _
 unfold cB
 refine Ev.jN (Ev.cD (oX hm h.C h.a0 h.ht (fun _=>h.tc.k) (h.tc.bd (Ev.jN (Ev.cD (xR (h.alt hm) fun e he=>Ev.jN (Ev.cD ?_)))))))
 exact oX hm h.C h.yX h.hu (fun _=>h.uc.k) (h.uc.bd (Ev.cD (Ev.ok ⟨he,rfl⟩)))
end
end Go.Abs
end
section
namespace Go.Abs
open Go.Proofs D
structure fW where
 eG:(List o)→(List o)→D (Bool)
 dK:aj→aj→D (Bool)
def gD (n:Nat) (T:fW) (p0:(List o)) (p1:(List o)):D (Bool):=
 br ((List.length p0:Int) !=(List.length p1:Int)) (.ok (false)) (iter (fun next9 (v8:Int)=>br (decide (v8<(List.length p0:Int))) (el p0 v8 fun tY=>el p1 v8 fun x21=>br (tY.Kind !=x21.Kind) (.ok (false)) (br (tY.cG !=x21.cG) (.ok (false)) (br (tY.Label !=x21.Label) (.ok (false)) (br (!((tY.bt==x21.bt)&&(tY.bz==x21.bz))) (.ok (false)) (br (tY.Trail !=x21.Trail) (.ok (false)) (br ((List.length tY.bf:Int) !=(List.length x21.bf:Int)) (.ok (false)) (D.bind (iz n tY.jy x21.jy) fun y41=>br (!y41) (.ok (false)) (D.bind (iz n tY.cz x21.cz) fun y44=>br (!y44) (.ok (false)) (D.bind (T.eG tY.Body x21.Body) fun y47=>br (!y47) (.ok (false)) (iter (fun next52 (v51:Int)=>br (decide (v51<(List.length tY.bf:Int))) (el tY.bf v51 fun x60=>el x21.bf v51 fun x64=>D.bind (T.dK x60 x64) fun y68=>br (!y68) (.ok (false)) (gd (bK (v51+1)) (next52 (v51+1)))) (gd (bK (v8+1)) (next9 (v8+1)))) n (0))))))))))) (.ok (true))) n (0))
def kb (n:Nat) (T:fW) (p0:aj) (p1:aj):D (Bool):=
 br (p0.Kind !=p1.Kind) (.ok (false)) (br (p0.Text !=p1.Text) (.ok (false)) (br (p0.jv !=p1.jv) (.ok (false)) (br (!((p0.bt==p1.bt)&&(p0.bz==p1.bz))) (.ok (false)) (br ((List.length p0.bf:Int) !=(List.length p1.bf:Int)) (.ok (false)) (D.bind (iz n p0.cz p1.cz) fun y14=>br (!y14) (.ok (false)) (iter (fun next20 (v19:Int)=>br (decide (v19<(List.length p0.bf:Int))) (el p0.bf v19 fun x28=>el p1.bf v19 fun x32=>D.bind (T.dK x28 x32) fun y36=>br (!y36) (.ok (false)) (gd (bK (v19+1)) (next20 (v19+1)))) (D.bind (T.eG p0.Decls p1.Decls) fun y41=>.ok (y41))) n (0)))))))
def er:Nat→fW
 | 0=>⟨fun _ _=>.stuck,fun _ _=>.stuck⟩
 | n+1=>⟨gD n (er n),kb n (er n)⟩
def eG (n:Nat) (p0:(List o)) (p1:(List o)):D (Bool):=(er n).eG p0 p1
def dK (n:Nat) (p0:aj) (p1:aj):D (Bool):=(er n).dK p0 p1
structure jH (T:fW):Prop where
 eG:∀ (p0:(List o)) (p1:(List o)),CT Tryz.prog 52 [.pv (.sl (List.length p0) (o.Cs p0)),.pv (.sl (List.length p1) (o.Cs p1))] [] (T.eG p0 p1) (fun x=>Bo x) (fun _=>[])
 dK:∀ (p0:aj) (p1:aj),CT Tryz.prog 23 [.agg (be p0),.agg (be p1)] [] (T.dK p0 p1) (fun x=>Bo x) (fun _=>[])
theorem sb (n:Nat) (T:fW) (hT:jH T) (p0:(List o)) (p1:(List o)):CT Tryz.prog 52 [.pv (.sl (List.length p0) (o.Cs p0)),.pv (.sl (List.length p1) (o.Cs p1))] [] (gD n T p0 p1) (fun x=>Bo x) (fun _=>[]):=by
 refine zC Tryz.func52 O fun r hp h hr E hE=>B fun _ hK1=>A (za O (zQ hK1 (B fun _ hK2=>B fun _ hK3=>A (zm O (J (cJ O) O (zm O (J (cJ O) O (zc O (zQ hK3 (zB O h (fun _ h=>?_) fun _ h=>?_))))))))))
 · exact B fun _ hK5=>A (za O (zQ hK5 (H (zX (.cons (K O) .nil) h O))))
 · refine V (hK2 _ _ (B fun _ hK6=>B fun _ hK7=>A (zm O (J (cJ O) O (zm O (zQ hK7 (z (zL hr h (fun (v8:Int)=>[(0,.pv (.sl (List.length p0) (o.Cs p0))),(1,.pv (.sl (List.length p1) (o.Cs p1))),(15,I (List.length p0:Int)),(16,I v8)]) (fun (v8:Int)=>[]) O fun _ v8 _ hK10 h=>B fun _ hK11=>A (zc O (zQ hK11 (B fun _ hK12=>zB O h (fun _ h=>?_) fun _ h=>?_)))))))))))
   · refine V (hK12 _ _ (B fun _ hK14=>z (B fun _ hK15=>A (zm O (za O (zQ hK15 (B fun _ hK16=>bL [0,1,2,3,4,5,6,7,8,9,10,11] O (by kernel_rfl) (zD O (W O) O (zD O (W O) O (ze hr h fun tY h18 h19 h20 h=>zD O (ia o.y o.b7 h18 h19 h20 O O O) O (zD O (iw O O) O ?_)))))))))))
     refine zD O (W O) O (zD O (W O) O (ze hr h fun x21 h22 h23 h24 h=>zD O (ia o.y o.b7 h22 h23 h24 O O O) O (zD O (iw O O) O ?_)))
     refine s4 O (bX O) 106 (hE _ O) ⟨O,O,O,O,O⟩ ⟨O,O,O,O⟩ ?_
     refine s4 O (bX O) 107 (hE _ O) ⟨O,O,O,O,O⟩ ⟨O,O,O,O⟩ ?_
     refine rU O ⟨O,O,O,O,O,O,O,O⟩ O (fun e10 he=>⟨aL O,?_⟩)
     subst he
     refine rU O ⟨O,O,O,O,O,O,O,O⟩ O (fun e11 he=>⟨aL O,?_⟩)
     subst he
     refine cX (hK16 _ _ (B fun _ hK25=>B fun _ hK26=>A (zf O (zl O (zf O (zl O (zc O (zm O (zb (tY.Kind !=x21.Kind) (fun hb27=>?_) fun hb27=>?_)))))))))
     · refine z1 hb27 h fun h=>zg hb27 O (zg hb27 O (zg hb27 O (zg hb27 O (zg hb27 O (zy hb27 O (zm O (zg O O (zg O O (zg O O (zg O O (zg O O (zt O (zm O (zg O O (zg O O (zg O O (zg O O (zg O O (zt O (zm O (zg O O (zg O O (zg O O ?_)))))))))))))))))))))))
       refine zg O O (zg O O (zt O (zm O (zg O O (zg O O (zg O O (zg O O (zg O O (zg O O (zg O O (zt O (zQ hK26 (dm O (fun hc=>?_) (fun hc=>?_))))))))))))))
       · exact B fun _ hK28=>A (za O (zQ hK28 (H (zX (.cons (K O) .nil) h O))))
       · exact absurd (hc) (by simp)
     · refine z2 hb27 h fun h=>zG hb27 O (bR O) (zG hb27 O (bp O O O) (zG hb27 O (bR O) (zG hb27 O (bp O O O) (zG hb27 O (bw O O O) (zw hb27 O (zm O (zb (tY.cG !=x21.cG) (fun hb29=>?_) fun hb29=>?_)))))))
       · refine z1 hb29 h fun h=>zg hb29 O (zg hb29 O (zg hb29 O (zg hb29 O (zg hb29 O (zy hb29 O (zm O (zg O O (zg O O (zg O O (zg O O (zg O O (zt O (zm O (zg O O (zg O O (zg O O (zg O O (zg O O (zt O (zm O (zg O O (zg O O (zg O O ?_)))))))))))))))))))))))
         refine zg O O (zg O O (zg O O (zg O O (zt O (zQ hK26 (dm O (fun hc=>?_) (fun hc=>?_)))))))
         · exact B fun _ hK30=>A (za O (zQ hK30 (H (zX (.cons (K O) .nil) h O))))
         · exact absurd (hc) (by simp)
       · refine z2 hb29 h fun h=>zG hb29 O (bR O) (zG hb29 O (bp O O O) (zG hb29 O (bR O) (zG hb29 O (bp O O O) (zG hb29 O (um O O) (zw hb29 O (zm O (zb (tY.Label !=x21.Label) (fun hb31=>?_) fun hb31=>?_)))))))
         · refine z1 hb31 h fun h=>zg hb31 O (zg hb31 O (zg hb31 O (zg hb31 O (zg hb31 O (zy hb31 O (zm O (zg O O (zg O O (zg O O (zg O O (zg O O (zt O (zm O (zg O O (zg O O (zg O O (zg O O (zg O O (zg O O (zg O O (zt O (zQ hK26 (dm O (fun hc=>?_) (fun hc=>?_))))))))))))))))))))))))
           · exact B fun _ hK32=>A (za O (zQ hK32 (H (zX (.cons (K O) .nil) h O))))
           · exact absurd (hc) (by simp)
         · refine z2 hb31 h fun h=>zG hb31 O (bR O) (zG hb31 O (iT O O O O) ?_)
           refine zG hb31 O (bR O) (zG hb31 O (iT O O O O) ?_)
           refine zG hb31 O (CR O O) (zw hb31 O (zm O (zb (!((tY.bt==x21.bt)&&(tY.bz==x21.bz))) (fun hb33=>?_) fun hb33=>?_)))
           · refine z1 hb33 h fun h=>zg hb33 O (zg hb33 O (zg hb33 O (zg hb33 O (zg hb33 O (zy hb33 O (zm O (zg O O (zg O O (zg O O (zg O O (zg O O (zg O O (zg O O (zt O (zQ hK26 (dm O (fun hc=>?_) (fun hc=>?_)))))))))))))))))
             · exact B fun _ hK34=>A (za O (zQ hK34 (H (zX (.cons (K O) .nil) h O))))
             · exact absurd (hc) (by simp)
           · refine z2 hb33 h fun h=>zG hb33 O (bR O) (zG hb33 O (bp O O O) (zG hb33 O (bR O) (zG hb33 O (bp O O O) (zG hb33 O (um O O) (zw hb33 O (zm O (zb (tY.Trail !=x21.Trail) (fun hb35=>?_) fun hb35=>?_)))))))
             · refine z1 hb35 h fun h=>zg hb35 O (zg hb35 O (zg hb35 O (zg hb35 O (zg hb35 O (zg hb35 O (zg hb35 O (zy hb35 O (zQ hK26 (dm O (fun hc=>?_) (fun hc=>?_))))))))))
               · exact B fun _ hK36=>A (za O (zQ hK36 (H (zX (.cons (K O) .nil) h O))))
               · exact absurd (hc) (by simp)
             · refine z2 hb35 h fun h=>zG hb35 O (bR O) (zG hb35 O (bp O O O) (zG hb35 O (cJ O) (zG hb35 O (bR O) (zG hb35 O (bp O O O) (zG hb35 O (cJ O) (zG hb35 O (bw O O O) (zw hb35 O (zQ hK26 (zB O h (fun _ h=>?_) fun _ h=>?_)))))))))
               · exact B fun _ hK38=>A (za O (zQ hK38 (H (zX (.cons (K O) .nil) h O))))
               · refine V (hK25 _ _ (B fun _ hK39=>B fun _ hK40=>A (zf O (zl O (zf O (zl O (zk hp hr h [] Tryz.call51 (lA n tY.jy x21.jy) O (fun _=>O) fun y41 h=>J (eS O) O (zm O (zb (!y41) (fun hb42=>?_) fun hb42=>?_)))))))))
                 · refine z1 hb42 h fun h=>zg hb42 O (zg hb42 O (zg hb42 O (zg hb42 O (zg hb42 O (zg hb42 O (zy hb42 O (zm O (zg O O (zg O O (zg O O (zg O O (zg O O (zg O O (zt O (zQ hK40 (dm O (fun hc=>?_) (fun hc=>?_)))))))))))))))))
                   · exact B fun _ hK43=>A (za O (zQ hK43 (H (zX (.cons (K O) .nil) h O))))
                   · exact absurd (hc) (by simp)
                 · refine z2 hb42 h fun h=>zG hb42 O (bR O) (zG hb42 O (bp O O O) (zG hb42 O (bR O) (zG hb42 O (bp O O O) (zK hb42 O hp hr h [] Tryz.call51 (lA n tY.cz x21.cz) O (fun _=>O) fun y44 h=>zG hb42 O (eS O) (zw hb42 O (zm O (zb (!y44) (fun hb45=>?_) fun hb45=>?_)))))))
                   · refine z1 hb45 h fun h=>zg hb45 O (zg hb45 O (zg hb45 O (zg hb45 O (zg hb45 O (zg hb45 O (zy hb45 O (zQ hK40 (dm O (fun hc=>?_) (fun hc=>?_)))))))))
                     · exact B fun _ hK46=>A (za O (zQ hK46 (H (zX (.cons (K O) .nil) h O))))
                     · exact absurd (hc) (by simp)
                   · refine z2 hb45 h fun h=>zG hb45 O (bR O) (zG hb45 O (bp O O O) (zG hb45 O (bR O) (zG hb45 O (bp O O O) (zK hb45 O hp hr h [] Tryz.call52 (hT.eG tY.Body x21.Body) O (fun _=>O) fun y47 h=>zG hb45 O (eS O) (zw hb45 O (zQ hK40 (zB O h (fun _ h=>?_) fun _ h=>?_)))))))
                     · exact B fun _ hK49=>A (za O (zQ hK49 (H (zX (.cons (K O) .nil) h O))))
                     · refine V (hK39 _ _ (B fun _ hK50=>A (zf O (zl O (J (cJ O) O (zm O (zQ hK50 (z (zL hr h (fun (v51:Int)=>[(0,.pv (.sl (List.length p0) (o.Cs p0))),(1,.pv (.sl (List.length p1) (o.Cs p1))),(6,.ptr 106 0),(7,.ptr 107 0),(15,I (List.length p0:Int)),(16,I v8),(93,I (List.length tY.bf:Int)),(94,I v51)]) (fun (v51:Int)=>[(106,.box (dE tY)),(107,.box (dE x21))]) O fun _ v51 _ hK53 h=>B fun _ hK54=>A (zc O (zQ hK54 (B fun _ hK55=>zB O h (fun _ h=>?_) fun _ h=>?_))))))))))))
                       · refine V (hK55 _ _ (B fun _ hK57=>z (B fun _ hK58=>A (zm O (za O (zQ hK58 (B fun _ hK59=>bL [0,1,2,3,4,5,6,7,8,9,10,11] O (by kernel_rfl) (zD O (bR O) O (zD O (bp O O O) O (zD O (W O) O (ze hr h fun x60 h61 h62 h63 h=>zD O (ia aj.y aj.b7 h61 h62 h63 O O O) O (zD O (iw O O) O ?_))))))))))))
                         refine zD O (bR O) O (zD O (bp O O O) O (zD O (W O) O (ze hr h fun x64 h65 h66 h67 h=>zD O (ia aj.y aj.b7 h65 h66 h67 O O O) O (zD O (iw O O) O ?_))))
                         refine dL O (bX O) hr h [] Tryz.call23 (hT.dK x60 x64) ⟨O,O,O,O,O,O,trivial⟩ O O (fun _=>⟨O,O,O⟩) (fun _=>⟨O,O⟩) hp (fun y68 h=>⟨aL O,?_⟩)
                         refine zD O (eS O) O (cX (hK59 _ _ (zB O h (fun _ h=>?_) fun _ h=>?_)))
                         · exact B fun _ hK70=>A (za O (zQ hK70 (H (zX (.cons (K O) .nil) h O))))
                         · exact V (hK57 _ _ (A (zd hr h fun hg71 h=>zo hg71 O (zm O (N (hK53 _ _ _ h O))))))
                       · exact bB (hK14 _ _ (A (zd hr h fun hg72 h=>zo hg72 O (zm O (N (hK10 _ _ _ h O))))))
   · exact bB (hK6 _ _ (B fun _ hK73=>A (za O (zQ hK73 (H (zX (.cons (K O) .nil) h O))))))
theorem sP (n:Nat) (T:fW) (hT:jH T) (p0:aj) (p1:aj):CT Tryz.prog 23 [.agg (be p0),.agg (be p1)] [] (kb n T p0 p1) (fun x=>Bo x) (fun _=>[]):=by
 refine zC Tryz.func23 O fun r hp h hr E hE=>B fun _ hK1=>A (eg 102 (hE _ O) ⟨O,O,O,O,O,O,O⟩ O ?_)
 refine eg 103 (hE _ O) ⟨O,O,O,O,O,O,O⟩ O ?_
 refine za O (zQ hK1 (B fun _ hK2=>B fun _ hK3=>A (zf O (zl O (zf O (zl O (zc O (zm O (zb (p0.Kind !=p1.Kind) (fun hb4=>?_) fun hb4=>?_)))))))))
 · refine z1 hb4 h fun h=>zg hb4 O (zg hb4 O (zg hb4 O (zg hb4 O (zg hb4 O (zy hb4 O (zm O (zg O O (zg O O (zg O O (zg O O (zg O O (zt O (zm O (zg O O (zg O O (zg O O (zg O O (zg O O (zt O (zm O (zg O O (zg O O (zg O O ?_)))))))))))))))))))))))
   refine zg O O (zg O O (zg O O (zg O O (zt O (zm O (zg O O (zg O O (zg O O (zg O O (zg O O (zg O O (zt O (zQ hK3 (dm O (fun hc=>?_) (fun hc=>?_)))))))))))))))
   · exact B fun _ hK5=>A (za O (zQ hK5 (H (zX (.cons (K O) .nil) h O))))
   · exact absurd (hc) (by simp)
 · refine z2 hb4 h fun h=>zG hb4 O (bR O) (zG hb4 O (bp O O O) (zG hb4 O (bR O) (zG hb4 O (bp O O O) (zG hb4 O (um O O) (zw hb4 O (zm O (zb (p0.Text !=p1.Text) (fun hb6=>?_) fun hb6=>?_)))))))
   · refine z1 hb6 h fun h=>zg hb6 O (zg hb6 O (zg hb6 O (zg hb6 O (zg hb6 O (zy hb6 O (zm O (zg O O (zg O O (zg O O (zg O O (zg O O (zt O (zm O (zg O O (zg O O (zg O O (zg O O (zg O O (zg O O (zg O O (zt O (zm O (zg O O ?_)))))))))))))))))))))))
     refine zg O O (zg O O (zg O O (zg O O (zg O O (zt O (zQ hK3 (dm O (fun hc=>?_) (fun hc=>?_))))))))
     · exact B fun _ hK7=>A (za O (zQ hK7 (H (zX (.cons (K O) .nil) h O))))
     · exact absurd (hc) (by simp)
   · refine z2 hb6 h fun h=>zG hb6 O (bR O) (zG hb6 O (bp O O O) (zG hb6 O (bR O) (zG hb6 O (bp O O O) (zG hb6 O (bw O O O) (zw hb6 O (zm O (zb (p0.jv !=p1.jv) (fun hb8=>?_) fun hb8=>?_)))))))
     · refine z1 hb8 h fun h=>zg hb8 O (zg hb8 O (zg hb8 O (zg hb8 O (zg hb8 O (zy hb8 O (zm O (zg O O (zg O O (zg O O (zg O O (zg O O (zg O O (zg O O (zt O (zm O (zg O O (zg O O (zg O O (zg O O (zg O O (zg O O (zt O (zQ hK3 ?_)))))))))))))))))))))))
       refine dm O (fun hc=>?_) (fun hc=>?_)
       · exact B fun _ hK9=>A (za O (zQ hK9 (H (zX (.cons (K O) .nil) h O))))
       · exact absurd (hc) (by simp)
     · refine z2 hb8 h fun h=>zG hb8 O (bR O) (zG hb8 O (iT O O O O) ?_)
       refine zG hb8 O (bR O) (zG hb8 O (iT O O O O) ?_)
       refine zG hb8 O (CR O O) (zw hb8 O (zm O (zb (!((p0.bt==p1.bt)&&(p0.bz==p1.bz))) (fun hb10=>?_) fun hb10=>?_)))
       · refine z1 hb10 h fun h=>zg hb10 O (zg hb10 O (zg hb10 O (zg hb10 O (zg hb10 O (zg hb10 O (zg hb10 O (zy hb10 O (zm O (zg O O (zg O O (zg O O (zg O O (zg O O (zg O O (zt O (zQ hK3 (dm O (fun hc=>?_) (fun hc=>?_))))))))))))))))))
         · exact B fun _ hK11=>A (za O (zQ hK11 (H (zX (.cons (K O) .nil) h O))))
         · exact absurd (hc) (by simp)
       · refine z2 hb10 h fun h=>zG hb10 O (bR O) (zG hb10 O (bp O O O) (zG hb10 O (cJ O) (zG hb10 O (bR O) (zG hb10 O (bp O O O) (zG hb10 O (cJ O) (zG hb10 O (bw O O O) (zw hb10 O (zm O (zb ((List.length p0.bf:Int) !=(List.length p1.bf:Int)) (fun hb12=>?_) fun hb12=>?_)))))))))
         · refine z1 hb12 h fun h=>zg hb12 O (zg hb12 O (zg hb12 O (zg hb12 O (zg hb12 O (zg hb12 O (zy hb12 O (zQ hK3 (dm O (fun hc=>?_) (fun hc=>?_)))))))))
           · exact B fun _ hK13=>A (za O (zQ hK13 (H (zX (.cons (K O) .nil) h O))))
           · exact absurd (hc) (by simp)
         · refine z2 hb12 h fun h=>zG hb12 O (bR O) (zG hb12 O (bp O O O) (zG hb12 O (bR O) (zG hb12 O (bp O O O) (zK hb12 O hp hr h [] Tryz.call51 (lA n p0.cz p1.cz) O (fun _=>O) fun y14 h=>zG hb12 O (eS O) (zw hb12 O (zQ hK3 (zB O h (fun _ h=>?_) fun _ h=>?_)))))))
           · exact B fun _ hK16=>A (za O (zQ hK16 (H (zX (.cons (K O) .nil) h O))))
           · refine V (hK2 _ _ (B fun _ hK17=>B fun _ hK18=>A (zf O (zl O (J (cJ O) O (zm O (zQ hK18 (z (zL hr h (fun (v19:Int)=>[(0,.agg (be p0)),(1,.agg (be p1)),(2,.ptr 102 0),(3,.ptr 103 0),(51,I (List.length p0.bf:Int)),(52,I v19)]) (fun (v19:Int)=>[(102,.box (be p0)),(103,.box (be p1))]) O fun _ v19 _ hK21 h=>B fun _ hK22=>A (zc O (zQ hK22 (B fun _ hK23=>zB O h (fun _ h=>?_) fun _ h=>?_))))))))))))
             · refine V (hK23 _ _ (B fun _ hK25=>z (B fun _ hK26=>A (zm O (za O (zQ hK26 (B fun _ hK27=>bL [0,1,2,3,4,5,6,7,8,9,10,11] O (by kernel_rfl) (zD O (bR O) O (zD O (bp O O O) O (zD O (W O) O (ze hr h fun x28 h29 h30 h31 h=>zD O (ia aj.y aj.b7 h29 h30 h31 O O O) O (zD O (iw O O) O ?_))))))))))))
               refine zD O (bR O) O (zD O (bp O O O) O (zD O (W O) O (ze hr h fun x32 h33 h34 h35 h=>zD O (ia aj.y aj.b7 h33 h34 h35 O O O) O (zD O (iw O O) O ?_))))
               refine dL O (bX O) hr h [] Tryz.call23 (hT.dK x28 x32) ⟨O,O,O,O,O,O,trivial⟩ O O (fun _=>⟨O,O,O⟩) (fun _=>⟨O,O⟩) hp (fun y36 h=>⟨aL O,?_⟩)
               refine zD O (eS O) O (cX (hK27 _ _ (zB O h (fun _ h=>?_) fun _ h=>?_)))
               · exact B fun _ hK38=>A (za O (zQ hK38 (H (zX (.cons (K O) .nil) h O))))
               · exact V (hK25 _ _ (A (zd hr h fun hg39 h=>zo hg39 O (zm O (N (hK21 _ _ _ h O))))))
             · exact bB (hK17 _ _ (B fun _ hK40=>A (zf O (zl O (zf O (zl O (zk hp hr h [] Tryz.call52 (hT.eG p0.Decls p1.Decls) O (fun _=>O) fun y41 h=>za O (zQ hK40 (H (zX (.cons (K O) .nil) h O))))))))))
theorem iS:∀ n,jH (er n)
 | 0=>⟨fun _ _=>cy,fun _ _=>cy⟩
 | n+1=>⟨fun p0 p1=>sb n _ (iS n) p0 p1,fun p0 p1=>sP n _ (iS n) p0 p1⟩
theorem oI (n:Nat) (p0:aj) (p1:aj):CT Tryz.prog 23 [.agg (be p0),.agg (be p1)] [] (dK n p0 p1) (fun x=>Bo x) (fun _=>[]):=(iS n).dK p0 p1
def jI (n:Nat) (p0:(List UInt8)):D (Bool):=
 br (decide ((List.length p0:Int)>400)) (D.bind (k2 64) fun y6=>.ok (y6)) (D.bind (gP n p0) fun y8=>br (y8.2.Errno !=0) (D.bind (k2 64) fun y13=>.ok (y13)) (gd (c7 ([40]:List UInt8) p0) (gd (c7 (([40]:List UInt8)++p0) ([41]:List UInt8)) (D.bind (gP n ((([40]:List UInt8)++p0)++([41]:List UInt8))) fun y17=>gd (c7 ([40,40]:List UInt8) p0) (gd (c7 (([40,40]:List UInt8)++p0) ([41,32,41]:List UInt8)) (D.bind (gP n ((([40,40]:List UInt8)++p0)++([41,32,41]:List UInt8))) fun y21=>br (y17.2.Errno==0) (br (y21.2.Errno==0) (D.bind (dK n y8.1 y17.1) fun y25=>br y25 (D.bind (dK n y8.1 y21.1) fun y27=>br y27 (D.bind (k2 64) fun y29=>.ok (y29)) (.ok (false))) (.ok (false))) (.ok (false))) (.ok (false))))))))
theorem rQ (n:Nat) (p0:(List UInt8)):CT Tryz.prog 9 [F p0] [] (jI n p0) (fun x=>Bo x) (fun _=>[]):=by
 refine zC Tryz.func9 O fun r hp h hr E hE=>B fun _ hK1=>A (za O (zQ hK1 (B fun _ hK2=>B fun _ hK3=>A (zm O (J (dr O) O (zc O (zQ hK3 (zB O h (fun _ h=>?_) fun _ h=>?_))))))))
 · exact B fun _ hK5=>A (zk hp hr h [] Tryz.call11 (oW 64) O (fun _=>O) fun y6 h=>za O (zQ hK5 (H (zX (.cons (K O) .nil) h O))))
 · refine V (hK2 _ _ (B fun _ hK7=>A (zm O (zk hp hr h [] Tryz.call15 (l0 n p0) O (fun _=>O) fun y8 h=>zm O (zx O (zx O (aK 103 (hE _ O) ⟨O,O,O,O⟩ O ?_)))))))
   refine aK 104 (hE _ O) ⟨O,O,O,O⟩ O ?_
   refine zs O (zs O (zQ hK7 (B fun _ hK9=>B fun _ hK10=>A (zf O (zl O (zc O (zQ hK10 (zB O h (fun _ h=>?_) fun _ h=>?_))))))))
   · exact B fun _ hK12=>A (zk hp hr h [] Tryz.call11 (oW 64) O (fun _=>O) fun y13 h=>za O (zQ hK12 (H (zX (.cons (K O) .nil) h O))))
   · refine V (hK9 _ _ (B fun _ hK14=>A (zm O (zd hr h fun hg15 h=>J (lN O O hg15) O (zd hr h fun hg16 h=>J (lN O O hg16) O (zk hp hr h [] Tryz.call15 (l0 n ((([40]:List UInt8)++p0)++([41]:List UInt8))) O (fun _=>O) fun y17 h=>zm O (zx O (zx O (aK 105 (hE _ O) ⟨O,O,O,O⟩ O ?_)))))))))
     refine aK 106 (hE _ O) ⟨O,O,O,O⟩ O ?_
     refine zs O (zs O (zQ hK14 (B fun _ hK18=>A (zm O (zd hr h fun hg19 h=>J (lN O O hg19) O (zd hr h fun hg20 h=>J (lN O O hg20) O (zk hp hr h [] Tryz.call15 (l0 n ((([40,40]:List UInt8)++p0)++([41,32,41]:List UInt8))) O (fun _=>O) fun y21 h=>zm O (zx O (zx O (aK 107 (hE _ O) ⟨O,O,O,O⟩ O ?_))))))))))
     refine aK 108 (hE _ O) ⟨O,O,O,O⟩ O ?_
     refine zs O (zs O (zQ hK18 (B fun _ hK22=>A (zf O (zl O (zc O (zm O (zb (y17.2.Errno==0) (fun hb23=>?_) fun hb23=>?_))))))))
     · refine z1 hb23 h fun h=>zG hb23 O (bR O) (zG hb23 O (bp O O O) (zG hb23 O (bw O O O) (zy hb23 O (zm O (zb (y21.2.Errno==0) (fun hb24=>?_) fun hb24=>?_)))))
       · refine z1 hb24 h fun h=>zG hb24 O (iT O O O O) ?_
         refine zG hb24 O (iT O O O O) ?_
         refine zK hb24 O hp hr h [] Tryz.call23 (oI n y8.1 y17.1) O (fun _=>O) fun y25 h=>zy hb24 O (zm O (zb y25 (fun hb26=>?_) fun hb26=>?_))
         · refine z1 hb26 h fun h=>zG hb26 O (iT O O O O) ?_
           refine zG hb26 O (iT O O O O) ?_
           refine zK hb26 O hp hr h [] Tryz.call23 (oI n y8.1 y21.1) O (fun _=>O) fun y27 h=>zy hb26 O (zm O (zb y27 (fun hb28=>?_) fun hb28=>?_))
           · exact z1 hb28 h fun h=>zK hb28 O hp hr h [] Tryz.call11 (oW 64) O (fun _=>O) fun y29 h=>zy hb28 O (za O (zQ hK22 (H (zX (.cons (K O) .nil) h O))))
           · exact z2 hb28 h fun h=>zg hb28 O (zw hb28 O (za O (zQ hK22 (H (zX (.cons (K O) .nil) h O)))))
         · exact z2 hb26 h fun h=>zg hb26 O (zg hb26 O (zg hb26 O (zw hb26 O (zm O (zg O O (J (dI O O) O (za O (zQ hK22 (H (zX (.cons (K O) .nil) h O))))))))))
       · exact z2 hb24 h fun h=>zg hb24 O (zg hb24 O (zg hb24 O (zw hb24 O (zm O (zg O O (zg O O (zg O O (J (dI O O) O (zm O (zg O O (J (dI O O) O (za O (zQ hK22 (H (zX (.cons (K O) .nil) h O)))))))))))))))
     · exact z2 hb23 h fun h=>zg hb23 O (zg hb23 O (zg hb23 O (zw hb23 O (zm O (zg O O (zg O O (zg O O (J (dI O O) O (zm O (zg O O (zg O O (zg O O (J (dI O O) O (zm O (zg O O (J (dI O O) O (za O (zQ hK22 (H (zX (.cons (K O) .nil) h O))))))))))))))))))))
end Go.Abs
end
section
namespace Go.Abs
open D
theorem qq {m:Nat→Nat} (hm:cm m) {l:List (List UInt8)} (hl:l.length≤70000):Ev (fun i=>iz (m i) l l) (fun r=>r=true) gA:=by
 unfold iz
 refine Ev.b5 (fun h=>absurd rfl h) (fun _=>?_)
 refine Ev.iter hm (fun (v:Int)=>0≤v∧v≤l.length) (fun v=>(l.length - v).toNat) (by omega) ?_
 intro v hv next hn
 refine Ev.ba (fun h=>Ev.el (by omega) (by omega) fun x hx=>Ev.HS (by omega) hx (Ev.b5 (fun h=>absurd rfl h) (fun _=>Ev.gd (by (first|omega|(simp[bK]<;>omega))) (hn _ (by omega) (by omega))))) (fun _=>Ev.ok rfl)
structure H7 (N:Nat):Prop where
 e:∀ {m:Nat→Nat} {e e':aj},cm m→SizeOf.sizeOf e<N→iV e→EE e e'→Ev (fun i=>dK (m i) e' e) (fun r=>r=true) gA
 d:∀ {m:Nat→Nat} {l l':List o},cm m→(∀ d,d∈l→SizeOf.sizeOf d<N)→l.length≤70000→(∀ d,d∈l→k3 d)→LR DD l l'→Ev (fun i=>eG (m i) l' l) (fun r=>r=true) gA
theorem Dm {α X Y:Type} {R:X→Y→Prop} {l:List X} {l':List Y} (h:LR R l l') {v:Int} (h0:0≤v) (h1:v<l'.length) {K:Nat→Y→X→D α} {Q:α→Prop} {P:oj→Prop}
  (hk:∀ x y,x∈l→R x y→Ev (fun i=>K i y x) Q P):Ev (fun i=>D.el l' v fun y=>D.el l v fun x=>K i y x) Q P:=by
 have e:=h.1
 refine Ev.el h0 (by omega) fun y hy=>Ev.el h0 (by omega) fun x hx=>hk x y (List.mem_of_getElem? hx) (h.2 _ _ _ hx hy)
theorem A6:∀ N,H7 N:=by
 intro N
 induction N with
 | zero=>exact ⟨fun _ h=>absurd h (Nat.not_lt_zero _),fun {m l l'} hm hN _ _ hR=>by
   have:l=[]:=by
    cases l with
    | nil=>rfl
    | cons d l=>exact absurd (hN d (by simp)) (Nat.not_lt_zero _)
   subst this
   have:l'=[]:=List.eq_nil_of_length_eq_zero (by rw[← hR.1];rfl)
   subst this
   refine Ev.grow (F:=fun n=>eG n [] []) hm fun m hm=>?_
   show Ev (fun i=>gD (m i) (er (m i)) [] []) _ _
   unfold gD
   refine Ev.b5 (fun h=>absurd rfl h) (fun _=>?_)
   refine Ev.iter hm (fun (v:Int)=>v=0) (fun _=>0) rfl ?_
   rintro v rfl next hn
   exact Ev.ba (fun h=>by simp at h) (fun _=>Ev.ok rfl)⟩
 | succ N ih=>
  refine ⟨fun {m e e'} hm hN hs hR=>?_,fun {m l l'} hm hN hl hs hR=>?_⟩
  ·refine Ev.grow (F:=fun n=>dK n e' e) hm fun m hm=>?_
   show Ev (fun i=>kb (m i) (er (m i)) e' e) _ _
   unfold kb
   have hx:=hR.x
   have hl1:=hs.l1
   have e1:=hx.s.1
   rw[hx.k,hx.t,hx.n,hx.a,hx.b,hx.tl]
   refine Ev.b5 (fun h=>absurd rfl h) (fun _=>Ev.b5 (fun h=>absurd rfl h) (fun _=>Ev.b5 (fun h=>absurd rfl h) (fun _=>Ev.br (fun h=>by simp at h) (fun _=>Ev.b5 (fun h=>absurd (by rw[e1]) h) (fun _=>?_)))))
   refine Ev.aQ (qq hm hs.l3) fun y hy=>?_
   subst hy
   refine Ev.cg (Ev.iter hm (fun (v:Int)=>0≤v∧v≤e'.bf.length) (fun v=>(e'.bf.length - v).toNat) (by omega) ?_)
   intro v hv next hn
   refine Ev.ba (fun h=>Dm hx.s (by omega) h fun x x' hm1 hxx=>?_) (fun _=>?_)
   ·refine Ev.aQ (ih.e hm (by have:=A0 hm1;omega) (hs.s _ hm1) hxx) fun y hy=>?_
    subst hy
    exact Ev.cg (Ev.gd (by (first|omega|(simp[bK]<;>omega))) (hn _ (by omega) (by omega)))
   ·exact Ev.aQ (ih.d hm (fun d hd=>by have:=z8 hd;omega) hs.l2 hs.d hx.d) fun y hy=>Ev.ok hy
  ·refine Ev.grow (F:=fun n=>eG n l' l) hm fun m hm=>?_
   show Ev (fun i=>gD (m i) (er (m i)) l' l) _ _
   unfold gD
   have e1:=hR.1
   refine Ev.b5 (fun h=>absurd (by rw[e1]) h) (fun _=>?_)
   refine Ev.iter hm (fun (v:Int)=>0≤v∧v≤l'.length) (fun v=>(l'.length - v).toNat) (by omega) ?_
   intro v hv next hn
   refine Ev.ba (fun h=>Dm hR (by omega) h fun d d' hd1 hdd=>?_) (fun _=>Ev.ok rfl)
   have hx:=hdd.x
   have hds:=hs _ hd1
   have hdN:=hN _ hd1
   have e2:=hx.s.1
   have hl1:=hds.l1
   rw[hx.k,hx.p,hx.t,hx.a,hx.b,hx.tr,hx.ld,hx.tl]
   refine Ev.b5 (fun h=>absurd rfl h) (fun _=>Ev.b5 (fun h=>absurd rfl h) (fun _=>Ev.b5 (fun h=>absurd rfl h) (fun _=>Ev.br (fun h=>by simp at h) (fun _=>Ev.b5 (fun h=>absurd rfl h) (fun _=>Ev.b5 (fun h=>absurd (by rw[e2]) h) (fun _=>?_))))))
   refine Ev.aQ (qq hm hds.l5) fun y hy=>?_
   subst hy
   refine Ev.cg (Ev.aQ (qq hm hds.l3) fun y hy=>?_)
   subst hy
   refine Ev.cg (Ev.aQ (ih.d hm (fun d hd=>by have:=CX hd;omega) hds.l2 hds.d hx.d) fun y hy=>?_)
   subst hy
   refine Ev.cg (Ev.iter hm (fun (w:Int)=>0≤w∧w≤d'.bf.length) (fun w=>(d'.bf.length - w).toNat) (by omega) ?_)
   intro w hw next2 hn2
   refine Ev.ba (fun h=>Dm hx.s (by omega) h fun x x' hm1 hxx=>?_) (fun _=>?_)
   ·refine Ev.aQ (ih.e hm (by have:=CW hm1;omega) (hds.s _ hm1) hxx) fun y hy=>?_
    subst hy
    exact Ev.cg (Ev.gd (by (first|omega|(simp[bK]<;>omega))) (hn2 _ (by omega) (by omega)))
   ·exact Ev.gd (by (first|omega|(simp[bK]<;>omega))) (hn _ (by omega) (by omega))
section
variable {α β:Type} {Q:α→Prop} {m:Nat→Nat}
theorem Ev.EX {F:Nat→D α} {G:Nat→D β} {m:Nat→Nat} {a:α} {Z:α→Prop} {V:α→β→Prop} {Q:β→Prop} {R:oj→Prop} (hm:cm m) (hF:∃ N,∀ i,N≤i→F i=.ok a) (hG:Ev (fun i=>G (m i)) Q R) (h:∀ i,RS Z V (F i) (G i)) (hz:¬ Z a) :
  Ev (fun i=>G (m i)) (fun b=>Q b∧V a b) fun _=>False:=by
 obtain ⟨r,h1,N,hN⟩:=hG
 obtain ⟨M,hM⟩:=hF
 obtain ⟨M',hM'⟩:=hm M
 have e:=hN (N+M') (by omega)
 dsimp only at e
 have e2:=hM (m (N+M')) (hM' _ (by omega))
 rcases h (m (N+M')) a e2 with q|q|⟨b,q,hb⟩
 ·exact absurd q hz
 ·rw[q] at e;subst e;exact h1.elim
 ·rw[q] at e;subst e;exact ⟨.ok b,⟨h1,hb⟩,N,hN⟩
theorem Ev.H8 {F:Nat→D α} {R:oj→Prop} {v:α} (h:Ev F Q R) (hv:∀ i,F i=.stuck∨F i=.ok v):Ev F (fun r=>r=v) gA:=by
 obtain ⟨r,h1,N,hN⟩:=h
 rcases hv N with q|q
 ·rw[hN N (Nat.le_refl _)] at q;subst q;exact h1.elim
 ·rw[hN N (Nat.le_refl _)] at q;subst q;exact ⟨.ok v,(Eq.refl v:(D.ok v).sat (fun r=>r=v) gA),N,hN⟩
end
mutual
theorem EE.symm:∀ {e e':aj},EE e e'→EE e' e
 | _,_,.mk h1 h2 h3 h4=>.mk h1.symm (fun i x y hx hy=>(h2 i y x hy hx).symm) h3.symm (fun i x y hx hy=>(h4 i y x hy hx).symm)
theorem DD.symm:∀ {e e':o},DD e e'→DD e' e
 | _,_,.mk h1 h2 h3 h4=>.mk h1.symm (fun i x y hx hy=>(h2 i y x hy hx).symm) h3.symm (fun i x y hx hy=>(h4 i y x hy hx).symm)
end
mutual
theorem EE.trans:∀ {e e' e'':aj},EE e e'→EE e' e''→EE e e''
 | _,_,_,.mk h1 h2 h3 h4,.mk g1 g2 g3 g4=>.mk (h1.trans g1) (fun i x z hx hz=>(h2 i x _ hx (List.getElem?_eq_getElem (by have:=(List.getElem?_eq_some_iff.1 hx).1;omega))).trans (g2 i _ z (List.getElem?_eq_getElem (by have:=(List.getElem?_eq_some_iff.1 hx).1;omega)) hz)) (h3.trans g3)
   (fun i x z hx hz=>(h4 i x _ hx (List.getElem?_eq_getElem (by have:=(List.getElem?_eq_some_iff.1 hx).1;omega))).trans (g4 i _ z (List.getElem?_eq_getElem (by have:=(List.getElem?_eq_some_iff.1 hx).1;omega)) hz))
theorem DD.trans:∀ {e e' e'':o},DD e e'→DD e' e''→DD e e''
 | _,_,_,.mk h1 h2 h3 h4,.mk g1 g2 g3 g4=>.mk (h1.trans g1) (fun i x z hx hz=>(h2 i x _ hx (List.getElem?_eq_getElem (by have:=(List.getElem?_eq_some_iff.1 hx).1;omega))).trans (g2 i _ z (List.getElem?_eq_getElem (by have:=(List.getElem?_eq_some_iff.1 hx).1;omega)) hz)) (h3.trans g3)
   (fun i x z hx hz=>(h4 i x _ hx (List.getElem?_eq_getElem (by have:=(List.getElem?_eq_some_iff.1 hx).1;omega))).trans (g4 i _ z (List.getElem?_eq_getElem (by have:=(List.getElem?_eq_some_iff.1 hx).1;omega)) hz))
end
section
variable {s:List UInt8} {T:List au}
structure WX (s:List UInt8) (T:List au) (e:aj) (a:Int):Prop where
 C:PC s T 0
 scan:∃ F:dH,F.Errno=0∧∃ N,∀ i,N≤i→fP i s=.ok (T,F)
 q:∃ q,∃ N,∀ i,N≤i→aD i true (aY s T 0 0 false none)=.ok (e,aY s T a 0 false q)
 GH:∃ z,z≠9∧∃ N,∀ i,N≤i→eF i e=.ok z
 e:iV e
 a0:0≤a
 a1:a<T.length
 stop:∃ t,T[a.toNat]?=some t∧(t.Kind=0∨t.Kind=7∧∃ u,T[(a+1).toNat]?=some u∧u.Kind=0)
theorem Dn:Ev (fun i=>gP i s) (fun r=>r.2.Errno=0→∃ T a,WX s T r.1 a) gA:=by
 unfold gP
 refine Ev.bind (oT cm.id).self (fun _ q=>q) fun y hy=>?_
 obtain ⟨hy,hsc⟩:=hy
 refine Ev.b5 (fun he=>Ev.ok fun h=>absurd h he) (fun he=>?_)
 have hT:=(hy.2.2 he).2
 have hC:PC s y.1 0:=⟨hT,by simp,by have:=hT.H3;omega⟩
 have hX:sK s 0:=sL hC.bs
 have hp:=hC.pos
 have hl:=hC.ls
 have hm:cm fun i=>i:=cm.id
 refine Ev.wG (R':=PP (0+s.length)) ?_ ?_
 ·refine Ev.bind ((xE hC hX _).expr (j:=true) (k:=false) (q:=none) hm (Int.le_refl 0) (by omega) .none (Nat.lt_succ_self _)).self (fun _ q=>q) fun r hr=>?_
  obtain ⟨e,p⟩:=r
  obtain ⟨⟨⟨a2,q2,hp,h2,h3,hq2⟩,he⟩,hev⟩:=hr
  dsimp only at hp he;subst hp;dsimp only
  have hW:(∃ t,y.1[a2.toNat]?=some t∧(t.Kind=0∨t.Kind=7∧∃ u,y.1[(a2+1).toNat]?=some u∧u.Kind=0))→(∃ z,z≠9∧∃ N,∀ i,N≤i→eF i e=.ok z)→WX s y.1 e a2:=fun h h'=>
   ⟨hC,⟨y.2,‹_›,hsc⟩,⟨q2,hev⟩,h',he,h2,by omega,h⟩
  refine Ev.jn (fun v=>∃ a',v=aY s y.1 a' 0 false q2∧0≤a'∧a'<y.1.length∧((∃ t,y.1[a'.toNat]?=some t∧t.Kind=0)→(∃ z,z≠9∧∃ N,∀ i,N≤i→eF i e=.ok z)→WX s y.1 e a2)) (fun v hv=>?_) (fun j hj=>?_)
  ·obtain ⟨a3,rfl,h4,h5,h6⟩:=hv
   refine Ev.jn (fun _=>(∃ z,z≠9∧∃ N,∀ i,N≤i→eF i e=.ok z)→WX s y.1 e a2) (fun v hv=>?_) (fun j hj=>?_)
   ·refine Ev.bind (tg hm he).self (fun _ q=>q.elim) fun z hz=>?_
    refine Ev.br (fun _=>Ev.ok fun h=>by simp at h) (fun h9=>Ev.ok fun _=>⟨_,_,hv ⟨z,by simpa using h9,hz.2⟩⟩)
   ·refine fB hm hC h4 h5 fun a4 t h7 h8 ht _ e4=>?_
    dsimp only
    have e4:=e4 _ (List.getElem?_eq_getElem (by omega)) (fun h=>by cases h)
    subst e4
    exact Ev.b5 (fun _=>jm hm hC (by omega) h5 (by omega)) (fun hk=>hj _ (h6 ⟨t,ht,by simpa using hk⟩))
  ·refine fB hm hC (by omega) (by omega) fun a4 t h6 h7 ht _ e4=>?_
   dsimp only
   have e4:=e4 _ (List.getElem?_eq_getElem (by omega)) (fun h=>by cases h)
   subst e4
   refine Ev.bE (fun hk=>?_) (fun _=>hj _ ⟨a4,rfl,h2,h7,fun ⟨u,hu,hk⟩=>hW ⟨u,hu,.inl hk⟩⟩)
   have hnx:=hC.next (by omega) ht (by omega)
   exact Ev.gd (by (first|omega|(simp[bK]<;>omega))) (hj _ ⟨a4+1,rfl,by omega,hnx,fun ⟨u,hu,hk2⟩=>hW ⟨t,ht,.inr ⟨hk,u,hu,hk2⟩⟩⟩)
 ·rintro p ⟨v,rfl,h1,h2⟩
  refine Ev.sB ?_
  unfold lj jS
  exact Ev.ok fun h=>by simp at h
end
end Go.Abs
end
section
namespace Go.Abs
open D
section
variable {s:List UInt8} {T:List au} {b:Int} {e:aj} {a:Int} {m:Nat→Nat}
theorem th (hC:PC s T b) {i:Nat} {t:au} (ht:T[i]?=some t) (hk:t.Kind=0):i+1=T.length:=by
 obtain ⟨l,rfl,h1⟩:=hC.bo.is
 have hi:=(List.getElem?_eq_some_iff.1 ht).1
 simp at hi
 rcases Nat.lt_or_ge i l.length with q|q
 ·rw[List.getElem?_append_left q] at ht
  exact absurd hk (h1.ok t (List.mem_of_getElem? ht)).k
 ·simp;omega
theorem HY (h:WX s T e a) (hm:cm m):Ev (fun i=>aD (m i) true (aY s T 0 0 true none)) (fun r=>∃ x a2,r=(x,aY s T a2 0 true none)∧EE e x∧NC T a∧R2 T a a2) gA:=by
 obtain ⟨q,hq⟩:=h.q
 have hX:sK s 0:=sL h.C.bs
 have hp:=h.C.pos
 refine (Ev.EX hm hq ((xE h.C hX _).expr (j:=true) (k:=true) (q:=none) hm (Int.le_refl 0) (by omega) .none (Nat.lt_succ_self _)) (fun i=>(Gl i).expr (j:=true) (Int.le_refl 0)) ?_).yA fun r hr=>?_
 ·rintro ⟨a1,h1,h2,⟨t,ht,hk⟩,h4⟩
  dsimp only at h1
  injection h1 with _ _ g
  subst g
  obtain ⟨u,hu,hk2⟩:=h.stop
  rw[ht] at hu;cases hu
  rcases hk2 with hk2|⟨_,w,hw,hkw⟩
  ·omega
  ·exact h4 ⟨w,hw,hkw⟩
 ·obtain ⟨x,p⟩:=r
  obtain ⟨_,⟨a1,a2,g1,g2,h1,h2⟩,h3⟩:=hr
  dsimp only at g1 g2 h3
  injection g1 with _ _ g
  subst g
  exact ⟨x,a2,by rw[g2],h3,h1,h2⟩
theorem Ho (h:WX s T e a) (hn:NC T a) (o:List au) (t u:au) (hT:T=o++[t,u]):t.Kind≠6:=by
 have ho:T[o.length]?=some t:=by rw[hT];simp
 have hl:T.length=o.length+2:=by rw[hT];simp
 obtain ⟨v,hv,hk⟩:=h.stop
 have h0:=h.a0
 rcases hk with hk|⟨hk,w,hw,hkw⟩
 ·have:=th h.C hv hk
  exact hn.2 t (by rw[← ho];congr 1;omega)
 ·have:=th h.C hw hkw
  rw[show a.toNat=o.length by omega,ho] at hv
  cases hv;omega
structure Pz (s:List UInt8) (T U:List au) (pre w:List UInt8) (pt ts:List au):Prop where
 T:T=U++[au.mk 0 [] s.length s.length]
 len:pt.length=pre.length
 C:PC (pre++(s++41::w)) (pt++U.map (sR pre.length)++ts) 0
 hd:∃ r,ts=au.mk 5 [41] (s.length+pre.length) (s.length+pre.length+1)::r∧r≠[]
 ts:∀ x,x∈ts→ST true (au.mk 0 [] s.length s.length) x
section
variable {U:List au} {pre w:List UInt8} {pt ts:List au}
theorem Pz.get (h:Pz s T U pre w pt ts) {i:Nat} {t t':au} (ht:T[i]?=some t) (ht':(pt++U.map (sR pre.length)++ts)[i+pre.length]?=some t') :
  (i<U.length∧t'=sR pre.length t)∨(i=U.length∧t=au.mk 0 [] s.length s.length∧t'=au.mk 5 [41] (s.length+pre.length) (s.length+pre.length+1)):=by
 have hl:=(List.getElem?_eq_some_iff.1 ht).1
 rw[h.T] at ht hl
 simp at hl
 rw[List.append_assoc,List.getElem?_append_right (by rw[h.len];omega),h.len,Nat.add_sub_cancel] at ht'
 rcases Nat.lt_or_ge i U.length with q|q
 ·rw[List.getElem?_append_left q] at ht
  rw[List.getElem?_append_left (by simpa using q)] at ht'
  simp[ht] at ht'
  exact .inl ⟨q,ht'.symm⟩
 ·have e:i=U.length:=by omega
  subst e
  obtain ⟨r,hr,_⟩:=h.hd
  rw[List.getElem?_append_right (by simp)] at ht'
  simp[hr] at ht'
  simp at ht
  exact .inr ⟨rfl,ht.symm,ht'.symm⟩
abbrev Pz.X (_:Pz s T U pre w pt ts):Cx:=⟨s,T,0,pre++(s++41::w),pt++U.map (sR pre.length)++ts,0,pre.length,true⟩
theorem Pz.H9 (h:Pz s T U pre w pt ts) (hC:PC s T 0):h.X.kW where
 tok:=fun i t t' ht ht'=>by
  rcases h.get ht ht' with ⟨_,rfl⟩|⟨_,rfl,rfl⟩
  ·exact .inl ⟨rfl,rfl⟩
  ·exact .inr ⟨rfl,rfl,rfl,rfl,rfl⟩
 nl:=fun i j t u t' u' h1 h2 h3 h4=>by
  have g1:=hC.tok h1
  have g2:=hC.tok h2
  have eu:u'.Pos=u.Pos+pre.length:=by
   rcases h.get h2 h4 with ⟨_,rfl⟩|⟨_,rfl,rfl⟩<;>rfl
  have e:sub s t.End u.Pos=sub (pre++(s++41::w)) t'.End u'.Pos:=by
   rw[eu]
   rcases h.get h1 h3 with ⟨_,rfl⟩|⟨_,rfl,rfl⟩
   ·exact (Di (by omega) (by omega)).symm
   ·have hz:∀ {l:List UInt8} {i j:Int},j≤i→sub l i j=[]:=fun {l i j} h=>by
     simp only[sub]
     rw[show j.toNat - i.toNat=0 by omega];simp
    dsimp only
    rw[hz (by omega),hz (by omega)]
  show RS NZ Eq (strings_Contains (sub s t.End u.Pos) [10]) (strings_Contains (sub (pre++(s++41::w)) t'.End u'.Pos) [10])
  rw[e]
  exact fun a e=>.inr (.inr ⟨a,e,rfl⟩)
 last:=fun _ i t ht hk=>th hC ht hk
 HK:=fun i t t' h1 h2 ht ht'=>by
  dsimp only at h1 h2 ht ht' ⊢
  have hlT:T.length=U.length+1:=by rw[h.T];simp
  obtain ⟨r,hr,hr2⟩:=h.hd
  have hr3:1≤r.length:=by cases r with|nil=>exact absurd rfl hr2|cons=>simp
  have hl':(pt++U.map (sR pre.length)++ts).length=pre.length+U.length+1+r.length:=by simp[h.len,hr];omega
  simp only[cap] at h1 h2 ht ht'
  by_cases hi:i≤U.length
  ·rw[if_neg (by omega)] at h1 ht
   rw[if_neg (by omega)] at h2 ht'
   rw[tn h1] at ht'
   rcases h.get ht ht' with ⟨_,rfl⟩|⟨_,rfl,rfl⟩
   ·exact .inl ⟨rfl,rfl⟩
   ·exact .inr ⟨rfl,rfl,rfl,rfl,rfl⟩
  ·rw[if_pos (by omega),show ((T.length:Int) - 1).toNat=U.length by omega,h.T] at ht
   simp at ht
   subst ht
   refine h.ts t' ?_
   have hx:pre.length+U.length≤(if ((pt++U.map (sR pre.length)++ts).length:Int) - 1<i+pre.length then ((pt++U.map (sR pre.length)++ts).length:Int) - 1 else i+pre.length).toNat:=by
    split<;>omega
   have hpl:(pt++U.map (sR pre.length)).length=pre.length+U.length:=by simp[h.len]
   rw[List.getElem?_append_right (by rw[hpl];exact hx)] at ht'
   exact List.mem_of_getElem? ht'
def Cl (T:List au) (a p:Int):Prop:=0≤a∧(a=p∨sO T a∧a+1=p)
theorem Pz.inner (h:Pz s T U pre w pt ts) (hw:WX s T e a) (hm:cm m):Ev (fun i=>aD (m i) true (aY (pre++(s++41::w)) (pt++U.map (sR pre.length)++ts) pre.length 0 true none))
  (fun r=>∃ x a4,r=(x,aY (pre++(s++41::w)) (pt++U.map (sR pre.length)++ts) a4 0 true none)∧(EE e x∧iV x)∧Cl (pt++U.map (sR pre.length)++ts) a4 (U.length+pre.length)) gA:=by
 obtain ⟨r,⟨x1,a2,rfl,he,hn,hR⟩,hN⟩:=(HY hw cm.id).get
 have hX:sK (pre++(s++41::w)) 0:=sL h.C.bs
 have hlT:T.length=U.length+1:=by rw[h.T];simp
 obtain ⟨r,hr,hr2⟩:=h.hd
 refine (Ev.follow hm hN ((xE h.C hX _).expr (j:=true) (k:=true) (q:=none) (a:=pre.length) hm (by omega) (by have:=h.len;simp[hr];omega) .none (Nat.lt_succ_self _)) fun i=>by
  have:=(sN i).g.expr (C:=h.X) (a:=0) (k:=true) (j:=true) (h.H9 hw.C) (Int.le_refl 0) .none
  simp only[Int.zero_add] at this
  exact this).yA fun r hr=>?_
 obtain ⟨x,p⟩:=r
 obtain ⟨⟨_,h1⟩,⟨a1,g1,g2,_⟩,h2⟩:=hr
 dsimp only at g1 g2 h1 h2
 injection g1 with _ _ g3
 subst g3
 refine ⟨x,a2+pre.length,by rw[g2],⟨he.trans h2,h1⟩,?_⟩
 have hn0:=hn.1
 obtain ⟨v,hv,hk⟩:=hw.stop
 have h0:=hw.a0
 rcases hk with hk|⟨hk,z,hz,hkz⟩
 ·have:=th hw.C hv hk
  rcases hR with ⟨_,rfl⟩|⟨⟨t,ht,hk7⟩,_⟩
  ·exact ⟨by omega,.inl (by omega)⟩
  ·rw[hv] at ht;cases ht;omega
 ·have hzl:=th hw.C hz hkz
  rcases hR with ⟨hnl,_⟩|⟨_,_,rfl|rfl⟩
  ·exact absurd ⟨v,hv,hk⟩ hnl
  ·refine ⟨by omega,.inr ⟨⟨sR pre.length v,?_,hk⟩,by omega⟩⟩
   rw[h.T,List.getElem?_append_left (by omega)] at hv
   rw[show (a2+(pre.length:Int)).toNat=a2.toNat+pre.length by omega,List.append_assoc,List.getElem?_append_right (by rw[h.len];omega),h.len,Nat.add_sub_cancel,List.getElem?_append_left (by simp;omega)]
   simp[hv]
  ·exact ⟨by omega,.inl (by omega)⟩
end
end
section
variable {s:List UInt8} {T:List au} {a p:Int} {k:Bool} {P:aj→Prop} {t c:au}
theorem Dp {α:Type} {Q:α→Prop} {R:oj→Prop} {m:Nat→Nat} {a4:Int} (hm:cm m) (hC:PC s T 0) (hcl:Cl T a4 p) (hp:T[p.toNat]?=some c) (hk:c.Kind=5) (hx:c.Text=[41]) {K:Nat→L→D α} (h:Ev (fun i=>K i (aY s T p 0 true none)) Q R) :
  Ev (fun i=>D.bind (bV (m i) [41] (aY s T a4 0 true none)) (K i)) Q R:=by
 have hpl:=(List.getElem?_eq_some_iff.1 hp).1
 have h4:a4<T.length:=by have:=hcl.1;rcases hcl.2 with q|⟨_,q⟩<;>omega
 refine Ev.ep (Q:=fun r=>r=aY s T p 0 true none) ?_ fun r hr=>by subst hr;exact h
 unfold bV
 refine Ev.ep (Ev.H8 (v:=(c,aY s T p 0 true none)) (sq hm hC hcl.1 h4) fun i=>?_) fun r hr=>?_
 ·rcases hcl.2 with rfl|⟨q,rfl⟩
  ·exact De hcl.1 hp (fun _=>by omega)
  ·exact Hk hcl.1 q hp (by omega)
 ·subst hr
  exact Ev.qw (a:=true) (by rw[CZ hk,hx];rfl) (Ev.bA (fun h=>by cases h) (fun _=>Ev.ok rfl))
theorem ub (hC:PC s T 0) (h0:0≤a) (ht:T[a.toNat]?=some t) (hk:t.Kind=5) (hx:t.Text=[40]) (hp0:0≤p) (hp:T[p.toNat]?=some c) (hk2:c.Kind=5) (hx2:c.Text=[41])
  (hin:∀ {m:Nat→Nat},cm m→Ev (fun i=>aD (m i) true (aY s T (a+1) 0 true none)) (fun r=>∃ x a4,r=(x,aY s T a4 0 true none)∧P x∧Cl T a4 p) gA) {m:Nat→Nat} (hm:cm m) :
  Ev (fun i=>bM (m i) true (aY s T a 0 k none)) (Rd s T 0 (p+1) k P) gA:=by
 have hl:=hC.ls
 have hpl:=(List.getElem?_eq_some_iff.1 hp).1
 refine Ev.grow (F:=fun n=>bM n true (aY s T a 0 k none)) hm fun m hm=>?_
 show Ev (fun i=>cK (m i) (ai (m i)) true (aY s T a 0 k none)) _ _
 unfold cK
 refine Ev.ep (Q:=fun r=>r=aY s T (a+1) 0 k none) ?_ fun r hr=>?_
 ·unfold bu
  exact Gv hm hC h0 ht (fun _=>by omega) (by rw[CZ hk,hx];rfl) (Ev.bA (fun h=>by cases h) (fun _=>Ev.ok rfl))
 subst hr
 refine Ev.ep (Q:=fun r=>r.1=aY s T p 0 k none∧P r.2.2) ?_ fun r hr=>?_
 ·refine Ev.grow (F:=fun n=>cu n true (aY s T (a+1) 0 k none) true (aj.mk 0 [] 0 [] [] [] [] [] 0)) hm fun m hm=>?_
  show Ev (fun i=>c8 (m i) (ai (m i)) true (aY s T (a+1) 0 k none) true (aj.mk 0 [] 0 [] [] [] [] [] 0)) _ _
  unfold c8
  dsimp only
  refine Ev.ep (Q:=fun r=>r.2.2=aY s T p 0 true none∧P r.2.1) ?_ fun r hr=>?_
  ·refine Ev.grow (F:=fun n=>ea n true (aj.mk 0 [] 0 [] [] [] [] [] 0) (aY s T (a+1) 0 true none)) hm fun m hm=>?_
   show Ev (fun i=>dj (m i) (ai (m i)) true (aj.mk 0 [] 0 [] [] [] [] [] 0) (aY s T (a+1) 0 true none)) _ _
   unfold dj
   refine Ev.ep (hin hm) fun r hr=>?_
   obtain ⟨x,a4,rfl,hP,hcl⟩:=hr
   dsimp only
   exact Dp hm hC hcl hp hk2 hx2 (Ev.ok ⟨rfl,hP⟩)
  ·obtain ⟨x,e1,p1⟩:=r
   obtain ⟨g1,g2⟩:=hr
   dsimp only at g1 g2;subst g1
   exact Ev.ok ⟨rfl,g2⟩
 ·obtain ⟨p1,x,e1⟩:=r
  obtain ⟨g1,g2⟩:=hr
  dsimp only at g1 g2;subst g1
  exact Ev.gd (by (first|omega|(simp[bK]<;>omega))) (Ev.ok ⟨g2,rfl⟩)
end
end Go.Abs
end
section
namespace Go.Abs
open D
section
variable {s:List UInt8} {T:List au} {e:aj} {a:Int}
theorem A7 {t':List UInt8} {T':List au} {p:Int} (hsc:Ev (fun i=>fP i t') (fun r=>r.2.Errno=0∧r.1=T') gA) (hC:PC t' T' 0) (h:WX s T e a)
  (hx:Ev (fun i=>aD i true (aY t' T' 0 0 false none)) (Rd t' T' 0 p false (fun x=>EE e x∧iV x)) gA) (hp0:0≤p) {u:au} (hu:T'[p.toNat]?=some u) (hk:u.Kind=0) :
  Ev (fun i=>gP i t') (fun r=>r.2.Errno=0∧EE e r.1∧iV r.1) gA:=by
 unfold gP
 have hm:cm fun i=>i:=cm.id
 refine Ev.ep hsc fun y hy=>?_
 obtain ⟨y1,y2⟩:=y
 obtain ⟨g1,g2⟩:=hy
 dsimp only at g1 g2;subst g2
 refine Ev.b5 (fun he=>absurd g1 he) (fun _=>Ev.wG (R':=gA) ?_ fun _ h=>h.elim)
 refine xR hx fun x hx=>Ev.jN ?_
 dsimp only
 refine oX hm hC hp0 hu (fun h=>by cases h) ?_
 dsimp only
 refine Ev.bE (fun h=>by omega) (fun _=>Ev.jN ?_)
 dsimp only
 refine oX hm hC hp0 hu (fun h=>by cases h) ?_
 dsimp only
 refine Ev.b5 (fun h=>absurd hk h) (fun _=>?_)
 obtain ⟨z,hz,hN⟩:=h.GH
 refine Ev.ep (Ev.follow (V:=fun a b=>b=a) hm hN (tg hm hx.2) fun i=>?_) fun w hw=>?_
 ·show RQ (eF i e) (eF i x)
  unfold eF
  exact RQ.bind ((Gu i).e hx.1) fun y=>RQ.rfl
 ·have hw:=hw.2
  subst hw
  exact Ev.bE (fun h=>absurd h hz) (fun _=>Ev.ok ⟨rfl,hx⟩)
theorem Hp (hs:s.length≤400) (h:WX s T e a) (hn:NC T a):Ev (fun i=>fP i (40::(s++[41]))) (fun r=>r.2.Errno=0∧(∃ U ts,T=U++[au.mk 0 [] s.length s.length]∧r.1=[tP 0]++U.map (sR 1)++ts∧ts=[au.mk 5 [41] (s.length+1) (s.length+1+1),au.mk 0 [] (s.length+1+1) (s.length+1+1)])∧CV (40::(s++[41])) r.1) gA:=by
 obtain ⟨F,hF,hN⟩:=h.scan
 exact Dk (pre:=[40]) (pt:=[tP 0]) (w:=[]) (Tk:=fun ts=>ts=[au.mk 5 [41] (s.length+1) (s.length+1+1),au.mk 0 [] (s.length+1+1) (s.length+1+1)]) (by simp) (by simp) (fun n j=>by rw[show j+([40]:List UInt8).length=j+1 from rfl,lB];exact Fi _)
  (fun n k o l=>Fh (by omega) (by simp[dp,show ((s.length:Int)+1).toNat=s.length+1 by omega]) (by simp) k o l) hN hF hs (Ho h hn)
theorem Hq (hs:s.length≤400) (h:WX s T e a) (hn:NC T a):Ev (fun i=>fP i (40::40::(s++[41,32,41]))) (fun r=>r.2.Errno=0∧(∃ U ts,T=U++[au.mk 0 [] s.length s.length]∧r.1=[tP 0,tP 1]++U.map (sR 2)++ts∧ts=[au.mk 5 [41] (s.length+2) (s.length+2+1),au.mk 5 [41] (s.length+2+2) (s.length+2+3),au.mk 0 [] (s.length+2+3) (s.length+2+3)])∧CV (40::40::(s++[41,32,41])) r.1) gA:=by
 obtain ⟨F,hF,hN⟩:=h.scan
 exact Dk (pre:=[40,40]) (pt:=[tP 0,tP 1]) (w:=[32,41]) (Tk:=fun ts=>ts=[au.mk 5 [41] (s.length+2) (s.length+2+1),au.mk 5 [41] (s.length+2+2) (s.length+2+3),au.mk 0 [] (s.length+2+3) (s.length+2+3)]) (by simp) (by simp) (fun n j=>by rw[show j+([40,40]:List UInt8).length=j+1+1 from rfl,lB];exact (Fi _).trans (by rw[lB];exact Hm _))
  (fun n k o l=>Hl (by omega) (by simp[dp,show ((s.length:Int)+2).toNat=s.length+2 by omega]) (by simp;omega) k o l) hN hF hs (Ho h hn)
theorem Hr (h:WX s T e a):NC T a:=by
 obtain ⟨_,⟨_,_,_,_,hn,_⟩,_⟩:=(HY h cm.id).get
 exact hn
theorem Gw (hs:s.length≤400) (h:WX s T e a):Ev (fun i=>gP i (40::(s++[41]))) (fun r=>r.2.Errno=0∧EE e r.1∧iV r.1) gA:=by
 obtain ⟨r,⟨hr1,⟨U,ts,hT,hr2,rfl⟩,hr3⟩,hN⟩:=(Hp hs h (Hr h)).get
 rw[hr2] at hr3
 have hC:PC (40::(s++[41])) ([tP 0]++U.map (sR 1)++[au.mk 5 [41] (s.length+1) (s.length+1+1),au.mk 0 [] (s.length+1+1) (s.length+1+1)]) 0:=⟨hr3,by simp,by simp;omega⟩
 have hP:Pz s T U [40] [] [tP 0] [au.mk 5 [41] (s.length+1) (s.length+1+1),au.mk 0 [] (s.length+1+1) (s.length+1+1)]:=⟨hT,rfl,hC,⟨_,rfl,by simp⟩,fun x hx=>by
  simp at hx
  rcases hx with rfl|rfl
  ·exact .inr ⟨rfl,rfl,rfl,rfl,rfl⟩
  ·exact .inl ⟨rfl,rfl⟩⟩
 have g1:([tP 0]++U.map (sR 1)++[au.mk 5 [41] (s.length+1) (s.length+1+1),au.mk 0 [] (s.length+1+1) (s.length+1+1)])[((U.length:Int)+1).toNat]?=some (au.mk 5 [41] (s.length+1) (s.length+1+1)):=by
  rw[show ((U.length:Int)+1).toNat=U.length+1 by omega];simp
 have g2:([tP 0]++U.map (sR 1)++[au.mk 5 [41] (s.length+1) (s.length+1+1),au.mk 0 [] (s.length+1+1) (s.length+1+1)])[((U.length:Int)+1+1).toNat]?=some (au.mk 0 [] (s.length+1+1) (s.length+1+1)):=by
  rw[show ((U.length:Int)+1+1).toNat=U.length+2 by omega];simp
 refine A7 (p:=U.length+1+1) ⟨.ok r,⟨hr1,hr2⟩,hN⟩ hC h ?_ (by omega) g2 rfl
 refine xQ.expr (a:=0) (a1:=U.length+1+1) (t:=tP 0) ⟨hC,Int.le_refl 0,rfl,rfl,rfl,by omega,g2,.inl rfl,fun hm=>?_⟩ cm.id
 exact ub (t:=tP 0) hC (Int.le_refl 0) rfl rfl rfl (by omega) g1 rfl rfl (fun hm=>hP.inner h hm) hm
theorem Gx (hs:s.length≤400) (h:WX s T e a):Ev (fun i=>gP i (40::40::(s++[41,32,41]))) (fun r=>r.2.Errno=0∧EE e r.1∧iV r.1) gA:=by
 obtain ⟨r,⟨hr1,⟨U,ts,hT,hr2,hts⟩,hr3⟩,hN⟩:=(Hq hs h (Hr h)).get
 rw[hr2] at hr3
 have hC:PC (40::40::(s++[41,32,41])) ([tP 0,tP 1]++U.map (sR 2)++ts) 0:=⟨hr3,by simp,by simp;omega⟩
 have hP:Pz s T U [40,40] [32,41] [tP 0,tP 1] ts:=⟨hT,rfl,hC,⟨_,hts,by simp⟩,fun x hx=>by
  rw[hts] at hx
  simp at hx
  rcases hx with rfl|rfl|rfl
  ·exact .inr ⟨rfl,rfl,rfl,rfl,rfl⟩
  ·exact .inr ⟨rfl,rfl,rfl,rfl,rfl⟩
  ·exact .inl ⟨rfl,rfl⟩⟩
 have g1:([tP 0,tP 1]++U.map (sR 2)++ts)[((U.length:Int)+2).toNat]?=some (au.mk 5 [41] (s.length+2) (s.length+2+1)):=by
  rw[show ((U.length:Int)+2).toNat=U.length+2 by omega,hts];simp
 have g2:([tP 0,tP 1]++U.map (sR 2)++ts)[((U.length:Int)+2+1).toNat]?=some (au.mk 5 [41] (s.length+2+2) (s.length+2+3)):=by
  rw[show ((U.length:Int)+2+1).toNat=U.length+3 by omega,hts];simp
 have g3:([tP 0,tP 1]++U.map (sR 2)++ts)[((U.length:Int)+2+1+1).toNat]?=some (au.mk 0 [] (s.length+2+3) (s.length+2+3)):=by
  rw[show ((U.length:Int)+2+1+1).toNat=U.length+4 by omega,hts];simp
 refine A7 (p:=U.length+2+1+1) ⟨.ok r,⟨hr1,hr2⟩,hN⟩ hC h ?_ (by omega) g3 rfl
 refine xQ.expr (a:=0) (a1:=U.length+2+1+1) (t:=tP 0) ⟨hC,Int.le_refl 0,rfl,rfl,rfl,by omega,g3,.inl rfl,fun hm=>?_⟩ cm.id
 refine ub (P:=fun x=>EE e x∧iV x) (k:=false) (t:=tP 0) hC (Int.le_refl 0) rfl rfl rfl (by omega) g2 rfl rfl (fun hm=>?_) hm
 refine (xQ.expr (a:=0+1) (a1:=U.length+2+1) (t:=tP 1) (k:=true) (P:=fun x=>EE e x∧iV x) ⟨hC,by omega,rfl,rfl,rfl,by omega,g2,.inr ⟨rfl,.inl rfl⟩,fun hm=>?_⟩ hm).yA fun r hr=>?_
 ·exact ub (P:=fun x=>EE e x∧iV x) (k:=true) (a:=0+1) (t:=tP 1) hC (by omega) rfl rfl rfl (by omega) g1 rfl rfl (fun hm=>by rw[show (0:Int)+1+1=(([40,40]:List UInt8).length:Int) from rfl];exact hP.inner h hm) hm
 ·obtain ⟨x,p⟩:=r
  obtain ⟨h1,h2⟩:=hr
  dsimp only at h1 h2
  exact ⟨x,_,by rw[h2],h1,by omega,.inl rfl⟩
theorem Dq:k2 64=.ok true:=by kernel_rfl
theorem uI:Ev (fun i=>jI i s) (fun r=>r=true) gA:=by
 unfold jI
 have A:Ev (fun _:Nat=>D.bind (k2 64) fun y=>.ok y) (fun r=>r=true) gA:=Ev.qw Dq (Ev.ok rfl)
 refine Ev.ba (fun _=>A) (fun hl=>?_)
 refine Ev.aQ (Dn (s:=s)) fun r hr=>?_
 refine Ev.b5 (fun _=>A) (fun h0=>?_)
 obtain ⟨T,a,h⟩:=hr h0
 refine Ev.gd (by (first|omega|(simp[c7]<;>omega))) (Ev.gd (by (first|omega|(simp[c7]<;>omega))) (Ev.aQ (Gw (s:=s) (by omega) h) fun g hg=>?_))
 refine Ev.gd (by (first|omega|(simp[c7]<;>omega))) (Ev.gd (by (first|omega|(simp[c7]<;>omega))) (Ev.aQ (Gx (s:=s) (by omega) h) fun g2 hg2=>?_))
 refine Ev.bE (fun _=>Ev.bE (fun _=>?_) (fun h=>absurd hg2.1 h)) (fun h=>absurd hg.1 h)
 refine Ev.aQ ((A6 _).e cm.id (Nat.lt_succ_self _) hg.2.2 hg.2.1.symm) fun y hy=>?_
 subst hy
 refine Ev.cD (Ev.aQ ((A6 _).e cm.id (Nat.lt_succ_self _) hg2.2.2 hg2.2.1.symm) fun y hy=>?_)
 subst hy
 exact Ev.cD A
theorem sQ (s:List UInt8):∃ n,jI n s=.ok true:=by
 obtain ⟨a,rfl,N,hN⟩:=(uI (s:=s)).get
 exact ⟨N,hN N (Nat.le_refl _)⟩
end
end Go.Abs
end
