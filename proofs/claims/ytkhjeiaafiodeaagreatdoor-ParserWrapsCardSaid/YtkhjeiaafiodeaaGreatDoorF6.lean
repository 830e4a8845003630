/- PROVED: lemmas of the proof of: configlanglaw26.ParserWraps returns true for every input. CONDITIONS: as each lemma states. (Put together by a program of my own out of my own texts.) -/
import Derived.Test.YtkhjeiaafiodeaaGreatDoorF5
section
namespace Go.Abs
open aq
section
variable {s:List UInt8} {T:List aK} {b:Int} {K:Nat} {m:Nat→Nat} {a:Int} {k:Bool} {q:Option aj} {j:Bool}
theorem BQ (hC:PC s T b) (hm:bZ m) (h0:0≤a) (h1:a<T.length) (hq:QS q) {lead:List (List UInt8)} (hl1:(lead.length:Int)≤a+1) (hl2:∀ x,x∈lead→x.length≤65536)
  (Hd:∀ {m:Nat→Nat} {a':Int} {q:Option aj} {t:aK},bZ m→a≤a'→a'<T.length→QS q→T[a'.toNat]?=some t→t.Kind≠0→t.Kind≠7→Ev (fun i=>bO (m i) j (bL s T a' b k q)) (fun r=>St s T b k a' 0 r.2∧kR r.1) (PP (b+s.length))) :
  Ev (fun i=>dW (m i) lead j (bL s T a b k q)) (fun r=>St s T b k a 0 r.2.2∧r.1.length≤70000∧(∀ d,d∈r.1→kR d)∧r.2.1.length≤70000∧∀ x,x∈r.2.1→x.length≤65536) (PP (b+s.length)):=by
 unfold dW
 have hl:=hC.kT
 refine Ev.iter hm (fun (x:ab×(List (List UInt8))×(List ax)×Int×Bool)=>St s T b k a 0 x.1∧(x.2.1.length:Int)≤x.1.at_+1∧(∀ z,z∈x.2.1→z.length≤65536)∧(x.2.2.1.length:Int)≤x.1.at_+(if x.2.2.2.2 then 0 else 1)∧(∀ d,d∈x.2.2.1→kR d)∧x.2.2.2.1≤x.1.at_∧(0<x.2.2.2.1→1≤x.2.2.1.length))
  (fun x=>2*(T.length - x.1.at_).toNat+(if x.2.2.2.2 then 1 else 0)) ⟨⟨a,q,rfl,by omega,by omega,hq⟩,by dsimp only;omega,hl2,by simp;omega,by simp,by dsimp only;omega,by simp⟩ ?_
 rintro ⟨p,lead,out,e,sep⟩ ⟨⟨a1,q1,hp,h2,h3,hq1⟩,i1,i2,i3,i4,i5,i6⟩ next hn
 dsimp only at hp i1 i2 i3 i4 i5 i6;subst hp;dsimp only at hn i1 i3 i5 ⊢
 have ho3:out.length≤70000:=by cases sep<;>simp at i3<;>omega
 refine CR hm hC (by omega) (by omega) fun a2 t r h4 h5 ht hr h7=>?_
 dsimp only
 refine Ev.bh (fun hrf=>?_) (fun _=>Ev.ok ⟨⟨a2,q1,rfl,by omega,by omega,hq1⟩,ho3,i4,by dsimp only;omega,i2⟩)
 have hk0:=hr hrf
 have hnx:=hC.next (by omega) ht hk0
 have htt:=(hC.tok ht).2.2.2.1
 refine fm hm hC (by omega) h5 fun a3 t3 h8 h9 ht3 h10 e3=>?_
 have e3:=e3 t ht h7
 subst e3
 rw[ht] at ht3;cases ht3
 dsimp only
 refine Ev.jn (fun v=>v=false→t.Kind≠7) (fun v hv=>?_) (fun j1 hj1=>?_)
 ·refine Ev.br (fun _=>?_) (fun hvf=>?_)
  ·refine Ev.gd (by (first|omega|(simp[bA]<;>omega))) (hn _ ⟨⟨a3+1,q1,rfl,by omega,by omega,hq1⟩,by dsimp only;omega,i2,?_,i4,by dsimp only;omega,i6⟩ ?_)
   ·dsimp only;cases sep<;>simp at i3 ⊢<;>omega
   ·dsimp only;cases sep<;>simp<;>omega
  have hk7:=hv hvf
  refine Ev.jn (fun v=>v.1=bL s T a3 b k q1∧(v.2=true→0<e)) (fun v hv=>?_) (fun j2 hj2=>?_)
  ·obtain ⟨p,w⟩:=v
   obtain ⟨hp,hw⟩:=hv
   dsimp only at hp hw;subst hp;dsimp only
   refine Ev.br (fun hwt=>?_) (fun _=>?_)
   ·have ho:=i6 (hw hwt)
    have ho2:(out.length:Int)≤65540:=by cases sep<;>simp at i3<;>omega
    refine Ev.gd (by (first|omega|(simp[bA]<;>omega))) (Ev.el (by omega) (by omega) fun x hx=>?_)
    have hxd:=i4 x (List.mem_of_getElem? hx)
    refine Ev.gd (by (first|omega|(simp[bA]<;>omega))) (hn _ ⟨⟨a3+1,q1,rfl,by omega,by omega,hq1⟩,by dsimp only;omega,i2,?_,fun d hd=>?_,by dsimp only;omega,fun _=>by simpa using ho⟩ ?_)
    ·dsimp only;cases sep<;>simp at i3 ⊢<;>omega
    ·dsimp only at hd
     rcases List.mem_or_eq_of_mem_set hd with w|w
     ·exact i4 d w
     ·subst w;exact .mk hxd.l1 hxd.l2 hxd.l3 hxd.l4 hxd.l5 hxd.l6 htt hxd.kd hxd.s hxd.d
    ·dsimp only;cases sep<;>simp<;>omega
   ·refine Ev.jn (fun v=>v.1=bL s T a3 b k q1) (fun v hv=>?_) (fun j3 hj3=>?_)
    ·obtain ⟨p,w⟩:=v
     dsimp only at hv;subst hv;dsimp only
     refine Ev.br (fun _=>?_) (fun _=>?_)
     ·refine Ev.gd (by (first|omega|(simp[cB,maxLen]<;>omega))) (Ev.gd (by (first|omega|(simp[bA]<;>omega))) (hn _ ⟨⟨a3+1,q1,rfl,by omega,by omega,hq1⟩,by simp;omega,fun z hz=>?_,?_,i4,by dsimp only;omega,i6⟩ ?_))
      ·rcases List.mem_append.1 hz with w|w
       ·exact i2 z w
       ·simp at w;subst w;exact htt
      ·dsimp only;cases sep<;>simp at i3 ⊢<;>omega
      ·dsimp only;cases sep<;>simp<;>omega
     ·refine Ev.jn (fun v=>v=false→sep=true) (fun v hv=>?_) (fun j4 hj4=>?_)
      ·refine Ev.br (fun _=>iW hm hC (by omega) h9 (by omega)) (fun hvf=>?_)
       have hsep:=hv hvf
       subst hsep
       simp at i3
       refine fu (Hd hm (by omega) h9 hq1 ht hk0 hk7) fun d a4 q4 h11 h12 hq4 hd=>?_
       dsimp only
       refine Ev.gd (by (first|omega|(simp[cB,maxLen]<;>omega))) (hn _ ⟨⟨a4,q4,rfl,by omega,h12,hq4⟩,by simp;omega,by simp,by simp;omega,fun z hz=>?_,by dsimp only;omega,fun _=>by simp⟩ (by simp;omega))
       rcases List.mem_append.1 hz with w|w
       ·exact i4 z w
       ·simp at w;subst w
        exact .mk hd.l1 hd.l2 hd.l3 hd.l4 (by omega) i2 hd.l7 hd.kd hd.s hd.d
      ·refine Ev.bk (fun _=>hj4 _ (by simp)) (fun _=>hj4 _ (by simp))
    ·refine Ev.bk (fun _=>?_) (fun _=>hj3 _ rfl)
     exact Ev.bind (tH hm hC (by omega) h9) (fun _ q=>q.elim) fun r hr=>hj3 _ hr
  ·refine Ev.bk (fun _=>Ev.aU (fun he=>?_) (fun _=>hj2 _ ⟨rfl,by simp⟩)) (fun _=>hj2 _ ⟨rfl,by simp⟩)
   exact Ev.bind (s6 hm hC (by omega) h9 (by omega) (by omega)) (fun _ q=>q.elim) fun r hr=>hj2 _ ⟨hr,fun _=>by omega⟩
 ·refine Ev.bk (fun _=>hj1 _ (by simp)) (fun hk7=>jf fun r _ _=>hj1 _ fun _=>hk7)
theorem yn (hC:PC s T b) (hX:ta s b):∀ K,PG s T b K:=by
 intro K
 induction K with
 | zero=>
  constructor
  all_goals (intros;exact absurd ‹_<0› (Nat.not_lt_zero _))
 | succ K ih=>
  exact {
      expr:=fun hm h0 h1 hq hK=>CW hC ih hm h0 h1 hq hK
      alt:=fun hm h0 h1 hq hK=>Ex hC ih hm h0 h1 hq hK
      wO:=fun hm h0 h1 hq hK=>CX hC ih hm h0 h1 hq hK
      bin:=fun hm h0 h1 hq hl0 hl5 hK=>Ey hC ih hm h0 h1 hq hl0 hl5 hK
      unary:=fun hm h0 h1 hq hK=>BL hC ih hm h0 h1 hq hK
      post:=fun hm h0 h1 hq hK=>CY hC ih hm h0 h1 hq hK
      BK:=fun hm h0 h1 hq hK=>CZ hC ih hm h0 h1 hq hK
      named:=fun hm h0 h1 hq ht hk hK=>BN hC ih hm h0 h1 hq ht hk hK
      uS:=fun hm h0 h1 ht hk _=>Am hC hX hm h0 h1 ht hk
      parens:=fun hm h0 h1 hq hK=>An hC ih hm h0 h1 hq hK
      uT:=fun hm h0 h1 hq hK=>Ao hC ih hm h0 h1 hq hK
      list:=fun hm h0 h1 hq hK=>C2 hC ih hm h0 h1 hq hK
      block:=fun hm h0 h1 hq hK=>BO hC ih hm h0 h1 hq hK
      args:=fun hm h0 h1 hq hK=>C0 hC ih hm h0 h1 hq hK
      item:=fun hm h0 h1 hq hK=>C1 hC ih hm h0 h1 hq hK
      field:=fun hm h0 h1 hq hd ht hk hk7 hK=>BP hC ih hm h0 h1 hq hd ht hk hk7 hK
      pattern:=fun hm h0 h1 hq hd hp hK=>yl hC ih hm h0 h1 hq hd hp hK
      sA:=fun hm h0 h1 hq hd hK=>ym hC ih hm h0 h1 hq hd hK
      decl:=fun hm h0 h1 hq ht hk hk7 hK=>C3 hC ih hm h0 h1 hq ht hk hk7 hK
      decls:=fun {m a k q j} hm h0 h1 hq hK=>by
       refine Ev.grow (F:=fun n=>cV n j (bL s T a b k q)) hm fun m hm=>?_
       exact BQ (lead:=[]) hC hm h0 h1 hq (by simp;omega) (by simp) fun hm2 ha h2 hq2 ht hk hk7=>ih.decl hm2 (by omega) h2 hq2 ht hk hk7 (by omega) }
end
theorem wQ {m:Nat→Nat} (hm:bZ m) {l:List aK} (hl:l.length≤70000):Ev (fun i=>fq (m i) l) (fun _=>True) gh:=by
 unfold fq
 refine Ev.bind (Q:=fun _=>True) (R':=gh) ?_ (fun _ q=>q) fun y _=>Ev.ok trivial
 unfold gX
 refine Ev.iter hm (fun (x:Int)=>0≤x∧x≤l.length) (fun x=>(l.length - x).toNat) (by omega) ?_
 intro x hx next hn
 refine Ev.aU (fun _=>?_) (fun _=>Ev.ok trivial)
 refine Ev.el (by omega) (by omega) fun t _=>Ev.nW (by unfold oo;rfl) ?_
 refine Ev.br (fun _=>Ev.ok trivial) (fun _=>Ev.gd (by (first|omega|(simp[bA]<;>omega))) (hn _ (by omega) (by omega)))
theorem C4:∀ (N:Nat) {m:Nat→Nat} {x:List UInt8} {f:Int},bZ m→x.length<N→0≤f→f+x.length≤65536→Ev (fun i=>fF (m i) x f) (fun r=>gT r.1) gh:=by
 intro N
 induction N with
 | zero=>intro m x f _ h;exact absurd h (Nat.not_lt_zero _)
 | succ N ih=>
  intro m x f hm hN h0 h1
  refine Ev.grow (F:=fun n=>fF n x f) hm fun m hm=>?_
  show Ev (fun i=>iB (m i) (ai (m i)) x f) _ _
  unfold iB
  refine Ev.bind (oB hm) (fun _ q=>q) fun y hy=>?_
  refine Ev.bN (fun _=>Ev.ok (.leaf (by decide))) (fun he=>?_)
  have hT:=(hy.2.2 he).2
  have hC:PC x y.1 f:=⟨hT,h0,h1⟩
  have hX:ta x f:=fun hm2 hlt h2 h3=>ih hm2 (by omega) h2 (by omega)
  have hl:=hC.kT
  have hp:=hC.pos
  refine Ev.bind (wQ hm (by omega)) (fun _ q=>q) fun z _=>?_
  refine Ev.br (fun _=>Ev.ok (.leaf (by decide))) (fun _=>?_)
  refine Ev.vI (R':=PP (f+x.length)) ?_ ?_
  ·refine fu (s:=x) (T:=y.1) (b:=f) (k:=true) (a:=0) (d:=0) (P:=gT) ((yn hC hX _).expr hm (Int.le_refl _) (by omega) .none (Nat.lt_succ_self _)) fun e a2 q2 h2 h3 hq2 he=>?_
   dsimp only
   exact fm hm hC (by omega) (by omega) fun a3 t h4 h5 _ _ _=>Ev.ok he
  ·rintro p ⟨v,rfl,_,_⟩
   refine Ev.r6 ?_
   unfold fU
   exact Ev.ok (.leaf (by decide))
theorem uV {s:List UInt8} {b:Int} (h1:b+s.length≤65536):ta s b:=fun hm h h2 h3=>C4 _ hm (Nat.lt_succ_self _) h2 (by omega)
end Go.Abs
end
section
namespace Go.Abs
open aq
def RH {X Y:Type} (V:X→Y→Prop) (C:Cx) (k:Bool) (a:Int) (F:ab→aq X) (G:ab→aq Y):Prop:=∀ {q q':Option aj},QR q q'→RS V (F (bL C.s C.T a C.b k q)) (G (bL C.s' C.T' (a+C.κ) C.b' k q'))
abbrev VL (C:Cx) (k:Bool) (a:Int) (r r':List aj×ab):Prop:=Rl C k a r.2 r'.2∧LR EE r.1 r'.1
abbrev VB (C:Cx) (k:Bool) (a:Int) (r r':List ax×List (List UInt8)×ab):Prop:=Rl C k a r.2.2 r'.2.2∧LR DD r.1 r'.1∧r'.2.1=r.2.1
abbrev VF (C:Cx) (k:Bool) (a:Int) (r r':ab×ax):Prop:=Rl C k a r.1 r'.1∧DD r.2 r'.2
abbrev VD (C:Cx) (k:Bool) (a:Int) (r r':ax×ab):Prop:=Rl C k a r.2 r'.2∧DD r.1 r'.1
def RN {X Y:Type} (V:X→Y→Prop) (C:Cx) (k:Bool) (a:Int) (F:ab→aq X) (G:ab→aq Y):Prop:=RS V (F (bL C.s C.T a C.b k none)) (G (bL C.s' C.T' (a+C.κ) C.b' k none))
structure GR (n:Nat):Prop where
 expr:∀ {C:Cx} {a:Int} {k j:Bool},C.kS→0≤a→RH (VE C k a) C k a (aD n j) (aD n j)
 alt:∀ {C:Cx} {a:Int} {k j:Bool},C.kS→0≤a→RH (VE C k a) C k a (bn n j) (bn n j)
 wO:∀ {C:Cx} {a:Int} {k j:Bool},C.kS→0≤a→RH (VE C k a) C k a (bo n j) (bo n j)
 bin:∀ {C:Cx} {a l:Int} {k j:Bool},C.kS→0≤a→RH (VE C k a) C k a (bH n l j) (bH n l j)
 unary:∀ {C:Cx} {a:Int} {k j:Bool},C.kS→0≤a→RH (VE C k a) C k a (cf n j) (cf n j)
 post:∀ {C:Cx} {a:Int} {k j:Bool},C.kS→0≤a→RH (VE C k a) C k a (bT n j) (bT n j)
 BK:∀ {C:Cx} {a:Int} {k j:Bool},C.kS→0≤a→RH (VE C k a) C k a (cq n j) (cq n j)
 named:∀ {C:Cx} {a:Int} {k:Bool},C.kS→0≤a→RN (VE C k a) C k a (cJ n) (cJ n)
 uS:∀ {C:Cx} {a v v':Int} {k:Bool} {t t':aK},ST t t'→RN (VE C k a) C k a (cE n t v) (cE n t' v')
 parens:∀ {C:Cx} {a:Int} {k j:Bool},C.kS→0≤a→RN (VE C k a) C k a (b1 n j) (b1 n j)
 uT:∀ {C:Cx} {a:Int} {k j:Bool},C.kS→0≤a→RN (VE C k a) C k a (cD n j) (cD n j)
 list:∀ {C:Cx} {a:Int} {k:Bool},C.kS→0≤a→RN (VE C k a) C k a (cS n) (cS n)
 block:∀ {C:Cx} {a:Int} {k j:Bool},C.kS→0≤a→RN (VB C k a) C k a (bS n j) (bS n j)
 args:∀ {C:Cx} {a:Int} {k:Bool},C.kS→0≤a→RN (VL C k a) C k a (cQ n) (cQ n)
 item:∀ {C:Cx} {a:Int} {k:Bool},C.kS→0≤a→RN (VE C k a) C k a (cR n) (cR n)
 field:∀ {C:Cx} {a:Int} {k j:Bool} {d d':ax},C.kS→0≤a→DD d d'→RN (VF C k a) C k a (fun p=>cA n j p d) (fun p=>cA n j p d')
 pattern:∀ {C:Cx} {a:Int} {k j:Bool} {d d':ax},C.kS→0≤a→DD d d'→RN (VF C k a) C k a (fun p=>cn n j p d) (fun p=>cn n j p d')
 sA:∀ {C:Cx} {a:Int} {k j:Bool} {d d':ax},C.kS→0≤a→DD d d'→RN (VF C k a) C k a (fun p=>cm n j p d) (fun p=>cm n j p d')
 decl:∀ {C:Cx} {a:Int} {k j:Bool},C.kS→0≤a→RN (VD C k a) C k a (bO n j) (bO n j)
 decls:∀ {C:Cx} {a:Int} {k j:Bool},C.kS→0≤a→CU C a→RN (VB C k a) C k a (cV n j) (cV n j)
 code:∀ {x:List UInt8} {v v':Int},RS (fun r r'=>r.2=true→r'.2=true∧EE r.1 r'.1) (fF n x v) (fF n x v')
def GL (n:Nat):Prop:=∀ i,i≤n→GR i
theorem GL.g {n:Nat} (h:GL n):GR n:=h n (Nat.le_refl _)
theorem GL.dn {n:Nat} (h:GL (n+1)):GL n:=fun i hi=>h i (Nat.le_succ_of_le hi)
theorem nx {a:Int} {κ:Nat}:a+(κ:Int)+1=a+1+κ:=by omega
section
variable {C:Cx} {n:Nat} {a:Int} {k j:Bool}
theorem C5 (ih:GL n) (hC:C.kS) (h0:0≤a):RH (VE C k a) C k a (aD (n+1) j) (aD (n+1) j):=by
 intro q q' hq
 show RS _ (fh n (ai n) j _) (fh n (ai n) j _)
 unfold fh
 dsimp only
 refine RS.jn (fun v w=>∃ a1,v.1=(bL C.s C.T a1 C.b k q)∧w.1=(bL C.s' C.T' (a1+C.κ) C.b' k q')∧a≤a1∧w.2=v.2) (fun v w h=>?_) (fun j0 j0' hj=>?_)
 ·obtain ⟨p,x⟩:=v
  obtain ⟨p',x'⟩:=w
  obtain ⟨a1,g1,g2,h1,g3⟩:=h
  dsimp only at g1 g2 g3;subst g1 g2 g3;dsimp only
  refine RS.jn (fun v w=>Rl C k a v.1 w.1∧EE v.2 w.2) (fun v w h=>?_) (fun j1 j1' hj=>?_)
  ·obtain ⟨p,e⟩:=v
   obtain ⟨p',e'⟩:=w
   obtain ⟨⟨a2,g1,g2,h2⟩,he⟩:=h
   dsimp only at g1 g2 he;subst g1 g2;dsimp only
   refine RS.jn (fun v w=>Rl C k a v w) (fun v w h=>?_) (fun j2 j2' hj=>?_)
   ·obtain ⟨a3,rfl,rfl,h3⟩:=h
    dsimp only
    refine RS.jn (fun v w=>Rl C k a v w) (fun v w h=>?_) (fun j3 j3' hj=>?_)
    ·obtain ⟨a4,rfl,rfl,h4⟩:=h
     refine lj hC (by omega) fun a5 v v' h5=>?_
     dsimp only
     refine o8 he fun x x' hx=>?_
     dsimp only
     refine RS.iter (fun (v w:ab×List aj)=>Rl C k a v.1 w.1∧LR EE v.2 w.2) (fun v w h next next' hn=>?_) _ _ ⟨.mk (by omega),.one hx⟩
     obtain ⟨p,l⟩:=v
     obtain ⟨p',l'⟩:=w
     obtain ⟨⟨a6,g1,g2,h6⟩,hl⟩:=h
     dsimp only at g1 g2 hl;subst g1 g2;dsimp only
     refine km hC (by omega) (fun a7 t h7 _ _=>?_) (fun a7 h7=>?_)
     ·dsimp only
      refine RS.br rfl (fun _=>iG (ih.g.alt hC (by omega) .none) fun e e' a8 h8 he8=>?_) (fun h=>by cases h)
      dsimp only
      exact RS.gd fun _ _=>hn _ _ ⟨.mk (by omega),hl.snoc he8⟩
     ·dsimp only
      exact RS.br rfl (fun h=>by cases h) (fun _=>RS.el fun x x' _ _ _ _=>RS.ok ⟨.mk (by omega),.sub hl⟩)
    ·refine fJ hC (by omega) fun a4 t t' h4 _ _ hs=>?_
     dsimp only
     exact jg hs fun r _=>RS.br rfl (fun _=>jC) (fun _=>hj _ _ (.mk (by omega)))
   ·refine RS.br rfl (fun _=>?_) (fun _=>hj _ _ (.mk (by omega)))
    refine fJ hC (by omega) fun a4 t t' h4 _ _ hs=>?_
    dsimp only
    exact jg hs fun r _=>RS.br rfl (fun _=>RS.ok ⟨.mk (by omega),he⟩) (fun _=>hj _ _ (.mk (by omega)))
  ·exact RS.br rfl (fun _=>iG (ih.g.alt hC (by omega) hq) fun e e' a8 h8 he8=>hj _ _ ⟨.mk (by omega),he8⟩) (fun _=>iG (ih.g.alt hC (by omega) hq) fun e e' a8 h8 he8=>hj _ _ ⟨.mk (by omega),he8⟩)
 ·refine RS.br hq.F7 (fun _=>?_) (fun _=>hj _ _ ⟨_,rfl,rfl,by omega,rfl⟩)
  refine fJ hC h0 fun a4 t t' h4 _ _ hs=>?_
  dsimp only
  exact jg hs fun r _=>hj _ _ ⟨_,rfl,rfl,by omega,rfl⟩
theorem Ez (ih:GL n) (hC:C.kS) (h0:0≤a):RH (VE C k a) C k a (bn (n+1) j) (bn (n+1) j):=by
 intro q q' hq
 show RS _ (dq n (ai n) j _) (dq n (ai n) j _)
 unfold dq
 dsimp only
 refine RS.br hq.F7 (fun _=>?_) (fun _=>?_)
 ·refine lj hC h0 fun a2 v v' h2=>?_
  dsimp only
  refine km hC (by omega) (fun a7 t h7 _ _=>?_) (fun a7 h7=>?_)
  ·exact RS.br rfl (fun _=>iG (ih.g.wO hC (by omega) hq) fun e e' a8 h8 he8=>RS.ok ⟨.mk (by omega),.sub (.one he8)⟩) (fun h=>by cases h)
  ·exact RS.br rfl (fun h=>by cases h) (fun _=>iG (ih.g.wO hC (by omega) hq) fun e e' a8 h8 he8=>RS.ok ⟨.mk (by omega),he8⟩)
 ·exact iG (ih.g.wO hC (by omega) hq) fun e e' a8 h8 he8=>RS.ok ⟨.mk (by omega),he8⟩
theorem C6 (ih:GL n) (hC:C.kS) (h0:0≤a):RH (VE C k a) C k a (bo (n+1) j) (bo (n+1) j):=by
 intro q q' hq
 show RS _ (dr n (ai n) j _) (dr n (ai n) j _)
 unfold dr
 refine iG (ih.g.bin hC h0 hq) fun e e' a2 h2 he=>?_
 dsimp only
 refine RS.iter (fun (v w:ab×aj)=>Rl C k a v.1 w.1∧EE v.2 w.2) (fun v w h next next' hn=>?_) _ _ ⟨.mk (by omega),he⟩
 obtain ⟨p,e⟩:=v
 obtain ⟨p',e'⟩:=w
 obtain ⟨⟨a6,g1,g2,h6⟩,he⟩:=h
 dsimp only at g1 g2 he;subst g1 g2;dsimp only
 refine km hC (by omega) (fun a7 t h7 _ _=>?_) (fun a7 h7=>?_)
 ·exact RS.br rfl (fun _=>iG (ih.g.bin hC (by omega) .none) fun e2 e2' a8 h8 he8=>hn _ _ ⟨.mk (by omega),.sub (.two he he8)⟩) (fun h=>by cases h)
 ·exact RS.br rfl (fun h=>by cases h) (fun _=>RS.ok ⟨.mk (by omega),he⟩)
theorem EA (ih:GL n) (hC:C.kS) (h0:0≤a) {l:Int}:RH (VE C k a) C k a (bH (n+1) l j) (bH (n+1) l j):=by
 intro q q' hq
 show RS _ (eB n (ai n) l j _) (eB n (ai n) l j _)
 unfold eB
 refine RS.br rfl (fun _=>iG (ih.g.unary hC h0 hq) fun e e' a8 h8 he8=>RS.ok ⟨.mk (by omega),he8⟩) (fun _=>?_)
 refine RS.gd fun _ _=>iG (ih.g.bin hC h0 hq) fun e e' a2 h2 he=>?_
 dsimp only
 refine RS.iter (fun (v w:ab×aj)=>Rl C k a v.1 w.1∧EE v.2 w.2) (fun v w h next next' hn=>?_) _ _ ⟨.mk (by omega),he⟩
 obtain ⟨p,e⟩:=v
 obtain ⟨p',e'⟩:=w
 obtain ⟨⟨a6,g1,g2,h6⟩,he⟩:=h
 dsimp only at g1 g2 he;subst g1 g2;dsimp only
 refine fJ hC (by omega) fun a4 t t' h4 _ _ hs=>RS.same fun ops _=>?_
 dsimp only
 refine sy hs fun r=>RS.br rfl (fun _=>?_) (fun _=>RS.ok ⟨.mk (by omega),he⟩)
 refine lj hC (by omega) fun a5 v v' h5=>?_
 dsimp only
 refine o8 he fun x x' hx=>?_
 dsimp only
 refine fJ hC (by omega) fun a7 t t' h7 _ _ hs=>?_
 dsimp only
 rw[nx,hs.2]
 exact RS.gd fun _ _=>RS.gd fun _ _=>iG (ih.g.bin hC (by omega) .none) fun e2 e2' a8 h8 he8=>hn _ _ ⟨.mk (by omega),.sub (.two hx he8)⟩
theorem BR (ih:GL n) (hC:C.kS) (h0:0≤a):RH (VE C k a) C k a (cf (n+1) j) (cf (n+1) j):=by
 intro q q' hq
 show RS _ (eP n (ai n) j _) (eP n (ai n) j _)
 unfold eP
 dsimp only
 refine RS.br hq.Ge (fun _=>iG (ih.g.post hC h0 hq) fun e e' a8 h8 he8=>RS.ok ⟨.mk (by omega),he8⟩) (fun _=>?_)
 refine fJ hC h0 fun a4 t t' h4 _ _ hs=>?_
 dsimp only
 refine lj hC (by omega) fun a5 v v' h5=>?_
 dsimp only
 refine RS.jn (fun x y=>y=x) (fun x y h=>?_) (fun j0 j0' hj=>?_)
 ·subst h
  rw[nx,hs.2]
  exact RS.gd fun _ _=>iG (ih.g.unary hC (by omega) hq) fun e e' a8 h8 he8=>RS.ok ⟨.mk (by omega),.sub (.one he8)⟩
 ·refine sy hs fun r=>RS.br rfl (fun _=>hj _ _ rfl) (fun _=>sy hs fun r=>RS.br rfl (fun _=>hj _ _ rfl) (fun _=>?_))
  exact iG (ih.g.post hC (by omega) hq) fun e e' a8 h8 he8=>RS.ok ⟨.mk (by omega),he8⟩
theorem Fx (ih:GL n) (hC:C.kS) (h0:0≤a) {e e':aj} (he:EE e e'):RN (fun r r'=>Rl C k a r.1 r'.1∧EE r.2 r'.2) C k a (fun p=>cL n true p e) (fun p=>cL n true p e'):=by
 unfold RN
 cases n with
 | zero=>exact RS.nil
 | succ n=>
  show RS _ (dH n (ai n) true _ e) (dH n (ai n) true _ e')
  unfold dH
  dsimp only
  refine iG (k:=true) (a:=a) (P:=EE) ?_ fun x x' a2 h2 hx=>RS.ok ⟨.mk h2,hx⟩
  cases n with
  | zero=>exact RS.nil
  | succ n=>
   show RS _ (dE n (ai n) e _) (dE n (ai n) e' _)
   unfold dE
   refine iG (ih.dn.dn.g.expr hC h0 .none) fun x x' a2 h2 hx=>?_
   dsimp only
   exact ml hC (by omega) fun a3 h3=>RS.ok ⟨.mk (by omega),.sub (.two he hx)⟩
theorem C7 (ih:GL n) (hC:C.kS) (h0:0≤a):RH (VE C k a) C k a (bT (n+1) j) (bT (n+1) j):=by
 intro q q' hq
 show RS _ (ej n (ai n) j _) (ej n (ai n) j _)
 unfold ej
 refine iG (ih.g.BK hC h0 hq) fun e e' a2 h2 he=>?_
 dsimp only
 refine RS.iter (fun (v w:ab×aj)=>Rl C k a v.1 w.1∧EE v.2 w.2) (fun v w h next next' hn=>?_) _ _ ⟨.mk (by omega),he⟩
 obtain ⟨p,e⟩:=v
 obtain ⟨p',e'⟩:=w
 obtain ⟨⟨a3,g1,g2,h3⟩,he⟩:=h
 dsimp only at g1 g2 he;subst g1 g2;dsimp only
 refine fJ hC (by omega) fun a4 t t' h4 _ _ hs=>?_
 dsimp only
 refine lj hC (by omega) fun a5 v v' h5=>?_
 dsimp only
 refine jg hs fun r _=>RS.br rfl (fun _=>?_) (fun _=>jg hs fun r _=>RS.br rfl (fun _=>?_) (fun _=>RS.ok ⟨.mk (by omega),he⟩))
 ·refine o8 he fun x x' hx=>?_
  dsimp only
  rw[nx]
  refine RS.gd fun _ _=>fJ hC (by omega) fun a6 t t' h6 _ _ hs=>?_
  dsimp only
  refine RS.jn (fun v w=>v=(bL C.s C.T a6 C.b k none)∧w=(bL C.s' C.T' (a6+C.κ) C.b' k none)) (fun v w h=>?_) (fun j0 j0' hj=>?_)
  ·obtain ⟨rfl,rfl⟩:=h
   dsimp only
   rw[hs.2]
   exact RS.gd fun _ _=>hn _ _ ⟨.mk' (by omega) nx,.sub (.one hx)⟩
  ·exact uR hs fun r=>RS.br rfl (fun _=>jC) (fun _=>hj _ _ ⟨rfl,rfl⟩)
 ·refine o8 he fun x x' hx=>?_
  dsimp only
  rw[nx]
  refine RS.gd fun _ _=>vp (Fx ih hC (by omega) hx) fun x x' a6 h6 hx=>?_
  dsimp only
  exact RS.gd fun _ _=>hn _ _ ⟨.mk' (by omega) nx,hx⟩
end
end Go.Abs
end
section
namespace Go.Abs
open aq
section
variable {C:Cx} {n:Nat} {a:Int} {k j:Bool}
theorem BS (ih:GL n) (hC:C.kS) (h0:0≤a):RN (VE C k a) C k a (cJ (n+1)) (cJ (n+1)):=by
 unfold RN
 show RS _ (eO n (ai n) _) (eO n (ai n) _)
 unfold eO
 refine fJ hC h0 fun a2 t t' h2 _ _ hs=>?_
 dsimp only
 refine lj hC (by omega) fun a5 v v' h5=>?_
 dsimp only
 rw[hs.2]
 refine RS.jn (fun e e'=>EE e e') (fun e e' he=>?_) (fun j0 j0' hj=>?_)
 ·exact RS.gd fun _ _=>RS.ok ⟨.mk' (by omega) nx,he.x.sub .nil⟩
 ·refine RS.br rfl (fun _=>hj _ _ .leaf) (fun _=>?_)
  refine RS.jn (fun x y=>y=x) (fun x y h=>?_) (fun j2 j2' hj2=>?_)
  ·subst h
   refine RS.br rfl (fun _=>RS.br rfl (fun _=>hj _ _ .leaf) (fun _=>hj _ _ .leaf)) (fun _=>?_)
   refine RS.jn (fun x y=>y=x) (fun x y h=>?_) (fun j2 j2' hj2=>?_)
   ·subst h
    refine RS.br rfl (fun _=>hj _ _ .leaf) (fun _=>?_)
    refine tT hC (by omega) fun a6 x h6=>?_
    dsimp only
    refine fJ hC (by omega) fun a7 t t' h7 _ _ hs=>?_
    dsimp only
    refine jg hs fun r _=>RS.br rfl (fun _=>?_) (fun _=>RS.ok ⟨.mk (by omega),.leaf⟩)
    exact iG (P:=LR EE) (ih.g.args hC (by omega)) fun l l' a4 h4 hl=>RS.ok ⟨.mk (by omega),.sub hl⟩
   ·exact RS.br rfl (fun _=>hj2 _ _ rfl) (fun _=>RS.br rfl (fun _=>hj2 _ _ rfl) (fun _=>RS.br rfl (fun _=>hj2 _ _ rfl) (fun _=>hj2 _ _ rfl)))
  ·exact RS.br rfl (fun _=>hj2 _ _ rfl) (fun _=>hj2 _ _ rfl)
theorem Ap (ih:GL n) {t t':aK} {v v':Int} (hs:ST t t'):RN (VE C k a) C k a (cE (n+1) t v) (cE (n+1) t' v'):=by
 unfold RN
 show RS _ (eD n (ai n) t v _) (eD n (ai n) t' v' _)
 unfold eD
 rw[hs.2]
 refine RS.same fun y _=>?_
 refine RS.iter (fun (x y:ab×aj×Int)=>x.1=(bL C.s C.T a C.b k none)∧y.1=(bL C.s' C.T' (a+C.κ) C.b' k none)∧EE x.2.1 y.2.1∧y.2.2=x.2.2) (fun x y h next next' hn=>?_) _ _ ⟨rfl,rfl,.leaf,rfl⟩
 obtain ⟨p,e,i⟩:=x
 obtain ⟨p',e',i'⟩:=y
 obtain ⟨g1,g2,he,g3⟩:=h
 dsimp only at g1 g2 g3 he;subst g1 g2 g3;dsimp only
 have hx:=he.x
 refine RS.br rfl (fun _=>?_) (fun _=>RS.ok ⟨.mk (by omega),hx.sub hx.s⟩)
 refine RS.el fun x x' _ _ hy hy'=>?_
 rw[hy] at hy';cases hy'
 refine RS.gd fun _ _=>RS.gd fun _ _=>RS.br rfl (fun _=>?_) (fun _=>?_)
 ·exact RS.gd fun _ _=>RS.gd fun _ _=>hn _ _ ⟨rfl,rfl,hx.sub (hx.s.snoc .leaf),rfl⟩
 ·refine RS.bind ih.g.code fun z z' hz=>?_
  refine RS.F4 (fun _=>wM) (fun h=>?_)
  have hz2:=hz (by simpa using h)
  exact RS.F5 (fun h=>by rw[hz2.1] at h;cases h) (fun _=>RS.gd fun _ _=>RS.gd fun _ _=>hn _ _ ⟨rfl,rfl,hx.sub (hx.s.snoc hz2.2),rfl⟩)
theorem Fy (ih:GL n) (hC:C.kS) (h0:0≤a) {e:aj}:RN (fun r r'=>Rl C k a r.1 r'.1∧EE r.2.2 r'.2.2) C k a (fun p=>c6 n true p j e) (fun p=>c6 n true p j e):=by
 unfold RN
 cases n with
 | zero=>exact RS.nil
 | succ n=>
  show RS _ (dG n (ai n) true _ j e) (dG n (ai n) true _ j e)
  unfold dG
  dsimp only
  refine RS.bind (W:=fun r r'=>Rl C true a r.2.2 r'.2.2∧EE r.2.1 r'.2.1) ?_ fun r r' h=>?_
  ·cases n with
   | zero=>exact RS.nil
   | succ n=>
    show RS _ (dS n (ai n) j e _) (dS n (ai n) j e _)
    unfold dS
    refine iG (ih.dn.dn.g.expr hC h0 .none) fun x x' a2 h2 hx=>?_
    dsimp only
    exact ml hC (by omega) fun a3 h3=>RS.ok ⟨.mk (by omega),hx⟩
  ·obtain ⟨x,e1,p⟩:=r
   obtain ⟨x',e1',p'⟩:=r'
   obtain ⟨⟨a3,g1,g2,h3⟩,he⟩:=h
   dsimp only at g1 g2 he;subst g1 g2
   exact RS.ok ⟨.mk h3,he⟩
theorem Aq (ih:GL n) (hC:C.kS) (h0:0≤a):RN (VE C k a) C k a (b1 (n+1) j) (b1 (n+1) j):=by
 unfold RN
 show RS _ (eF n (ai n) j _) (eF n (ai n) j _)
 unfold eF
 refine ja hC h0 fun a2 t h2 _ _=>vp (P:=fun x x':Bool×aj=>EE x.2 x'.2) (Fy ih hC (by omega)) fun x x' a3 h3 he=>?_
 dsimp only
 exact RS.gd fun _ _=>RS.ok ⟨.mk' (by omega) nx,he⟩
theorem Fz (ih:GL n) (hC:C.kS) (h0:0≤a) (hB:CU C a):RN (fun r r'=>Rl C k a r.1 r'.1∧LR DD r.2.2.1 r'.2.2.1∧r'.2.2.2=r.2.2.2) C k a (fun p=>cZ n false p j [] []) (fun p=>cZ n false p j [] []):=by
 unfold RN
 cases n with
 | zero=>exact RS.nil
 | succ n=>
  show RS _ (dF n (ai n) false _ j [] []) (dF n (ai n) false _ j [] [])
  unfold dF
  dsimp only
  refine RS.bind (W:=fun r r'=>Rl C false a r.2.2.2 r'.2.2.2∧LR DD r.2.1 r'.2.1∧r'.2.2.1=r.2.2.1) ?_ fun r r' h=>?_
  ·cases n with
   | zero=>exact RS.nil
   | succ n=>
    show RS _ (eg n (ai n) j [] [] _) (eg n (ai n) j [] [] _)
    unfold eg
    refine RS.bind (ih.dn.dn.g.decls hC h0 hB) fun r r' h=>?_
    obtain ⟨x,e1,p⟩:=r
    obtain ⟨x',e1',p'⟩:=r'
    obtain ⟨⟨a3,g1,g2,h3⟩,hl,ht⟩:=h
    dsimp only at g1 g2 hl ht;subst g1 g2 ht
    dsimp only
    exact ml hC (by omega) fun a4 h4=>RS.ok ⟨.mk (by omega),hl,rfl⟩
  ·obtain ⟨x,e1,tl,p⟩:=r
   obtain ⟨x',e1',tl',p'⟩:=r'
   obtain ⟨⟨a3,g1,g2,h3⟩,hl,ht⟩:=h
   dsimp only at g1 g2 hl ht;subst g1 g2 ht
   exact RS.ok ⟨.mk h3,hl,rfl⟩
theorem BT (ih:GL n) (hC:C.kS) (h0:0≤a):RN (VB C k a) C k a (bS (n+1) j) (bS (n+1) j):=by
 unfold RN
 show RS _ (eN n (ai n) j _) (eN n (ai n) j _)
 unfold eN
 refine ja hC h0 fun a2 t h2 ht hk=>vp (P:=fun x x':Bool×List ax×List (List UInt8)=>LR DD x.2.1 x'.2.1∧x'.2.2=x.2.2) (Fz ih hC (by omega) (.of (by omega) ht hk)) fun x x' a3 h3 he=>?_
 dsimp only
 exact RS.gd fun _ _=>RS.ok ⟨.mk' (by omega) nx,he.1,he.2⟩
theorem Ar (ih:GL n) (hC:C.kS) (h0:0≤a):RN (VE C k a) C k a (cD (n+1) j) (cD (n+1) j):=by
 unfold RN
 show RS _ (eC n (ai n) j _) (eC n (ai n) j _)
 unfold eC
 refine lj hC h0 fun a2 v v' h2=>?_
 dsimp only
 refine RS.jn (fun e e'=>EE e e') (fun e e' he=>?_) (fun j0 j0' hj=>?_)
 ·have hx:=he.x
  refine RS.bind (ih.g.block hC (by omega)) fun r r' h=>?_
  obtain ⟨x,e1,p⟩:=r
  obtain ⟨x',e1',p'⟩:=r'
  obtain ⟨⟨a3,g1,g2,h3⟩,hl,ht⟩:=h
  dsimp only at g1 g2 hl ht;subst g1 g2 ht
  dsimp only
  rw[hx.k,hx.t,hx.n,hx.a,hx.b]
  exact RS.ok ⟨.mk (by omega),EE.of .nil hl⟩
 ·exact RS.br rfl (fun _=>hj _ _ .leaf) (fun _=>hj _ _ .leaf)
theorem FA (ih:GL n) (hC:C.kS) (h0:0≤a):RN (fun r r'=>Rl C k a r.1 r'.1∧LR EE r.2 r'.2) C k a (fun p=>c8 n true p []) (fun p=>c8 n true p []):=by
 unfold RN
 cases n with
 | zero=>exact RS.nil
 | succ n=>
  show RS _ (dJ n (ai n) true _ []) (dJ n (ai n) true _ [])
  unfold dJ
  dsimp only
  refine iG (k:=true) (a:=a) (P:=LR EE) ?_ fun x x' a2 h2 hx=>RS.ok ⟨.mk h2,hx⟩
  cases n with
  | zero=>exact RS.nil
  | succ n=>
   show RS _ (eA n (ai n) [] _) (eA n (ai n) [] _)
   unfold eA
   refine fJ hC h0 fun a3 t t' h3 _ _ hs=>?_
   dsimp only
   refine jg hs fun r _=>RS.br rfl (fun _=>?_) (fun _=>ml hC (by omega) fun a4 h4=>RS.ok ⟨.mk (by omega),.nil⟩)
   refine iG (ih.dn.dn.g.expr hC (by omega) .none) fun x x' a2 h2 hx=>?_
   dsimp only
   refine RS.gd fun _ _=>RS.iter (fun (v w:List aj×ab)=>Rl C true a v.2 w.2∧LR EE v.1 w.1) (fun v w h next next' hn=>?_) _ _ ⟨.mk (by omega),.one hx⟩
   obtain ⟨l,p⟩:=v
   obtain ⟨l',p'⟩:=w
   obtain ⟨⟨a6,g1,g2,h6⟩,hl⟩:=h
   dsimp only at g1 g2 hl;subst g1 g2;dsimp only
   refine km hC (by omega) (fun a7 t h7 _ _=>?_) (fun a7 h7=>?_)
   ·dsimp only
    refine RS.br rfl (fun _=>iG (ih.dn.dn.g.expr hC (by omega) .none) fun e e' a8 h8 he8=>?_) (fun h=>by cases h)
    dsimp only
    exact RS.gd fun _ _=>hn _ _ ⟨.mk (by omega),hl.snoc he8⟩
   ·exact RS.br rfl (fun h=>by cases h) (fun _=>ml hC (by omega) fun a8 h8=>RS.ok ⟨.mk (by omega),hl⟩)
theorem C8 (ih:GL n) (hC:C.kS) (h0:0≤a):RN (VL C k a) C k a (cQ (n+1)) (cQ (n+1)):=by
 unfold RN
 show RS _ (fg n (ai n) _) (fg n (ai n) _)
 unfold fg
 refine ja hC h0 fun a2 t h2 _ _=>vp (FA ih hC (by omega)) fun x x' a3 h3 he=>?_
 dsimp only
 exact RS.gd fun _ _=>RS.ok ⟨.mk' (by omega) nx,he⟩
theorem C9 (ih:GL n) (hC:C.kS) (h0:0≤a):RN (VE C k a) C k a (cR (n+1)) (cR (n+1)):=by
 unfold RN
 show RS _ (fi n (ai n) _) (fi n (ai n) _)
 unfold fi
 refine lj hC h0 fun a2 v v' h2=>?_
 dsimp only
 refine fJ hC (by omega) fun a3 t t' h3 _ _ hs=>?_
 dsimp only
 refine pR hs fun r=>RS.br rfl (fun _=>?_) (fun _=>?_)
 ·exact iG (ih.g.expr hC (by omega) .none) fun e e' a8 h8 he8=>RS.ok ⟨.mk (by omega),he8⟩
 refine pS hC (by omega) fun a4 h4=>xS hC (by omega) fun a5 nm h5=>?_
 dsimp only
 refine pS hC (by omega) fun a6 h6=>iG (ih.g.expr hC (by omega) .none) fun e e' a7 h7 he7=>?_
 dsimp only
 refine RS.gd fun _ _=>RS.jn (fun v w=>Rl C k a v.1 w.1∧EE v.2 w.2) (fun v w h=>?_) (fun j1 j1' hj=>?_)
 ·obtain ⟨p,e⟩:=v
  obtain ⟨p',e'⟩:=w
  obtain ⟨⟨a8,g1,g2,h8⟩,he⟩:=h
  dsimp only at g1 g2 he;subst g1 g2;dsimp only
  have hx:=he.x
  refine ja hC (by omega) fun a9 t h9 _ _=>iG (ih.g.expr hC (by omega) .none) fun x x' a10 h10 hx10=>?_
  dsimp only
  exact RS.gd fun _ _=>RS.ok ⟨.mk (by omega),hx.sub (hx.s.snoc hx10)⟩
 ·refine fJ hC (by omega) fun a8 t t' h8 _ _ hs=>?_
  dsimp only
  refine pR hs fun r=>RS.br rfl (fun _=>?_) (fun _=>hj _ _ ⟨.mk (by omega),.sub (.one he7)⟩)
  refine pS hC (by omega) fun a9 h9=>iG (ih.g.expr hC (by omega) .none) fun x x' a10 h10 hx10=>?_
  dsimp only
  exact RS.gd fun _ _=>hj _ _ ⟨.mk (by omega),.sub (.two he7 hx10)⟩
theorem FB (ih:GL n) (hC:C.kS) (h0:0≤a) {e e':aj} (he:EE e e'):RN (fun r r'=>Rl C k a r.1 r'.1∧EE r.2 r'.2) C k a (fun p=>c7 n true p e) (fun p=>c7 n true p e'):=by
 unfold RN
 cases n with
 | zero=>exact RS.nil
 | succ n=>
  show RS _ (dI n (ai n) true _ e) (dI n (ai n) true _ e')
  unfold dI
  dsimp only
  refine iG (k:=true) (a:=a) (P:=EE) ?_ fun x x' a2 h2 hx=>RS.ok ⟨.mk h2,hx⟩
  cases n with
  | zero=>exact RS.nil
  | succ n=>
   show RS _ (eE n (ai n) e _) (eE n (ai n) e' _)
   unfold eE
   refine RS.iter (fun (v w:aj×ab×Bool)=>Rl C true a v.2.1 w.2.1∧EE v.1 w.1∧w.2.2=v.2.2) (fun v w h next next' hn=>?_) _ _ ⟨.mk (by omega),he,rfl⟩
   obtain ⟨e,p,f⟩:=v
   obtain ⟨e',p',f'⟩:=w
   obtain ⟨⟨a6,g1,g2,h6⟩,he,g3⟩:=h
   dsimp only at g1 g2 g3 he;subst g1 g2 g3;dsimp only
   have hx:=he.x
   rw[hx.k,hx.t,hx.n,hx.a,hx.b,hx.tl]
   refine fJ hC (by omega) fun a7 t t' h7 _ _ hs=>?_
   dsimp only
   refine jg hs fun r _=>RS.br rfl (fun _=>?_) (fun _=>ml hC (by omega) fun a8 h8=>RS.ok ⟨.mk (by omega),he⟩)
   refine RS.jn (fun v w=>∃ a8,v=(bL C.s C.T a8 C.b true none)∧w=(bL C.s' C.T' (a8+C.κ) C.b' true none)∧a≤a8) (fun v w h=>?_) (fun j0 j0' hj=>?_)
   ·obtain ⟨a8,rfl,rfl,h8⟩:=h
    refine lj hC (by omega) fun a9 v v' h9=>?_
    dsimp only
    refine km hC (by omega) (fun a10 t h10 _ _=>?_) (fun a10 h10=>?_)
    ·dsimp only
     refine RS.br rfl (fun _=>?_) (fun h=>by cases h)
     refine RS.jn (fun v w=>Rl C true a v.1 w.1∧EE v.2 w.2) (fun v w h=>?_) (fun j1 j1' hj=>?_)
     ·obtain ⟨p,x⟩:=v
      obtain ⟨p',x'⟩:=w
      obtain ⟨⟨a11,g1,g2,h11⟩,hx11⟩:=h
      dsimp only at g1 g2 hx11;subst g1 g2;dsimp only
      exact RS.gd fun _ _=>ml hC (by omega) fun a12 h12=>RS.ok ⟨.mk (by omega),.of (hx.s.snoc hx11) hx.d⟩
     ·refine fJ hC (by omega) fun a11 t t' h11 _ _ hs=>?_
      dsimp only
      refine jg hs fun r _=>RS.br rfl (fun _=>?_) (fun _=>hj _ _ ⟨.mk (by omega),.leaf⟩)
      exact iG (ih.dn.dn.g.expr hC (by omega) .none) fun x x' a12 h12 hx12=>hj _ _ ⟨.mk (by omega),hx12⟩
    ·dsimp only
     refine RS.br rfl (fun h=>by cases h) (fun _=>iG (ih.dn.dn.g.item hC (by omega)) fun x x' a12 h12 hx12=>?_)
     dsimp only
     exact RS.gd fun _ _=>hn _ _ ⟨.mk (by omega),.of (hx.s.snoc hx12) hx.d,rfl⟩
   ·refine RS.br rfl (fun _=>?_) (fun _=>hj _ _ ⟨a7,rfl,rfl,by omega⟩)
    exact ja hC (by omega) fun a8 t h8 _ _=>hj _ _ ⟨a8,rfl,rfl,by omega⟩
theorem Da (ih:GL n) (hC:C.kS) (h0:0≤a):RN (VE C k a) C k a (cS (n+1)) (cS (n+1)):=by
 unfold RN
 show RS _ (fj n (ai n) _) (fj n (ai n) _)
 unfold fj
 refine lj hC h0 fun a1 v v' h1=>?_
 dsimp only
 refine ja hC (by omega) fun a2 t h2 _ _=>vp (FB ih hC (by omega) .leaf) fun x x' a3 h3 he=>?_
 dsimp only
 exact RS.gd fun _ _=>RS.ok ⟨.mk' (by omega) nx,he⟩
theorem Db (ih:GL n) (hC:C.kS) (h0:0≤a):RH (VE C k a) C k a (cq (n+1) j) (cq (n+1) j):=by
 intro q q' hq
 show RS _ (ek n (ai n) j _) (ek n (ai n) j _)
 unfold ek
 dsimp only
 rcases hq with ⟨rfl,rfl⟩|⟨e,e',rfl,rfl,he⟩
 ·refine RS.br rfl (fun h=>by cases h) (fun _=>?_)
  refine fJ hC h0 fun a2 t t' h2 _ _ hs=>?_
  dsimp only
  refine lj hC (by omega) fun a5 v v' h5=>?_
  dsimp only
  refine RS.jn (fun v w=>Rl C k a5 v.1 w.1∧EE v.2 w.2) (fun v w h=>?_) (fun j0 j0' hj=>?_)
  ·obtain ⟨p,e⟩:=v
   obtain ⟨p',e'⟩:=w
   obtain ⟨⟨a6,g1,g2,h6⟩,he⟩:=h
   dsimp only at g1 g2 he;subst g1 g2;dsimp only
   exact RS.gd fun _ _=>RS.ok ⟨.mk' (by omega) nx,he⟩
  ·rw[hs.1,hs.2]
   have hp:=fun {F:ab→aq (aj×ab)} (h:RN (VE C k a5) C k a5 F F)=>(iG (V:=VE C k a) (K:=.ok) (K':=.ok) h fun e e' a8 h8 he8=>RS.ok ⟨.mk (by omega),he8⟩)
   refine RS.br rfl (fun _=>hp (ih.g.named hC (by omega))) (fun _=>?_)
   refine RS.br rfl (fun _=>RS.same fun y _=>hj _ _ ⟨.mk (by omega),.leaf⟩) (fun _=>?_)
   refine RS.br rfl (fun _=>hj _ _ ⟨.mk (by omega),.leaf⟩) (fun _=>?_)
   refine RS.br rfl (fun _=>?_) (fun _=>?_)
   ·exact iG (ih.g.uS (C:=C) hs) fun e e' a8 h8 he8=>hj _ _ ⟨.mk (by omega),he8⟩
   refine jg hs fun r _=>RS.br rfl (fun _=>hj _ _ ⟨.mk (by omega),.leaf⟩) (fun _=>?_)
   refine jg hs fun r _=>RS.br rfl (fun _=>hj _ _ ⟨.mk (by omega),.leaf⟩) (fun _=>?_)
   refine jg hs fun r _=>RS.br rfl (fun _=>hp (ih.g.parens hC (by omega))) (fun _=>?_)
   refine jg hs fun r _=>RS.br rfl (fun _=>hp (ih.g.uT hC (by omega))) (fun _=>?_)
   refine jg hs fun r _=>RS.br rfl (fun _=>hp (ih.g.list hC (by omega))) (fun _=>jC)
 ·exact RS.br rfl (fun _=>RS.some fun x x' h h'=>by cases h;cases h';exact RS.ok ⟨.mk (by omega),he⟩) (fun h=>by cases h)
end
end Go.Abs
end
section
namespace Go.Abs
open aq
section
variable {C:Cx} {n:Nat} {a:Int} {k j:Bool}
theorem BU (ih:GL n) (hC:C.kS) (h0:0≤a) {d d':ax} (hd:DD d d'):RN (VF C k a) C k a (fun p=>cA (n+1) j p d) (fun p=>cA (n+1) j p d'):=by
 unfold RN
 show RS _ (dy n (ai n) j _ d) (dy n (ai n) j _ d')
 unfold dy
 have hx:=hd.x
 rw[hx.a,hx.b,hx.tl,hx.ld,hx.tr]
 refine fJ hC h0 fun a2 t t' h2 _ _ hs=>?_
 dsimp only
 rw[hs.2,nx]
 refine RS.gd fun _ _=>RS.jn (fun v w=>Rl C k a v.1 w.1∧DD v.2 w.2) (fun v w h=>?_) (fun j0 j0' hj=>?_)
 ·obtain ⟨p,e⟩:=v
  obtain ⟨p',e'⟩:=w
  obtain ⟨⟨a3,g1,g2,h3⟩,he⟩:=h
  dsimp only at g1 g2 he;subst g1 g2;dsimp only
  have hx:=he.x
  refine ja hC (by omega) fun a4 t h4 _ _=>iG (ih.g.expr hC (by omega) .none) fun x x' a5 h5 hx5=>?_
  dsimp only
  rw[hx.k,hx.p,hx.t,hx.a,hx.b,hx.tl,hx.ld,hx.tr]
  exact RS.ok ⟨.mk (by omega),.of (.one hx5) hx.d⟩
 ·refine km hC (by omega) (fun a4 t h4 _ _=>?_) (fun a4 h4=>?_)
  ·exact RS.br rfl (fun _=>hj _ _ ⟨.mk (by omega),.of hx.s hx.d⟩) (fun h=>by cases h)
  ·dsimp only
   refine RS.br rfl (fun h=>by cases h) (fun _=>km hC (by omega) (fun a5 t h5 _ _=>?_) (fun a5 h5=>?_))
   ·exact RS.br rfl (fun _=>hj _ _ ⟨.mk (by omega),.of hx.s hx.d⟩) (fun h=>by cases h)
   ·exact RS.br rfl (fun h=>by cases h) (fun _=>hj _ _ ⟨.mk (by omega),.of hx.s hx.d⟩)
theorem yo (ih:GL n) (hC:C.kS) (h0:0≤a) {d d':ax} (hd:DD d d'):RN (VF C k a) C k a (fun p=>cn (n+1) j p d) (fun p=>cn (n+1) j p d'):=by
 unfold RN
 show RS _ (ei n (ai n) j _ d) (ei n (ai n) j _ d')
 unfold ei
 have hx:=hd.x
 rw[hx.p,hx.a,hx.b,hx.tl,hx.ld,hx.tr]
 refine ja hC h0 fun a2 t h2 _ _=>Al hC (by omega) (.of hx.s hx.d) fun a3 e e' h3 he=>?_
 dsimp only
 have hx:=he.x
 rw[nx]
 refine RS.gd fun _ _=>ja hC (by omega) fun a4 t h4 _ _=>iG (ih.g.expr hC (by omega) .none) fun x x' a5 h5 hx5=>?_
 dsimp only
 rw[hx.k,hx.p,hx.t,hx.a,hx.b,hx.tl,hx.ld,hx.tr]
 exact RS.ok ⟨.mk (by omega),.of (.one hx5) hx.d⟩
theorem yp (ih:GL n) (hC:C.kS) (h0:0≤a) {d d':ax} (hd:DD d d'):RN (VF C k a) C k a (fun p=>cm (n+1) j p d) (fun p=>cm (n+1) j p d'):=by
 unfold RN
 show RS _ (eh n (ai n) j _ d) (eh n (ai n) j _ d')
 unfold eh
 have hx:=hd.x
 rw[hx.p,hx.t,hx.a,hx.b,hx.tl,hx.ld,hx.tr]
 refine iG (ih.g.parens hC h0) fun e e' a2 h2 he=>?_
 dsimp only
 refine fJ hC (by omega) fun a3 t t' h3 _ _ hs=>?_
 dsimp only
 refine jg hs fun r _=>RS.br rfl (fun _=>?_) (fun _=>?_)
 ·refine lj hC (by omega) fun a5 v v' h5=>?_
  dsimp only
  refine o8 he fun x x' hx5=>?_
  dsimp only
  rw[nx]
  refine RS.gd fun _ _=>iG (ih.g.expr hC (by omega) .none) fun y y' a6 h6 hy=>?_
  exact RS.ok ⟨.mk (by omega),.of (.two hx5 hy) hx.d⟩
 ·refine iG (ih.g.expr hC (by omega) (.inr ⟨e,e',rfl,rfl,he⟩)) fun y y' a6 h6 hy=>?_
  exact RS.ok ⟨.mk (by omega),.of (.one hy) hx.d⟩
theorem Dc (ih:GL n) (hC:C.kS) (h0:0≤a):RN (VD C k a) C k a (bO (n+1) j) (bO (n+1) j):=by
 unfold RN
 show RS _ (dM n (ai n) j _) (dM n (ai n) j _)
 unfold dM
 refine fJ hC h0 fun a2 t t' h2 _ _ hs=>?_
 dsimp only
 refine lj hC (by omega) fun a5 v v' h5=>?_
 dsimp only
 refine lI hC fun u u' hu=>?_
 dsimp only
 refine RS.jn (fun v w=>VF C k a v w) (fun v w h=>RS.ok h) (fun j0 j0' hj=>?_)
 have hE:∀ {b c:Bool} {q q':Option aj} {x:Int} {X:aj×ab→ax},True:=trivial
 refine RS.jn (fun x y=>y=x) (fun x y h=>?_) (fun j2 j2' hj2=>?_)
 ·subst h
  refine RS.br rfl (fun _=>?_) (fun _=>?_)
  ·exact vp (P:=DD) (ih.g.field hC (by omega) (.of .nil .nil)) fun x x' a6 h6 hx=>hj _ _ ⟨.mk (by omega),hx⟩
  refine wN hC (by omega) fun a6 r h6=>?_
  dsimp only
  refine RS.br rfl (fun _=>?_) (fun _=>?_)
  ·exact vp (P:=DD) (ih.g.pattern hC (by omega) (.of .nil .nil)) fun x x' a6 h6 hx=>hj _ _ ⟨.mk (by omega),hx⟩
  refine pR hs fun r=>RS.br rfl (fun _=>?_) (fun _=>?_)
  ·refine RS.jn (fun p p'=>p=(bL C.s C.T a6 C.b k none)∧p'=(bL C.s' C.T' (a6+C.κ) C.b' k none)) (fun p p' h=>?_) (fun j3 j3' hj3=>?_)
   ·obtain ⟨rfl,rfl⟩:=h
    dsimp only
    rw[nx]
    refine RS.gd fun _ _=>tT hC (by omega) fun a7 x h7=>?_
    dsimp only
    refine ja hC (by omega) fun a8 t8 h8 _ _=>iG (ih.g.expr hC (by omega) .none) fun x x' a9 h9 hx=>?_
    exact hj _ _ ⟨.mk (by omega),.of (.one hx) .nil⟩
   ·exact RS.br rfl (fun _=>jC) (fun _=>hj3 _ _ ⟨rfl,rfl⟩)
  refine jg hs fun r _=>RS.br rfl (fun _=>?_) (fun _=>?_)
  ·refine RS.jn (fun p p'=>p=(bL C.s C.T a6 C.b k none)∧p'=(bL C.s' C.T' (a6+C.κ) C.b' k none)) (fun p p' h=>?_) (fun j3 j3' hj3=>?_)
   ·obtain ⟨rfl,rfl⟩:=h
    dsimp only
    exact RS.gd fun _ _=>hj _ _ ⟨.mk' (by omega) nx,.of .nil .nil⟩
   ·exact RS.br rfl (fun _=>jC) (fun _=>hj3 _ _ ⟨rfl,rfl⟩)
  rw[nx]
  refine pR hs fun r=>RS.br rfl (fun _=>?_) (fun _=>?_)
  ·refine RS.gd fun _ _=>iG (ih.g.expr hC (by omega) .none) fun x x' a9 h9 hx=>?_
   dsimp only
   refine RS.bind (ih.g.block hC (by omega)) fun r r' h=>?_
   obtain ⟨l,tl,p⟩:=r
   obtain ⟨l',tl',p'⟩:=r'
   obtain ⟨⟨a3,g1,g2,h3⟩,hl,ht⟩:=h
   dsimp only at g1 g2 hl ht;subst g1 g2 ht
   exact hj _ _ ⟨.mk (by omega),.of (.one hx) hl⟩
  refine pR hs fun r=>RS.br rfl (fun _=>?_) (fun _=>?_)
  ·refine RS.gd fun _ _=>xS hC (by omega) fun a7 nm h7=>?_
   dsimp only
   refine pS hC (by omega) fun a8 h8=>iG (ih.g.expr hC (by omega) .none) fun x x' a9 h9 hx=>?_
   dsimp only
   refine RS.bind (ih.g.block hC (by omega)) fun r r' h=>?_
   obtain ⟨l,tl,p⟩:=r
   obtain ⟨l',tl',p'⟩:=r'
   obtain ⟨⟨a3,g1,g2,h3⟩,hl,ht⟩:=h
   dsimp only at g1 g2 hl ht;subst g1 g2 ht
   exact hj _ _ ⟨.mk (by omega),.of (.one hx) hl⟩
  refine jg hs fun r _=>RS.br rfl (fun _=>?_) (fun _=>?_)
  ·exact vp (P:=DD) (ih.g.sA hC (by omega) (.of .nil .nil)) fun x x' a6 h6 hx=>hj _ _ ⟨.mk (by omega),hx⟩
  ·exact iG (ih.g.expr hC (by omega) .none) fun x x' a9 h9 hx=>hj _ _ ⟨.mk (by omega),.of (.one hx) .nil⟩
 ·refine uR hs fun r=>RS.br rfl (fun _=>sy hu fun r=>hj2 _ _ rfl) (fun _=>hj2 _ _ rfl)
theorem BV (hd:GR n) (hC:C.kS) (h0:0≤a) (hB:CU C a) {lead:List (List UInt8)}:RN (VB C k a) C k a (dW n lead j) (dW n lead j):=by
 unfold RN
 unfold dW
 refine RS.iter (fun (v w:ab×(List (List UInt8))×(List ax)×Int×Bool)=>Rl C k a v.1 w.1∧w.2.1=v.2.1∧LR DD v.2.2.1 w.2.2.1∧((0<v.2.2.2.1→w.2.2.2.1=v.2.2.2.1+C.κ)∧(v.2.2.2.1≤0→w.2.2.2.1≤0))∧w.2.2.2.2=v.2.2.2.2)
  (fun v w h next next' hn=>?_) _ _ ⟨.mk (by omega),rfl,.nil,⟨fun h=>by simp at h,fun _=>by simp⟩,rfl⟩
 obtain ⟨p,ld,out,e,sep⟩:=v
 obtain ⟨p',ld',out',e',sep'⟩:=w
 obtain ⟨⟨a1,g1,g2,h1⟩,g3,hl,he,g4⟩:=h
 dsimp only at g1 g2 g3 hl he g4;subst g1 g2 g3 g4;dsimp only
 refine CV hC (by omega) fun a2 r h2=>?_
 dsimp only
 refine RS.br rfl (fun _=>?_) (fun _=>RS.ok ⟨.mk (by omega),hl,rfl⟩)
 refine fJ hC (by omega) fun a3 t t' h3 _ _ hs=>?_
 dsimp only
 rw[hs.1,hs.2,nx,hl.1]
 refine RS.jn (fun x y=>y=x) (fun x y h=>?_) (fun j1 j1' hj1=>?_)
 ·subst h
  refine RS.br rfl (fun _=>?_) (fun _=>?_)
  ·exact RS.gd fun _ _=>hn _ _ ⟨.mk (by omega),rfl,hl,he,rfl⟩
  refine RS.jn (fun v w=>v.1=(bL C.s C.T a3 C.b k none)∧w.1=(bL C.s' C.T' (a3+C.κ) C.b' k none)∧w.2=v.2) (fun v w h=>?_) (fun j2 j2' hj2=>?_)
  ·obtain ⟨p,x⟩:=v
   obtain ⟨p',x'⟩:=w
   obtain ⟨g1,g2,g3⟩:=h
   dsimp only at g1 g2 g3;subst g1 g2 g3;dsimp only
   refine RS.br rfl (fun _=>?_) (fun _=>?_)
   ·refine RS.gd fun _ _=>RS.el fun d d' _ _ hd1 hd1'=>?_
    have hdr:=hl.2 _ _ _ hd1 hd1'
    have hx:=hdr.x
    rw[nx,hx.k,hx.p,hx.t,hx.a,hx.b,hx.tl,hx.ld]
    exact RS.gd fun _ _=>hn _ _ ⟨.mk (by omega),rfl,hl.set (.of hx.s hx.d) _,he,rfl⟩
   ·refine RS.jn (fun v w=>v.1=(bL C.s C.T a3 C.b k none)∧w.1=(bL C.s' C.T' (a3+C.κ) C.b' k none)∧w.2=v.2) (fun v w h=>?_) (fun j3 j3' hj3=>?_)
    ·obtain ⟨p,x⟩:=v
     obtain ⟨p',x'⟩:=w
     obtain ⟨g1,g2,g3⟩:=h
     dsimp only at g1 g2 g3;subst g1 g2 g3;dsimp only
     refine RS.br rfl (fun _=>?_) (fun _=>?_)
     ·exact RS.gd fun _ _=>RS.gd fun _ _=>hn _ _ ⟨.mk' (by omega) nx,rfl,hl,he,rfl⟩
     ·refine RS.jn (fun x y=>y=x) (fun x y h=>?_) (fun j4 j4' hj4=>?_)
      ·subst h
       refine RS.br rfl (fun _=>jC) (fun _=>iG (hd.decl hC (by omega)) fun d d' a4 h4 hdr=>?_)
       have hx:=hdr.x
       dsimp only
       rw[hx.k,hx.p,hx.t,hx.a,hx.b,hx.tl,hx.tr]
       refine RS.gd fun _ _=>hn _ _ ⟨.mk (by omega),rfl,hl.snoc (.of hx.s hx.d),⟨fun _=>rfl,fun h=>?_⟩,rfl⟩
       dsimp only at h ⊢
       rcases hB with w|⟨i,_,w,_⟩
       ·rw[w];omega
       ·omega
      ·exact RS.br rfl (fun _=>hj4 _ _ rfl) (fun _=>hj4 _ _ rfl)
    ·refine RS.br rfl (fun _=>BJ hC (hB.mono (by omega)) (by omega) fun r=>hj3 _ _ ⟨rfl,rfl,rfl⟩) (fun _=>hj3 _ _ ⟨rfl,rfl,rfl⟩)
  ·refine RS.br rfl (fun _=>RS.br (decide_eq_decide.2 ⟨fun h=>?_,fun h=>?_⟩) (fun h=>?_) (fun _=>hj2 _ _ ⟨rfl,rfl,rfl⟩)) (fun _=>hj2 _ _ ⟨rfl,rfl,rfl⟩)
   ·by_cases w:0<e
    ·exact w
    ·have:=he.2 (by omega);omega
   ·have:=he.1 h;omega
   ·have h:=of_decide_eq_true h
    exact Ak hC (by omega) (by omega) (he.1 h) fun r=>hj2 _ _ ⟨rfl,rfl,rfl⟩
 ·exact RS.br rfl (fun _=>hj1 _ _ rfl) (fun _=>jg hs fun r _=>hj1 _ _ rfl)
theorem Dd (ih:GL n) {x:List UInt8} {v v':Int}:RS (fun r r'=>r.2=true→r'.2=true∧EE r.1 r'.1) (fF (n+1) x v) (fF (n+1) x v'):=by
 show RS _ (iB n (ai n) x v) (iB n (ai n) x v')
 unfold iB
 refine RS.same fun y _=>RS.br rfl (fun _=>RS.ok fun h=>by cases h) (fun _=>RS.same fun z _=>RS.br rfl (fun _=>RS.ok fun h=>by cases h) (fun _=>?_))
 refine RS.vI ?_ fun p a _ h=>?_
 ·have hC:(Cx.mk x y.1 v x y.1 v' 0).kS:=.refl
  refine iG (C:=Cx.mk x y.1 v x y.1 v' 0) (ih.g.expr hC (Int.le_refl 0) .none) fun e e' a2 h2 he=>?_
  dsimp only
  refine fJ hC (by omega) fun a3 t t' h3 _ _ hs=>RS.ok ?_
  dsimp only
  rw[hs.1]
  exact fun h=>⟨h,he⟩
 ·have hf:∀ (p:pj) (r:aj×Bool),(r6 86 p fun v=>aq.bind (fU v) fun y=>.ok (y.1,y.2))=.ok r→r.2=false:=fun p r h=>by
   obtain ⟨v,_,h⟩:=lF (fun q=>by cases q) h
   unfold fU at h;cases h;rfl
  have ha:=hf p a h
  refine ⟨fun b _ q=>(by rw[ha] at q;cases q),fun p' _=>?_⟩
  cases hh:(r6 86 p' fun v=>aq.bind (fU v) fun y=>.ok (y.1,y.2)) with
  | stuck=>exact .inl rfl
  | ok b=>exact .inr ⟨b,rfl,fun q=>by rw[ha] at q;cases q⟩
  | ll w=>
   obtain ⟨v,_,h⟩:=lF (fun q=>by cases q) hh
   unfold fU at h;cases h
theorem EB:∀ n,GL n:=by
 intro n
 induction n with
 | zero=>
  intro i hi
  have e:i=0:=by omega
  subst e
  constructor<;>intros<;>first|exact RS.nil|(intro q q' _;exact RS.nil)
 | succ n ih=>
  intro i hi
  by_cases h:i≤n
  ·exact ih i h
  have e:i=n+1:=by omega
  subst e
  exact {
      expr:=C5 ih,alt:=Ez ih,wO:=C6 ih,bin:=fun hC h0=>EA ih hC h0,unary:=BR ih,post:=C7 ih,BK:=Db ih,named:=BS ih,uS:=fun hs=>Ap ih hs,parens:=Aq ih,uT:=Ar ih
      list:=Da ih,block:=BT ih,args:=C8 ih,item:=C9 ih,field:=fun hC h0 hd=>BU ih hC h0 hd,pattern:=fun hC h0 hd=>yo ih hC h0 hd,sA:=fun hC h0 hd=>yp ih hC h0 hd,decl:=Dc ih,decls:=fun hC h0 hB=>BV (lead:=[]) ih.g hC h0 hB,code:=Dd ih }
end
end Go.Abs
end
section
namespace Go.Abs
open aq
def zO (π:Nat) (t:aK):aK:=⟨t.Kind,t.Text,t.Pos+π,t.End+π⟩
def yq (pre:List UInt8) (pt:List aK) (x:bm):bm:=⟨pre++x.text,x.at_+pre.length,pt++x.out.map (zO pre.length),x.line⟩
section
variable {pre:List UInt8} {pt:List aK} {m:Nat} {x:bm}
theorem xU {s:List UInt8} {i:Int} (h:0≤i):dO (pre++s) (i+pre.length)=dO s i:=by
 simp only[dO]
 rw[show (i+(pre.length:Int)).toNat=pre.length+i.toNat by omega,← List.drop_drop,List.drop_left]
theorem BW {s:List UInt8} {i j:Int} (h:0≤i):sub (pre++s) (i+pre.length) (j+pre.length)=sub s i j:=by
 simp only[sub]
 rw[show (i+(pre.length:Int)).toNat=pre.length+i.toNat by omega,← List.drop_drop,List.drop_left]
 congr 1;omega
theorem xV:(yq pre pt x).text=pre++x.text:=rfl
theorem yr:(yq pre pt x).at_=x.at_+pre.length:=rfl
theorem BX:(yq pre pt x).line=x.line:=rfl
theorem uW {k n:Int} {t:List UInt8}:RS (fun r r'=>r'=yq pre pt r∧r.text=x.text) (bJ k t n x) (bJ k t n (yq pre pt x)):=by
 unfold bJ
 dsimp only [yq]
 refine RS.gd fun _ _=>RS.gd fun _ _=>RS.gd fun _ _=>?_
 have e:pt++x.out.map (zO pre.length)++[aK.mk k t (x.at_+pre.length) (x.at_+pre.length+n)]=pt++(x.out++[aK.mk k t x.at_ (x.at_+n)]).map (zO pre.length):=by
  simp[zO];omega
 have e2:x.at_+(pre.length:Int)+n=x.at_+n+pre.length:=by omega
 rw[e,e2]
 refine RS.br rfl (fun _=>RS.ok ⟨rfl,rfl⟩) (fun _=>RS.jn (fun v w=>w=v) (fun v w h=>?_) (fun j j' hj=>?_))
 ·subst h
  refine RS.br rfl (fun _=>RS.ok ⟨rfl,rfl⟩) (fun _=>RS.br rfl (fun _=>?_) (fun _=>RS.ok ⟨rfl,rfl⟩))
  refine RS.gd fun _ _=>RS.gd fun _ _=>RS.same fun y _=>RS.ok ⟨rfl,rfl⟩
 ·exact RS.br rfl (fun _=>hj _ _ rfl) (fun _=>RS.br rfl (fun _=>hj _ _ rfl) (fun _=>RS.br rfl (fun _=>hj _ _ rfl) (fun _=>hj _ _ rfl)))
theorem EC:RS (fun r r'=>r'.1=r.1∧r'.2=yq pre pt r.2∧r.2.text=x.text) (fV m x) (fV m (yq pre pt x)):=by
 unfold fV
 simp only[xV,yr]
 refine RS.gd fun h _=>?_
 simp only[xU h.1]
 refine RS.same fun y _=>RS.br rfl (fun _=>RS.ok ⟨rfl,rfl,rfl⟩) (fun _=>RS.gd fun _ _=>RS.gd fun _ _=>?_)
 simp only[show x.at_+(pre.length:Int)+y.1=x.at_+y.1+pre.length by omega,BW h.1]
 refine RS.br rfl (fun _=>RS.gd fun _ _=>RS.gd fun _ _=>RS.same fun z _=>RS.br rfl (fun _=>RS.ok ⟨rfl,rfl,rfl⟩) (fun _=>?_)) (fun _=>RS.same fun z _=>RS.br rfl (fun _=>RS.ok ⟨rfl,rfl,rfl⟩) (fun _=>?_))
 ·exact RS.gd fun _ _=>RS.gd fun _ _=>RS.bind uW fun r r' h=>RS.ok ⟨rfl,h⟩
 ·exact RS.bind uW fun r r' h=>RS.ok ⟨rfl,h⟩
theorem De:RS (fun r r'=>r'.1=r.1∧r'.2=yq pre pt r.2∧r.2.text=x.text) (de m x) (de m (yq pre pt x)):=by
 unfold de
 simp only[xV,yr]
 refine RS.gd fun h _=>?_
 simp only[xU h.1]
 have A:∀ {k n:Int} {t:List UInt8},RS (fun r r'=>r'.1=r.1∧r'.2=yq pre pt r.2∧r.2.text=x.text) (aq.bind (bJ k t n x) fun r=>.ok (true,r)) (aq.bind (bJ k t n (yq pre pt x)) fun r=>.ok (true,r)):=
  fun {k n t}=>RS.bind uW fun r r' h=>RS.ok ⟨rfl,h⟩
 refine RS.same fun y _=>RS.br rfl (fun _=>RS.same fun c _=>RS.gd fun _ _=>A) (fun _=>RS.same fun y _=>RS.br rfl (fun _=>RS.gd fun _ _=>A) (fun _=>RS.el fun b b' _ _ hb hb'=>?_))
 rw[hb] at hb';cases hb'
 refine RS.same fun d _=>RS.br rfl (fun _=>RS.same fun y _=>RS.gd fun _ _=>RS.same fun z _=>RS.br rfl (fun _=>RS.ok ⟨rfl,rfl,rfl⟩) (fun _=>RS.gd fun _ _=>A)) (fun _=>?_)
 refine RS.br rfl (fun _=>RS.bind EC fun r r' h=>RS.ok h) (fun _=>RS.same fun y _=>RS.br rfl (fun _=>RS.ok ⟨rfl,rfl,rfl⟩) (fun _=>A))
end
end Go.Abs
end
section
namespace Go.Abs
open aq
section
variable {m:Nat→Nat}
theorem vq (hm:bZ m) {l:List Bool} {x:Bool} (hl:l.length≤70000):Ev (fun i=>iy (m i) l x) (fun _=>True) gh:=by
 unfold iy
 refine Ev.bind (Q:=fun _=>True) (R':=gh) ?_ (fun _ q=>q) fun y _=>Ev.ok trivial
 unfold lh
 refine Ev.iter hm (fun (x:Int)=>0≤x∧x≤l.length) (fun x=>(l.length - x).toNat) (by omega) ?_
 intro x hx next hn
 refine Ev.aU (fun _=>?_) (fun _=>Ev.ok trivial)
 refine Ev.el (by omega) (by omega) fun t _=>Ev.br (fun _=>Ev.ok trivial) (fun _=>Ev.gd (by (first|omega|(simp[bA]<;>omega))) (hn _ (by omega) (by omega)))
theorem dt (hm:bZ m) {l:List Bool} {p:al} (hl:l.length≤70000):Ev (fun i=>aA (m i) l p) (fun _=>True) gh:=by
 unfold aA
 refine Ev.br (fun _=>Ev.ok trivial) (fun _=>Ev.bind (vq hm hl) (fun _ q=>q) fun y _=>Ev.ok trivial)
theorem vN (hm:bZ m) {l:fY}:Ev (fun i=>kA (m i) l) (fun _=>True) gh:=by
 unfold kA
 refine Ev.bind (fR hm) (fun _ q=>q) fun y _=>Ev.br (fun _=>Ev.bind (fR hm) (fun _ q=>q) fun y _=>Ev.br (fun _=>Ev.ok trivial) (fun _=>Ev.ok trivial)) (fun _=>Ev.ok trivial)
theorem nK (hm:bZ m) {l:List (List UInt8)} (hl:l.length≤70000) (hs:∀ x,x∈l→x.length≤65536):Ev (fun i=>gp (m i) l) (fun _=>True) gh:=by
 unfold gp gY
 refine Ev.bind (Q:=fun _=>True) (R':=gh) ?_ (fun _ q=>q) fun y _=>Ev.ok trivial
 refine Ev.bind (Q:=fun _=>True) (R':=gh) ?_ (fun _ q=>q) fun y _=>Ev.ok trivial
 unfold iY
 refine Ev.iter hm (fun (x:Int)=>0≤x∧x≤l.length) (fun x=>(l.length - x).toNat) (by omega) ?_
 intro x hx next hn
 refine Ev.aU (fun _=>?_) (fun _=>Ev.ok trivial)
 refine Ev.el (by omega) (by omega) fun t ht=>?_
 have:=hs t (List.mem_of_getElem? ht)
 refine Ev.bind (Q:=fun _=>True) (R':=gh) ?_ (fun _ q=>q) fun y _=>Ev.br (fun _=>Ev.ok trivial) (fun _=>Ev.gd (by (first|omega|(simp[bA]<;>omega))) (hn _ (by omega) (by omega)))
 unfold nI
 exact Ev.bind (n8 (by omega)) (fun _ q=>q) fun y _=>Ev.ok trivial
theorem ob (hm:bZ m) {a b:List UInt8} (hb:b.length≤60000):Ev (fun i=>gE (m i) a b) (fun _=>True) gh:=by
 unfold gE
 refine Ev.br (fun _=>?_) (fun _=>Ev.ok trivial)
 exact Ev.bind (uK (by simp) (by omega)) (fun _ q=>q) fun y hy=>Ev.bind (hY hm (by omega)) (fun _ q=>q) fun z _=>Ev.ok trivial
theorem wR {l:fY}:Ev (fun _=>mi l) (fun _=>True) gh:=Ev.ok trivial
theorem wT (hm:bZ m) {e:aj} {p:al}:Ev (fun i=>gq (m i) e p) (fun _=>True) gh:=by
 unfold gq
 refine Ev.bind (fR hm) (fun _ q=>q) fun y _=>Ev.bind (dt hm (by simp)) (fun _ q=>q) fun y _=>?_
 refine Ev.br (fun _=>Ev.bind wR (fun _ q=>q) fun y _=>Ev.bind (dt hm (by simp)) (fun _ q=>q) fun y _=>Ev.ok trivial) (fun _=>?_)
 refine Ev.br (fun _=>Ev.bind (dt hm (by simp)) (fun _ q=>q) fun y _=>Ev.ok trivial) (fun _=>?_)
 refine Ev.jn (fun _=>True) (fun v _=>Ev.br (fun _=>Ev.bind (dt hm (by simp)) (fun _ q=>q) fun y _=>Ev.ok trivial) (fun _=>Ev.bind (dt hm (by simp)) (fun _ q=>q) fun y _=>Ev.ok trivial)) (fun j hj=>?_)
 (repeat' (first|((with_reducible first|refine Ev.gd ?_ ?_|refine Ev.kc ?_ (fun _ _=>?_));(next=>(first|omega|(simp[bA,cB,cM,maxLen]<;>omega))))|(with_reducible first|refine Ev.cw ?_|refine Ev.b7 ?_|refine Ev.aU (fun _=>?_) (fun _=>?_)|refine Ev.bk (fun _=>?_) (fun _=>?_)|refine Ev.bN (fun _=>?_) (fun _=>?_)|refine Ev.bh (fun _=>?_) (fun _=>?_)|refine Ev.br (fun _=>?_) (fun _=>?_))|((with_reducible refine Ev.jd ?_);try dsimp only)))
 all_goals exact hj _ trivial
theorem Df (hm:bZ m) {e:aj} {p:al}:Ev (fun i=>iJ (m i) e p) (fun _=>True) gh:=by
 unfold iJ
 have M:∀ {l:List Bool},l.length≤70000→Ev (fun i=>aq.bind (aA (m i) l p) fun y=>.ok y) (fun _=>True) gh:=fun h=>Ev.bind (dt hm h) (fun _ q=>q) fun y _=>Ev.ok trivial
 refine Ev.jn (fun _=>True) (fun v _=>?_) (fun j hj=>?_)
 ·refine Ev.br (fun _=>Ev.ok trivial) (fun _=>Ev.br (fun _=>M (by simp)) (fun _=>?_))
  refine Ev.jn (fun _=>True) (fun v _=>?_) (fun j hj=>?_)
  ·refine Ev.br (fun _=>M (by simp)) (fun _=>?_)
   refine Ev.jn (fun _=>True) (fun v _=>?_) (fun j hj=>?_)
   ·refine Ev.br (fun _=>M (by simp)) (fun _=>Ev.br (fun _=>Ev.br (fun _=>M (by simp)) (fun _=>M (by simp))) (fun _=>Ev.br (fun _=>M (by simp)) (fun _=>Ev.br (fun _=>M (by simp)) (fun _=>M (by simp)))))
   ·(repeat' (first|((with_reducible first|refine Ev.gd ?_ ?_|refine Ev.kc ?_ (fun _ _=>?_));(next=>(first|omega|(simp[bA,cB,cM,maxLen]<;>omega))))|(with_reducible first|refine Ev.cw ?_|refine Ev.b7 ?_|refine Ev.aU (fun _=>?_) (fun _=>?_)|refine Ev.bk (fun _=>?_) (fun _=>?_)|refine Ev.bN (fun _=>?_) (fun _=>?_)|refine Ev.bh (fun _=>?_) (fun _=>?_)|refine Ev.br (fun _=>?_) (fun _=>?_))|((with_reducible refine Ev.jd ?_);try dsimp only)))
    all_goals exact hj _ trivial
  ·(repeat' (first|((with_reducible first|refine Ev.gd ?_ ?_|refine Ev.kc ?_ (fun _ _=>?_));(next=>(first|omega|(simp[bA,cB,cM,maxLen]<;>omega))))|(with_reducible first|refine Ev.cw ?_|refine Ev.b7 ?_|refine Ev.aU (fun _=>?_) (fun _=>?_)|refine Ev.bk (fun _=>?_) (fun _=>?_)|refine Ev.bN (fun _=>?_) (fun _=>?_)|refine Ev.bh (fun _=>?_) (fun _=>?_)|refine Ev.br (fun _=>?_) (fun _=>?_))|((with_reducible refine Ev.jd ?_);try dsimp only)))
   all_goals exact hj _ trivial
 ·(repeat' (first|((with_reducible first|refine Ev.gd ?_ ?_|refine Ev.kc ?_ (fun _ _=>?_));(next=>(first|omega|(simp[bA,cB,cM,maxLen]<;>omega))))|(with_reducible first|refine Ev.cw ?_|refine Ev.b7 ?_|refine Ev.aU (fun _=>?_) (fun _=>?_)|refine Ev.bk (fun _=>?_) (fun _=>?_)|refine Ev.bN (fun _=>?_) (fun _=>?_)|refine Ev.bh (fun _=>?_) (fun _=>?_)|refine Ev.br (fun _=>?_) (fun _=>?_))|((with_reducible refine Ev.jd ?_);try dsimp only)))
  all_goals exact hj _ trivial
theorem Dg (hm:bZ m) {e:aj} {p:al}:Ev (fun i=>iK (m i) e p) (fun _=>True) gh:=by
 unfold iK
 have M:∀ {l:List Bool},l.length≤70000→Ev (fun i=>aq.bind (aA (m i) l p) fun y=>.ok y) (fun _=>True) gh:=fun h=>Ev.bind (dt hm h) (fun _ q=>q) fun y _=>Ev.ok trivial
 refine Ev.jn (fun _=>True) (fun v _=>?_) (fun j hj=>?_)
 ·refine Ev.br (fun _=>Ev.ok trivial) (fun _=>?_)
  refine Ev.br (fun _=>Ev.bind (ob hm (by simp)) (fun _ q=>q) fun y _=>M (by simp)) (fun _=>?_)
  refine Ev.br (fun _=>Ev.bind (ob hm (by simp)) (fun _ q=>q) fun y _=>M (by simp)) (fun _=>?_)
  refine Ev.br (fun _=>Ev.bind (ob hm (by simp)) (fun _ q=>q) fun y _=>M (by simp)) (fun _=>?_)
  refine Ev.br (fun _=>Ev.bind (ob hm (by simp)) (fun _ q=>q) fun y _=>M (by simp)) (fun _=>?_)
  refine Ev.br (fun _=>Ev.bind (fR hm) (fun _ q=>q) fun y _=>M (by simp)) (fun _=>M (by simp))
 ·(repeat' (first|((with_reducible first|refine Ev.gd ?_ ?_|refine Ev.kc ?_ (fun _ _=>?_));(next=>(first|omega|(simp[bA,cB,cM,maxLen]<;>omega))))|(with_reducible first|refine Ev.cw ?_|refine Ev.b7 ?_|refine Ev.aU (fun _=>?_) (fun _=>?_)|refine Ev.bk (fun _=>?_) (fun _=>?_)|refine Ev.bN (fun _=>?_) (fun _=>?_)|refine Ev.bh (fun _=>?_) (fun _=>?_)|refine Ev.br (fun _=>?_) (fun _=>?_))|((with_reducible refine Ev.jd ?_);try dsimp only)))
  all_goals exact hj _ trivial
theorem ED (hm:bZ m) {e:aj} (he:gT e) {at_:aP} {p:al}:Ev (fun i=>jr (m i) e at_ p) (fun _=>True) gh:=by
 unfold jr
 have M:∀ {l:List Bool} {p:al},l.length≤70000→Ev (fun i=>aq.bind (aA (m i) l p) fun y=>.ok y) (fun _=>True) gh:=fun h=>Ev.bind (dt hm h) (fun _ q=>q) fun y _=>Ev.ok trivial
 have h2:=he.l2
 have h3:=he.l3
 refine Ev.jn (fun _=>True) (fun v _=>?_) (fun j hj=>?_)
 ·refine Ev.bind (Df hm) (fun _ q=>q) fun y _=>Ev.bind (Dg hm) (fun _ q=>q) fun y _=>?_
  refine Ev.jn (fun _=>True) (fun v _=>?_) (fun j hj=>Ev.br (fun _=>hj _ trivial) (fun _=>hj _ trivial))
  refine Ev.jn (fun _=>True) (fun v _=>?_) (fun j hj=>?_)
  ·refine Ev.jn (fun _=>True) (fun v _=>?_) (fun j hj=>?_)
   ·refine Ev.jn (fun _=>True) (fun v _=>?_) (fun j hj=>?_)
    ·refine Ev.jn (fun _=>True) (fun v _=>?_) (fun j hj=>?_)
     ·exact Ev.br (fun _=>Ev.br (fun _=>M (by simp)) (fun _=>M (by simp))) (fun _=>Ev.br (fun _=>M (by simp)) (fun _=>M (by simp)))
     ·exact Ev.br (fun _=>Ev.br (fun _=>Ev.bind (dt hm (by simp)) (fun _ q=>q) fun y _=>hj _ trivial) (fun _=>Ev.bind (dt hm (by simp)) (fun _ q=>q) fun y _=>hj _ trivial)) (fun _=>Ev.br (fun _=>Ev.bind (dt hm (by simp)) (fun _ q=>q) fun y _=>hj _ trivial) (fun _=>Ev.bind (dt hm (by simp)) (fun _ q=>q) fun y _=>hj _ trivial))
    ·exact Ev.br (fun _=>Ev.bind (vN hm) (fun _ q=>q) fun y _=>Ev.bind (dt hm (by simp)) (fun _ q=>q) fun y _=>hj _ trivial) (fun _=>Ev.bind wR (fun _ q=>q) fun y _=>Ev.bind (dt hm (by simp)) (fun _ q=>q) fun y _=>hj _ trivial)
   ·refine Ev.br (fun _=>Ev.bind (wT hm) (fun _ q=>q) fun y _=>Ev.ok trivial) (fun _=>?_)
    refine Ev.jn (fun _=>True) (fun v _=>?_) (fun j2 hj2=>Ev.br (fun _=>hj2 _ trivial) (fun _=>hj2 _ trivial))
    refine Ev.br (fun _=>Ev.br (fun _=>Ev.bind (dt hm (by simp)) (fun _ q=>q) fun y _=>hj _ trivial) (fun _=>Ev.bind (dt hm (by simp)) (fun _ q=>q) fun y _=>hj _ trivial)) (fun _=>?_)
    exact Ev.br (fun _=>Ev.bind nA (fun _ q=>q) fun y _=>Ev.bind (dt hm (by simp)) (fun _ q=>q) fun y _=>hj _ trivial) (fun _=>Ev.bind (dt hm (by simp)) (fun _ q=>q) fun y _=>hj _ trivial)
  ·refine Ev.br (fun _=>Ev.bind (nK hm h3 he.l4) (fun _ q=>q) fun y _=>Ev.bind (dt hm (by simp)) (fun _ q=>q) fun y _=>hj _ trivial) (fun _=>?_)
   refine Ev.gd (by (first|omega|(simp[bA]<;>omega))) (Ev.bind (nK hm h3 he.l4) (fun _ q=>q) fun y _=>Ev.bind (dt hm (by simp)) (fun _ q=>q) fun y _=>hj _ trivial)
 ·exact Ev.br (fun _=>Ev.bind (dt hm (by simp)) (fun _ q=>q) fun y _=>hj _ trivial) (fun _=>Ev.bind (dt hm (by simp)) (fun _ q=>q) fun y _=>hj _ trivial)
end
structure SG (N:Nat):Prop where
 e:∀ {m:Nat→Nat} {x:aj} {at_:aP} {p:al},bZ m→gT x→2*SizeOf.sizeOf x<N→Ev (fun i=>aN (m i) x at_ p) (fun _=>True) gh
 d:∀ {m:Nat→Nat} {x:ax} {t:Bool} {l:Int} {p:al},bZ m→kR x→2*SizeOf.sizeOf x<N→Ev (fun i=>eL (m i) x t l p) (fun _=>True) gh
theorem tc {N:Nat} (ih:SG N) {m:Nat→Nat} (hm:bZ m) {l:List ax} {t:Bool} {lv:Int} {p:al} (hl:l.length≤70000) (hs:∀ x,x∈l→kR x∧2*SizeOf.sizeOf x<N):Ev (fun i=>cF (m i) l t lv p) (fun _=>True) gh:=by
 refine Ev.grow (F:=fun n=>cF n l t lv p) hm fun m hm=>?_
 show Ev (fun i=>gP (m i) (b4 (m i)) l t lv p) _ _
 unfold gP
 refine Ev.iter hm (fun (x:al×Int)=>0≤x.2∧x.2≤l.length) (fun x=>(l.length - x.2).toNat) (by simp) ?_
 intro x hx next hn
 refine Ev.aU (fun _=>?_) (fun _=>Ev.ok trivial)
 refine Ev.el (by omega) (by omega) fun d hd=>?_
 have:=hs d (List.mem_of_getElem? hd)
 exact Ev.bind (ih.d hm this.1 this.2) (fun _ q=>q) fun y _=>Ev.gd (by (first|omega|(simp[bA]<;>omega))) (hn _ (by dsimp only;omega) (by dsimp only;omega))
theorem BY:∀ N,SG N:=by
 intro N
 induction N with
 | zero=>exact ⟨fun _ _ h=>absurd h (Nat.not_lt_zero _),fun _ _ h=>absurd h (Nat.not_lt_zero _)⟩
 | succ N ih=>
  refine ⟨?_,?_⟩
  ·intro m x at_ p hm he hN
   have hls:=he.l1
   have hld:=he.l2
   refine Ev.grow (F:=fun n=>aN n x at_ p) hm fun m hm=>?_
   show Ev (fun i=>hQ (m i) (b4 (m i)) x at_ p) _ _
   unfold hQ
   refine Ev.jn (fun _=>True) (fun v _=>?_) (fun j hj=>Ev.aU (fun _=>hj _ trivial) (fun _=>hj _ trivial))
   refine Ev.bind (ED hm he) (fun _ q=>q) fun y _=>?_
   refine Ev.iter hm (fun (w:al×Int)=>0≤w.2∧w.2≤x.aW.length) (fun w=>(x.aW.length - w.2).toNat) (by simp) ?_
   intro w hw next hn
   refine Ev.aU (fun _=>?_) (fun _=>?_)
   ·refine Ev.jn (fun _=>True) (fun v _=>Ev.gd (by (first|omega|(simp[bA]<;>omega))) (hn _ (by dsimp only;omega) (by dsimp only;omega))) (fun j hj=>?_)
    refine Ev.el (by omega) (by omega) fun z hz=>?_
    have hzm:=List.mem_of_getElem? hz
    have hsz:=zN hzm
    have hE:∀ {at_:aP} {p:al},Ev (fun i=>aN (m i) z at_ p) (fun _=>True) gh:=ih.e hm (he.s z hzm) (by omega)
    have hB:∀ {at_:aP} {p:al},Ev (fun i=>aq.bind ((b4 (m i)).aN z at_ p) fun y=>j i y) (fun _=>True) gh:=Ev.bind hE (fun _ q=>q) fun y _=>hj _ trivial
    have hG:Ev (fun i=>aq.br (x.Kind==14) (aq.br (x.je==0) (.ok p) (.ok p)) (.ok p)) (fun _=>True) gh:=Ev.br (fun _=>Ev.br (fun _=>Ev.ok trivial) (fun _=>Ev.ok trivial)) (fun _=>Ev.ok trivial)
    refine Ev.br (fun _=>Ev.br (fun _=>Ev.br (fun _=>Ev.br (fun _=>hB) (fun _=>Ev.gd (by (first|omega|(simp[bA]<;>omega))) hB)) (fun _=>hB)) (fun _=>Ev.br (fun _=>Ev.br (fun _=>hB) (fun _=>Ev.gd (by (first|omega|(simp[bA]<;>omega))) hB)) (fun _=>hB)))
     (fun _=>Ev.br (fun _=>Ev.br (fun _=>hB) (fun _=>Ev.gd (by (first|omega|(simp[bA]<;>omega))) hB)) (fun _=>hB))
   ·exact Ev.bind (tc ih hm hld fun d hd=>⟨he.d d hd,by have:=yj hd;omega⟩) (fun _ q=>q) fun y _=>Ev.ok trivial
  ·intro m x t l p hm he hN
   have hls:=he.l1
   have hlb:=he.l2
   have hlt:=he.l3
   refine Ev.grow (F:=fun n=>eL n x t l p) hm fun m hm=>?_
   show Ev (fun i=>hP (m i) (b4 (m i)) x t l p) _ _
   unfold hP
   refine Ev.jn (fun _=>True) (fun v _=>?_) (fun j hj=>Ev.aU (fun _=>hj _ trivial) (fun _=>hj _ trivial))
   refine Ev.jn (fun _=>True) (fun v _=>?_) (fun j hj=>Ev.bk (fun _=>hj _ trivial) (fun _=>hj _ trivial))
   refine Ev.jn (fun _=>True) (fun v _=>?_) (fun j hj=>Ev.aU (fun _=>Ev.bind (dt hm (by simp)) (fun _ q=>q) fun y _=>hj _ trivial) (fun _=>Ev.bind (dt hm (by simp)) (fun _ q=>q) fun y _=>hj _ trivial))
   refine Ev.jn (fun _=>True) (fun v _=>?_) (fun j hj=>?_)
   ·refine Ev.jn (fun _=>True) (fun v _=>?_) (fun j hj=>?_)
    ·refine Ev.jn (fun _=>True) (fun v _=>?_) (fun j hj=>?_)
     ·refine Ev.jn (fun _=>True) (fun v _=>?_) (fun j hj=>?_)
      ·refine Ev.jn (fun _=>True) (fun v _=>?_) (fun j hj=>Ev.br (fun _=>hj _ trivial) (fun _=>Ev.br (fun _=>hj _ trivial) (fun _=>hj _ trivial)))
       refine Ev.bind (dt hm (by simp)) (fun _ q=>q) fun y _=>?_
       refine Ev.jn (fun _=>True) (fun v _=>?_) (fun j hj=>Ev.br (fun _=>hj _ trivial) (fun _=>Ev.br (fun _=>hj _ trivial) (fun _=>Ev.br (fun _=>hj _ trivial) (fun _=>hj _ trivial))))
       refine Ev.iter hm (fun (w:al×Int)=>0≤w.2∧w.2≤x.aW.length) (fun w=>(x.aW.length - w.2).toNat) (by simp) ?_
       intro w hw next hn
       refine Ev.aU (fun _=>?_) (fun _=>?_)
       ·refine Ev.el (by omega) (by omega) fun z hz=>?_
        have hzm:=List.mem_of_getElem? hz
        have hsz:=BG hzm
        have hB:∀ {at_:aP} {p:al},Ev (fun i=>aq.bind ((b4 (m i)).aN z at_ p) fun y=>aq.gd (bA (w.2+1)) (next i (y,w.2+1))) (fun _=>True) gh:=
         Ev.bind (ih.e hm (he.s z hzm) (by omega)) (fun _ q=>q) fun y _=>Ev.gd (by (first|omega|(simp[bA]<;>omega))) (hn _ (by dsimp only;omega) (by dsimp only;omega))
        exact Ev.br (fun _=>Ev.br (fun _=>hB) (fun _=>hB)) (fun _=>hB)
       ·exact Ev.bind (tc ih hm hlb fun d hd=>⟨he.d d hd,by have:=BH hd;omega⟩) (fun _ q=>q) fun y _=>Ev.ok trivial
      ·exact Ev.br (fun _=>Ev.bind (vN hm) (fun _ q=>q) fun y _=>Ev.bind (dt hm (by simp)) (fun _ q=>q) fun y _=>hj _ trivial) (fun _=>Ev.bind wR (fun _ q=>q) fun y _=>Ev.bind (dt hm (by simp)) (fun _ q=>q) fun y _=>hj _ trivial)
     ·refine Ev.br (fun _=>hj _ trivial) (fun _=>Ev.br (fun _=>Ev.bind (rh hm) (fun _ q=>q) fun y _=>Ev.bind (dt hm (by simp)) (fun _ q=>q) fun y _=>hj _ trivial) (fun _=>?_))
      refine Ev.br (fun _=>Ev.bind (fR hm) (fun _ q=>q) fun y _=>Ev.bind (dt hm (by simp)) (fun _ q=>q) fun y _=>hj _ trivial) (fun _=>?_)
      exact Ev.br (fun _=>Ev.bind (dt hm (by simp)) (fun _ q=>q) fun y _=>hj _ trivial) (fun _=>Ev.bind (dt hm (by simp)) (fun _ q=>q) fun y _=>hj _ trivial)
    ·exact Ev.br (fun _=>Ev.aU (fun _=>Ev.bind (dt hm (by simp)) (fun _ q=>q) fun y _=>hj _ trivial) (fun _=>Ev.bind (dt hm (by simp)) (fun _ q=>q) fun y _=>hj _ trivial)) (fun _=>Ev.bind (dt hm (by simp)) (fun _ q=>q) fun y _=>hj _ trivial)
   ·refine Ev.bind (nK hm he.l5 he.l6) (fun _ q=>q) fun y _=>Ev.bind (nK hm hlt he.l4) (fun _ q=>q) fun y _=>Ev.bind (nK hm (by simp) (by simpa using he.l7)) (fun _ q=>q) fun y _=>?_
    exact Ev.br (fun _=>Ev.bind (dt hm (by simp)) (fun _ q=>q) fun y _=>hj _ trivial) (fun _=>Ev.gd (by (first|omega|(simp[bA]<;>omega))) (Ev.bind (dt hm (by simp)) (fun _ q=>q) fun y _=>hj _ trivial))
theorem xW {p:al}:Ev (fun _=>gw p) (fun _=>True) gh:=by
 unfold gw
 exact Ev.br (fun _=>Ev.ok trivial) (fun _=>Ev.br (fun _=>Ev.ok trivial) (fun _=>Ev.ok trivial))
theorem wU {m:Nat→Nat} (hm:bZ m) {e:aj} (he:gT e):Ev (fun i=>kl (m i) e) (fun _=>True) gh:=by
 unfold kl
 exact Ev.bind ((BY _).e hm he (Nat.lt_succ_self _)) (fun _ q=>q) fun y _=>Ev.bind xW (fun _ q=>q) fun y _=>Ev.ok trivial
end Go.Abs
end
section
namespace Go.Abs
open aq
section
variable {s:List UInt8} {T:List aK} {b:Int} {m:Nat→Nat} {a:Int} {k:Bool} {q:Option aj}
structure F8 (f:gJ):Prop where
 im:f.eT.length≤70000
 dl:f.Decls.length≤70000
 ds:∀ d,d∈f.Decls→kR d
 tl:f.cd.length≤70000
 ts:∀ x,x∈f.cd→x.length≤65536
end
theorem BZ {m:Nat→Nat} (hm:bZ m) {f:gJ} (hf:F8 f):Ev (fun i=>nc (m i) f) (fun _=>True) gh:=by
 unfold nc
 have hi:=hf.im
 refine Ev.jn (fun _=>True) (fun v _=>?_) (fun j hj=>?_)
 ·refine Ev.iter hm (fun (x:al×Int)=>0≤x.2∧x.2≤f.eT.length) (fun x=>(f.eT.length - x.2).toNat) (by simp) ?_
  intro x hx next hn
  refine Ev.aU (fun _=>?_) (fun _=>?_)
  ·refine Ev.el (by omega) (by omega) fun d hd=>Ev.bind (fR hm) (fun _ q=>q) fun y _=>Ev.bind (dt hm (by simp)) (fun _ q=>q) fun y _=>Ev.gd (by (first|omega|(simp[bA]<;>omega))) (hn _ (by dsimp only;omega) (by dsimp only;omega))
  ·exact Ev.bind (tc (BY (2*SizeOf.sizeOf f.Decls+1)) hm hf.dl fun d hd=>⟨hf.ds d hd,by have:=List.sizeOf_lt_of_mem hd;omega⟩) (fun _ q=>q) fun y _=>Ev.bind xW (fun _ q=>q) fun y _=>Ev.ok trivial
 ·refine Ev.br (fun _=>?_) (fun _=>?_)
  ·exact Ev.bind (nK hm hf.tl hf.ts) (fun _ q=>q) fun y _=>Ev.bind (dt hm (by simp)) (fun _ q=>q) fun y _=>hj _ trivial
  ·exact Ev.bind (fR hm) (fun _ q=>q) fun y _=>Ev.bind (nK hm hf.tl hf.ts) (fun _ q=>q) fun y _=>Ev.bind (dt hm (by simp)) (fun _ q=>q) fun y _=>hj _ trivial
end Go.Abs
end
section
namespace Go.Abs
open aq
theorem qc:∀ (p s:List UInt8),p.isPrefixOf s=(s.take p.length==p)
 | [],s=>by simp
 | a::p,[]=>by simp
 | a::p,b::s=>by
  rw[List.isPrefixOf_cons_cons,qc p s]
  simp only[List.length_cons,List.take_succ_cons]
  rw[Bool.eq_iff_iff]
  simp
  exact fun _=>⟨fun h=>h.symm,fun h=>h.symm⟩
theorem pT (s p:List UInt8):strings_HasPrefix s p=.ok (p.isPrefixOf s):=by
 unfold strings_HasPrefix stringslite_HasPrefix
 rw[qc]
 by_cases h:p.length≤s.length
 ·have e:decide ((s.length:Int)≥(p.length:Int))=true:=by simp;omega
  rw[e]
  simp only[aq.br,aq.gd]
  rw[if_pos ⟨by omega,by omega⟩]
  simp[aq.bind,jJ]
 ·have e:decide ((s.length:Int)≥(p.length:Int))=false:=by simp;omega
  rw[e]
  simp only[aq.br,aq.bind]
  congr 1
  symm
  apply beq_eq_false_iff_ne.2
  intro q
  have:=congrArg List.length q
  simp at this;omega
theorem uX {α X:Type} (body:(X→aq α)→X→aq α) (n:Nat) (x:X):aq.iter body (n+1) x=body (aq.iter body n) x:=rfl
section
variable {s:List UInt8} {n:Nat}
theorem EF:jZ (n+2) (120::58::s)=.ok 1:=by
 unfold jZ
 simp[uX,aq.jn,aq.br,aq.el,aq.bind,aq.gd,bA,jq,gv,show (0:Int)<s.length+1+1 by omega,show (1:Int)<s.length+1+1 by omega]
theorem EG:jZ (n+1) (58::s)=.ok 0:=by
 unfold jZ
 simp[uX,aq.jn,aq.br,aq.el,aq.bind,aq.gd,bA,jq,gv,show (0:Int)<s.length+1 by omega]
theorem yu:iU (n+20) (58::s)=.ok [58]:=by
 unfold iU
 simp only[pT]
 rfl
def tX:aK:=⟨1,[120],0,1⟩
def tC:aK:=⟨5,[58],1,2⟩
theorem EH:de (n+20) ⟨120::58::32::s,0,[],false⟩=.ok (true,⟨120::58::32::s,1,[tX],true⟩):=by
 unfold de
 have e:dO (120::58::32::s) 0=120::58::32::s:=rfl
 simp only[e,pT,EF]
 simp[aq.br,aq.bind,aq.gd,bJ,bA,cB,maxLen,aq.jn,jJ,tX,List.isPrefixOf,show (0:Int)≤s.length+1+1+1 by omega,show (1:Int)≤s.length+1+1+1 by omega]
theorem EI:de (n+20) ⟨120::58::32::s,1,[tX],true⟩=.ok (true,⟨120::58::32::s,2,[tX,tC],false⟩):=by
 unfold de
 have e:dO (120::58::32::s) 1=58::32::s:=rfl
 simp only[e,pT,EG,yu]
 simp[aq.br,aq.bind,aq.gd,aq.el,gv,bJ,bA,cB,cM,maxLen,aq.jn,tX,tC,List.isPrefixOf,show (1:Int)≤s.length+1+1+1 by omega]
 rfl
def qd (n:Nat) (p0:List UInt8):(bm→aq (List aK×eb))→bm→aq (List aK×eb):=
 fun next10 (v9:bm)=>br (decide (v9.at_<(List.length p0:Int))) (el p0 v9.at_ fun b16=>jn (fun (_:Unit)=>gd (bA (v9.at_+1)) (next10 ((bm.mk v9.text (v9.at_+1) v9.out v9.line)))) fun j22=>br ((b16.toNat:Int)==10) (br v9.line (aq.bind (bJ 7 ([10]:List UInt8) 1 v9) fun y34=>next10 ((bm.mk y34.text y34.at_ y34.out false))) (j22 ())) (br ((b16.toNat:Int)==32) (j22 ()) (br ((b16.toNat:Int)==9) (j22 ()) (br ((b16.toNat:Int)==13) (j22 ()) (aq.bind (de n v9) fun y44=>br (!y44.1) (.ok ([],(eb.mk 8 y44.2.at_))) (next10 (y44.2))))))) (aq.bind (bJ 0 ([]:List UInt8) 0 v9) fun y48=>.ok (y48.out,(eb.mk 0 0)))
theorem zP (n:Nat) (s:List UInt8):gD n s=aq.br (decide ((s.length:Int)>65536)) (.ok ([],eb.mk 2 0)) (aq.iter (qd n s) n ⟨s,0,[],false⟩):=rfl
theorem As (j m:Nat):aq.iter (qd (m+20) (120::58::32::s)) (j+3) ⟨120::58::32::s,0,[],false⟩=aq.iter (qd (m+20) (120::58::32::s)) j ⟨120::58::32::s,3,[tX,tC],false⟩:=by
 have e1:(0:Int)<s.length+1+1+1:=by omega
 have e2:(1:Int)<s.length+1+1+1:=by omega
 have e3:(2:Int)<s.length+1+1+1:=by omega
 have r1:∀ next,qd (m+20) (120::58::32::s) next ⟨120::58::32::s,0,[],false⟩=next ⟨120::58::32::s,1,[tX],true⟩:=fun next=>by
  unfold qd
  simp only[EH]
  simp[aq.br,aq.el,aq.jn,aq.bind,e1]
 have r2:∀ next,qd (m+20) (120::58::32::s) next ⟨120::58::32::s,1,[tX],true⟩=next ⟨120::58::32::s,2,[tX,tC],false⟩:=fun next=>by
  unfold qd
  simp only[EI]
  simp[aq.br,aq.el,aq.jn,aq.bind,e2]
 have r3:∀ next,qd (m+20) (120::58::32::s) next ⟨120::58::32::s,2,[tX,tC],false⟩=next ⟨120::58::32::s,3,[tX,tC],false⟩:=fun next=>by
  unfold qd
  simp[aq.br,aq.el,aq.jn,aq.gd,bA,e3]
 rw[uX,r1,uX,r2,uX,r3]
theorem Dh {pre:List UInt8} {pt:List aK} {m:Nat} (k k':Nat) {x:bm} (hx:x.text=s) :
  RS (fun a b=>a.2.Errno=0→b.2.Errno=0∧b.1=pt++a.1.map (zO pre.length)) (aq.iter (qd m s) k x) (aq.iter (qd m (pre++s)) k' (yq pre pt x)):=by
 refine RS.iter (fun x y=>y=yq pre pt x∧x.text=s) (fun x y h next next' hn=>?_) k k' ⟨rfl,hx⟩
 obtain ⟨rfl,hx⟩:=h
 unfold qd
 simp only[yr,BX]
 refine RS.br (decide_eq_decide.2 (by simp;omega)) (fun _=>?_) (fun _=>RS.bind uW fun r r' h=>RS.ok fun _=>⟨rfl,by rw[h.1];rfl⟩)
 refine RS.el fun b b' h1 _ hb hb'=>?_
 rw[show (x.at_+(pre.length:Int)).toNat=pre.length+x.at_.toNat by omega,List.getElem?_append_right (by omega),Nat.add_sub_cancel_left,hb] at hb'
 cases hb'
 refine RS.jn (fun _ _=>True) (fun _ _ _=>RS.gd fun _ _=>hn _ _ ⟨?_,hx⟩) (fun j j' hj=>?_)
 ·simp[yq];omega
 have hj:=hj () () trivial
 refine RS.br rfl (fun _=>RS.br rfl (fun _=>RS.bind uW fun r r' h=>hn _ _ ?_) (fun _=>hj)) (fun _=>RS.br rfl (fun _=>hj) (fun _=>RS.br rfl (fun _=>hj) (fun _=>RS.br rfl (fun _=>hj) (fun _=>RS.bind De fun r r' h=>?_))))
 ·rw[h.1]
  exact ⟨rfl,h.2.trans hx⟩
 ·rw[h.1]
  refine RS.br rfl (fun _=>RS.ok fun h=>by cases h) (fun _=>hn _ _ ⟨h.2.1,h.2.2.trans hx⟩)
theorem EJ {T:List aK} {F:eb} (hL:∃ N,∀ i,N≤i→gD i s=.ok (T,F)) (hF:F.Errno=0) (hs:s.length≤60000) :
  Ev (fun i=>gD i (120::58::32::s)) (fun r=>r.2.Errno=0∧r.1=tX::tC::T.map (zO 3)∧Et (120::58::32::s) r.1) gh:=by
 obtain ⟨r,hr,N2,hN2⟩:=oB bZ.id (s:=120::58::32::s)
 obtain ⟨N,hN⟩:=hL
 have h1:=hN (N+N2+20) (by omega)
 have h2:=hN2 (N+N2+20) (by omega)
 dsimp only at h2
 have h3:RS (fun a b=>a.2.Errno=0→b.2.Errno=0∧b.1=[tX,tC]++a.1.map (zO 3)) (gD (N+N2+20) s) (gD (N+N2+20) (120::58::32::s)):=by
  rw[zP,zP]
  refine RS.F4 (fun h=>by simp at h;omega) (fun _=>RS.F5 (fun h=>by simp at h;omega) (fun _=>?_))
  rw[show N+N2+20=(N+N2+17)+3 by omega,As]
  exact Dh (pre:=[120,58,32]) (pt:=[tX,tC]) _ _ rfl
 rcases h3 _ h1 with q|⟨b,q,hb⟩
 ·rw[q] at h2;subst h2;exact hr.elim
 ·rw[q] at h2;subst h2
  obtain ⟨hb1,hb2⟩:=hb hF
  exact ⟨.ok b,⟨hb1,hb2,(hr.2.2 hb1).2⟩,N2,hN2⟩
end
end Go.Abs
end
section
namespace Go.Abs
open Go.Proofs aq
structure fG where
 en:(List ax)→(List ax)→aq (Bool)
 dK:aj→aj→aq (Bool)
def gb (n:Nat) (T:fG) (p0:(List ax)) (p1:(List ax)):aq (Bool):=
 br ((List.length p0:Int) !=(List.length p1:Int)) (.ok (false)) (iter (fun next9 (v8:Int)=>br (decide (v8<(List.length p0:Int))) (el p0 v8 fun tb=>el p1 v8 fun x21=>br (tb.Kind !=x21.Kind) (.ok (false)) (br (tb.ca !=x21.ca) (.ok (false)) (br (tb.Label !=x21.Label) (.ok (false)) (br (!((tb.bf==x21.bf)&&(tb.bj==x21.bj))) (.ok (false)) (br (tb.Trail !=x21.Trail) (.ok (false)) (br ((List.length tb.aW:Int) !=(List.length x21.aW:Int)) (.ok (false)) (aq.bind (hZ n tb.jk x21.jk) fun y41=>br (!y41) (.ok (false)) (aq.bind (hZ n tb.cd x21.cd) fun y44=>br (!y44) (.ok (false)) (aq.bind (T.en tb.Body x21.Body) fun y47=>br (!y47) (.ok (false)) (iter (fun next52 (v51:Int)=>br (decide (v51<(List.length tb.aW:Int))) (el tb.aW v51 fun x60=>el x21.aW v51 fun x64=>aq.bind (T.dK x60 x64) fun y68=>br (!y68) (.ok (false)) (gd (bA (v51+1)) (next52 (v51+1)))) (gd (bA (v8+1)) (next9 (v8+1)))) n (0))))))))))) (.ok (true))) n (0))
def jN (n:Nat) (T:fG) (p0:aj) (p1:aj):aq (Bool):=
 br (p0.Kind !=p1.Kind) (.ok (false)) (br (p0.Text !=p1.Text) (.ok (false)) (br (p0.je !=p1.je) (.ok (false)) (br (!((p0.bf==p1.bf)&&(p0.bj==p1.bj))) (.ok (false)) (br ((List.length p0.aW:Int) !=(List.length p1.aW:Int)) (.ok (false)) (aq.bind (hZ n p0.cd p1.cd) fun y14=>br (!y14) (.ok (false)) (iter (fun next20 (v19:Int)=>br (decide (v19<(List.length p0.aW:Int))) (el p0.aW v19 fun x28=>el p1.aW v19 fun x32=>aq.bind (T.dK x28 x32) fun y36=>br (!y36) (.ok (false)) (gd (bA (v19+1)) (next20 (v19+1)))) (aq.bind (T.en p0.Decls p1.Decls) fun y41=>.ok (y41))) n (0)))))))
def dU:Nat→fG
 | 0=>⟨fun _ _=>.stuck,fun _ _=>.stuck⟩
 | n+1=>⟨gb n (dU n),jN n (dU n)⟩
def en (n:Nat) (p0:(List ax)) (p1:(List ax)):aq (Bool):=(dU n).en p0 p1
def dK (n:Nat) (p0:aj) (p1:aj):aq (Bool):=(dU n).dK p0 p1
structure jv (T:fG):Prop where
 en:∀ (p0:(List ax)) (p1:(List ax)),CT Tryz.prog 52 [.pv (.sl (List.length p0) (ax.Cs p0)),.pv (.sl (List.length p1) (ax.Cs p1))] [] (T.en p0 p1) (fun x=>Bo x) (fun _=>[])
 dK:∀ (p0:aj) (p1:aj),CT Tryz.prog 23 [.agg (aX p0),.agg (aX p1)] [] (T.dK p0 p1) (fun x=>Bo x) (fun _=>[])
theorem rG (n:Nat) (T:fG) (hT:jv T) (p0:(List ax)) (p1:(List ax)):CT Tryz.prog 52 [.pv (.sl (List.length p0) (ax.Cs p0)),.pv (.sl (List.length p1) (ax.Cs p1))] [] (gb n T p0 p1) (fun x=>Bo x) (fun _=>[]):=by
 refine zC Tryz.func52 rfl fun r hp h hr E hE=>ag fun _ hK1=>aa (za rfl (zQ hK1 (ag fun _ hK2=>ag fun _ hK3=>aa (zm rfl (an (cg rfl) rfl (zm rfl (an (cg rfl) rfl (zc rfl (zQ hK3 (zB rfl h (fun _ h=>?_) fun _ h=>?_))))))))))
 · exact ag fun _ hK5=>aa (za rfl (zQ hK5 (aw (zX (.cons (ay rfl) .nil) h rfl))))
 · refine ar (hK2 _ _ (ag fun _ hK6=>ag fun _ hK7=>aa (zm rfl (an (cg rfl) rfl (zm rfl (zQ hK7 (aC (zL hr h (fun (v8:Int)=>[(0,.pv (.sl (List.length p0) (ax.Cs p0))),(1,.pv (.sl (List.length p1) (ax.Cs p1))),(15,I (List.length p0:Int)),(16,I v8)]) (fun (v8:Int)=>[]) rfl fun _ v8 _ hK10 h=>ag fun _ hK11=>aa (zc rfl (zQ hK11 (ag fun _ hK12=>zB rfl h (fun _ h=>?_) fun _ h=>?_)))))))))))
   · refine ar (hK12 _ _ (ag fun _ hK14=>aC (ag fun _ hK15=>aa (zm rfl (za rfl (zQ hK15 (ag fun _ hK16=>bz [0,1,2,3,4,5,6,7,8,9,10,11] rfl (by kernel_rfl) (zD rfl (au rfl) rfl (zD rfl (au rfl) rfl (ze hr h fun tb h18 h19 h20 h=>zD rfl (gx ax.bb ax.bP h18 h19 h20 rfl rfl rfl) rfl (zD rfl (gN rfl rfl) rfl ?_)))))))))))
     refine zD rfl (au rfl) rfl (zD rfl (au rfl) rfl (ze hr h fun x21 h22 h23 h24 h=>zD rfl (gx ax.bb ax.bP h22 h23 h24 rfl rfl rfl) rfl (zD rfl (gN rfl rfl) rfl ?_)))
     refine sr rfl (bM rfl) 106 (hE _ rfl) ⟨rfl,rfl,rfl,rfl,rfl⟩ ⟨rfl,rfl,rfl,rfl⟩ ?_
     refine sr rfl (bM rfl) 107 (hE _ rfl) ⟨rfl,rfl,rfl,rfl,rfl⟩ ⟨rfl,rfl,rfl,rfl⟩ ?_
     refine rp rfl ⟨rfl,rfl,rfl,rfl,rfl,rfl,rfl,rfl⟩ rfl (fun e10 he=>⟨aH rfl,?_⟩)
     subst he
     refine rp rfl ⟨rfl,rfl,rfl,rfl,rfl,rfl,rfl,rfl⟩ rfl (fun e11 he=>⟨aH rfl,?_⟩)
     subst he
     refine cr (hK16 _ _ (ag fun _ hK25=>ag fun _ hK26=>aa (zf rfl (zl rfl (zf rfl (zl rfl (zc rfl (zm rfl (zb (tb.Kind !=x21.Kind) (fun hb27=>?_) fun hb27=>?_)))))))))
     · refine z1 hb27 h fun h=>zg hb27 rfl (zg hb27 rfl (zg hb27 rfl (zg hb27 rfl (zg hb27 rfl (zy hb27 rfl (zm rfl (zg rfl rfl (zg rfl rfl (zg rfl rfl (zg rfl rfl (zg rfl rfl (zt rfl (zm rfl (zg rfl rfl (zg rfl rfl (zg rfl rfl (zg rfl rfl (zg rfl rfl (zt rfl (zm rfl (zg rfl rfl (zg rfl rfl (zg rfl rfl ?_)))))))))))))))))))))))
       refine zg rfl rfl (zg rfl rfl (zt rfl (zm rfl (zg rfl rfl (zg rfl rfl (zg rfl rfl (zg rfl rfl (zg rfl rfl (zg rfl rfl (zg rfl rfl (zt rfl (zQ hK26 (cN rfl (fun hc=>?_) (fun hc=>?_))))))))))))))
       · exact ag fun _ hK28=>aa (za rfl (zQ hK28 (aw (zX (.cons (ay rfl) .nil) h rfl))))
       · exact absurd (hc) (by simp)
     · refine z2 hb27 h fun h=>zG hb27 rfl (bD rfl) (zG hb27 rfl (ba rfl rfl rfl) (zG hb27 rfl (bD rfl) (zG hb27 rfl (ba rfl rfl rfl) (zG hb27 rfl (bg rfl rfl rfl) (zw hb27 rfl (zm rfl (zb (tb.ca !=x21.ca) (fun hb29=>?_) fun hb29=>?_)))))))
       · refine z1 hb29 h fun h=>zg hb29 rfl (zg hb29 rfl (zg hb29 rfl (zg hb29 rfl (zg hb29 rfl (zy hb29 rfl (zm rfl (zg rfl rfl (zg rfl rfl (zg rfl rfl (zg rfl rfl (zg rfl rfl (zt rfl (zm rfl (zg rfl rfl (zg rfl rfl (zg rfl rfl (zg rfl rfl (zg rfl rfl (zt rfl (zm rfl (zg rfl rfl (zg rfl rfl (zg rfl rfl ?_)))))))))))))))))))))))
         refine zg rfl rfl (zg rfl rfl (zg rfl rfl (zg rfl rfl (zt rfl (zQ hK26 (cN rfl (fun hc=>?_) (fun hc=>?_)))))))
         · exact ag fun _ hK30=>aa (za rfl (zQ hK30 (aw (zX (.cons (ay rfl) .nil) h rfl))))
         · exact absurd (hc) (by simp)
       · refine z2 hb29 h fun h=>zG hb29 rfl (bD rfl) (zG hb29 rfl (ba rfl rfl rfl) (zG hb29 rfl (bD rfl) (zG hb29 rfl (ba rfl rfl rfl) (zG hb29 rfl (tp rfl rfl) (zw hb29 rfl (zm rfl (zb (tb.Label !=x21.Label) (fun hb31=>?_) fun hb31=>?_)))))))
         · refine z1 hb31 h fun h=>zg hb31 rfl (zg hb31 rfl (zg hb31 rfl (zg hb31 rfl (zg hb31 rfl (zy hb31 rfl (zm rfl (zg rfl rfl (zg rfl rfl (zg rfl rfl (zg rfl rfl (zg rfl rfl (zt rfl (zm rfl (zg rfl rfl (zg rfl rfl (zg rfl rfl (zg rfl rfl (zg rfl rfl (zg rfl rfl (zg rfl rfl (zt rfl (zQ hK26 (cN rfl (fun hc=>?_) (fun hc=>?_))))))))))))))))))))))))
           · exact ag fun _ hK32=>aa (za rfl (zQ hK32 (aw (zX (.cons (ay rfl) .nil) h rfl))))
           · exact absurd (hc) (by simp)
         · refine z2 hb31 h fun h=>zG hb31 rfl (bD rfl) (zG hb31 rfl (jy rfl rfl rfl rfl) ?_)
           refine zG hb31 rfl (bD rfl) (zG hb31 rfl (jy rfl rfl rfl rfl) ?_)
           refine zG hb31 rfl (BD rfl rfl) (zw hb31 rfl (zm rfl (zb (!((tb.bf==x21.bf)&&(tb.bj==x21.bj))) (fun hb33=>?_) fun hb33=>?_)))
           · refine z1 hb33 h fun h=>zg hb33 rfl (zg hb33 rfl (zg hb33 rfl (zg hb33 rfl (zg hb33 rfl (zy hb33 rfl (zm rfl (zg rfl rfl (zg rfl rfl (zg rfl rfl (zg rfl rfl (zg rfl rfl (zg rfl rfl (zg rfl rfl (zt rfl (zQ hK26 (cN rfl (fun hc=>?_) (fun hc=>?_)))))))))))))))))
             · exact ag fun _ hK34=>aa (za rfl (zQ hK34 (aw (zX (.cons (ay rfl) .nil) h rfl))))
             · exact absurd (hc) (by simp)
           · refine z2 hb33 h fun h=>zG hb33 rfl (bD rfl) (zG hb33 rfl (ba rfl rfl rfl) (zG hb33 rfl (bD rfl) (zG hb33 rfl (ba rfl rfl rfl) (zG hb33 rfl (tp rfl rfl) (zw hb33 rfl (zm rfl (zb (tb.Trail !=x21.Trail) (fun hb35=>?_) fun hb35=>?_)))))))
             · refine z1 hb35 h fun h=>zg hb35 rfl (zg hb35 rfl (zg hb35 rfl (zg hb35 rfl (zg hb35 rfl (zg hb35 rfl (zg hb35 rfl (zy hb35 rfl (zQ hK26 (cN rfl (fun hc=>?_) (fun hc=>?_))))))))))
               · exact ag fun _ hK36=>aa (za rfl (zQ hK36 (aw (zX (.cons (ay rfl) .nil) h rfl))))
               · exact absurd (hc) (by simp)
             · refine z2 hb35 h fun h=>zG hb35 rfl (bD rfl) (zG hb35 rfl (ba rfl rfl rfl) (zG hb35 rfl (cg rfl) (zG hb35 rfl (bD rfl) (zG hb35 rfl (ba rfl rfl rfl) (zG hb35 rfl (cg rfl) (zG hb35 rfl (bg rfl rfl rfl) (zw hb35 rfl (zQ hK26 (zB rfl h (fun _ h=>?_) fun _ h=>?_)))))))))
               · exact ag fun _ hK38=>aa (za rfl (zQ hK38 (aw (zX (.cons (ay rfl) .nil) h rfl))))
               · refine ar (hK25 _ _ (ag fun _ hK39=>ag fun _ hK40=>aa (zf rfl (zl rfl (zf rfl (zl rfl (zk hp hr h [] Tryz.call51 (lk n tb.jk x21.jk) rfl (fun _=>rfl) fun y41 h=>an (eG rfl) rfl (zm rfl (zb (!y41) (fun hb42=>?_) fun hb42=>?_)))))))))
                 · refine z1 hb42 h fun h=>zg hb42 rfl (zg hb42 rfl (zg hb42 rfl (zg hb42 rfl (zg hb42 rfl (zg hb42 rfl (zy hb42 rfl (zm rfl (zg rfl rfl (zg rfl rfl (zg rfl rfl (zg rfl rfl (zg rfl rfl (zg rfl rfl (zt rfl (zQ hK40 (cN rfl (fun hc=>?_) (fun hc=>?_)))))))))))))))))
                   · exact ag fun _ hK43=>aa (za rfl (zQ hK43 (aw (zX (.cons (ay rfl) .nil) h rfl))))
                   · exact absurd (hc) (by simp)
                 · refine z2 hb42 h fun h=>zG hb42 rfl (bD rfl) (zG hb42 rfl (ba rfl rfl rfl) (zG hb42 rfl (bD rfl) (zG hb42 rfl (ba rfl rfl rfl) (zK hb42 rfl hp hr h [] Tryz.call51 (lk n tb.cd x21.cd) rfl (fun _=>rfl) fun y44 h=>zG hb42 rfl (eG rfl) (zw hb42 rfl (zm rfl (zb (!y44) (fun hb45=>?_) fun hb45=>?_)))))))
                   · refine z1 hb45 h fun h=>zg hb45 rfl (zg hb45 rfl (zg hb45 rfl (zg hb45 rfl (zg hb45 rfl (zg hb45 rfl (zy hb45 rfl (zQ hK40 (cN rfl (fun hc=>?_) (fun hc=>?_)))))))))
                     · exact ag fun _ hK46=>aa (za rfl (zQ hK46 (aw (zX (.cons (ay rfl) .nil) h rfl))))
                     · exact absurd (hc) (by simp)
                   · refine z2 hb45 h fun h=>zG hb45 rfl (bD rfl) (zG hb45 rfl (ba rfl rfl rfl) (zG hb45 rfl (bD rfl) (zG hb45 rfl (ba rfl rfl rfl) (zK hb45 rfl hp hr h [] Tryz.call52 (hT.en tb.Body x21.Body) rfl (fun _=>rfl) fun y47 h=>zG hb45 rfl (eG rfl) (zw hb45 rfl (zQ hK40 (zB rfl h (fun _ h=>?_) fun _ h=>?_)))))))
                     · exact ag fun _ hK49=>aa (za rfl (zQ hK49 (aw (zX (.cons (ay rfl) .nil) h rfl))))
                     · refine ar (hK39 _ _ (ag fun _ hK50=>aa (zf rfl (zl rfl (an (cg rfl) rfl (zm rfl (zQ hK50 (aC (zL hr h (fun (v51:Int)=>[(0,.pv (.sl (List.length p0) (ax.Cs p0))),(1,.pv (.sl (List.length p1) (ax.Cs p1))),(6,.ptr 106 0),(7,.ptr 107 0),(15,I (List.length p0:Int)),(16,I v8),(93,I (List.length tb.aW:Int)),(94,I v51)]) (fun (v51:Int)=>[(106,.box (dp tb)),(107,.box (dp x21))]) rfl fun _ v51 _ hK53 h=>ag fun _ hK54=>aa (zc rfl (zQ hK54 (ag fun _ hK55=>zB rfl h (fun _ h=>?_) fun _ h=>?_))))))))))))
                       · refine ar (hK55 _ _ (ag fun _ hK57=>aC (ag fun _ hK58=>aa (zm rfl (za rfl (zQ hK58 (ag fun _ hK59=>bz [0,1,2,3,4,5,6,7,8,9,10,11] rfl (by kernel_rfl) (zD rfl (bD rfl) rfl (zD rfl (ba rfl rfl rfl) rfl (zD rfl (au rfl) rfl (ze hr h fun x60 h61 h62 h63 h=>zD rfl (gx aj.bb aj.bP h61 h62 h63 rfl rfl rfl) rfl (zD rfl (gN rfl rfl) rfl ?_))))))))))))
                         refine zD rfl (bD rfl) rfl (zD rfl (ba rfl rfl rfl) rfl (zD rfl (au rfl) rfl (ze hr h fun x64 h65 h66 h67 h=>zD rfl (gx aj.bb aj.bP h65 h66 h67 rfl rfl rfl) rfl (zD rfl (gN rfl rfl) rfl ?_))))
                         refine du rfl (bM rfl) hr h [] Tryz.call23 (hT.dK x60 x64) ⟨rfl,rfl,rfl,rfl,rfl,rfl,trivial⟩ rfl rfl (fun _=>⟨rfl,rfl,rfl⟩) (fun _=>⟨rfl,rfl⟩) hp (fun y68 h=>⟨aH rfl,?_⟩)
                         refine zD rfl (eG rfl) rfl (cr (hK59 _ _ (zB rfl h (fun _ h=>?_) fun _ h=>?_)))
                         · exact ag fun _ hK70=>aa (za rfl (zQ hK70 (aw (zX (.cons (ay rfl) .nil) h rfl))))
                         · exact ar (hK57 _ _ (aa (zd hr h fun hg71 h=>zo hg71 rfl (zm rfl (ao (hK53 _ _ _ h rfl))))))
                       · exact bp (hK14 _ _ (aa (zd hr h fun hg72 h=>zo hg72 rfl (zm rfl (ao (hK10 _ _ _ h rfl))))))
   · exact bp (hK6 _ _ (ag fun _ hK73=>aa (za rfl (zQ hK73 (aw (zX (.cons (ay rfl) .nil) h rfl))))))
theorem se (n:Nat) (T:fG) (hT:jv T) (p0:aj) (p1:aj):CT Tryz.prog 23 [.agg (aX p0),.agg (aX p1)] [] (jN n T p0 p1) (fun x=>Bo x) (fun _=>[]):=by
 refine zC Tryz.func23 rfl fun r hp h hr E hE=>ag fun _ hK1=>aa (dP 102 (hE _ rfl) ⟨rfl,rfl,rfl,rfl,rfl,rfl,rfl⟩ rfl ?_)
 refine dP 103 (hE _ rfl) ⟨rfl,rfl,rfl,rfl,rfl,rfl,rfl⟩ rfl ?_
 refine za rfl (zQ hK1 (ag fun _ hK2=>ag fun _ hK3=>aa (zf rfl (zl rfl (zf rfl (zl rfl (zc rfl (zm rfl (zb (p0.Kind !=p1.Kind) (fun hb4=>?_) fun hb4=>?_)))))))))
 · refine z1 hb4 h fun h=>zg hb4 rfl (zg hb4 rfl (zg hb4 rfl (zg hb4 rfl (zg hb4 rfl (zy hb4 rfl (zm rfl (zg rfl rfl (zg rfl rfl (zg rfl rfl (zg rfl rfl (zg rfl rfl (zt rfl (zm rfl (zg rfl rfl (zg rfl rfl (zg rfl rfl (zg rfl rfl (zg rfl rfl (zt rfl (zm rfl (zg rfl rfl (zg rfl rfl (zg rfl rfl ?_)))))))))))))))))))))))
   refine zg rfl rfl (zg rfl rfl (zg rfl rfl (zg rfl rfl (zt rfl (zm rfl (zg rfl rfl (zg rfl rfl (zg rfl rfl (zg rfl rfl (zg rfl rfl (zg rfl rfl (zt rfl (zQ hK3 (cN rfl (fun hc=>?_) (fun hc=>?_)))))))))))))))
   · exact ag fun _ hK5=>aa (za rfl (zQ hK5 (aw (zX (.cons (ay rfl) .nil) h rfl))))
   · exact absurd (hc) (by simp)
 · refine z2 hb4 h fun h=>zG hb4 rfl (bD rfl) (zG hb4 rfl (ba rfl rfl rfl) (zG hb4 rfl (bD rfl) (zG hb4 rfl (ba rfl rfl rfl) (zG hb4 rfl (tp rfl rfl) (zw hb4 rfl (zm rfl (zb (p0.Text !=p1.Text) (fun hb6=>?_) fun hb6=>?_)))))))
   · refine z1 hb6 h fun h=>zg hb6 rfl (zg hb6 rfl (zg hb6 rfl (zg hb6 rfl (zg hb6 rfl (zy hb6 rfl (zm rfl (zg rfl rfl (zg rfl rfl (zg rfl rfl (zg rfl rfl (zg rfl rfl (zt rfl (zm rfl (zg rfl rfl (zg rfl rfl (zg rfl rfl (zg rfl rfl (zg rfl rfl (zg rfl rfl (zg rfl rfl (zt rfl (zm rfl (zg rfl rfl ?_)))))))))))))))))))))))
     refine zg rfl rfl (zg rfl rfl (zg rfl rfl (zg rfl rfl (zg rfl rfl (zt rfl (zQ hK3 (cN rfl (fun hc=>?_) (fun hc=>?_))))))))
     · exact ag fun _ hK7=>aa (za rfl (zQ hK7 (aw (zX (.cons (ay rfl) .nil) h rfl))))
     · exact absurd (hc) (by simp)
   · refine z2 hb6 h fun h=>zG hb6 rfl (bD rfl) (zG hb6 rfl (ba rfl rfl rfl) (zG hb6 rfl (bD rfl) (zG hb6 rfl (ba rfl rfl rfl) (zG hb6 rfl (bg rfl rfl rfl) (zw hb6 rfl (zm rfl (zb (p0.je !=p1.je) (fun hb8=>?_) fun hb8=>?_)))))))
     · refine z1 hb8 h fun h=>zg hb8 rfl (zg hb8 rfl (zg hb8 rfl (zg hb8 rfl (zg hb8 rfl (zy hb8 rfl (zm rfl (zg rfl rfl (zg rfl rfl (zg rfl rfl (zg rfl rfl (zg rfl rfl (zg rfl rfl (zg rfl rfl (zt rfl (zm rfl (zg rfl rfl (zg rfl rfl (zg rfl rfl (zg rfl rfl (zg rfl rfl (zg rfl rfl (zt rfl (zQ hK3 ?_)))))))))))))))))))))))
       refine cN rfl (fun hc=>?_) (fun hc=>?_)
       · exact ag fun _ hK9=>aa (za rfl (zQ hK9 (aw (zX (.cons (ay rfl) .nil) h rfl))))
       · exact absurd (hc) (by simp)
     · refine z2 hb8 h fun h=>zG hb8 rfl (bD rfl) (zG hb8 rfl (jy rfl rfl rfl rfl) ?_)
       refine zG hb8 rfl (bD rfl) (zG hb8 rfl (jy rfl rfl rfl rfl) ?_)
       refine zG hb8 rfl (BD rfl rfl) (zw hb8 rfl (zm rfl (zb (!((p0.bf==p1.bf)&&(p0.bj==p1.bj))) (fun hb10=>?_) fun hb10=>?_)))
       · refine z1 hb10 h fun h=>zg hb10 rfl (zg hb10 rfl (zg hb10 rfl (zg hb10 rfl (zg hb10 rfl (zg hb10 rfl (zg hb10 rfl (zy hb10 rfl (zm rfl (zg rfl rfl (zg rfl rfl (zg rfl rfl (zg rfl rfl (zg rfl rfl (zg rfl rfl (zt rfl (zQ hK3 (cN rfl (fun hc=>?_) (fun hc=>?_))))))))))))))))))
         · exact ag fun _ hK11=>aa (za rfl (zQ hK11 (aw (zX (.cons (ay rfl) .nil) h rfl))))
         · exact absurd (hc) (by simp)
       · refine z2 hb10 h fun h=>zG hb10 rfl (bD rfl) (zG hb10 rfl (ba rfl rfl rfl) (zG hb10 rfl (cg rfl) (zG hb10 rfl (bD rfl) (zG hb10 rfl (ba rfl rfl rfl) (zG hb10 rfl (cg rfl) (zG hb10 rfl (bg rfl rfl rfl) (zw hb10 rfl (zm rfl (zb ((List.length p0.aW:Int) !=(List.length p1.aW:Int)) (fun hb12=>?_) fun hb12=>?_)))))))))
         · refine z1 hb12 h fun h=>zg hb12 rfl (zg hb12 rfl (zg hb12 rfl (zg hb12 rfl (zg hb12 rfl (zg hb12 rfl (zy hb12 rfl (zQ hK3 (cN rfl (fun hc=>?_) (fun hc=>?_)))))))))
           · exact ag fun _ hK13=>aa (za rfl (zQ hK13 (aw (zX (.cons (ay rfl) .nil) h rfl))))
           · exact absurd (hc) (by simp)
         · refine z2 hb12 h fun h=>zG hb12 rfl (bD rfl) (zG hb12 rfl (ba rfl rfl rfl) (zG hb12 rfl (bD rfl) (zG hb12 rfl (ba rfl rfl rfl) (zK hb12 rfl hp hr h [] Tryz.call51 (lk n p0.cd p1.cd) rfl (fun _=>rfl) fun y14 h=>zG hb12 rfl (eG rfl) (zw hb12 rfl (zQ hK3 (zB rfl h (fun _ h=>?_) fun _ h=>?_)))))))
           · exact ag fun _ hK16=>aa (za rfl (zQ hK16 (aw (zX (.cons (ay rfl) .nil) h rfl))))
           · refine ar (hK2 _ _ (ag fun _ hK17=>ag fun _ hK18=>aa (zf rfl (zl rfl (an (cg rfl) rfl (zm rfl (zQ hK18 (aC (zL hr h (fun (v19:Int)=>[(0,.agg (aX p0)),(1,.agg (aX p1)),(2,.ptr 102 0),(3,.ptr 103 0),(51,I (List.length p0.aW:Int)),(52,I v19)]) (fun (v19:Int)=>[(102,.box (aX p0)),(103,.box (aX p1))]) rfl fun _ v19 _ hK21 h=>ag fun _ hK22=>aa (zc rfl (zQ hK22 (ag fun _ hK23=>zB rfl h (fun _ h=>?_) fun _ h=>?_))))))))))))
             · refine ar (hK23 _ _ (ag fun _ hK25=>aC (ag fun _ hK26=>aa (zm rfl (za rfl (zQ hK26 (ag fun _ hK27=>bz [0,1,2,3,4,5,6,7,8,9,10,11] rfl (by kernel_rfl) (zD rfl (bD rfl) rfl (zD rfl (ba rfl rfl rfl) rfl (zD rfl (au rfl) rfl (ze hr h fun x28 h29 h30 h31 h=>zD rfl (gx aj.bb aj.bP h29 h30 h31 rfl rfl rfl) rfl (zD rfl (gN rfl rfl) rfl ?_))))))))))))
               refine zD rfl (bD rfl) rfl (zD rfl (ba rfl rfl rfl) rfl (zD rfl (au rfl) rfl (ze hr h fun x32 h33 h34 h35 h=>zD rfl (gx aj.bb aj.bP h33 h34 h35 rfl rfl rfl) rfl (zD rfl (gN rfl rfl) rfl ?_))))
               refine du rfl (bM rfl) hr h [] Tryz.call23 (hT.dK x28 x32) ⟨rfl,rfl,rfl,rfl,rfl,rfl,trivial⟩ rfl rfl (fun _=>⟨rfl,rfl,rfl⟩) (fun _=>⟨rfl,rfl⟩) hp (fun y36 h=>⟨aH rfl,?_⟩)
               refine zD rfl (eG rfl) rfl (cr (hK27 _ _ (zB rfl h (fun _ h=>?_) fun _ h=>?_)))
               · exact ag fun _ hK38=>aa (za rfl (zQ hK38 (aw (zX (.cons (ay rfl) .nil) h rfl))))
               · exact ar (hK25 _ _ (aa (zd hr h fun hg39 h=>zo hg39 rfl (zm rfl (ao (hK21 _ _ _ h rfl))))))
             · exact bp (hK17 _ _ (ag fun _ hK40=>aa (zf rfl (zl rfl (zf rfl (zl rfl (zk hp hr h [] Tryz.call52 (hT.en p0.Decls p1.Decls) rfl (fun _=>rfl) fun y41 h=>za rfl (zQ hK40 (aw (zX (.cons (ay rfl) .nil) h rfl))))))))))
theorem iD:∀ n,jv (dU n)
 | 0=>⟨fun _ _=>ch,fun _ _=>ch⟩
 | n+1=>⟨fun p0 p1=>rG n _ (iD n) p0 p1,fun p0 p1=>se n _ (iD n) p0 p1⟩
theorem sB (n:Nat) (p0:aj) (p1:aj):CT Tryz.prog 23 [.agg (aX p0),.agg (aX p1)] [] (dK n p0 p1) (fun x=>Bo x) (fun _=>[]):=(iD n).dK p0 p1
def jO (n:Nat) (p0:(List UInt8)):aq (Bool):=
 br (decide ((List.length p0:Int)>400)) (aq.bind (kb 64) fun y6=>.ok (y6)) (aq.bind (mj n p0) fun y8=>br (y8.2.Errno !=0) (aq.bind (kb 64) fun y13=>.ok (y13)) (gd (cM ([120,58,32]:List UInt8) p0) (aq.bind (jh n (([120,58,32]:List UInt8)++p0)) fun y16=>br (y16.2.Errno==9) (aq.bind (kb 64) fun y21=>.ok (y21)) (br (y16.2.Errno !=0) (.ok (false)) (br ((List.length y16.1.Decls:Int) !=1) (.ok (false)) (el y16.1.Decls 0 fun x28=>br ((List.length x28.aW:Int) !=1) (.ok (false)) (el y16.1.Decls 0 fun x35=>br (x35.Kind==1) (br (x35.Label==([120]:List UInt8)) (br (x35.ca==1) (el x35.aW 0 fun x43=>aq.bind (dK n x43 y8.1) fun y47=>br y47 (aq.bind (kb 64) fun y49=>.ok (y49)) (.ok (false))) (.ok (false))) (.ok (false))) (.ok (false)))))))))
theorem rH (n:Nat) (p0:(List UInt8)):CT Tryz.prog 8 [aY p0] [] (jO n p0) (fun x=>Bo x) (fun _=>[]):=by
 refine zC Tryz.func8 rfl fun r hp h hr E hE=>ag fun _ hK1=>aa (za rfl (zQ hK1 (ag fun _ hK2=>ag fun _ hK3=>aa (zm rfl (an (cX rfl) rfl (zc rfl (zQ hK3 (zB rfl h (fun _ h=>?_) fun _ h=>?_))))))))
 · exact ag fun _ hK5=>aa (zk hp hr h [] Tryz.call11 (lP 64) rfl (fun _=>rfl) fun y6 h=>za rfl (zQ hK5 (aw (zX (.cons (ay rfl) .nil) h rfl))))
 · refine ar (hK2 _ _ (ag fun _ hK7=>aa (zm rfl (zk hp hr h [] Tryz.call15 (rT n p0) rfl (fun _=>rfl) fun y8 h=>zm rfl (zx rfl (zx rfl (aL 103 (hE _ rfl) ⟨rfl,rfl,rfl,rfl⟩ rfl ?_)))))))
   refine aL 104 (hE _ rfl) ⟨rfl,rfl,rfl,rfl⟩ rfl ?_
   refine zs rfl (zs rfl (zQ hK7 (ag fun _ hK9=>ag fun _ hK10=>aa (zf rfl (zl rfl (zc rfl (zQ hK10 (zB rfl h (fun _ h=>?_) fun _ h=>?_))))))))
   · exact ag fun _ hK12=>aa (zk hp hr h [] Tryz.call11 (lP 64) rfl (fun _=>rfl) fun y13 h=>za rfl (zQ hK12 (aw (zX (.cons (ay rfl) .nil) h rfl))))
   · refine ar (hK9 _ _ (ag fun _ hK14=>aa (zm rfl (zd hr h fun hg15 h=>an (oh rfl rfl hg15) rfl (zk hp hr h [] Tryz.call12 (kC n (([120,58,32]:List UInt8)++p0)) rfl (fun _=>rfl) fun y16 h=>zm rfl (zx rfl (zx rfl (aL 105 (hE _ rfl) ⟨rfl,rfl,rfl,rfl⟩ rfl ?_))))))))
     refine aL 106 (hE _ rfl) ⟨rfl,rfl,rfl,rfl⟩ rfl ?_
     refine zs rfl (zs rfl (zQ hK14 (ag fun _ hK17=>ag fun _ hK18=>aa (zf rfl (zl rfl (zc rfl (zQ hK18 (zB rfl h (fun _ h=>?_) fun _ h=>?_))))))))
     · exact ag fun _ hK20=>aa (zk hp hr h [] Tryz.call11 (lP 64) rfl (fun _=>rfl) fun y21 h=>za rfl (zQ hK20 (aw (zX (.cons (ay rfl) .nil) h rfl))))
     · refine ar (hK17 _ _ (ag fun _ hK22=>ag fun _ hK23=>aa (zf rfl (zl rfl (zc rfl (zm rfl (zb (y16.2.Errno !=0) (fun hb24=>?_) fun hb24=>?_)))))))
       · refine z1 hb24 h fun h=>zg hb24 rfl (zg hb24 rfl (zg hb24 rfl (zg hb24 rfl (zy hb24 rfl (zm rfl (zg rfl rfl (zg rfl rfl (zg rfl rfl (zg rfl rfl (zg rfl rfl (zg rfl rfl (zg rfl rfl (zt rfl (zQ hK23 (cN rfl (fun hc=>?_) (fun hc=>?_))))))))))))))))
         · exact ag fun _ hK25=>aa (za rfl (zQ hK25 (aw (zX (.cons (ay rfl) .nil) h rfl))))
         · exact absurd (hc) (by simp)
       · refine z2 hb24 h fun h=>zG hb24 rfl (bD rfl) (zG hb24 rfl (ba rfl rfl rfl) (zG hb24 rfl (cg rfl) (zG hb24 rfl (bg rfl rfl rfl) (zw hb24 rfl (zm rfl (zb ((List.length y16.1.Decls:Int) !=1) (fun hb26=>?_) fun hb26=>?_))))))
         · refine z1 hb26 h fun h=>zg hb26 rfl (zg hb26 rfl (zg hb26 rfl (zg hb26 rfl (zg hb26 rfl (zg hb26 rfl (zg hb26 rfl (zy hb26 rfl (zQ hK23 (cN rfl (fun hc=>?_) (fun hc=>?_))))))))))
           · exact ag fun _ hK27=>aa (za rfl (zQ hK27 (aw (zX (.cons (ay rfl) .nil) h rfl))))
           · exact absurd (hc) (by simp)
         · refine z2 hb26 h fun h=>zG hb26 rfl (bD rfl) (zG hb26 rfl (ba rfl rfl rfl) (ze hr h fun x28 h29 h30 h31 h=>zG hb26 rfl (gx ax.bb ax.bP h29 h30 h31 rfl rfl rfl) (zG hb26 rfl (kv rfl rfl) (zG hb26 rfl (fO rfl rfl) (zG hb26 rfl (cg rfl) (zG hb26 rfl (bg rfl rfl rfl) (zw hb26 rfl (zQ hK23 (zB rfl h (fun _ h=>?_) fun _ h=>?_)))))))))
           · exact ag fun _ hK33=>aa (za rfl (zQ hK33 (aw (zX (.cons (ay rfl) .nil) h rfl))))
           · refine ar (hK22 _ _ (ag fun _ hK34=>aa (zf rfl (zl rfl (ze hr h fun x35 h36 h37 h38 h=>an (gx ax.bb ax.bP h36 h37 h38 rfl rfl rfl) rfl (an (gN rfl rfl) rfl ?_))))))
             refine aL 107 (hE _ rfl) ⟨rfl,rfl,rfl,rfl⟩ rfl ?_
             refine zs rfl (zQ hK34 (ag fun _ hK39=>bz [0,1,2,3,4,5,6,7,8,9,10,11,12,13,14,15,16,17,18,19,20,21,22,23,24] rfl (by kernel_rfl) (zD rfl (bD rfl) rfl (zD rfl (ba rfl rfl rfl) rfl (zD rfl (bg rfl rfl rfl) rfl (zD rfl (au rfl) rfl (zb (x35.Kind==1) (fun hb40=>?_) fun hb40=>?_)))))))
             · refine z1 hb40 h fun h=>df hb40 rfl ⟨rfl,rfl⟩ (bD rfl) ⟨rfl,rfl,rfl⟩ ?_
               refine df hb40 rfl ⟨rfl,rfl⟩ (ba rfl rfl rfl) ⟨rfl,rfl,rfl⟩ ?_
               refine df hb40 rfl ⟨rfl,rfl⟩ (iE rfl rfl) ⟨rfl,rfl,rfl⟩ ?_
               refine zD rfl (cT hb40 rfl rfl) rfl (zD rfl (au rfl) rfl (zb (x35.Label==([120]:List UInt8)) (fun hb41=>?_) fun hb41=>?_))
               · refine z1 hb41 h fun h=>df hb41 rfl ⟨rfl,rfl⟩ (bD rfl) ⟨rfl,rfl,rfl⟩ ?_
                 refine df hb41 rfl ⟨rfl,rfl⟩ (ba rfl rfl rfl) ⟨rfl,rfl,rfl⟩ ?_
                 refine df hb41 rfl ⟨rfl,rfl⟩ (bg rfl rfl rfl) ⟨rfl,rfl,rfl⟩ ?_
                 refine zD rfl (cT hb41 rfl rfl) rfl (zD rfl (au rfl) rfl (zb (x35.ca==1) (fun hb42=>?_) fun hb42=>?_))
                 · refine z1 hb42 h fun h=>df hb42 rfl ⟨rfl,rfl⟩ (bD rfl) ⟨rfl,rfl,rfl⟩ ?_
                   refine df hb42 rfl ⟨rfl,rfl⟩ (ba rfl rfl rfl) ⟨rfl,rfl,rfl⟩ ?_
                   refine ze hr h fun x43 h44 h45 h46 h=>df hb42 rfl ⟨rfl,rfl⟩ (gx aj.bb aj.bP h44 h45 h46 rfl rfl rfl) ⟨rfl,rfl,rfl⟩ ?_
                   refine df hb42 rfl ⟨rfl,rfl⟩ (gN rfl rfl) ⟨rfl,rfl,rfl⟩ ?_
                   refine df hb42 rfl ⟨rfl,rfl⟩ (jy rfl rfl rfl rfl) ⟨rfl,rfl,rfl⟩ ?_
                   refine du rfl (uv hb42 rfl ⟨rfl,rfl⟩) hr h [] Tryz.call23 (sB n x43 y8.1) ⟨rfl,rfl,rfl,rfl,rfl,rfl,trivial⟩ rfl rfl (fun _=>⟨rfl,rfl,rfl⟩) (fun _=>⟨rfl,rfl⟩) hp (fun y47 h=>⟨aH rfl,?_⟩)
                   refine zD rfl (cT hb42 rfl rfl) rfl (zD rfl (au rfl) rfl (zb y47 (fun hb48=>?_) fun hb48=>?_))
                   · refine z1 hb48 h fun h=>du rfl (uv hb48 rfl ⟨rfl,rfl⟩) hr h [] Tryz.call11 (lP 64) ⟨rfl,rfl,rfl,rfl,rfl,rfl,trivial⟩ rfl rfl (fun _=>⟨rfl,rfl,rfl⟩) (fun _=>⟨rfl,rfl⟩) hp (fun y49 h=>⟨aH rfl,?_⟩)
                     exact zD rfl (cT hb48 rfl rfl) rfl (ea rfl rfl rfl (aH rfl) rfl (cr (hK39 _ _ (aw (zX (.cons (ay rfl) .nil) h rfl)))))
                   · refine z2 hb48 h fun h=>lD hb48 rfl ⟨rfl,rfl⟩ ⟨rfl,rfl⟩ ?_
                     exact zD rfl (cO hb48 rfl rfl) rfl (ea rfl rfl rfl (aH rfl) rfl (cr (hK39 _ _ (aw (zX (.cons (ay rfl) .nil) h rfl)))))
                 · refine z2 hb42 h fun h=>cG hb42 rfl ⟨rfl,rfl⟩ ⟨rfl,rfl⟩ ?_
                   refine cG hb42 rfl ⟨rfl,rfl⟩ ⟨rfl,rfl⟩ ?_
                   refine cG hb42 rfl ⟨rfl,rfl⟩ ⟨rfl,rfl⟩ ?_
                   refine cG hb42 rfl ⟨rfl,rfl⟩ ⟨rfl,rfl⟩ ?_
                   refine cG hb42 rfl ⟨rfl,rfl⟩ ⟨rfl,rfl⟩ ?_
                   refine lD hb42 rfl ⟨rfl,rfl⟩ ⟨rfl,rfl⟩ ?_
                   refine zD rfl (cO hb42 rfl rfl) rfl (zD rfl (au rfl) rfl (lD rfl rfl ⟨rfl,rfl⟩ ⟨rfl,rfl⟩ ?_))
                   exact zD rfl (dv rfl rfl) rfl (ea rfl rfl rfl (aH rfl) rfl (cr (hK39 _ _ (aw (zX (.cons (ay rfl) .nil) h rfl)))))
               · refine z2 hb41 h fun h=>cG hb41 rfl ⟨rfl,rfl⟩ ⟨rfl,rfl⟩ ?_
                 refine cG hb41 rfl ⟨rfl,rfl⟩ ⟨rfl,rfl⟩ ?_
                 refine cG hb41 rfl ⟨rfl,rfl⟩ ⟨rfl,rfl⟩ ?_
                 refine zD rfl (cO hb41 rfl rfl) rfl (zD rfl (au rfl) rfl (cG rfl rfl ⟨rfl,rfl⟩ ⟨rfl,rfl⟩ ?_))
                 refine cG rfl rfl ⟨rfl,rfl⟩ ⟨rfl,rfl⟩ ?_
                 refine cG rfl rfl ⟨rfl,rfl⟩ ⟨rfl,rfl⟩ ?_
                 refine cG rfl rfl ⟨rfl,rfl⟩ ⟨rfl,rfl⟩ ?_
                 refine cG rfl rfl ⟨rfl,rfl⟩ ⟨rfl,rfl⟩ ?_
                 refine lD rfl rfl ⟨rfl,rfl⟩ ⟨rfl,rfl⟩ ?_
                 refine zD rfl (dv rfl rfl) rfl (zD rfl (au rfl) rfl (lD rfl rfl ⟨rfl,rfl⟩ ⟨rfl,rfl⟩ ?_))
                 exact zD rfl (dv rfl rfl) rfl (ea rfl rfl rfl (aH rfl) rfl (cr (hK39 _ _ (aw (zX (.cons (ay rfl) .nil) h rfl)))))
             · refine z2 hb40 h fun h=>cG hb40 rfl ⟨rfl,rfl⟩ ⟨rfl,rfl⟩ ?_
               refine cG hb40 rfl ⟨rfl,rfl⟩ ⟨rfl,rfl⟩ ?_
               refine cG hb40 rfl ⟨rfl,rfl⟩ ⟨rfl,rfl⟩ ?_
               refine zD rfl (cO hb40 rfl rfl) rfl (zD rfl (au rfl) rfl (cG rfl rfl ⟨rfl,rfl⟩ ⟨rfl,rfl⟩ ?_))
               refine cG rfl rfl ⟨rfl,rfl⟩ ⟨rfl,rfl⟩ ?_
               refine cG rfl rfl ⟨rfl,rfl⟩ ⟨rfl,rfl⟩ ?_
               refine zD rfl (dv rfl rfl) rfl (zD rfl (au rfl) rfl (cG rfl rfl ⟨rfl,rfl⟩ ⟨rfl,rfl⟩ ?_))
               refine cG rfl rfl ⟨rfl,rfl⟩ ⟨rfl,rfl⟩ ?_
               refine cG rfl rfl ⟨rfl,rfl⟩ ⟨rfl,rfl⟩ ?_
               refine cG rfl rfl ⟨rfl,rfl⟩ ⟨rfl,rfl⟩ ?_
               refine cG rfl rfl ⟨rfl,rfl⟩ ⟨rfl,rfl⟩ ?_
               refine lD rfl rfl ⟨rfl,rfl⟩ ⟨rfl,rfl⟩ ?_
               refine zD rfl (dv rfl rfl) rfl (zD rfl (au rfl) rfl (lD rfl rfl ⟨rfl,rfl⟩ ⟨rfl,rfl⟩ ?_))
               exact zD rfl (dv rfl rfl) rfl (ea rfl rfl rfl (aH rfl) rfl (cr (hK39 _ _ (aw (zX (.cons (ay rfl) .nil) h rfl)))))
end Go.Abs
end
section
namespace Go.Abs
open aq
theorem pU {m:Nat→Nat} (hm:bZ m) {l:List (List UInt8)} (hl:l.length≤70000):Ev (fun i=>hZ (m i) l l) (fun r=>r=true) gh:=by
 unfold hZ
 refine Ev.bN (fun h=>absurd rfl h) (fun _=>?_)
 refine Ev.iter hm (fun (v:Int)=>0≤v∧v≤l.length) (fun v=>(l.length - v).toNat) (by omega) ?_
 intro v hv next hn
 refine Ev.aU (fun h=>Ev.el (by omega) (by omega) fun x hx=>Ev.Fk (by omega) hx (Ev.bN (fun h=>absurd rfl h) (fun _=>Ev.gd (by (first|omega|(simp[bA]<;>omega))) (hn _ (by omega) (by omega))))) (fun _=>Ev.ok rfl)
structure Gf (N:Nat):Prop where
 e:∀ {m:Nat→Nat} {e e':aj},bZ m→SizeOf.sizeOf e<N→gT e→EE e e'→Ev (fun i=>dK (m i) e' e) (fun r=>r=true) gh
 d:∀ {m:Nat→Nat} {l l':List ax},bZ m→(∀ d,d∈l→SizeOf.sizeOf d<N)→l.length≤70000→(∀ d,d∈l→kR d)→LR DD l l'→Ev (fun i=>en (m i) l' l) (fun r=>r=true) gh
theorem B0 {α X Y:Type} {R:X→Y→Prop} {l:List X} {l':List Y} (h:LR R l l') {v:Int} (h0:0≤v) (h1:v<l'.length) {K:Nat→Y→X→aq α} {Q:α→Prop} {P:pj→Prop}
  (hk:∀ x y,x∈l→R x y→Ev (fun i=>K i y x) Q P):Ev (fun i=>aq.el l' v fun y=>aq.el l v fun x=>K i y x) Q P:=by
 have e:=h.1
 refine Ev.el h0 (by omega) fun y hy=>Ev.el h0 (by omega) fun x hx=>hk x y (List.mem_of_getElem? hx) (h.2 _ _ _ hx hy)
theorem Di:∀ N,Gf N:=by
 intro N
 induction N with
 | zero=>exact ⟨fun _ h=>absurd h (Nat.not_lt_zero _),fun {m l l'} hm hN _ _ hR=>by
   have:l=[]:=by
    cases l with
    | nil=>rfl
    | cons d l=>exact absurd (hN d (by simp)) (Nat.not_lt_zero _)
   subst this
   have:l'=[]:=List.eq_nil_of_length_eq_zero (by rw[← hR.1];rfl)
   subst this
   refine Ev.grow (F:=fun n=>en n [] []) hm fun m hm=>?_
   show Ev (fun i=>gb (m i) (dU (m i)) [] []) _ _
   unfold gb
   refine Ev.bN (fun h=>absurd rfl h) (fun _=>?_)
   refine Ev.iter hm (fun (v:Int)=>v=0) (fun _=>0) rfl ?_
   rintro v rfl next hn
   exact Ev.aU (fun h=>by simp at h) (fun _=>Ev.ok rfl)⟩
 | succ N ih=>
  refine ⟨fun {m e e'} hm hN hs hR=>?_,fun {m l l'} hm hN hl hs hR=>?_⟩
  ·refine Ev.grow (F:=fun n=>dK n e' e) hm fun m hm=>?_
   show Ev (fun i=>jN (m i) (dU (m i)) e' e) _ _
   unfold jN
   have hx:=hR.x
   have hl1:=hs.l1
   have e1:=hx.s.1
   rw[hx.k,hx.t,hx.n,hx.a,hx.b,hx.tl]
   refine Ev.bN (fun h=>absurd rfl h) (fun _=>Ev.bN (fun h=>absurd rfl h) (fun _=>Ev.bN (fun h=>absurd rfl h) (fun _=>Ev.br (fun h=>by simp at h) (fun _=>Ev.bN (fun h=>absurd (by rw[e1]) h) (fun _=>?_)))))
   refine Ev.bind (pU hm hs.l3) (fun _ q=>q) fun y hy=>?_
   subst hy
   refine Ev.b7 (Ev.iter hm (fun (v:Int)=>0≤v∧v≤e'.aW.length) (fun v=>(e'.aW.length - v).toNat) (by omega) ?_)
   intro v hv next hn
   refine Ev.aU (fun h=>B0 hx.s (by omega) h fun x x' hm1 hxx=>?_) (fun _=>?_)
   ·refine Ev.bind (ih.e hm (by have:=zN hm1;omega) (hs.s _ hm1) hxx) (fun _ q=>q) fun y hy=>?_
    subst hy
    exact Ev.b7 (Ev.gd (by (first|omega|(simp[bA]<;>omega))) (hn _ (by omega) (by omega)))
   ·exact Ev.bind (ih.d hm (fun d hd=>by have:=yj hd;omega) hs.l2 hs.d hx.d) (fun _ q=>q) fun y hy=>Ev.ok hy
  ·refine Ev.grow (F:=fun n=>en n l' l) hm fun m hm=>?_
   show Ev (fun i=>gb (m i) (dU (m i)) l' l) _ _
   unfold gb
   have e1:=hR.1
   refine Ev.bN (fun h=>absurd (by rw[e1]) h) (fun _=>?_)
   refine Ev.iter hm (fun (v:Int)=>0≤v∧v≤l'.length) (fun v=>(l'.length - v).toNat) (by omega) ?_
   intro v hv next hn
   refine Ev.aU (fun h=>B0 hR (by omega) h fun d d' hd1 hdd=>?_) (fun _=>Ev.ok rfl)
   have hx:=hdd.x
   have hds:=hs _ hd1
   have hdN:=hN _ hd1
   have e2:=hx.s.1
   have hl1:=hds.l1
   rw[hx.k,hx.p,hx.t,hx.a,hx.b,hx.tr,hx.ld,hx.tl]
   refine Ev.bN (fun h=>absurd rfl h) (fun _=>Ev.bN (fun h=>absurd rfl h) (fun _=>Ev.bN (fun h=>absurd rfl h) (fun _=>Ev.br (fun h=>by simp at h) (fun _=>Ev.bN (fun h=>absurd rfl h) (fun _=>Ev.bN (fun h=>absurd (by rw[e2]) h) (fun _=>?_))))))
   refine Ev.bind (pU hm hds.l5) (fun _ q=>q) fun y hy=>?_
   subst hy
   refine Ev.b7 (Ev.bind (pU hm hds.l3) (fun _ q=>q) fun y hy=>?_)
   subst hy
   refine Ev.b7 (Ev.bind (ih.d hm (fun d hd=>by have:=BH hd;omega) hds.l2 hds.d hx.d) (fun _ q=>q) fun y hy=>?_)
   subst hy
   refine Ev.b7 (Ev.iter hm (fun (w:Int)=>0≤w∧w≤d'.aW.length) (fun w=>(d'.aW.length - w).toNat) (by omega) ?_)
   intro w hw next2 hn2
   refine Ev.aU (fun h=>B0 hx.s (by omega) h fun x x' hm1 hxx=>?_) (fun _=>?_)
   ·refine Ev.bind (ih.e hm (by have:=BG hm1;omega) (hds.s _ hm1) hxx) (fun _ q=>q) fun y hy=>?_
    subst hy
    exact Ev.b7 (Ev.gd (by (first|omega|(simp[bA]<;>omega))) (hn2 _ (by omega) (by omega)))
   ·exact Ev.gd (by (first|omega|(simp[bA]<;>omega))) (hn _ (by omega) (by omega))
end Go.Abs
end
section
namespace Go.Abs
open aq
section
variable {s:List UInt8} {T:List aK}
abbrev xs (s:List UInt8):List UInt8:=120::58::32::s
abbrev xT (T:List aK):List aK:=tX::tC::T.map (zO 3)
abbrev xC (s:List UInt8) (T:List aK):Cx:=⟨s,T,0,xs s,xT T,0,2⟩
theorem EK (hC:PC s T 0):(xC s T).kS where
 len:=by simp
 tok:=fun i t t' h h'=>by
  simp[h] at h';subst h';exact ⟨rfl,rfl⟩
 nl:=fun i j t u t' u' h1 h2 h3 h4=>by
  simp[h1] at h3;simp[h2] at h4;subst h3 h4
  have g:=hC.tok h1
  have e:sub (xs s) (zO 3 t).End (zO 3 u).Pos=sub s t.End u.Pos:=BW (pre:=[120,58,32]) (by omega)
  show RS Eq (strings_Contains (sub s t.End u.Pos) [10]) (strings_Contains (sub (xs s) (zO 3 t).End (zO 3 u).Pos) [10])
  rw[e]
  exact fun a e=>.inr ⟨a,e,rfl⟩
structure WX (s:List UInt8) (T:List aK) (e:aj) (a:Int):Prop where
 C:PC s T 0
 scan:∃ F:eb,F.Errno=0∧∃ N,∀ i,N≤i→gD i s=.ok (T,F)
 q:∃ q,∃ N,∀ i,N≤i→aD i true (bL s T 0 0 false none)=.ok (e,bL s T a 0 false q)
 e:gT e
 a0:0≤a
 a1:a<T.length
 stop:∃ t,T[a.toNat]?=some t∧(t.Kind=0∨t.Kind=7∧∃ u,T[(a+1).toNat]?=some u∧u.Kind=0)
theorem B1:Ev (fun i=>mj i s) (fun r=>r.2.Errno=0→∃ T a,WX s T r.1 a) gh:=by
 unfold mj
 refine Ev.bind (oB bZ.id).self (fun _ q=>q) fun y hy=>?_
 obtain ⟨hy,hsc⟩:=hy
 refine Ev.bN (fun he=>Ev.ok fun h=>absurd h he) (fun he=>?_)
 have hT:=(hy.2.2 he).2
 have hC:PC s y.1 0:=⟨hT,by simp,by have:=hT.Gc;omega⟩
 have hX:ta s 0:=uV hC.bs
 have hp:=hC.pos
 have hl:=hC.kT
 have hm:bZ fun i=>i:=bZ.id
 refine Ev.vI (R':=PP (0+s.length)) ?_ ?_
 ·refine Ev.bind ((yn hC hX _).expr (j:=true) (k:=false) (q:=none) hm (Int.le_refl 0) (by omega) .none (Nat.lt_succ_self _)).self (fun _ q=>q) fun r hr=>?_
  obtain ⟨e,p⟩:=r
  obtain ⟨⟨⟨a2,q2,hp,h2,h3,hq2⟩,he⟩,hev⟩:=hr
  dsimp only at hp he;subst hp;dsimp only
  have hW:(∃ t,y.1[a2.toNat]?=some t∧(t.Kind=0∨t.Kind=7∧∃ u,y.1[(a2+1).toNat]?=some u∧u.Kind=0))→WX s y.1 e a2:=fun h=>
   ⟨hC,⟨y.2,‹_›,hsc⟩,⟨q2,hev⟩,he,h2,by omega,h⟩
  refine Ev.jn (fun v=>∃ a',v=bL s y.1 a' 0 false q2∧0≤a'∧a'<y.1.length∧((∃ t,y.1[a'.toNat]?=some t∧t.Kind=0)→WX s y.1 e a2)) (fun v hv=>?_) (fun j hj=>?_)
  ·obtain ⟨a3,rfl,h4,h5,h6⟩:=hv
   refine Ev.jn (fun _=>WX s y.1 e a2) (fun v hv=>?_) (fun j hj=>?_)
   ·refine Ev.bind (wU hm he) (fun _ q=>q.elim) fun z _=>?_
    refine Ev.br (fun _=>Ev.ok fun h=>by simp at h) (fun _=>Ev.ok fun _=>⟨_,_,hv⟩)
   ·refine fm hm hC h4 h5 fun a4 t h7 h8 ht _ e4=>?_
    dsimp only
    have e4:=e4 _ (List.getElem?_eq_getElem (by omega)) (fun h=>by cases h)
    subst e4
    exact Ev.bN (fun _=>iW hm hC (by omega) h5 (by omega)) (fun hk=>hj _ (h6 ⟨t,ht,by simpa using hk⟩))
  ·refine fm hm hC (by omega) (by omega) fun a4 t h6 h7 ht _ e4=>?_
   dsimp only
   have e4:=e4 _ (List.getElem?_eq_getElem (by omega)) (fun h=>by cases h)
   subst e4
   refine Ev.bk (fun hk=>?_) (fun _=>hj _ ⟨a4,rfl,h2,h7,fun ⟨u,hu,hk⟩=>hW ⟨u,hu,.inl hk⟩⟩)
   have hnx:=hC.next (by omega) ht (by omega)
   exact Ev.gd (by (first|omega|(simp[bA]<;>omega))) (hj _ ⟨a4+1,rfl,by omega,hnx,fun ⟨u,hu,hk2⟩=>hW ⟨t,ht,.inr ⟨hk,u,hu,hk2⟩⟩⟩)
 ·rintro p ⟨v,rfl,h1,h2⟩
  refine Ev.r6 ?_
  unfold k5 jE
  exact Ev.ok fun h=>by simp at h
end
end Go.Abs
end
section
namespace Go.Abs
open aq
section
variable {α:Type} {Q:α→Prop} {R:pj→Prop} {m:Nat→Nat} {s:List UInt8} {T:List aK} {b a:Int} {k:Bool} {q:Option aj}
theorem kN (hm:bZ m) (hC:PC s T b) (h0:0≤a) {t:aK} (ht:T[a.toNat]?=some t) (hk:k=true→t.Kind≠7) {K:Nat→aK×ab→aq α} (h:Ev (fun i=>K i (t,bL s T a b k q)) Q R) :
  Ev (fun i=>aq.bind (aE (m i) (bL s T a b k q)) (K i)) Q R:=by
 have hl:=(List.getElem?_eq_some_iff.1 ht).1
 refine fm hm hC h0 (by omega) fun a' u h1 h2 hu h3 e=>?_
 have e:=e t ht hk
 subst e
 rw[ht] at hu;cases hu;exact h
theorem EL (hm:bZ m) (hC:PC s T b) (h0:0≤a) {t:aK} (ht:T[a.toNat]?=some t) (hk:k=true→t.Kind≠7) {K:Nat→Int×ab→aq α} (h:∀ v,Ev (fun i=>K i (v,bL s T a b k q)) Q R) :
  Ev (fun i=>aq.bind (bC (m i) (bL s T a b k q)) (K i)) Q R:=by
 have hl:=(List.getElem?_eq_some_iff.1 ht).1
 refine kt hm hC h0 (by omega) fun a' u v h1 h2 hu e _ _ _=>?_
 have e:=e t ht hk
 subst e
 exact h v
theorem Dy (hm:bZ m) (hC:PC s T b) (h0:0≤a) {t:aK} (ht:T[a.toNat]?=some t) (hk:k=true→t.Kind≠7) {x:List UInt8} (hx:bW t x=.ok false) {K:Nat→Bool×ab→aq α} (h:Ev (fun i=>K i (false,bL s T a b k q)) Q R) :
  Ev (fun i=>aq.bind (bG (m i) x (bL s T a b k q)) (K i)) Q R:=by
 refine Ev.bind (Q:=fun r=>r=(false,bL s T a b k q)) (R':=gh) ?_ (fun _ q=>q.elim) fun r hr=>by subst hr;exact h
 unfold bG
 refine kN hm hC h0 ht hk ?_
 exact Ev.nW hx (Ev.bh (fun _=>Ev.ok rfl) (fun h=>by cases h))
theorem EM (hm:bZ m) (hC:PC s T b) (h0:0≤a) {t:aK} (ht:T[a.toNat]?=some t) (hk:k=true→t.Kind≠7) {x:List UInt8} (hx:bW t x=.ok true) {K:Nat→Bool×ab→aq α} (h:Ev (fun i=>K i (true,bL s T (a+1) b k q)) Q R) :
  Ev (fun i=>aq.bind (bG (m i) x (bL s T a b k q)) (K i)) Q R:=by
 have hl:=(List.getElem?_eq_some_iff.1 ht).1
 have hl2:=hC.kT
 refine Ev.bind (Q:=fun r=>r=(true,bL s T (a+1) b k q)) (R':=gh) ?_ (fun _ q=>q.elim) fun r hr=>by subst hr;exact h
 unfold bG
 refine kN hm hC h0 ht hk ?_
 exact Ev.nW hx (Ev.bh (fun h=>by cases h) (fun _=>Ev.gd (by (first|omega|(simp[bA]<;>omega))) (Ev.ok rfl)))
theorem Ev.from {F:Nat→aq α} {v:α} {c:Nat} (h:∀ n,F (n+c)=.ok v) (hm:bZ m):Ev (fun i=>F (m i)) (fun r=>r=v) gh:=by
 obtain ⟨N,hN⟩:=hm c
 refine ⟨.ok v,rfl,N,fun i hi=>?_⟩
 obtain ⟨n,hn⟩:∃ n,m i=n+c:=⟨m i - c,by have:=hN i hi;omega⟩
 dsimp only
 rw[hn];exact h n
theorem FW {t:aK} {x:List UInt8} (h:t.Kind≠5):bW t x=.ok false:=by
 unfold bW
 cases e:t.Kind==5 with
 | false=>rfl
 | true=>exact absurd (by simpa using e) h
end
section
variable {m:Nat→Nat} {s:List UInt8} {T:List aK} {e:aj} {a:Int}
def XD (e:aj) (d:ax):Prop:=∃ x v,d=ax.mk 1 1 [120] [] [] [x] [] [] [] [] v∧EE e x∧gT x
theorem EN (hm:bZ m) (hC:PC (xs s) (xT T) 0) (h:WX s T e a):Ev (fun i=>aD (m i) true (bL (xs s) (xT T) 2 0 false none)) (fun r=>∃ x,r=(x,bL (xs s) (xT T) (a+2) 0 false none)∧EE e x∧gT x) gh:=by
 obtain ⟨q,hq⟩:=h.q
 have hX:ta (xs s) 0:=uV hC.bs
 refine (Ev.follow hm hq ((yn hC hX _).expr (j:=true) (k:=false) (q:=none) hm (by omega) (by have:=h.C.pos;simp;omega) .none (Nat.lt_succ_self _)) fun i=>(EB i).g.expr (C:=xC s T) (a:=0) (k:=false) (EK h.C) (Int.le_refl 0) .none).Bv fun r hr=>?_
 obtain ⟨x,p⟩:=r
 obtain ⟨⟨_,h1⟩,⟨a1,g1,g2,_⟩,h2⟩:=hr
 dsimp only at g1 g2 h1 h2
 injection g1 with _ _ g3
 subst g3
 exact ⟨x,by rw[g2];rfl,h2,h1⟩
theorem EO (hm:bZ m) (hC:PC (xs s) (xT T) 0) (h:WX s T e a):Ev (fun i=>bO (m i) true (bL (xs s) (xT T) 0 0 false none)) (fun r=>∃ d,r=(d,bL (xs s) (xT T) (a+2) 0 false none)∧XD e d) gh:=by
 refine Ev.grow (F:=fun n=>bO n true (bL (xs s) (xT T) 0 0 false none)) hm fun m hm=>?_
 show Ev (fun i=>dM (m i) (ai (m i)) true (bL (xs s) (xT T) 0 0 false none)) _ _
 unfold dM
 have hl:=hC.kT
 refine kN (t:=tX) hm hC (Int.le_refl 0) rfl (fun h=>by cases h) (EL (t:=tX) hm hC (Int.le_refl 0) rfl (fun h=>by cases h) fun v=>?_)
 refine Ev.nW (a:=(tC,bL (xs s) (xT T) 0 0 false none)) ?_ ?_
 ·unfold cj
  simp only[aq.gd]
  have:=h.C.pos
  simp at hl
  rw[if_pos (by (first|omega|(simp[bA]<;>omega))),if_pos (by (first|omega|(simp[bA]<;>omega))),if_neg (by simp;omega)]
  rfl
 refine Ev.jd (Ev.jd ?_)
 dsimp only
 refine Ev.uz (Ev.from (F:=fun n=>eZ n tX) (c:=40) (v:=true) (fun n=>rfl) hm) fun r hr=>?_
 subst hr
 refine Ev.cw (Ev.uz (Ev.from (F:=fun n=>fk n tC [58,32,63,32,33]) (c:=40) (v:=true) (fun n=>rfl) hm) fun r hr=>?_)
 subst hr
 refine Ev.cw (Ev.bind (Q:=fun r=>∃ d,r=(bL (xs s) (xT T) (a+2) 0 false none,d)∧XD e d) (R':=gh) ?_ (fun _ q=>q.elim) fun r hr=>?_)
 ·refine Ev.grow (F:=fun n=>cA n true (bL (xs s) (xT T) 0 0 false none) (ax.mk 0 0 [] [] [] [] [] [] [] [] v)) hm fun m hm=>?_
  show Ev (fun i=>dy (m i) (ai (m i)) true (bL (xs s) (xT T) 0 0 false none) (ax.mk 0 0 [] [] [] [] [] [] [] [] v)) _ _
  unfold dy
  refine kN (t:=tX) hm hC (Int.le_refl 0) rfl (fun h=>by cases h) ?_
  dsimp only
  refine Ev.gd (by decide) (Ev.jd (Dy (t:=tC) hm hC (by omega) rfl (fun h=>by cases h) rfl ?_))
  refine Ev.b7 (Dy (t:=tC) hm hC (by omega) rfl (fun h=>by cases h) rfl ?_)
  refine Ev.b7 (Ev.bind (Q:=fun r=>r=bL (xs s) (xT T) 2 0 false none) (R':=gh) ?_ (fun _ q=>q.elim) fun r hr=>?_)
  ·unfold bI
   exact EM (t:=tC) hm hC (by omega) rfl (fun h=>by cases h) rfl (Ev.bh (fun h=>by cases h) (fun _=>Ev.ok rfl))
  ·subst hr
   refine Ev.bind (EN hm hC h) (fun _ q=>q) fun r hr=>?_
   obtain ⟨x,rfl,h1,h2⟩:=hr
   exact Ev.ok ⟨_,rfl,x,v,rfl,h1,h2⟩
 ·obtain ⟨d,rfl,hd⟩:=hr
  exact Ev.ok ⟨d,rfl,hd⟩
def F9 (T:List aK) (a:Int):Prop:=∃ t,T[a.toNat]?=some t∧(t.Kind=0∨t.Kind=7∧∃ u,T[(a+1).toNat]?=some u∧u.Kind=0)
theorem WX.Gg (h:WX s T e a):F9 (xT T) (a+2):=by
 have h0:=h.a0
 obtain ⟨t,h1,h2⟩:=h.stop
 refine ⟨zO 3 t,?_,h2.imp_right fun ⟨h3,u,h4,h5⟩=>⟨h3,zO 3 u,?_,h5⟩⟩
 ·rw[show (a+2).toNat=a.toNat+2 by omega]
  simp[h1]
 ·rw[show (a+2+1).toNat=(a+1).toNat+2 by omega]
  simp[h4]
theorem Dj (hm:bZ m) (hC:PC (xs s) (xT T) 0) (h:WX s T e a):Ev (fun i=>dW (m i) [] true (bL (xs s) (xT T) 0 0 false none))
  (fun r=>∃ d a' t,r=([d],[],bL (xs s) (xT T) a' 0 false none)∧XD e d∧0≤a'∧(xT T)[a'.toNat]?=some t∧t.Kind=0) gh:=by
 unfold dW
 have hl:=hC.kT
 have ha:=h.a0
 refine Ev.iter hm (fun (x:ab×(List (List UInt8))×(List ax)×Int×Bool)=>x=(bL (xs s) (xT T) 0 0 false none,[],[],-1,true)∨∃ d a' n z,x=(bL (xs s) (xT T) a' 0 false none,[],[d],n,z)∧XD e d∧0≤a'∧F9 (xT T) a')
  (fun x=>((xT T).length - x.1.at_).toNat) (.inl rfl) ?_
 rintro x hx next hn
 rcases hx with rfl|⟨d,a',n,z,rfl,hd,h0,hs⟩
 ·dsimp only
  refine Ev.bind (Q:=fun r=>r=(false,bL (xs s) (xT T) 0 0 false none)) (R':=gh) ?_ (fun _ q=>q.elim) fun r hr=>?_
  ·unfold dx
   refine kN (t:=tX) hm hC (Int.le_refl 0) rfl (fun h=>by cases h) (Ev.bk (fun h=>by simp[tX] at h) (fun _=>?_))
   exact kN (t:=tX) hm hC (Int.le_refl 0) rfl (fun h=>by cases h) (Ev.nW (a:=false) rfl (Ev.ok rfl))
  subst hr
  refine Ev.bh (fun _=>?_) (fun h=>by cases h)
  refine kN (t:=tX) hm hC (Int.le_refl 0) rfl (fun h=>by cases h) (Ev.jd (Ev.bk (fun h=>by simp[tX] at h) (fun _=>Ev.nW (a:=false) rfl (Ev.b7 ?_))))
  refine Ev.jd (Ev.bk (fun h=>by simp[tX] at h) (fun _=>Ev.b7 ?_))
  refine Ev.jd (Ev.bk (fun h=>by simp[tX] at h) (fun _=>Ev.b7 ?_))
  refine Ev.jd (Ev.bk (fun h=>by simp[tX] at h) (fun _=>Ev.bh (fun h=>by cases h) (fun _=>?_)))
  refine Ev.bind (EO hm hC h) (fun _ q=>q) fun r hr=>?_
  obtain ⟨d,rfl,hd⟩:=hr
  dsimp only
  refine Ev.gd (by (first|omega|(simp[cB,maxLen]<;>omega))) (hn _ (.inr ⟨d,a+2,a+2,false,?_,hd,by omega,h.Gg⟩) (by dsimp only;simp;omega))
  obtain ⟨x,v,rfl,_⟩:=hd
  rfl
 ·obtain ⟨t,ht,hk⟩:=hs
  have hlt:=(List.getElem?_eq_some_iff.1 ht).1
  dsimp only
  rcases hk with hk|⟨hk,u,hu,hk2⟩
  ·refine Ev.bind (Q:=fun r=>r=(true,bL (xs s) (xT T) a' 0 false none)) (R':=gh) ?_ (fun _ q=>q.elim) fun r hr=>?_
   ·unfold dx
    exact kN hm hC h0 ht (fun h=>by cases h) (Ev.bk (fun _=>Ev.ok rfl) (fun h=>absurd hk h))
   subst hr
   exact Ev.bh (fun h=>by cases h) (fun _=>Ev.ok ⟨d,a',t,rfl,hd,h0,ht,hk⟩)
  ·refine Ev.bind (Q:=fun r=>r=(false,bL (xs s) (xT T) a' 0 false none)) (R':=gh) ?_ (fun _ q=>q.elim) fun r hr=>?_
   ·unfold dx
    refine kN hm hC h0 ht (fun h=>by cases h) (Ev.bk (fun h=>absurd (hk.symm.trans h) (by decide)) (fun _=>?_))
    exact kN hm hC h0 ht (fun h=>by cases h) (Ev.nW (FW (t:=t) (by omega)) (Ev.ok rfl))
   subst hr
   refine Ev.bh (fun _=>?_) (fun h=>by cases h)
   refine kN hm hC h0 ht (fun h=>by cases h) (Ev.jd (Ev.bk (fun _=>?_) (fun h=>absurd hk h)))
   dsimp only
   exact Ev.cw (Ev.gd (by (first|omega|(simp[bA]<;>omega))) (hn _ (.inr ⟨d,a'+1,n,true,rfl,hd,by omega,u,hu,.inl hk2⟩) (by dsimp only;omega)))
theorem EP (hm:bZ m) (hC:PC (xs s) (xT T) 0) (h:WX s T e a):Ev (fun i=>ju (m i) (bL (xs s) (xT T) 0 0 false none)) (fun r=>∃ d,r.1=gJ.mk [] [] [d] []∧XD e d) gh:=by
 unfold ju
 refine Ev.bind (Q:=fun r=>r=([],bL (xs s) (xT T) 0 0 false none)) (R':=gh) ?_ (fun _ q=>q.elim) fun r hr=>?_
 ·unfold js
  refine Ev.iter hm (fun x=>x=(bL (xs s) (xT T) 0 0 false none,[])) (fun _=>0) rfl ?_
  rintro _ rfl next hn
  exact kN (t:=tX) hm hC (Int.le_refl 0) rfl (fun h=>by cases h) (Ev.bk (fun h=>by simp[tX] at h) (fun _=>Ev.ok rfl))
 subst hr
 dsimp only
 refine Ev.jd (kN (t:=tX) hm hC (Int.le_refl 0) rfl (fun h=>by cases h) (Ev.nW (a:=false) rfl (Ev.b7 (Ev.jd ?_))))
 dsimp only
 refine Ev.iter hm (fun x=>x=(bL (xs s) (xT T) 0 0 false none,gJ.mk [] [] [] [])) (fun _=>0) rfl ?_
 rintro _ rfl next hn
 refine kN (t:=tX) hm hC (Int.le_refl 0) rfl (fun h=>by cases h) (Ev.nW (a:=false) rfl (Ev.b7 ?_))
 dsimp only
 refine Ev.bind (Dj hm hC h) (fun _ q=>q) fun r hr=>?_
 obtain ⟨d,a',t,rfl,hd,h0,ht,hk⟩:=hr
 dsimp only
 exact kN hm hC h0 ht (fun h=>by cases h) (Ev.bN (fun h=>absurd hk h) (fun _=>Ev.ok ⟨d,rfl,hd⟩))
theorem XD.sm {d:ax} (h:XD e d):F8 (gJ.mk [] [] [d] []):=by
 obtain ⟨x,v,rfl,_,h2⟩:=h
 exact ⟨by simp,by simp,fun d hd=>by simp at hd;subst hd;exact .mk (by simp) (by simp) (by simp) (by simp) (by simp) (by simp) (by simp) (by simp) (by simpa using h2) (by simp),by simp,by simp⟩
theorem ES (hs:s.length≤400) (h:WX s T e a):Ev (fun i=>jh i (xs s)) (fun r=>r.2.Errno=9∨r.2.Errno=0∧∃ d,r.1=gJ.mk [] [] [d] []∧XD e d) gh:=by
 unfold jh
 obtain ⟨F,hF,hsc⟩:=h.scan
 have hm:bZ fun i=>i:=bZ.id
 refine Ev.bind (EJ hsc hF (by omega)) (fun _ q=>q) fun y hy=>?_
 obtain ⟨y1,y2⟩:=y
 obtain ⟨g1,g2,g3⟩:=hy
 dsimp only at g1 g2 g3;subst g2
 refine Ev.bN (fun he=>absurd g1 he) (fun _=>?_)
 have hC:PC (xs s) (xT T) 0:=⟨g3,by simp,by simp;omega⟩
 refine Ev.vI (R':=gh) ?_ (fun _ h=>h.elim)
 refine Ev.bind (EP hm hC h) (fun _ q=>q) fun r hr=>?_
 obtain ⟨d,h1,h2⟩:=hr
 rw[h1]
 exact Ev.bind (BZ hm h2.sm) (fun _ q=>q.elim) fun z _=>Ev.br (fun _=>Ev.ok (.inl rfl)) (fun _=>Ev.ok (.inr ⟨rfl,d,rfl,h2⟩))
theorem B2:kb 64=.ok true:=by kernel_rfl
theorem uY:Ev (fun i=>jO i s) (fun r=>r=true) gh:=by
 unfold jO
 have A:Ev (fun _:Nat=>aq.bind (kb 64) fun y=>.ok y) (fun r=>r=true) gh:=Ev.nW B2 (Ev.ok rfl)
 refine Ev.aU (fun _=>A) (fun hl=>?_)
 refine Ev.bind (B1 (s:=s)) (fun _ q=>q) fun r hr=>?_
 refine Ev.bN (fun _=>A) (fun h0=>?_)
 obtain ⟨T,a,h⟩:=hr h0
 refine Ev.gd (by (first|omega|(simp[cM]<;>omega))) (Ev.bind (ES (s:=s) (by omega) h) (fun _ q=>q) fun g hg=>?_)
 rcases hg with hg|⟨hg,d,h1,x,v,rfl,h2,h3⟩
 ·exact Ev.bk (fun _=>A) (fun h=>absurd hg h)
 ·rw[h1]
  refine Ev.bk (fun h=>by omega) (fun _=>Ev.bN (fun h=>absurd hg h) (fun _=>Ev.bN (fun h=>absurd rfl h) (fun _=>?_)))
  refine Ev.Fk (by omega) rfl (Ev.bN (fun h=>absurd rfl h) (fun _=>Ev.Fk (by omega) rfl ?_))
  refine Ev.bk (fun _=>Ev.bk (fun _=>Ev.bk (fun _=>Ev.Fk (by omega) rfl ?_) (fun h=>absurd rfl h)) (fun h=>absurd rfl h)) (fun h=>absurd rfl h)
  refine Ev.bind ((Di _).e bZ.id (Nat.lt_succ_self _) h.e h2) (fun _ q=>q) fun y hy=>?_
  subst hy
  exact Ev.cw A
theorem sC (s:List UInt8):∃ n,jO n s=.ok true:=by
 obtain ⟨a,rfl,N,hN⟩:=(uY (s:=s)).get
 exact ⟨N,hN N (Nat.le_refl _)⟩
end
end Go.Abs
end
