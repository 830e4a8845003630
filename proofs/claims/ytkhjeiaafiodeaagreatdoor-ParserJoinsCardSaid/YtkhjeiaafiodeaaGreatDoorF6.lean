/- PROVED: lemmas of the proof of: a law CONDITIONS: as each lemma states. -/
import Derived.Test.YtkhjeiaafiodeaaGreatDoorF5
section
namespace Go.Abs
open al
section
variable {s:ByS} {T:List aB} {b:Int} {K:Nat} {m:Nat->Nat} {a:Int} {k:Bool} {q:Option ak} {j:Bool}
theorem Bx (hC:PC s T b) (hm:di m) (h0:0<=a) (h1:a<T.length) (hq:QS q) {lead:List ByS} (hl1:(lead.length:Int)<=a+1) (hl2:∀ x,x∈lead->x.length<=65536)
  (Hd:∀ {m:Nat->Nat} {a':Int} {q:Option ak} {t:aB},di m->a<=a'->a'<T.length->QS q->T[a'.toNat]?=some t->t.Kind≠0->t.Kind≠7->Ev (λi=>cj (m i) j (cI s T a' b k q)) (λr=>St s T b k a' 0 r.2/\lZ r.1) (PP (b+s.length))) :
  Ev (λi=>dX (m i) lead j (cI s T a b k q)) (λr=>St s T b k a 0 r.2.2/\r.1.length<=70000/\(∀ d,d∈r.1->lZ d)/\r.2.1.length<=70000/\∀ x,x∈r.2.1->x.length<=65536) (PP (b+s.length)):=by
 unfold dX
 have hl:=hC.l9
 refine Ev.iter hm (λ(x:L×(List ByS)×(List aA)×Int×Bool)=>St s T b k a 0 x.1/\(x.2.1.length:Int)<=x.1.at_+1/\(∀ z,z∈x.2.1->z.length<=65536)/\(x.2.2.1.length:Int)<=x.1.at_+(if x.2.2.2.2 then 0 else 1)/\(∀ d,d∈x.2.2.1->lZ d)/\x.2.2.2.1<=x.1.at_/\(0<x.2.2.2.1->1<=x.2.2.1.length))
  (λx=>2*(T.length - x.1.at_).toNat+(if x.2.2.2.2 then 1 else 0)) ⟨⟨a,q,rfl,by omega,by omega,hq⟩,by dsimp only;omega,hl2,by simp;omega,by simp,by dsimp only;omega,by simp⟩ ?_
 rintro ⟨p,lead,out,e,sep⟩ ⟨⟨a1,q1,hp,h2,h3,hq1⟩,i1,i2,i3,i4,i5,i6⟩ next hn
 dsimp only at hp i1 i2 i3 i4 i5 i6;subst hp;dsimp only at hn i1 i3 i5 ⊢
 have ho3:out.length<=70000:=by cases sep<;>simp at i3<;>omega
 refine Hl hm hC (by omega) (by omega) λa2 t r h4 h5 ht hr h7=>?_
 dsimp only
 refine Ev.bz (λhrf=>?_) (λ_=>Ev.ok ⟨⟨a2,q1,rfl,by omega,by omega,hq1⟩,ho3,i4,by dsimp only;omega,i2⟩)
 have hk0:=hr hrf
 have hnx:=hC.next (by omega) ht hk0
 have htt:=(hC.tok ht).2.2.2.1
 refine fI hm hC (by omega) h5 λa3 t3 h8 h9 ht3 h10 e3=>?_
 have e3:=e3 t ht h7
 subst e3
 rw[ht] at ht3;cases ht3
 dsimp only
 refine Ev.jn (λv=>v=false->t.Kind≠7) (λv hv=>?_) (λj1 hj1=>?_)
 ·refine Ev.br (λ_=>?_) (λhvf=>?_)
  ·refine Ev.gA (hn _ ⟨⟨a3+1,q1,rfl,by omega,by omega,hq1⟩,by dsimp only;omega,i2,?_,i4,by dsimp only;omega,i6⟩ ?_)
   ·dsimp only;cases sep<;>simp at i3 ⊢<;>omega
   ·dsimp only;cases sep<;>simp<;>omega
  have hk7:=hv hvf
  refine Ev.jn (λv=>v.1=cI s T a3 b k q1/\(v.2=true->0<e)) (λv hv=>?_) (λj2 hj2=>?_)
  ·obtain ⟨p,w⟩:=v
   obtain ⟨hp,hw⟩:=hv
   dsimp only at hp hw;subst hp;dsimp only
   refine Ev.br (λhwt=>?_) (λ_=>?_)
   ·have ho:=i6 (hw hwt)
    have ho2:(out.length:Int)<=65540:=by cases sep<;>simp at i3<;>omega
    refine Ev.gA (Ev.eA λx hx=>?_)
    have hxd:=i4 x (List.mem_of_getElem? hx)
    refine Ev.gA (hn _ ⟨⟨a3+1,q1,rfl,by omega,by omega,hq1⟩,by dsimp only;omega,i2,?_,λd hd=>?_,by dsimp only;omega,λ_=>by simpa using ho⟩ ?_)
    ·dsimp only;cases sep<;>simp at i3 ⊢<;>omega
    ·dsimp only at hd
     rcases List.mem_or_eq_of_mem_set hd with w|w
     ·exact i4 d w
     ·subst w;exact .mk hxd.l1 hxd.l2 hxd.l3 hxd.l4 hxd.l5 hxd.l6 htt hxd.kd hxd.s hxd.d
    ·dsimp only;cases sep<;>simp<;>omega
   ·refine Ev.jn (λv=>v.1=cI s T a3 b k q1) (λv hv=>?_) (λj3 hj3=>?_)
    ·obtain ⟨p,w⟩:=v
     dsimp only at hv;subst hv;dsimp only
     refine Ev.br (λ_=>?_) (λ_=>?_)
     ·refine Ev.gA (Ev.gA (hn _ ⟨⟨a3+1,q1,rfl,by omega,by omega,hq1⟩,by simp;omega,λz hz=>?_,?_,i4,by dsimp only;omega,i6⟩ ?_))
      ·rcases List.mem_append.1 hz with w|w
       ·exact i2 z w
       ·simp at w;subst w;exact htt
      ·dsimp only;cases sep<;>simp at i3 ⊢<;>omega
      ·dsimp only;cases sep<;>simp<;>omega
     ·refine Ev.jn (λv=>v=false->sep=true) (λv hv=>?_) (λj4 hj4=>?_)
      ·refine Ev.br (λ_=>iI hm hC (by omega) h9 (by omega)) (λhvf=>?_)
       have hsep:=hv hvf
       subst hsep
       simp at i3
       refine gC (Hd hm (by omega) h9 hq1 ht hk0 hk7) λd a4 q4 h11 h12 hq4 hd=>?_
       dsimp only
       refine Ev.gA (hn _ ⟨⟨a4,q4,rfl,by omega,h12,hq4⟩,by simp;omega,by simp,by simp;omega,λz hz=>?_,by dsimp only;omega,λ_=>by simp⟩ (by simp;omega))
       rcases List.mem_append.1 hz with w|w
       ·exact i4 z w
       ·simp at w;subst w
        exact .mk hd.l1 hd.l2 hd.l3 hd.l4 (by omega) i2 hd.l7 hd.kd hd.s hd.d
      ·refine Ev.bH (λ_=>hj4 _ (by simp)) (λ_=>hj4 _ (by simp))
    ·refine Ev.bH (λ_=>?_) (λ_=>hj3 _ rfl)
     exact Ev.fX (rV hm hC (by omega) h9) λr hr=>hj3 _ hr
  ·refine Ev.bH (λ_=>Ev.aW (λhe=>?_) (λ_=>hj2 _ ⟨rfl,by simp⟩)) (λ_=>hj2 _ ⟨rfl,by simp⟩)
   exact Ev.fX (vy hm hC (by omega) h9 (by omega) (by omega)) λr hr=>hj2 _ ⟨hr,λ_=>by omega⟩
 ·refine Ev.bH (λ_=>hj1 _ (by simp)) (λhk7=>jZ λr _ _=>hj1 _ λ_=>hk7)
theorem Fp (hC:PC s T b) (hX:vB s b):∀ K,PG s T b K:=by
 intro K
 induction K with
 | zero=>
  constructor
  all_goals (intros;(try intro _ _ _ _ _ _ _ _ _);exact absurd ‹_<0› (Nat.not_lt_zero _))
 | succ K ih=>
  exact {
   expr:=λhm h0 h1 hq hK=>Hm hC ih hm h0 h1 hq hK
   alt:=λhm h0 h1 hq hK=>Jq hC ih hm h0 h1 hq hK
   wi:=λhm h0 h1 hq hK=>Hn hC ih hm h0 h1 hq hK
   bin:=λhm h0 h1 hq hl0 hl5 hK=>Jr hC ih hm h0 h1 hq hl0 hl5 hK
   unary:=λhm h0 h1 hq hK=>Fj hC ih hm h0 h1 hq hK
   post:=λhm h0 h1 hq hK=>Ho hC ih hm h0 h1 hq hK
   Bw:=λhm h0 h1 hq hK=>Hp hC ih hm h0 h1 hq hK
   named:=λhm h0 h1 hq ht hk hK=>Fl hC ih hm h0 h1 hq ht hk hK
   xw:=λhm h0 h1 ht hk _=>Dy hC hX hm h0 h1 ht hk
   parens:=λhm h0 h1 hq hK=>Dz hC ih hm h0 h1 hq hK
   xx:=λhm h0 h1 hq hK=>DA hC ih hm h0 h1 hq hK
   list:=λhm h0 h1 hq hK=>Hs hC ih hm h0 h1 hq hK
   block:=λhm h0 h1 hq hK=>Fm hC ih hm h0 h1 hq hK
   args:=λhm h0 h1 hq hK=>Hq hC ih hm h0 h1 hq hK
   item:=λhm h0 h1 hq hK=>Hr hC ih hm h0 h1 hq hK
   field:=λhm h0 h1 hq hd ht hk hk7 hK=>Fo hC ih hm h0 h1 hq hd ht hk hk7 hK
   pattern:=λhm h0 h1 hq hd hp hK=>B0 hC ih hm h0 h1 hq hd hp hK
   uG:=λhm h0 h1 hq hd hK=>B1 hC ih hm h0 h1 hq hd hK
   decl:=λhm h0 h1 hq ht hk hk7 hK=>Ht hC ih hm h0 h1 hq ht hk hk7 hK
   decls:=λ{m a k q j} hm h0 h1 hq hK=>by
    refine Ev.grow (F:=λn=>cU n j (cI s T a b k q)) hm λm hm=>?_;exact Bx (lead:=[]) hC hm h0 h1 hq (by simp;omega) (by simp) λhm2 ha h2 hq2 ht hk hk7=>ih.decl hm2 (by omega) h2 hq2 ht hk hk7 (by omega) }
end
theorem Ah {m:Nat->Nat} (hm:di m) {l:List aB} (hl:l.length<=70000):Ev (λi=>gB (m i) l) (λ_=>True) jm:=by
 unfold gB;refine Ev.aQ (Q:=λ_=>True) ?_ λy _=>Ev.ok trivial;unfold je;refine Ev.iter hm (λ(x:Int)=>0<=x/\x<=l.length) (λx=>(l.length - x).toNat) (by omega) ?_;intro x hx next hn;refine Ev.aW (λ_=>?_) (λ_=>Ev.ok trivial);refine Ev.eA λt _=>Ev.pw (by unfold pQ;rfl) ?_;refine Ev.br (λ_=>Ev.ok trivial) (λ_=>Ev.gA (hn _ (by omega) (by omega)))
theorem Hu:∀ (N:Nat) {m:Nat->Nat} {x:ByS} {f:Int},di m->x.length<N->0<=f->f+x.length<=65536->Ev (λi=>gR (m i) x f) (λr=>kL r.1) jm:=by
 intro N
 induction N with
 | zero=>intro m x f _ h;exact absurd h (Nat.not_lt_zero _)
 | succ N ih=>
  intro m x f hm hN h0 h1
  refine Ev.grow (F:=λn=>gR n x f) hm λm hm=>?_
  show Ev (λi=>jF (m i) (ai (m i)) x f) _ _
  unfold jF
  refine Ev.aQ (pZ hm) λy hy=>?_
  refine Ev.bU (λ_=>Ev.ok (.leaf (by decide))) (λhe=>?_)
  have hT:=(hy.2.2 he).2
  have hC:PC x y.1 f:=⟨hT,h0,h1⟩
  have hX:vB x f:=λhm2 hlt h2 h3=>ih hm2 (by omega) h2 (by omega)
  have hl:=hC.l9
  have hp:=hC.pos
  refine Ev.aQ (Ah hm (by omega)) λz _=>?_
  refine Ev.br (λ_=>Ev.ok (.leaf (by decide))) (λ_=>?_)
  refine Ev.A7 (R':=PP (f+x.length)) ?_ ?_
  ·refine gC (s:=x) (T:=y.1) (b:=f) (k:=true) (a:=0) (d:=0) (P:=kL) ((Fp hC hX _).expr hm (Int.le_refl _) (by omega) .none (Nat.lt_succ_self _)) λe a2 q2 h2 h3 hq2 he=>?_;dsimp only;exact fI hm hC (by omega) (by omega) λa3 t h4 h5 _ _ _=>Ev.ok he
  ·rintro p ⟨v,rfl,_,_⟩;refine Ev.sC ?_;unfold ig;exact Ev.ok (.leaf (by decide))
theorem B2 {s:ByS} {b:Int} (h1:b+s.length<=65536):vB s b:=λhm h h2 h3=>Hu _ hm (Nat.lt_succ_self _) h2 (by omega)
abbrev NZ {α:Type}:α->Prop:=λ_=>False
def RZ {α β:Type} (Z:α->Prop) (V:α->β->Prop) (x:al α) (y:al β):Prop:=∀ a,x=.ok a->Z a\/y=.stuck\/∃ b,y=.ok b/\V a b
def fp {α:Type} (x:al α):Prop:=∀ a,x≠.ok a
section
variable {α β γ δ X Y:Type} {V V':α->β->Prop} {W:γ->δ->Prop} {Z:α->Prop}
theorem RZ.ok {a:α} {b:β} (h:V a b):RZ Z V (.ok a) (.ok b):=λ_ e=>by cases e;exact .inr (.inr ⟨b,rfl,h⟩)
theorem RZ.kA {p:rW} {y:al β}:RZ Z V (.kA p) y:=λ_ e=>by cases e
theorem RZ.nil {y:al β}:RZ Z V .stuck y:=λ_ e=>by cases e
theorem RZ.o6 {x:al α}:RZ Z V x .stuck:=λ_ _=>.inr (.inl rfl)
theorem RZ.KS {a:α} {y:al β} (h:Z a):RZ Z V (.ok a) y:=λ_ e=>by cases e;exact .inl h
theorem RZ.mX {x:al α} {y:al β} (h:fp x):RZ Z V x y:=λa e=>absurd e (h a)
theorem fp.bind {x:al γ} {f:γ->al α} (h:∀ c,x=.ok c->fp (f c)):fp (al.bind x f):=λa e=>by
 cases x with
 | stuck=>cases e
 | kA p=>cases e
 | ok c=>exact h c rfl a e
theorem fp.br {b:Bool} {x y:al α} (ht:b=true->fp x) (hf:b=false->fp y):fp (al.br b x y):=by
 cases b with
 | true=>exact ht rfl
 | false=>exact hf rfl
theorem fp.gd {p:Prop} [Decidable p] {x:al α} (h:fp x):fp (al.gd p x):=by
 unfold al.gd;split
 ·exact h
 exact λa e=>by cases e
theorem RZ.mono {x:al α} {y:al β} (h:RZ Z V' x y) (hv:∀ a b,V' a b->V a b):RZ Z V x y:=λa e=>
 (h a e).imp_right λh=>h.imp_right λ⟨b,hb,hv'⟩=>⟨b,hb,hv a b hv'⟩
theorem RZ.bind {x:al γ} {y:al δ} {f:γ->al α} {g:δ->al β} (h:RZ NZ W x y) (hk:∀ a b,W a b->RZ Z V (f a) (g b)):RZ Z V (al.bind x f) (al.bind y g):=by
 intro a e;cases x with
 | stuck=>cases e
 | kA p=>cases e
 | ok c=>
  rcases h c rfl with q|q|⟨d,q,hd⟩
  ·exact q.elim
  ·subst q;exact .inr (.inl rfl)
  ·subst q;exact hk c d hd a e
theorem RZ.qJ {Z':γ->Prop} {x:al γ} {y:al δ} {f:γ->al α} {g:δ->al β} (h:RZ Z' W x y) (hz:∀ c,Z' c->∀ a,f c=.ok a->Z a) (hk:∀ a b,W a b->RZ Z V (f a) (g b)):RZ Z V (al.bind x f) (al.bind y g):=by
 intro a e;cases x with
 | stuck=>cases e
 | kA p=>cases e
 | ok c=>
  rcases h c rfl with q|q|⟨d,q,hd⟩
  ·exact .inl (hz c q a e)
  ·subst q;exact .inr (.inl rfl)
  ·subst q;exact hk c d hd a e
theorem RZ.same {x:al γ} {f:γ->al α} {g:γ->al β} (hk:∀ a,x=.ok a->RZ Z V (f a) (g a)):RZ Z V (al.bind x f) (al.bind x g):=
 RZ.bind (W:=λa b=>x=.ok a/\b=a) (λa e=>.inr (.inr ⟨a,e,e,rfl⟩)) λa b h=>by rw[h.2];exact hk a h.1
theorem RZ.br {b c:Bool} {x x':al α} {y y':al β} (h:c=b) (ht:b=true->RZ Z V x y) (hf:b=false->RZ Z V x' y'):RZ Z V (al.br b x x') (al.br c y y'):=by
 subst h;cases c with
 | true=>exact ht rfl
 | false=>exact hf rfl
theorem RZ.Lo {b:Bool} {x x':al α} {y:al β} (ht:b=true->RZ Z V x y) (hf:b=false->RZ Z V x' y):RZ Z V (al.br b x x') y:=by
 cases b with
 | true=>exact ht rfl
 | false=>exact hf rfl
theorem RZ.K4 {b:Bool} {x:al α} {y y':al β} (ht:b=true->RZ Z V x y) (hf:b=false->RZ Z V x y'):RZ Z V x (al.br b y y'):=by
 cases b with
 | true=>exact ht rfl
 | false=>exact hf rfl
theorem RZ.gd {p p':Prop} [Decidable p] [Decidable p'] {x:al α} {y:al β} (h:p->p'->RZ Z V x y):RZ Z V (al.gd p x) (al.gd p' y):=by
 unfold al.gd;split
 ·split
  ·exact h ‹_› ‹_›
  exact RZ.o6
 exact RZ.nil
theorem RZ.el {l:List X} {l':List Y} {j j':Int} {K:X->al α} {K':Y->al β} (h:∀ x y,0<=j->0<=j'->l[j.toNat]?=some x->l'[j'.toNat]?=some y->RZ Z V (K x) (K' y)):RZ Z V (al.el l j K) (al.el l' j' K'):=by
 unfold al.el;split
 ·split
  ·split
   ·split
    ·exact h _ _ ‹_› ‹_› ‹_› ‹_›
    exact RZ.o6
   exact RZ.o6
  exact RZ.nil
 exact RZ.nil
theorem RZ.some {o:Option X} {o':Option Y} {K:X->al α} {K':Y->al β} (h:∀ x y,o=some x->o'=some y->RZ Z V (K x) (K' y)):RZ Z V (al.some? o K) (al.some? o' K'):=by
 cases o with
 | none=>exact RZ.nil
 | some x=>cases o' with
  | none=>exact RZ.o6
  | some y=>exact h x y rfl rfl
theorem RZ.jn {j:X->al α} {j':Y->al β} {p:(X->al α)->al α} {p':(Y->al β)->al β} (J:X->Y->Prop) (hj:∀ v w,J v w->RZ Z V (j v) (j' w))
 (hp:∀ (j:X->al α) (j':Y->al β),(∀ v w,J v w->RZ Z V (j v) (j' w))->RZ Z V (p j) (p' j')):RZ Z V (al.jn j p) (al.jn j' p'):=hp j j' hj
theorem RZ.K5 {j:X->al α} {j':Y->al β} {p:(X->al α)->al α} {p':(Y->al β)->al β} (J:X->Y->Prop) (N:X->Prop) (hj:∀ v w,J v w->RZ Z V (j v) (j' w)) (hN:∀ v,N v->fp (j v))
 (hp:∀ (j:X->al α) (j':Y->al β),(∀ v w,J v w->RZ Z V (j v) (j' w))->(∀ v,N v->fp (j v))->RZ Z V (p j) (p' j')):RZ Z V (al.jn j p) (al.jn j' p'):=hp j j' hj hN
theorem fp.kW {x:al γ} {f:γ->al α} (h:fp x):fp (al.bind x f):=fp.bind λc e=>absurd e (h c)
theorem RZ.iter {body:(X->al α)->X->al α} {body':(Y->al β)->Y->al β} (I:X->Y->Prop)
  (hb:∀ x y,I x y->∀ (next:X->al α) (next':Y->al β),(∀ v w,I v w->RZ Z V (next v) (next' w))->RZ Z V (body next x) (body' next' y)) :
  ∀ (n n':Nat) {x:X} {y:Y},I x y->RZ Z V (al.iter body n x) (al.iter body' n' y)
 | 0,_,_,_,_=>RZ.nil
 | _+1,0,_,_,_=>RZ.o6
 | n+1,n'+1,x,y,h=>hb x y h _ _ λ_ _ q=>RZ.iter I hb n n' q
theorem RZ.A7 {x:al α} {y:al β} {H:rW->al α} {H':rW->al β} (h:RZ Z V x y) (hr:∀ p a,x=.kA p->H p=.ok a->(∀ b,y=.ok b->V a b)/\∀ q,y=.kA q->H' q=.stuck\/∃ b,H' q=.ok b/\V a b):RZ Z V (ko x H) (ko y H'):=by
 intro a e;cases x with
 | stuck=>cases e
 | ok c=>
  cases e
  rcases h a rfl with q|q|⟨d,q,hd⟩
  ·exact .inl q
  ·subst q;exact .inr (.inl rfl)
  ·subst q;exact .inr (.inr ⟨d,rfl,hd⟩)
 | kA p=>
  obtain ⟨h1,h2⟩:=hr p a rfl e
  cases y with
  | stuck=>exact .inr (.inl rfl)
  | ok b=>exact .inr (.inr ⟨b,rfl,h1 b rfl⟩)
  | kA q=>exact .inr (h2 q rfl)
end
section
variable {α β γ δ X Y:Type} {V:α->β->Prop} {Z:α->Prop}
def Q (Z:α->Prop) (x:al α):Prop:=∀ a,x=.ok a->Z a
theorem RZ.Js {j:X->al α} {j':Y->al β} {p:(X->al α)->al α} {p':(Y->al β)->al β} (J:X->Y->Prop) (N:X->Prop) (hj:∀ v w,J v w->RZ Z V (j v) (j' w)) (hN:∀ v,N v->Q Z (j v))
 (hp:∀ (j:X->al α) (j':Y->al β),(∀ v w,J v w->RZ Z V (j v) (j' w))->(∀ v,N v->Q Z (j v))->RZ Z V (p j) (p' j')):RZ Z V (al.jn j p) (al.jn j' p'):=hp j j' hj hN
theorem Q.iter {body:(X->al α)->X->al α} (N:X->Prop) (hN:∀ x,N x->∀ next,(∀ v,N v->Q Z (next v))->Q Z (body next x)):∀ (n:Nat) {x:X},N x->Q Z (al.iter body n x)
 | 0,_,_=>λa e=>by cases e
 | n+1,x,h=>hN x h _ λ_ q=>Q.iter N hN n q
theorem RZ.uH {body:(X->al α)->X->al α} {body':(Y->al β)->Y->al β} (I:X->Y->Prop) (N:X->Prop) (hN:∀ x,N x->∀ next,(∀ v,N v->Q Z (next v))->Q Z (body next x))
  (hb:∀ x y,I x y->∀ (next:X->al α) (next':Y->al β),(∀ v w,I v w->RZ Z V (next v) (next' w))->(∀ v,N v->Q Z (next v))->RZ Z V (body next x) (body' next' y)) :
  ∀ (n n':Nat) {x:X} {y:Y},I x y->RZ Z V (al.iter body n x) (al.iter body' n' y)
 | 0,_,_,_,_=>RZ.nil
 | _+1,0,_,_,_=>RZ.o6
 | n+1,n'+1,x,y,h=>hb x y h _ _ (λ_ _ q=>RZ.uH I N hN hb n n' q) (λ_ q=>Q.iter N hN n q)
theorem Q.bind {x:al γ} {f:γ->al α} (h:∀ c,x=.ok c->Q Z (f c)):Q Z (al.bind x f):=λa e=>by
 cases x with
 | stuck=>cases e
 | kA p=>cases e
 | ok c=>exact h c rfl a e
theorem Q.br {b:Bool} {x y:al α} (ht:b=true->Q Z x) (hf:b=false->Q Z y):Q Z (al.br b x y):=by
 cases b with
 | true=>exact ht rfl
 | false=>exact hf rfl
theorem Q.ok {a:α} (h:Z a):Q Z (.ok a):=λ_ e=>by cases e;exact h
theorem Q.mX {x:al α} (h:fp x):Q Z x:=λa e=>absurd e (h a)
theorem Q.gd {p:Prop} [Decidable p] {x:al α} (h:Q Z x):Q Z (al.gd p x):=by
 unfold al.gd;split
 ·exact h
 exact λa e=>by cases e
theorem Q.el {l:List X} {v:Int} {K:X->al α} (h:∀ x,0<=v->l[v.toNat]?=some x->Q Z (K x)):Q Z (al.el l v K):=by
 unfold al.el;split
 ·split
  ·exact h _ ‹_› ‹_›
  exact λa e=>by cases e
 exact λa e=>by cases e
theorem Q.rz {x:al α} {y:al β} (h:Q Z x):RZ Z V x y:=λa e=>.inl (h a e)
end
mutual
inductive EE:ak->ak->Prop where
 | mk {k:Int} {t:ByS} {n:Int} {a b:ByS} {l l':List ak} {d d':List aA} {tail:List ByS} {pos pos':Int} (h1:l.length=l'.length) (h2:∀ (i:Nat) x y,l[i]?=some x->l'[i]?=some y->EE x y)
  (h3:d.length=d'.length) (h4:∀ (i:Nat) x y,d[i]?=some x->d'[i]?=some y->DD x y):EE (ak.mk k t n a b l d tail pos) (ak.mk k t n a b l' d' tail pos')
inductive DD:aA->aA->Prop where
 | mk {k p:Int} {lb a b:ByS} {l l':List ak} {d d':List aA} {tail lead:List ByS} {trail:ByS} {pos pos':Int} (h1:l.length=l'.length) (h2:∀ (i:Nat) x y,l[i]?=some x->l'[i]?=some y->EE x y)
  (h3:d.length=d'.length) (h4:∀ (i:Nat) x y,d[i]?=some x->d'[i]?=some y->DD x y):DD (aA.mk k p lb a b l d tail lead trail pos) (aA.mk k p lb a b l' d' tail lead trail pos')
end
section
variable {k n p:Int} {t a b lb:ByS} {l l':List ak} {d d':List aA} {tail lead:List ByS} {trail:ByS} {pos pos':Int}
theorem EE.of (h:LR EE l l') (h':LR DD d d'):EE (ak.mk k t n a b l d tail pos) (ak.mk k t n a b l' d' tail pos'):=.mk h.1 h.2 h'.1 h'.2
theorem DD.of (h:LR EE l l') (h':LR DD d d'):DD (aA.mk k p lb a b l d tail lead trail pos) (aA.mk k p lb a b l' d' tail lead trail pos'):=.mk h.1 h.2 h'.1 h'.2
theorem EE.sub (h:LR EE l l'):EE (ak.mk k t n a b l [] tail pos) (ak.mk k t n a b l' [] tail pos'):=.of h .nil
theorem EE.leaf:EE (ak.mk k t n a b [] [] tail pos) (ak.mk k t n a b [] [] tail pos'):=.of .nil .nil
end
structure K6 (e e':ak):Prop where
 k:e'.Kind=e.Kind
 t:e'.Text=e.Text
 n:e'.kl=e.kl
 a:e'.bn=e.bn
 b:e'.bu=e.bu
 tl:e'.bT=e.bT
 s:LR EE e.bc e'.bc
 d:LR DD e.Decls e'.Decls
theorem EE.x {e e':ak} (h:EE e e'):K6 e e':=by
 cases h with
 | mk h1 h2 h3 h4=>exact ⟨rfl,rfl,rfl,rfl,rfl,rfl,⟨h1,h2⟩,⟨h3,h4⟩⟩
theorem K6.sub {e e':ak} (h:K6 e e') {l l':List ak} {pos pos':Int} (hl:LR EE l l'):EE (ak.mk e.Kind e.Text e.kl e.bn e.bu l [] [] pos) (ak.mk e'.Kind e'.Text e'.kl e'.bn e'.bu l' [] [] pos'):=by
 rw[h.k,h.t,h.n,h.a,h.b];exact .sub hl
structure Lv (e e':aA):Prop where
 k:e'.Kind=e.Kind
 p:e'.cG=e.cG
 t:e'.Label=e.Label
 a:e'.bn=e.bn
 b:e'.bu=e.bu
 tl:e'.bT=e.bT
 ld:e'.kh=e.kh
 tr:e'.Trail=e.Trail
 s:LR EE e.bc e'.bc
 d:LR DD e.Body e'.Body
theorem DD.x {e e':aA} (h:DD e e'):Lv e e':=by
 cases h with
 | mk h1 h2 h3 h4=>exact ⟨rfl,rfl,rfl,rfl,rfl,rfl,rfl,rfl,⟨h1,h2⟩,⟨h3,h4⟩⟩
def QR (q q':Option ak):Prop:=(q=none/\q'=none)\/∃ e e',q=some e/\q'=some e'/\EE e e'
theorem QR.none:QR none none:=.inl ⟨rfl,rfl⟩
theorem QR.Lp {q q':Option ak} (h:QR q q'):(q'.map ak.C).isNone=(q.map ak.C).isNone:=by
 rcases h with ⟨rfl,rfl⟩|⟨e,e',rfl,rfl,_⟩<;>rfl
theorem QR.Lw {q q':Option ak} (h:QR q q'):(q'.map ak.C).isSome=(q.map ak.C).isSome:=by
 rcases h with ⟨rfl,rfl⟩|⟨e,e',rfl,rfl,_⟩<;>rfl
end Go.Abs
end
section
namespace Go.Abs
open al
section
variable {α β:Type} {m:Nat} {a:Int} {k:Bool} {q:Option ak}
theorem o7 {t:aB} {x:ByS} (h:t.Kind≠5):bJ t x=.ok false:=by
 unfold bJ;cases e:t.Kind==5 with
 | false=>rfl
 | true=>exact absurd (by simpa using e) h
theorem Hv {t:aB} {x:ByS} (h:t.Kind=5):bJ t x=.ok (t.Text==x):=by
 unfold bJ;rw[h];rfl
theorem Jt {t:aB} {x:ByS} {r:Bool} (hr:bJ t x=.ok r) (e:r=true):t.Kind=5/\t.Text=x:=by
 subst e;unfold bJ at hr;cases h5:t.Kind==5 with
 | false=>rw[h5] at hr;simp[al.br] at hr
 | true=>rw[h5] at hr;simp[al.br] at hr;exact ⟨by simpa using h5,hr⟩
theorem gH {p:L} {K:L->al α}:fp (al.bind (aV m p) K):=by
 intro a e;unfold aV eR at e;cases h:be m p with
 | stuck=>rw[h] at e;cases e
 | kA _=>rw[h] at e;cases e
 | ok r=>rw[h] at e;cases e
theorem Ai {s:ByS} {T:List aB} {b:Int} (h:(T.length:Int)<=a):fp (ar m (cI s T a b k q)):=by
 have e:T[a.toNat]?=none:=List.getElem?_eq_none (by omega);unfold ar;cases m with
 | zero=>exact λr e=>by cases e
 | succ m=>
  show fp (al.br k _ _)
  refine fp.br (λ_=>?_) (λ_=>?_)
  ·simp only[al.el];rw[e];split<;>exact λr e=>by cases e
  ·simp only[al.el];rw[e];split<;>exact λr e=>by cases e
end
def B3 (T:List aB) (k:Bool) (a:Int):Prop:=0<=a/\∀ t,T[a.toNat]?=some t->(t.Kind=0\/t.Kind=7/\k=false\/t.Kind=6)
theorem B3.of {T:List aB} {k:Bool} {a:Int} {t:aB} (h0:0<=a) (ht:T[a.toNat]?=some t) (hk:t.Kind=0\/t.Kind=7/\k=false\/t.Kind=6):B3 T k a:=⟨h0,λu hu=>by rw[ht] at hu;cases hu;exact hk⟩
def Bd (n:Nat) (s:ByS) (T:List aB) (b:Int) (k:Bool) (a:Int):Prop:=B3 T k a\/0<=a/\(∃ t,T[a.toNat]?=some t/\t.Kind=5/\t.Text=[91])/\∀ m,m<=n->fp (dq m (cI s T a b k none))
def Pd (t:aB):Prop:=(t.Kind=0\/t.Kind=7\/t.Kind=6)\/t.Kind=5/\t.Text=[91]
section
variable {s:ByS} {T:List aB} {b a:Int} {k j:Bool} {m n:Nat} {α:Type} {q:Option ak}
theorem Bd.dn (h:Bd (n+1) s T b k a):Bd n s T b k a:=h.imp_right λh=>⟨h.1,h.2.1,λm hm=>h.2.2 m (by omega)⟩
theorem fp.jn {X:Type} {j:X->al α} {p:(X->al α)->al α} (h:fp (p j)):fp (al.jn j p):=h
theorem uI {t:aB} {x:ByS} (h:t.Kind≠5):eL m t x=.ok false:=by
 unfold eL;cases e:t.Kind==5 with
 | false=>rfl
 | true=>exact absurd (by simpa using e) h
theorem xy {t:aB} (h0:0<=a) (ht:T[a.toNat]?=some t) (hk:k=true->t.Kind≠7) (c:aB×L) (e:ar m (cI s T a b k q)=.ok c):c=(t,cI s T a b k q):=by
 unfold ar at e;cases m with
 | zero=>cases e
 | succ m=>
  have e:al.br k (al.el T a λx=>al.br (x.Kind==7) (al.gd (dY (a+1)) (al.iter _ m (cI s T (a+1) b k q))) (al.el T a λx=>.ok (x,cI s T a b k q))) (al.el T a λx=>.ok (x,cI s T a b k q))=.ok c:=e
  have e1:∀ {β:Type} (K:aB->al β),al.el T a K=K t:=λK=>by simp only[al.el];rw[if_pos h0,ht]
  rw[e1,e1] at e
  cases k with
  | false=>cases e;rfl
  | true=>
   have e3:(t.Kind==7)=false:=beq_eq_false_iff_ne.2 (hk rfl)
   rw[e3] at e;cases e;rfl
theorem rD (h:B3 T k a) (c:aB×L) (e:ar m (cI s T a b k q)=.ok c):∃ t,c=(t,cI s T a b k q)/\T[a.toNat]?=some t/\(t.Kind=0\/t.Kind=7\/t.Kind=6):=by
 obtain ⟨h0,hk⟩:=h;cases ht:T[a.toNat]? with
 | none=>exact absurd e (Ai (by have:=List.getElem?_eq_none_iff.1 ht;omega) c)
 | some t=>
 have hk:=hk t ht;refine ⟨t,xy h0 ht (λh=>?_) c e,rfl,hk.imp_right λh=>h.imp_left λh=>h.1⟩;subst h;rcases hk with hk|⟨_,hk⟩|hk
 ·omega
 ·cases hk
 omega
theorem By (h:Bd n s T b k a) (c:aB×L) (e:ar m (cI s T a b k q)=.ok c):∃ t,c=(t,cI s T a b k q)/\T[a.toNat]?=some t/\Pd t:=by
 rcases h with h|⟨h0,⟨t,ht,h5,hx⟩,_⟩
 ·obtain ⟨t,h1,h2,h3⟩:=rD h c e;exact ⟨t,h1,h2,.inl h3⟩
 exact ⟨t,xy h0 ht (λ_=>by omega) c e,ht,.inr ⟨h5,hx⟩⟩
theorem yG {t:aB} (h:Pd t) {x:ByS} (hx:[91]≠x):bJ t x=.ok false:=by
 rcases h with h|⟨h5,h⟩
 ·exact o7 (by omega)
 rw[Hv h5,h,beq_eq_false_iff_ne.2 hx]
theorem Fq {l:List ByS} {x:ByS} (hx:l.contains x=false) (n:Nat):slices_Contains_string n l x=.stuck\/slices_Contains_string n l x=.ok false:=by
 have H:∀ (n:Nat) (v:Int),slices_Index_string n l x=.stuck\/slices_Index_string n l x=.ok (-1):=by
  unfold slices_Index_string;suffices H:∀ (n:Nat) (v:Int),al.iter (λnext (v:Int)=>al.br (decide (v<(l.length:Int))) (al.el l v λy=>al.br (x==y) (.ok v) (al.gd (dY (v+1)) (next (v+1)))) (.ok (-1))) n v=.stuck\/al.iter (λnext (v:Int)=>al.br (decide (v<(l.length:Int))) (al.el l v λy=>al.br (x==y) (.ok v) (al.gd (dY (v+1)) (next (v+1)))) (.ok (-1))) n v=.ok (-1) from λn _=>H n 0
  intro n
  induction n with
  | zero=>exact λ_=>.inl rfl
  | succ n ih=>
   intro v
   simp only[al.iter]
   cases decide (v<(l.length:Int)) with
   | false=>exact .inr rfl
   | true=>
    simp only[al.br,al.el]
    split
    ·split
     ·rename_i y hy;have hy:=List.mem_of_getElem? hy;have e:(x==y)=false:=by
       cases q:x==y with
       | false=>rfl
       | true=>
        have q:=beq_iff_eq.1 q
        subst q
        rw[List.contains_iff_mem.2 hy] at hx;cases hx
      rw[e];simp only[al.gd];split
      ·exact ih _
      exact .inl rfl
     exact .inl rfl
    ·exact .inl rfl
 unfold slices_Contains_string;rcases H n 0 with q|q
 ·rw[q];exact .inl rfl
 rw[q];exact .inr rfl
theorem Bz {t:aB} (h:Pd t) {x:ByS} (hx:(nQ [32] (x.length+1) x).contains [91]=false) (c:Bool) (e:eL m t x=.ok c):c=false:=by
 rcases h with h|⟨h5,h⟩
 ·rw[uI (by omega)] at e;cases e;rfl
 unfold eL at e;rw[h5,h] at e;have e:al.bind (strings_Split x [32]) (λy=>al.bind (slices_Contains_string m y [91]) λz=>.ok z)=.ok c:=e;unfold strings_Split al.gd at e;split at e
 ·have e:al.bind (slices_Contains_string m (nQ [32] (x.length+1) x) [91]) (λz=>.ok z)=.ok c:=e;rcases Fq hx m with q|q
  ·rw[q] at e;cases e
  rw[q] at e;cases e;rfl
 cases e
theorem wE (h:B3 T k a) (c:Int×L) (e:be m (cI s T a b k q)=.ok c):∃ v,c=(v,cI s T a b k q):=by
 unfold be at e;cases h1:ar m (cI s T a b k q) with
 | stuck=>rw[h1] at e;cases e
 | kA _=>rw[h1] at e;cases e
 | ok r=>
  obtain ⟨t,rfl,_⟩:=rD h r h1
  rw[h1] at e
  simp only[al.bind,al.gd] at e
  split at e
  ·cases e;exact ⟨_,rfl⟩
  ·cases e
theorem Fs (h:Bd n s T b k a) (c:Int×L) (e:be m (cI s T a b k q)=.ok c):∃ v,c=(v,cI s T a b k q):=by
 unfold be at e;cases h1:ar m (cI s T a b k q) with
 | stuck=>rw[h1] at e;cases e
 | kA _=>rw[h1] at e;cases e
 | ok r=>
  obtain ⟨t,rfl,_⟩:=By h r h1
  rw[h1] at e
  simp only[al.bind,al.gd] at e
  split at e
  ·cases e;exact ⟨_,rfl⟩
  ·cases e
theorem um (h:B3 T k a) {x:ByS} (c:Bool×L) (e:bK m x (cI s T a b k q)=.ok c):c=(false,cI s T a b k q):=by
 unfold bK at e;cases h1:ar m (cI s T a b k q) with
 | stuck=>rw[h1] at e;cases e
 | kA _=>rw[h1] at e;cases e
 | ok r=>
  obtain ⟨t,rfl,_,hk⟩:=rD h r h1
  rw[h1] at e
  simp only[al.bind] at e
  rw[o7 (by omega)] at e
  cases e;rfl
theorem Kv (h:Bd n s T b k a) {x:ByS} (hx:[91]≠x) (c:Bool×L) (e:bK m x (cI s T a b k q)=.ok c):c=(false,cI s T a b k q):=by
 unfold bK at e;cases h1:ar m (cI s T a b k q) with
 | stuck=>rw[h1] at e;cases e
 | kA _=>rw[h1] at e;cases e
 | ok r=>
  obtain ⟨t,rfl,_,hk⟩:=By h r h1
  rw[h1] at e
  simp only[al.bind] at e
  rw[yG hk hx] at e
  cases e;rfl
theorem l0 (h:B3 T k a) {x:ByS} {K:L->al α}:fp (al.bind (cg m x (cI s T a b k q)) K):=by
 refine fp.kW ?_;unfold cg;refine fp.bind λc e=>?_;obtain ⟨t,rfl,_,hk⟩:=rD h c e;dsimp only;rw[o7 (by omega)];exact fp.bind λc e=>by
  cases e;exact fp.br (λ_=>gH) (λh=>by cases h)
structure NE (n:Nat):Prop where
 expr:∀ {s:ByS} {T:List aB} {b a:Int} {k j:Bool},Bd n s T b k a->fp (aF n j (cI s T a b k none))
 alt:∀ {s:ByS} {T:List aB} {b a:Int} {k j:Bool},Bd n s T b k a->fp (bt n j (cI s T a b k none))
 wi:∀ {s:ByS} {T:List aB} {b a:Int} {k j:Bool},Bd n s T b k a->fp (bk n j (cI s T a b k none))
 bin:∀ {s:ByS} {T:List aB} {b a l:Int} {k j:Bool},Bd n s T b k a->fp (bL n l j (cI s T a b k none))
 unary:∀ {s:ByS} {T:List aB} {b a:Int} {k j:Bool},Bd n s T b k a->fp (cr n j (cI s T a b k none))
 post:∀ {s:ByS} {T:List aB} {b a:Int} {k j:Bool},Bd n s T b k a->fp (bZ n j (cI s T a b k none))
 Bw:∀ {s:ByS} {T:List aB} {b a:Int} {k j:Bool},Bd n s T b k a->fp (cE n j (cI s T a b k none))
theorem p7:∀ n,NE n:=by
 intro n
 induction n with
 | zero=>constructor<;>(intros;exact λr e=>by cases e)
 | succ n ih=>
  refine ⟨?_,?_,?_,?_,?_,?_,?_⟩
  ·intro s T b a k j h;show fp (eM n (ai n) j (cI s T a b k none));unfold eM;refine fp.jn (fp.br (λ_=>fp.bind λc e=>?_) (λh=>by cases h));obtain ⟨t,rfl,_,hk⟩:=By h c e;dsimp only;rw[yG hk (by decide)];exact fp.jn (fp.br (λ_=>fp.kW (ih.alt h.dn)) (λ_=>fp.kW (ih.alt h.dn)))
  ·intro s T b a k j h;show fp (c8 n (ai n) j (cI s T a b k none));unfold c8;refine fp.br (λ_=>fp.bind λc e=>?_) (λh=>by cases h);obtain ⟨v,rfl⟩:=Fs h c e;dsimp only;refine fp.bind λc e=>?_;have e:=Kv h (by decide) c e;subst e;exact fp.br (λh=>by cases h) (λ_=>fp.kW (ih.wi h.dn))
  ·intro s T b a k j h;show fp (da n (ai n) j (cI s T a b k none));unfold da;exact fp.kW (ih.bin h.dn)
  ·intro s T b a l k j h;show fp (ef n (ai n) l j (cI s T a b k none));unfold ef;exact fp.br (λ_=>fp.kW (ih.unary h.dn)) (λ_=>fp.gd (fp.kW (ih.bin h.dn)))
  ·intro s T b a k j h;show fp (ek n (ai n) j (cI s T a b k none));unfold ek;refine fp.br (λh=>by cases h) (λ_=>fp.bind λc e=>?_);obtain ⟨t,rfl,_,hk⟩:=By h c e;dsimp only;refine fp.bind λc e=>?_;obtain ⟨v,rfl⟩:=Fs h c e;dsimp only;refine fp.jn (fp.bind λc e=>?_);have e:=Bz hk rfl c e;subst e;refine fp.br (λh=>by cases h) (λ_=>fp.bind λc e=>?_);have e:=Bz hk rfl c e;subst e;exact fp.br (λh=>by cases h) (λ_=>fp.kW (ih.post h.dn))
  ·intro s T b a k j h;show fp (dP n (ai n) j (cI s T a b k none));unfold dP;exact fp.kW (ih.Bw h.dn)
  ·intro s T b a k j h;show fp (dQ n (ai n) j (cI s T a b k none));unfold dQ;refine fp.br (λh=>by cases h) (λ_=>fp.bind λc e=>?_);obtain ⟨t,rfl,ht,hk⟩:=By h c e;dsimp only;refine fp.bind λc e=>?_;obtain ⟨v,rfl⟩:=Fs h c e;dsimp only;have hb:∀ {n:Int},n≠0->n≠7->n≠6->n≠5->(t.Kind==n)=false:=λ{n} h0 h7 h6 h5=>beq_eq_false_iff_ne.2 (by rcases hk with hk|hk<;>omega);refine fp.jn ?_;rw[hb (by decide) (by decide) (by decide) (by decide),hb (by decide) (by decide) (by decide) (by decide),hb (by decide) (by decide) (by decide) (by decide),hb (by decide) (by decide) (by decide) (by decide)];rw[yG hk (by decide),yG hk (by decide),yG hk (by decide),yG hk (by decide)];refine fp.bind λc e=>fp.br (λhc=>fp.kW ?_) (λ_=>gH);have hop:=Jt e hc;rcases h with h|⟨_,_,h⟩
   ·have:=h.2 t ht;omega
   exact h n (by omega)
end
structure Cx where
 s:ByS
 T:List aB
 b:Int
 s':ByS
 T':List aB
 b':Int
 κ:Nat
 B:Nat
def Cx.Ln (C:Cx):Prop:=∀ t',C.T'[C.B+C.κ]?=some t'->t'.Kind=7
def Cx.Cm (C:Cx) (a:Int):Prop:=∀ (i:Nat) t,a<=i->i<C.B->C.T[i]?=some t->t.Kind=6
def ST (t t':aB):Prop:=t'.Kind=t.Kind/\t'.Text=t.Text
def Sg (t t':aB):Prop:=ST t t'\/(t.Kind=0/\t'.Kind=7)
def cap (l:List aB) (i:Int):Int:=if (l.length:Int) - 1<i then (l.length:Int) - 1 else i
structure Cx.jC (C:Cx):Prop where
 tok:∀ (i:Nat) t t',i<C.B->C.T[i]?=some t->C.T'[i+C.κ]?=some t'->ST t t'
 e0:∀ t,C.T[C.B]?=some t->t.Kind=0
 en:C.T.length<=C.B+1
 el:C.B<=C.T.length
 ln:∀ (i:Nat) t,i<C.B->C.T[i]?=some t->kE t.Kind t.Text=true->C.Cm (i+1)->C.Ln
 nl:∀ (i j:Nat) t u t' u',i<C.B->j<C.B->C.T[i]?=some t->C.T[j]?=some u->C.T'[i+C.κ]?=some t'->C.T'[j+C.κ]?=some u'->RZ NZ Eq (strings_Contains (sub C.s t.End u.Pos) [10]) (strings_Contains (sub C.s' t'.End u'.Pos) [10])
 K7:∀ (i:Int) t t',0<=i->C.T[(cap C.T i).toNat]?=some t->C.T'[(cap C.T' (i+C.κ)).toNat]?=some t'->ST t t'\/((C.B:Int)<=i/\t.Kind=0/\(i=C.B->C.Ln->t'.Kind=7))
def Hw (C:Cx) (k:Bool) (a:Int):Prop:=a<C.B\/(a=C.B/\k=false/\C.Ln)
def rE (C:Cx) (k:Bool) (a:Int):Prop:=Hw C k a/\(k=false->C.Cm a->C.Ln)
theorem rE.le {C:Cx} {k:Bool} {a:Int} (h:rE C k a):a<=C.B:=by rcases h.1 with h|⟨h,_⟩<;>omega
theorem Hw.t {C:Cx} {a:Int} (h:Hw C true a):a<C.B:=by
 rcases h with h|⟨_,h,_⟩
 ·exact h
 cases h
theorem rE.step {C:Cx} {k:Bool} {a b:Int} (h:rE C k a) (h1:Hw C k b) (h2:k=false->b=a):rE C k b:=⟨h1,λhk=>h2 hk▸h.2 hk⟩
theorem rE.lt {C:Cx} {k:Bool} {a:Int} {t:aB} (h0:0<=a) (h:a<C.B) (ht:C.T[a.toNat]?=some t) (hk:t.Kind≠6):rE C k a:=⟨.inl h,λ_ q=>absurd (q _ t (by omega) (by omega) ht) hk⟩
abbrev eh (C:Cx) (a:Int) (k:Bool) (q:Option ak):L:=cI C.s C.T a C.b k q
abbrev eC (C:Cx) (a:Int) (k:Bool) (q:Option ak):L:=cI C.s' C.T' (a+C.κ) C.b' k q
def Rl (C:Cx) (k:Bool) (a:Int) (p p':L):Prop:=∃ a1,p=eh C a1 k none/\p'=eC C a1 k none/\a<=a1/\rE C k a1
theorem tn {a:Int} (h0:0<=a) {κ:Nat}:(a+κ).toNat=a.toNat+κ:=by omega
theorem Sg.kk {t t':aB} (h:Sg t t') {n:Int} (h0:n≠0) (h7:n≠7):(t'.Kind==n)=(t.Kind==n):=by
 rcases h with h|⟨h1,h2⟩
 ·rw[h.1]
 rw[h1,h2,Bool.eq_iff_iff];simp;omega
theorem Sg.s {t t':aB} (h:Sg t t') (hk:t.Kind≠0):ST t t':=h.resolve_right λq=>hk q.1
theorem Ft {t t':aB} (h:Sg t t') (x:ByS):bJ t' x=bJ t x:=by
 rcases h with h|⟨h1,h2⟩
 ·unfold bJ;rw[h.1,h.2]
 rw[o7 (t:=t) (by omega),o7 (t:=t') (by omega)]
theorem Aj {t t':aB} (h:Sg t t') (x:ByS):bI t' x=bI t x:=by
 unfold bI;rw[h.kk (by decide) (by decide)];rcases h with h|⟨h1,_⟩
 ·rw[h.2]
 rw[h1];rfl
theorem p8 {t:aB} {x:ByS} (h:t.Kind≠1):bI t x=.ok false:=by
 unfold bI;rw[show (t.Kind==1)=false by simp[h]];rfl
section
variable {m:Nat}
theorem Fu {t t':aB} (h:Sg t t') (x:ByS):eL m t' x=eL m t x:=by
 rcases h with h|⟨h1,h2⟩
 ·unfold eL;rw[h.1,h.2]
 rw[uI (t:=t) (by omega),uI (t:=t') (by omega)]
theorem B4 {t t':aB} (h:Sg t t'):fi m t'=fi m t:=by
 unfold fi;rw[h.kk (by decide) (by decide),h.kk (by decide) (by decide)];rcases h with h|⟨h1,_⟩
 ·rw[h.2]
 rw[h1];rfl
end
section
variable {C:Cx} {α β X Y:Type} {V:α->β->Prop} {Z:α->Prop} {m:Nat} {a:Int} {k:Bool} {q q':Option ak}
theorem kF {t t':aB} (h:Sg t t') {x:ByS} {K:Bool->al α} {K':Bool->al β} (hk:∀ r,(r=true->t.Kind=5/\t.Text=x)->RZ Z V (K r) (K' r)):RZ Z V (al.bind (bJ t x) K) (al.bind (bJ t' x) K'):=by
 rw[Ft h];exact RZ.same λr hr=>hk r (Jt hr)
theorem rF {t t':aB} (h:Sg t t') {x:ByS} {K:Bool->al α} {K':Bool->al β} (hk:∀ r,RZ Z V (K r) (K' r)):RZ Z V (al.bind (bI t x) K) (al.bind (bI t' x) K'):=by
 rw[Aj h];exact RZ.same λr _=>hk r
theorem uJ {t t':aB} (h:Sg t t') {x:ByS} {K:Bool->al α} {K':Bool->al β} (hk:∀ r,(r=true->t.Kind=5)->RZ Z V (K r) (K' r)):RZ Z V (al.bind (eL m t x) K) (al.bind (eL m t' x) K'):=by
 rw[Fu h];refine RZ.same λr hr=>hk r λe=>?_;by_cases q:t.Kind=5
 ·exact q
 rw[uI q] at hr;cases hr;cases e
theorem xz {t t':aB} (h:Sg t t') {K:Bool->al α} {K':Bool->al β} (hk:∀ r,(r=true->t.Kind=3\/t.Kind=1)->RZ Z V (K r) (K' r)):RZ Z V (al.bind (fi m t) K) (al.bind (fi m t') K'):=by
 rw[B4 h];refine RZ.same λr hr=>hk r λe=>?_;subst e;unfold fi at hr;cases h3:t.Kind==3 with
 | true=>exact .inl (by simpa using h3)
 | false=>
  cases h1:t.Kind==1 with
  | true=>exact .inr (by simpa using h1)
  | false=>rw[h3,h1] at hr;simp[al.br] at hr
theorem Cx.jC.bad (hC:C.jC):B3 C.T k C.B:=⟨by omega,λt ht=>.inl (hC.e0 t (by simpa using ht))⟩
abbrev pB (C:Cx) (q:Option ak):L:=cI C.s C.T C.B C.b true q
theorem Ak (hC:C.jC) (h0:0<=a) (hP:Hw C k a):RZ (λr=>k=true/\∃ t,r=(t,pB C q)/\t.Kind=0)
  (λr r'=>∃ a1 t t',r=(t,eh C a1 k q)/\r'=(t',eC C a1 k q')/\a<=a1/\Hw C k a1/\C.T[a1.toNat]?=some t/\Sg t t'/\(k=true->t.Kind≠7)/\(∀ u,C.T[a.toNat]?=some u->(k=true->u.Kind≠7)->a1=a)/\(a1<C.B->ST t t'))
  (ar m (eh C a k q)) (ar m (eC C a k q')):=by
 have hsg:∀ {a1:Int} {t t':aB},0<=a1->Hw C k a1->C.T[a1.toNat]?=some t->C.T'[(a1+C.κ).toNat]?=some t'->Sg t t':=λ{a1 t t'} g0 g1 g2 g3=>by
  rw[tn g0] at g3
  rcases g1 with g1|⟨rfl,_,g1⟩
  ·exact .inl (hC.tok _ _ _ (by omega) g2 g3)
  ·exact .inr ⟨hC.e0 t (by simpa using g2),g1 t' (by simpa using g3)⟩
 unfold ar
 refine RZ.Js (λv w=>∃ a1,v=eh C a1 k q/\w=eC C a1 k q'/\a<=a1/\Hw C k a1/\(k=true->∀ t,C.T[a1.toNat]?=some t->t.Kind≠7)/\∀ u,C.T[a.toNat]?=some u->(k=true->u.Kind≠7)->a1=a) (λv=>k=true/\v=pB C q) (λv w h=>?_) (λv h=>?_) (λj j' hj hN=>?_)
 ·obtain ⟨a1,rfl,rfl,h1,h2,h7,h8⟩:=h
  refine RZ.el λt t' g0 _ ht ht'=>RZ.ok ?_
  exact ⟨a1,t,t',rfl,rfl,h1,h2,ht,hsg g0 h2 ht ht',λh=>h7 h t ht,h8,λh=>hC.tok _ _ _ (show a1.toNat<C.B by have:(eh C a1 k q).at_=a1:=rfl;omega) ht (by rw[tn g0] at ht';exact ht')⟩
 ·obtain ⟨hk,rfl⟩:=h
  exact Q.el λt _ ht=>Q.ok ⟨hk,t,rfl,hC.e0 t (by simpa using ht)⟩
 ·refine RZ.uH (λv w=>∃ a1,v=eh C a1 k q/\w=eC C a1 k q'/\a<=a1/\Hw C k a1/\∀ u,C.T[a.toNat]?=some u->(k=true->u.Kind≠7)->a1=a) (λv=>k=true/\v=pB C q) (λv h next hn=>?_) (λv w h next next' hn hz=>?_) _ _ ⟨a,rfl,rfl,by omega,hP,λ_ _ _=>rfl⟩
  ·obtain ⟨hk,rfl⟩:=h
   refine Q.br (λ_=>Q.el λt _ ht=>?_) (λq=>by cases q)
   rw[hC.e0 t (by simpa using ht)]
   exact hN _ ⟨hk,rfl⟩
  ·obtain ⟨a1,rfl,rfl,h1,h2,h8⟩:=h
   dsimp only
   refine RZ.br rfl (λhk=>?_) (λhk=>hj _ _ ⟨a1,rfl,rfl,h1,h2,(λh=>by rw[hk] at h;cases h),h8⟩)
   subst hk
   have hlt:=h2.t
   refine RZ.el λt t' g0 _ ht ht'=>?_
   rw[tn g0] at ht'
   have hs:=hC.tok _ _ _ (by omega) ht ht'
   rw[hs.1]
   refine RZ.br rfl (λh7=>?_) (λh7=>hj _ _ ⟨a1,rfl,rfl,h1,h2,λ_ u hu=>by rw[ht] at hu;cases hu;simpa using h7,h8⟩)
   by_cases hB:a1+1<C.B
   ·refine RZ.gd λ_ _=>hn _ _ ⟨a1+1,rfl,by congr 1;omega,by omega,.inl hB,λu hu hk2=>?_⟩
    have e:=h8 u hu hk2
    subst e
    rw[ht] at hu;cases hu
    exact absurd (by simpa using h7) (hk2 rfl)
   ·have e:a1+1=C.B:=by omega
    rw[e]
    exact Q.rz (Q.gd (hz _ ⟨rfl,rfl⟩))
theorem jl (hC:C.jC) (hP:rE C k a) {K:aB×L->al α} {K':aB×L->al β}
  (hk:∀ a1 t t',a<=a1->rE C k a1->C.T[a1.toNat]?=some t->Sg t t'->((k=true->t.Kind≠7)/\(∀ u,C.T[a.toNat]?=some u->(k=true->u.Kind≠7)->a1=a)/\(a1<C.B->ST t t')/\(k=false->a1=a))->RZ Z V (K (t,eh C a1 k q)) (K' (t',eC C a1 k q')))
  (hz:k=true->∀ t,t.Kind=0->Q Z (K (t,pB C q))) (h0:0<=a:=by omega) :
  RZ Z V (al.bind (ar m (eh C a k q)) K) (al.bind (ar m (eC C a k q')) K'):=by
 refine RZ.qJ (Ak hC h0 hP.1) (λc hc x e=>?_) λr r' h=>?_
 ·obtain ⟨hk',t,rfl,ht⟩:=hc
  exact hz hk' t ht x e
 ·obtain ⟨a1,t,t',rfl,rfl,h1,h2,h3,h4,h5,h6,h7⟩:=h
  have e:k=false->a1=a:=λhk=>by
   cases hu:C.T[a.toNat]? with
   | some u=>exact h6 u hu (λh=>by rw[hk] at h;cases h)
   | none=>have:=List.getElem?_eq_none_iff.1 hu;have:=(List.getElem?_eq_some_iff.1 h3).1;omega
  exact hk a1 t t' h1 (hP.step h2 e) h3 h4 ⟨h5,h6,h7,e⟩
theorem mB (hC:C.jC) (ha:a<C.B) {K:aB×L->al α} {K':aB×L->al β}
  (hk:∀ t t',C.T[a.toNat]?=some t->ST t t'->RZ Z V (K (t,eh C a false q)) (K' (t',eC C a false q'))) (h0:0<=a:=by omega) :
  RZ Z V (al.bind (ar m (eh C a false q)) K) (al.bind (ar m (eC C a false q')) K'):=by
 refine RZ.qJ (Ak hC h0 (.inl ha)) (λc hc x e=>by cases hc.1) λr r' h=>?_
 obtain ⟨a1,t,t',rfl,rfl,h1,h2,h3,h4,h5,h6,h7⟩:=h
 have e:a1=a:=by
  cases hu:C.T[a.toNat]? with
  | some u=>exact h6 u hu (λh=>by cases h)
  | none=>have:=List.getElem?_eq_none_iff.1 hu;have:=(List.getElem?_eq_some_iff.1 h3).1;omega
 subst e
 exact hk t t' h3 (h7 ha)
theorem Kw (hC:C.jC):∀ c,ar m (pB C q)=.ok c->∃ t,c=(t,pB C q)/\t.Kind=0:=λc e=>by
 obtain ⟨t,h1,h2,h3⟩:=rD hC.bad c e;exact ⟨t,h1,hC.e0 t (by simpa using h2)⟩
theorem rG (hC:C.jC) {K:aB×L->al α} (hk:∀ t,t.Kind=0->Q Z (K (t,pB C q))):Q Z (al.bind (ar m (pB C q)) K):=
 Q.bind λc e=>by obtain ⟨t,rfl,h⟩:=Kw hC c e;exact hk t h
theorem s5 (hC:C.jC) {K:Int×L->al α} (hk:∀ v,Q Z (K (v,pB C q))):Q Z (al.bind (be m (pB C q)) K):=
 Q.bind λc e=>by obtain ⟨v,rfl⟩:=wE hC.bad c e;exact hk v
theorem kM (hC:C.jC) {x:ByS} {K:Bool×L->al α} (hk:Q Z (K (false,pB C q))):Q Z (al.bind (bK m x (pB C q)) K):=
 Q.bind λc e=>by rw[um hC.bad c e];exact hk
theorem lK {t:aB} (h:t.Kind=0) {x:ByS} {K:Bool->al α} (hk:Q Z (K false)):Q Z (al.bind (bJ t x) K):=by
 rw[o7 (by omega)];exact hk
theorem pJ {t:aB} (h:t.Kind=0) {x:ByS} {K:Bool->al α} (hk:Q Z (K false)):Q Z (al.bind (bI t x) K):=by
 rw[p8 (by omega)];exact hk
theorem s6 {t:aB} (h:t.Kind=0) {x:ByS} {K:Bool->al α} (hk:Q Z (K false)):Q Z (al.bind (eL m t x) K):=by
 rw[uI (by omega)];exact hk
theorem Al {v:Int} {p:L} {K:L->al α} {y:al β}:RZ Z V (al.bind (eR v p) K) y:=by unfold eR;exact RZ.kA
theorem iJ {p:L} {K:L->al α} {y:al β}:RZ Z V (al.bind (aV m p) K) y:=RZ.mX gH
theorem kb {p:L} {K:L->al α}:Q Z (al.bind (aV m p) K):=Q.mX gH
theorem xA (hC:C.jC) (hP:rE C k a) {K:Int×L->al α} {K':Int×L->al β} (hk:∀ a1 v w,a<=a1->rE C k a1->(∀ u,C.T[a.toNat]?=some u->(k=true->u.Kind≠7)->a1=a)->RZ Z V (K (v,eh C a1 k q)) (K' (w,eC C a1 k q')))
  (hz:k=true->∀ v,Q Z (K (v,pB C q))) (h0:0<=a:=by omega) :
  RZ Z V (al.bind (be m (eh C a k q)) K) (al.bind (be m (eC C a k q')) K'):=by
 refine RZ.qJ (Z':=λr=>k=true/\∃ v,r=(v,pB C q)) (W:=λr r'=>∃ a1 v w,r=(v,eh C a1 k q)/\r'=(w,eC C a1 k q')/\a<=a1/\rE C k a1/\∀ u,C.T[a.toNat]?=some u->(k=true->u.Kind≠7)->a1=a) ?_ (λc hc x e=>?_) λr r' h=>?_
 ·unfold be
  exact jl hC hP (λa1 t t' h1 h2 _ _ h5=>RZ.gd λ_ _=>RZ.ok ⟨a1,_,_,rfl,rfl,h1,h2,h5.2.1⟩) (λhk t _=>Q.gd (Q.ok ⟨hk,_,rfl⟩))
 ·obtain ⟨hk',v,rfl⟩:=hc
  exact hz hk' v x e
 ·obtain ⟨a1,v,w,rfl,rfl,h1,h2,h3⟩:=h
  exact hk a1 v w h1 h2 h3
theorem ly (hC:C.jC) (hP:rE C k a) {x:ByS} {K:Bool×L->al α} {K':Bool×L->al β}
  (ht:∀ a1 t,a<a1->a1<=C.B->C.T[(a1 - 1).toNat]?=some t->t.Kind=5/\t.Text=x->RZ Z V (K (true,eh C a1 k q)) (K' (true,eC C a1 k q')))
  (hf:∀ a1,a<=a1->rE C k a1->RZ Z V (K (false,eh C a1 k q)) (K' (false,eC C a1 k q'))) (hz:k=true->Q Z (K (false,pB C q))) (h0:0<=a:=by omega) :
  RZ Z V (al.bind (bK m x (eh C a k q)) K) (al.bind (bK m x (eC C a k q')) K'):=by
 refine RZ.qJ (Z':=λr=>k=true/\r=(false,pB C q)) (W:=λr r'=>(∃ a1 t,r=(true,eh C a1 k q)/\r'=(true,eC C a1 k q')/\a<a1/\a1<=C.B/\C.T[(a1 - 1).toNat]?=some t/\t.Kind=5/\t.Text=x)\/∃ a1,r=(false,eh C a1 k q)/\r'=(false,eC C a1 k q')/\a<=a1/\rE C k a1) ?_ (λc hc x e=>?_) λr r' h=>?_
 ·unfold bK
  refine jl hC hP (λa1 t t' h1 h2 h3 h4 _=>?_) (λhk t h=>lK h (Q.ok ⟨hk,rfl⟩))
  dsimp only
  refine kF h4 λr hr=>RZ.br rfl (λ_=>RZ.ok (.inr ⟨a1,rfl,rfl,h1,h2⟩)) (λe=>?_)
  have hr:=hr (by simpa using e)
  have hlt:a1<C.B:=by
   rcases h2.1 with h2|⟨rfl,_⟩
   ·exact h2
   ·have:=hC.e0 t (by simpa using h3);omega
  exact RZ.gd λ_ _=>RZ.ok (.inl ⟨a1+1,t,rfl,by congr 2;omega,by omega,by omega,by simpa using h3,hr⟩)
 ·obtain ⟨hk,rfl⟩:=hc
  exact hz hk x e
 ·rcases h with ⟨a1,t,rfl,rfl,h1,h2,h3,h4⟩|⟨a1,rfl,rfl,h1,h2⟩
  ·exact ht a1 t h1 h2 h3 h4
  ·exact hf a1 h1 h2
theorem Am (hC:C.jC) (h0:0<=a) (ha:a<=C.B):rE C k a\/B3 C.T k a:=by
 by_cases hO:rE C k a
 ·exact .inl hO
 by_cases h:a<C.B
 ·refine .inr ⟨h0,λt ht=>.inr (.inr ?_)⟩;by_cases h6:t.Kind=6
  ·exact h6
  exact absurd (.lt h0 h ht h6) hO
 have e:a=C.B:=by omega
 subst e;exact .inr hC.bad
theorem o8 (h:B3 C.T k a) {x:ByS} {K:L->al α}:fp (al.bind (bS m x (eh C a k q)) K):=by
 refine fp.kW ?_;unfold bS;exact fp.bind λc e=>by rw[um h c e];exact fp.br (λ_=>gH) (λh=>by cases h)
theorem kc (hC:C.jC) (ha:a<=C.B) {x:ByS} {K:L->al α} {K':L->al β}
  (hk:∀ a1 t,a<a1->a1<=C.B->C.T[(a1 - 1).toNat]?=some t->t.Kind=5/\t.Text=x->RZ Z V (K (eh C a1 k q)) (K' (eC C a1 k q'))) (h0:0<=a:=by omega) :
  RZ Z V (al.bind (bS m x (eh C a k q)) K) (al.bind (bS m x (eC C a k q')) K'):=by
 rcases Am (k:=k) hC h0 ha with hP|hb
 ·refine RZ.bind (W:=λr r'=>∃ a1 t,r=eh C a1 k q/\r'=eC C a1 k q'/\a<a1/\a1<=C.B/\C.T[(a1 - 1).toNat]?=some t/\t.Kind=5/\t.Text=x) ?_ λr r' h=>?_
  ·unfold bS
   exact ly hC hP (λa1 t h1 h2 h3 h4=>RZ.ok ⟨a1,t,rfl,rfl,h1,h2,h3,h4⟩) (λa1 _ _=>iJ) (λ_=>Q.br (λ_=>kb) (λh=>by cases h))
  ·obtain ⟨a1,t,rfl,rfl,h1,h2,h3,h4⟩:=h
   exact hk a1 t h1 h2 h3 h4
 ·exact RZ.mX (o8 hb)
theorem nI (hC:C.jC) (ha:a<=C.B) {x:ByS} {K:L->al α} {K':L->al β} (hk:∀ a1 t,a<=a1->a1<C.B->C.T[a1.toNat]?=some t->t.Kind=5/\t.Text=x->RZ Z V (K (eh C a1 k q)) (K' (eC C a1 k q'))) (h0:0<=a:=by omega) :
  RZ Z V (al.bind (cg m x (eh C a k q)) K) (al.bind (cg m x (eC C a k q')) K'):=by
 rcases Am (k:=k) hC h0 ha with hP|hb
 ·refine RZ.bind (W:=λr r'=>∃ a1 t,r=eh C a1 k q/\r'=eC C a1 k q'/\a<=a1/\a1<C.B/\C.T[a1.toNat]?=some t/\t.Kind=5/\t.Text=x) ?_ λr r' h=>?_
  ·unfold cg
   refine jl hC hP (λa1 t t' h1 h2 h3 h4 _=>?_) (λhk t h=>lK h (Q.br (λ_=>kb) (λh=>by cases h)))
   dsimp only
   refine kF h4 λr hr=>RZ.br rfl (λ_=>iJ) (λe=>?_)
   have hr:=hr (by simpa using e)
   have hlt:a1<C.B:=by
    rcases h2.1 with h2|⟨rfl,_⟩
    ·exact h2
    ·have:=hC.e0 t (by simpa using h3);omega
   exact RZ.ok ⟨a1,t,rfl,rfl,h1,hlt,h3,hr⟩
  ·obtain ⟨a1,t,rfl,rfl,h1,h2,h3,h4⟩:=h
   exact hk a1 t h1 h2 h3 h4
 ·exact RZ.mX (l0 hb)
theorem xB (hC:C.jC) {a1:Int} {t:aB} (hP:rE C k a1) (ht:C.T[a1.toNat]?=some t) (hk:t.Kind≠0):a1<C.B:=by
 rcases hP.1 with h|⟨rfl,_⟩
 ·exact h
 exact absurd (hC.e0 t (by simpa using ht)) hk
end
end Go.Abs
end
section
namespace Go.Abs
open al
section
variable {C:Cx} {α β X Y:Type} {V:α->β->Prop} {Z:α->Prop} {m:Nat} {a:Int} {k:Bool} {q q':Option ak}
theorem fin (hC:C.jC) {a1:Int} {t:aB} (h0:0<a1) (h1:a1<=C.B) (ht:C.T[(a1 - 1).toNat]?=some t) (hs:kE t.Kind t.Text=true):rE C k a1\/(k=true/\a1=C.B):=by
 have hl:C.Cm a1->C.Ln:=λh=>hC.ln _ t (by omega) ht hs (by rw[show (((a1 - 1).toNat:Nat):Int)+1=a1 by omega];exact h);by_cases h:a1<C.B
 ·exact .inl ⟨.inl h,λ_=>hl⟩
 have e:a1=C.B:=by omega
 cases k with
 | true=>exact .inr ⟨rfl,e⟩
 | false=>exact .inl ⟨.inr ⟨e,rfl,hl λi _ h _ _=>by omega⟩,λ_=>hl⟩
theorem s7 (hb:B3 C.T k a) {K:aB×L->al α} (h:∀ t,t.Kind=0\/t.Kind=7\/t.Kind=6->fp (K (t,eh C a k q))):fp (al.bind (ar m (eh C a k q)) K):=
 fp.bind λc e=>by
  obtain ⟨t,rfl,_,h2⟩:=rD hb c e;exact h t h2
theorem xC (hb:B3 C.T k a) {K:ByS×L->al α}:fp (al.bind (cx m (eh C a k q)) K):=by
 refine fp.kW ?_;unfold cx;exact s7 hb λt ht=>fp.jn (fp.br (λ_=>gH) (λq=>absurd q (by simp;omega)))
theorem BA (hb:B3 C.T k a) {x:ByS} {K:L->al α}:fp (al.bind (dc m x (eh C a k q)) K):=by
 refine fp.kW ?_;unfold dc;exact s7 hb λt ht=>by rw[p8 (t:=t) (by omega)];exact gH
theorem rH (hC:C.jC) (ha:a<=C.B) {x:ByS} {K:L->al α} {K':L->al β} (hk:∀ a1,a<a1->a1<=C.B->RZ Z V (K (eh C a1 k q)) (K' (eC C a1 k q'))) (h0:0<=a:=by omega) :
  RZ Z V (al.bind (dc m x (eh C a k q)) K) (al.bind (dc m x (eC C a k q')) K'):=by
 rcases Am (k:=k) hC h0 ha with hP|hb
 ·refine RZ.bind (W:=λr r'=>∃ a1,r=eh C a1 k q/\r'=eC C a1 k q'/\a<a1/\a1<=C.B) ?_ λr r' h=>?_
  ·unfold dc
   refine jl hC hP (λa1 t t' h1 h2 h3 h4 _=>?_) (λhk t h=>pJ h (Q.br (λ_=>kb) (λh=>by cases h)))
   dsimp only
   by_cases hk0:t.Kind=1
   ·have:=xB hC h2 h3 (by omega)
    exact rF h4 λr=>RZ.br rfl (λ_=>iJ) (λ_=>RZ.gd λ_ _=>RZ.ok ⟨a1+1,rfl,by congr 1;omega,by omega,by omega⟩)
   ·rw[p8 hk0]
    exact iJ
  ·obtain ⟨a1,rfl,rfl,h1,h2⟩:=h
   exact hk a1 h1 h2
 ·exact RZ.mX (BA hb)
theorem tu (hC:C.jC) (ha:a<=C.B) {K:ByS×L->al α} {K':ByS×L->al β} (hk:∀ a1 x t,a<a1->a1<=C.B->C.T[(a1 - 1).toNat]?=some t->t.Kind=1->RZ Z V (K (x,eh C a1 k q)) (K' (x,eC C a1 k q'))) (h0:0<=a:=by omega) :
  RZ Z V (al.bind (cx m (eh C a k q)) K) (al.bind (cx m (eC C a k q')) K'):=by
 rcases Am (k:=k) hC h0 ha with hP|hb
 ·refine RZ.bind (W:=λr r'=>∃ a1 x t,r=(x,eh C a1 k q)/\r'=(x,eC C a1 k q')/\a<a1/\a1<=C.B/\C.T[(a1 - 1).toNat]?=some t/\t.Kind=1) ?_ λr r' h=>?_
  ·unfold cx
   refine jl hC hP (λa1 t t' h1 h2 h3 h4 _=>?_) (λhk t h=>?_)
   ·dsimp only
    by_cases hk1:t.Kind=1
    ·have hlt:=xB hC h2 h3 (by omega)
     have h4:=h4.s (by omega)
     refine RZ.jn (λv w=>v=eh C a1 k q/\w=eC C a1 k q') (λv w h=>?_) (λj j' hj=>?_)
     ·obtain ⟨rfl,rfl⟩:=h
      rw[h4.2]
      exact RZ.gd λ_ _=>RZ.ok ⟨a1+1,_,t,rfl,by dsimp only;congr 2;omega,by omega,by omega,by simpa using h3,hk1⟩
     ·refine RZ.br (by rw[h4.1]) (λ_=>iJ) (λ_=>?_)
      rw[h4.2]
      exact RZ.same λr _=>RZ.br rfl (λ_=>iJ) (λ_=>hj _ _ ⟨rfl,rfl⟩)
    ·exact RZ.mX (fp.jn (fp.br (λ_=>gH) (λh=>by simp at h;exact absurd h hk1)))
   ·exact Q.mX (fp.jn (fp.br (λ_=>gH) (λq=>by simp[h] at q)))
  ·obtain ⟨a1,x,t,rfl,rfl,h1,h2,h3,h4⟩:=h
   exact hk a1 x t h1 h2 h3 h4
 ·exact RZ.mX (xC hb)
theorem C3 {t:aB} (h:t.Kind=1):kE t.Kind t.Text=true:=by unfold kE;simp[h]
theorem BB (hC:C.jC) (ha:a<=C.B) {K:iq×L->al α} {K':iq×L->al β} (hk:∀ a1 x,a<a1->a1<=C.B->RZ Z V (K (x,eh C a1 k q)) (K' (x,eC C a1 k q'))) (h0:0<=a:=by omega) :
  RZ Z V (al.bind (fL m (eh C a k q)) K) (al.bind (fL m (eC C a k q')) K'):=by
 refine RZ.bind (W:=λr r'=>∃ a1 x,r=(x,eh C a1 k q)/\r'=(x,eC C a1 k q')/\a<a1/\a1<=C.B) ?_ λr r' h=>?_
 ·unfold fL
  refine tu hC ha λa1 x1 t1 h1 h2 _ _=>kc hC h2 λa2 _ h3 h4 _ _=>?_
  rcases Am (k:=k) hC (by omega) h4 with hP|hb
  ·refine xA hC hP (λa3 _ _ h5 h6 _=>tu hC h6.le λa4 x4 t4 h7 h8 _ _=>?_) (λhk v=>Q.mX (xC hC.bad))
   exact RZ.br rfl (λ_=>Al) (λ_=>RZ.ok ⟨a4,_,rfl,rfl,by omega,h8⟩)
  ·refine RZ.mX (fp.bind λc e=>?_)
   obtain ⟨v,rfl⟩:=wE hb c e
   exact xC hb
 ·obtain ⟨a1,x,rfl,rfl,h1,h2⟩:=h
  exact hk a1 x h1 h2
def DS (C:Cx) (a:Int):Prop:=C.κ=0\/(∃ (i:Nat) (t:aB),(i:Int)<a/\C.T[i]?=some t/\t.Kind≠7)\/
 ∀ (i j:Nat) t u,i<C.κ->t.Kind≠7->C.T'[i]?=some t->C.T'[j+C.κ]?=some u->Tk (strings_Contains (sub C.s' t.End u.Pos) [10]) true
theorem DS.mono {b:Int} (h:DS C a) (hab:a<=b):DS C b:=h.imp_right λh=>h.imp_left λ⟨i,t,h1,h2⟩=>⟨i,t,by omega,h2⟩
theorem DS.of {t:aB} (h0:0<a) (h:C.T[(a - 1).toNat]?=some t) (hk:t.Kind=5):DS C a:=.inr (.inl ⟨_,t,by omega,h,by omega⟩)
theorem RZ.Fv {body:(X->al α)->X->al α} {body':(Y->al β)->Y->al β} (I:X->Y->Prop)
  (hb:∀ x y (n':Nat),I x y->∀ (next:X->al α),(∀ v w,I v w->RZ Z V (next v) (al.iter body' n' w))->RZ Z V (body next x) (body' (al.iter body' n') y)) :
  ∀ (n n':Nat) {x:X} {y:Y},I x y->RZ Z V (al.iter body n x) (al.iter body' n' y)
 | 0,_,_,_,_=>RZ.nil
 | _+1,0,_,_,_=>RZ.o6
 | n+1,n'+1,x,y,h=>hb x y n' h _ λ_ _ q=>RZ.Fv I hb n n' q
theorem xD (hC:C.jC) (hB:DS C a) (h0:0<=a) (ha:a<C.B) {K:Bool×L->al α} {K':Bool×L->al β} (hk:∀ r,RZ Z V (K (r,eh C a k q)) (K' (r,eC C a k q'))) :
  RZ Z V (al.bind (bP m (eh C a k q)) K) (al.bind (bP m (eC C a k q')) K'):=by
 refine RZ.bind (W:=λr r'=>∃ x,r=(x,eh C a k q)/\r'=(x,eC C a k q')) ?_ λr r' h=>?_
 ·unfold bP
  dsimp only
  refine RZ.gd λ_ _=>?_
  refine RZ.Fv (λ(x y:Int)=>y=x+C.κ/\ -1<=x/\x<a/\(C.κ=0\/(∃ (i:Nat) (t:aB),(i:Int)<=x/\C.T[i]?=some t/\t.Kind≠7)\/∀ (i j:Nat) t u,i<C.κ->t.Kind≠7->C.T'[i]?=some t->C.T'[j+C.κ]?=some u->Tk (strings_Contains (sub C.s' t.End u.Pos) [10]) true)) (λx y n' h next hn=>?_) _ _ ⟨by omega,by omega,by omega,hB.imp_right λh=>h.imp_left λ⟨i,t,h1,h2⟩=>⟨i,t,by omega,h2⟩⟩
  obtain ⟨rfl,h1,h2,h3⟩:=h
  by_cases hx:0<=x
  ·refine RZ.br (by rw[decide_eq_true hx,decide_eq_true (by omega)]) (λ_=>?_) (λq=>absurd hx (of_decide_eq_false q))
   refine RZ.el λt t' _ _ ht ht'=>?_
   rw[tn (by omega)] at ht'
   have hs:=hC.tok _ _ _ (by omega) ht ht'
   rw[hs.1]
   refine RZ.br rfl (λ_=>?_) (λh7=>?_)
   ·refine RZ.el λt2 t2' _ _ g1 g1'=>RZ.el λu u' _ _ g2 g2'=>RZ.gd λ_ _=>?_
    rw[tn (by omega)] at g1' g2'
    refine RZ.bind (hC.nl _ _ _ _ _ _ (by omega) (by omega) g1 g2 g1' g2') λr r' h=>?_
    subst h
    exact RZ.ok ⟨_,rfl,rfl⟩
   ·refine RZ.gd λ_ _=>hn _ _ ⟨by omega,by omega,by omega,?_⟩
    refine h3.imp_right λh3=>h3.imp_left λ⟨i,u,h4,h5,h6⟩=>⟨i,u,?_,h5,h6⟩
    have:(i:Int)≠x:=λe=>by
     subst e
     simp only[Int.toNat_natCast] at ht
     rw[ht] at h5;cases h5;simp at h7;exact h6 h7
    omega
  ·have ex:x = -1:=by omega
   subst ex
   have hR:Tk (al.iter (λnext6 (v5:Int)=>br (decide (v5>=0)) (al.el C.T' v5 λAy=>br (Ay.Kind !=7) (al.el C.T' v5 λG8=>al.el C.T' (a+C.κ) λx23=>al.gd ((0:Int)<=G8.End/\(G8.End:Int)<=x23.Pos/\x23.Pos<=(List.length C.s':Int)) (al.bind (strings_Contains (sub C.s' G8.End x23.Pos) ([10]:ByS)) λy28=>.ok (y28,eC C a k q'))) (al.gd (dY (v5 - 1)) (next6 (v5 - 1)))) (.ok (true,eC C a k q'))) (n'+1) (-1+C.κ)) (true,eC C a k q'):=by
    refine Tk.iter (λ(v:Int)=>v<C.κ) (λv hv next hn=>?_) _ (by omega)
    refine Tk.br (λhv0=>Tk.el λt h0' ht=>Tk.br (λh7=>Tk.el λt2 _ ht2=>Tk.el λu _ hu=>Tk.gd λ_=>?_) (λ_=>Tk.gd λ_=>hn _ (by omega))) (λ_=>.inr rfl)
    rw[ht] at ht2;cases ht2
    rw[tn (by omega)] at hu
    rcases h3 with h3|⟨i,_,h3,_⟩|h3
    ·omega
    ·omega
    ·have h7:t.Kind≠7:=by simpa using h7
     rcases h3 v.toNat a.toNat t u (by omega) h7 ht hu with e|e
     ·exact .inl (by rw[e];rfl)
     ·exact .inr (by rw[e];rfl)
   have e1:decide ((-1:Int)>=0)=false:=by decide
   rw[e1]
   intro r e
   cases e
   rcases hR with e|e
   ·exact .inr (.inl e)
   ·exact .inr (.inr ⟨_,e,_,rfl,rfl⟩)
 ·obtain ⟨x,rfl,rfl⟩:=h
  exact hk x
theorem DB (hC:C.jC) (h0:0<=a) (ha:a<C.B) {e e':Int} (h1:1<=e) (h2:e<=C.B) (he:e'=e+C.κ) {K:Bool×L->al α} {K':Bool×L->al β} (hk:∀ r,RZ Z V (K (r,eh C a k q)) (K' (r,eC C a k q'))) :
  RZ Z V (al.bind (du m e (eh C a k q)) K) (al.bind (du m e' (eC C a k q')) K'):=by
 refine RZ.bind (W:=λr r'=>∃ x,r=(x,eh C a k q)/\r'=(x,eC C a k q')) ?_ λr r' h=>?_
 ·unfold du
  dsimp only
  subst he
  refine RZ.iter (λ(x y:Int)=>y=x+C.κ/\1<=x) (λx y h next next' hn=>?_) _ _ ⟨rfl,h1⟩
  obtain ⟨rfl,h3⟩:=h
  refine RZ.br (decide_eq_decide.2 (by omega)) (λhlt=>?_) (λ_=>?_)
  ·have hlt:=of_decide_eq_true hlt
   refine RZ.el λt t' _ _ ht ht'=>?_
   rw[tn (by omega)] at ht'
   refine kF (.inl (hC.tok _ _ _ (by omega) ht ht')) λr _=>RZ.br rfl (λ_=>RZ.ok ⟨_,rfl,rfl⟩) (λ_=>?_)
   exact RZ.gd λ_ _=>hn _ _ ⟨by omega,by omega⟩
  ·refine RZ.gd λ_ _=>RZ.el λt t' _ _ g1 g1'=>RZ.el λu u' _ _ g2 g2'=>RZ.gd λ_ _=>?_
   rw[show (e+(C.κ:Int) - 1).toNat=(e - 1).toNat+C.κ by omega] at g1'
   rw[tn (by omega)] at g2'
   refine RZ.bind (hC.nl _ _ _ _ _ _ (by omega) (by omega) g1 g2 g1' g2') λr r' h=>?_
   subst h
   exact RZ.ok ⟨_,rfl,rfl⟩
 ·obtain ⟨x,rfl,rfl⟩:=h
  exact hk x
theorem Hx (hC:C.jC) (ha:a<C.B) {K:Bool×L->al α} {K':Bool×L->al β} (hk:∀ r,(r=false->∃ u,C.T[a.toNat]?=some u/\u.Kind≠0/\bJ u [125]=.ok false)->(r=true->∃ u,C.T[a.toNat]?=some u/\(u.Kind=0\/u.Kind=5))->RZ Z V (K (r,eh C a false q)) (K' (r,eC C a false q')))
  (h0:0<=a:=by omega):RZ Z V (al.bind (cK m (eh C a false q)) K) (al.bind (cK m (eC C a false q')) K'):=by
 refine RZ.bind (W:=λr r'=>∃ x,r=(x,eh C a false q)/\r'=(x,eC C a false q')/\(x=false->∃ u,C.T[a.toNat]?=some u/\u.Kind≠0/\bJ u [125]=.ok false)/\(x=true->∃ u,C.T[a.toNat]?=some u/\(u.Kind=0\/u.Kind=5))) ?_ λr r' h=>?_
 ·unfold cK
  refine mB hC ha λt t' ht hs=>?_
  dsimp only
  rw[hs.1]
  refine RZ.br rfl (λhk0=>RZ.ok ⟨_,rfl,rfl,(λh=>by cases h),λ_=>⟨t,ht,.inl (by simpa using hk0)⟩⟩) (λhk0=>mB hC ha λt2 t2' ht2 hs2=>?_)
  dsimp only
  rw[ht] at ht2;cases ht2
  rw[Ft (.inl hs2)]
  exact RZ.same λr hr=>RZ.ok ⟨_,rfl,rfl,(λh=>⟨t,ht,by simpa using hk0,by rw[hr,h]⟩),λh=>⟨t,ht,.inr (Jt hr h).1⟩⟩
 ·obtain ⟨x,rfl,rfl,h3,h4⟩:=h
  exact hk x h3 h4
end
abbrev ZP (C:Cx) (k:Bool) (p:L):Prop:=k=true/\p=pB C none
abbrev VE (C:Cx) (k:Bool) (a:Int) (r r':ak×L):Prop:=Rl C k a r.2 r'.2/\EE r.1 r'.1
theorem Cx.refl {s:ByS} {T:List aB} {b b':Int}:(Cx.mk s T b s T b' 0 T.length).jC:=by
 have e:T[T.length]?=none:=List.getElem?_eq_none (Nat.le_refl _);refine ⟨λi t t' _ h h'=>?_,λt h=>?_,Nat.le_succ _,Nat.le_refl _,λ_ _ _ _ _ _ t h=>?_,λi j t u t' u' _ _ h1 h2 h1' h2'=>?_,λi t t' _ h h'=>?_⟩
 ·rw[Nat.add_zero,h] at h';cases h';exact ⟨rfl,rfl⟩
 ·rw[e] at h;cases h
 ·rw[Nat.add_zero,e] at h;cases h
 ·rw[Nat.add_zero] at h1' h2';dsimp only at h1 h2 h1' h2';rw[h1] at h1';rw[h2] at h2';cases h1';cases h2';exact λr e=>.inr (.inr ⟨r,e,rfl⟩)
 rw[Int.natCast_zero,Int.add_zero,h] at h';cases h';exact .inl ⟨rfl,rfl⟩
section
variable {C:Cx} {α β X Y:Type} {V:α->β->Prop} {Z:α->Prop} {m:Nat} {a:Int} {k:Bool} {q q':Option ak}
theorem Rl.mk {a1:Int} (h1:a<=a1) (h:rE C k a1):Rl C k a (eh C a1 k none) (eC C a1 k none):=⟨a1,rfl,rfl,h1,h⟩
theorem mC {P:X->Y->Prop} {x:al (X×L)} {y:al (Y×L)} {K:X×L->al α} {K':Y×L->al β} (h:RZ (λr=>ZP C k r.2) (λr r'=>Rl C k a r.2 r'.2/\P r.1 r'.1) x y)
  (hk:∀ v w a1,a<=a1->rE C k a1->P v w->RZ Z V (K (v,eh C a1 k none)) (K' (w,eC C a1 k none))) (hz:k=true->∀ v,Q Z (K (v,pB C none))):RZ Z V (al.bind x K) (al.bind y K'):=by
 refine RZ.qJ h (λc hc a e=>?_) λr r' hr=>?_
 ·obtain ⟨v,p⟩:=c
  obtain ⟨hk,h2⟩:=hc
  dsimp only at h2;subst h2
  exact hz hk v a e
 obtain ⟨v,p⟩:=r
 obtain ⟨w,p'⟩:=r'
 obtain ⟨⟨a1,h1,h2,h3,h4⟩,h5⟩:=hr
 dsimp only at h1 h2 h5
 subst h1 h2
 exact hk v w a1 h3 h4 h5
theorem Ju {P:X->Y->Prop} {x:al (L×X)} {y:al (L×Y)} {K:L×X->al α} {K':L×Y->al β} (h:RZ NZ (λr r'=>Rl C k a r.1 r'.1/\P r.2 r'.2) x y)
  (hk:∀ v w a1,a<=a1->rE C k a1->P v w->RZ Z V (K (eh C a1 k none,v)) (K' (eC C a1 k none,w))):RZ Z V (al.bind x K) (al.bind y K'):=by
 refine RZ.bind h λr r' hr=>?_
 obtain ⟨p,v⟩:=r
 obtain ⟨p',w⟩:=r'
 obtain ⟨⟨a1,h1,h2,h3,h4⟩,h5⟩:=hr
 dsimp only at h1 h2 h5
 subst h1 h2
 exact hk v w a1 h3 h4 h5
def Rk (C:Cx) (x:ByS) (k:Bool) (a:Int) (p p':L):Prop:=∃ a1 t,p=eh C a1 k none/\p'=eC C a1 k none/\a<=a1/\a1<C.B/\C.T[a1.toNat]?=some t/\t.Kind=5/\t.Text=x
theorem B5 {x0:ByS} {P:X->Y->Prop} {x:al (L×X)} {y:al (L×Y)} {K:L×X->al α} {K':L×Y->al β} (h:RZ NZ (λr r'=>Rk C x0 k a r.1 r'.1/\P r.2 r'.2) x y)
  (hk:∀ v w a1 t,a<=a1->a1<C.B->C.T[a1.toNat]?=some t->t.Kind=5/\t.Text=x0->P v w->RZ Z V (K (eh C a1 k none,v)) (K' (eC C a1 k none,w))):RZ Z V (al.bind x K) (al.bind y K'):=by
 refine RZ.bind h λr r' hr=>?_
 obtain ⟨p,v⟩:=r
 obtain ⟨p',w⟩:=r'
 obtain ⟨⟨a1,t,h1,h2,h3,h4,h5,h7⟩,h6⟩:=hr
 dsimp only at h1 h2 h6
 subst h1 h2
 exact hk v w a1 t h3 h4 h5 h7 h6
theorem Jv (hC:C.jC) {i:Int} (h:i<C.B):cap C.T i=i:=by
 have:=hC.el;unfold cap;rw[if_neg (by omega)]
theorem mY (hC:C.jC) {n:Int} {K:aB×L->al α} {K':aB×L->al β}
  (hk:∀ t t',C.T[(cap C.T (a+n)).toNat]?=some t->C.T'[(cap C.T' (a+n+C.κ)).toNat]?=some t'->ST t t'\/((C.B:Int)<=a+n/\t.Kind=0/\(a+n=C.B->C.Ln->t'.Kind=7))->RZ Z V (K (t,eh C a k q)) (K' (t',eC C a k q'))) (h0:0<=a+n:=by omega) :
  RZ Z V (al.bind (cw n (eh C a k q)) K) (al.bind (cw n (eC C a k q')) K'):=by
 unfold cw
 dsimp only
 refine RZ.bind (W:=λr r'=>∃ t t',r=(t,eh C a k q)/\r'=(t',eC C a k q')/\C.T[(cap C.T (a+n)).toNat]?=some t/\C.T'[(cap C.T' (a+n+C.κ)).toNat]?=some t'/\(ST t t'\/((C.B:Int)<=a+n/\t.Kind=0/\(a+n=C.B->C.Ln->t'.Kind=7)))) ?_ λr r' h=>?_
 ·refine RZ.gd λ_ _=>RZ.gd λ_ _=>RZ.el λt t' h1 h2 h3 h4=>?_
  rw[show a+(C.κ:Int)+n=a+n+C.κ by omega] at h2 h4
  exact RZ.ok ⟨t,t',rfl,rfl,h3,h4,hC.K7 (a+n) t t' h0 h3 h4⟩
 ·obtain ⟨t,t',rfl,rfl,h1,h2,h3⟩:=h
  exact hk t t' h1 h2 h3
theorem Fw {n:Int} {K:aB×L->al α} (h:∀ u,C.T[(cap C.T (a+n)).toNat]?=some u->Q Z (K (u,eh C a k q))):Q Z (al.bind (cw n (eh C a k q)) K):=by
 refine Q.bind λc e=>?_;unfold cw at e;obtain ⟨_,e⟩:=BP (λq=>by cases q) e;obtain ⟨_,e⟩:=BP (λq=>by cases q) e;obtain ⟨u,_,_,hu,e⟩:=IM (λq=>by cases q) e;cases e;exact h u hu
def NB (C:Cx) (a i:Int):Prop:=∀ (j:Nat) t,a<j->(j:Int)<i->C.T[j]?=some t->t.Kind=5->t.Text≠[93]
theorem NB.snoc (hC:C.jC) {i:Int} (h:NB C a i) (h0:0<=i) (hk:∀ t,i<C.B->C.T[i.toNat]?=some t->t.Kind=5->t.Text≠[93]):NB C a (i+1):=λj u h1 h2 h3=>by
 by_cases hj:(j:Int)<i
 ·exact h j u h1 hj h3
 have e:i.toNat=j:=by omega
 by_cases hB:i<C.B
 ·exact hk u hB (by rw[e];exact h3)
 have:=(List.getElem?_eq_some_iff.1 h3).1;have:=hC.en;have e2:j=C.B:=by omega
 subst e2;have:=hC.e0 u h3;intro h;omega
theorem An (hC:C.jC) (hP:rE C false a) {K:Bool×L->al α} {K':Bool×L->al β} (hk:∀ r,RZ Z V (K (r,eh C a false q)) (K' (r,eC C a false q')))
  (hn:(∃ t,C.T[a.toNat]?=some t/\t.Kind=5/\t.Text=[91])->NB C a C.B->fp (K (false,eh C a false q))) (h0:0<=a:=by omega) :
  RZ Z V (al.bind (fj m (eh C a false q)) K) (al.bind (fj m (eC C a false q')) K'):=by
 refine RZ.qJ (Z':=λr=>r=(false,eh C a false q)/\(∃ t,C.T[a.toNat]?=some t/\t.Kind=5/\t.Text=[91])/\NB C a C.B) (W:=λr r'=>∃ x,r=(x,eh C a false q)/\r'=(x,eC C a false q')) ?_ (λc hc x e=>by
  obtain ⟨rfl,h1,h2⟩:=hc
  exact absurd e (hn h1 h2 x)) λr r' h=>?_
 ·unfold fj
  refine jl hC hP (λa1 t t' h1 h2 ht hs he=>?_) (λh=>by cases h)
  have he:=he.2.2.2 rfl
  subst he
  dsimp only
  refine kF hs λr hr=>RZ.br rfl (λ_=>RZ.ok ⟨_,rfl,rfl⟩) (λhrt=>?_)
  have ht5:=hr (by simpa using hrt)
  have hB:=xB hC h2 ht (by omega)
  have h5:∀ {u u':aB} {n:Int},C.T[(cap C.T (a1+n)).toNat]?=some u->(ST u u'\/((C.B:Int)<=a1+n/\u.Kind=0/\(a1+n=C.B->C.Ln->u'.Kind=7)))->(ST u u'/\(a1+n<C.B->C.T[(a1+n).toNat]?=some u))\/((C.B:Int)<=a1+n/\u.Kind=0):=λ{u u' n} h1 h2=>by
   rcases h2 with h2|h2
   ·exact .inl ⟨h2,λh=>by rw[Jv hC h] at h1;exact h1⟩
   ·exact .inr ⟨h2.1,h2.2.1⟩
  have hesc:∀ {i:Int} {x:al (Bool×L)} {y:al (Bool×L)},C.B<=i->NB C a1 i->Q (λr=>r=(false,eh C a1 false q)) x->RZ (λr=>r=(false,eh C a1 false q)/\(∃ t,C.T[a1.toNat]?=some t/\t.Kind=5/\t.Text=[91])/\NB C a1 C.B) (λr r'=>∃ x,r=(x,eh C a1 false q)/\r'=(x,eC C a1 false q')) x y:=
   λhi hn hx r e=>.inl ⟨hx r e,⟨t,ht,ht5⟩,λj u h1 h2=>hn j u h1 (by omega)⟩
  refine RZ.jn (λv w=>v.1=eh C a1 false q/\w.1=eC C a1 false q'/\w.2=v.2/\2<=v.2/\NB C a1 (a1+v.2)) (λv w h=>?_) (λj j' hj=>?_)
  ·refine RZ.iter (λ(v:L×Int) (w:L×Int)=>v.1=eh C a1 false q/\w.1=eC C a1 false q'/\w.2=v.2/\2<=v.2/\NB C a1 (a1+v.2)) (λv w h next next' hn=>?_) _ _ h
   obtain ⟨p,x⟩:=v
   obtain ⟨p',x'⟩:=w
   obtain ⟨g1,g2,g3,g4,g5⟩:=h
   dsimp only at g1 g2 g3 g4 g5
   subst g1 g2 g3
   dsimp only
   refine mY hC λu u' hu hu' hs=>?_
   dsimp only
   rcases h5 hu hs with ⟨hs,hi⟩|⟨hi,hk0⟩
   case inr=>
    refine hesc hi g5 ?_
    rw[hk0]
    refine Q.br (λh=>by cases h) (λ_=>Fw λu2 hu2=>?_)
    rw[hu] at hu2;cases hu2
    exact lK hk0 (Q.ok rfl)
   rw[hs.1]
   refine RZ.br rfl (λh7=>RZ.gd λ_ _=>hn _ _ ⟨rfl,rfl,rfl,by omega,?_⟩) (λ_=>mY hC λu2 u2' hu2 hu2' hs2=>?_)
   ·dsimp only
    rw[<- Int.add_assoc]
    exact g5.snoc hC (by omega) λw hw hw2 h=>by rw[hi hw] at hw2;cases hw2;simp at h7;omega
   rw[hu] at hu2;cases hu2
   rw[hu'] at hu2';cases hu2'
   dsimp only
   refine kF (.inl hs) λr hr=>RZ.br rfl (λhrt=>RZ.gd λ_ _=>mY hC λw w' hw hw' hws=>?_) (λ_=>RZ.ok ⟨_,rfl,rfl⟩)
   have h93:=hr hrt
   dsimp only
   have hws:Sg w w':=hws.imp_right λh=>⟨h.2.1,?_⟩
   ·exact kF hws λr _=>RZ.ok ⟨_,rfl,rfl⟩
   by_cases hi2:a1+x'<C.B
   ·refine h.2.2 (by omega) (hC.ln _ _ (by omega) (hi hi2) ?_ λj _ h1 h2=>by omega)
    unfold kE
    rw[h93.1,h93.2];decide
   ·have:=hC.en
    have e:cap C.T (a1+(x'+1))=cap C.T (a1+x'):=by unfold cap;split<;>split<;>omega
    rw[e,hu] at hw;cases hw
    omega
  ·refine mY hC λu u' hu hu' hs=>?_
   dsimp only
   rcases h5 hu hs with ⟨hs,hi⟩|⟨hi,hk0⟩
   case inr=>
    refine hesc hi (λj _ h1 h2=>by omega) (pJ hk0 (Q.br (λ_=>Fw λu2 hu2=>?_) (λh=>by cases h)))
    rw[hu] at hu2;cases hu2
    exact lK hk0 (Q.br (λ_=>Q.ok rfl) (λh=>by cases h))
   have hnb:∀ {P:Prop},(u.Kind=5->u.Text≠[93])->NB C a1 (a1+2):=λh=>by
    have h0:NB C a1 (a1+1):=λj _ h1 h2=>by omega
    have:=h0.snoc hC (by omega) λw hw hw2=>by rw[hi hw] at hw2;cases hw2;exact h
    rw[Int.add_assoc] at this;exact this
   rw[Aj (.inl hs)]
   refine RZ.same λr hr=>RZ.br rfl (λ_=>mY hC λu2 u2' hu2 hu2' hs2=>?_) (λhr1=>hj _ _ ⟨rfl,rfl,rfl,by dsimp only;omega,?_⟩)
   ·rw[hu] at hu2;cases hu2
    rw[hu'] at hu2';cases hu2'
    dsimp only
    refine kF (.inl hs) λr hr=>RZ.br rfl (λ_=>RZ.ok ⟨_,rfl,rfl⟩) (λhrt=>mY hC λw w' hw hw' hws=>?_)
    have h93:=hr (by simpa using hrt)
    have hnb:=hnb (P:=True) λ_=>by rw[h93.2];decide
    dsimp only
    rcases h5 hw hws with ⟨hws,hi⟩|⟨hi,hk0⟩
    case inr=>
     refine hesc hi hnb ?_
     rw[hk0];exact Q.br (λ_=>Q.ok rfl) (λh=>by cases h)
    rw[hws.1]
    refine RZ.br rfl (λ_=>RZ.ok ⟨_,rfl,rfl⟩) (λh3=>hj _ _ ⟨rfl,rfl,rfl,by dsimp only;omega,?_⟩)
    have:=hnb.snoc hC (by omega) λv hv hv2 h=>by rw[hi hv] at hv2;cases hv2;simp at h3;omega
    rw[Int.add_assoc] at this;exact this
   ·refine hnb (P:=True) λh=>?_
    rw[p8 (by omega)] at hr;cases hr;cases hr1
 ·obtain ⟨x,rfl,rfl⟩:=h
  exact hk x
theorem uK (hC:C.jC) (ha:a<C.B) {u:aB} (hu:C.T[a.toNat]?=some u) (h7:k=true->u.Kind≠7) {K:aB×L->al α} {K':aB×L->al β}
  (hk:∀ t',ST u t'->RZ Z V (K (u,eh C a k q)) (K' (t',eC C a k q'))) (h0:0<=a:=by omega) :
  RZ Z V (al.bind (ar m (eh C a k q)) K) (al.bind (ar m (eC C a k q')) K'):=by
 intro r e
 cases hx:ar m (eh C a k q) with
 | stuck=>rw[hx] at e;cases e
 | kA _=>rw[hx] at e;cases e
 | ok c=>
  rw[hx] at e
  have hc:=xy h0 hu h7 c hx
  subst hc
  rcases Ak (q':=q') hC h0 (.inl ha) _ hx with ⟨_,t,h,_⟩|h|⟨d,h,a1,t,t',h1,rfl,_,_,_,_,_,h8,h9⟩
  ·have h:=congrArg (λp:aB×L=>p.2.at_) h
   dsimp only at h;omega
  ·rw[h];exact .inr (.inl rfl)
  ·have h8:=h8 u hu h7
   subst h8
   cases h1
   rw[h];exact hk t' (h9 ha) r e
theorem mD (hC:C.jC) (hP:rE C k a) {u:aB} (hu:C.T[a.toNat]?=some u) (h7:k=true->u.Kind≠7) {K:Int×L->al α} {K':Int×L->al β}
  (hk:∀ v w,RZ Z V (K (v,eh C a k q)) (K' (w,eC C a k q'))) (h0:0<=a:=by omega) :
  RZ Z V (al.bind (be m (eh C a k q)) K) (al.bind (be m (eC C a k q')) K'):=by
 by_cases ha:a<C.B
 ·refine RZ.bind (W:=λr r'=>∃ v w,r=(v,eh C a k q)/\r'=(w,eC C a k q')) ?_ λr r' h=>?_
  ·unfold be
   exact uK hC ha hu h7 λt' _=>RZ.gd λ_ _=>RZ.ok ⟨_,_,rfl,rfl⟩
  ·obtain ⟨v,w,rfl,rfl⟩:=h
   exact hk v w
 ·exact xA hC hP (λa1 v w _ _ e=>e u hu h7▸hk v w) (λh=>by subst h;exact absurd hP.1.t ha)
theorem rE.tt (h:a<C.B):rE C true a:=⟨.inl h,λh=>by cases h⟩
theorem DC (hC:C.jC) (ha:a<=C.B) {d d':aA} (hd:DD d d') {K:L×aA->al α} {K':L×aA->al β}
  (hk:∀ a1 t d d',a<=a1->a1<C.B->C.T[a1.toNat]?=some t->t.Kind=5/\t.Text=[93]->DD d d'->RZ Z V (K (eh C a1 k none,d)) (K' (eC C a1 k none,d'))) (h0:0<=a:=by omega):RZ Z V (al.bind (gi m true (eh C a k none) d) K) (al.bind (gi m true (eC C a k none) d') K'):=by
 refine B5 (x0:=[93]) (k:=k) (a:=a) (P:=DD) ?_ λv w a1 t h1 h2 h3 h4 h5=>hk a1 t v w h1 h2 h3 h4 h5
 unfold gi
 refine B5 (x0:=[93]) (k:=true) (a:=a) (P:=DD) ?_ λv w a1 t h1 h2 h3 h4 h5=>RZ.ok ⟨⟨a1,t,rfl,rfl,h1,h2,h3,h4⟩,h5⟩
 unfold iO
 dsimp only
 refine RZ.K5 (λv w=>(∃ a1,v.1=eh C a1 true none/\w.1=eC C a1 true none/\a<=a1/\a1<C.B)/\DD v.2 w.2) (λv=>v.1=pB C none) (λv w h=>?_) (λv h=>?_) (λj j' hj hN=>?_)
 ·obtain ⟨p,x⟩:=v
  obtain ⟨p',x'⟩:=w
  obtain ⟨⟨a1,g1,g2,g3,g4⟩,g5⟩:=h
  dsimp only at g1 g2 g5
  subst g1 g2
  dsimp only
  refine RZ.gd λ_ _=>?_
  rw[show a1+(C.κ:Int)+1=a1+1+C.κ by omega]
  exact nI hC (by omega) λa2 t h2 h3 h4 h5=>RZ.ok ⟨⟨a2,t,rfl,rfl,by omega,h3,h4,h5⟩,g5⟩
 ·obtain ⟨p,x⟩:=v
  dsimp only at h
  subst h
  refine fp.gd (fp.kW ?_)
  unfold cg
  exact fp.kW (Ai (by have:=hC.en;dsimp only;omega))
 ·have hz2:∀ {K:aB×L->al (L×aA)},(∀ t,fp (K (t,pB C none)))->fp (al.bind (ar m (pB C none)) K):=λh=>fp.bind λc e=>by
   obtain ⟨t,rfl,_⟩:=Kw hC c e
   exact h t
  have hz3:∀ (t:aB) (x:aA),fp (al.bind (lY m t.Text) λy13=>al.br (y13.2.Errno !=0) (al.bind (aV m (pB C none)) λy16=>j (y16,x)) (j (pB C none,x))):=λt x=>fp.bind λc e=>fp.br (λ_=>gH) (λ_=>hN _ rfl)
  by_cases hB:a<C.B
  case neg=>
   have e:a=C.B:=by omega
   subst e
   exact RZ.mX (fp.bind λc e=>by rw[um hC.bad c e];exact fp.br (λh=>by cases h) (λ_=>hN _ rfl))
  refine ly hC (.tt hB) (λa1 t h1 h2 _ _=>?_) (λa1 h1 h2=>?_) (λ_=>Q.mX (fp.br (λh=>by cases h) (λ_=>hN _ rfl)))
  ·dsimp only
   refine RZ.br rfl (λ_=>?_) (λh=>by cases h)
   by_cases h3:a1<C.B
   case neg=>
    have e:a1=C.B:=by omega
    subst e
    exact RZ.mX (hz2 λt=>hz3 t _)
   refine jl hC (.tt h3) (λa2 t t' h4 h5 ht _ hs=>?_) (λ_ t _=>Q.mX (hz3 t _))
   have hs:=hs.2.2.1 h5.1.t
   dsimp only
   rw[hs.2]
   refine RZ.same λy _=>RZ.br rfl (λ_=>iJ) (λ_=>hj _ _ ⟨⟨a2,rfl,rfl,by omega,h5.1.t⟩,?_⟩)
   have hx:=hd.x
   dsimp only
   rw[hx.k,hx.p,hx.a,hx.b,hx.tl,hx.ld,hx.tr]
   exact .of hx.s hx.d
  ·exact RZ.br rfl (λh=>by cases h) (λ_=>hj _ _ ⟨⟨a1,rfl,rfl,h1,h2.1.t⟩,hd⟩)
theorem tv {v v':Int}:∀ (n:Nat) {e e':ak} {p p':L},EE e e'->RZ NZ (λr r'=>r.2=p/\r'.2=p'/\EE r.1 r'.1) (bm n e v p) (bm n e' v' p')
 | 0,_,_,_,_,_=>RZ.nil
 | n+1,e,e',p,p',he=>by
  have hx:=he.x;show RZ NZ _ (fy n (fw n) e v p) (fy n (fw n) e' v' p');unfold fy;rw[hx.k,hx.t,hx.n,hx.a,hx.b,hx.tl];refine RZ.br rfl (λ_=>?_) (λ_=>RZ.br rfl (λ_=>?_) (λ_=>RZ.ok ⟨rfl,rfl,he⟩))
  ·refine RZ.el λx x' _ _ hx1 hx1'=>RZ.el λy y' _ _ hy1 hy1'=>?_;refine RZ.bind (tv n (hx.s.2 _ _ _ hx1 hx1')) λr r' h=>?_;rw[h.1,h.2.1];refine RZ.bind (tv n (hx.s.2 _ _ _ hy1 hy1')) λw w' h'=>RZ.ok ⟨h'.1,h'.2.1,.of (.two h.2.2 h'.2.2) hx.d⟩
  refine RZ.iter (λ(x:L×List aA×Int) (y:L×List aA×Int)=>x.1=p/\y.1=p'/\LR DD x.2.1 y.2.1/\y.2.2=x.2.2) (λx y h next next' hn=>?_) _ _ ⟨rfl,rfl,.nil,rfl⟩;obtain ⟨h1,h2,h3,h4⟩:=h;rw[h4,<- hx.d.1];refine RZ.br rfl (λ_=>?_) (λ_=>RZ.ok ⟨h1,h2,.of hx.s h3⟩);refine RZ.el λd d' _ _ hd hd'=>?_;have hdr:=hx.d.2 _ _ _ hd hd';have hdx:=hdr.x;refine RZ.jn (λx y=>x.1=p/\y.1=p'/\DD x.2 y.2) (λx y h=>?_) (λj j' hj=>?_)
  ·exact RZ.gd λ_ _=>RZ.gd λ_ _=>hn _ _ ⟨h.1,h.2.1,h3.snoc h.2.2,rfl⟩
  rw[hdx.k];refine RZ.jn (λx y=>y=x) (λx y h=>?_) (λj2 j2' hj2=>?_)
  ·subst h;refine RZ.br rfl (λ_=>Al) (λ_=>?_);refine RZ.jn (λx y=>y=x) (λx y h=>?_) (λj2 j2' hj2=>?_)
   ·subst h;refine RZ.br rfl (λ_=>?_) (λ_=>hj _ _ ⟨h1,h2,hdr⟩);refine RZ.el λx x' _ _ hx1 hx1'=>?_;rw[h1,h2];refine RZ.bind (tv n (hdx.s.2 _ _ _ hx1 hx1')) λr r' h=>hj _ _ ⟨h.1,h.2.1,?_⟩;dsimp only;rw[hdx.p,hdx.t,hdx.a,hdx.b,hdx.tl,hdx.ld,hdx.tr];exact .of (.one h.2.2) hdx.d
   exact RZ.br rfl (λ_=>hj2 _ _ rfl) (λ_=>RZ.br rfl (λ_=>hj2 _ _ rfl) (λ_=>hj2 _ _ rfl))
  exact RZ.br rfl (λ_=>hj2 _ _ rfl) (λ_=>hj2 _ _ rfl)
theorem qK {e e':ak} (he:EE e e') {v v':Int} {p p':L} {K:ak×L->al α} {K':ak×L->al β} (hk:∀ x x',EE x x'->RZ Z V (K (x,p)) (K' (x',p'))) :
  RZ Z V (al.bind (bm m e v p) K) (al.bind (bm m e' v' p') K'):=by
 refine RZ.bind (tv m he) λr r' h=>?_
 obtain ⟨x,p1⟩:=r
 obtain ⟨x',p1'⟩:=r'
 obtain ⟨h1,h2,h3⟩:=h
 dsimp only at h1 h2
 subst h1 h2
 exact hk x x' h3
end
abbrev RE {X Y:Type} (P:X->Y->Prop) (C:Cx) (k:Bool) (a:Int) (x:al (X×L)) (y:al (Y×L)):Prop:=RZ (λr=>ZP C k r.2) (λr r'=>Rl C k a r.2 r'.2/\P r.1 r'.1) x y
abbrev RB (C:Cx) (k:Bool) (a:Int) (x y:al (List aA×List ByS×L)):Prop:=RZ (λr=>ZP C k r.2.2) (λr r'=>Rl C k a r.2.2 r'.2.2/\LR DD r.1 r'.1/\r'.2.1=r.2.1) x y
abbrev RF (C:Cx) (a:Int) (x y:al (L×aA)):Prop:=RZ NZ (λr r'=>Rl C false a r.1 r'.1/\DD r.2 r'.2) x y
def QP (C:Cx) (k:Bool) (a:Int) (q q':Option ak):Prop:=(q=none/\q'=none/\a<=C.B)\/(k=false/\rE C false a/\∃ e e',q=some e/\q'=some e'/\EE e e')
def LE (C:Cx) (a:Int) (e e':ak):Prop:=EE e e'/\∃ (i:Nat) (t:aB),a<i/\i<C.B/\C.T[i]?=some t/\t.Kind=5/\t.Text=[93]
structure GR (n:Nat):Prop where
 expr:∀ {C:Cx} {a:Int} {k j:Bool} {q q':Option ak},C.jC->0<=a->QP C k a q q'->RE EE C k a (aF n j (eh C a k q)) (aF n j (eC C a k q'))
 alt:∀ {C:Cx} {a:Int} {k j:Bool} {q q':Option ak},C.jC->0<=a->QP C k a q q'->RE EE C k a (bt n j (eh C a k q)) (bt n j (eC C a k q'))
 wi:∀ {C:Cx} {a:Int} {k j:Bool} {q q':Option ak},C.jC->0<=a->QP C k a q q'->RE EE C k a (bk n j (eh C a k q)) (bk n j (eC C a k q'))
 bin:∀ {C:Cx} {a l:Int} {k j:Bool} {q q':Option ak},C.jC->0<=a->QP C k a q q'->RE EE C k a (bL n l j (eh C a k q)) (bL n l j (eC C a k q'))
 unary:∀ {C:Cx} {a:Int} {k j:Bool} {q q':Option ak},C.jC->0<=a->QP C k a q q'->RE EE C k a (cr n j (eh C a k q)) (cr n j (eC C a k q'))
 post:∀ {C:Cx} {a:Int} {k j:Bool} {q q':Option ak},C.jC->0<=a->QP C k a q q'->RE EE C k a (bZ n j (eh C a k q)) (bZ n j (eC C a k q'))
 Bw:∀ {C:Cx} {a:Int} {k j:Bool} {q q':Option ak},C.jC->0<=a->QP C k a q q'->RE EE C k a (cE n j (eh C a k q)) (cE n j (eC C a k q'))
 named:∀ {C:Cx} {a:Int} {k:Bool} {t:aB},C.jC->0<=a->a<C.B->C.T[a.toNat]?=some t->t.Kind=1->RE EE C k a (dt n (eh C a k none)) (dt n (eC C a k none))
 xw:∀ {v v':Int} {p p':L} {t t':aB},t'.Text=t.Text->RZ NZ (λr r'=>r.2=p/\r'.2=p'/\EE r.1 r'.1) (c6 n t v p) (c6 n t' v' p')
 parens:∀ {C:Cx} {a:Int} {k j:Bool},C.jC->0<=a->a<=C.B->RE EE C k a (cz n j (eh C a k none)) (cz n j (eC C a k none))
 xx:∀ {C:Cx} {a:Int} {k j:Bool} {t:aB},C.jC->0<=a->a<C.B->rE C k a->C.T[a.toNat]?=some t->(k=true->t.Kind≠7)->RE EE C k a (cZ n j (eh C a k none)) (cZ n j (eC C a k none))
 list:∀ {C:Cx} {a:Int} {k:Bool} {t:aB},C.jC->0<=a->rE C k a->C.T[a.toNat]?=some t->(k=true->t.Kind≠7)->RE (LE C a) C k a (dq n (eh C a k none)) (dq n (eC C a k none))
 block:∀ {C:Cx} {a:Int} {k j:Bool},C.jC->0<=a->a<=C.B->RB C k a (ch n j (eh C a k none)) (ch n j (eC C a k none))
 args:∀ {C:Cx} {a:Int} {k:Bool},C.jC->0<=a->a<=C.B->RE (LR EE) C k a (dA n (eh C a k none)) (dA n (eC C a k none))
 item:∀ {C:Cx} {a:Int},C.jC->0<=a->a<C.B->RE EE C true a (dp n (eh C a true none)) (dp n (eC C a true none))
 field:∀ {C:Cx} {a:Int} {j:Bool} {d d':aA} {t:aB},C.jC->0<=a->a<C.B->C.T[a.toNat]?=some t->t.Kind=3\/t.Kind=1->DD d d'->RF C a (dr n j (eh C a false none) d) (dr n j (eC C a false none) d')
 pattern:∀ {C:Cx} {a:Int} {j:Bool} {d d':aA},C.jC->0<=a->a<=C.B->DD d d'->RF C a (cQ n j (eh C a false none) d) (cQ n j (eC C a false none) d')
 uG:∀ {C:Cx} {a:Int} {j:Bool} {d d':aA},C.jC->0<=a->a<=C.B->DD d d'->RF C a (cP n j (eh C a false none) d) (cP n j (eC C a false none) d')
 decl:∀ {C:Cx} {a:Int} {j:Bool} {t:aB},C.jC->0<=a->a<C.B->C.T[a.toNat]?=some t->t.Kind≠6->RZ NZ (λr r'=>Rl C false a r.2 r'.2/\DD r.1 r'.1) (cj n j (eh C a false none)) (cj n j (eC C a false none))
 decls:∀ {C:Cx} {a:Int} {j:Bool},C.jC->0<=a->a<=C.B->DS C a->RZ (λr=>r.2.2=eh C C.B false none) (λr r'=>(∃ a1,r.2.2=eh C a1 false none/\r'.2.2=eC C a1 false none/\a<=a1/\a1<C.B)/\LR DD r.1 r'.1/\r'.2.1=r.2.1) (cU n j (eh C a false none)) (cU n j (eC C a false none))
 code:∀ {x:ByS} {v v':Int},RZ NZ (λr r'=>r.2=true->r'.2=true/\EE r.1 r'.1) (gR n x v) (gR n x v')
def GL (n:Nat):Prop:=∀ i,i<=n->GR i
theorem GL.g {n:Nat} (h:GL n):GR n:=h n (Nat.le_refl _)
theorem GL.dn {n:Nat} (h:GL (n+1)):GL n:=λi hi=>h i (Nat.le_succ_of_le hi)
theorem nx {a:Int} {κ:Nat}:a+(κ:Int)+1=a+1+κ:=by omega
section
variable {α β X Y:Type} {Z:α->Prop}
theorem Q.jn {j:X->al α} {p:(X->al α)->al α} (N:X->Prop) (hj:∀ v,N v->Q Z (j v)) (hp:∀ j:X->al α,(∀ v,N v->Q Z (j v))->Q Z (p j)):Q Z (al.jn j p):=hp j hj
theorem QP.n {C:Cx} {k:Bool} {a:Int} (h:a<=C.B):QP C k a none none:=.inl ⟨rfl,rfl,h⟩
theorem QP.st {C:Cx} {k:Bool} {a:Int} {q q':Option ak} (hC:C.jC) (h0:0<=a) (h:QP C k a q q'):(rE C k a/\QR q q'/\∀ b,rE C k b->QP C k b q q')/\(k=true->q=none)\/q=none/\B3 C.T k a:=by
 rcases h with ⟨rfl,rfl,h⟩|⟨rfl,h,e,e',rfl,rfl,he⟩
 ·rcases Am (k:=k) hC h0 h with h|h
  ·exact .inl ⟨⟨h,.none,λb hb=>.n hb.le⟩,λ_=>rfl⟩
  exact .inr ⟨rfl,h⟩
 exact .inl ⟨⟨h,.inr ⟨e,e',rfl,rfl,he⟩,λb hb=>.inr ⟨rfl,hb,e,e',rfl,rfl,he⟩⟩,λh=>by cases h⟩
variable {C:Cx} {n:Nat} {a:Int} {k j:Bool} {q q':Option ak}
theorem Iq {q q':Option ak} (h:QR q q') (hn:(q.map ak.C).isNone=true):q=none/\q'=none:=by
 rcases h with h|⟨e,e',rfl,rfl,_⟩
 ·exact h
 cases hn
theorem bB (hC:C.jC):Bd n C.s C.T C.b k C.B:=.inl hC.bad
theorem Jw (ih:GL n) (hC:C.jC) (h0:0<=a) (hQ:QP C k a q q'):RE EE C k a (bt (n+1) j (eh C a k q)) (bt (n+1) j (eC C a k q')):=by
 rcases hQ.st hC h0 with ⟨⟨hP,hq,hQ⟩,hz⟩|⟨rfl,hb⟩
 case inr=>exact RZ.mX ((p7 _).alt (.inl hb))
 show RZ _ _ (c8 n (ai n) j _) (c8 n (ai n) j _);unfold c8;dsimp only;have hz2:k=true->∀ {x:ak->ak},Q (λr:ak×L=>ZP C k r.2) (al.bind (bk n j (pB C q)) λy=>.ok (x y.1,y.2)):=λhk x=>by
  rw[hz hk];exact Q.mX (fp.kW ((p7 _).wi (bB hC)))
 refine RZ.br hq.Lp (λhn=>?_) (λ_=>?_)
 ·obtain ⟨rfl,rfl⟩:=Iq hq hn;refine xA hC hP (λa2 v v' h2 hP2 _=>?_) (λhk _=>kM hC (Q.br (λh=>by cases h) (λ_=>hz2 hk (x:=id))));dsimp only;refine ly hC hP2 (λa7 t h7 h8 _ _=>?_) (λa7 h7 hP7=>?_) (λhk=>Q.br (λh=>by cases h) (λ_=>hz2 hk (x:=id)))
  ·exact RZ.br rfl (λ_=>mC (ih.g.wi hC (by omega) (.n h8)) (λe e' a8 h8 hP8 he8=>RZ.ok ⟨.mk (by omega) hP8,.sub (.one he8)⟩) (λhk _=>Q.ok ⟨hk,rfl⟩)) (λh=>by cases h)
  exact RZ.br rfl (λh=>by cases h) (λ_=>mC (ih.g.wi hC (by omega) (hQ _ hP7)) (λe e' a8 h8 hP8 he8=>RZ.ok ⟨.mk (by omega) hP8,he8⟩) (λhk _=>Q.ok ⟨hk,rfl⟩))
 exact mC (ih.g.wi hC (by omega) (hQ _ hP)) (λe e' a8 h8 hP8 he8=>RZ.ok ⟨.mk (by omega) hP8,he8⟩) (λhk _=>Q.ok ⟨hk,rfl⟩)
theorem Hy (ih:GL n) (hC:C.jC) (h0:0<=a) (hQ:QP C k a q q'):RE EE C k a (aF (n+1) j (eh C a k q)) (aF (n+1) j (eC C a k q')):=by
 rcases hQ.st hC h0 with ⟨⟨hP,hq,hQ⟩,hz⟩|⟨rfl,hb⟩
 case inr=>exact RZ.mX ((p7 _).expr (.inl hb))
 show RZ _ _ (eM n (ai n) j _) (eM n (ai n) j _);unfold eM;dsimp only;refine RZ.Js (λv w=>∃ a1,v.1=eh C a1 k q/\w.1=eC C a1 k q'/\a<=a1/\rE C k a1/\w.2=v.2) (λv=>k=true/\v.1=pB C q) (λv w h=>?_) (λv h=>?_) (λj0 j0' hj hN=>?_)
 ·obtain ⟨p,x⟩:=v;obtain ⟨p',x'⟩:=w;obtain ⟨a1,g1,g2,h1,hP1,g3⟩:=h;dsimp only at g1 g2 g3;subst g1 g2 g3;dsimp only;refine RZ.Js (λv w=>Rl C k a v.1 w.1/\EE v.2 w.2) (λv=>k=true/\v.1=pB C none) (λv w h=>?_) (λv h=>?_) (λj1 j1' hj hN=>?_)
  ·obtain ⟨p,e⟩:=v;obtain ⟨p',e'⟩:=w;obtain ⟨⟨a2,g1,g2,h2,hP2⟩,he⟩:=h;dsimp only at g1 g2 he;subst g1 g2;dsimp only;refine RZ.K5 (λv w=>Rl C k a v w) (λv=>k=true/\v=pB C none) (λv w h=>?_) (λv h=>?_) (λj2 j2' hj hN=>?_)
   ·obtain ⟨a3,rfl,rfl,h3,hP3⟩:=h;dsimp only;refine RZ.jn (λv w=>∃ a4 t,v=eh C a4 k none/\w=eC C a4 k none/\a<=a4/\a4<C.B/\rE C k a4/\C.T[a4.toNat]?=some t/\t.Kind=5) (λv w h=>?_) (λj3 j3' hj=>?_)
    ·obtain ⟨a4,t,rfl,rfl,h4,hB4,hP4,ht,hk5⟩:=h;refine mD hC hP4 ht (λ_=>by omega) λv v'=>?_;dsimp only;refine qK he λx x' hx=>?_;dsimp only;refine RZ.uH (λ(v w:L×List ak)=>Rl C k a v.1 w.1/\LR EE v.2 w.2) (λv=>k=true/\v.1=pB C none) (λv h next hn=>?_) (λv w h next next' hn hN=>?_) _ _ ⟨.mk (by omega) hP4,.one hx⟩
     ·obtain ⟨p,l⟩:=v;obtain ⟨hk,h⟩:=h;dsimp only at h;subst h;exact kM hC (Q.br (λh=>by cases h) (λ_=>Q.el λ_ _ _=>Q.ok ⟨hk,rfl⟩))
     obtain ⟨p,l⟩:=v;obtain ⟨p',l'⟩:=w;obtain ⟨⟨a6,g1,g2,h6,hP6⟩,hl⟩:=h;dsimp only at g1 g2 hl;subst g1 g2;dsimp only;refine ly hC hP6 (λa7 t h7 hB7 _ _=>?_) (λa7 h7 hP7=>?_) (λhk=>Q.br (λh=>by cases h) (λ_=>Q.el λ_ _ _=>Q.ok ⟨hk,rfl⟩))
     ·refine RZ.br rfl (λ_=>mC (ih.g.alt hC (by omega) (.n hB7)) (λe e' a8 h8 hP8 he8=>?_) (λhk _=>Q.gd (hN _ ⟨hk,rfl⟩))) (λh=>by cases h);exact RZ.gd λ_ _=>hn _ _ ⟨.mk (by omega) hP8,hl.snoc he8⟩
     exact RZ.br rfl (λh=>by cases h) (λ_=>RZ.el λx x' _ _ _ _=>RZ.ok ⟨.mk (by omega) hP7,.sub hl⟩)
    refine jl hC hP3 (λa4 t t' h4 hP4 ht hs _=>?_) (λhk t ht=>lK ht (Q.br (λ_=>kb) (λh=>by cases h)));dsimp only;refine kF hs λr hr=>RZ.br rfl (λ_=>iJ) (λhrt=>?_);have h5:=hr (by simpa using hrt);exact hj _ _ ⟨a4,t,rfl,rfl,by omega,xB hC hP4 ht (by omega),hP4,ht,h5.1⟩
   ·obtain ⟨hk,rfl⟩:=h;exact fp.jn (s7 hC.bad λt ht=>by rw[o7 (t:=t) (by omega)];exact gH)
   refine RZ.br rfl (λ_=>?_) (λ_=>hj _ _ (.mk (by omega) hP2));refine jl hC hP2 (λa4 t t' h4 hP4 _ hs _=>?_) (λhk t ht=>lK ht (Q.br (λ_=>Q.ok ⟨hk,rfl⟩) (λh=>by cases h)));dsimp only;exact kF hs λr _=>RZ.br rfl (λ_=>RZ.ok ⟨.mk (by omega) hP4,he⟩) (λ_=>hj _ _ (.mk (by omega) hP4))
  ·obtain ⟨p,e⟩:=v;obtain ⟨hk,h⟩:=h;dsimp only at h;subst h;dsimp only;refine Q.jn (λv=>v=pB C none) (λv h=>?_) (λj hj=>Q.br (λ_=>rG hC λt ht=>lK ht (Q.br (λ_=>Q.ok ⟨hk,rfl⟩) (λh=>by cases h))) (λ_=>hj _ rfl));subst h;exact Q.mX (fp.jn (s7 hC.bad λt ht=>by rw[o7 (t:=t) (by omega)];exact gH))
  exact RZ.br rfl (λ_=>mC (ih.g.alt hC (by omega) (hQ _ hP1)) (λe e' a8 h8 hP8 he8=>hj _ _ ⟨.mk (by omega) hP8,he8⟩) (λhk _=>hN _ ⟨hk,rfl⟩)) (λ_=>mC (ih.g.alt hC (by omega) (hQ _ hP1)) (λe e' a8 h8 hP8 he8=>hj _ _ ⟨.mk (by omega) hP8,he8⟩) (λhk _=>hN _ ⟨hk,rfl⟩))
 ·obtain ⟨p,e⟩:=v;obtain ⟨hk,h⟩:=h;dsimp only at h;subst h;dsimp only;rw[hz hk];exact Q.mX (fp.jn (fp.br (λ_=>fp.kW ((p7 _).alt (bB hC))) (λ_=>fp.kW ((p7 _).alt (bB hC)))))
 refine RZ.br hq.Lp (λhn=>?_) (λ_=>hj _ _ ⟨_,rfl,rfl,by omega,hP,rfl⟩);refine jl hC hP (λa4 t t' h4 hP4 _ hs _=>?_) (λhk t ht=>lK ht (hN _ ⟨hk,rfl⟩));dsimp only;exact kF hs λr _=>hj _ _ ⟨_,rfl,rfl,by omega,hP4,rfl⟩
theorem Hz (ih:GL n) (hC:C.jC) (h0:0<=a) (hQ:QP C k a q q'):RE EE C k a (bk (n+1) j (eh C a k q)) (bk (n+1) j (eC C a k q')):=by
 show RZ _ _ (da n (ai n) j _) (da n (ai n) j _);unfold da;refine mC (ih.g.bin hC h0 hQ) (λe e' a2 h2 hP2 he=>?_) (λhk e=>Q.iter (λv=>v.1=pB C none) (λv h next _=>?_) _ rfl)
 case refine_2=>rw[h];exact kM hC (Q.br (λh=>by cases h) (λ_=>Q.ok ⟨hk,rfl⟩))
 dsimp only;refine RZ.uH (λ(v w:L×ak)=>Rl C k a v.1 w.1/\EE v.2 w.2) (λv=>k=true/\v.1=pB C none) (λv h next hn=>?_) (λv w h next next' hn hN=>?_) _ _ ⟨.mk (by omega) hP2,he⟩
 ·rw[h.2];exact kM hC (Q.br (λh=>by cases h) (λ_=>Q.ok ⟨h.1,rfl⟩))
 obtain ⟨p,e⟩:=v;obtain ⟨p',e'⟩:=w;obtain ⟨⟨a6,g1,g2,h6,hP6⟩,he⟩:=h;dsimp only at g1 g2 he;subst g1 g2;dsimp only;refine ly hC hP6 (λa7 t h7 hB7 _ _=>?_) (λa7 h7 hP7=>?_) (λhk=>Q.br (λh=>by cases h) (λ_=>Q.ok ⟨hk,rfl⟩))
 ·exact RZ.br rfl (λ_=>mC (ih.g.bin hC (by omega) (.n hB7)) (λe2 e2' a8 h8 hP8 he8=>hn _ _ ⟨.mk (by omega) hP8,.sub (.two he he8)⟩) (λhk _=>hN _ ⟨hk,rfl⟩)) (λh=>by cases h)
 exact RZ.br rfl (λh=>by cases h) (λ_=>RZ.ok ⟨.mk (by omega) hP7,he⟩)
theorem Jx (ih:GL n) (hC:C.jC) (h0:0<=a) {l:Int} (hQ:QP C k a q q'):RE EE C k a (bL (n+1) l j (eh C a k q)) (bL (n+1) l j (eC C a k q')):=by
 show RZ _ _ (ef n (ai n) l j _) (ef n (ai n) l j _);unfold ef;refine RZ.br rfl (λ_=>mC (ih.g.unary hC h0 hQ) (λe e' a8 h8 hP8 he8=>RZ.ok ⟨.mk (by omega) hP8,he8⟩) (λhk _=>Q.ok ⟨hk,rfl⟩)) (λ_=>RZ.gd λ_ _=>?_);refine mC (ih.g.bin hC h0 hQ) (λe e' a2 h2 hP2 he=>?_) (λhk e=>Q.iter (λv=>v.1=pB C none) (λv h next _=>?_) _ rfl)
 case refine_2=>rw[h];exact rG hC λt ht=>Q.bind λc _=>s6 ht (Q.br (λh=>by cases h) (λ_=>Q.ok ⟨hk,rfl⟩))
 dsimp only;refine RZ.uH (λ(v w:L×ak)=>Rl C k a v.1 w.1/\EE v.2 w.2) (λv=>k=true/\v.1=pB C none) (λv h next hn=>?_) (λv w h next next' hn hN=>?_) _ _ ⟨.mk (by omega) hP2,he⟩
 ·rw[h.2];exact rG hC λt ht=>Q.bind λc _=>s6 ht (Q.br (λq=>by cases q) (λ_=>Q.ok ⟨h.1,rfl⟩))
 obtain ⟨p,e⟩:=v;obtain ⟨p',e'⟩:=w;obtain ⟨⟨a6,g1,g2,h6,hP6⟩,he⟩:=h;dsimp only at g1 g2 he;subst g1 g2;dsimp only;refine jl hC hP6 (λa4 t t' h4 hP4 ht hs hh=>RZ.same λops hops=>?_) (λhk t ht=>Q.bind λc _=>s6 ht (Q.br (λq=>by cases q) (λ_=>Q.ok ⟨hk,rfl⟩)));dsimp only;refine uJ hs λr hr=>RZ.br rfl (λhrt=>?_) (λ_=>RZ.ok ⟨.mk (by omega) hP4,he⟩);have hk5:=hr hrt;have hB:=xB hC hP4 ht (by omega);refine mD hC hP4 ht (λ_=>by omega) λv v'=>?_;dsimp only;refine qK he λx x' hx=>?_;dsimp only;refine uK hC hB ht (λ_=>by omega) λt7' hs7=>?_;dsimp only;rw[nx,hs7.2];exact RZ.gd λ_ _=>RZ.gd λ_ _=>mC (ih.g.bin hC (by omega) (.n (by omega))) (λe2 e2' a8 h8 hP8 he8=>hn _ _ ⟨.mk (by omega) hP8,.sub (.two hx he8)⟩) (λhk _=>hN _ ⟨hk,rfl⟩)
theorem Fx (ih:GL n) (hC:C.jC) (h0:0<=a) (hQ:QP C k a q q'):RE EE C k a (cr (n+1) j (eh C a k q)) (cr (n+1) j (eC C a k q')):=by
 rcases hQ.st hC h0 with ⟨⟨hP,hq,hQ⟩,hz⟩|⟨rfl,hb⟩
 case inr=>exact RZ.mX ((p7 _).unary (.inl hb))
 show RZ _ _ (ek n (ai n) j _) (ek n (ai n) j _);unfold ek;dsimp only;refine RZ.br hq.Lw (λ_=>mC (ih.g.post hC h0 (hQ _ hP)) (λe e' a8 h8 hP8 he8=>RZ.ok ⟨.mk (by omega) hP8,he8⟩) (λhk _=>Q.ok ⟨hk,rfl⟩)) (λhn=>?_);obtain ⟨rfl,rfl⟩:=Iq hq (by cases q with|none=>rfl|some _=>cases hn);refine jl hC hP (λa4 t t' h4 hP4 ht hs hh=>?_) (λhk t ht=>s5 hC λv=>Q.jn (λ_=>False) (λ_ h=>h.elim) λj hj=>s6 ht (Q.br (λq=>by cases q) (λ_=>s6 ht (Q.br (λq=>by cases q) (λ_=>Q.mX (fp.kW ((p7 _).post (bB hC))))))));dsimp only;refine mD hC hP4 ht hh.1 λv v'=>?_;dsimp only;refine RZ.jn (λx y=>y=x/\t.Kind=5) (λx y h=>?_) (λj0 j0' hj=>?_)
 ·obtain ⟨rfl,hk⟩:=h;rw[nx,(hs.s (by omega)).2];have hB:=xB hC hP4 ht (by omega);exact RZ.gd λ_ _=>mC (ih.g.unary hC (by omega) (.n (by omega))) (λe e' a8 h8 hP8 he8=>RZ.ok ⟨.mk (by omega) hP8,.sub (.one he8)⟩) (λhk _=>Q.ok ⟨hk,rfl⟩)
 refine uJ hs λr hr=>RZ.br rfl (λh=>hj _ _ ⟨rfl,hr h⟩) (λ_=>uJ hs λr hr=>RZ.br rfl (λh=>hj _ _ ⟨rfl,hr h⟩) (λ_=>?_));exact mC (ih.g.post hC (by omega) (hQ _ hP4)) (λe e' a8 h8 hP8 he8=>RZ.ok ⟨.mk (by omega) hP8,he8⟩) (λhk _=>Q.ok ⟨hk,rfl⟩)
theorem Kx (ih:GL n) (hC:C.jC) (h0:0<=a) (ha:a<=C.B) {e e':ak} (he:EE e e'):RZ NZ (λr r'=>Rk C [93] k a r.1 r'.1/\EE r.2 r'.2) (dw n true (eh C a k none) e) (dw n true (eC C a k none) e'):=by
 cases n with
 | zero=>exact RZ.nil
 | succ n=>
  show RZ NZ _ (eH n (ai n) true _ e) (eH n (ai n) true _ e')
  unfold eH
  dsimp only
  refine RZ.bind (W:=λr r'=>Rk C [93] true a r.2 r'.2/\EE r.1 r'.1) ?_ λr r' h=>?_
  ·cases n with
   | zero=>exact RZ.nil
   | succ n=>
    show RZ NZ _ (eE n (ai n) e _) (eE n (ai n) e' _)
    unfold eE
    refine mC (ih.dn.dn.g.expr hC h0 (.n ha)) (λx x' a2 h2 hP2 hx=>?_) (λ_ _=>Q.mX (l0 hC.bad))
    dsimp only
    exact nI hC hP2.le λa3 t h3 h4 h5 h6=>RZ.ok ⟨⟨a3,t,rfl,rfl,by omega,h4,h5,h6⟩,.sub (.two he hx)⟩
  ·obtain ⟨x,p⟩:=r;obtain ⟨x',p'⟩:=r';obtain ⟨⟨a3,t,g1,g2,h3⟩,he⟩:=h;dsimp only at g1 g2 he;subst g1 g2;exact RZ.ok ⟨⟨a3,t,rfl,rfl,h3⟩,he⟩
theorem pK {t:aB} {x:ByS} (h:t.Kind=5/\t.Text=x) (hx:kE 5 x=true:=by decide):kE t.Kind t.Text=true:=by rw[h.1,h.2];exact hx
theorem HA (ih:GL n) (hC:C.jC) (h0:0<=a) (hQ:QP C k a q q'):RE EE C k a (bZ (n+1) j (eh C a k q)) (bZ (n+1) j (eC C a k q')):=by
 show RZ _ _ (dP n (ai n) j _) (dP n (ai n) j _);unfold dP;refine mC (ih.g.Bw hC h0 hQ) (λe e' a2 h2 hP2 he=>?_) (λhk e=>Q.iter (λv=>v.1=pB C none) (λv h next _=>?_) _ rfl)
 case refine_2=>rw[h];exact rG hC λt ht=>s5 hC λv=>lK ht (Q.br (λq=>by cases q) (λ_=>lK ht (Q.br (λq=>by cases q) (λ_=>Q.ok ⟨hk,rfl⟩))))
 dsimp only;refine RZ.uH (λ(v w:L×ak)=>Rl C k a v.1 w.1/\EE v.2 w.2) (λv=>k=true/\v.1=pB C none) (λv h next hn=>?_) (λv w h next next' hn hN=>?_) _ _ ⟨.mk (by omega) hP2,he⟩
 ·rw[h.2];exact rG hC λt ht=>s5 hC λv=>lK ht (Q.br (λq=>by cases q) (λ_=>lK ht (Q.br (λq=>by cases q) (λ_=>Q.ok ⟨h.1,rfl⟩))))
 obtain ⟨p,e⟩:=v;obtain ⟨p',e'⟩:=w;obtain ⟨⟨a3,g1,g2,h3,hP3⟩,he⟩:=h;dsimp only at g1 g2 he;subst g1 g2;dsimp only;have hnx:∀ {a1:Int} {t:aB} {x x':ak},0<=a1->a<=a1->a1<C.B->C.T[a1.toNat]?=some t->kE t.Kind t.Text=true->EE x x'->RE EE C k a (next (eh C (a1+1) k none,x)) (next' (eC C (a1+1) k none,x')):=λ{a1 t x x'} g0 g1 g2 g3 g4 g5=>by
  rcases fin (k:=k) hC (a1:=a1+1) (by omega) (by omega) (by simpa using g3) g4 with h|⟨hk,h⟩
  ·exact hn _ _ ⟨.mk (by omega) h,g5⟩
  refine Q.rz (hN _ ⟨hk,?_⟩);rw[h,hk]
 refine jl hC hP3 (λa4 t t' h4 hP4 ht hs hh=>?_) (λhk t ht=>s5 hC λv=>lK ht (Q.br (λq=>by cases q) (λ_=>lK ht (Q.br (λq=>by cases q) (λ_=>Q.ok ⟨hk,rfl⟩)))));dsimp only;refine mD hC hP4 ht hh.1 λv v'=>?_;dsimp only;refine kF hs λr hr=>RZ.br rfl (λhrt=>?_) (λ_=>kF hs λr hr=>RZ.br rfl (λhrt=>?_) (λ_=>RZ.ok ⟨.mk (by omega) hP4,he⟩))
 ·have hB:=xB hC hP4 ht (by have:=(hr hrt).1;omega);refine qK he λx x' hx=>?_;dsimp only;rw[nx];refine RZ.gd λ_ _=>?_;have hkL:∀ (u:aB),u.Kind=0\/u.Kind=7\/u.Kind=6->fi n u=.ok false:=λu hu=>by
   unfold fi;rw[beq_eq_false_iff_ne.2 (by omega:u.Kind≠3),beq_eq_false_iff_ne.2 (by omega:u.Kind≠1)];rfl
  rcases Am (k:=k) hC (by omega) (by omega:a4+1<=C.B) with hP5|hb
  case inr=>exact RZ.mX (s7 hb λu hu=>fp.jn (by rw[hkL u hu];exact gH))
  refine jl hC hP5 (λa6 t6 t6' h6 hP6 ht6 hs6 _=>?_) (λhk u hu=>Q.mX (fp.jn (by rw[hkL u (.inl hu)];exact gH)));dsimp only;refine RZ.jn (λv w=>v=eh C a6 k none/\w=eC C a6 k none/\(t6.Kind=3\/t6.Kind=1)) (λv w h=>?_) (λj0 j0' hj=>?_)
  ·obtain ⟨rfl,rfl,hk⟩:=h;dsimp only;rw[(hs6.s (by omega)).2,nx];exact RZ.gd λ_ _=>hnx (by omega) (by omega) (xB hC hP6 ht6 (by omega)) ht6 (by unfold kE;rw[if_pos (by omega)]) (.sub (.one hx))
  exact xz hs6 λr hr=>RZ.br rfl (λ_=>iJ) (λh=>hj _ _ ⟨rfl,rfl,hr (by simpa using h)⟩)
 have hB:=xB hC hP4 ht (by have:=(hr hrt).1;omega);refine qK he λx x' hx=>?_;dsimp only;rw[nx];refine RZ.gd λ_ _=>B5 (Kx ih hC (by omega) (by omega) hx) λx x' a6 t h6 hB6 ht6 ht65 hx=>?_;dsimp only;rw[nx];exact RZ.gd λ_ _=>hnx (by omega) (by omega) hB6 ht6 (pK ht65) hx
end
theorem RZ.Ky {α β X Y:Type} {V:α->β->Prop} {Z:α->Prop} {body:(X->al α)->X->al α} {body':(Y->al β)->Y->al β} (I:X->Y->Prop) (N:X->Prop) (hN:∀ x,N x->∀ next,(∀ v,N v->Q Z (next v))->Q Z (body next x))
 (hb:∀ x y,I x y->∀ (next:X->al α) (next':Y->al β),(∀ v w,I v w->RZ Z V (next v) (next' w))->(∀ v,N v->Q Z (next v))->RZ Z V (body next x) (body' next' y))
 (n n':Nat) {x:X} {y:Y} (h:I x y\/N x):RZ Z V (al.iter body n x) (al.iter body' n' y):=h.elim (RZ.uH I N hN hb n n') λh=>Q.rz (Q.iter N hN n h)
section
variable {C:Cx} {n:Nat} {a:Int} {k j:Bool} {X Y:Type} {P:X->Y->Prop}
theorem xE (hC:C.jC) {a1:Int} {t:aB} (h0:0<=a1) (h1:a<=a1) (h2:a1<C.B) (ht:C.T[a1.toNat]?=some t) (hs:kE t.Kind t.Text=true) {x:X} {y:Y} (hp:P x y):RE P C k a (.ok (x,eh C (a1+1) k none)) (.ok (y,eC C (a1+1) k none)):=by
 rcases fin (k:=k) hC (a1:=a1+1) (by omega) (by omega) (by simpa using ht) hs with h|⟨hk,h⟩
 ·exact RZ.ok ⟨.mk (by omega) h,hp⟩
 exact RZ.KS ⟨hk,by rw[h,hk]⟩
theorem uL {t:aB} (h:t.Kind=1\/t.Kind=2\/t.Kind=3\/t.Kind=4):kE t.Kind t.Text=true:=by unfold kE;rw[if_pos h]
theorem Fy (ih:GL n) (hC:C.jC) (h0:0<=a) (hB:a<C.B) {t0:aB} (ht0:C.T[a.toNat]?=some t0) (hk0:t0.Kind=1):RE EE C k a (dt (n+1) (eh C a k none)) (dt (n+1) (eC C a k none)):=by
 show RZ _ _ (fR n (ai n) _) (fR n (ai n) _);unfold fR;have h7:k=true->t0.Kind≠7:=λ_=>by omega
 refine uK hC hB ht0 h7 λt' hs=>?_;dsimp only;refine mD hC (.lt h0 hB ht0 (by omega)) ht0 h7 λv v'=>?_;dsimp only;rw[hs.2];refine RZ.jn (λe e'=>EE e e') (λe e' he=>?_) (λj0 j0' hj=>?_)
 ·rw[nx];exact RZ.gd λ_ _=>xE hC h0 (by omega) hB ht0 (C3 hk0) (he.x.sub .nil)
 refine RZ.br rfl (λ_=>hj _ _ .leaf) (λ_=>?_);refine RZ.jn (λx y=>y=x) (λx y h=>?_) (λj2 j2' hj2=>?_)
 ·subst h;refine RZ.br rfl (λ_=>RZ.br rfl (λ_=>hj _ _ .leaf) (λ_=>hj _ _ .leaf)) (λ_=>?_);refine RZ.jn (λx y=>y=x) (λx y h=>?_) (λj2 j2' hj2=>?_)
  ·subst h;refine RZ.br rfl (λ_=>hj _ _ .leaf) (λ_=>?_);refine tu hC (by omega) λa6 x t6 h6 hB6 ht6 hk6=>?_;dsimp only;rcases fin (k:=k) hC (by omega) hB6 ht6 (C3 hk6) with hP6|⟨hk,h⟩
   case inr=>
    subst hk h
    exact Q.rz (rG hC λt ht=>lK ht (Q.br (λq=>by cases q) (λ_=>Q.ok ⟨rfl,rfl⟩)))
   refine jl hC hP6 (λa7 t t' h7 hP7 ht hs _=>?_) (λhk t ht=>lK ht (Q.br (λq=>by cases q) (λ_=>Q.ok ⟨hk,rfl⟩)));dsimp only;refine kF hs λr _=>RZ.br rfl (λ_=>?_) (λ_=>RZ.ok ⟨.mk (by omega) hP7,.leaf⟩);exact mC (P:=LR EE) (ih.g.args hC (by omega) hP7.le) (λl l' a4 h4 hP4 hl=>RZ.ok ⟨.mk (by omega) hP4,.sub hl⟩) (λhk _=>Q.ok ⟨hk,rfl⟩)
  exact RZ.br rfl (λ_=>hj2 _ _ rfl) (λ_=>RZ.br rfl (λ_=>hj2 _ _ rfl) (λ_=>RZ.br rfl (λ_=>hj2 _ _ rfl) (λ_=>hj2 _ _ rfl)))
 exact RZ.br rfl (λ_=>hj2 _ _ rfl) (λ_=>hj2 _ _ rfl)
theorem DE (ih:GL n) {t t':aB} {v v':Int} {p p':L} (hs:t'.Text=t.Text):RZ NZ (λr r'=>r.2=p/\r'.2=p'/\EE r.1 r'.1) (c6 (n+1) t v p) (c6 (n+1) t' v' p'):=by
 show RZ NZ _ (fE n (ai n) t v _) (fE n (ai n) t' v' _);unfold fE;rw[hs];refine RZ.same λy _=>?_;refine RZ.iter (λ(x y:L×ak×Int)=>x.1=p/\y.1=p'/\EE x.2.1 y.2.1/\y.2.2=x.2.2) (λx y h next next' hn=>?_) _ _ ⟨rfl,rfl,.leaf,rfl⟩;obtain ⟨p1,e,i⟩:=x;obtain ⟨p1',e',i'⟩:=y;obtain ⟨g1,g2,he,g3⟩:=h;dsimp only at g1 g2 g3 he;subst g1 g2 g3;dsimp only;have hx:=he.x;refine RZ.br rfl (λ_=>?_) (λ_=>RZ.ok ⟨rfl,rfl,hx.sub hx.s⟩);refine RZ.el λx x' _ _ hy hy'=>?_;rw[hy] at hy';cases hy';refine RZ.gd λ_ _=>RZ.gd λ_ _=>RZ.br rfl (λ_=>?_) (λ_=>?_)
 ·exact RZ.gd λ_ _=>RZ.gd λ_ _=>hn _ _ ⟨rfl,rfl,hx.sub (hx.s.snoc .leaf),rfl⟩
 refine RZ.bind ih.g.code λz z' hz=>?_;refine RZ.Lo (λ_=>Al) (λh=>?_);have hz2:=hz (by simpa using h);exact RZ.K4 (λh=>by rw[hz2.1] at h;cases h) (λ_=>RZ.gd λ_ _=>RZ.gd λ_ _=>hn _ _ ⟨rfl,rfl,hx.sub (hx.s.snoc hz2.2),rfl⟩)
theorem Kz (ih:GL n) (hC:C.jC) (h0:0<=a) (ha:a<=C.B) {e:ak}:RZ NZ (λr r'=>Rk C [41] k a r.1 r'.1/\EE r.2.2 r'.2.2) (dM n true (eh C a k none) j e) (dM n true (eC C a k none) j e):=by
 cases n with
 | zero=>exact RZ.nil
 | succ n=>
  show RZ NZ _ (eG n (ai n) true _ j e) (eG n (ai n) true _ j e)
  unfold eG
  dsimp only
  refine RZ.bind (W:=λr r'=>Rk C [41] true a r.2.2 r'.2.2/\EE r.2.1 r'.2.1) ?_ λr r' h=>?_
  ·cases n with
   | zero=>exact RZ.nil
   | succ n=>
    show RZ NZ _ (eT n (ai n) j e _) (eT n (ai n) j e _)
    unfold eT
    refine mC (ih.dn.dn.g.expr hC h0 (.n ha)) (λx x' a2 h2 hP2 hx=>?_) (λ_ _=>Q.mX (l0 hC.bad))
    dsimp only
    exact nI hC hP2.le λa3 t h3 h4 h5 h6=>RZ.ok ⟨⟨a3,t,rfl,rfl,by omega,h4,h5,h6⟩,hx⟩
  ·obtain ⟨x,e1,p⟩:=r;obtain ⟨x',e1',p'⟩:=r';obtain ⟨⟨a3,t,g1,g2,h3⟩,he⟩:=h;dsimp only at g1 g2 he;subst g1 g2;exact RZ.ok ⟨⟨a3,t,rfl,rfl,h3⟩,he⟩
theorem DF (ih:GL n) (hC:C.jC) (h0:0<=a) (ha:a<=C.B):RE EE C k a (cz (n+1) j (eh C a k none)) (cz (n+1) j (eC C a k none)):=by
 show RZ _ _ (fG n (ai n) j _) (fG n (ai n) j _);unfold fG;refine kc hC ha λa2 t h2 hB2 _ _=>B5 (P:=λx x':Bool×ak=>EE x.2 x'.2) (Kz ih hC (by omega) hB2) λx x' a3 t3 h3 hB3 ht hk he=>?_;dsimp only;rw[nx];exact RZ.gd λ_ _=>xE hC (by omega) (by omega) hB3 ht (pK hk) he
theorem KA (ih:GL n) (hC:C.jC) (h0:0<=a) (ha:a<=C.B) (hB:DS C a):RZ NZ (λr r'=>Rk C [125] k a r.1 r'.1/\LR DD r.2.2.1 r'.2.2.1/\r'.2.2.2=r.2.2.2) (dL n false (eh C a k none) j [] []) (dL n false (eC C a k none) j [] []):=by
 cases n with
 | zero=>exact RZ.nil
 | succ n=>
  show RZ NZ _ (eF n (ai n) false _ j [] []) (eF n (ai n) false _ j [] [])
  unfold eF
  dsimp only
  refine RZ.bind (W:=λr r'=>Rk C [125] false a r.2.2.2 r'.2.2.2/\LR DD r.2.1 r'.2.1/\r'.2.2.1=r.2.2.1) ?_ λr r' h=>?_
  ·cases n with
   | zero=>exact RZ.nil
   | succ n=>
    show RZ NZ _ (fl n (ai n) j [] [] _) (fl n (ai n) j [] [] _)
    unfold fl
    refine RZ.qJ (ih.dn.dn.g.decls hC h0 ha hB) (λc hz x e=>?_) λr r' h=>?_
    ·obtain ⟨l,tl,p⟩:=c;dsimp only at hz;subst hz;exact l0 hC.bad x e
    obtain ⟨x,e1,p⟩:=r
    obtain ⟨x',e1',p'⟩:=r'
    obtain ⟨⟨a3,g1,g2,h3,h4⟩,hl,ht⟩:=h
    dsimp only at g1 g2 hl ht;subst g1 g2 ht
    dsimp only
    exact nI hC (by omega) λa4 t h4 h5 h6 h7=>RZ.ok ⟨⟨a4,t,rfl,rfl,by omega,h5,h6,h7⟩,hl,rfl⟩
  ·obtain ⟨x,e1,tl,p⟩:=r;obtain ⟨x',e1',tl',p'⟩:=r';obtain ⟨⟨a3,t,g1,g2,h3⟩,hl,ht⟩:=h;dsimp only at g1 g2 hl ht;subst g1 g2 ht;exact RZ.ok ⟨⟨a3,t,rfl,rfl,h3⟩,hl,rfl⟩
theorem Fz (ih:GL n) (hC:C.jC) (h0:0<=a) (ha:a<=C.B):RB C k a (ch (n+1) j (eh C a k none)) (ch (n+1) j (eC C a k none)):=by
 show RZ _ _ (fP n (ai n) j _) (fP n (ai n) j _);unfold fP;refine kc hC ha λa2 t h2 hB2 ht hk=>B5 (P:=λx x':Bool×List aA×List ByS=>LR DD x.2.1 x'.2.1/\x'.2.2=x.2.2) (KA ih hC (by omega) hB2 (.of (by omega) ht hk.1)) λx x' a3 t3 h3 hB3 ht3 hk3 he=>?_;dsimp only;rw[nx];refine RZ.gd λ_ _=>?_;rcases fin (k:=k) hC (a1:=a3+1) (by omega) (by omega) (by simpa using ht3) (pK hk3) with h|⟨hk,h⟩
 ·exact RZ.ok ⟨.mk (by omega) h,he.1,he.2⟩
 exact RZ.KS ⟨hk,by rw[h,hk]⟩
theorem DG (ih:GL n) (hC:C.jC) (h0:0<=a) (hB:a<C.B) (hP:rE C k a) {t0:aB} (ht0:C.T[a.toNat]?=some t0) (h7:k=true->t0.Kind≠7):RE EE C k a (cZ (n+1) j (eh C a k none)) (cZ (n+1) j (eC C a k none)):=by
 show RZ _ _ (fD n (ai n) j _) (fD n (ai n) j _);unfold fD;refine mD hC hP ht0 h7 λv v'=>?_;dsimp only;refine RZ.jn (λe e'=>EE e e') (λe e' he=>?_) (λj0 j0' hj=>?_)
 ·have hx:=he.x;refine RZ.qJ (ih.g.block hC (by omega) (by omega)) (λc hz x e=>?_) λr r' h=>?_
  ·cases e;exact hz
  obtain ⟨x,e1,p⟩:=r;obtain ⟨x',e1',p'⟩:=r';obtain ⟨⟨a3,g1,g2,h3,hP3⟩,hl,ht⟩:=h;dsimp only at g1 g2 hl ht;subst g1 g2 ht;dsimp only;rw[hx.k,hx.t,hx.n,hx.a,hx.b];exact RZ.ok ⟨.mk (by omega) hP3,EE.of .nil hl⟩
 exact RZ.br rfl (λ_=>hj _ _ .leaf) (λ_=>hj _ _ .leaf)
theorem rI (hb:B3 C.T k a) {α:Type} {K:ak×L->al α}:fp (al.bind (aF n j (eh C a k none)) K):=fp.kW ((p7 _).expr (.inl hb))
theorem KB (ih:GL n) (hC:C.jC) (h0:0<=a) (ha:a<=C.B):RZ NZ (λr r'=>Rk C [41] k a r.1 r'.1/\LR EE r.2 r'.2) (dO n true (eh C a k none) []) (dO n true (eC C a k none) []):=by
 cases n with
 | zero=>exact RZ.nil
 | succ n=>
  show RZ NZ _ (eJ n (ai n) true _ []) (eJ n (ai n) true _ [])
  unfold eJ
  dsimp only
  refine RZ.bind (W:=λr r'=>Rk C [41] true a r.2 r'.2/\LR EE r.1 r'.1) ?_ λr r' h=>?tail
  case tail=>
   obtain ⟨x,p⟩:=r
   obtain ⟨x',p'⟩:=r'
   obtain ⟨⟨a3,t,g1,g2,h3⟩,he⟩:=h
   dsimp only at g1 g2 he;subst g1 g2
   exact RZ.ok ⟨⟨a3,t,rfl,rfl,h3⟩,he⟩
  cases n with
  | zero=>exact RZ.nil
  | succ n=>
   show RZ NZ _ (fC n (ai n) [] _) (fC n (ai n) [] _)
   unfold fC
   rcases Am (k:=true) hC h0 ha with hP|hb
   case inr=>exact RZ.mX (s7 hb λt ht=>fp.bind λc e=>by rw[o7 (t:=t) (by omega)] at e;cases e;exact fp.br (λ_=>rI hb) (λq=>by cases q))
   refine jl hC hP (λa3 t t' h3 hP3 ht hs _=>?_) (λ_ t ht=>lK ht (Q.br (λ_=>Q.mX (rI hC.bad)) (λq=>by cases q)))
   dsimp only
   refine kF hs λr _=>RZ.br rfl (λ_=>?_) (λ_=>nI hC hP3.le λa4 t h4 g1 g2 g3=>RZ.ok ⟨⟨a4,t,rfl,rfl,by omega,g1,g2,g3⟩,.nil⟩)
   refine mC (ih.dn.dn.g.expr hC (by omega) (.n hP3.le)) (λx x' a2 h2 hP2 hx=>?_) (λ_ x=>Q.gd (Q.iter (λv=>v.2=pB C none) (λv h next _=>?_) _ rfl))
   case refine_2=>rw[h];exact kM hC (Q.br (λq=>by cases q) (λ_=>Q.mX (l0 hC.bad)))
   dsimp only
   refine RZ.gd λ_ _=>RZ.uH (λ(v w:List ak×L)=>Rl C true a v.2 w.2/\LR EE v.1 w.1) (λv=>v.2=pB C none) (λv h next _=>?_) (λv w h next next' hn hN=>?_) _ _ ⟨.mk (by omega) hP2,.one hx⟩
   ·rw[h];exact kM hC (Q.br (λq=>by cases q) (λ_=>Q.mX (l0 hC.bad)))
   obtain ⟨l,p⟩:=v
   obtain ⟨l',p'⟩:=w
   obtain ⟨⟨a6,g1,g2,h6,hP6⟩,hl⟩:=h
   dsimp only at g1 g2 hl;subst g1 g2;dsimp only
   refine ly hC hP6 (λa7 t h7 hB7 _ _=>?_) (λa7 h7 hP7=>?_) (λ_=>Q.br (λq=>by cases q) (λ_=>Q.mX (l0 hC.bad)))
   ·dsimp only;refine RZ.br rfl (λ_=>mC (ih.dn.dn.g.expr hC (by omega) (.n hB7)) (λe e' a8 h8 hP8 he8=>?_) (λ_ _=>Q.gd (hN _ rfl))) (λh=>by cases h);dsimp only;exact RZ.gd λ_ _=>hn _ _ ⟨.mk (by omega) hP8,hl.snoc he8⟩
   ·exact RZ.br rfl (λh=>by cases h) (λ_=>nI hC hP7.le λa8 t h8 g1 g2 g3=>RZ.ok ⟨⟨a8,t,rfl,rfl,by omega,g1,g2,g3⟩,hl⟩)
theorem HB (ih:GL n) (hC:C.jC) (h0:0<=a) (ha:a<=C.B):RE (LR EE) C k a (dA (n+1) (eh C a k none)) (dA (n+1) (eC C a k none)):=by
 show RZ _ _ (gp n (ai n) _) (gp n (ai n) _);unfold gp;refine kc hC ha λa2 t h2 hB2 _ _=>B5 (KB ih hC (by omega) hB2) λx x' a3 t3 h3 hB3 ht hk he=>?_;dsimp only;rw[nx];exact RZ.gd λ_ _=>xE hC (by omega) (by omega) hB3 ht (pK hk) he
theorem HC (ih:GL n) (hC:C.jC) (h0:0<=a) (hB:a<C.B):RE EE C true a (dp (n+1) (eh C a true none)) (dp (n+1) (eC C a true none)):=by
 show RZ _ _ (eN n (ai n) _) (eN n (ai n) _);unfold eN;have hb:=hC.bad (k:=true);refine xA hC (.tt hB) (λa2 v v' h2 hP2 _=>?_) (λ_ v=>rG hC λt ht=>pJ ht (Q.br (λ_=>Q.mX (rI hb)) (λq=>by cases q)));dsimp only;refine jl hC hP2 (λa3 t t' h3 hP3 _ hs _=>?_) (λ_ t ht=>pJ ht (Q.br (λ_=>Q.mX (rI hb)) (λq=>by cases q)));dsimp only;refine rF hs λr=>RZ.br rfl (λ_=>?_) (λ_=>?_)
 ·exact mC (ih.g.expr hC (by omega) (.n hP3.le)) (λe e' a8 h8 hP8 he8=>RZ.ok ⟨.mk (by omega) hP8,he8⟩) (λhk _=>Q.ok ⟨hk,rfl⟩)
 refine rH hC hP3.le λa4 h4 hB4=>BB hC hB4 λa5 nm h5 hB5=>?_;dsimp only;refine rH hC hB5 λa6 h6 hB6=>mC (ih.g.expr hC (by omega) (.n hB6)) (λe e' a7 h7 hP7 he7=>?_) (λ_ _=>Q.gd (Q.jn (λv=>v.1=pB C none) (λv h=>by rw[h];exact Q.mX (o8 hb)) λj hj=>rG hC λt ht=>pJ ht (Q.br (λq=>by cases q) (λ_=>hj _ rfl))));dsimp only;refine RZ.gd λ_ _=>RZ.Js (λv w=>Rl C true a v.1 w.1/\EE v.2 w.2) (λv=>v.1=pB C none) (λv w h=>?_) (λv h=>by rw[h];exact Q.mX (o8 hb)) (λj1 j1' hj hN=>?_)
 ·obtain ⟨p,e⟩:=v;obtain ⟨p',e'⟩:=w;obtain ⟨⟨a8,g1,g2,h8,hP8⟩,he⟩:=h;dsimp only at g1 g2 he;subst g1 g2;dsimp only;have hx:=he.x;refine kc hC hP8.le λa9 t h9 hB9 _ _=>mC (ih.g.expr hC (by omega) (.n hB9)) (λx x' a10 h10 hP10 hx10=>?_) (λhk _=>Q.gd (Q.ok ⟨hk,rfl⟩));dsimp only;exact RZ.gd λ_ _=>RZ.ok ⟨.mk (by omega) hP10,hx.sub (hx.s.snoc hx10)⟩
 refine jl hC hP7 (λa8 t t' h8 hP8 _ hs _=>?_) (λ_ t ht=>pJ ht (Q.br (λq=>by cases q) (λ_=>hN _ rfl)));dsimp only;refine rF hs λr=>RZ.br rfl (λ_=>?_) (λ_=>hj _ _ ⟨.mk (by omega) hP8,.sub (.one he7)⟩);refine rH hC hP8.le λa9 h9 hB9=>mC (ih.g.expr hC (by omega) (.n hB9)) (λx x' a10 h10 hP10 hx10=>?_) (λ_ _=>Q.gd (hN _ rfl));dsimp only;exact RZ.gd λ_ _=>hj _ _ ⟨.mk (by omega) hP10,.sub (.two he7 hx10)⟩
theorem KC (ih:GL n) (hC:C.jC) (h0:0<=a) (ha:a<=C.B) {e e':ak} (he:EE e e'):RZ NZ (λr r'=>Rk C [93] k a r.1 r'.1/\EE r.2 r'.2) (dN n true (eh C a k none) e) (dN n true (eC C a k none) e'):=by
 cases n with
 | zero=>exact RZ.nil
 | succ n=>
  show RZ NZ _ (eI n (ai n) true _ e) (eI n (ai n) true _ e')
  unfold eI
  dsimp only
  refine RZ.bind (W:=λr r'=>Rk C [93] true a r.2 r'.2/\EE r.1 r'.1) ?_ λr r' h=>?tail
  case tail=>
   obtain ⟨x,p⟩:=r
   obtain ⟨x',p'⟩:=r'
   obtain ⟨⟨a3,t,g1,g2,h3⟩,he⟩:=h
   dsimp only at g1 g2 he;subst g1 g2
   exact RZ.ok ⟨⟨a3,t,rfl,rfl,h3⟩,he⟩
  cases n with
  | zero=>exact RZ.nil
  | succ n=>
   show RZ NZ _ (fF n (ai n) e _) (fF n (ai n) e' _)
   unfold fF
   have hb:=hC.bad (k:=true)
   have hit:∀ {m:Nat} {α:Type} {K:ak×L->al α},fp (al.bind (dp m (pB C none)) K):=λ{m α K}=>by
    cases m with
    | zero=>exact λ_ e=>by cases e
    | succ m=>
     refine fp.kW ?_
     show fp (eN m (ai m) _)
     unfold eN
     refine fp.bind λc e=>?_
     obtain ⟨v,rfl⟩:=wE hb c e
     exact s7 hb λt ht=>fp.bind λc e=>by rw[p8 (t:=t) (by omega)] at e;cases e;exact fp.br (λ_=>rI hb) (λq=>by cases q)
   have hi0:(a<C.B)\/eh C a true none=pB C none:=by
    by_cases h:a<C.B
    ·exact .inl h
    exact .inr (by rw[show a=C.B by omega])
   refine RZ.Ky (λ(v w:ak×L×Bool)=>(∃ a1,v.2.1=eh C a1 true none/\w.2.1=eC C a1 true none/\a<=a1/\a1<C.B)/\EE v.1 w.1/\w.2.2=v.2.2) (λv=>v.2.1=pB C none) (λv h next hn=>?_) (λv w h next next' hn hN=>?_) _ _ (hi0.imp_left λh=>⟨⟨a,rfl,rfl,by omega,h⟩,he,rfl⟩)
   ·obtain ⟨e,p,f⟩:=v;dsimp only at h;subst h;exact rG hC λt ht=>lK ht (Q.br (λ_=>Q.jn (λv=>v=pB C none) (λv h=>by subst h;exact s5 hC λ_=>kM hC (Q.br (λq=>by cases q) (λ_=>Q.mX hit))) λj hj=>Q.br (λ_=>Q.mX (o8 hb)) (λ_=>hj _ rfl)) (λq=>by cases q))
   obtain ⟨e,p,f⟩:=v
   obtain ⟨e',p',f'⟩:=w
   obtain ⟨⟨a6,g1,g2,h6,hB6⟩,he,g3⟩:=h
   dsimp only at g1 g2 g3 he;subst g1 g2 g3;dsimp only
   have hx:=he.x
   rw[hx.k,hx.t,hx.n,hx.a,hx.b,hx.tl]
   refine jl hC (.tt hB6) (λa7 t t' h7 hP7 _ hs _=>?_) (λ_ t ht=>lK ht (Q.br (λ_=>Q.jn (λv=>v=pB C none) (λv h=>by subst h;exact s5 hC λ_=>kM hC (Q.br (λq=>by cases q) (λ_=>Q.mX hit))) λj hj=>Q.br (λ_=>Q.mX (o8 hb)) (λ_=>hj _ rfl)) (λq=>by cases q)))
   dsimp only
   refine kF hs λr _=>RZ.br rfl (λ_=>?_) (λ_=>nI hC hP7.le λa8 t h8 g1 g2 g3=>RZ.ok ⟨⟨a8,t,rfl,rfl,by omega,g1,g2,g3⟩,he⟩)
   refine RZ.Js (λv w=>∃ a8,v=eh C a8 true none/\w=eC C a8 true none/\a<=a8/\a8<C.B) (λv=>v=pB C none) (λv w h=>?_) (λv h=>by subst h;exact s5 hC λ_=>kM hC (Q.br (λq=>by cases q) (λ_=>Q.mX hit))) (λj0 j0' hj hN0=>?_)
   ·obtain ⟨a8,rfl,rfl,h8,hB8⟩:=h;refine xA hC (.tt hB8) (λa9 v v' h9 hP9 _=>?_) (λ_ _=>kM hC (Q.br (λq=>by cases q) (λ_=>Q.mX hit)));dsimp only;refine ly hC hP9 (λa10 t h10 hB10 _ _=>?_) (λa10 h10 hP10=>?_) (λ_=>Q.br (λq=>by cases q) (λ_=>Q.mX hit))
    ·dsimp only;refine RZ.br rfl (λ_=>?_) (λh=>by cases h);refine RZ.Js (λv w=>(∃ a11,v.1=eh C a11 true none/\w.1=eC C a11 true none/\a<=a11/\a11<=C.B)/\EE v.2 w.2) (λv=>v.1=pB C none) (λv w h=>?_) (λv h=>by rw[h];exact Q.gd (Q.mX (l0 hb))) (λj1 j1' hj hN1=>?_)
     ·obtain ⟨p,x⟩:=v;obtain ⟨p',x'⟩:=w;obtain ⟨⟨a11,g1,g2,h11,hB11⟩,hx11⟩:=h;dsimp only at g1 g2 hx11;subst g1 g2;dsimp only;exact RZ.gd λ_ _=>nI hC hB11 λa12 t h12 g1 g2 g3=>RZ.ok ⟨⟨a12,t,rfl,rfl,by omega,g1,g2,g3⟩,.of (hx.s.snoc hx11) hx.d⟩
     rcases Am (k:=true) hC (by omega) hB10 with hP10|hb10
     case inr=>exact RZ.mX (s7 hb10 λt ht=>fp.bind λc e=>by rw[o7 (t:=t) (by omega)] at e;cases e;exact fp.br (λ_=>rI hb10) (λq=>by cases q))
     refine jl hC hP10 (λa11 t t' h11 hP11 _ hs _=>?_) (λ_ t ht=>lK ht (Q.br (λ_=>Q.mX (rI hb)) (λq=>by cases q)));dsimp only;refine kF hs λr _=>RZ.br rfl (λ_=>?_) (λ_=>hj _ _ ⟨⟨a11,rfl,rfl,by omega,hP11.le⟩,.leaf⟩);exact mC (ih.dn.dn.g.expr hC (by omega) (.n hP11.le)) (λx x' a12 h12 hP12 hx12=>hj _ _ ⟨⟨a12,rfl,rfl,by omega,hP12.le⟩,hx12⟩) (λ_ _=>hN1 _ rfl)
    dsimp only;refine RZ.br rfl (λh=>by cases h) (λ_=>mC (ih.dn.dn.g.item hC (by omega) hP10.1.t) (λx x' a12 h12 hP12 hx12=>?_) (λ_ _=>Q.gd (hN _ rfl)));dsimp only;exact RZ.gd λ_ _=>hn _ _ ⟨⟨a12,rfl,rfl,by omega,hP12.1.t⟩,.of (hx.s.snoc hx12) hx.d,rfl⟩
   ·refine RZ.br rfl (λ_=>?_) (λ_=>hj _ _ ⟨a7,rfl,rfl,by omega,hP7.1.t⟩);refine kc hC hP7.le λa8 t h8 hB8 _ _=>?_;by_cases h:a8<C.B
    ·exact hj _ _ ⟨a8,rfl,rfl,by omega,h⟩
    have e:a8=C.B:=by omega
    subst e;exact Q.rz (hN0 _ rfl)
theorem HD (ih:GL n) (hC:C.jC) (h0:0<=a) (hP:rE C k a) {t0:aB} (ht0:C.T[a.toNat]?=some t0) (h7:k=true->t0.Kind≠7):RE (LE C a) C k a (dq (n+1) (eh C a k none)) (dq (n+1) (eC C a k none)):=by
 show RZ _ _ (gr n (ai n) _) (gr n (ai n) _);unfold gr;refine mD hC hP ht0 h7 λv v'=>?_;dsimp only;refine kc hC hP.le λa2 t h2 hB2 _ _=>B5 (KC ih hC (by omega) hB2 .leaf) λx x' a3 t3 h3 hB3 ht3 hk3 he=>?_;dsimp only;rw[nx];exact RZ.gd λ_ _=>xE hC (by omega) (by omega) hB3 ht3 (pK hk3) ⟨he,_,t3,by omega,by omega,ht3,hk3.1,hk3.2⟩
theorem HE (ih:GL n) (hC:C.jC) (h0:0<=a) {q q':Option ak} (hQ:QP C k a q q'):RE EE C k a (cE (n+1) j (eh C a k q)) (cE (n+1) j (eC C a k q')):=by
 rcases hQ.st hC h0 with ⟨⟨hP,hq,hQ⟩,hz⟩|⟨rfl,hb⟩
 case inr=>exact RZ.mX ((p7 _).Bw (.inl hb))
 show RZ _ _ (dQ n (ai n) j _) (dQ n (ai n) j _);unfold dQ;dsimp only;rcases hq with ⟨rfl,rfl⟩|⟨e,e',rfl,rfl,he⟩
 ·refine RZ.br rfl (λh=>by cases h) (λ_=>?_);refine jl hC hP (λa2 t t' h2 hP2 ht hs hh=>?_) (λhk t ht=>s5 hC λv=>Q.mX (fp.jn (by
   dsimp only;rw[ht,o7 (by omega),o7 (by omega),o7 (by omega),o7 (by omega),o7 (by omega)];exact gH)))
  dsimp only;by_cases hk0:t.Kind=0
  ·refine RZ.mX (fp.bind λc e=>?_);obtain ⟨v,rfl⟩:=wE (.of (by omega) ht (.inl hk0)) c e;dsimp only;rw[hk0];refine fp.jn ?_;rw[o7 (by omega),o7 (by omega),o7 (by omega),o7 (by omega),o7 (by omega)];exact gH
  have hsT:=hs;have hs:=hs.s hk0;have hB:=xB hC hP2 ht hk0;refine mD hC hP2 ht hh.1 λv v'=>?_;dsimp only;refine RZ.jn (λv w=>v.1=eh C a2 k none/\w.1=eC C a2 k none/\EE v.2 w.2/\kE t.Kind t.Text=true) (λv w h=>?_) (λj0 j0' hj=>?_)
  ·obtain ⟨p,e⟩:=v;obtain ⟨p',e'⟩:=w;obtain ⟨g1,g2,he,hs⟩:=h;dsimp only at g1 g2 he;subst g1 g2;dsimp only;rw[nx];exact RZ.gd λ_ _=>xE hC (by omega) (by omega) hB ht hs he
  rw[hs.1,hs.2];have hp:=λ{P:ak->ak->Prop} {x y:al (ak×L)} (h:RE P C k a2 x y) (hP:∀ e e',P e e'->EE e e')=>(mC (Z:=λr:ak×L=>ZP C k r.2) (V:=VE C k a) (K:=.ok) (K':=.ok) h (λe e' a8 h8 hP8 he8=>RZ.ok ⟨.mk (by omega) hP8,hP _ _ he8⟩) (λhk _=>Q.ok ⟨hk,rfl⟩));refine RZ.br rfl (λh=>hp (ih.g.named hC (by omega) hB ht (by simpa using h)) λ_ _ h=>h) (λ_=>?_);refine RZ.br rfl (λh=>RZ.same λy _=>hj _ _ ⟨rfl,rfl,.leaf,uL (by simp at h;omega)⟩) (λ_=>?_);refine RZ.br rfl (λh=>hj _ _ ⟨rfl,rfl,.leaf,uL (by simp at h;omega)⟩) (λ_=>?_);refine RZ.br rfl (λh=>?_) (λ_=>?_)
  ·refine RZ.bind (ih.g.xw hs.2) λr r' h2=>?_;rw[h2.1,h2.2.1];exact hj _ _ ⟨rfl,rfl,h2.2.2,uL (by simp at h;omega)⟩
  refine kF hsT λr hr=>RZ.br rfl (λh=>hj _ _ ⟨rfl,rfl,.leaf,pK (hr h)⟩) (λ_=>?_);refine kF hsT λr hr=>RZ.br rfl (λh=>hj _ _ ⟨rfl,rfl,.leaf,pK (hr h)⟩) (λ_=>?_);refine kF hsT λr _=>RZ.br rfl (λ_=>hp (ih.g.parens hC (by omega) hP2.le) λ_ _ h=>h) (λ_=>?_);refine kF hsT λr _=>RZ.br rfl (λ_=>hp (ih.g.xx hC (by omega) hB hP2 ht hh.1) λ_ _ h=>h) (λ_=>?_);refine kF hsT λr _=>RZ.br rfl (λ_=>hp (ih.g.list hC (by omega) hP2 ht hh.1) λ_ _ h=>h.1) (λ_=>iJ)
 exact RZ.br rfl (λ_=>RZ.some λx x' h h'=>by cases h;cases h';exact RZ.ok ⟨.mk (by omega) hP,he⟩) (λh=>by cases h)
end
section
variable {C:Cx} {n:Nat} {a:Int} {j:Bool}
theorem Ao {α β X Y:Type} {Z:α->Prop} {V:α->β->Prop} {P:X->Y->Prop} {x:al (X×L)} {y:al (Y×L)} {K:X×L->al α} {K':Y×L->al β} (h:RE P C false a x y)
 (hk:∀ v w a1,a<=a1->rE C false a1->P v w->RZ Z V (K (v,eh C a1 false none)) (K' (w,eC C a1 false none))):RZ Z V (al.bind x K) (al.bind y K'):=mC h hk λh=>by cases h
theorem FA (ih:GL n) (hC:C.jC) (h0:0<=a) (hB:a<C.B) {t0:aB} (ht0:C.T[a.toNat]?=some t0) (hk0:t0.Kind=3\/t0.Kind=1) {d d':aA} (hd:DD d d'):RF C a (dr (n+1) j (eh C a false none) d) (dr (n+1) j (eC C a false none) d'):=by
 show RZ NZ _ (fQ n (ai n) j _ d) (fQ n (ai n) j _ d');unfold fQ;have hx:=hd.x;rw[hx.a,hx.b,hx.tl,hx.ld,hx.tr];refine uK hC hB ht0 (λh=>by cases h) λt' hs=>?_;dsimp only;rw[hs.2,nx];refine RZ.gd λ_ _=>RZ.jn (λv w=>(∃ a1,v.1=eh C a1 false none/\w.1=eC C a1 false none/\a<=a1/\a1<=C.B)/\DD v.2 w.2) (λv w h=>?_) (λj0 j0' hj=>?_)
 ·obtain ⟨p,e⟩:=v;obtain ⟨p',e'⟩:=w;obtain ⟨⟨a3,g1,g2,h3,h4⟩,he⟩:=h;dsimp only at g1 g2 he;subst g1 g2;dsimp only;have hx:=he.x;refine kc hC h4 λa4 t h4 hB4 _ _=>Ao (ih.g.expr hC (by omega) (.n hB4)) λx x' a5 h5 hP5 hx5=>?_;dsimp only;rw[hx.k,hx.p,hx.t,hx.a,hx.b,hx.tl,hx.ld,hx.tr];exact RZ.ok ⟨.mk (by omega) hP5,.of (.one hx5) hx.d⟩
 rcases fin (k:=false) hC (a1:=a+1) (by omega) (by omega) (by simpa using ht0) (uL (by omega)) with hP1|⟨h,_⟩
 case inr=>cases h
 refine ly hC hP1 (λa4 t h4 hB4 _ _=>?_) (λa4 h4 hP4=>?_) (λh=>by cases h)
 ·exact RZ.br rfl (λ_=>hj _ _ ⟨⟨a4,rfl,rfl,by omega,hB4⟩,.of hx.s hx.d⟩) (λh=>by cases h)
 dsimp only;refine RZ.br rfl (λh=>by cases h) (λ_=>ly hC hP4 (λa5 t h5 hB5 _ _=>?_) (λa5 h5 hP5=>?_) (λh=>by cases h))
 ·exact RZ.br rfl (λ_=>hj _ _ ⟨⟨a5,rfl,rfl,by omega,hB5⟩,.of hx.s hx.d⟩) (λh=>by cases h)
 exact RZ.br rfl (λh=>by cases h) (λ_=>hj _ _ ⟨⟨a5,rfl,rfl,by omega,hP5.le⟩,.of hx.s hx.d⟩)
theorem B6 (ih:GL n) (hC:C.jC) (h0:0<=a) (ha:a<=C.B) {d d':aA} (hd:DD d d'):RF C a (cQ (n+1) j (eh C a false none) d) (cQ (n+1) j (eC C a false none) d'):=by
 show RZ NZ _ (fo n (ai n) j _ d) (fo n (ai n) j _ d');unfold fo;have hx:=hd.x;rw[hx.p,hx.a,hx.b,hx.tl,hx.ld,hx.tr];refine kc hC ha λa2 t h2 hB2 _ _=>DC hC hB2 (.of hx.s hx.d) λa3 t e e' h3 hB3 _ _ he=>?_;dsimp only;have hx:=he.x;rw[nx];refine RZ.gd λ_ _=>kc hC (by omega) λa4 t h4 hB4 _ _=>Ao (ih.g.expr hC (by omega) (.n hB4)) λx x' a5 h5 hP5 hx5=>?_;dsimp only;rw[hx.k,hx.p,hx.t,hx.a,hx.b,hx.tl,hx.ld,hx.tr];exact RZ.ok ⟨.mk (by omega) hP5,.of (.one hx5) hx.d⟩
theorem B7 (ih:GL n) (hC:C.jC) (h0:0<=a) (ha:a<=C.B) {d d':aA} (hd:DD d d'):RF C a (cP (n+1) j (eh C a false none) d) (cP (n+1) j (eC C a false none) d'):=by
 show RZ NZ _ (fm n (ai n) j _ d) (fm n (ai n) j _ d');unfold fm;have hx:=hd.x;rw[hx.p,hx.t,hx.a,hx.b,hx.tl,hx.ld,hx.tr];refine Ao (ih.g.parens hC h0 ha) λe e' a2 h2 hP2 he=>?_;dsimp only;refine jl hC hP2 (λa3 t t' h3 hP3 ht hs hh=>?_) (λh=>by cases h);dsimp only;refine kF hs λr hr=>RZ.br rfl (λhrt=>?_) (λ_=>?_)
 ·have hB:=xB hC hP3 ht (by have:=(hr hrt).1;omega);refine mD hC hP3 ht hh.1 λv v'=>?_;dsimp only;refine qK he λx x' hx5=>?_;dsimp only;rw[nx];refine RZ.gd λ_ _=>Ao (ih.g.expr hC (by omega) (.n (by omega))) λy y' a6 h6 hP6 hy=>?_;exact RZ.ok ⟨.mk (by omega) hP6,.of (.two hx5 hy) hx.d⟩
 refine Ao (ih.g.expr hC (by omega) (.inr ⟨rfl,hP3,e,e',rfl,rfl,he⟩)) λy y' a6 h6 hP6 hy=>?_;exact RZ.ok ⟨.mk (by omega) hP6,.of (.one hy) hx.d⟩
theorem FB (ih:GL n) (hC:C.jC) (h0:0<=a) {t:aB} (ht:C.T[a.toNat]?=some t) (hk:t.Kind=5/\t.Text=[91]) (hN:NB C a C.B):Bd n C.s C.T C.b false a:=by
 refine .inr ⟨h0,⟨t,ht,hk⟩,λm hm r e=>?_⟩;have hlen:=(List.getElem?_eq_some_iff.1 ht).1;have hP:rE (Cx.mk C.s C.T C.b C.s C.T C.b 0 C.T.length) false a:=⟨.inl (by dsimp only;omega),λ_ _ t' h=>by
  dsimp only at h;rw[Nat.add_zero,List.getElem?_eq_none (Nat.le_refl _)] at h;cases h⟩
 have em:eC (Cx.mk C.s C.T C.b C.s C.T C.b 0 C.T.length) a false none=cI C.s C.T a C.b false none:=by
  show cI _ _ (a+((0:Nat):Int)) _ _ _=_;rw[Int.natCast_zero,Int.add_zero]
 rcases (ih m hm).list (C:=Cx.mk C.s C.T C.b C.s C.T C.b 0 C.T.length) (a:=a) (k:=false) Cx.refl h0 hP ht (λh=>by cases h) r e with q|q|⟨b,q,hr⟩
 ·cases q.1
 ·rw[em,e] at q;cases q
 obtain ⟨_,_,i,t2,g1,g2,g3,g4,g5⟩:=hr;dsimp only at g2 g3;by_cases hi:i<C.B
 ·exact hN i t2 g1 (by omega) g3 g4 g5
 have:=hC.en;have e2:i=C.B:=by omega
 subst e2;have:=hC.e0 t2 g3;omega
theorem FC {t:aB} {x:ByS} {α:Type} {K:Bool->al α} (h:t.Kind≠1) (hk:fp (K false)):fp (al.bind (bI t x) K):=by rw[p8 h];exact hk
theorem FD {t:aB} {x:ByS} {α:Type} {K:Bool->al α} (h:bJ t x=.ok false) (hk:fp (K false)):fp (al.bind (bJ t x) K):=by rw[h];exact hk
theorem HF (ih:GL n) (hC:C.jC) (h0:0<=a) (hB:a<C.B) {t:aB} (ht:C.T[a.toNat]?=some t) (hk6:t.Kind≠6):RZ NZ (λr r'=>Rl C false a r.2 r'.2/\DD r.1 r'.1) (cj (n+1) j (eh C a false none)) (cj (n+1) j (eC C a false none)):=by
 show RZ NZ _ (gq n (ai n) j _) (gq n (ai n) j _);unfold gq;have hP:rE C false a:=.lt h0 hB ht hk6;refine uK hC hB ht (λh=>by cases h) λt' hst=>?_;have hs:Sg t t':=.inl hst;dsimp only;refine mD hC hP ht (λh=>by cases h) λv v'=>?_;dsimp only;refine mY hC λu u' hu hu' hbe=>?_;dsimp only;refine RZ.jn (λv w=>Rl C false a v.1 w.1/\DD v.2 w.2) (λv w h=>RZ.ok h) (λj0 j0' hj=>?_);refine RZ.jn (λx y=>y=x/\(x=true->t.Kind=3\/t.Kind=1)) (λx y h=>?_) (λj2 j2' hj2=>?_)
 ·obtain ⟨rfl,hx⟩:=h;refine RZ.br rfl (λh=>?_) (λ_=>?_)
  ·exact Ju (P:=DD) (ih.g.field hC h0 hB ht (hx h) (.of .nil .nil)) λx x' a6 h6 hP6 hx=>hj _ _ ⟨.mk (by omega) hP6,hx⟩
  refine An hC hP (λr=>?_) (λ⟨t2,ht2,hk2⟩ hN=>?_)
  case refine_2=>
   rw[ht] at ht2;cases ht2
   refine fp.br (λq=>by cases q) (λ_=>FC (by omega) (fp.br (λq=>by cases q) (λ_=>FD (by rw[Hv hk2.1,hk2.2];rfl) (fp.br (λq=>by cases q) (λ_=>FC (by omega) (fp.br (λq=>by cases q) (λ_=>FC (by omega) (fp.br (λq=>by cases q) (λ_=>FD (by rw[Hv hk2.1,hk2.2];rfl) (fp.br (λq=>by cases q) (λ_=>?_)))))))))))
   exact fp.kW ((p7 n).expr (FB ih hC h0 ht hk2 hN))
  dsimp only;refine RZ.br rfl (λ_=>?_) (λ_=>?_)
  ·exact Ju (P:=DD) (ih.g.pattern hC h0 hP.le (.of .nil .nil)) λx x' a6 h6 hP6 hx=>hj _ _ ⟨.mk (by omega) hP6,hx⟩
  refine rF hs λr=>RZ.br rfl (λ_=>?_) (λ_=>?_)
  ·refine RZ.jn (λp p'=>p=eh C a false none/\p'=eC C a false none) (λp p' h=>?_) (λj3 j3' hj3=>?_)
   ·obtain ⟨rfl,rfl⟩:=h;dsimp only;rw[nx];refine RZ.gd λ_ _=>tu hC (by omega) λa7 x t7 h7 hB7 _ _=>?_;dsimp only;refine kc hC hB7 λa8 t8 h8 hB8 _ _=>Ao (ih.g.expr hC (by omega) (.n hB8)) λx x' a9 h9 hP9 hx=>?_;exact hj _ _ ⟨.mk (by omega) hP9,.of (.one hx) .nil⟩
   exact RZ.br rfl (λ_=>iJ) (λ_=>hj3 _ _ ⟨rfl,rfl⟩)
  refine kF hs λr hr=>RZ.br rfl (λhrt=>?_) (λ_=>?_)
  ·refine RZ.jn (λp p'=>p=eh C a false none/\p'=eC C a false none) (λp p' h=>?_) (λj3 j3' hj3=>?_)
   ·obtain ⟨rfl,rfl⟩:=h;dsimp only;rcases fin (k:=false) hC (a1:=a+1) (by omega) (by omega) (by simpa using ht) (pK (hr hrt)) with h|⟨h,_⟩
    case inr=>cases h
    rw[nx];exact RZ.gd λ_ _=>hj _ _ ⟨.mk (by omega) h,.of .nil .nil⟩
   exact RZ.br rfl (λ_=>iJ) (λ_=>hj3 _ _ ⟨rfl,rfl⟩)
  rw[nx];refine rF hs λr=>RZ.br rfl (λ_=>?_) (λ_=>?_)
  ·refine RZ.gd λ_ _=>Ao (ih.g.expr hC (by omega) (.n (by omega))) λx x' a9 h9 hP9 hx=>?_;dsimp only;refine RZ.qJ (ih.g.block hC (by omega) hP9.le) (λc hz x e=>by cases hz.1) λr r' h=>?_;obtain ⟨l,tl,p⟩:=r;obtain ⟨l',tl',p'⟩:=r';obtain ⟨⟨a3,g1,g2,h3,hP3⟩,hl,ht⟩:=h;dsimp only at g1 g2 hl ht;subst g1 g2 ht;exact hj _ _ ⟨.mk (by omega) hP3,.of (.one hx) hl⟩
  refine rF hs λr=>RZ.br rfl (λ_=>?_) (λ_=>?_)
  ·refine RZ.gd λ_ _=>BB hC (by omega) λa7 nm h7 hB7=>?_;dsimp only;refine rH hC hB7 λa8 h8 hB8=>Ao (ih.g.expr hC (by omega) (.n hB8)) λx x' a9 h9 hP9 hx=>?_;dsimp only;refine RZ.qJ (ih.g.block hC (by omega) hP9.le) (λc hz x e=>by cases hz.1) λr r' h=>?_;obtain ⟨l,tl,p⟩:=r;obtain ⟨l',tl',p'⟩:=r';obtain ⟨⟨a3,g1,g2,h3,hP3⟩,hl,ht⟩:=h;dsimp only at g1 g2 hl ht;subst g1 g2 ht;exact hj _ _ ⟨.mk (by omega) hP3,.of (.one hx) hl⟩
  refine kF hs λr _=>RZ.br rfl (λ_=>?_) (λ_=>?_)
  ·exact Ju (P:=DD) (ih.g.uG hC h0 hP.le (.of .nil .nil)) λx x' a6 h6 hP6 hx=>hj _ _ ⟨.mk (by omega) hP6,hx⟩
  exact Ao (ih.g.expr hC h0 (.n hP.le)) λx x' a9 h9 hP9 hx=>hj _ _ ⟨.mk (by omega) hP9,.of (.one hx) .nil⟩
 refine xz hs λr hr=>RZ.br rfl (λh=>?_) (λ_=>hj2 _ _ ⟨rfl,λh=>by cases h⟩);have hlb:=hr h;have hsu:Sg u u':=hbe.imp_right λq=>⟨q.2.1,q.2.2 (by omega) (hC.ln a.toNat t (by omega) ht (uL (by omega)) λi _ h1 h2 _=>by omega)⟩;exact uJ hsu λr _=>hj2 _ _ ⟨rfl,λ_=>hlb⟩
end
abbrev HG:=L×List ByS×List aA×Int×Bool
abbrev xF:=List aA×List ByS×L
def gx (n:Nat) (j:Bool):(HG->al xF)->HG->al xF:=
 λnext7 v6=>al.bind (cK n v6.1) λy11=>br (!y11.1) (al.bind (ar n y11.2) λy14=>jn (λ(v15:Bool)=>br v15 (gd (dY (y14.2.at_+1)) (next7 ((L.mk y14.2.text y14.2.bd (y14.2.at_+1) y11.2.base y14.2.skip y14.2.pending),v6.2.1,v6.2.2.1,v6.2.2.2.1,true))) (jn (λ(v21:L×Bool)=>br v21.2 (gd (dY ((List.length v6.2.2.1:Int) - 1)) (el v6.2.2.1 ((List.length v6.2.2.1:Int) - 1) λx27=>gd (dY (v21.1.at_+1)) (next7 ((L.mk v21.1.text v21.1.bd (v21.1.at_+1) v21.1.base v21.1.skip v21.1.pending),v6.2.1,List.set v6.2.2.1 ((List.length v6.2.2.1:Int) - 1).toNat (aA.mk x27.Kind x27.cG x27.Label x27.bn x27.bu x27.bc x27.Body x27.bT x27.kh y14.1.Text x27.Pos),v6.2.2.2.1,v6.2.2.2.2)))) (jn (λ(v32:L×Bool)=>br v32.2 (gd (lz 16 (List.length v6.2.1) (List.length [y14.1.Text])) (gd (dY (v32.1.at_+1)) (next7 ((L.mk v32.1.text v32.1.bd (v32.1.at_+1) v32.1.base v32.1.skip v32.1.pending),v6.2.1++[y14.1.Text],v6.2.2.1,v6.2.2.2.1,v6.2.2.2.2)))) (jn (λ(v39:Bool)=>br v39 (al.bind (aV n v32.1) λy43=>next7 (y43,v6.2.1,v6.2.2.1,v6.2.2.2.1,v6.2.2.2.2)) (al.bind (cj n j v32.1) λy45=>gd (lz 184 (List.length v6.2.2.1) (List.length [(aA.mk y45.1.Kind y45.1.cG y45.1.Label y45.1.bn y45.1.bu y45.1.bc y45.1.Body y45.1.bT v6.2.1 y45.1.Trail y45.1.Pos)])) (next7 (y45.2,[],v6.2.2.1++[(aA.mk y45.1.Kind y45.1.cG y45.1.Label y45.1.bn y45.1.bu y45.1.bc y45.1.Body y45.1.bT v6.2.1 y45.1.Trail y45.1.Pos)],y45.2.at_,false)))) λj40=>br (y14.1.Kind==6) (j40 (true)) (j40 ((!v6.2.2.2.2))))) λj33=>br (y14.1.Kind==6) (al.bind (bP n v21.1) λy52=>j33 (y52.2,y52.1)) (j33 (v21.1,false)))) λj22=>br (y14.1.Kind==6) (br (decide (v6.2.2.2.1>0)) (al.bind (du n v6.2.2.2.1 (L.mk y14.2.text y14.2.bd y14.2.at_ y11.2.base y14.2.skip y14.2.pending)) λy55=>j22 (y55.2,y55.1)) (j22 ((L.mk y14.2.text y14.2.bd y14.2.at_ y11.2.base y14.2.skip y14.2.pending),false))) (j22 ((L.mk y14.2.text y14.2.bd y14.2.at_ y11.2.base y14.2.skip y14.2.pending),false)))) λj16=>br (y14.1.Kind==7) (j16 (true)) (al.bind (bJ y14.1 ([44]:ByS)) λy57=>j16 (y57))) (.ok (v6.2.2.1,v6.2.1,y11.2))
theorem s8 (n:Nat) (ld:List ByS) (j:Bool) (p:L):dX n ld j p=al.iter (gx n j) n (p,ld,[],-1,true):=rfl
def JW (C:Cx) (e':Int):Prop:=∀ (m:Nat) (a:Int),0<=a->a<C.B->Tk (du m e' (eC C a false none)) (false,eC C a false none)
def Lq (C:Cx) (e e':Int):Prop:=(0<e->e'=e+C.κ/\e<=C.B)/\(e<=0->e'<=0\/0<C.κ/\JW C e')
def DI (C:Cx) (a:Int) (O':List aA) (v w:HG):Prop:=∃ a1 o',v.1=eh C a1 false none/\w.1=eC C a1 false none/\a<=a1/\a1<=C.B/\w.2.1=v.2.1/\w.2.2.1=O'++o'/\LR DD v.2.2.1 o'/\Lq C v.2.2.2.1 w.2.2.2.1/\
 (∀ u,C.T[a1.toNat]?=some u->u.Kind≠7->w.2.2.2.2=v.2.2.2.2)/\(a1=C.B->w.2.2.2.2=v.2.2.2.2)/\(v.2.2.2.2=false->C.Cm a1->C.Ln)
def KD (C:Cx) (v:HG):Prop:=∃ a1 t,v.1=eh C a1 false none/\v.2.2.2.2=false/\0<=a1/\C.T[a1.toNat]?=some t/\t.Kind≠0/\t.Kind≠7/\t.Kind≠6/\bJ t [44]=.ok false/\bJ t [125]=.ok false
section
variable {C:Cx} {n:Nat} {a:Int} {j:Bool}
theorem Jy {m:Nat} {t:aB} (h0:0<=a) (ht:C.T[a.toNat]?=some t) (hk:t.Kind≠0) (ho:bJ t [125]=.ok false) (c:Bool×L) (e:cK m (eh C a false none)=.ok c):c=(false,eh C a false none):=by
 unfold cK at e;cases hx:ar m (eh C a false none) with
 | stuck=>rw[hx] at e;cases e
 | kA _=>rw[hx] at e;cases e
 | ok r=>
  have hr:=xy h0 ht (λh=>by cases h) r hx
  subst hr
  simp only[hx,al.bind,beq_eq_false_iff_ne.2 hk,al.br,ho] at e
  cases e;rfl
theorem Jz {m:Nat} (hC:C.jC) (c:Bool×L) (e:cK m (eh C C.B false none)=.ok c):c=(true,eh C C.B false none)/\∃ t,C.T[C.B]?=some t:=by
 unfold cK at e;cases hx:ar m (eh C C.B false none) with
 | stuck=>rw[hx] at e;cases e
 | kA _=>rw[hx] at e;cases e
 | ok r=>
  obtain ⟨t,rfl,h2,_⟩:=rD (k:=false) hC.bad r hx
  have hk:=hC.e0 t (by simpa using h2)
  simp only[hx,al.bind,beq_iff_eq.2 hk,al.br] at e
  cases e;exact ⟨rfl,t,by simpa using h2⟩
theorem BC (hC:C.jC) {next:HG->al xF} {ld:List ByS} {o:List aA} {e:Int} {sep:Bool} (r:xF) (h:gx n j next (eh C C.B false none,ld,o,e,sep)=.ok r):r=(o,ld,eh C C.B false none)/\∃ t,C.T[C.B]?=some t:=by
 unfold gx at h;dsimp only at h;cases hx:cK n (eh C C.B false none) with
 | stuck=>rw[hx] at h;cases h
 | kA _=>rw[hx] at h;cases h
 | ok c=>
  obtain ⟨rfl,ht⟩:=Jz hC c hx
  simp only[hx,al.bind,al.br,Bool.not_true] at h
  cases h;exact ⟨rfl,ht⟩
theorem FF {next:HG->al xF} {v:HG} (h:KD C v):fp (gx n j next v):=by
 obtain ⟨p,ld,out,e,sep⟩:=v;obtain ⟨a1,t,g1,g2,h0,ht,k0,k7,k6,o1,o2⟩:=h;dsimp only at g1 g2;subst g1 g2;unfold gx;dsimp only;refine fp.bind λc ec=>?_;have ec:=Jy h0 ht k0 o2 c ec;subst ec;refine fp.br (λ_=>fp.bind λc ec=>?_) (λq=>by cases q);have ec:=xy h0 ht (λh=>by cases h) c ec;subst ec;dsimp only;rw[beq_eq_false_iff_ne.2 k7,beq_eq_false_iff_ne.2 k6];refine fp.jn (fp.br (λq=>by cases q) (λ_=>FD o1 ?_));refine fp.br (λq=>by cases q) (λ_=>fp.jn (fp.br (λq=>by cases q) (λ_=>?_)));refine fp.br (λq=>by cases q) (λ_=>fp.jn (fp.br (λq=>by cases q) (λ_=>?_)));refine fp.br (λq=>by cases q) (λ_=>fp.jn (fp.br (λq=>by cases q) (λ_=>?_)));exact fp.br (λ_=>gH) (λq=>by cases q)
theorem LR.last {X Y:Type} {R:X->Y->Prop} {O o':List Y} {o:List X} (h:LR R o o') {x:X} {y:Y} (h0:0<=(o.length:Int) - 1) (hx:o[((o.length:Int) - 1).toNat]?=some x) (hy:(O++o')[(((O++o').length:Int) - 1).toNat]?=some y) :
  R x y/\∀ z,(O++o').set (((O++o').length:Int) - 1).toNat z=O++o'.set ((o.length:Int) - 1).toNat z:=by
 have hl:=h.1
 have e:(((O++o').length:Int) - 1).toNat=O.length+((o.length:Int) - 1).toNat:=by rw[List.length_append];omega
 rw[e] at hy ⊢
 rw[List.getElem?_append_right (by omega),Nat.add_sub_cancel_left] at hy
 refine ⟨h.2 _ _ _ hx hy,λz=>?_⟩
 rw[List.set_append_right _ _ (by omega),Nat.add_sub_cancel_left]
theorem xG (hd:GR n) (hC:C.jC) {Z:xF->Prop} {V:xF->xF->Prop} {O':List aA} (h0:0<=a) (hB:DS C a)
  (hE:∀ a1 o o' ld u,a<=a1->a1<C.B->C.T[a1.toNat]?=some u->(u.Kind=0\/u.Kind=5)->LR DD o o'->V (o,ld,eh C a1 false none) (O'++o',ld,eC C a1 false none))
  (hZ:∀ o o' ld e e' sep n',(∃ t,C.T[C.B]?=some t)->LR DD o o'->(sep=false->C.Ln)->Lq C e e'->RZ Z V (.ok (o,ld,eh C C.B false none)) (al.iter (gx n j) (n'+1) (eC C C.B false none,ld,O'++o',e',sep)))
  (k k':Nat) {v w:HG} (h:DI C a O' v w):RZ Z V (al.iter (gx n j) k v) (al.iter (gx n j) k' w):=by
 refine RZ.Fv (λv w=>DI C a O' v w\/KD C v) (λv w n' h next hn=>?_) k k' (.inl h)
 rcases h with h|h
 case inr=>exact RZ.mX (FF h)
 obtain ⟨p,ld,out,e,sep⟩:=v
 obtain ⟨p',ld',out',e',sep'⟩:=w
 obtain ⟨a1,o',g1,g2,h1,hB1,g3,g5,hl,he,g4,g6,hs1⟩:=h
 dsimp only at g1 g2 g3 g5 hl he g4 g6 hs1;subst g1 g2 g3 g5
 by_cases hlt:a1<C.B
 case neg=>
  have e1:a1=C.B:=by omega
  subst e1
  intro r er
  obtain ⟨rfl,ht⟩:=BC hC r er
  have g6:=g6 rfl
  subst g6
  exact hZ out o' ld' e e' sep' n' ht hl (λq=>hs1 q λi _ h1 h2 _=>by omega) he _ rfl
 generalize al.iter (gx n j) n'=next' at hn ⊢
 clear hZ g6
 unfold gx
 dsimp only
 refine Hx hC hlt (λr hr hr2=>?_)
 dsimp only
 refine RZ.br rfl (λh=>?_) (λh=>?_)
 case refine_2=>
  obtain ⟨u,hu,hk⟩:=hr2 (by simpa using h)
  exact RZ.ok (hE a1 out o' ld' u h1 hlt hu hk hl)
 obtain ⟨u,hu,hk0,ho2⟩:=hr (by simpa using h)
 refine mB hC hlt λt t' ht hs=>?_
 rw[hu] at ht;cases ht
 have hsT:Sg u t':=.inl hs
 dsimp only
 rw[hs.1,hs.2,nx]
 refine RZ.jn (λx y=>y=x/\(x=false->u.Kind≠7/\bJ u [44]=.ok false)) (λx y h=>?_) (λj1 j1' hj1=>?_)
 ·obtain ⟨rfl,hx⟩:=h
  refine RZ.br rfl (λ_=>?_) (λhxf=>?_)
  ·exact RZ.gd λ_ _=>hn _ _ (.inl ⟨a1+1,o',rfl,rfl,by omega,by omega,rfl,rfl,hl,he,λ_ _ _=>rfl,λ_=>rfl,λh=>by cases h⟩)
  obtain ⟨hk7,ho1⟩:=hx hxf
  have g4:=g4 u hu hk7
  subst g4
  refine RZ.jn (λv w=>v.1=eh C a1 false none/\w.1=eC C a1 false none/\w.2=v.2/\(v.2=true->u.Kind=6)) (λv w h=>?_) (λj2 j2' hj2=>?_)
  ·obtain ⟨p,x⟩:=v
   obtain ⟨p',x'⟩:=w
   obtain ⟨g1,g2,g3,hx6⟩:=h
   dsimp only at g1 g2 g3 hx6;subst g1 g2 g3;dsimp only
   have hcm:u.Kind=6->sep'=false->C.Cm (a1+1)->C.Ln:=λh6 hsf hcm=>hs1 hsf λi t h2 h3 h4=>by
    by_cases q:(i:Int)=a1
    ·have e:a1.toNat=i:=by omega
     rw[e,h4] at hu;cases hu;exact h6
    ·exact hcm i t (by omega) h3 h4
   refine RZ.br rfl (λhxt=>?_) (λ_=>?_)
   ·refine RZ.gd λw0 _=>RZ.el λd d' z0 _ hd1 hd1'=>?_
    obtain ⟨hdr,hset⟩:=hl.last z0 hd1 hd1'
    have hx:=hdr.x
    rw[nx,hx.k,hx.p,hx.t,hx.a,hx.b,hx.tl,hx.ld]
    rw[hset]
    exact RZ.gd λ_ _=>hn _ _ (.inl ⟨a1+1,_,rfl,rfl,by omega,by omega,rfl,rfl,hl.set (.of hx.s hx.d) _,he,λ_ _ _=>rfl,λ_=>rfl,hcm (hx6 hxt)⟩)
   ·refine RZ.jn (λv w=>v.1=eh C a1 false none/\w.1=eC C a1 false none/\w.2=v.2/\(v.2=true->u.Kind=6)) (λv w h=>?_) (λj3 j3' hj3=>?_)
    ·obtain ⟨p,x⟩:=v
     obtain ⟨p',x'⟩:=w
     obtain ⟨g1,g2,g3,hx6⟩:=h
     dsimp only at g1 g2 g3 hx6;subst g1 g2 g3;dsimp only
     rw[nx]
     refine RZ.br rfl (λhxt=>?_) (λ_=>?_)
     ·exact RZ.gd λ_ _=>RZ.gd λ_ _=>hn _ _ (.inl ⟨a1+1,o',rfl,rfl,by omega,by omega,rfl,rfl,hl,he,λ_ _ _=>rfl,λ_=>rfl,hcm (hx6 hxt)⟩)
     ·refine RZ.jn (λx y=>y=x/\(x=false->u.Kind≠6)) (λx y h=>?_) (λj4 j4' hj4=>?_)
      ·obtain ⟨rfl,hx6⟩:=h
       refine RZ.br rfl (λ_=>iJ) (λhxf=>?_)
       have hk6:=hx6 hxf
       refine RZ.bind (hd.decl hC (by omega) hlt hu hk6) λr r' hr=>?_
       obtain ⟨d,p⟩:=r
       obtain ⟨d',p'⟩:=r'
       obtain ⟨⟨a4,g1,g2,h4,hP4⟩,hdr⟩:=hr
       dsimp only at g1 g2 hdr;subst g1 g2
       have hx:=hdr.x
       dsimp only
       rw[hx.k,hx.p,hx.t,hx.a,hx.b,hx.tl,hx.tr,List.append_assoc]
       refine RZ.gd λ_ _=>hn _ _ ?_
       have h4':a1<=a4:=h4
       by_cases hp:0<a4
       ·exact .inl ⟨a4,_,rfl,rfl,by omega,hP4.le,rfl,rfl,hl.snoc (.of hx.s hx.d),⟨λ_=>⟨rfl,hP4.le⟩,λh=>by dsimp only at h;omega⟩,λ_ _ _=>rfl,λ_=>rfl,λ_=>hP4.2 rfl⟩
       ·obtain rfl:a4=a1:=by omega
        exact .inr ⟨a4,u,rfl,rfl,by omega,hu,hk0,hk7,hk6,ho1,ho2⟩
      ·refine RZ.br rfl (λ_=>hj4 _ _ ⟨rfl,λh=>by cases h⟩) (λh6=>hj4 _ _ ⟨rfl,λ_=>by simpa using h6⟩)
    ·refine RZ.br rfl (λh6=>xD hC (hB.mono (by omega)) (by omega) hlt λr=>hj3 _ _ ⟨rfl,rfl,rfl,λ_=>by simpa using h6⟩) (λ_=>hj3 _ _ ⟨rfl,rfl,rfl,λh=>by cases h⟩)
  ·refine RZ.br rfl (λh6=>?_) (λ_=>hj2 _ _ ⟨rfl,rfl,rfl,λh=>by cases h⟩)
   have h6:u.Kind=6:=by simpa using h6
   by_cases w:0<e
   ·obtain ⟨he1,he2⟩:=he.1 w
    refine RZ.br (by rw[decide_eq_true w,decide_eq_true (by omega)]) (λ_=>DB hC (by omega) hlt (by omega) he2 he1 λr=>hj2 _ _ ⟨rfl,rfl,rfl,λ_=>h6⟩) (λq=>absurd w (by simpa using q))
   ·refine RZ.Lo (λq=>absurd (by simpa using q) w) (λ_=>?_)
    rcases he.2 (by omega) with q|⟨_,q⟩
    ·exact RZ.K4 (λz=>absurd (by simpa using z:0<e') (by omega)) (λ_=>hj2 _ _ ⟨rfl,rfl,rfl,λh=>by cases h⟩)
    ·refine RZ.K4 (λ_=>?_) (λ_=>hj2 _ _ ⟨rfl,rfl,rfl,λh=>by cases h⟩)
     rcases q n a1 (by omega) hlt with q|q
     ·rw[q];exact RZ.o6
     ·rw[q];exact hj2 _ _ ⟨rfl,rfl,rfl,λh=>by cases h⟩
 ·refine RZ.br rfl (λ_=>hj1 _ _ ⟨rfl,λh=>by cases h⟩) (λh7=>?_)
  rw[Ft hsT]
  exact RZ.same λr hr=>hj1 _ _ ⟨rfl,λh=>⟨by simpa using h7,by rw[hr,h]⟩⟩
theorem FG (ih:GL n) (hC:C.jC) (h0:0<=a) (ha:a<=C.B) (hB:DS C a):RZ (λr=>r.2.2=eh C C.B false none) (λr r'=>(∃ a1,r.2.2=eh C a1 false none/\r'.2.2=eC C a1 false none/\a<=a1/\a1<C.B)/\LR DD r.1 r'.1/\r'.2.1=r.2.1) (cU (n+1) j (eh C a false none)) (cU (n+1) j (eC C a false none)):=by
 show RZ _ _ (al.iter (gx n j) n (eh C a false none,[],[],-1,true)) (al.iter (gx n j) n (eC C a false none,[],[],-1,true));exact xG (O':=[]) ih.g hC h0 hB (λa1 o o' ld u h1 h2 _ _ hl=>⟨⟨a1,rfl,rfl,h1,h2⟩,hl,rfl⟩) (λo o' ld e e' sep n' _ _ _ _=>RZ.KS rfl) n n
  ⟨a,[],rfl,rfl,Int.le_refl _,ha,rfl,rfl,.nil,⟨λh=>(by dsimp only at h;omega),λ_=>.inl (by dsimp only;omega)⟩,λ_ _ _=>rfl,λ_=>rfl,λh=>by cases h⟩
theorem JA {s:ByS} {T:List aB} {b:Int} {k:Bool} {q:Option ak} {m:Nat}:Q (λc=>∃ t a',c=(t,cI s T a' b k q)/\T[a'.toNat]?=some t) (ar m (cI s T a b k q)):=by
 unfold ar;refine Q.jn (λv=>∃ a',v=cI s T a' b k q) (λv hv=>?_) (λj hj=>Q.iter (λv=>∃ a',v=cI s T a' b k q) (λv hv next hn=>?_) m ⟨a,rfl⟩)
 ·obtain ⟨a',rfl⟩:=hv;exact Q.el λt _ ht=>Q.ok ⟨t,a',rfl,ht⟩
 obtain ⟨a',rfl⟩:=hv;dsimp only;exact Q.br (λ_=>Q.el λt _ ht=>Q.br (λ_=>Q.gd (hn _ ⟨a'+1,rfl⟩)) (λ_=>hj _ ⟨a',rfl⟩)) (λ_=>hj _ ⟨a',rfl⟩)
theorem HH (ih:GL n) {x:ByS} {v v':Int}:RZ NZ (λr r'=>r.2=true->r'.2=true/\EE r.1 r'.1) (gR (n+1) x v) (gR (n+1) x v'):=by
 show RZ NZ _ (jF n (ai n) x v) (jF n (ai n) x v');unfold jF;refine RZ.same λy _=>RZ.br rfl (λ_=>RZ.ok λh=>by cases h) (λ_=>RZ.same λz _=>RZ.br rfl (λ_=>RZ.ok λh=>by cases h) (λ_=>?_));refine RZ.A7 ?_ λp a _ h=>?_
 ·have hC:(Cx.mk x y.1 v x y.1 v' 0 y.1.length).jC:=Cx.refl;refine mC (C:=Cx.mk x y.1 v x y.1 v' 0 y.1.length) (ih.g.expr hC (Int.le_refl 0) (.n (by dsimp only;omega))) (λe e' a2 h2 hP2 he=>?_) (λ_ e=>Q.mX (fp.kW (Ai (by dsimp only;omega))));dsimp only;refine RZ.bind (W:=λr r'=>r'.1.Kind=r.1.Kind) (λr e0=>?_) λr r' hr=>?_
  ·rcases Ak (q':=none) hC (by omega) hP2.1 r e0 with ⟨_,t,rfl,_⟩|q|⟨d,q,a1,t,t',rfl,rfl,h1,h2,h3,h4,h5,h6,h7⟩
   ·obtain ⟨t2,a',h,h3⟩:=JA _ e0;injection h with _ h
    injection h with _ _ h
    subst h;rw[List.getElem?_eq_none (by dsimp only;omega)] at h3;cases h3
   ·exact .inr (.inl q)
   refine .inr (.inr ⟨_,q,(h7 ?_).1⟩);have:=(List.getElem?_eq_some_iff.1 h3).1;dsimp only at this ⊢;omega
  rw[hr];exact RZ.ok λh=>⟨h,he⟩
 have hf:∀ (p:rW) (r:ak×Bool),(sC 86 p λv=>al.bind (ig v) λy=>.ok (y.1,y.2))=.ok r->r.2=false:=λp r h=>by
  obtain ⟨v,_,h⟩:=mi (λq=>by cases q) h;unfold ig at h;cases h;rfl
 have ha:=hf p a h;refine ⟨λb _ q=>(by rw[ha] at q;cases q),λp' _=>?_⟩;cases hh:(sC 86 p' λv=>al.bind (ig v) λy=>.ok (y.1,y.2)) with
 | stuck=>exact .inl rfl
 | ok b=>exact .inr ⟨b,rfl,λq=>by rw[ha] at q;cases q⟩
 | kA w=>
  obtain ⟨v,_,h⟩:=mi (λq=>by cases q) hh
  unfold ig at h;cases h
end
theorem FH:∀ n,GL n:=by
 intro n
 induction n with
 | zero=>
  intro i hi
  have e:i=0:=by omega
  subst e
  constructor<;>intros<;>exact RZ.nil
 | succ n ih=>
  intro i hi
  by_cases h:i<=n
  ·exact ih i h
  have e:i=n+1:=by omega
  subst e
  exact {
   expr:=λhC h0 hQ=>Hy ih hC h0 hQ,alt:=λhC h0 hQ=>Jw ih hC h0 hQ,wi:=λhC h0 hQ=>Hz ih hC h0 hQ,bin:=λhC h0 hQ=>Jx ih hC h0 hQ,unary:=λhC h0 hQ=>Fx ih hC h0 hQ,post:=λhC h0 hQ=>HA ih hC h0 hQ
   Bw:=λhC h0 hQ=>HE ih hC h0 hQ,named:=λhC h0 hB ht hk=>Fy ih hC h0 hB ht hk,xw:=λhs=>DE ih hs,parens:=λhC h0 ha=>DF ih hC h0 ha,xx:=λhC h0 hB hP ht h7=>DG ih hC h0 hB hP ht h7
   list:=λhC h0 hP ht h7=>HD ih hC h0 hP ht h7,block:=λhC h0 ha=>Fz ih hC h0 ha,args:=λhC h0 ha=>HB ih hC h0 ha,item:=λhC h0 hB=>HC ih hC h0 hB,field:=λhC h0 hB ht hk hd=>FA ih hC h0 hB ht hk hd
   pattern:=λhC h0 ha hd=>B6 ih hC h0 ha hd,uG:=λhC h0 ha hd=>B7 ih hC h0 ha hd,decl:=λhC h0 hB ht hk=>HF ih hC h0 hB ht hk,decls:=λhC h0 ha hB=>FG ih hC h0 ha hB,code:=HH ih }
section
variable {m:Nat} {x:P} {α β:Type}
theorem Q.tk {Z:α->Prop} {z:al α} {a:α} (h:Tk z a) (hz:Z a):Q Z z:=λb e=>by
 rcases h with rfl|rfl
 ·cases e
 cases e;exact hz
abbrev NA (x:P) (y:Bool×P):Prop:=y.1=true->∃ t:aB,y.2.out=x.out++[t]/\(t.Kind=1->t.Text≠[])
theorem vC {k n:Int} {t:ByS} (h:k=1->t≠[]):Q (NA x) (al.bind (aZ k t n x) λy=>.ok (true,y)):=
 Q.bind λc e=>Q.ok λ_=>Q.tk (Z:=λc=>∃ t:aB,c.out=x.out++[t]/\(t.Kind=1->t.Text≠[])) s4 ⟨_,rfl,h⟩ c e
theorem JB:Q (NA x) (dm m x):=by
 unfold dm;refine Q.gd (Q.bind λc _=>Q.br (λ_=>Q.ok λh=>by cases h) (λ_=>Q.gd (Q.gd (Q.br (λ_=>Q.gd (Q.gd (Q.bind λc _=>Q.br (λ_=>Q.ok λh=>by cases h) (λ_=>Q.gd (Q.gd ?_))))) (λ_=>Q.bind λc _=>Q.br (λ_=>Q.ok λh=>by cases h) (λ_=>?_))))))
 ·exact vC λh=>by cases h
 exact vC λh=>by cases h
theorem Q.Lx {Z:α->Prop} {p:Prop} [Decidable p] {z:al α} (h:p->Q Z z):Q Z (al.gd p z):=by
 unfold al.gd;split
 ·exact h ‹_›
 exact λa e=>by cases e
theorem HI:Q (NA x) (cy m x):=by
 unfold cy;refine Q.gd (Q.bind λc _=>Q.br (λ_=>Q.bind λc _=>Q.gd ?_) (λ_=>Q.bind λw _=>Q.br (λhw=>Q.Lx λhg=>?_) (λ_=>Q.el λb _ _=>Q.bind λd _=>Q.br (λ_=>Q.bind λw _=>Q.gd (Q.bind λz _=>Q.br (λ_=>Q.ok λh=>by cases h) (λ_=>Q.gd ?_))) (λ_=>Q.br (λ_=>Q.bind λy hy=>Q.ok ?_) (λ_=>Q.bind λy _=>Q.br (λ_=>Q.ok λh=>by cases h) (λ_=>?_))))))
 ·exact vC λh=>by cases h
 ·refine vC λ_ h=>?_;have hw:=of_decide_eq_true hw;have h:=congrArg List.length h;simp only[kB,List.length_take,List.length_nil] at h;omega
 ·exact vC λh=>by cases h
 ·exact JB y hy
 exact vC λh=>by cases h
def xH (T:List aB):Prop:=∀ t,t∈T->t.Kind=1->t.Text≠[]
theorem xH.snoc {T:List aB} (h:xH T) {t:aB} (ht:t.Kind=1->t.Text≠[]):xH (T++[t]):=λu hu=>by
 rcases List.mem_append.1 hu with q|q
 ·exact h u q
 simp at q;subst q;exact ht
theorem HJ {s:ByS}:Q (λr=>r.2.Errno=0->xH r.1) (gj m s):=by
 rw[Ad];refine Q.br (λ_=>Q.ok λh=>by cases h) (λ_=>Q.iter (λx=>xH x.out) (λx hx next hn=>?_) m (λt h=>by cases h));unfold jJ;have A:∀ {k n:Int} {t:ByS} {K:P->al (List aB×dz)},k≠1->(∀ z,xH z.out->Q (λr=>r.2.Errno=0->xH r.1) (K z))->Q (λr=>r.2.Errno=0->xH r.1) (al.bind (aZ k t n x) K):=λ{k n t K} hk h=>Q.bind λc e=>h c (Q.tk (Z:=λc=>xH c.out) s4 (hx.snoc λq=>absurd q hk) c e);refine Q.br (λ_=>Q.el λb _ _=>?_) (λ_=>A (by decide) λz hz=>Q.ok λ_=>hz);refine Q.jn (λ_=>True) (λ_ _=>Q.gd (hn _ hx)) (λj hj=>?_);have hj:=hj () trivial;refine Q.br (λ_=>Q.br (λ_=>A (by decide) λz hz=>hn _ hz) (λ_=>hj)) (λ_=>Q.br (λ_=>hj) (λ_=>Q.br (λ_=>hj) (λ_=>Q.br (λ_=>hj) (λ_=>Q.bind λy hy=>Q.br (λ_=>Q.ok λh=>by cases h) (λh=>?_)))));obtain ⟨t,h1,h2⟩:=HI y hy (by simpa using h);refine hn _ ?_;rw[h1];exact hx.snoc h2
end
def sg (s:ByS) (U:List aB):List aB:=if kx U=true then [aB.mk 7 [10] s.length (s.length+1)] else []
abbrev JY (s:ByS):aB:=aB.mk 0 [] s.length s.length
abbrev jT (s:ByS) (U T2:List aB):List aB:=U++sg s U++T2.map (wC (s.length+1))
abbrev C1 (s t:ByS) (U T2:List aB):Cx:=⟨s,U++[JY s],0,s++10::t,jT s U T2,0,0,U.length⟩
abbrev C2 (s t:ByS) (U T2:List aB):Cx:=⟨t,T2,0,s++10::t,jT s U T2,0,(U++sg s U).length,T2.length⟩
structure JX (s t:ByS) (U T2:List aB):Prop where
 p:PC s (U++[JY s]) 0
 q:PC t T2 0
 x:xH T2
section
variable {s t:ByS} {U T2:List aB}
theorem HK (W:List aB) (b:Bool) (h:∀ x,x∈W->x.Kind=6):W.foldl (λb t=>if t.Kind=6 then b else kE t.Kind t.Text) b=b:=by
 induction W generalizing b with
 | nil=>rfl
 | cons x W ih=>
  simp only[List.foldl_cons]
  rw[if_pos (h x (by simp))]
  exact ih b λy hy=>h y (by simp[hy])
theorem HL {t:ByS}:kE 6 t=false:=rfl
theorem HM {l r:ByS} {a b:Int} (h:b<=l.length):sub (l++r) a b=sub l a b:=by
 simp only[sub];rw[List.drop_append,List.take_append_of_le_length];rw[List.length_drop];omega
theorem B8:(jT s U T2).length=(U++sg s U).length+T2.length:=by simp[Nat.add_assoc]
theorem DH {i:Nat} (h:i<U.length):(jT s U T2)[i]?=U[i]?:=by
 show (U++sg s U++T2.map (wC (s.length+1)))[i]?=_;rw[List.append_assoc,List.getElem?_append_left h]
theorem FI {i:Nat}:(jT s U T2)[i+(U++sg s U).length]?=T2[i]?.map (wC (s.length+1)):=by
 show (U++sg s U++T2.map (wC (s.length+1)))[i+(U++sg s U).length]?=_;rw[List.getElem?_append_right (by omega),Nat.add_sub_cancel,List.getElem?_map]
theorem FJ (h:kx U=true):(jT s U T2)[U.length]?=some (aB.mk 7 [10] s.length (s.length+1)):=by
 show (U++sg s U++T2.map (wC (s.length+1)))[U.length]?=_;unfold sg;rw[if_pos h,List.append_assoc,List.getElem?_append_right (Nat.le_refl _)];simp
theorem s9 (h:JX s t U T2):(C1 s t U T2).jC where
 tok:=λi u u' hi h1 h2=>by
  dsimp only at hi h1 h2;rw[List.getElem?_append_left hi] at h1;rw[Nat.add_zero,DH hi,h1] at h2;cases h2;exact ⟨rfl,rfl⟩
 e0:=λu h=>by
  dsimp only at h;rw[List.getElem?_concat_length] at h;cases h;rfl
 en:=by simp
 el:=by simp
 ln:=λi u hi h1 hs hcm=>by
  dsimp only at hi h1;rw[List.getElem?_append_left hi] at h1;have h6:u.Kind≠6:=λq=>by rw[q,HL] at hs;cases hs
  have e:U=(U.take i++[u])++U.drop (i+1):=by
   have:U.take (i+1)=U.take i++[u]:=by rw[List.take_add_one,h1];rfl
   rw[<- this,List.take_append_drop]
  have hl:kx U=true:=by
   rw[e];unfold kx;rw[List.foldl_append,HK _ _ λy hy=>?_]
   ·have:=s3 (U.take i) u;unfold kx at this;rw[this,if_neg h6];exact hs
   obtain ⟨j,hj⟩:=List.mem_iff_getElem?.1 hy;rw[List.getElem?_drop] at hj;have hlt:=(List.getElem?_eq_some_iff.1 hj).1;exact hcm (i+1+j) y (by omega) (by dsimp only;omega) (by dsimp only;rw[List.getElem?_append_left hlt];exact hj)
  intro t' h2;dsimp only at h2;rw[Nat.add_zero,FJ hl] at h2;cases h2;rfl
 nl:=λi j u v u' v' hi hj h1 h2 h1' h2'=>by
  have hv:=h.p.tok (T:=U++[JY s]) h2;dsimp only at hi hj h1 h2 h1' h2' ⊢;rw[List.getElem?_append_left hi] at h1;rw[List.getElem?_append_left hj] at h2;rw[Nat.add_zero,DH hi,h1] at h1';rw[Nat.add_zero,DH hj,h2] at h2';cases h1';cases h2';rw[HM (by omega)];exact λr e=>.inr (.inr ⟨r,e,rfl⟩)
 K7:=λi u u' h0 h1 h2=>by
  have hq:=h.q.pos;have hl:=B8 (s:=s) (U:=U) (T2:=T2);have hle:(U++sg s U).length=U.length+(sg s U).length:=List.length_append;dsimp only at h1 h2 ⊢;rw[Int.natCast_zero,Int.add_zero] at h2;by_cases hi:i<U.length
  ·left;have e1:cap (U++[JY s]) i=i:=by unfold cap;rw[if_neg (by simp;omega)]
   have e2:cap (jT s U T2) i=i:=by unfold cap;rw[if_neg (by omega)]
   rw[e1,List.getElem?_append_left (by omega)] at h1;rw[e2,DH (by omega),h1] at h2;cases h2;exact ⟨rfl,rfl⟩
  right;have e1:cap (U++[JY s]) i=U.length:=by unfold cap;simp only[List.length_append,List.length_cons,List.length_nil];split<;>omega
  rw[e1,show ((U.length:Int)).toNat=U.length by omega,List.getElem?_concat_length] at h1;cases h1;refine ⟨by omega,rfl,λe hL=>hL u' ?_⟩;subst e;have e2:cap (jT s U T2) U.length=U.length:=by unfold cap;rw[if_neg (by omega)]
  rw[e2] at h2;simpa using h2
theorem Ap {i:Nat} {u u':aB} (h1:T2[i]?=some u) (h2:(jT s U T2)[i+(U++sg s U).length]?=some u'):u'=wC (s.length+1) u:=by
 rw[FI,h1] at h2;cases h2;rfl
theorem B9 (h:JX s t U T2):(C2 s t U T2).jC where
 tok:=λi u u' _ h1 h2=>by
  have:=Ap h1 h2;subst this;exact ⟨rfl,rfl⟩
 e0:=λu h=>by
  dsimp only at h;rw[List.getElem?_eq_none (Nat.le_refl _)] at h;cases h
 en:=Nat.le_succ _
 el:=Nat.le_refl _
 ln:=λ_ _ _ _ _ _ u' h2=>by
  dsimp only at h2;rw[List.getElem?_eq_none (by rw[B8];omega)] at h2;cases h2
 nl:=λi j u v u' v' hi hj h1 h2 h1' h2'=>by
  have e1:=Ap h1 h1';have e2:=Ap h2 h2';subst e1 e2;have hu:=h.q.tok h1;have e3:s++10::t=(s++[10])++t:=by simp
  have e4:=Fc (pre:=s++[10]) (s:=t) (i:=u.End) (j:=v.Pos) (by omega);have e5:((s++[10]).length:Int)=((s.length+1:Nat):Int):=by simp
  rw[e5] at e4;dsimp only [wC];rw[e3,e4];exact λr e=>.inr (.inr ⟨r,e,rfl⟩)
 K7:=λi u u' h0 h1 h2=>by
  left;have hq:=h.q.pos;dsimp only at h1 h2;have e:(cap (jT s U T2) (i+((U++sg s U).length:Int))).toNat=(cap T2 i).toNat+(U++sg s U).length:=by
   unfold cap;rw[B8];split<;>split<;>omega
  rw[e] at h2;have:=Ap h1 h2;subst this;exact ⟨rfl,rfl⟩
theorem FK:∀ {l:ByS},10∈l->(l8 l [10]).isSome=true
 | [],h=>by cases h
 | b::l,h=>by
  by_cases q:b=10
  ·subst q;simp[l8,List.isPrefixOf]
  have e:([10]:ByS).isPrefixOf (b::l)=false:=by simp[List.isPrefixOf];exact λh=>q h.symm
  have ih:=FK (l:=l) (by simpa[Ne.symm q] using h);simp only[l8,e];cases hx:l8 l [10] with
  | none=>rw[hx] at ih;cases ih
  | some _=>simp
theorem FL {x y:Int} (h0:0<=x) (h1:x<=s.length) (h2:(s.length:Int)+1<=y):Tk (strings_Contains (sub (s++10::t) x y) [10]) true:=by
 have hm:10∈sub (s++10::t) x y:=by
  simp only[sub];rw[List.drop_append_of_le_length (by omega)];refine List.mem_of_getElem? (i:=s.length - x.toNat) ?_;rw[List.getElem?_take,if_pos (by omega),List.getElem?_append_right (by rw[List.length_drop];omega),List.length_drop,Nat.sub_self];rfl
 unfold strings_Contains al.gd;rw[FK hm];split
 ·exact .inr rfl
 exact .inl rfl
theorem JC (h:JX s t U T2) {i:Nat} {u:aB} (hu:U[i]?=some u):0<=u.End/\u.End<=s.length/\u.Kind≠0:=by
 have hi:=(List.getElem?_eq_some_iff.1 hu).1;have g:=h.p.tok (i:=i) (t:=u) (by rw[List.getElem?_append_left hi];exact hu);obtain ⟨l,e,ho⟩:=h.p.bd.is;have e:=(List.append_inj' e rfl).1;subst e;exact ⟨by omega,g.2.2.1,(ho.ok u (List.mem_of_getElem? hu)).k⟩
theorem Ca (h:JX s t U T2) {a:Int}:DS (C2 s t U T2) a:=.inr (.inr λi j u v hi hk h1 h2=>by
 dsimp only at hi h1 h2;obtain ⟨w,hw,rfl⟩:∃ w,T2[j]?=some w/\v=wC (s.length+1) w:=by
  rw[FI] at h2;cases hw:T2[j]? with
  | none=>rw[hw] at h2;cases h2
  | some w=>rw[hw] at h2;cases h2;exact ⟨w,rfl,rfl⟩
 have hwp:=h.q.tok hw;have hiU:i<U.length:=by
  by_cases q:i<U.length
  ·exact q
  exfalso;have:kx U=true:=by
   cases hq:kx U with
   | true=>rfl
   | false=>unfold sg at hi;rw[hq] at hi;simp at hi;omega
  have hi2:i=U.length:=by unfold sg at hi;rw[if_pos this] at hi;simp at hi;omega
  subst hi2;rw[FJ this] at h1;cases h1;exact hk rfl
 rw[DH hiU] at h1;have g:=JC h h1;exact FL g.1 g.2.1 (by dsimp only [wC];omega))
theorem JD (u:aB) (x:ByS):∃ r,bJ u x=.ok r:=by
 by_cases h:u.Kind=5
 ·exact ⟨_,Hv h⟩
 exact ⟨_,o7 h⟩
theorem JE (h:JX s t U T2) {e':Int} (h0:0<e') (h1:e'<=U.length):JW (C2 s t U T2) e':=λm a ha hB=>by
 unfold du;dsimp only;refine Tk.iter (λ_=>True) (λv _ next hn=>?_) m trivial;refine Tk.br (λ_=>Tk.el λu _ _=>?_) (λ_=>Tk.gd λ_=>Tk.el λu _ hu=>Tk.el λv _ hv=>Tk.gd λ_=>?_)
 ·obtain ⟨r,hr⟩:=JD u [44];exact Tk.pw hr (Tk.br (λ_=>.inr rfl) (λ_=>Tk.gd λ_=>hn _ trivial))
 rw[DH (by omega)] at hu;have g:=JC h hu;rw[tn ha,FI] at hv;obtain ⟨w,hw,rfl⟩:∃ w,T2[a.toNat]?=some w/\v=wC (s.length+1) w:=by
  cases hw:T2[a.toNat]? with
  | none=>rw[hw] at hv;cases hv
  | some w=>rw[hw] at hv;cases hv;exact ⟨w,rfl,rfl⟩
 have hwp:=h.q.tok hw;rcases FL (s:=s) (t:=t) (x:=u.End) (y:=(wC (s.length+1) w).Pos) g.1 g.2.1 (by dsimp only [wC];omega) with q|q
 ·exact .inl (by rw[q];rfl)
 exact .inr (by rw[q];rfl)
end
section
variable {s:ByS} {T:List aB} {b a:Int} {q:Option ak} {m n:Nat} {α β:Type}
theorem tS (c:aB×L) (e:ar m (cI s T a b false q)=.ok c):∃ t,0<=a/\T[a.toNat]?=some t/\c=(t,cI s T a b false q):=by
 unfold ar at e;cases m with
 | zero=>cases e
 | succ m=>
  have e:al.el T a (λx=>al.ok (x,cI s T a b false q))=.ok c:=e
  obtain ⟨u,h0,_,hu,e⟩:=IM (λq=>by cases q) e
  cases e
  exact ⟨u,h0,hu,rfl⟩
theorem HO:Q (λc=>∃ u,u∈T/\u.Kind=1/\c.1=u.Text) (cx m (cI s T a b false q)):=by
 unfold cx;refine Q.bind λc e=>?_;obtain ⟨u,h0,hu,rfl⟩:=tS c e;dsimp only;refine Q.jn (λ_=>u.Kind=1) (λv hv=>Q.gd (Q.ok ⟨u,List.mem_of_getElem? hu,hv,rfl⟩)) (λj hj=>Q.br (λ_=>kb) (λhk=>Q.bind λr _=>Q.br (λ_=>kb) (λ_=>hj _ (by simpa using hk))))
theorem FM {p:L}:Q (λc=>c.2=p) (bP m p):=by
 unfold bP;refine Q.gd (Q.iter (λ_=>True) (λv _ next hn=>?_) m trivial);refine Q.br (λ_=>Q.el λ_ _ _=>Q.br (λ_=>Q.el λ_ _ _=>Q.el λ_ _ _=>Q.gd (Q.bind λy _=>Q.ok ?_)) (λ_=>Q.gd (hn _ trivial))) (λ_=>Q.ok ?_)
 ·rfl
 rfl
def Gi (n:Nat):(L×List ByS->al (List ByS×L))->L×List ByS->al (List ByS×L):=
 λnext5 v4=>al.bind (ar n v4.1) λy9=>br (y9.1.Kind==6) (jn (λ(v11:L)=>al.bind (ar n v11) λy15=>gd (lz 16 (List.length v4.2) (List.length [y15.1.Text])) (gd (dY (y15.2.at_+1)) (next5 ((L.mk y15.2.text y15.2.bd (y15.2.at_+1) v11.base y15.2.skip y15.2.pending),v4.2++[y15.1.Text])))) λj12=>al.bind (bP n (L.mk y9.2.text y9.2.bd y9.2.at_ v4.1.base y9.2.skip y9.2.pending)) λy19=>br (!y19.1) (al.bind (aV n y19.2) λy21=>j12 (y21)) (j12 (y19.2))) (.ok (v4.2,(L.mk y9.2.text y9.2.bd y9.2.at_ v4.1.base y9.2.skip y9.2.pending)))
theorem yH (p:L):cl n p=al.iter (Gi n) n (p,[]):=rfl
theorem C4 {next:L×List ByS->al (List ByS×L)} {l:List ByS} {r:List ByS×L} (e:Gi n next (cI s T a b false q,l)=.ok r) :
  ∃ u,0<=a/\T[a.toNat]?=some u/\(u.Kind≠6/\r=(l,cI s T a b false q)\/u.Kind=6/\bP n (cI s T a b false q)=.ok (true,cI s T a b false q)/\next (cI s T (a+1) b false q,l++[u.Text])=.ok r):=by
 revert r
 suffices H:Q (λr=>∃ u,0<=a/\T[a.toNat]?=some u/\(u.Kind≠6/\r=(l,cI s T a b false q)\/u.Kind=6/\bP n (cI s T a b false q)=.ok (true,cI s T a b false q)/\next (cI s T (a+1) b false q,l++[u.Text])=.ok r)) (Gi n next (cI s T a b false q,l)) from λ{r} e=>H r e
 unfold Gi
 dsimp only
 refine Q.bind λc e=>?_
 obtain ⟨u,h0,hu,rfl⟩:=tS c e
 dsimp only
 refine Q.br (λh6=>?_) (λh6=>Q.ok ⟨u,h0,hu,.inl ⟨by simpa using h6,rfl⟩⟩)
 have h6:u.Kind=6:=by simpa using h6
 refine Q.jn (λv=>v=cI s T a b false q/\bP n (cI s T a b false q)=.ok (true,cI s T a b false q)) (λv hv=>?_) (λj hj=>Q.bind λc e=>?_)
 ·obtain ⟨rfl,ha⟩:=hv
  refine Q.bind λc e=>?_
  obtain ⟨u2,_,hu2,rfl⟩:=tS c e
  rw[hu] at hu2;cases hu2
  exact Q.gd (Q.gd λr e=>⟨u,h0,hu,.inr ⟨h6,ha,e⟩⟩)
 ·have hp:=FM c e
  obtain ⟨x,p⟩:=c
  dsimp only at hp;subst hp
  refine Q.br (λ_=>kb) (λhx=>hj _ ⟨rfl,?_⟩)
  have hx:x=true:=by simpa using hx
  rw[hx] at e;exact e
theorem ta:∀ (k:Nat) {a:Int} {l:List ByS} (r:List ByS×L),al.iter (Gi n) k (cI s T a b false q,l)=.ok r->∃ i u,r.2=cI s T i b false q/\a<=i/\T[i.toNat]?=some u/\u.Kind≠6/\(a<i->∃ w,T[a.toNat]?=some w/\w.Kind=6)
 | 0,_,_,_,e=>by cases e
 | k+1,a,l,r,e=>by
  obtain ⟨u,h0,hu,⟨h1,rfl⟩|⟨h1,h2,h3⟩⟩:=C4 e
  ·exact ⟨a,u,rfl,Int.le_refl _,hu,h1,λh=>by omega⟩
  obtain ⟨i,w,g1,g2,g3,g4,_⟩:=ta k r h3;exact ⟨i,w,g1,by omega,g3,g4,λ_=>⟨u,hu,h1⟩⟩
end
abbrev nF:cu:=cu.mk [] [] [] []
structure TF (n:Nat) (t:ByS) (T2:List aB) (b:cu):Prop where
 ex:∃ l i u p3 v,cl n (cI t T2 0 0 false none)=.ok (l,cI t T2 i 0 false none)/\0<=i/\T2[i.toNat]?=some u/\u.Kind≠6/\(0<i->∃ w,T2[0]?=some w/\w.Kind=6)/\bI u [112,97,99,107,97,103,101]=.ok false/\bI u [105,109,112,111,114,116]=.ok false/\
  dX n l true (cI t T2 i 0 false none)=.ok (b.Decls,b.bT,p3)/\ar n p3=.ok v/\v.1.Kind=0
section
variable {t:ByS} {T2:List aB} {n:Nat}
theorem HQ (hx:xH T2):Q (λr=>r.1.cb=[]->r.1.bo=[]->TF n t T2 r.1) (cL n (cI t T2 0 0 false none)):=by
 unfold cL;refine Q.bind λc ec=>?_;obtain ⟨l,p⟩:=c;obtain ⟨i,u,hp,h0,hu,h6,hw⟩:=ta n _ ec;dsimp only at hp;subst hp;dsimp only;refine Q.jn (λv=>v.2.1.cb≠[]\/(v.1=cI t T2 i 0 false none/\v.2.1=nF/\v.2.2=l/\bI u [112,97,99,107,97,103,101]=.ok false)) (λv hv=>?_) (λj hj=>Q.bind λc e=>?_)
 ·obtain ⟨p,f,l2⟩:=v;dsimp only at hv ⊢;refine Q.jn (λv=>v.2.cb≠[]\/v.2.bo≠[]\/(v.1=cI t T2 i 0 false none/\v.2=nF/\l2=l/\bI u [112,97,99,107,97,103,101]=.ok false/\bI u [105,109,112,111,114,116]=.ok false)) (λv hv=>?_) (λj hj=>?_)
  ·obtain ⟨p,f⟩:=v;dsimp only at hv ⊢;refine Q.bind λr er=>Q.bind λw ew=>Q.br (λ_=>kb) (λhk=>Q.ok λg1 g2=>?_);dsimp only at g1 g2;rcases hv with q|q|⟨q1,q2,q3,q4,q5⟩
   ·exact absurd g1 q
   ·exact absurd g2 q
   subst q1 q3;exact ⟨l2,i,u,r.2.2,w,ec,h0,hu,h6,hw,q4,q5,er,ew,by simpa using hk⟩
  refine Q.iter (λv=>v.2.cb≠[]\/v.2.bo≠[]\/(v.1=cI t T2 i 0 false none/\v.2=nF/\l2=l/\bI u [112,97,99,107,97,103,101]=.ok false)) (λv hv next hn=>?_) n ?_
  ·obtain ⟨p,f⟩:=v;dsimp only at hv ⊢;refine Q.bind λc e=>Q.bind λr er=>Q.br (λ_=>?_) (λhr=>hj _ ?_)
   ·have N:∀ {p:L},Q (λr=>r.1.cb=[]->r.1.bo=[]->TF n t T2 r.1) (al.bind (cV n p) λy29=>al.gd (lz 40 (List.length f.bo) (List.length [y29.1])) (next (y29.2,cu.mk f.cb (f.bo++[y29.1]) [] []))):=λ{p}=>Q.bind λy _=>Q.gd (hn _ (.inr (.inl (by simp))));refine Q.br (λ_=>N) (λhne=>Q.gd (Q.el λx _ _=>Q.br (λ_=>N) (λ_=>hj _ ?_)));refine hv.imp_right λhv=>hv.imp_right λhv=>?_;rw[hv.2.1] at hne;cases hne
   refine hv.imp_right λhv=>hv.imp_right λhv=>?_;obtain ⟨q1,q2,q3,q4⟩:=hv;subst q1;obtain ⟨u2,_,hu2,rfl⟩:=tS c e;rw[hu] at hu2;cases hu2;dsimp only at er hr ⊢;rw[hr] at er;exact ⟨rfl,by rw[q2],q3,q4,er⟩
  dsimp only;rcases hv with hv|⟨q1,q2,q3,q4⟩
  ·exact .inl hv
  exact .inr (.inr ⟨q1,by rw[q2],q3,q4⟩)
 obtain ⟨u2,_,hu2,rfl⟩:=tS c e;rw[hu] at hu2;cases hu2;dsimp only;refine Q.bind λr er=>Q.br (λ_=>Q.gd (Q.bind λc ec=>?_)) (λhr=>hj _ (.inr ⟨rfl,rfl,rfl,by rw[hr] at er;exact er⟩));obtain ⟨w,hw1,hw2,hw3⟩:=HO c ec;refine Q.bind λp _=>Q.bind λy _=>Q.gd (hj _ (.inl ?_));dsimp only;rw[hw3];exact hx w hw1 hw2
end
def SE {α:Type} (x y:al α):Prop:=x=.stuck\/x=y
section
variable {α β γ:Type}
theorem SE.rfl {x:al α}:SE x x:=.inr _root_.rfl
theorem SE.bind {x:al γ} {c:γ} {f:γ->al α} {y:al α} (h:Tk x c) (hf:SE (f c) y):SE (al.bind x f) y:=by
 rcases h with h|h
 ·exact .inl (by rw[h];rfl)
 rw[h];exact hf
theorem SE.br {b:Bool} {x x' y:al α} (ht:b=true->SE x y) (hf:b=false->SE x' y):SE (al.br b x x') y:=by
 cases b with
 | true=>exact ht _root_.rfl
 | false=>exact hf _root_.rfl
theorem SE.jn {X:Type} {j:X->al α} {p:(X->al α)->al α} {y:al α} (J:X->Prop) (hj:∀ v,J v->SE (j v) y) (hp:∀ j:X->al α,(∀ v,J v->SE (j v) y)->SE (p j) y):SE (al.jn j p) y:=hp j hj
theorem SE.ff {x y z:al α} (h:SE x y):SE (al.br false z x) y:=h
theorem SE.tt {x y z:al α} (h:SE x y):SE (al.br true x z) y:=h
theorem SE.gd {p:Prop} [Decidable p] {x y:al α} (h:SE x y):SE (al.gd p x) y:=by
 unfold al.gd;split
 ·exact h
 exact .inl _root_.rfl
end
section
variable {s:ByS} {T:List aB} {b a:Int} {m n:Nat} {j:Bool} {next:HG->al xF} {l:List ByS} {O':List aA} {e':Int} {sep:Bool}
theorem tT {u:aB} (h0:0<=a) (hu:T[a.toNat]?=some u):Tk (ar m (cI s T a b false none)) (u,cI s T a b false none):=by
 unfold ar;cases m with
 | zero=>exact .inl rfl
 | succ m=>
  refine .inr ?_
  show al.el T a (λx=>al.ok (x,cI s T a b false none))=_
  simp only[al.el]
  rw[if_pos h0,hu]
theorem FN {u:aB} (h0:0<=a) (hu:T[a.toNat]?=some u) (hk:u.Kind≠0/\u.Kind≠5):Tk (cK m (cI s T a b false none)) (false,cI s T a b false none):=by
 unfold cK;refine SE.bind (tT h0 hu) ?_;dsimp only;rw[beq_eq_false_iff_ne.2 hk.1];refine SE.bind (tT h0 hu) ?_;dsimp only;rw[o7 hk.2];exact SE.rfl
theorem FO {u:aB} (h0:0<=a) (hu:T[a.toNat]?=some u) (hk:u.Kind=7):SE (gx n j next (cI s T a b false none,l,O',e',sep)) (next (cI s T (a+1) b false none,l,O',e',true)):=by
 unfold gx;dsimp only;refine SE.bind (FN h0 hu (by omega)) (SE.br (λ_=>SE.bind (tT h0 hu) ?_) (λh=>by cases h));dsimp only;rw[hk];refine SE.jn (λv=>v=true) (λv hv=>?_) (λj hj=>hj true rfl);subst hv;exact SE.tt (SE.gd SE.rfl)
theorem FP {u:aB} (h0:0<=a) (hu:T[a.toNat]?=some u) (hk:u.Kind=6) (ht:e'<=0\/Tk (du n e' (cI s T a b false none)) (false,cI s T a b false none)) (ha:Tk (bP n (cI s T a b false none)) (true,cI s T a b false none)) :
  SE (gx n j next (cI s T a b false none,l,O',e',sep)) (next (cI s T (a+1) b false none,l++[u.Text],O',e',sep)):=by
 unfold gx
 dsimp only
 refine SE.bind (FN h0 hu (by omega)) (SE.br (λ_=>SE.bind (tT h0 hu) ?_) (λh=>by cases h))
 dsimp only
 rw[hk,o7 (t:=u) (by omega)]
 refine SE.jn (λv=>v=false) (λv hv=>?_) (λj hj=>hj false rfl)
 subst hv
 refine SE.ff (SE.jn (λv=>v=(cI s T a b false none,false)) (λv hv=>?_) (λj hj=>?_))
 ·subst hv
  refine SE.ff (SE.jn (λv=>v=(cI s T a b false none,true)) (λv hv=>?_) (λj hj=>?_))
  ·subst hv
   exact SE.tt (SE.gd (SE.gd SE.rfl))
  ·exact SE.tt (SE.bind ha (hj _ rfl))
 ·refine SE.tt (SE.br (λh=>?_) (λ_=>hj _ rfl))
  have h:=of_decide_eq_true h
  rcases ht with q|q
  ·omega
  ·exact SE.bind q (hj _ rfl)
end
end Go.Abs
end
section
namespace Go.Abs
open al
section
variable {C:Cx} {n:Nat} {a:Int}
theorem vT (hC:C.jC) (h0:0<=a) (ha:a<C.B) (hB:DS C a):RZ (λr=>r.2=eh C C.B false none/\r.1≠[]) (λr r'=>∃ i,r.2=eh C i false none/\r'.2=eC C i false none/\r'.1=r.1/\a<=i/\i<C.B) (cl n (eh C a false none)) (cl n (eC C a false none)):=by
 rw[yH,yH];refine RZ.uH (λv w=>∃ i,v.1=eh C i false none/\w.1=eC C i false none/\w.2=v.2/\a<=i/\i<C.B) (λv=>v.1=eh C C.B false none/\v.2≠[]) (λv h next _=>?_) (λv w h next next' hn hN=>?_) n n ⟨a,rfl,rfl,rfl,Int.le_refl _,ha⟩
 ·obtain ⟨p,l⟩:=v;obtain ⟨hp,hl⟩:=h;dsimp only at hp hl;subst hp;intro r e;obtain ⟨u,_,hu,⟨_,rfl⟩|⟨h6,_,_⟩⟩:=C4 e
  ·exact ⟨rfl,hl⟩
  have:=hC.e0 u (by simpa using hu);omega
 obtain ⟨p,l⟩:=v;obtain ⟨p',l'⟩:=w;obtain ⟨i,g1,g2,g3,h1,hi⟩:=h;dsimp only at g1 g2 g3;subst g1 g2 g3;unfold Gi;dsimp only;refine mB hC hi λt t' ht hs=>?_;dsimp only;rw[hs.1];refine RZ.br rfl (λ_=>?_) (λ_=>RZ.ok ⟨i,rfl,rfl,rfl,h1,hi⟩);refine RZ.jn (λv w=>v=eh C i false none/\w=eC C i false none) (λv w h=>?_) (λj j' hj=>?_)
 ·obtain ⟨rfl,rfl⟩:=h;refine mB hC hi λt t' ht hs=>?_;dsimp only;rw[hs.2,nx];refine RZ.gd λ_ _=>RZ.gd λ_ _=>?_;by_cases hB1:i+1<C.B
  ·exact hn _ _ ⟨i+1,rfl,rfl,rfl,by omega,hB1⟩
  exact Q.rz (hN _ ⟨by dsimp only;rw[show i+1=C.B by omega],by simp⟩)
 refine xD hC (hB.mono (by omega)) (by omega) hi λr=>?_;dsimp only;exact RZ.br rfl (λ_=>iJ) (λ_=>hj _ _ ⟨rfl,rfl⟩)
theorem K8 {s:ByS} {T:List aB} {b:Int} {u:aB} (h0:0<=a) (hu:T[a.toNat]?=some u) (hk:u.Kind≠6):Tk (cl n (cI s T a b false none)) ([],cI s T a b false none):=by
 rw[yH];cases n with
 | zero=>exact .inl rfl
 | succ n=>
  show SE (Gi (n+1) (al.iter (Gi (n+1)) n) (cI s T a b false none,[])) _
  unfold Gi
  dsimp only
  refine SE.bind (tT h0 hu) ?_
  dsimp only
  rw[beq_eq_false_iff_ne.2 hk];exact SE.rfl
end
section
variable {s t:ByS} {U T2:List aB} {n:Nat} {b:cu}
theorem FQ (h:sg s U=[]):eC (C1 s t U T2) U.length false none=eC (C2 s t U T2) 0 false none:=by
 show cI (s++10::t) (jT s U T2) ((U.length:Int)+((0:Nat):Int)) 0 false none=cI (s++10::t) (jT s U T2) (0+((U++sg s U).length:Int)) 0 false none;rw[h,List.append_nil];congr 1;omega
theorem KE (h:kx U=true):cI (s++10::t) (jT s U T2) ((U.length:Int)+1) 0 false none=eC (C2 s t U T2) 0 false none:=by
 show _=cI (s++10::t) (jT s U T2) (0+((U++sg s U).length:Int)) 0 false none;unfold sg;rw[if_pos h,List.length_append];congr 1;simp
theorem BD {i:Int} (h0:0<=i) {u:aB} (hu:T2[i.toNat]?=some u):(jT s U T2)[(i+((U++sg s U).length:Int)).toNat]?=some (wC (s.length+1) u):=by
 rw[show (i+((U++sg s U).length:Int)).toNat=i.toNat+(U++sg s U).length by omega,FI,hu];rfl
theorem FT (h:JX s t U T2) {O':List aA} {e':Int} {sep:Bool} (he:e'<=0\/JW (C2 s t U T2) e') :
  ∀ (k k':Nat) {a:Int} {l:List ByS} (r:List ByS×L),0<=a->al.iter (Gi n) k (eh (C2 s t U T2) a false none,l)=.ok r->
   ∃ i,r.2=eh (C2 s t U T2) i false none/\(al.iter (gx n true) k' (eC (C2 s t U T2) a false none,l,O',e',sep)=.stuck\/∃ k2,al.iter (gx n true) k' (eC (C2 s t U T2) a false none,l,O',e',sep)=al.iter (gx n true) k2 (eC (C2 s t U T2) i false none,r.1,O',e',sep))
 | 0,_,_,_,_,_,e=>by cases e
 | k+1,k',a,l,r,h0,e=>by
  obtain ⟨u,_,hu,⟨h1,rfl⟩|⟨h1,h2,h3⟩⟩:=C4 e
  ·exact ⟨a,rfl,.inr ⟨k',rfl⟩⟩
  ·have hlt:a.toNat<T2.length:=(List.getElem?_eq_some_iff.1 hu).1
   have hlt2:a<(C2 s t U T2).B:=by show a<(T2.length:Int);omega
   cases k' with
   | zero=>
    obtain ⟨i,g1,_⟩:=FT h (O':=O') (sep:=sep) he k 0 r (by omega) h3
    exact ⟨i,g1,.inl rfl⟩
   | succ k'=>
    obtain ⟨i,g1,g2⟩:=FT h (O':=O') (sep:=sep) he k k' r (by omega) h3
    refine ⟨i,g1,?_⟩
    have hA:Tk (bP n (eC (C2 s t U T2) a false none)) (true,eC (C2 s t U T2) a false none):=by
     have hA:=xD (m:=n) (q:=none) (q':=none) (Z:=NZ) (V:=λr r'=>r.1=r'.1/\r'.2=eC (C2 s t U T2) a false none) (K:=.ok) (K':=.ok) (B9 h) (Ca h) h0 hlt2 (λr=>RZ.ok ⟨rfl,rfl⟩) _ (by rw[h2];rfl)
     rcases hA with q|q|⟨c,q,q1,q2⟩
     ·exact q.elim
     ·left
      cases hx:bP n (eC (C2 s t U T2) a false none) with
      | stuck=>rfl
      | kA _=>rw[hx] at q;cases q
      | ok _=>rw[hx] at q;cases q
     ·right
      cases hx:bP n (eC (C2 s t U T2) a false none) with
      | stuck=>rw[hx] at q;cases q
      | kA _=>rw[hx] at q;cases q
      | ok d=>
       rw[hx] at q;cases q
       obtain ⟨d1,d2⟩:=c
       dsimp only at q1 q2
       rw[<- q1,q2]
    have hs:=FP (next:=al.iter (gx n true) k') (j:=true) (n:=n) (O':=O') (sep:=sep) (l:=l) (u:=wC (s.length+1) u) (s:=s++10::t) (b:=0) (a:=a+((U++sg s U).length:Int)) (by omega) (BD (s:=s) (U:=U) h0 hu) h1 (he.imp_right λq=>q n a h0 hlt2) hA
    have e1:al.iter (gx n true) (k'+1) (eC (C2 s t U T2) a false none,l,O',e',sep)=gx n true (al.iter (gx n true) k') (eC (C2 s t U T2) a false none,l,O',e',sep):=rfl
    rw[e1]
    rcases hs with q|q
    ·exact .inl q
    ·rw[q,nx]
     exact g2
theorem FU (h:JX s t U T2) {i:Int} {l:List ByS} {ds:List aA} {tl:List ByS} {p3:L} {v:aB×L} {u:aB} (h0:0<=i) (hu:T2[i.toNat]?=some u)
  (hd:dX n l true (cI t T2 i 0 false none)=.ok (ds,tl,p3)) (hv:ar n p3=.ok v) (hk:v.1.Kind=0) {O':List aA} {e':Int} {sep:Bool} (he:e'<=0\/0<(C2 s t U T2).κ/\JW (C2 s t U T2) e') (hs:sep=true\/u.Kind=7) (k:Nat) :
  al.iter (gx n true) k (eC (C2 s t U T2) i false none,l,O',e',sep)=.stuck\/∃ o' a u',al.iter (gx n true) k (eC (C2 s t U T2) i false none,l,O',e',sep)=.ok (O'++o',tl,eC (C2 s t U T2) a false none)/\LR DD ds o'/\0<=a/\(jT s U T2)[(a+((U++sg s U).length:Int)).toNat]?=some u'/\u'.Kind=0:=by
 have hlt:=(List.getElem?_eq_some_iff.1 hu).1
 rw[s8] at hd
 have hR:=xG (C:=C2 s t U T2) (a:=i) (n:=n) (j:=true) (O':=O') (FH n).g (B9 h) (Z:=NZ) (V:=λr r'=>∃ a o',r.2.2=eh (C2 s t U T2) a false none/\i<=a/\r'=(O'++o',r.2.1,eC (C2 s t U T2) a false none)/\LR DD r.1 o') h0 (Ca h)
  (λa1 o o' ld u h1 h2 _ _ hl=>⟨a1,o',rfl,h1,rfl,hl⟩) (λo o' ld e e' sep n' ⟨w,hw⟩ _ _ _=>by
   dsimp only at hw
   rw[List.getElem?_eq_none (Nat.le_refl _)] at hw;cases hw) n k (v:=(eh (C2 s t U T2) i false none,l,[],-1,true)) (w:=(eC (C2 s t U T2) i false none,l,O',e',sep))
  ⟨i,[],rfl,rfl,Int.le_refl _,by dsimp only;omega,rfl,(List.append_nil _).symm,.nil,⟨λh=>(by dsimp only at h;omega),λ_=>he⟩,λw hw hk7=>(by
   dsimp only at hw
   rw[hu] at hw;cases hw
   exact hs.resolve_right hk7),λq=>(by have q:i=(T2.length:Int):=q;omega),λq=>by cases q⟩ _ hd
 rcases hR with q|q|⟨r',q,a,o',g1,g2,g3,g4⟩
 ·exact q.elim
 ·exact .inl q
 ·right
  dsimp only at g1 g3 g4
  subst g1 g3
  obtain ⟨w,hw0,hw,rfl⟩:=tS v hv
  exact ⟨o',a,_,q,g4,by omega,BD hw0 hw,hk⟩
theorem Ir (h:JX s t U T2) (hF:TF n t T2 b) {O':List aA} {e':Int} {sep:Bool} (he:e'<=0\/0<(C2 s t U T2).κ/\JW (C2 s t U T2) e') (hs:sep=true\/∃ u,T2[0]?=some u/\u.Kind=7) (k:Nat) :
  al.iter (gx n true) k (eC (C2 s t U T2) 0 false none,[],O',e',sep)=.stuck\/∃ o' a u',al.iter (gx n true) k (eC (C2 s t U T2) 0 false none,[],O',e',sep)=.ok (O'++o',b.bT,eC (C2 s t U T2) a false none)/\LR DD b.Decls o'/\0<=a/\(jT s U T2)[(a+((U++sg s U).length:Int)).toNat]?=some u'/\u'.Kind=0:=by
 obtain ⟨l,i,u,p3,v,hc,h0,hu,h6,hw,_,_,hd,hv,hk⟩:=hF.ex
 rw[yH] at hc
 obtain ⟨i2,g1,g2⟩:=FT h (O':=O') (sep:=sep) (he.imp_right λq=>q.2) n k _ (Int.le_refl 0) hc
 dsimp only at g1
 injection g1 with _ _ g1
 subst g1
 rcases g2 with g2|⟨k2,g2⟩
 ·exact .inl g2
 ·rw[g2]
  refine FU h h0 hu hd hv hk he ?_ k2
  refine hs.imp_right λ⟨w,hw1,hw7⟩=>?_
  by_cases q:0<i
  ·obtain ⟨w2,hw2,hw6⟩:=hw q
   rw[hw1] at hw2;cases hw2;omega
  ·have e:i=0:=by omega
   subst e
   rw[Int.toNat_zero,hw1] at hu;cases hu;exact hw7
theorem JF (h:JX s t U T2) (hF:TF n t T2 b) {O':List aA} {e':Int} {sep:Bool} (he:e'<=U.length) (hs:sep=false->(C1 s t U T2).Ln) (k:Nat) :
  al.iter (gx n true) k (eC (C1 s t U T2) U.length false none,[],O',e',sep)=.stuck\/∃ o' a u',al.iter (gx n true) k (eC (C1 s t U T2) U.length false none,[],O',e',sep)=.ok (O'++o',b.bT,eC (C2 s t U T2) a false none)/\LR DD b.Decls o'/\0<=a/\(jT s U T2)[(a+((U++sg s U).length:Int)).toNat]?=some u'/\u'.Kind=0:=by
 have he':e'<=0\/0<(C2 s t U T2).κ/\JW (C2 s t U T2) e':=by
  by_cases q:0<e'
  ·exact .inr ⟨by simp only[List.length_append];omega,JE h q he⟩
  ·exact .inl (by omega)
 cases hl:kx U with
 | true=>
  cases k with
  | zero=>exact .inl rfl
  | succ k=>
   have e1:al.iter (gx n true) (k+1) (eC (C1 s t U T2) U.length false none,[],O',e',sep)=gx n true (al.iter (gx n true) k) (cI (s++10::t) (jT s U T2) U.length 0 false none,[],O',e',sep):=by
    show gx n true _ (cI _ _ ((U.length:Int)+((0:Nat):Int)) _ _ _,_,_,_,_)=_
    rw[Int.natCast_zero,Int.add_zero]
   rw[e1]
   rcases FO (next:=al.iter (gx n true) k) (j:=true) (n:=n) (O':=O') (sep:=sep) (l:=[]) (e':=e') (s:=s++10::t) (b:=0) (a:=U.length) (T:=jT s U T2) (by omega) (by simpa using FJ hl) rfl with q|q
   ·exact .inl q
   ·rw[q,KE hl]
    exact Ir h hF he' (.inl rfl) k
 | false=>
  have hL:sg s U=[]:=by unfold sg;rw[hl];rfl
  rw[FQ hL]
  refine Ir h hF he' ?_ k
  cases sep with
  | true=>exact .inl rfl
  | false=>
   right
   have hp:=h.q.pos
   have hu:T2[0]?=some T2[0]:=List.getElem?_eq_getElem (by omega)
   refine ⟨_,hu,?_⟩
   refine hs rfl (wC (s.length+1) T2[0]) ?_
   dsimp only
   have:=FI (s:=s) (U:=U) (T2:=T2) (i:=0)
   rw[hL,List.append_nil,Nat.zero_add,hu] at this
   rw[Nat.add_zero,this];rfl
end
end Go.Abs
end
section
namespace Go.Abs
open al
def IE (x x':bY):Prop:=x'.Name=x.Name/\x'.Path=x.Path
structure FE (f f':cu):Prop where
 p:f'.cb=f.cb
 i:LR IE f.bo f'.bo
 d:LR DD f.Decls f'.Decls
 t:f'.bT=f.bT
def PI (f f':cu):Prop:=f'.cb=f.cb/\LR IE f.bo f'.bo
section
variable {C:Cx} {α β:Type} {V:α->β->Prop} {Z:α->Prop} {n m:Nat} {a:Int} {q q':Option ak}
theorem uM (hC:C.jC) {K:aB×L->al α} (h:∀ u,u.Kind=0->Q Z (K (u,eh C C.B false q))):Q Z (al.bind (ar m (eh C C.B false q)) K):=Q.bind λc e=>by
 obtain ⟨u,_,hu,rfl⟩:=tS c e;exact h u (hC.e0 u (by simpa using hu))
theorem uN (hC:C.jC) (h0:0<=a) (ha:a<=C.B) {K:L->al α} {K':L->al β} (hk:a<C.B->RZ Z V (K (eh C (a+1) false q)) (K' (eC C (a+1) false q'))) :
  RZ Z V (al.bind (c7 m (eh C a false q)) K) (al.bind (c7 m (eC C a false q')) K'):=by
 by_cases hlt:a<C.B
 ·refine RZ.bind (W:=λr r'=>r=eh C (a+1) false q/\r'=eC C (a+1) false q') ?_ λr r' h=>?_
  ·unfold c7
   refine RZ.jn (λv w=>v=eh C a false q/\w=eC C a false q') (λv w h=>?_) (λj j' hj=>?_)
   ·obtain ⟨rfl,rfl⟩:=h
    dsimp only
    rw[nx]
    exact RZ.gd λ_ _=>RZ.ok ⟨rfl,rfl⟩
   ·refine mB hC hlt λt t' ht hs=>?_
    dsimp only
    rw[hs.1]
    refine RZ.br rfl (λ_=>?_) (λ_=>hj _ _ ⟨rfl,rfl⟩)
    refine mB hC hlt λt t' ht hs=>?_
    dsimp only
    exact kF (.inl hs) λr _=>RZ.br rfl (λ_=>iJ) (λ_=>hj _ _ ⟨rfl,rfl⟩)
  ·obtain ⟨rfl,rfl⟩:=h
   exact hk hlt
 ·obtain rfl:a=C.B:=by omega
  refine Q.rz (Q.mX (fp.kW λr e=>?_))
  have:Q (λ_=>False) (c7 m (eh C C.B false q)):=by
   unfold c7
   refine Q.jn (λ_=>False) (λ_ h=>h.elim) (λj hj=>uM hC λu hu=>?_)
   dsimp only
   rw[hu]
   refine Q.br (λ_=>uM hC λu hu=>?_) (λh=>by cases h)
   exact lK hu (Q.br (λ_=>kb) (λh=>by cases h))
  exact this r e
theorem vU (hC:C.jC) (h0:0<=a) (ha:a<C.B) {t0:aB} (ht0:C.T[a.toNat]?=some t0) (hk6:t0.Kind≠6) {K:bY×L->al α} {K':bY×L->al β} (hk:∀ a1 x x',a<a1->a1<=C.B->IE x x'->RZ Z V (K (x,eh C a1 false q)) (K' (x',eC C a1 false q'))) :
  RZ Z V (al.bind (cV m (eh C a false q)) K) (al.bind (cV m (eC C a false q')) K'):=by
 refine RZ.bind (W:=λr r'=>∃ a1 x x',r=(x,eh C a1 false q)/\r'=(x',eC C a1 false q')/\a<a1/\a1<=C.B/\IE x x') ?_ λr r' h=>?_
 ·unfold cV
  refine mD hC (.lt h0 ha ht0 hk6) ht0 (λh=>by cases h) λv w=>?_
  dsimp only
  rw[nx]
  refine RZ.gd λ_ _=>RZ.K5 (λv w=>∃ a1,v.1=eh C a1 false q/\w.1=eC C a1 false q'/\a<a1/\a1<=C.B/\IE v.2 w.2) (λv=>v.1=eh C C.B false q) (λv w h=>?_) (λv h=>?_) (λj j' hj hN=>?_)
  ·obtain ⟨p,x⟩:=v
   obtain ⟨p',x'⟩:=w
   obtain ⟨a3,g1,g2,h3,hB3,hx⟩:=h
   dsimp only at g1 g2 hx;subst g1 g2;dsimp only
   by_cases hlt:a3<C.B
   case neg=>
    obtain rfl:a3=C.B:=by omega
    refine RZ.mX λr e=>?_
    exact (uM (Z:=λ_=>False) hC λu hu=>Q.jn (λ_=>False) (λ_ h=>h.elim) λj hj=>Q.br (λ_=>kb) (λh=>by rw[hu] at h;cases h)) r e
   refine mB hC hlt λt t' _ hs=>?_
   dsimp only
   rw[hs.1,hs.2,hx.1]
   refine RZ.jn (λv w=>v=eh C a3 false q/\w=eC C a3 false q') (λv w h=>?_) (λj j' hj=>?_)
   ·obtain ⟨rfl,rfl⟩:=h
    refine RZ.jn (λv w=>v.1=eh C a3 false q/\w.1=eC C a3 false q'/\IE v.2 w.2) (λv w h=>?_) (λj j' hj=>?_)
    ·obtain ⟨p,x⟩:=v
     obtain ⟨p',x'⟩:=w
     obtain ⟨g1,g2,hx⟩:=h
     dsimp only at g1 g2 hx;subst g1 g2;dsimp only
     rw[nx]
     refine RZ.gd λ_ _=>uN hC (by omega) (by omega) λh5=>?_
     exact RZ.ok ⟨a3+1+1,_,_,rfl,rfl,by omega,by omega,hx⟩
    ·refine RZ.br rfl (λ_=>?_) (λ_=>hj _ _ ⟨rfl,rfl,⟨rfl,rfl⟩⟩)
     refine RZ.same λy _=>RZ.gd λ_ _=>RZ.gd λ_ _=>RZ.same λz _=>?_
     exact RZ.br rfl (λ_=>iJ) (λ_=>hj _ _ ⟨rfl,rfl,⟨rfl,rfl⟩⟩)
   ·exact RZ.br rfl (λ_=>iJ) (λ_=>hj _ _ ⟨rfl,rfl⟩)
  ·obtain ⟨p,x⟩:=v
   dsimp only at h;subst h;dsimp only
   intro r e
   exact (uM (Z:=λ_=>False) hC λu hu=>Q.jn (λ_=>False) (λ_ h=>h.elim) λj hj=>Q.br (λ_=>kb) (λh=>by rw[hu] at h;cases h)) r e
  ·by_cases hlt:a+1<C.B
   ·refine mB hC hlt λt t' _ hs=>?_
    dsimp only
    rw[hs.1]
    refine RZ.br rfl (λ_=>tu hC (by omega) λa5 x _ h5 hB5 _ _=>?_) (λ_=>hj _ _ ⟨a+1,rfl,rfl,by omega,by omega,⟨rfl,rfl⟩⟩)
    exact hj _ _ ⟨a5,rfl,rfl,by omega,hB5,⟨rfl,rfl⟩⟩
   ·have e1:a+1=C.B:=by omega
    rw[e1]
    refine RZ.mX λr e=>?_
    exact (uM (Z:=λ_=>False) hC λu hu=>Q.br (λh=>by rw[hu] at h;cases h) (λ_=>Q.mX (hN _ rfl))) r e
 ·obtain ⟨a1,x,x',rfl,rfl,h1,h2,hx⟩:=h
  exact hk a1 x x' h1 h2 hx
end
theorem LR.append {X Y:Type} {R:X->Y->Prop} {l k:List X} {l' k':List Y} (h:LR R l l') (h':LR R k k'):LR R (l++k) (l'++k'):=by
 refine ⟨by rw[List.length_append,List.length_append,h.1,h'.1],λi x y hx hy=>?_⟩;have e:=h.1;by_cases q:i<l.length
 ·rw[List.getElem?_append_left q] at hx;rw[List.getElem?_append_left (by omega)] at hy;exact h.2 i x y hx hy
 rw[List.getElem?_append_right (by omega)] at hx hy;rw[<- e] at hy;exact h'.2 _ x y hx hy
section
variable {s t:ByS} {U T2:List aB} {n:Nat} {b:cu}
theorem xI (h:JX s t U T2) {i2:Int} {l2:List ByS} (hc:cl n (cI t T2 0 0 false none)=.ok (l2,cI t T2 i2 0 false none)) {a:Int} (h0:0<=a) (ha:a<=U.length) :
  RZ (λr=>r.2=eh (C1 s t U T2) U.length false none/\r.1≠[]) (λr r'=>(∃ i,r.2=eh (C1 s t U T2) i false none/\r'.2=eC (C1 s t U T2) i false none/\r'.1=r.1/\0<=i/\i<=U.length)\/(r=([],eh (C1 s t U T2) U.length false none)/\r'=(l2,eC (C2 s t U T2) i2 false none)))
   (cl n (eh (C1 s t U T2) a false none)) (cl n (eC (C1 s t U T2) a false none)):=by
 by_cases hlt:a<U.length
 ·exact (vT (s9 h) h0 hlt (.inl rfl)).mono λr r' ⟨i,g1,g2,g3,g4,g5⟩=>.inl ⟨i,g1,g2,g3,by omega,by dsimp only at g5;omega⟩
 ·obtain rfl:a=U.length:=by omega
  intro r e
  have hr:r=([],eh (C1 s t U T2) U.length false none):=by
   rw[yH] at e
   cases n with
   | zero=>cases e
   | succ n=>
    obtain ⟨u,_,hu,⟨_,hr⟩|⟨h6,_⟩⟩:=C4 e
    ·exact hr
    ·have:=(s9 h).e0 u (by simpa using hu);omega
  subst hr
  right
  cases hl:kx U with
  | true=>
   have hu:=FJ (s:=s) (T2:=T2) hl
   have e1:eC (C1 s t U T2) U.length false none=cI (s++10::t) (jT s U T2) U.length 0 false none:=by
    show cI _ _ ((U.length:Int)+((0:Nat):Int)) _ _ _=_
    rw[Int.natCast_zero,Int.add_zero]
   rw[e1]
   rcases K8 (n:=n) (s:=s++10::t) (b:=0) (a:=U.length) (T:=jT s U T2) (by omega) (by rw[show ((U.length:Int)).toNat=U.length by omega];exact hu) (by simp) with q|q
   ·exact .inl q
   ·exact .inr ⟨_,q,.inl ⟨U.length,rfl,e1.symm,rfl,by omega,by omega⟩⟩
  | false=>
   have hL:sg s U=[]:=by unfold sg;rw[hl];rfl
   rw[FQ hL]
   rcases vT (n:=n) (B9 h) (Int.le_refl 0) (by have:=h.q.pos;dsimp only;omega) (Ca h) _ hc with ⟨q,_⟩|q|⟨r',q,i,g1,g2,g3,g4,g5⟩
   ·exfalso
    rw[yH] at hc
    obtain ⟨i,u,g1,_,g2,_⟩:=ta n _ hc
    dsimp only at g1 q
    injection g1 with _ _ g1
    injection q with _ _ q
    subst g1 q
    have:=(List.getElem?_eq_some_iff.1 g2).1
    omega
   ·exact .inl q
   ·refine .inr ⟨r',q,.inr ⟨rfl,?_⟩⟩
    obtain ⟨r1,r2⟩:=r'
    dsimp only at g1 g2 g3
    injection g1 with _ _ g1
    subst g1 g2 g3;rfl
theorem C5 (h:JX s t U T2) (hF:TF n t T2 b) {x:ByS} (hx:∀ u,bI u [112,97,99,107,97,103,101]=.ok false->bI u [105,109,112,111,114,116]=.ok false->u.Kind=1->bI u x=.ok false) :
  ∃ u',(∀ m,Tk (ar m (eC (C1 s t U T2) U.length false none)) (u',eC (C1 s t U T2) U.length false none))/\bI u' x=.ok false:=by
 obtain ⟨l,i,u,p3,v,hc,h0,hu,h6,hw,w1,w2,hd,hv,hk⟩:=hF.ex
 cases hl:kx U with
 | true=>
  have e1:eC (C1 s t U T2) U.length false none=cI (s++10::t) (jT s U T2) U.length 0 false none:=by
   show cI _ _ ((U.length:Int)+((0:Nat):Int)) _ _ _=_
   rw[Int.natCast_zero,Int.add_zero]
  rw[e1]
  exact ⟨_,λm=>tT (T:=jT s U T2) (by omega) (by rw[show ((U.length:Int)).toNat=U.length by omega];exact FJ hl),p8 (by simp)⟩
 | false=>
  have hL:sg s U=[]:=by unfold sg;rw[hl];rfl
  rw[FQ hL]
  have hp:=h.q.pos
  have hu0:T2[(0:Int).toNat]?=some T2[0]:=List.getElem?_eq_getElem (by omega)
  refine ⟨_,λm=>tT (by omega) (BD (Int.le_refl 0) hu0),?_⟩
  show bI T2[0] x=.ok false
  by_cases k1:T2[0].Kind=1
  ·by_cases q:0<i
   ·obtain ⟨w,q1,q2⟩:=hw q
    have:T2[0]=w:=by rw[Int.toNat_zero,q1] at hu0;cases hu0;rfl
    rw[this] at k1;omega
   ·obtain rfl:i=0:=by omega
    rw[hu0] at hu;cases hu
    exact hx _ w1 w2 k1
  ·exact p8 k1
end
def yI (n:Nat) (l:List ByS) (v8:L×cu):al (cu×L):=
 al.bind (dX n l true v8.1) λy12=>al.bind (ar n y12.2.2) λy15=>br (y15.1.Kind !=0) (al.bind (aV n (L.mk y15.2.text y15.2.bd y15.2.at_ y12.2.2.base y15.2.skip y15.2.pending)) λy17=>.ok ((cu.mk v8.2.cb v8.2.bo y12.1 y12.2.1),y17)) (.ok ((cu.mk v8.2.cb v8.2.bo y12.1 y12.2.1),(L.mk y15.2.text y15.2.bd y15.2.at_ y12.2.2.base y15.2.skip y15.2.pending)))
def FV (n:Nat) (j9:L×cu->al (cu×L)):(L×cu->al (cu×L))->L×cu->al (cu×L):=
 λnext21 v20=>al.bind (ar n v20.1) λy25=>al.bind (bI y25.1 ([105,109,112,111,114,116]:ByS)) λy26=>br y26 (br ((List.length v20.2.bo:Int)==0) (al.bind (cV n (L.mk y25.2.text y25.2.bd y25.2.at_ v20.1.base y25.2.skip y25.2.pending)) λy29=>gd (lz 40 (List.length v20.2.bo) (List.length [y29.1])) (next21 (y29.2,(cu.mk v20.2.cb (v20.2.bo++[y29.1]) [] [])))) (gd (dY (y25.2.at_ - 1)) (el y25.2.bd (y25.2.at_ - 1) λx32=>br (x32.Kind !=6) (al.bind (cV n (L.mk y25.2.text y25.2.bd y25.2.at_ v20.1.base y25.2.skip y25.2.pending)) λy37=>gd (lz 40 (List.length v20.2.bo) (List.length [y37.1])) (next21 (y37.2,(cu.mk v20.2.cb (v20.2.bo++[y37.1]) [] [])))) (j9 ((L.mk y25.2.text y25.2.bd y25.2.at_ v20.1.base y25.2.skip y25.2.pending),(cu.mk v20.2.cb v20.2.bo [] [])))))) (j9 ((L.mk y25.2.text y25.2.bd y25.2.at_ v20.1.base y25.2.skip y25.2.pending),(cu.mk v20.2.cb v20.2.bo [] [])))
def yJ (n:Nat) (v5:L×cu×List ByS):al (cu×L):=jn (yI n v5.2.2) λj9=>iter (FV n j9) n (v5.1,cu.mk v5.2.1.cb [] [] [])
def FW (n:Nat) (y4:List ByS×L) (j6:L×cu×List ByS->al (cu×L)):al (cu×L):=
 al.bind (ar n y4.2) λy40=>al.bind (bI y40.1 ([112,97,99,107,97,103,101]:ByS)) λy41=>br y41 (gd (dY (y40.2.at_+1)) (al.bind (cx n (L.mk y40.2.text y40.2.bd (y40.2.at_+1) y4.2.base y40.2.skip y40.2.pending)) λy46=>al.bind (c7 n y46.2) λy48=>al.bind (iu n y48) λy49=>gd (lz 16 (List.length y4.1) (List.length y49.1)) (j6 (y49.2,(cu.mk y46.1 [] [] []),y4.1++y49.1)))) (j6 ((L.mk y40.2.text y40.2.bd y40.2.at_ y4.2.base y40.2.skip y40.2.pending),(cu.mk [] [] [] []),y4.1))
theorem C6 (n:Nat) (p:L):cL n p=al.bind (cl n p) λy4=>jn (yJ n) (FW n y4):=rfl
theorem tb {n:Nat} {p:L}:iu n p=cl n p:=rfl
section
variable {C:Cx} {α β:Type} {V:α->β->Prop} {Z:α->Prop} {n m:Nat} {q:Option ak}
theorem C7 (hC:C.jC) {p':L} {u':aB} (hR:Tk (ar m p') (u',p')) {x:ByS} (hw:bI u' x=.ok false) {K:aB×L->Bool->al α} {K':aB×L->Bool->al β} (hk:∀ u,RZ Z V (K (u,eh C C.B false q) false) (K' (u',p') false)) :
  RZ Z V (al.bind (ar m (eh C C.B false q)) λy=>al.bind (bI y.1 x) λz=>K y z) (al.bind (ar m p') λy=>al.bind (bI y.1 x) λz=>K' y z):=by
 rcases hR with hR|hR
 ·rw[hR];exact RZ.o6
 ·intro r e
  cases hx:ar m (eh C C.B false q) with
  | stuck=>rw[hx] at e;cases e
  | kA _=>rw[hx] at e;cases e
  | ok c=>
   obtain ⟨u,_,hu,rfl⟩:=tS c hx
   have hu:=hC.e0 u (by simpa using hu)
   rw[hx] at e
   rw[hR]
   have e:al.bind (bI u x) (λz=>K (u,eh C C.B false q) z)=.ok r:=e
   rw[p8 (by omega)] at e
   show Z r\/al.bind (bI u' x) (λz=>K' (u',p') z)=.stuck\/∃ b,al.bind (bI u' x) (λz=>K' (u',p') z)=.ok b/\V r b
   rw[hw]
   exact hk u r e
theorem JG {u:aB} {x:ByS} {r:Bool} (h:bI u x=.ok r) (e:r=true):u.Kind=1:=by
 by_cases q:u.Kind=1
 ·exact q
 rw[p8 q] at h;cases h;cases e
end
section
variable {s t:ByS} {U T2:List aB} {n:Nat} {b:cu}
def HP (s t:ByS) (U T2:List aB) (i2:Int) (l2:List ByS) (p p':L) (l l':List ByS):Prop:=
 (∃ i,p=eh (C1 s t U T2) i false none/\p'=eC (C1 s t U T2) i false none/\l'=l/\0<=i/\i<=U.length)\/(p=eh (C1 s t U T2) U.length false none/\l=[]/\p'=eC (C2 s t U T2) i2 false none/\l'=l2)
def HN (s t:ByS) (U T2:List aB) (p:L) (l:List ByS):Prop:=p=eh (C1 s t U T2) U.length false none/\l≠[]
theorem yK (h:JX s t U T2) {l:List ByS} (r:xF) (e:dX n l true (eh (C1 s t U T2) U.length false none)=.ok r):r=([],l,eh (C1 s t U T2) U.length false none):=by
 rw[s8] at e;cases n with
 | zero=>cases e
 | succ n=>exact (BC (s9 h) r e).1
abbrev ZT (r:cu×L):Prop:=r.1.bT≠[]
abbrev K9 (b:cu) (r r':cu×L):Prop:=r'.1.cb=r.1.cb/\LR IE r.1.bo r'.1.bo/\LR DD (r.1.Decls++b.Decls) r'.1.Decls/\r'.1.bT=b.bT
theorem La (h:JX s t U T2) {l:List ByS} (v:L×cu) (hv:HN s t U T2 v.1 l):Q ZT (yI n l v):=by
 obtain ⟨p,f⟩:=v;obtain ⟨hp,hl⟩:=hv;dsimp only at hp;subst hp;unfold yI;refine Q.bind λc e=>?_;have:=yK h c e;subst this;exact uM (s9 h) λu _=>Q.br (λ_=>kb) (λ_=>Q.ok hl)
def WK (s t:ByS) (U T2:List aB) (b:cu) (r r':xF):Prop:=(∃ a u,r.2.2=eh (C1 s t U T2) a false none/\(U++[JY s])[a.toNat]?=some u/\u.Kind≠0)\/
 (r.2.2=eh (C1 s t U T2) U.length false none/\r.2.1=[]/\∃ a u',LR DD (r.1++b.Decls) r'.1/\r'.2.1=b.bT/\r'.2.2=eC (C2 s t U T2) a false none/\0<=a/\(jT s U T2)[(a+((U++sg s U).length:Int)).toNat]?=some u'/\u'.Kind=0)
theorem Lb (h:JX s t U T2) (hF:TF n t T2 b) {i2:Int} {l2:List ByS} {u2:aB} {p3:L} {v3:aB×L} (h0:0<=i2) (hu2:T2[i2.toNat]?=some u2) (hd:dX n l2 true (cI t T2 i2 0 false none)=.ok (b.Decls,b.bT,p3)) (hv:ar n p3=.ok v3) (hk:v3.1.Kind=0)
  {l l':List ByS} {p p':L} {f f':cu} (hp:HP s t U T2 i2 l2 p p' l l') (hf:PI f f'):RZ ZT (K9 b) (yI n l (p,f)) (yI n l' (p',f')):=by
 have hC:=s9 h
 unfold yI
 dsimp only
 refine RZ.qJ (Z':=λr=>r.2.1≠[]/\r.2.2=eh (C1 s t U T2) U.length false none) (W:=WK s t U T2 b) ?_ (λc hc=>?_) λr r' hw=>?_
 ·rcases hp with ⟨i,rfl,rfl,rfl,h1,h2⟩|⟨rfl,rfl,rfl,rfl⟩
  ·rw[s8,s8]
   refine xG (O':=[]) (a:=0) (FH n).g hC (Int.le_refl 0) (.inl rfl) (λa1 o o' ld u g1 g2 g3 _ _=>?_) (λo o' ld e e' sep n' _ hl hs he=>?_) n n ⟨i,[],rfl,rfl,h1,h2,rfl,rfl,.nil,⟨λh=>(by dsimp only at h;omega),λ_=>.inl (by dsimp only;omega)⟩,λ_ _ _=>rfl,λ_=>rfl,λh=>by cases h⟩
   ·dsimp only at g2 g3
    refine .inl ⟨a1,u,rfl,g3,?_⟩
    rw[List.getElem?_append_left (by omega)] at g3
    exact (JC h g3).2.2
   ·by_cases hld:ld=[]
    ·subst hld
     have he':e'<=U.length:=by
      by_cases q:0<e
      ·have:=he.1 q
       dsimp only at this;omega
      ·rcases he.2 (by omega) with q|⟨q,_⟩
       ·omega
       ·dsimp only at q;omega
     rcases JF h hF (O':=o') (sep:=sep) he' hs (n'+1) with q|⟨w,a,u',q,q1,q2,q3,q4⟩
     ·rw[List.nil_append,q];exact RZ.o6
     ·rw[List.nil_append,q];exact RZ.ok (.inr ⟨rfl,rfl,a,u',hl.append q1,rfl,rfl,q2,q3,q4⟩)
    ·exact RZ.KS ⟨hld,rfl⟩
  ·intro r e
   have:=yK h r e
   subst this
   right
   rw[s8]
   rcases FU h h0 hu2 hd hv hk (O':=[]) (e':=-1) (sep:=true) (.inl (by decide)) (.inl rfl) n with q|⟨w,a,u',q,q1,q2,q3,q4⟩
   ·exact .inl q
   ·exact .inr ⟨_,q,.inr ⟨rfl,rfl,a,u',q1,rfl,rfl,q2,q3,q4⟩⟩
 ·obtain ⟨o,ld,p⟩:=c
  obtain ⟨hl,hp⟩:=hc
  dsimp only at hl hp;subst hp
  exact uM hC λu _=>Q.br (λ_=>kb) (λ_=>Q.ok hl)
 ·obtain ⟨o,ld,p⟩:=r
  obtain ⟨o',ld',p'⟩:=r'
  rcases hw with ⟨a,u,g1,g2,g3⟩|⟨g1,g2,a,u',g3,g4,g5,g6,g7,g8⟩
  ·dsimp only at g1;subst g1
   refine RZ.mX (fp.bind λc e=>?_)
   obtain ⟨w,_,hw,rfl⟩:=tS c e
   dsimp only at hw
   rw[g2] at hw;cases hw
   exact fp.br (λ_=>gH) (λq=>absurd (by simpa using q) g3)
  ·dsimp only at g1 g2 g3 g4 g5;subst g1 g2 g4 g5
   refine RZ.bind (W:=λc c'=>c.1.Kind=0/\c'.1.Kind=0) (λc e=>?_) λc c' hcc=>?_
   ·obtain ⟨w,_,hw,rfl⟩:=tS c e
    have hw:=hC.e0 w (by simpa using hw)
    refine .inr ?_
    rcases tT (m:=n) (a:=a+((U++sg s U).length:Int)) (by omega) g7 with q|q
    ·exact .inl q
    ·exact .inr ⟨_,q,hw,g8⟩
   ·rw[hcc.1,hcc.2]
    exact RZ.br rfl (λq=>by cases q) (λ_=>RZ.ok ⟨hf.1,hf.2,g3,rfl⟩)
theorem KF (h:JX s t U T2) (v:L×cu×List ByS) (hv:HN s t U T2 v.1 v.2.2):Q ZT (yJ n v):=by
 obtain ⟨p,f,l⟩:=v;unfold yJ;refine Q.jn (λv=>HN s t U T2 v.1 l) (La h) (λj hj=>Q.iter (λv=>HN s t U T2 v.1 l) (λv hv next hn=>?_) n hv);obtain ⟨p,f⟩:=v;obtain ⟨hp,hl⟩:=hv;dsimp only at hp;subst hp;unfold FV;exact uM (s9 h) λu hu=>pJ hu (Q.br (λq=>by cases q) (λ_=>hj _ ⟨rfl,hl⟩))
theorem Lc (h:JX s t U T2) (hF:TF n t T2 b) {i2:Int} {l2:List ByS} {u2:aB} {p3:L} {v3:aB×L} (h0:0<=i2) (hu2:T2[i2.toNat]?=some u2) (w2:bI u2 [105,109,112,111,114,116]=.ok false) (hd:dX n l2 true (cI t T2 i2 0 false none)=.ok (b.Decls,b.bT,p3)) (hv:ar n p3=.ok v3) (hk:v3.1.Kind=0)
  {l l':List ByS} {p p':L} {f f':cu} (hp:HP s t U T2 i2 l2 p p' l l') (hf:f'.cb=f.cb):RZ ZT (K9 b) (yJ n (p,f,l)) (yJ n (p',f',l')):=by
 have hC:=s9 h
 unfold yJ
 dsimp only
 refine RZ.jn (λv w=>HP s t U T2 i2 l2 v.1 w.1 l l'/\PI v.2 w.2) (λv w h3=>Lb h hF h0 hu2 hd hv hk h3.1 h3.2) (λj j' hj=>?_)
 refine RZ.iter (λv w=>HP s t U T2 i2 l2 v.1 w.1 l l'/\PI v.2 w.2) (λv w h3 next next' hn=>?_) n n ⟨hp,hf,.nil⟩
 obtain ⟨p,f⟩:=v
 obtain ⟨p',f'⟩:=w
 obtain ⟨hp,hf⟩:=h3
 unfold FV
 dsimp only at hp hf ⊢
 rcases hp with ⟨i,rfl,rfl,rfl,h1,h2⟩|⟨rfl,rfl,rfl,rfl⟩
 ·by_cases hi:i<U.length
  ·refine mB hC hi λu u' hu hs=>?_
   dsimp only
   rw[Aj (.inl hs)]
   refine RZ.same λr hr=>RZ.br rfl (λhrt=>?_) (λ_=>hj _ _ ⟨.inl ⟨i,rfl,rfl,rfl,h1,h2⟩,hf.1,hf.2⟩)
   have k1:=JG hr hrt
   rw[<- hf.2.1]
   refine RZ.br rfl (λ_=>vU hC h1 hi hu (by omega) λa1 x x' h3 h4 hx=>RZ.gd λ_ _=>hn _ _ ⟨.inl ⟨a1,rfl,rfl,rfl,by omega,h4⟩,hf.1,hf.2.snoc hx⟩) (λ_=>?_)
   refine RZ.gd λ_ _=>RZ.el λw w' z0 z1 g1 g1'=>?_
   have hs2:=hC.tok (i - 1).toNat w w' (by dsimp only;omega) g1 (by
    rw[show (i - 1).toNat+(C1 s t U T2).κ=(i+((0:Nat):Int) - 1).toNat by dsimp only;omega];exact g1')
   rw[hs2.1]
   exact RZ.br rfl (λ_=>vU hC h1 hi hu (by omega) λa1 x x' h3 h4 hx=>RZ.gd λ_ _=>hn _ _ ⟨.inl ⟨a1,rfl,rfl,rfl,by omega,h4⟩,hf.1,hf.2.snoc hx⟩) (λ_=>hj _ _ ⟨.inl ⟨i,rfl,rfl,rfl,h1,h2⟩,hf.1,hf.2⟩)
  ·obtain rfl:i=U.length:=by omega
   obtain ⟨u',hu',hw'⟩:=C5 h hF (x:=[105,109,112,111,114,116]) λ_ _ q _=>q
   refine C7 hC (hu' n) hw' λu=>?_
   exact RZ.br rfl (λq=>by cases q) (λ_=>hj _ _ ⟨.inl ⟨U.length,rfl,rfl,rfl,h1,h2⟩,hf.1,hf.2⟩)
 ·refine C7 hC (tT (u:=wC (s.length+1) u2) (a:=i2+((U++sg s U).length:Int)) (by omega) (BD h0 hu2)) w2 λu=>?_
  exact RZ.br rfl (λq=>by cases q) (λ_=>hj _ _ ⟨.inr ⟨rfl,rfl,rfl,rfl⟩,hf.1,hf.2⟩)
theorem HR (h:JX s t U T2) (hF:TF n t T2 b):RZ ZT (K9 b) (cL n (eh (C1 s t U T2) 0 false none)) (cL n (eC (C1 s t U T2) 0 false none)):=by
 have hC:=s9 h;obtain ⟨l2,i2,u2,p3,v3,hc,h0,hu2,hu6,hw,w1,w2,hd,hv,hk⟩:=hF.ex;rw[C6,C6];refine RZ.qJ (xI h hc (Int.le_refl 0) (by omega)) (λc hz=>?_) λr r' hr=>?_
 ·obtain ⟨l,p⟩:=c;obtain ⟨hp,hl⟩:=hz;dsimp only at hp hl;subst hp;refine Q.jn (λv=>HN s t U T2 v.1 v.2.2) (KF h) (λj hj=>?_);unfold FW;exact uM hC λu hu=>pJ hu (Q.br (λq=>by cases q) (λ_=>hj _ ⟨rfl,hl⟩))
 obtain ⟨l,p⟩:=r;obtain ⟨l',p'⟩:=r';have hr:HP s t U T2 i2 l2 p p' l l':=by
  rcases hr with ⟨i,g1,g2,g3,g4,g5⟩|⟨g1,g2⟩
  ·exact .inl ⟨i,g1,g2,g3,g4,g5⟩
  cases g1;cases g2;exact .inr ⟨rfl,rfl,rfl,rfl⟩
 refine RZ.Js (λv w=>HP s t U T2 i2 l2 v.1 w.1 v.2.2 w.2.2/\w.2.1.cb=v.2.1.cb) (λv=>HN s t U T2 v.1 v.2.2) (λv w hvw=>Lc h hF h0 hu2 w2 hd hv hk hvw.1 hvw.2) (KF h) (λj j' hj hN=>?_);unfold FW;dsimp only;rcases hr with ⟨i,rfl,rfl,rfl,h1,h2⟩|⟨rfl,rfl,rfl,rfl⟩
 ·by_cases hi:i<U.length
  ·refine mB hC hi λu u' hu hs=>?_;dsimp only;refine rF (.inl hs) λr=>RZ.br rfl (λ_=>?_) (λ_=>hj _ _ ⟨.inl ⟨i,rfl,rfl,rfl,h1,h2⟩,rfl⟩);rw[nx];refine RZ.gd λ_ _=>tu hC (by dsimp only;omega) λa5 x _ h5 hB5 _ _=>uN hC (by omega) hB5 λh6=>?_;dsimp only at hB5 h6;dsimp only;rw[tb,tb];refine RZ.qJ (xI h hc (a:=a5+1) (by omega) (by omega)) (λc hz=>?_) λr r' hr=>?_
   ·obtain ⟨l3,p⟩:=c;obtain ⟨hp,hl⟩:=hz;dsimp only at hp hl;subst hp;exact Q.gd (hN _ ⟨rfl,by simp[hl]⟩)
   obtain ⟨l3,p⟩:=r;obtain ⟨l3',p'⟩:=r';refine RZ.gd λ_ _=>?_;rcases hr with ⟨i,g1,g2,g3,g4,g5⟩|⟨g1,g2⟩
   ·dsimp only at g1 g2 g3;subst g1 g2 g3;exact hj _ _ ⟨.inl ⟨i,rfl,rfl,rfl,g4,g5⟩,rfl⟩
   cases g1;cases g2;by_cases hl:l'=[]
   ·subst hl;exact hj _ _ ⟨.inr ⟨rfl,rfl,rfl,rfl⟩,rfl⟩
   exact Q.rz (hN _ ⟨rfl,by simp[hl]⟩)
  obtain rfl:i=U.length:=by omega
  obtain ⟨u',hu',hw'⟩:=C5 h hF (x:=[112,97,99,107,97,103,101]) λ_ q _ _=>q;refine C7 hC (hu' n) hw' λu=>?_;exact RZ.br rfl (λq=>by cases q) (λ_=>hj _ _ ⟨.inl ⟨U.length,rfl,rfl,rfl,h1,h2⟩,rfl⟩)
 refine C7 hC (tT (u:=wC (s.length+1) u2) (a:=i2+((U++sg s U).length:Int)) (by omega) (BD h0 hu2)) w1 λu=>?_;exact RZ.br rfl (λq=>by cases q) (λ_=>hj _ _ ⟨.inr ⟨rfl,rfl,rfl,rfl⟩,rfl⟩)
end
end Go.Abs
end
section
namespace Go.Abs
open al
section
variable {m:Nat->Nat}
theorem yj (hm:di m) {l:List Bool} {x:Bool} (hl:l.length<=70000):Ev (λi=>gu (m i) l x) (λ_=>True) jm:=by
 unfold gu;refine Ev.aQ (Q:=λ_=>True) ?_ λy _=>Ev.ok trivial;unfold kS;refine Ev.iter hm (λ(x:Int)=>0<=x/\x<=l.length) (λx=>(l.length - x).toNat) (by omega) ?_;intro x hx next hn;refine Ev.aW (λ_=>?_) (λ_=>Ev.ok trivial);refine Ev.eA λt _=>Ev.br (λ_=>Ev.ok trivial) (λ_=>Ev.gA (hn _ (by omega) (by omega)))
theorem eg (hm:di m) {l:List Bool} {p:X} (hl:l.length<=70000):Ev (λi=>az (m i) l p) (λ_=>True) jm:=by
 unfold az;refine Ev.br (λ_=>Ev.ok trivial) (λ_=>Ev.aQ (yj hm hl) λy _=>Ev.ok trivial)
theorem yL (hm:di m) {l:iq}:Ev (λi=>lI (m i) l) (λ_=>True) jm:=by
 unfold lI;refine Ev.aQ (gK hm) λy _=>Ev.br (λ_=>Ev.aQ (gK hm) λy _=>Ev.br (λ_=>Ev.ok trivial) (λ_=>Ev.ok trivial)) (λ_=>Ev.ok trivial)
theorem o9 (hm:di m) {l:List ByS} (hl:l.length<=70000) (hs:∀ x,x∈l->x.length<=65536):Ev (λi=>eO (m i) l) (λ_=>True) jm:=by
 unfold eO ij;refine Ev.aQ (Q:=λ_=>True) ?_ λy _=>Ev.ok trivial;refine Ev.aQ (Q:=λ_=>True) ?_ λy _=>Ev.ok trivial;unfold iP;refine Ev.iter hm (λ(x:Int)=>0<=x/\x<=l.length) (λx=>(l.length - x).toNat) (by omega) ?_;intro x hx next hn;refine Ev.aW (λ_=>?_) (λ_=>Ev.ok trivial);refine Ev.eA λt ht=>?_;have:=hs t (List.mem_of_getElem? ht);refine Ev.aQ (Q:=λ_=>True) ?_ λy _=>Ev.br (λ_=>Ev.ok trivial) (λ_=>Ev.gA (hn _ (by omega) (by omega)));unfold o3;exact Ev.aQ (pH (by omega)) λy _=>Ev.ok trivial
theorem pL (hm:di m) {a b:ByS} (hb:b.length<=60000):Ev (λi=>iQ (m i) a b) (λ_=>True) jm:=by
 unfold iQ;refine Ev.br (λ_=>?_) (λ_=>Ev.ok trivial);exact Ev.aQ (xn (by simp) (by omega)) λy hy=>Ev.aQ (jk hm (by omega)) λz _=>Ev.ok trivial
theorem Aq {l:iq}:Ev (λ_=>nD l) (λ_=>True) jm:=Ev.ok trivial
theorem Ar (hm:di m) {e:ak} {p:X}:Ev (λi=>dh (m i) e p) (λ_=>True) jm:=by
 unfold dh;refine Ev.aQ (gK hm) λy _=>Ev.aQ (eg hm (by simp)) λy _=>?_;refine Ev.br (λ_=>Ev.aQ Aq λy _=>Ev.aQ (eg hm (by simp)) λy _=>Ev.ok trivial) (λ_=>?_);refine Ev.br (λ_=>Ev.aQ (eg hm (by simp)) λy _=>Ev.ok trivial) (λ_=>?_);refine Ev.jn (λ_=>True) (λv _=>Ev.br (λ_=>Ev.aQ (eg hm (by simp)) λy _=>Ev.ok trivial) (λ_=>Ev.aQ (eg hm (by simp)) λy _=>Ev.ok trivial)) (λj hj=>?_)
 (repeat' (with_reducible first|refine Ev.gA ?_|refine Ev.eA (λ_ _=>?_)|apply Ev.de|apply Ev.cR|(first|apply Ev.aW|apply Ev.bH|apply Ev.bU|apply Ev.bz|apply Ev.br)<;>intro _|(apply Ev.lk;try dsimp only)))
 all_goals exact hj _ trivial
theorem HS (hm:di m) {e:ak} {p:X}:Ev (λi=>ey (m i) e p) (λ_=>True) jm:=by
 unfold ey;have M:∀ {l:List Bool},l.length<=70000->Ev (λi=>al.bind (az (m i) l p) λy=>.ok y) (λ_=>True) jm:=λh=>Ev.aQ (eg hm h) λy _=>Ev.ok trivial;refine Ev.jn (λ_=>True) (λv _=>?_) (λj hj=>?_)
 ·refine Ev.br (λ_=>Ev.ok trivial) (λ_=>Ev.br (λ_=>M (by simp)) (λ_=>?_));refine Ev.jn (λ_=>True) (λv _=>?_) (λj hj=>?_)
  ·refine Ev.br (λ_=>M (by simp)) (λ_=>?_);refine Ev.jn (λ_=>True) (λv _=>?_) (λj hj=>?_)
   ·refine Ev.br (λ_=>M (by simp)) (λ_=>Ev.br (λ_=>Ev.br (λ_=>M (by simp)) (λ_=>M (by simp))) (λ_=>Ev.br (λ_=>M (by simp)) (λ_=>Ev.br (λ_=>M (by simp)) (λ_=>M (by simp)))))
   (repeat' (with_reducible first|refine Ev.gA ?_|refine Ev.eA (λ_ _=>?_)|apply Ev.de|apply Ev.cR|(first|apply Ev.aW|apply Ev.bH|apply Ev.bU|apply Ev.bz|apply Ev.br)<;>intro _|(apply Ev.lk;try dsimp only)))
   all_goals exact hj _ trivial
  (repeat' (with_reducible first|refine Ev.gA ?_|refine Ev.eA (λ_ _=>?_)|apply Ev.de|apply Ev.cR|(first|apply Ev.aW|apply Ev.bH|apply Ev.bU|apply Ev.bz|apply Ev.br)<;>intro _|(apply Ev.lk;try dsimp only)))
  all_goals exact hj _ trivial
 (repeat' (with_reducible first|refine Ev.gA ?_|refine Ev.eA (λ_ _=>?_)|apply Ev.de|apply Ev.cR|(first|apply Ev.aW|apply Ev.bH|apply Ev.bU|apply Ev.bz|apply Ev.br)<;>intro _|(apply Ev.lk;try dsimp only)))
 all_goals exact hj _ trivial
theorem HT (hm:di m) {e:ak} {p:X}:Ev (λi=>ez (m i) e p) (λ_=>True) jm:=by
 unfold ez;have M:∀ {l:List Bool},l.length<=70000->Ev (λi=>al.bind (az (m i) l p) λy=>.ok y) (λ_=>True) jm:=λh=>Ev.aQ (eg hm h) λy _=>Ev.ok trivial;refine Ev.jn (λ_=>True) (λv _=>?_) (λj hj=>?_)
 ·refine Ev.br (λ_=>Ev.ok trivial) (λ_=>?_);refine Ev.br (λ_=>Ev.aQ (pL hm (by simp)) λy _=>M (by simp)) (λ_=>?_);refine Ev.br (λ_=>Ev.aQ (pL hm (by simp)) λy _=>M (by simp)) (λ_=>?_);refine Ev.br (λ_=>Ev.aQ (pL hm (by simp)) λy _=>M (by simp)) (λ_=>?_);refine Ev.br (λ_=>Ev.aQ (pL hm (by simp)) λy _=>M (by simp)) (λ_=>?_);refine Ev.br (λ_=>Ev.aQ (gK hm) λy _=>M (by simp)) (λ_=>M (by simp))
 (repeat' (with_reducible first|refine Ev.gA ?_|refine Ev.eA (λ_ _=>?_)|apply Ev.de|apply Ev.cR|(first|apply Ev.aW|apply Ev.bH|apply Ev.bU|apply Ev.bz|apply Ev.br)<;>intro _|(apply Ev.lk;try dsimp only)))
 all_goals exact hj _ trivial
theorem JH (hm:di m) {e:ak} (he:kL e) {at_:aP} {p:X}:Ev (λi=>eU (m i) e at_ p) (λ_=>True) jm:=by
 unfold eU;have M:∀ {l:List Bool} {p:X},l.length<=70000->Ev (λi=>al.bind (az (m i) l p) λy=>.ok y) (λ_=>True) jm:=λh=>Ev.aQ (eg hm h) λy _=>Ev.ok trivial;have h2:=he.l2;have h3:=he.l3;refine Ev.jn (λ_=>True) (λv _=>?_) (λj hj=>?_)
 ·refine Ev.aQ (HS hm) λy _=>Ev.aQ (HT hm) λy _=>?_;refine Ev.jn (λ_=>True) (λv _=>?_) (λj hj=>Ev.br (λ_=>hj _ trivial) (λ_=>hj _ trivial));refine Ev.jn (λ_=>True) (λv _=>?_) (λj hj=>?_)
  ·refine Ev.jn (λ_=>True) (λv _=>?_) (λj hj=>?_)
   ·refine Ev.jn (λ_=>True) (λv _=>?_) (λj hj=>?_)
    ·refine Ev.jn (λ_=>True) (λv _=>?_) (λj hj=>?_)
     ·exact Ev.br (λ_=>Ev.br (λ_=>M (by simp)) (λ_=>M (by simp))) (λ_=>Ev.br (λ_=>M (by simp)) (λ_=>M (by simp)))
     exact Ev.br (λ_=>Ev.br (λ_=>Ev.aQ (eg hm (by simp)) λy _=>hj _ trivial) (λ_=>Ev.aQ (eg hm (by simp)) λy _=>hj _ trivial)) (λ_=>Ev.br (λ_=>Ev.aQ (eg hm (by simp)) λy _=>hj _ trivial) (λ_=>Ev.aQ (eg hm (by simp)) λy _=>hj _ trivial))
    exact Ev.br (λ_=>Ev.aQ (yL hm) λy _=>Ev.aQ (eg hm (by simp)) λy _=>hj _ trivial) (λ_=>Ev.aQ Aq λy _=>Ev.aQ (eg hm (by simp)) λy _=>hj _ trivial)
   refine Ev.br (λ_=>Ev.aQ (Ar hm) λy _=>Ev.ok trivial) (λ_=>?_);refine Ev.jn (λ_=>True) (λv _=>?_) (λj2 hj2=>Ev.br (λ_=>hj2 _ trivial) (λ_=>hj2 _ trivial));refine Ev.br (λ_=>Ev.br (λ_=>Ev.aQ (eg hm (by simp)) λy _=>hj _ trivial) (λ_=>Ev.aQ (eg hm (by simp)) λy _=>hj _ trivial)) (λ_=>?_);exact Ev.br (λ_=>Ev.aQ o5 λy _=>Ev.aQ (eg hm (by simp)) λy _=>hj _ trivial) (λ_=>Ev.aQ (eg hm (by simp)) λy _=>hj _ trivial)
  refine Ev.br (λ_=>Ev.aQ (o9 hm h3 he.l4) λy _=>Ev.aQ (eg hm (by simp)) λy _=>hj _ trivial) (λ_=>?_);refine Ev.gA (Ev.aQ (o9 hm h3 he.l4) λy _=>Ev.aQ (eg hm (by simp)) λy _=>hj _ trivial)
 exact Ev.br (λ_=>Ev.aQ (eg hm (by simp)) λy _=>hj _ trivial) (λ_=>Ev.aQ (eg hm (by simp)) λy _=>hj _ trivial)
end
structure SG (N:Nat):Prop where
 e:∀ {m:Nat->Nat} {x:ak} {at_:aP} {p:X},di m->kL x->2*SizeOf.sizeOf x<N->Ev (λi=>aM (m i) x at_ p) (λ_=>True) jm
 d:∀ {m:Nat->Nat} {x:aA} {t:Bool} {l:Int} {p:X},di m->lZ x->2*SizeOf.sizeOf x<N->Ev (λi=>dB (m i) x t l p) (λ_=>True) jm
theorem vD {N:Nat} (ih:SG N) {m:Nat->Nat} (hm:di m) {l:List aA} {t:Bool} {lv:Int} {p:X} (hl:l.length<=70000) (hs:∀ x,x∈l->lZ x/\2*SizeOf.sizeOf x<N):Ev (λi=>bM (m i) l t lv p) (λ_=>True) jm:=by
 refine Ev.grow (F:=λn=>bM n l t lv p) hm λm hm=>?_;show Ev (λi=>fH (m i) (aU (m i)) l t lv p) _ _;unfold fH;refine Ev.iter hm (λ(x:X×Int)=>0<=x.2/\x.2<=l.length) (λx=>(l.length - x.2).toNat) (by simp) ?_;intro x hx next hn;refine Ev.aW (λ_=>?_) (λ_=>Ev.ok trivial);refine Ev.eA λd hd=>?_;have:=hs d (List.mem_of_getElem? hd);exact Ev.aQ (ih.d hm this.1 this.2) λy _=>Ev.gA (hn _ (by dsimp only;omega) (by dsimp only;omega))
theorem JI:∀ N,SG N:=by
 intro N
 induction N with
 | zero=>exact ⟨λ_ _ h=>absurd h (Nat.not_lt_zero _),λ_ _ h=>absurd h (Nat.not_lt_zero _)⟩
 | succ N ih=>
  refine ⟨?_,?_⟩
  ·intro m x at_ p hm he hN;have hls:=he.l1;have hld:=he.l2;refine Ev.grow (F:=λn=>aM n x at_ p) hm λm hm=>?_;show Ev (λi=>fT (m i) (aU (m i)) x at_ p) _ _;unfold fT;refine Ev.jn (λ_=>True) (λv _=>?_) (λj hj=>Ev.aW (λ_=>hj _ trivial) (λ_=>hj _ trivial));refine Ev.aQ (JH hm he) λy _=>?_;refine Ev.iter hm (λ(w:X×Int)=>0<=w.2/\w.2<=x.bc.length) (λw=>(x.bc.length - w.2).toNat) (by simp) ?_;intro w hw next hn;refine Ev.aW (λ_=>?_) (λ_=>?_)
   ·refine Ev.jn (λ_=>True) (λv _=>Ev.gA (hn _ (by dsimp only;omega) (by dsimp only;omega))) (λj hj=>?_);refine Ev.eA λz hz=>?_;have hzm:=List.mem_of_getElem? hz;have hsz:=C0 hzm;have hE:∀ {at_:aP} {p:X},Ev (λi=>aM (m i) z at_ p) (λ_=>True) jm:=ih.e hm (he.s z hzm) (by omega);have hB:∀ {at_:aP} {p:X},Ev (λi=>al.bind ((aU (m i)).aM z at_ p) λy=>j i y) (λ_=>True) jm:=Ev.aQ hE λy _=>hj _ trivial;have hG:Ev (λi=>al.br (x.Kind==14) (al.br (x.kl==0) (.ok p) (.ok p)) (.ok p)) (λ_=>True) jm:=Ev.br (λ_=>Ev.br (λ_=>Ev.ok trivial) (λ_=>Ev.ok trivial)) (λ_=>Ev.ok trivial);refine Ev.br (λ_=>Ev.br (λ_=>Ev.br (λ_=>Ev.br (λ_=>hB) (λ_=>Ev.gA hB)) (λ_=>hB)) (λ_=>Ev.br (λ_=>Ev.br (λ_=>hB) (λ_=>Ev.gA hB)) (λ_=>hB)))
     (λ_=>Ev.br (λ_=>Ev.br (λ_=>hB) (λ_=>Ev.gA hB)) (λ_=>hB))
   exact Ev.aQ (vD ih hm hld λd hd=>⟨he.d d hd,by have:=BZ hd;omega⟩) λy _=>Ev.ok trivial
  ·intro m x t l p hm he hN;have hls:=he.l1;have hlb:=he.l2;have hlt:=he.l3;refine Ev.grow (F:=λn=>dB n x t l p) hm λm hm=>?_;show Ev (λi=>fS (m i) (aU (m i)) x t l p) _ _;unfold fS;refine Ev.jn (λ_=>True) (λv _=>?_) (λj hj=>Ev.aW (λ_=>hj _ trivial) (λ_=>hj _ trivial));refine Ev.jn (λ_=>True) (λv _=>?_) (λj hj=>Ev.bH (λ_=>hj _ trivial) (λ_=>hj _ trivial));refine Ev.jn (λ_=>True) (λv _=>?_) (λj hj=>Ev.aW (λ_=>Ev.aQ (eg hm (by simp)) λy _=>hj _ trivial) (λ_=>Ev.aQ (eg hm (by simp)) λy _=>hj _ trivial));refine Ev.jn (λ_=>True) (λv _=>?_) (λj hj=>?_)
   ·refine Ev.jn (λ_=>True) (λv _=>?_) (λj hj=>?_)
    ·refine Ev.jn (λ_=>True) (λv _=>?_) (λj hj=>?_)
     ·refine Ev.jn (λ_=>True) (λv _=>?_) (λj hj=>?_)
      ·refine Ev.jn (λ_=>True) (λv _=>?_) (λj hj=>Ev.br (λ_=>hj _ trivial) (λ_=>Ev.br (λ_=>hj _ trivial) (λ_=>hj _ trivial)));refine Ev.aQ (eg hm (by simp)) λy _=>?_;refine Ev.jn (λ_=>True) (λv _=>?_) (λj hj=>Ev.br (λ_=>hj _ trivial) (λ_=>Ev.br (λ_=>hj _ trivial) (λ_=>Ev.br (λ_=>hj _ trivial) (λ_=>hj _ trivial))));refine Ev.iter hm (λ(w:X×Int)=>0<=w.2/\w.2<=x.bc.length) (λw=>(x.bc.length - w.2).toNat) (by simp) ?_;intro w hw next hn;refine Ev.aW (λ_=>?_) (λ_=>?_)
       ·refine Ev.eA λz hz=>?_;have hzm:=List.mem_of_getElem? hz;have hsz:=Fh hzm;have hB:∀ {at_:aP} {p:X},Ev (λi=>al.bind ((aU (m i)).aM z at_ p) λy=>al.gd (dY (w.2+1)) (next i (y,w.2+1))) (λ_=>True) jm:=
         Ev.aQ (ih.e hm (he.s z hzm) (by omega)) λy _=>Ev.gA (hn _ (by dsimp only;omega) (by dsimp only;omega))
        exact Ev.br (λ_=>Ev.br (λ_=>hB) (λ_=>hB)) (λ_=>hB)
       exact Ev.aQ (vD ih hm hlb λd hd=>⟨he.d d hd,by have:=Fi hd;omega⟩) λy _=>Ev.ok trivial
      exact Ev.br (λ_=>Ev.aQ (yL hm) λy _=>Ev.aQ (eg hm (by simp)) λy _=>hj _ trivial) (λ_=>Ev.aQ Aq λy _=>Ev.aQ (eg hm (by simp)) λy _=>hj _ trivial)
     refine Ev.br (λ_=>hj _ trivial) (λ_=>Ev.br (λ_=>Ev.aQ (sY hm) λy _=>Ev.aQ (eg hm (by simp)) λy _=>hj _ trivial) (λ_=>?_));refine Ev.br (λ_=>Ev.aQ (gK hm) λy _=>Ev.aQ (eg hm (by simp)) λy _=>hj _ trivial) (λ_=>?_);exact Ev.br (λ_=>Ev.aQ (eg hm (by simp)) λy _=>hj _ trivial) (λ_=>Ev.aQ (eg hm (by simp)) λy _=>hj _ trivial)
    exact Ev.br (λ_=>Ev.aW (λ_=>Ev.aQ (eg hm (by simp)) λy _=>hj _ trivial) (λ_=>Ev.aQ (eg hm (by simp)) λy _=>hj _ trivial)) (λ_=>Ev.aQ (eg hm (by simp)) λy _=>hj _ trivial)
   refine Ev.aQ (o9 hm he.l5 he.l6) λy _=>Ev.aQ (o9 hm hlt he.l4) λy _=>Ev.aQ (o9 hm (by simp) (by simpa using he.l7)) λy _=>?_;exact Ev.br (λ_=>Ev.aQ (eg hm (by simp)) λy _=>hj _ trivial) (λ_=>Ev.gA (Ev.aQ (eg hm (by simp)) λy _=>hj _ trivial))
theorem FX {p:X}:Ev (λ_=>dG p) (λ_=>True) jm:=by
 unfold dG;exact Ev.br (λ_=>Ev.ok trivial) (λ_=>Ev.br (λ_=>Ev.ok trivial) (λ_=>Ev.ok trivial))
def QF (w d:Bool) (c c':X):Prop:=c'.nu=(c.nu||w)/\c'.deep=(c.deep||d)
section
variable {e e':ak} {m:Nat} {w d:Bool} {p p':X}
theorem vE {l:List Bool} (h:QF w d p p'):RS (QF w d) (az m l p) (az m l p'):=by
 obtain ⟨h1,h2⟩:=h;unfold az;rw[h1];cases p.nu with
 | true=>exact RS.ok ⟨rfl,h2⟩
 | false=>
  cases w with
  | false=>exact RS.same λy _=>RS.ok ⟨by simp,h2⟩
  | true=>
   intro a e
   cases hx:gu m l false with
   | stuck=>simp only[al.br,hx,al.bind] at e;cases e
   | kA _=>simp only[al.br,hx,al.bind] at e;cases e
   | ok y=>
    simp only[al.br,hx,al.bind] at e;cases e
    exact .inr ⟨_,rfl,by simp,h2⟩
theorem HU (h:EE e e') {p:X}:ey m e' p=ey m e p:=by
 have hx:=h.x;unfold ey;rw[hx.k,hx.n,hx.s.1]
theorem HV (h:EE e e') {p:X}:ez m e' p=ez m e p:=by
 have hx:=h.x;unfold ez;rw[hx.k,hx.t]
theorem JJ (h:EE e e') {p:X}:dh m e' p=dh m e p:=by
 have hx:=h.x;unfold dh;rw[hx.t,hx.n,hx.a,hx.b,hx.s.1]
theorem JK (h:EE e e') {q:aP} {p:X}:eU m e' q p=eU m e q p:=by
 have hx:=h.x;unfold eU;simp only[HU h,HV h,JJ h,hx.k,hx.n,hx.a,hx.b,hx.tl,<- hx.s.1,<- hx.d.1]
theorem JL (h:QF w d p p'):RS (QF w d) (ey m e p) (ey m e p'):=by
 unfold ey;repeat' (with_reducible first|exact hj _ _ (by assumption)|exact hj _ _ rfl|exact RS.ok (by assumption)|refine RS.jn (QF w d) (λv v' hv=>?_) (λj j' hj=>?_)|(refine RS.jn (λv v'=>v'=v) (λv v' hv=>?_) (λj j' hj=>?_);subst hv)|refine RS.br rfl (λ_=>?_) (λ_=>?_)|refine RS.gd λ_ _=>?_|refine RS.bind (vE (by assumption)) (λc c' hc=>?_)|refine RS.same λy _=>?_)
theorem JM (h:QF w d p p'):RS (QF w d) (ez m e p) (ez m e p'):=by
 unfold ez;repeat' (with_reducible first|exact hj _ _ (by assumption)|exact hj _ _ rfl|exact RS.ok (by assumption)|refine RS.jn (QF w d) (λv v' hv=>?_) (λj j' hj=>?_)|(refine RS.jn (λv v'=>v'=v) (λv v' hv=>?_) (λj j' hj=>?_);subst hv)|refine RS.br rfl (λ_=>?_) (λ_=>?_)|refine RS.gd λ_ _=>?_|refine RS.bind (vE (by assumption)) (λc c' hc=>?_)|refine RS.same λy _=>?_)
theorem KG (h:QF w d p p'):RS (QF w d) (dh m e p) (dh m e p'):=by
 unfold dh;repeat' (with_reducible first|exact hj _ _ (by assumption)|exact hj _ _ rfl|exact RS.ok (by assumption)|refine RS.jn (QF w d) (λv v' hv=>?_) (λj j' hj=>?_)|(refine RS.jn (λv v'=>v'=v) (λv v' hv=>?_) (λj j' hj=>?_);subst hv)|refine RS.br rfl (λ_=>?_) (λ_=>?_)|refine RS.gd λ_ _=>?_|refine RS.bind (vE (by assumption)) (λc c' hc=>?_)|refine RS.same λy _=>?_)
theorem KH {q:aP} (he:EE e e') (h:QF w d p p'):RS (QF w d) (eU m e q p) (eU m e' q p'):=by
 rw[JK he];unfold eU;repeat' (with_reducible first|exact hj _ _ (by assumption)|exact hj _ _ rfl|exact RS.ok (by assumption)|refine RS.jn (QF w d) (λv v' hv=>?_) (λj j' hj=>?_)|(refine RS.jn (λv v'=>v'=v) (λv v' hv=>?_) (λj j' hj=>?_);subst hv)|refine RS.br rfl (λ_=>?_) (λ_=>?_)|refine RS.gd λ_ _=>?_|refine RS.bind (vE (by assumption)) (λc c' hc=>?_)|refine RS.bind (JL (by assumption)) (λc c' hc=>?_)|refine RS.bind (JM (by assumption)) (λc c' hc=>?_)|refine RS.bind (KG (by assumption)) (λc c' hc=>?_)|refine RS.same λy _=>?_)
end
structure CQ (n:Nat):Prop where
 e:∀ {w d:Bool} {e e':ak} {q:aP} {p p':X},EE e e'->QF w d p p'->RS (QF w d) (aM n e q p) (aM n e' q p')
 d:∀ {w d:Bool} {x x':aA} {z:Bool} {l:Int} {p p':X},DD x x'->QF w d p p'->RS (QF w d) (dB n x z l p) (dB n x' z l p')
 l:∀ {w d:Bool} {x x':List aA} {z:Bool} {l:Int} {p p':X},LR DD x x'->QF w d p p'->RS (QF w d) (bM n x z l p) (bM n x' z l p')
theorem FY:∀ n,CQ n:=by
 intro n
 induction n with
 | zero=>constructor<;>(intros;exact RS.nil)
 | succ n ih=>
  refine ⟨?_,?_,?_⟩
  ·intro w d e e' q p p' he hp;have hx:=he.x;show RS (QF w d) (fT n (aU n) e q p) (fT n (aU n) e' q p');unfold fT;simp only[hx.k,hx.n,<- hx.s.1];refine RS.jn (QF w d) (λv v' hv=>RS.bind (KH he hv) λy y' hy=>?_) (λj j' hj=>RS.br rfl (λ_=>hj _ _ ⟨hp.1,rfl⟩) (λ_=>hj _ _ hp));refine RS.iter (λ(v w':X×Int)=>QF w d v.1 w'.1/\w'.2=v.2) (λv w' h next next' hn=>?_) _ _ ⟨hy,rfl⟩;obtain ⟨c,i⟩:=v;obtain ⟨c',i'⟩:=w';obtain ⟨hc,h⟩:=h;dsimp only at hc h;subst h;dsimp only;refine RS.br rfl (λ_=>RS.jn (QF w d) (λv v' hv=>RS.gd λ_ _=>hn _ _ ⟨hv,rfl⟩) λj j' hj=>?_) (λ_=>RS.bind (ih.l hx.d hc) λy y' hy=>RS.ok hy);refine RS.el λx x' _ _ hx1 hx2=>?_;have hxx:=hx.s.2 _ _ _ hx1 hx2;have A:∀ {q:aP},RS (QF w d) (al.bind ((aU n).aM x q c) λy=>j y) (al.bind ((aU n).aM x' q c') λy=>j' y):=λ{q}=>RS.bind (ih.e hxx hc) hj;repeat' (first|exact A|refine RS.br rfl (λ_=>?_) (λ_=>?_)|refine RS.gd λ_ _=>?_)
  ·intro w d x x' z l p p' hd h;have hx:=hd.x;show RS (QF w d) (fS n (aU n) x z l p) (fS n (aU n) x' z l p');unfold fS;simp only[hx.k,hx.p,hx.t,hx.a,hx.b,hx.tl,hx.ld,hx.tr,<- hx.s.1,<- hx.d.1];refine RS.jn (QF w d) (λv v' hv=>?_) (λj j' hj=>RS.br rfl (λ_=>hj _ _ ⟨h.1,rfl⟩) (λ_=>hj _ _ h));have A:∀ {x x':ak} {q:aP} {c c':X},EE x x'->QF w d c c'->RS (QF w d) ((aU n).aM x q c) ((aU n).aM x' q c'):=λhe hc=>ih.e he hc;have L:∀ {y:Int} {c c':X},QF w d c c'->RS (QF w d) ((aU n).bM x.Body false y c) ((aU n).bM x'.Body false y c'):=λhc=>ih.l hx.d hc;repeat' (with_reducible first|exact hj _ _ (by assumption)|exact hj _ _ rfl|exact RS.ok (by assumption)|refine RS.jn (QF w d) (λv v' hv=>?_) (λj j' hj=>?_)|(refine RS.jn (λv v'=>v'=v) (λv v' hv=>?_) (λj j' hj=>?_);subst hv)|refine RS.br rfl (λ_=>?_) (λ_=>?_)|refine RS.gd λ_ _=>?_|refine RS.bind (vE (by assumption)) (λc c' hc=>?_)|(refine RS.iter (λ(v w':X×Int)=>QF w d v.1 w'.1/\w'.2=v.2) (λv w' h next next' hn=>?_) _ _ ⟨by assumption,rfl⟩;obtain ⟨c,i⟩:=v;obtain ⟨c',i'⟩:=w';obtain ⟨hc,h⟩:=h;dsimp only at hc h;subst h;dsimp only)|refine RS.el λx x' _ _ hx1 hx2=>?_|refine RS.same λy _=>?_)
   all_goals first|exact RS.bind (L (by assumption)) λy y' hy=>RS.ok hy|exact RS.bind (A (hx.s.2 _ _ _ hx1 hx2) (by assumption)) λy y' hy=>RS.gd λ_ _=>hn _ _ ⟨hy,rfl⟩
  ·intro w d x x' z l p p' hd hp;show RS (QF w d) (fH n (aU n) x z l p) (fH n (aU n) x' z l p');unfold fH;simp only[<- hd.1];refine RS.iter (λ(v w':X×Int)=>QF w d v.1 w'.1/\w'.2=v.2) (λv w' h next next' hn=>?_) _ _ ⟨hp,rfl⟩;obtain ⟨c,i⟩:=v;obtain ⟨c',i'⟩:=w';obtain ⟨hc,h⟩:=h;dsimp only at hc h;subst h;dsimp only;exact RS.br rfl (λ_=>RS.el λx x' _ _ hx1 hx2=>RS.bind (ih.d (hd.2 _ _ _ hx1 hx2) hc) λy y' hy=>RS.gd λ_ _=>hn _ _ ⟨hy,rfl⟩) (λ_=>RS.ok hc)
section
variable {s:ByS} {T:List aB} {b:Int} {m:Nat->Nat} {a:Int} {k:Bool} {q:Option ak}
theorem vV (hC:PC s T b) (hm:di m) (h0:0<=a) (h1:a<T.length) (_:QS q) :
  Ev (λi=>cl (m i) (cI s T a b k q)) (λr=>∃ a',r.2=cI s T a' b k q/\a<=a'/\a'<T.length/\(r.1.length:Int)<=a' - a/\∀ x,x∈r.1->x.length<=65536) (PP (b+s.length)):=by
 unfold cl
 have hl:=hC.l9
 refine Ev.iter hm (λ(x:L×List ByS)=>∃ a',x.1=cI s T a' b k q/\a<=a'/\a'<T.length/\(x.2.length:Int)<=a' - a/\∀ z,z∈x.2->z.length<=65536) (λx=>(T.length - x.1.at_).toNat) ⟨a,rfl,by omega,h1,by simp,by simp⟩ ?_
 rintro ⟨p,l⟩ ⟨a1,hp,h2,h3,h4,h5⟩ next hn
 dsimp only at hp h4 h5;subst hp;dsimp only at hn ⊢
 refine fI hm hC (by omega) h3 λa2 t h6 h7 ht h8 _=>?_
 dsimp only
 refine Ev.bH (λhk=>?_) (λ_=>Ev.ok ⟨a2,rfl,by omega,h7,by dsimp only;omega,h5⟩)
 have hnx:=hC.next (by omega) ht (by omega)
 have htt:=(hC.tok ht).2.2.2.1
 refine Ev.jn (λv=>v=cI s T a2 b k q) (λv hv=>?_) (λj hj=>?_)
 ·subst hv
  refine fI hm hC (by omega) h7 λa3 t3 h8 h9 ht3 h10 e3=>?_
  have e3:=e3 t ht (λ_=>by omega)
  subst e3
  rw[ht] at ht3;cases ht3
  dsimp only
  refine Ev.gA (Ev.gA (hn _ ⟨a3+1,rfl,by omega,by omega,by simp;omega,λz hz=>?_⟩ (by dsimp only;omega)))
  rcases List.mem_append.1 hz with w|w
  ·exact h5 z w
  ·simp at w;subst w;exact htt
 ·refine Ev.fX (rV hm hC (by omega) h7) λr hr=>?_
  obtain ⟨x,p⟩:=r
  dsimp only at hr;subst hr
  exact Ev.bz (λ_=>iI hm hC (by omega) h7 (by omega)) (λ_=>hj _ rfl)
theorem uO (hC:PC s T b) (hm:di m) (h0:0<=a) (h1:a<T.length) :
  Ev (λi=>c7 (m i) (cI s T a b k q)) (λr=>∃ a',r=cI s T a' b k q/\a<a'/\a'<T.length) (PP (b+s.length)):=by
 unfold c7
 have hl:=hC.l9
 refine Ev.jn (λv=>∃ a',v=cI s T a' b k q/\a<=a'/\a'+1<T.length) (λv hv=>?_) (λj hj=>?_)
 ·obtain ⟨a',rfl,h2,h3⟩:=hv
  exact Ev.gA (Ev.ok ⟨a'+1,rfl,by omega,by omega⟩)
 ·refine fI hm hC h0 h1 λa2 t h6 h7 ht h8 _=>?_
  dsimp only
  refine Ev.bU (λ_=>?_) (λhk=>hj _ ⟨a2,rfl,h6,hC.next (by omega) ht (by omega)⟩)
  refine fI hm hC (by omega) h7 λa3 t3 h8 h9 ht3 h10 e3=>?_
  dsimp only
  exact jZ λr hr _=>Ev.bz (λ_=>iI hm hC (by omega) h9 (by omega)) (λhr1=>hj _ ⟨a3,rfl,by omega,hC.next (by omega) ht3 (by have:=(hr hr1).1;omega)⟩)
theorem HW {l:ByS} {c:UInt8}:0<=Lib.lastIndex l [c]+1/\Lib.lastIndex l [c]+1<=l.length:=by
 unfold Lib.lastIndex;split
 ·rename_i h;simp at h;rcases Lib.lastOcc_spec l [c] (l.length - [c].length+1) with ⟨h,_⟩|⟨i,h1,h2,_⟩
  ·rw[h];omega
  rw[h2];simp at h1;omega
 omega
theorem BE (hC:PC s T b) (hm:di m) (h0:0<=a) (h1:a<T.length) {t:aB} (ht:T[a.toNat]?=some t) (hk:t.Kind=1) :
  Ev (λi=>cV (m i) (cI s T a b k q)) (λr=>∃ a',r.2=cI s T a' b k q/\a<a'/\a'<T.length) (PP (b+s.length)):=by
 unfold cV
 have hl:=hC.l9
 have hnx:=hC.next h0 ht (by omega)
 refine lD hm hC h0 h1 λa2 t2 v h2 h3 _ e2 _ _ _=>?_
 have e2:=e2 t ht (λ_=>by omega)
 subst e2
 dsimp only
 refine Ev.gA ?_
 refine Ev.jn (λv=>∃ a',v.1=cI s T a' b k q/\a2<a'/\a'<T.length) (λv hv=>?_) (λj hj=>?_)
 ·obtain ⟨p,x⟩:=v
  obtain ⟨a3,hp,h4,h5⟩:=hv
  dsimp only at hp;subst hp;dsimp only
  refine fI hm hC (by omega) h5 λa4 t4 h6 h7 ht4 h8 _=>?_
  dsimp only
  refine Ev.jn (λv=>v=cI s T a4 b k q/\t4.Kind=3) (λv hv=>?_) (λj hj=>?_)
  ·obtain ⟨rfl,hk4⟩:=hv
   have hnx4:=hC.next (by omega) ht4 (by omega)
   have htt:=(hC.tok ht4).2.2.2.1
   refine Ev.jn (λv=>v.1=cI s T a4 b k q) (λv hv=>?_) (λj hj=>?_)
   ·obtain ⟨p,x⟩:=v
    dsimp only at hv;subst hv;dsimp only
    refine Ev.gA (Ev.aQ (uO hC hm (by omega) hnx4) λr hr=>?_)
    obtain ⟨a5,rfl,h9,h10⟩:=hr
    exact Ev.ok ⟨a5,rfl,by omega,h10⟩
   ·refine Ev.bH (λ_=>?_) (λ_=>hj _ rfl)
    refine Ev.fX (Q:=λ(r:Int)=>0<=r+1/\r+1<=t4.Text.length) ?_ λr hr=>?_
    ·unfold strings_LastIndex
     exact Ev.gA (Ev.ok HW)
    ·refine Ev.gA (Ev.gd hr (Ev.fX (gK hm) λy _=>?_))
     exact Ev.bz (λ_=>iI hm hC (by omega) h7 (by omega)) (λ_=>hj _ rfl)
  ·exact Ev.bU (λ_=>iI hm hC (by omega) h7 (by omega)) (λhk=>hj _ ⟨rfl,hk⟩)
 ·refine fI hm hC (by omega) hnx λa4 t4 h6 h7 ht4 h8 _=>?_
  dsimp only
  refine Ev.bH (λ_=>?_) (λ_=>hj _ ⟨a4,rfl,by omega,h7⟩)
  refine tq hm hC (by omega) h7 (by omega) λa5 x h9 h10=>?_
  exact hj _ ⟨a5,rfl,by omega,h10⟩
structure JZ (f:cu):Prop where
 im:f.bo.length<=70000
 dl:f.Decls.length<=70000
 ds:∀ d,d∈f.Decls->lZ d
 tl:f.bT.length<=70000
 ts:∀ x,x∈f.bT->x.length<=65536
theorem HX (hC:PC s T b) (hX:vB s b) (hm:di m) (h0:0<=a) (h1:a<T.length) (hq:QS q) :
  Ev (λi=>cL (m i) (cI s T a b k q)) (λr=>JZ r.1) (PP (b+s.length)):=by
 unfold cL
 have hl:=hC.l9
 refine Ev.aQ (vV hC hm h0 h1 hq) λr hr=>?_
 obtain ⟨lead,p⟩:=r
 obtain ⟨a1,hp,h2,h3,h4,h5⟩:=hr
 dsimp only at hp h4 h5;subst hp;dsimp only
 refine Ev.jn (λv=>∃ a',v.1=cI s T a' b k q/\a<=a'/\a'<T.length/\(v.2.2.length:Int)<=a' - a/\∀ x,x∈v.2.2->x.length<=65536) (λv hv=>?_) (λj hj=>?_)
 ·obtain ⟨p,f,lead⟩:=v
  obtain ⟨a2,hp,h6,h7,h8,h9⟩:=hv
  dsimp only at hp h8 h9;subst hp;dsimp only
  refine Ev.jn (λv=>∃ a',v.1=cI s T a' b k q/\a2<=a'/\a'<T.length/\v.2.bo.length<=70000) (λv hv=>?_) (λj hj=>?_)
  ·obtain ⟨p,f⟩:=v
   obtain ⟨a3,hp,h10,h11,h12⟩:=hv
   dsimp only at hp h12;subst hp;dsimp only
   refine Ev.aQ (Bx hC hm (by omega) h11 hq (by omega) h9 λhm2 ha h2 hq2 ht hk hk7=>(Fp hC hX _).decl hm2 (by omega) h2 hq2 ht hk hk7 (Nat.lt_succ_self _)) λr hr=>?_
   obtain ⟨ds,tl,p⟩:=r
   obtain ⟨⟨a4,q4,hp,h13,h14,hq4⟩,g1,g2,g3,g4⟩:=hr
   dsimp only at hp g1 g2 g3 g4;subst hp;dsimp only
   refine fI hm hC (by omega) (by omega) λa5 t h15 h16 _ _ _=>?_
   dsimp only
   exact Ev.bU (λ_=>iI hm hC (by omega) h16 (by omega)) (λ_=>Ev.ok ⟨h12,g1,g2,g3,g4⟩)
  ·refine Ev.iter hm (λ(x:L×cu)=>∃ a',x.1=cI s T a' b k q/\a2<=a'/\a'<T.length/\(x.2.bo.length:Int)<=a') (λx=>(T.length - x.1.at_).toNat) ⟨a2,rfl,by omega,h7,by simp;omega⟩ ?_
   rintro ⟨p,f⟩ ⟨a3,hp,h10,h11,h12⟩ next hn
   dsimp only at hp h12;subst hp;dsimp only at hn ⊢
   refine fI hm hC (by omega) h11 λa4 t h13 h14 ht _ _=>?_
   dsimp only
   have hI:∀ {K:Nat->bY×L->al (cu×L)},t.Kind=1->(∀ a' x,a4<a'->a'<T.length->Ev (λi=>K i (x,cI s T a' b k q)) (λr=>JZ r.1) (PP (b+s.length)))->Ev (λi=>al.bind (cV (m i) (cI s T a4 b k q)) (K i)) (λr=>JZ r.1) (PP (b+s.length)):=by
    intro K hk hK
    refine Ev.aQ (BE hC hm (by omega) h14 ht hk) λr hr=>?_
    obtain ⟨x,p⟩:=r
    obtain ⟨a5,hp,h15,h16⟩:=hr
    dsimp only at hp;subst hp
    exact hK a5 x h15 h16
   refine oD λr hr _=>Ev.br (λhr1=>?_) (λ_=>hj _ ⟨a4,rfl,by omega,h14,by dsimp only;omega⟩)
   have hk:=(hr hr1).1
   refine Ev.bH (λh0=>?_) (λh0=>?_)
   ·refine hI hk λa5 x h15 h16=>?_
    dsimp only
    exact Ev.gA (hn _ ⟨a5,rfl,by omega,h16,by simp;omega⟩ (by dsimp only;omega))
   ·refine Ev.gA (Ev.eA λu _=>Ev.bU (λ_=>?_) (λ_=>hj _ ⟨a4,rfl,by omega,h14,by dsimp only;omega⟩))
    refine hI hk λa5 x h15 h16=>?_
    dsimp only
    exact Ev.gA (hn _ ⟨a5,rfl,by omega,h16,by simp;omega⟩ (by dsimp only;omega))
 ·refine fI hm hC (by omega) h3 λa4 t h13 h14 ht _ _=>?_
  dsimp only
  refine oD λr hr _=>Ev.br (λhr1=>?_) (λ_=>hj _ ⟨a4,rfl,by omega,h14,by dsimp only;omega,h5⟩)
  have hk:=(hr hr1).1
  have hnx:=hC.next (by omega) ht (by omega)
  refine Ev.gA (tq hm hC (by omega) hnx (by omega) λa5 x h15 h16=>?_)
  dsimp only
  refine Ev.aQ (uO hC hm (by omega) h16) λr hr=>?_
  obtain ⟨a6,rfl,h17,h18⟩:=hr
  refine Ev.aQ (vV hC hm (by omega) h18 hq) λr hr=>?_
  obtain ⟨l2,p⟩:=r
  obtain ⟨a7,hp,h19,h20,h21,h22⟩:=hr
  dsimp only at hp h21 h22;subst hp;dsimp only
  refine Ev.gA (hj _ ⟨a7,rfl,by omega,h20,by simp;omega,λz hz=>?_⟩)
  rcases List.mem_append.1 hz with w|w
  ·exact h5 z w
  ·exact h22 z w
end
theorem FZ {m:Nat->Nat} (hm:di m) {f:cu} (hf:JZ f):Ev (λi=>eo (m i) f) (λ_=>True) jm:=by
 unfold eo;have hi:=hf.im;refine Ev.jn (λ_=>True) (λv _=>?_) (λj hj=>?_)
 ·refine Ev.iter hm (λ(x:X×Int)=>0<=x.2/\x.2<=f.bo.length) (λx=>(f.bo.length - x.2).toNat) (by simp) ?_;intro x hx next hn;refine Ev.aW (λ_=>?_) (λ_=>?_)
  ·refine Ev.eA λd hd=>Ev.aQ (gK hm) λy _=>Ev.aQ (eg hm (by simp)) λy _=>Ev.gA (hn _ (by dsimp only;omega) (by dsimp only;omega))
  exact Ev.aQ (vD (JI (2*SizeOf.sizeOf f.Decls+1)) hm hf.dl λd hd=>⟨hf.ds d hd,by have:=List.sizeOf_lt_of_mem hd;omega⟩) λy _=>Ev.aQ FX λy _=>Ev.ok trivial
 refine Ev.br (λ_=>?_) (λ_=>?_)
 ·exact Ev.aQ (o9 hm hf.tl hf.ts) λy _=>Ev.aQ (eg hm (by simp)) λy _=>hj _ trivial
 exact Ev.aQ (gK hm) λy _=>Ev.aQ (o9 hm hf.tl hf.ts) λy _=>Ev.aQ (eg hm (by simp)) λy _=>hj _ trivial
def Ld:cu:=cu.mk [] [] [] []
theorem pa {m:Nat->Nat} (hm:di m) {s:ByS}:Ev (λi=>dx (m i) s) (λr=>0<=r.2.At/\r.2.At<=s.length/\(r.2.Errno=0->r.2.At=0/\JZ r.1)/\(r.2.Errno≠0->r.1=Ld)) jm:=by
 unfold dx;refine Ev.aQ (pZ hm) λy hy=>?_;refine Ev.bU (λhe=>Ev.ok ⟨hy.1,hy.2.1,λh=>absurd h he,λ_=>rfl⟩) (λhe=>?_);have hT:=(hy.2.2 he).2;have hC:PC s y.1 0:=⟨hT,by simp,by have:=hT.Lt;omega⟩;have hX:vB s 0:=B2 hC.bs;have hp:=hC.pos;refine Ev.A7 (R':=PP (0+s.length)) ?_ ?_
 ·refine Ev.aQ (HX hC hX hm (Int.le_refl _) (by omega) .none) λr hr=>?_;refine Ev.fX (FZ hm hr) λz _=>?_;refine Ev.br (λ_=>Ev.ok ⟨by simp,by simp,by simp,λ_=>rfl⟩) (λ_=>Ev.ok ⟨by simp,by simp,λ_=>⟨rfl,hr⟩,by simp⟩)
 rintro p ⟨v,rfl,h1,h2⟩;refine Ev.sC ?_;unfold jB kI;exact Ev.ok ⟨h1,by simp;omega,by simp,λ_=>rfl⟩
theorem oE {m:Nat->Nat} (hm:di m) {l:List ByS} (hl:l.length<=70000):Ev (λi=>iR (m i) l l) (λr=>r=true) jm:=by
 unfold iR;refine Ev.bU (λh=>absurd rfl h) (λ_=>?_);refine Ev.iter hm (λ(v:Int)=>0<=v/\v<=l.length) (λv=>(l.length - v).toNat) (by omega) ?_;intro v hv next hn;refine Ev.aW (λh=>Ev.eA λx hx=>Ev.JV (by omega) hx (Ev.bU (λh=>absurd rfl h) (λ_=>Ev.gA (hn _ (by omega) (by omega))))) (λ_=>Ev.ok rfl)
structure Ly (N:Nat):Prop where
 e:∀ {m:Nat->Nat} {e e':ak},di m->SizeOf.sizeOf e<N->kL e->EE e e'->Ev (λi=>gv (m i) e' e) (λr=>r=true) jm
 d:∀ {m:Nat->Nat} {l l':List aA},di m->(∀ d,d∈l->SizeOf.sizeOf d<N)->l.length<=70000->(∀ d,d∈l->lZ d)->LR DD l l'->Ev (λi=>dR (m i) l' l) (λr=>r=true) jm
theorem F0 {α X Y:Type} {R:X->Y->Prop} {l:List X} {l':List Y} (h:LR R l l') {v:Int} (h0:0<=v) (h1:v<l'.length) {K:Nat->Y->X->al α} {Q:α->Prop} {P:rW->Prop}
  (hk:∀ x y,x∈l->R x y->Ev (λi=>K i y x) Q P):Ev (λi=>al.el l' v λy=>al.el l v λx=>K i y x) Q P:=by
 have e:=h.1
 refine Ev.el h0 (by omega) λy hy=>Ev.el h0 (by omega) λx hx=>hk x y (List.mem_of_getElem? hx) (h.2 _ _ _ hx hy)
theorem HY:∀ N,Ly N:=by
 intro N
 induction N with
 | zero=>exact ⟨λ_ h=>absurd h (Nat.not_lt_zero _),λ{m l l'} hm hN _ _ hR=>by
  have:l=[]:=by
   cases l with
   | nil=>rfl
   | cons d l=>exact absurd (hN d (by simp)) (Nat.not_lt_zero _)
  subst this;have:l'=[]:=List.eq_nil_of_length_eq_zero (by rw[<- hR.1];rfl);subst this;refine Ev.grow (F:=λn=>dR n [] []) hm λm hm=>?_;show Ev (λi=>iw (m i) (eW (m i)) [] []) _ _;unfold iw;refine Ev.bU (λh=>absurd rfl h) (λ_=>?_);refine Ev.iter hm (λ(v:Int)=>v=0) (λ_=>0) rfl ?_;rintro v rfl next hn;exact Ev.aW (λh=>by simp at h) (λ_=>Ev.ok rfl)⟩
 | succ N ih=>
  refine ⟨λ{m e e'} hm hN hs hR=>?_,λ{m l l'} hm hN hl hs hR=>?_⟩
  ·refine Ev.grow (F:=λn=>gv n e' e) hm λm hm=>?_;show Ev (λi=>kV (m i) (eW (m i)) e' e) _ _;unfold kV;have hx:=hR.x;have hl1:=hs.l1;have e1:=hx.s.1;rw[hx.k,hx.t,hx.n,hx.a,hx.b,hx.tl];refine Ev.bU (λh=>absurd rfl h) (λ_=>Ev.bU (λh=>absurd rfl h) (λ_=>Ev.bU (λh=>absurd rfl h) (λ_=>Ev.br (λh=>by simp at h) (λ_=>Ev.bU (λh=>absurd (by rw[e1]) h) (λ_=>?_)))));refine Ev.bind (oE hm hs.l3) (λ_ q=>q) λy hy=>?_;subst hy;refine Ev.cR (Ev.iter hm (λ(v:Int)=>0<=v/\v<=e'.bc.length) (λv=>(e'.bc.length - v).toNat) (by omega) ?_);intro v hv next hn;refine Ev.aW (λh=>F0 hx.s (by omega) h λx x' hm1 hxx=>?_) (λ_=>?_)
   ·refine Ev.bind (ih.e hm (by have:=C0 hm1;omega) (hs.s _ hm1) hxx) (λ_ q=>q) λy hy=>?_;subst hy;exact Ev.cR (Ev.gA (hn _ (by omega) (by omega)))
   exact Ev.bind (ih.d hm (λd hd=>by have:=BZ hd;omega) hs.l2 hs.d hx.d) (λ_ q=>q) λy hy=>Ev.ok hy
  ·refine Ev.grow (F:=λn=>dR n l' l) hm λm hm=>?_;show Ev (λi=>iw (m i) (eW (m i)) l' l) _ _;unfold iw;have e1:=hR.1;refine Ev.bU (λh=>absurd (by rw[e1]) h) (λ_=>?_);refine Ev.iter hm (λ(v:Int)=>0<=v/\v<=l'.length) (λv=>(l'.length - v).toNat) (by omega) ?_;intro v hv next hn;refine Ev.aW (λh=>F0 hR (by omega) h λd d' hd1 hdd=>?_) (λ_=>Ev.ok rfl);have hx:=hdd.x;have hds:=hs _ hd1;have hdN:=hN _ hd1;have e2:=hx.s.1;have hl1:=hds.l1;rw[hx.k,hx.p,hx.t,hx.a,hx.b,hx.tr,hx.ld,hx.tl];refine Ev.bU (λh=>absurd rfl h) (λ_=>Ev.bU (λh=>absurd rfl h) (λ_=>Ev.bU (λh=>absurd rfl h) (λ_=>Ev.br (λh=>by simp at h) (λ_=>Ev.bU (λh=>absurd rfl h) (λ_=>Ev.bU (λh=>absurd (by rw[e2]) h) (λ_=>?_))))));refine Ev.bind (oE hm hds.l5) (λ_ q=>q) λy hy=>?_;subst hy;refine Ev.cR (Ev.bind (oE hm hds.l3) (λ_ q=>q) λy hy=>?_);subst hy;refine Ev.cR (Ev.bind (ih.d hm (λd hd=>by have:=Fi hd;omega) hds.l2 hds.d hx.d) (λ_ q=>q) λy hy=>?_);subst hy;refine Ev.cR (Ev.iter hm (λ(w:Int)=>0<=w/\w<=d'.bc.length) (λw=>(d'.bc.length - w).toNat) (by omega) ?_);intro w hw next2 hn2;refine Ev.aW (λh=>F0 hx.s (by omega) h λx x' hm1 hxx=>?_) (λ_=>?_)
   ·refine Ev.bind (ih.e hm (by have:=Fh hm1;omega) (hds.s _ hm1) hxx) (λ_ q=>q) λy hy=>?_;subst hy;exact Ev.cR (Ev.gA (hn2 _ (by omega) (by omega)))
   exact Ev.gA (hn _ (by omega) (by omega))
section
variable {m:Nat->Nat}
theorem F1 (hm:di m) {f f':cu} (hf:JZ f) (h:FE f f'):Ev (λi=>pG (m i) f' f) (λr=>r=true) jm:=by
 unfold pG;have hi:=hf.im;have hl:=h.i.1;rw[h.p,h.t];refine Ev.bU (λq=>absurd rfl q) (λ_=>Ev.bU (λq=>by omega) (λ_=>Ev.aQ (oE hm hf.tl) λy hy=>?_));subst hy;refine Ev.cR (Ev.iter hm (λ(v:Int)=>0<=v/\v<=f'.bo.length) (λv=>(f'.bo.length - v).toNat) (by omega) ?_);intro v hv next hn;refine Ev.aW (λhlt=>?_) (λ_=>Ev.aQ ((HY _).d hm (λd hd=>Nat.lt_succ_of_lt (List.sizeOf_lt_of_mem hd)) hf.dl hf.ds h.d) λy hy=>Ev.ok hy);obtain ⟨x,hx⟩:∃ x,f.bo[v.toNat]?=some x:=⟨_,List.getElem?_eq_getElem (by omega)⟩;obtain ⟨x',tw⟩:∃ x,f'.bo[v.toNat]?=some x:=⟨_,List.getElem?_eq_getElem (by omega)⟩;have hxx:=h.i.2 _ _ _ hx tw;refine Ev.JV hv.1 tw (Ev.JV hv.1 hx (Ev.bU (λq=>absurd hxx.1 q) (λ_=>Ev.JV hv.1 tw (Ev.JV hv.1 hx (Ev.bU (λq=>absurd hxx.2 q) (λ_=>Ev.gA (hn _ (by omega) (by omega))))))))
end
section
variable {n:Nat}
theorem ke {α β:Type} {x:al α} {f:α->al β} {r:β} (e:al.bind x f=.ok r):∃ c,x=.ok c/\f c=.ok r:=by
 cases x with
 | stuck=>cases e
 | kA _=>cases e
 | ok c=>exact ⟨c,rfl,e⟩
theorem JN {x y:Bool}:Tk (gu n [x,y] false) (!x||!y):=by
 unfold gu kS;cases x<;>cases y<;>rcases n with _|_|_|n<;>first|exact .inr rfl|exact .inl rfl
theorem C8 {x y d:Bool}:Tk (az n [x,y] ⟨false,d⟩) ⟨!x||!y,d⟩:=by
 unfold az;exact SE.bind JN SE.rfl
theorem JO:Tk (eO n []) true:=by
 unfold eO ij iP;cases n with
 | zero=>exact .inl rfl
 | succ n=>exact .inr rfl
theorem Tk.Le {α:Type} {x:al α} {a b:α} (h:Tk x a) (e:x=.ok b):b=a:=by
 rcases h with h|h
 ·rw[h] at e;cases e
 rw[h] at e;cases e;rfl
def AA (n:Nat) (l:List aA):(X×Int->al X)->X×Int->al X:=
 λnext3 v2=>br (decide (v2.2<(List.length l:Int))) (el l v2.2 λG7=>al.bind (dB n G7 true 1 v2.1) λy14=>gd (dY (v2.2+1)) (next3 (y14,v2.2+1))) (.ok (v2.1))
theorem Is (l:List aA) (p:X):bM (n+1) l true 1 p=al.iter (AA n l) n (p,0):=rfl
theorem F3 {l:List aA} {next:X×Int->al X} {c:X} {i:Int} {x:aA} (h0:0<=i) (h:i<l.length) (hx:l[i.toNat]?=some x):AA n l next (c,i)=al.bind (dB n x true 1 c) λy=>gd (dY (i+1)) (next (y,i+1)):=by
 unfold AA;dsimp only;rw[decide_eq_true h];simp only[al.br,al.el,if_pos h0,hx]
theorem JP {l:List aA} {next:X×Int->al X} {c:X} {i:Int} (h:¬ i<l.length):AA n l next (c,i)=.ok c:=by
 unfold AA;dsimp only;rw[decide_eq_false h];rfl
theorem KI {A B D:List aA} (hD:LR DD (A++B) D) {w d:Bool}:∀ (k k':Nat) {i:Int} {c c' r:X},0<=i->i<=A.length->QF w d c c'->al.iter (AA n A) k (c,i)=.ok r->
  al.iter (AA n D) k' (c',i)=.stuck\/∃ k2 c2,al.iter (AA n D) k' (c',i)=al.iter (AA n D) k2 (c2,(A.length:Int))/\QF w d r c2
 | 0,_,_,_,_,_,_,_,_,e=>by cases e
 | k+1,0,_,_,_,_,_,_,_,_=>.inl rfl
 | k+1,k'+1,i,c,c',r,h0,h1,hq,e=>by
  have hl:=hD.1
  rw[List.length_append] at hl
  have e:AA n A (al.iter (AA n A) k) (c,i)=.ok r:=e
  by_cases hi:i<A.length
  ·obtain ⟨x,hx⟩:∃ x,A[i.toNat]?=some x:=⟨_,List.getElem?_eq_getElem (by omega)⟩
   obtain ⟨x',tw⟩:∃ x',D[i.toNat]?=some x':=⟨_,List.getElem?_eq_getElem (by omega)⟩
   have hxx:=hD.2 i.toNat x x' (by rw[List.getElem?_append_left (by omega)];exact hx) tw
   rw[F3 h0 hi hx] at e
   show AA n D (al.iter (AA n D) k') (c',i)=.stuck\/∃ k2 c2,AA n D (al.iter (AA n D) k') (c',i)=_/\_
   rw[F3 h0 (by omega) tw]
   obtain ⟨y,hc,e⟩:=ke e
   obtain ⟨hg,e⟩:=BP (λq=>by cases q) e
   rcases (FY n).d hxx hq y hc with q|⟨y',q,hy⟩
   ·rw[q];exact .inl rfl
   ·rw[q]
    have ih:=KI hD k k' (by omega) (by omega) hy e
    show al.gd _ _=_\/∃ k2 c2,al.gd _ _=_/\_
    simp only[al.gd,if_pos hg]
    exact ih
  ·obtain rfl:i=A.length:=by omega
   rw[JP hi] at e
   cases e
   exact .inr ⟨k'+1,c',rfl,hq⟩
theorem Lf {A B D:List aA} (hD:LR DD (A++B) D) {w d:Bool} (k k':Nat) {c c':X} (hq:QF w d c c'):RS (QF w d) (al.iter (AA n B) k (c,0)) (al.iter (AA n D) k' (c',(A.length:Int))):=by
 refine RS.iter (λ(v v':X×Int)=>QF w d v.1 v'.1/\v'.2=v.2+(A.length:Int)/\0<=v.2) (λv v' h next next' hn=>?_) k k' ⟨hq,by simp,by simp⟩;obtain ⟨c,i⟩:=v;obtain ⟨c',i'⟩:=v';obtain ⟨hc,h,h0⟩:=h;dsimp only at hc h h0;subst h;have hl:=hD.1;rw[List.length_append] at hl;unfold AA;dsimp only;refine RS.br (decide_eq_decide.2 (by omega)) (λ_=>RS.el λx x' _ _ hx tw=>?_) (λ_=>RS.ok hc);have hxx:=hD.2 (i+A.length).toNat x x' (by rw[List.getElem?_append_right (by omega),show (i+(A.length:Int)).toNat - A.length=i.toNat by omega];exact hx) tw;exact RS.bind ((FY n).d hxx hc) λy y' hy=>RS.gd λ_ _=>hn _ _ ⟨hy,by dsimp only;omega,by dsimp only;omega⟩
def qL (n:Nat) (p0:cu):(X×Int->al Int)->X×Int->al Int:=
 λnext9 v8=>br (decide (v8.2<(List.length p0.bo:Int))) (el p0.bo v8.2 λIi=>al.bind (fv n Ii.Name) λy20=>al.bind (az n [y20] v8.1) λy21=>gd (dY (v8.2+1)) (next9 (y21,v8.2+1))) (al.bind (bM n p0.Decls true 1 v8.1) λy24=>al.bind (dG y24) λy26=>.ok (y26.1))
def xJ (n:Nat) (p0:cu) (u:X):al Int:=al.bind (bM n p0.Decls true 1 u) λy24=>al.bind (dG y24) λy26=>.ok (y26.1)
theorem F4 (f:cu):eo n f=al.jn (λv3=>al.iter (qL n f) n (v3,0)) λj4=>br (f.cb==([]:ByS)) (al.bind (eO n f.bT) λy28=>al.bind (az n [true,y28] (X.mk false false)) λy29=>j4 (y29)) (al.bind (fv n f.cb) λy30=>al.bind (eO n f.bT) λy31=>al.bind (az n [y30,y31] (X.mk false false)) λy32=>j4 (y32)):=rfl
def PK (n:Nat) (f:cu) (b:Bool):Prop:=(f.cb=[]/\b=true)\/(f.cb≠[]/\fv n f.cb=.ok b)
theorem C9 {f:cu} {z:Int} (h:eo n f=.ok z):∃ pk w,PK n f pk/\eO n f.bT=.ok w/\al.iter (qL n f) n (⟨!pk||!w,false⟩,0)=.ok z:=by
 rw[F4] at h;unfold al.jn at h;cases hp:f.cb==([]:ByS) with
 | true=>
  rw[hp] at h
  obtain ⟨w,h1,h⟩:=ke (show al.bind _ _=.ok z from h)
  obtain ⟨v,h2,h⟩:=ke h
  have:=C8.Le h2
  subst this
  exact ⟨true,w,.inl ⟨by simpa using hp,rfl⟩,h1,h⟩
 | false=>
  rw[hp] at h
  obtain ⟨pk,h0,h⟩:=ke (show al.bind _ _=.ok z from h)
  obtain ⟨w,h1,h⟩:=ke h
  obtain ⟨v,h2,h⟩:=ke h
  have:=C8.Le h2
  subst this
  exact ⟨pk,w,.inr ⟨by simpa using hp,h0⟩,h1,h⟩
theorem HZ {f:cu} {pk w:Bool} (hp:PK n f pk) (hw:eO n f.bT=.ok w):SE (eo n f) (al.iter (qL n f) n (⟨!pk||!w,false⟩,0)):=by
 rw[F4];unfold al.jn;rcases hp with ⟨h1,rfl⟩|⟨h1,h2⟩
 ·rw[h1];show SE (al.bind _ _) _;rw[hw];show SE (al.bind (az n _ _) _) _;exact SE.bind C8 SE.rfl
 rw[beq_eq_false_iff_ne.2 h1];show SE (al.bind _ _) _;rw[h2];show SE (al.bind (eO n f.bT) _) _;rw[hw];show SE (al.bind (az n _ _) _) _;exact SE.bind C8 SE.rfl
theorem Da {f:cu} {next:X×Int->al Int} {v:X} {i:Int} {x:bY} (h0:0<=i) (h:i<f.bo.length) (hx:f.bo[i.toNat]?=some x):qL n f next (v,i)=al.bind (fv n x.Name) λy20=>al.bind (az n [y20] v) λy21=>gd (dY (i+1)) (next (y21,i+1)):=by
 unfold qL;dsimp only;rw[decide_eq_true h];simp only[al.br,al.el,if_pos h0,hx]
theorem As {f:cu} {next:X×Int->al Int} {v:X} {i:Int} (h:¬ i<f.bo.length):qL n f next (v,i)=xJ n f v:=by
 unfold qL;dsimp only;rw[decide_eq_false h];rfl
theorem F5 {a c:cu} (hi:LR IE a.bo c.bo) {w d:Bool} {z:Int}:∀ (k k':Nat) {i:Int} {v v':X},0<=i->QF w d v v'->al.iter (qL n a) k (v,i)=.ok z->
  ∃ u,xJ n a u=.ok z/\(al.iter (qL n c) k' (v',i)=.stuck\/∃ u',QF w d u u'/\al.iter (qL n c) k' (v',i)=xJ n c u')
 | 0,_,_,_,_,_,_,e=>by cases e
 | k+1,k',i,v,v',h0,hq,e=>by
  have e:qL n a (al.iter (qL n a) k) (v,i)=.ok z:=e
  have hl:=hi.1
  by_cases hlt:i<a.bo.length
  ·obtain ⟨x,hx⟩:∃ x,a.bo[i.toNat]?=some x:=⟨_,List.getElem?_eq_getElem (by omega)⟩
   obtain ⟨x',tw⟩:∃ x',c.bo[i.toNat]?=some x':=⟨_,List.getElem?_eq_getElem (by omega)⟩
   have hxx:=hi.2 _ _ _ hx tw
   rw[Da h0 hlt hx] at e
   obtain ⟨y,e1,e⟩:=ke e
   obtain ⟨m,e2,e⟩:=ke e
   obtain ⟨hg,e⟩:=BP (λq=>by cases q) e
   have h00:∃ u,xJ n a u=.ok z:=by
    obtain ⟨u,g1,_⟩:=F5 hi k 0 (v':=⟨m.nu||w,m.deep||d⟩) (by omega) ⟨rfl,rfl⟩ e
    exact ⟨u,g1⟩
   cases k' with
   | zero=>
    obtain ⟨u,g1⟩:=h00
    exact ⟨u,g1,.inl rfl⟩
   | succ k'=>
    show ∃ u,xJ n a u=.ok z/\(qL n c (al.iter (qL n c) k') (v',i)=.stuck\/∃ u',QF w d u u'/\qL n c (al.iter (qL n c) k') (v',i)=xJ n c u')
    rw[Da h0 (by omega) tw,hxx.1,e1]
    show ∃ u,xJ n a u=.ok z/\(al.bind (az n [y] v') _=.stuck\/∃ u',QF w d u u'/\al.bind (az n [y] v') _=xJ n c u')
    rcases vE (m:=n) (l:=[y]) hq m e2 with q|⟨m',q,hm⟩
    ·obtain ⟨u,g1⟩:=h00
     rw[q];exact ⟨u,g1,.inl rfl⟩
    ·rw[q]
     obtain ⟨u,g1,g2⟩:=F5 hi k k' (by omega) hm e
     refine ⟨u,g1,?_⟩
     show al.gd _ _=.stuck\/∃ u',QF w d u u'/\al.gd _ _=xJ n c u'
     simp only[al.gd,if_pos hg]
     exact g2
  ·rw[As hlt] at e
   refine ⟨v,e,?_⟩
   cases k' with
   | zero=>exact .inl rfl
   | succ k'=>
    refine .inr ⟨v',hq,?_⟩
    show qL n c (al.iter (qL n c) k') (v',i)=_
    rw[As (by omega)]
theorem yM {c:X} {z:Int} (h:(al.bind (dG c) λy26=>al.ok y26.1)=.ok z):z=if c.nu then 11 else if c.deep then 9 else 0:=by
 unfold dG at h;cases h1:c.nu<;>cases h2:c.deep<;>(rw[h1,h2] at h;cases h;rfl)
theorem DJ {c:X}:(al.bind (dG c) λy26=>al.ok y26.1)=.ok (if c.nu then 11 else if c.deep then 9 else 0):=by
 unfold dG;cases h1:c.nu<;>cases h2:c.deep<;>rfl
theorem H0 {a b c:cu} {z1 z2:Int} (h1:eo n a=.ok z1) (hz1:z1≠9) (h2:eo n b=.ok z2) (hz2:z2≠9) (ht:a.bT=[]) (hp:b.cb=[]) (hi:b.bo=[]) (cp:c.cb=a.cb) (ci:LR IE a.bo c.bo) (cd:LR DD (a.Decls++b.Decls) c.Decls) (ct:c.bT=b.bT) :
  eo n c=.stuck\/∃ z,eo n c=.ok z/\z≠9:=by
 obtain ⟨pk,w,hA1,hA2,hA3⟩:=C9 h1
 obtain ⟨pk2,wT,hB1,hB2,hB3⟩:=C9 h2
 rw[ht] at hA2
 have:=JO.Le hA2
 subst this
 have hpk2:pk2=true:=by
  rcases hB1 with ⟨_,q⟩|⟨q,_⟩
  ·exact q
  ·exact absurd hp q
 subst hpk2
 have hB4:xJ n b ⟨!wT,false⟩=.ok z2:=by
  cases n with
  | zero=>cases hB3
  | succ n=>
   have e:qL (n+1) b (al.iter (qL (n+1) b) n) (⟨!true||!wT,false⟩,0)=.ok z2:=hB3
   rw[As (by rw[hi];simp)] at e
   exact e
 obtain ⟨cB,hB5,hB6⟩:=ke hB4
 have hB6:=yM hB6
 have hcP:PK n c pk:=by unfold PK at hA1 ⊢;rw[cp];exact hA1
 rcases HZ hcP (w:=wT) (by rw[ct];exact hB2) with q|q
 ·exact .inl q
 rw[q]
 obtain ⟨u,hA4,g⟩:=F5 (n:=n) ci (w:=!wT) (d:=false) n n (v:=⟨!pk||!true,false⟩) (v':=⟨!pk||!wT,false⟩) (Int.le_refl 0) ⟨by simp,rfl⟩ hA3
 rcases g with g|⟨u',hq,g⟩
 ·exact .inl g
 rw[g]
 obtain ⟨cA,hA5,hA6⟩:=ke hA4
 have hA6:=yM hA6
 cases n with
 | zero=>cases hA5
 | succ n=>
  rw[Is] at hA5 hB5
  unfold xJ
  rw[Is]
  rcases KI cd n n (Int.le_refl 0) (by omega) hq hA5 with q|⟨k2,c2,q,hq2⟩
  ·left;rw[q];rfl
  rw[q]
  rcases Lf cd (w:=cA.nu) (d:=cA.deep) n k2 (c:=⟨!wT,false⟩) (c':=c2) ⟨by rw[hq2.1,Bool.or_comm],by rw[hq2.2];simp⟩ cB hB5 with q|⟨cJ,q,hJ⟩
  ·left;rw[q];rfl
  rw[q]
  right
  refine ⟨_,DJ,?_⟩
  rw[hJ.1,hJ.2]
  rw[hA6] at hz1
  rw[hB6] at hz2
  cases h1:cA.nu<;>cases h2:cA.deep<;>cases h3:cB.nu<;>cases h4:cB.deep<;>simp_all
end
end Go.Abs
end
