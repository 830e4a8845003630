/- PROVED: lemmas of the proof of: valid_card. CONDITIONS: as each lemma states. -/
import Derived.Test.YtkhjeiaafiodeaaGreatDoorF5
set_option linter.all false
section
namespace Go.Abs
open U
theorem wrap_i64 {x:Int} (h0:-9223372036854775808<=x) (h1:x<=9223372036854775807):IntKind.wrap .i64 x=x:=by
 have:IntKind.wrap .i64 x=if x % 18446744073709551616>=9223372036854775808 then x % 18446744073709551616 - 18446744073709551616 else x % 18446744073709551616:=by
  simp[IntKind.wrap,IntKind.bits,IntKind.signed]
 rw[this];split<;>omega
theorem EG {v:Int} (h0:0<=v) (h1:v<256):0<=IntKind.wrap .i64 (Int.tdiv v 64)/\IntKind.wrap .i64 (Int.tdiv v 64)<4:=by
 have:Int.tdiv v 64=v / 64:=Int.tdiv_eq_ediv_of_nonneg h0;rw[this,wrap_i64 (by omega) (by omega)];omega
theorem gT {m:Nat->Nat} (hm:g m) {a b:Int}:Ev (λi=>fk (m i) a b) (λ_=>True) fM:=by
 unfold fk kp;refine Ev.iter hm (λ(x:bM×Int)=>0<=x.2/\x.2<=256) (λx=>(256 - x.2).toNat) (by simp) ?_;intro x hx next hn;refine Ev.bk (λh=>?_) (λ_=>Ev.ok trivial);have hw:=EG hx.1 h;have ht:0<=Int.tmod x.2 64:=Int.tmod_nonneg _ hx.1;refine Ev.jn (λ_=>True) (λv _=>?_) (λj hj=>?_)
 ·refine Ev.br (λ_=>?_) (λ_=>?_)
  ·refine Ev.gA (Ev.gd hw (Ev.gA (Ev.gd ht (Ev.gd hw (Ev.gA ?_)))));exact hn _ (by dsimp only;omega) (by dsimp only;omega)
  refine Ev.gA ?_;exact hn _ (by dsimp only;omega) (by dsimp only;omega)
 (repeat' (with_reducible first|refine Ev.gA ?_|refine Ev.eA (λ_ _=>?_)|apply Ev.bK|apply Ev.bE|(first|apply Ev.bk|apply Ev.W|apply Ev.cr|apply Ev.bz|apply Ev.br)<;>intro _|(apply Ev.lK;try dsimp only)))
 all_goals exact hj _ trivial
theorem kU {m:Nat->Nat} (hm:g m) {a b:bM}:Ev (λi=>gD (m i) a b) (λ_=>True) fM:=by
 unfold gD kp;refine Ev.iter hm (λ(x:bM×Int)=>0<=x.2/\x.2<=4) (λx=>(4 - x.2).toNat) (by simp) ?_;intro x hx next hn
 (repeat' (with_reducible first|refine Ev.gA ?_|refine Ev.eA (λ_ _=>?_)|apply Ev.bK|apply Ev.bE|(first|apply Ev.bk|apply Ev.W|apply Ev.cr|apply Ev.bz|apply Ev.br)<;>intro _|(apply Ev.lK;try dsimp only)))
 ·exact hn _ (by dsimp only;omega) (by dsimp only;omega)
 exact Ev.ok trivial
theorem yv {m:Nat->Nat} (hm:g m) {a:bM}:Ev (λi=>kL (m i) a) (λ_=>True) fM:=by
 unfold kL;refine Ev.iter hm (λ(x:bM×Int)=>0<=x.2/\x.2<=4) (λx=>(4 - x.2).toNat) (by simp) ?_;intro x hx next hn
 (repeat' (with_reducible first|refine Ev.gA ?_|refine Ev.eA (λ_ _=>?_)|apply Ev.bK|apply Ev.bE|(first|apply Ev.bk|apply Ev.W|apply Ev.cr|apply Ev.bz|apply Ev.br)<;>intro _|(apply Ev.lK;try dsimp only)))
 ·exact hn _ (by dsimp only;omega) (by dsimp only;omega)
 exact Ev.ok trivial
inductive zJ:ax->Prop where
 | mk {k a b c d:Int} {l:List ax} (h:l.length<=70000) (hs:∀ x,x∈l->zJ x):zJ (ax.mk k a b c d l)
theorem zJ.leaf {k a b c d:Int}:zJ (ax.mk k a b c d []):=.mk (by simp) (by simp)
theorem yw {m:Nat->Nat} (hm:g m) {c:Int}:Ev (λi=>jW (m i) c) (λ_=>True) fM:=by
 unfold jW;refine Ev.Y (gT hm) λ_ _=>?_
 (repeat' (with_reducible first|refine Ev.gA ?_|refine Ev.eA (λ_ _=>?_)|apply Ev.bK|apply Ev.bE|(first|apply Ev.bk|apply Ev.W|apply Ev.cr|apply Ev.bz|apply Ev.br)<;>intro _|(apply Ev.lK;try dsimp only)))
 ·exact Ev.ok trivial
 ·refine Ev.Y (gT hm) λ_ _=>Ev.Y (gT hm) λ_ _=>Ev.Y (kU hm) λ_ _=>Ev.Y (kU hm) λ_ _=>Ev.Y (gT hm) λ_ _=>Ev.Y (kU hm) λ_ _=>Ev.ok trivial
 ·refine Ev.Y (gT hm) λ_ _=>Ev.Y (gT hm) λ_ _=>Ev.Y (kU hm) λ_ _=>Ev.Y (gT hm) λ_ _=>Ev.Y (kU hm) λ_ _=>Ev.ok trivial
 exact Ev.ok trivial
theorem sy {m:Nat->Nat} (hm:g m) {c:Int}:Ev (λi=>kC (m i) c) zJ fM:=by
 unfold kC;exact Ev.Y (gT hm) λ_ _=>Ev.ok .leaf
def RP:sB->Prop:=λp=>∃ v:Int,p=⟨202,[.sc (.int .i64 v)]⟩
theorem uo {α:Type} {a:Int} {p:L} {K:Nat->L->U α} {Q:α->Prop}:Ev (λi=>U.bind (dt a p) (K i)) Q RP:=by
 unfold dt;exact Ev.mw ⟨a,rfl⟩
structure RI (s:ByS) (p:L):Prop where
 text:p.text=s
 yL:0<=p.at_
 Am:p.at_<=s.length
theorem cD {s:ByS} {p:L} (h:RI s p):Ev (λ_=>bP p) (λr=>r.2=p/\(r.1≠0->p.at_<s.length)) fM:=by
 have h0:=h.yL;have ht:=h.text;unfold bP kp;rw[ht]
 (repeat' (with_reducible first|refine Ev.gA ?_|refine Ev.eA (λ_ _=>?_)|apply Ev.bK|apply Ev.bE|(first|apply Ev.bk|apply Ev.W|apply Ev.cr|apply Ev.bz|apply Ev.br)<;>intro _|(apply Ev.lK;try dsimp only)))
 ·exact Ev.ok ⟨rfl,λ_=>by omega⟩
 exact Ev.ok ⟨rfl,λh=>absurd rfl h⟩
theorem yx {c:Int}:Ev (λ_=>ma c) (λr=>r.2=true->c≠0) fM:=by
 unfold ma;refine Ev.jn (λv=>v=true->c≠0) (λv hv=>?_) (λj hj=>?_)
 ·refine Ev.br (λh=>Ev.ok λ_=>hv h) (λ_=>?_);refine Ev.jn (λv=>v=true->c≠0) (λv hv=>?_) (λj hj=>?_)
  ·refine Ev.br (λh=>Ev.ok λ_=>hv h) (λ_=>?_)
   (repeat' (with_reducible first|refine Ev.gA ?_|refine Ev.eA (λ_ _=>?_)|apply Ev.bK|apply Ev.bE|(first|apply Ev.bk|apply Ev.W|apply Ev.cr|apply Ev.bz|apply Ev.br)<;>intro _|(apply Ev.lK;try dsimp only)))
   ·exact Ev.ok λ_=>by omega
   all_goals exact Ev.ok (by simp)
  (repeat' (with_reducible first|refine Ev.gA ?_|refine Ev.eA (λ_ _=>?_)|apply Ev.bK|apply Ev.bE|(first|apply Ev.bk|apply Ev.W|apply Ev.cr|apply Ev.bz|apply Ev.br)<;>intro _|(apply Ev.lK;try dsimp only)))
  ·exact hj _ λ_=>by omega
  exact hj _ (by simp)
 (repeat' (with_reducible first|refine Ev.gA ?_|refine Ev.eA (λ_ _=>?_)|apply Ev.bK|apply Ev.bE|(first|apply Ev.bk|apply Ev.W|apply Ev.cr|apply Ev.bz|apply Ev.br)<;>intro _|(apply Ev.lK;try dsimp only)))
 ·exact hj _ λ_=>by omega
 exact hj _ (by simp)
theorem pS {m:Nat->Nat} (hm:g m) {s:ByS} (hs:s.length<=70000) {p:L} (h:RI s p) (hlt:p.at_<s.length) {c:Int} :
  Ev (λi=>dE (m i) c p) (λr=>RI s r.2/\p.at_<r.2.at_) RP:=by
 have h0:=h.yL
 unfold dE
 refine Ev.iter hm (λ(x:L×Int×Int)=>RI s x.1/\x.1.at_<s.length/\p.at_<=x.1.at_/\0<=x.2.2/\x.2.2<=2) (λx=>(2 - x.2.2).toNat) ⟨h,hlt,by simp,by simp,by simp⟩ ?_
 rintro x ⟨h1,h2,h3,h4,h5⟩ next hn
 have h6:=h1.yL
 refine Ev.bk (λhi=>?_) (λhi=>?_)
 ·refine Ev.gA (Ev.gA ?_)
  have hR:RI s (L.mk x.1.text (x.1.at_+1)):=⟨h1.text,by dsimp only;omega,by dsimp only;omega⟩
  refine Ev.fQ (cD hR) λy hy=>?_
  refine Ev.fQ yx λd hd=>?_
  refine Ev.gA ?_
  refine Ev.jn (λv=>v=false->d.2=true) (λv hv=>?_) (λj hj=>?_)
  ·refine Ev.br (λ_=>uo) (λhf=>?_)
   have:=hy.2 (hd (hv hf))
   rw[hy.1]
   refine Ev.gA (hn _ ⟨hR,this,?_,?_,?_⟩ ?_)
   all_goals (dsimp only at *;omega)
  ·refine Ev.bz (λ_=>hj _ (by simp)) (λhd2=>?_)
   (repeat' (with_reducible first|refine Ev.gA ?_|refine Ev.eA (λ_ _=>?_)|apply Ev.bK|apply Ev.bE|(first|apply Ev.bk|apply Ev.W|apply Ev.cr|apply Ev.bz|apply Ev.br)<;>intro _|(apply Ev.lK;try dsimp only)))
   all_goals exact hj _ (λ_=>hd2)
 ·refine Ev.gA (Ev.ok ⟨⟨h1.text,?_,?_⟩,?_⟩)
  all_goals (dsimp only;omega)
theorem k9 {m:Nat->Nat} (hm:g m) {s:ByS} (hs:s.length<=70000) {p:L} (h:RI s p) (hlt:p.at_<s.length) {c:Int} :
  Ev (λi=>cP (m i) c p) (λr=>RI s r.2/\p.at_<r.2.at_) RP:=by
 have h0:=h.yL
 unfold cP kp
 rw[h.text]
 refine Ev.gA ?_
 have hR:RI s (L.mk s (p.at_+1)):=⟨rfl,by dsimp only;omega,by dsimp only;omega⟩
 refine Ev.fQ (cD hR) λy hy=>?_
 rw[hy.1];dsimp only
 refine Ev.jn (λv=>v.1=(L.mk s (p.at_+1))/\p.at_+1<s.length) (λv hv=>?_) (λj hj=>?_)
 ·refine Ev.jn (λv=>v=(L.mk s (p.at_+1))) (λv2 hv2=>?_) (λj hj=>?_)
  ·subst hv2
   refine Ev.gA (Ev.ok ⟨⟨rfl,?_,?_⟩,?_⟩)
   all_goals (dsimp only;omega)
  ·exact Ev.bk (λ_=>uo) (λ_=>hj _ hv.1)
 ·refine Ev.bk (λ_=>uo) (λhlt2=>?_)
  have hlt3:p.at_+1<s.length:=by omega
  (repeat' (with_reducible first|refine Ev.gA ?_|refine Ev.eA (λ_ _=>?_)|apply Ev.bK|apply Ev.bE|(first|apply Ev.bk|apply Ev.W|apply Ev.cr|apply Ev.bz|apply Ev.br)<;>intro _|(apply Ev.lK;try dsimp only)))
  ·refine (Ev.Y (pS hm hs hR (by dsimp only;omega)) λz hz=>Ev.ok ⟨hz.1,?_⟩)
   have:=hz.2;dsimp only at *;omega
  ·exact hj _ ⟨rfl,hlt3⟩
  ·exact hj _ ⟨rfl,hlt3⟩
  ·exact hj _ ⟨rfl,hlt3⟩
  ·refine Ev.fQ (Q:=λ_=>True) (Ev.ok trivial) λz _=>?_
   exact Ev.bk (λ_=>uo) (λ_=>hj _ ⟨rfl,hlt3⟩)
theorem o5 {m:Nat->Nat} (hm:g m) {s:ByS} (hs:s.length<=70000) {p:L} (h:RI s p) {c:Int} :
  Ev (λi=>dJ (m i) c p) (λr=>RI s r.2/\p.at_<r.2.at_) RP:=by
 have h0:=h.yL
 have h1:=h.Am
 unfold dJ kp
 refine Ev.fQ (cD h) λy hy=>?_
 rw[hy.1]
 refine Ev.jn (λv=>v=p/\p.at_<s.length) (λv hv=>?_) (λj hj=>?_)
 ·rw[hv.1]
  refine Ev.gA (Ev.ok ⟨⟨h.text,?_,?_⟩,?_⟩)
  all_goals (dsimp only;omega)
 ·rw[h.text]
  refine Ev.bk (λ_=>uo) (λhlt2=>?_)
  have hlt:p.at_<s.length:=by omega
  refine Ev.W (λ_=>?_) (λ_=>?_)
  ·exact Ev.Y (k9 hm hs h hlt) λz hz=>Ev.ok hz
  ·refine Ev.jn (λ_=>True) (λv _=>?_) (λj2 hj2=>?_)
   ·exact Ev.br (λ_=>uo) (λ_=>hj _ ⟨rfl,hlt⟩)
   ·(repeat' (with_reducible first|refine Ev.gA ?_|refine Ev.eA (λ_ _=>?_)|apply Ev.bK|apply Ev.bE|(first|apply Ev.bk|apply Ev.W|apply Ev.cr|apply Ev.bz|apply Ev.br)<;>intro _|(apply Ev.lK;try dsimp only)))
    ·exact hj2 _ trivial
    ·exact hj2 _ trivial
    ·exact hj2 _ trivial
    ·exact Ev.fQ (Q:=λ_=>True) (Ev.ok trivial) λz _=>hj2 _ trivial
theorem ug {m:Nat->Nat} (hm:g m) {s:ByS} (hs:s.length<=70000) {p:L} (h:RI s p) (hlt:p.at_<s.length) :
  Ev (λi=>gk (m i) p) (λr=>RI s r.2/\p.at_<r.2.at_/\zJ r.1) RP:=by
 have h0:=h.yL
 unfold gk
 refine Ev.gA ?_
 have hR:RI s (L.mk p.text (p.at_+1)):=⟨h.text,by dsimp only;omega,by dsimp only;omega⟩
 refine Ev.fQ (cD hR) λy hy=>?_
 rw[hy.1];dsimp only
 have hy2:=hy.2;dsimp only at hy2
 refine Ev.jn (λv=>RI s v/\p.at_<v.at_) (λv hv=>?_) (λj hj=>?_)
 ·refine Ev.jn (λw=>RI s w.1/\p.at_<w.1.at_/\(w.2=true->w.1.at_<s.length)) (λw hw=>?_) (λj hj=>?_)
  ·have hw0:=hw.1.yL
   have hw1:=hw.1.Am
   refine Ev.br (λhb=>?_) (λ_=>?_)
   ·have:=hw.2.2 hb
    refine Ev.gA (Ev.ok ⟨⟨hw.1.text,?_,?_⟩,?_,.leaf⟩)
    all_goals (dsimp only;omega)
   ·refine Ev.iter hm (λ(x:L×bM×Bool)=>RI s x.1/\p.at_<x.1.at_) (λx=>(s.length - x.1.at_).toNat) ⟨hw.1,hw.2.1⟩ ?_
    rintro x ⟨hx1,hx2⟩ next hn
    have hx0:=hx1.yL
    have hx3:=hx1.Am
    refine Ev.jn (λv=>v=x.1) (λv hv=>?_) (λj hj=>?_)
    ·subst hv
     refine Ev.Y (o5 hm hs hx1) λz hz=>?_
     have hz0:=hz.1.yL
     have hz1:=hz.1.Am
     have hz2:=hz.2
     refine Ev.fQ (cD hz.1) λz2 hz2=>?_
     rw[hz2.1]
     refine Ev.W (λhq=>?_) (λ_=>?_)
     ·have:=hz2.2 (by omega)
      have hR2:RI s (L.mk z.2.text (z.2.at_+1)):=⟨hz.1.text,by dsimp only;omega,by dsimp only;omega⟩
      refine Ev.gA (Ev.Y (o5 hm hs hR2) λz3 hz3=>?_)
      have hz4:=hz3.1.Am
      have hz5:=hz3.2;dsimp only at hz5
      refine Ev.fQ (gT hm) λ_ _=>Ev.fQ (kU hm) λ_ _=>hn _ ⟨hz3.1,?_⟩ ?_
      all_goals (dsimp only;omega)
     ·refine Ev.fQ (gT hm) λ_ _=>Ev.fQ (kU hm) λ_ _=>hn _ ⟨hz.1,?_⟩ ?_
      all_goals (dsimp only;omega)
    ·refine Ev.br (λ_=>hj _ rfl) (λ_=>?_)
     refine Ev.fQ (cD hx1) λz2 hz2=>?_
     rw[hz2.1]
     refine Ev.cr (λ_=>hj _ rfl) (λhq=>?_)
     have:=hz2.2 (by omega)
     refine Ev.gA ?_
     (repeat' (with_reducible first|refine Ev.gA ?_|refine Ev.eA (λ_ _=>?_)|apply Ev.bK|apply Ev.bE|(first|apply Ev.bk|apply Ev.W|apply Ev.cr|apply Ev.bz|apply Ev.br)<;>intro _|(apply Ev.lK;try dsimp only)))
     ·refine Ev.fQ (yv hm) λ_ _=>Ev.ok ⟨⟨hx1.text,?_,?_⟩,?_,.leaf⟩
      all_goals (dsimp only;omega)
     ·refine Ev.ok ⟨⟨hx1.text,?_,?_⟩,?_,.leaf⟩
      all_goals (dsimp only;omega)
  ·refine Ev.bz (λ_=>?_) (λ_=>hj _ ⟨hv.1,hv.2,by simp⟩)
   refine Ev.fQ (cD hv.1) λz2 hz2=>?_
   rw[hz2.1]
   refine hj _ ⟨hv.1,hv.2,λhq=>hz2.2 ?_⟩
   have:=beq_iff_eq.1 hq
   omega
 ·refine Ev.W (λhq=>?_) (λ_=>hj _ ⟨hR,by dsimp only;omega⟩)
  have:=hy2 (by omega)
  refine Ev.gA (hj _ ⟨⟨h.text,?_,?_⟩,?_⟩)
  all_goals (dsimp only;omega)
theorem oF {k:Int} {l:List ax} (h:l.length<=70000) (hs:∀ x,x∈l->zJ x):Ev (λ_=>kl k l) zJ fM:=by
 unfold kl;refine Ev.W (λ_=>?_) (λ_=>Ev.ok (.mk h hs));exact Ev.eA λx hx=>Ev.ok (hs x (List.mem_of_getElem? hx))
structure RG (s:ByS) (k:Nat):Prop where
 alt:∀ {m:Nat->Nat} {p:L},g m->RI s p->8*(s.length - p.at_).toNat+6<k->Ev (λi=>bo (m i) p) (λr=>RI s r.2/\p.at_<r.2.at_/\zJ r.1) RP
 Fa:∀ {m:Nat->Nat} {p:L},g m->RI s p->8*(s.length - p.at_).toNat+5<k->Ev (λi=>bI (m i) p) (λr=>RI s r.2/\p.at_<r.2.at_/\zJ r.1) RP
 Al:∀ {m:Nat->Nat} {p:L} {l:List ax},g m->RI s p->8*(s.length - p.at_).toNat+4<k->l.length<=70000->(∀ x,x∈l->zJ x)->
  Ev (λi=>bA (m i) l p) (λr=>RI s r.2/\p.at_<r.2.at_/\r.1.length=l.length+1/\∀ x,x∈r.1->zJ x) RP
 piece:∀ {m:Nat->Nat} {p:L},g m->RI s p->8*(s.length - p.at_).toNat+3<k->Ev (λi=>dw (m i) p) (λr=>RI s r.2/\p.at_<r.2.at_/\zJ r.1) RP
 atom:∀ {m:Nat->Nat} {p:L},g m->RI s p->8*(s.length - p.at_).toNat+2<k->Ev (λi=>dK (m i) p) (λr=>RI s r.2/\p.at_<r.2.at_/\zJ r.1) RP
 group:∀ {m:Nat->Nat} {p:L},g m->RI s p->p.at_<s.length->8*(s.length - p.at_).toNat+1<k->Ev (λi=>dv (m i) p) (λr=>RI s r.2/\p.at_<r.2.at_/\zJ r.1) RP
theorem Le {s:ByS} (hs:s.length<=60000):∀ k,RG s k:=by
 intro k
 induction k with
 | zero=>exact ⟨λ_ _ h=>absurd h (Nat.not_lt_zero _),λ_ _ h=>absurd h (Nat.not_lt_zero _),λ_ _ h=>absurd h (Nat.not_lt_zero _),λ_ _ h=>absurd h (Nat.not_lt_zero _),λ_ _ h=>absurd h (Nat.not_lt_zero _),λ_ _ _ h=>absurd h (Nat.not_lt_zero _)⟩
 | succ k ih=>
  refine ⟨?_,?_,?_,?_,?_,?_⟩
  ·intro m p hm h hk;have h0:=h.yL;refine Ev.grow (F:=λn=>bo n p) hm λm hm=>?_;show Ev (λi=>cR (m i) (aw (m i)) p) _ _;unfold cR;refine Ev.Y (ih.Fa hm h (by omega)) λy hy=>?_;refine Ev.iter hm (λ(x:L×List ax)=>RI s x.1/\p.at_<x.1.at_/\x.2.length<=x.1.at_/\∀ z,z∈x.2->zJ z) (λx=>(s.length - x.1.at_).toNat) ⟨hy.1,hy.2.1,by simp;omega,by simpa using hy.2.2⟩ ?_;rintro x ⟨hx1,hx2,hx3,hx4⟩ next hn;have hx5:=hx1.Am;refine Ev.fQ (cD hx1) λz hz=>?_;rw[hz.1];refine Ev.W (λhq=>?_) (λ_=>?_)
   ·have:=hz.2 (by omega);have hR:RI s (L.mk x.1.text (x.1.at_+1)):=⟨hx1.text,by dsimp only;omega,by dsimp only;omega⟩;refine Ev.gA (Ev.Y (ih.Fa hm hR (by dsimp only;omega)) λw hw=>?_);have hw1:=hw.2.1;dsimp only at hw1;have hw2:=hw.1.Am;refine Ev.gA (hn _ ⟨hw.1,by dsimp only;omega,by simp;omega,λz hz=>?_⟩ (by dsimp only;omega));rcases List.mem_append.1 hz with q|q
    ·exact hx4 z q
    simp at q;subst q;exact hw.2.2
   exact Ev.fQ (oF (by omega) hx4) λw hw=>Ev.ok ⟨hx1,hx2,hw⟩
  ·intro m p hm h hk;have h0:=h.yL;refine Ev.grow (F:=λn=>bI n p) hm λm hm=>?_;show Ev (λi=>cG (m i) (aw (m i)) p) _ _;unfold cG;refine Ev.Y (ih.Al (l:=[]) hm h (by omega) (by simp) (by simp)) λy hy=>?_;have hy3:=hy.2.2.1;refine Ev.iter hm (λ(x:L×List ax)=>RI s x.1/\p.at_<x.1.at_/\x.2.length<=x.1.at_/\∀ z,z∈x.2->zJ z) (λx=>(s.length - x.1.at_).toNat) ⟨hy.1,hy.2.1,by simp at hy3;dsimp only;omega,hy.2.2.2⟩ ?_;rintro x ⟨hx1,hx2,hx3,hx4⟩ next hn;have hx5:=hx1.Am;refine Ev.bk (λhlt=>?_) (λ_=>?_)
   ·refine Ev.fQ (cD hx1) λz hz=>?_;rw[hz.1];refine Ev.cr (λ_=>?_) (λ_=>?_)
    ·refine Ev.fQ (cD hx1) λz hz=>?_;rw[hz.1];refine Ev.cr (λ_=>?_) (λ_=>?_)
     ·rw[hx1.text] at hlt;refine Ev.Y (ih.Al hm hx1 (by omega) (by omega) hx4) λw hw=>?_;have hw1:=hw.2.1;have hw2:=hw.1.Am;have hw3:=hw.2.2.1;exact hn _ ⟨hw.1,by dsimp only;omega,by dsimp only;omega,hw.2.2.2⟩ (by dsimp only;omega)
     exact Ev.fQ (oF (by omega) hx4) λw hw=>Ev.ok ⟨hx1,hx2,hw⟩
    exact Ev.fQ (oF (by omega) hx4) λw hw=>Ev.ok ⟨hx1,hx2,hw⟩
   exact Ev.fQ (oF (by omega) hx4) λw hw=>Ev.ok ⟨hx1,hx2,hw⟩
  ·intro m p l hm h hk hl hls;refine Ev.grow (F:=λn=>bA n l p) hm λm hm=>?_;show Ev (λi=>cy (m i) (aw (m i)) l p) _ _;unfold cy;refine Ev.Y (ih.piece hm h (by omega)) λy hy=>?_;refine Ev.gA (Ev.ok ⟨hy.1,hy.2.1,by simp,λz hz=>?_⟩);rcases List.mem_append.1 hz with q|q
   ·exact hls z q
   simp at q;subst q;exact hy.2.2
  ·intro m p hm h hk;refine Ev.grow (F:=λn=>dw n p) hm λm hm=>?_;show Ev (λi=>eM (m i) (aw (m i)) p) _ _;unfold eM;refine Ev.Y (ih.atom hm h (by omega)) λy hy=>?_;refine Ev.iter hm (λ(x:L×ax)=>RI s x.1/\p.at_<x.1.at_/\zJ x.2) (λx=>(s.length - x.1.at_).toNat) ⟨hy.1,hy.2.1,hy.2.2⟩ ?_;rintro x ⟨hx1,hx2,hx3⟩ next hn;have hx0:=hx1.yL;have hx5:=hx1.Am;refine Ev.jn (λv=>v.1=x.1/\x.1.at_<s.length/\zJ v.2) (λv hv=>?_) (λj hj=>?_)
   ·rw[hv.1];have:=hv.2.1;refine Ev.gA (hn _ ⟨⟨hx1.text,?_,?_⟩,?_,hv.2.2⟩ ?_);all_goals (dsimp only;omega)
   refine Ev.fQ (cD hx1) λz hz=>?_;rw[hz.1];have hs1:zJ (ax.mk 5 0 0 0 0 [x.2]):=.mk (by simp) (by simpa using hx3);refine Ev.W (λhq=>hj _ ⟨rfl,hz.2 (by omega),hs1⟩) (λ_=>?_);refine Ev.W (λhq=>hj _ ⟨rfl,hz.2 (by omega),.mk (by simp) ?_⟩) (λ_=>?_)
   ·intro w hw;simp at hw;rcases hw with rfl|rfl
    ·exact hx3
    exact hs1
   refine Ev.W (λhq=>hj _ ⟨rfl,hz.2 (by omega),.mk (by simp) ?_⟩) (λ_=>Ev.ok ⟨hx1,hx2,hx3⟩);intro w hw;simp at hw;rcases hw with rfl|rfl
   ·exact hx3
   exact .leaf
  ·intro m p hm h hk;have h0:=h.yL;have h1:=h.Am;refine Ev.grow (F:=λn=>dK n p) hm λm hm=>?_;show Ev (λi=>fc (m i) (aw (m i)) p) _ _;unfold fc;refine Ev.fQ (cD h) λy hy=>?_;rw[hy.1];refine Ev.jn (λv=>v=p/\p.at_<s.length) (λv hv=>?_) (λj hj=>?_)
   ·rw[hv.1];refine Ev.gA (Ev.fQ (sy hm) λz hz=>Ev.ok ⟨⟨h.text,?_,?_⟩,?_,hz⟩);all_goals (dsimp only;omega)
   rw[h.text];refine Ev.bk (λ_=>uo) (λhlt2=>?_);have hlt:p.at_<s.length:=by omega
   refine Ev.W (λ_=>?_) (λ_=>?_)
   ·exact Ev.Y (ih.group hm h hlt (by omega)) λz hz=>Ev.ok hz
   refine Ev.W (λ_=>?_) (λ_=>?_)
   ·exact Ev.Y (ug hm (by omega) h hlt) λz hz=>Ev.ok hz
   refine Ev.W (λ_=>?_) (λ_=>?_)
   ·refine Ev.gA (Ev.fQ (gT hm) λz _=>Ev.ok ⟨⟨rfl,?_,?_⟩,?_,.leaf⟩);all_goals (dsimp only;omega)
   refine Ev.W (λ_=>?_) (λ_=>?_)
   ·refine Ev.gA (Ev.bk (λ_=>?_) (λ_=>?_))
    ·refine Ev.gA (Ev.eA (λb _=>?_));refine Ev.fQ (yw hm) λz _=>?_;refine Ev.br (λ_=>?_) (λ_=>?_)
     ·refine Ev.gA (Ev.ok ⟨⟨rfl,?_,?_⟩,?_,.leaf⟩);all_goals (dsimp only;omega)
     exact Ev.Y (k9 hm (by omega) h hlt) λz hz=>Ev.fQ (sy hm) λw hw=>Ev.ok ⟨hz.1,hz.2,hw⟩
    exact Ev.Y (k9 hm (by omega) h hlt) λz hz=>Ev.fQ (sy hm) λw hw=>Ev.ok ⟨hz.1,hz.2,hw⟩
   refine Ev.jn (λ_=>True) (λv _=>?_) (λj2 hj2=>?_)
   ·exact Ev.br (λ_=>uo) (λ_=>hj _ ⟨rfl,hlt⟩)
   (repeat' (with_reducible first|refine Ev.gA ?_|refine Ev.eA (λ_ _=>?_)|apply Ev.bK|apply Ev.bE|(first|apply Ev.bk|apply Ev.W|apply Ev.cr|apply Ev.bz|apply Ev.br)<;>intro _|(apply Ev.lK;try dsimp only)))
   ·exact hj2 _ trivial
   ·exact hj2 _ trivial
   exact Ev.fQ (Q:=λ_=>True) (Ev.ok trivial) λz _=>hj2 _ trivial
  ·intro m p hm h hlt hk;have h0:=h.yL;refine Ev.grow (F:=λn=>dv n p) hm λm hm=>?_;show Ev (λi=>eL (m i) (aw (m i)) p) _ _;unfold eL;refine Ev.gA ?_;have hR:RI s (L.mk p.text (p.at_+1)):=⟨h.text,by dsimp only;omega,by dsimp only;omega⟩;refine Ev.fQ (cD hR) λy hy=>?_;rw[hy.1];dsimp only;have hy2:=hy.2;dsimp only at hy2;refine Ev.W (λhq=>?_) (λ_=>?_)
   ·have:=hy2 (by omega);refine Ev.gA (Ev.ok ⟨⟨h.text,?_,?_⟩,?_,.leaf⟩);all_goals (dsimp only;omega)
   refine Ev.Y (ih.alt hm hR (by dsimp only;omega)) λz hz=>?_;have hz0:=hz.1.yL;have hz1:=hz.2.1;dsimp only at hz1;refine Ev.jn (λv=>v=z.2/\z.2.at_<s.length) (λv hv=>?_) (λj hj=>?_)
   ·rw[hv.1];refine Ev.gA (Ev.ok ⟨⟨hz.1.text,?_,?_⟩,?_,hz.2.2⟩);all_goals (dsimp only;omega)
   refine Ev.fQ (cD hz.1) λw hw=>?_;rw[hw.1];exact Ev.cr (λ_=>uo) (λhq=>hj _ ⟨rfl,hw.2 (by omega)⟩)
theorem yy:∀ (d:Nat) {m:Nat->Nat} {r:ax} {l:Int},g m->zJ r->0<=l->(17 - l).toNat<=d->Ev (λi=>ep (m i) r l) (λ_=>True) fM:=by
 intro d
 induction d with
 | zero=>
  intro m r l hm _ h0 hd
  refine Ev.grow (F:=λn=>ep n r l) hm λm hm=>?_
  show Ev (λi=>gh (m i) (fj (m i)) r l) _ _
  unfold gh
  exact Ev.bk (λ_=>Ev.ok trivial) (λ_=>by omega)
 | succ d ih=>
  intro m r l hm hr h0 hd
  refine Ev.grow (F:=λn=>ep n r l) hm λm hm=>?_
  show Ev (λi=>gh (m i) (fj (m i)) r l) _ _
  unfold gh
  cases hr with
  | @mk k a b c d' subs hl hs=>
   refine Ev.bk (λ_=>Ev.ok trivial) (λ_=>?_)
   refine Ev.jn (λ_=>True) (λv _=>?_) (λj hj=>?_)
   ·refine Ev.jn (λ_=>True) (λv _=>?_) (λj hj=>?_)
    ·refine Ev.iter hm (λ(x:Int)=>0<=x/\x<=subs.length) (λx=>(subs.length - x).toNat) (by omega) ?_;intro x hx next hn;show Ev (λi=>U.br (decide (x<(subs.length:Int))) (U.el subs x _) _) _ _;refine Ev.bk (λh=>?_) (λ_=>Ev.ok trivial);refine Ev.eA (λz hz=>?_);refine Ev.gA (Ev.Y (ih hm (hs z (List.mem_of_getElem? hz)) (by omega) (by omega)) λw _=>?_)
     (repeat' (with_reducible first|refine Ev.gA ?_|refine Ev.eA (λ_ _=>?_)|apply Ev.bK|apply Ev.bE|(first|apply Ev.bk|apply Ev.W|apply Ev.cr|apply Ev.bz|apply Ev.br)<;>intro _|(apply Ev.lK;try dsimp only)))
     ·exact Ev.ok trivial
     exact hn _ (by omega) (by omega)
    (repeat' (with_reducible first|refine Ev.gA ?_|refine Ev.eA (λ_ _=>?_)|apply Ev.bK|apply Ev.bE|(first|apply Ev.bk|apply Ev.W|apply Ev.cr|apply Ev.bz|apply Ev.br)<;>intro _|(apply Ev.lK;try dsimp only)))
    all_goals first|exact Ev.ok trivial|exact hj _ trivial
   ·(repeat' (with_reducible first|refine Ev.gA ?_|refine Ev.eA (λ_ _=>?_)|apply Ev.bK|apply Ev.bE|(first|apply Ev.bk|apply Ev.W|apply Ev.cr|apply Ev.bz|apply Ev.br)<;>intro _|(apply Ev.lK;try dsimp only)))
    all_goals first|exact Ev.ok trivial|exact hj _ trivial
theorem tN {m:Nat->Nat} (hm:g m) {s:ByS}:Ev (λi=>iJ (m i) s) (λ_=>True) fM:=by
 unfold iJ;refine Ev.bk (λ_=>Ev.ok trivial) (λ_=>?_);refine Ev.jh (R':=RP) ?_ ?_
 ·refine Ev.Y ((Le (s:=s) (by omega) (8*(s.length - 0:Int).toNat+7)).alt hm ⟨rfl,by simp,by simp⟩ (by simp)) λy hy=>?_;refine Ev.jn (λ_=>True) (λv _=>?_) (λj hj=>?_)
  ·unfold nt;refine Ev.fQ (Ev.bind (yy 17 hm hy.2.2 (by omega) (by simp)) (λ_ q=>q) λz _=>Ev.ok trivial) λz (_:True)=>?_
   (repeat' (with_reducible first|refine Ev.gA ?_|refine Ev.eA (λ_ _=>?_)|apply Ev.bK|apply Ev.bE|(first|apply Ev.bk|apply Ev.W|apply Ev.cr|apply Ev.bz|apply Ev.br)<;>intro _|(apply Ev.lK;try dsimp only)))
   all_goals exact Ev.ok trivial
  exact Ev.bk (λ_=>uo) (λ_=>hj _ trivial)
 rintro p ⟨v,rfl⟩;refine Ev.qJ ?_;unfold nN;exact Ev.ok trivial
end Go.Abs
end
section
namespace Go.Abs
open U
theorem vx {α β X Y:Type} {V:α->β->Prop} {I:X->Y->Prop} {body:(X->U α)->X->U α} {body':Nat->(Y->U β)->Y->U β}
  (hb:∀ k v w,I v w->∀ next':Nat->Y->U β,(∀ v w,I v w->PO (λa=>Ev (λi=>next' i w) (V a) fM) (iter body k v))->PO (λa=>Ev (λi=>body' i (next' i) w) (V a) fM) (body (iter body k) v)) :
  ∀ (n:Nat) {m:Nat->Nat},g m->∀ v w,I v w->PO (λa=>Ev (λi=>iter (body' i) (m i) w) (V a) fM) (iter body n v)
 | 0,_,_,_,_,_=>PO.nil
 | n+1,m,hm,v,w,hI=>λa e=>by
  obtain ⟨r,h1,N,hN⟩:=hb n v w hI (λi=>iter (body' i) (m i - 1)) (λv w h=>vx hb n hm.pred v w h) a e
  obtain ⟨M,hM⟩:=hm 1
  refine ⟨r,h1,N+M,λi hi=>?_⟩
  have h2:=hM i (by omega)
  rw[<- hN i (by omega)]
  obtain ⟨q,hq⟩:∃ q,m i=q+1:=⟨m i - 1,by omega⟩
  simp only[hq];rfl
structure RQ (p:L):Prop where
 h0:0<=p.at_
 h1:p.at_<=p.text.length
 h2:p.text.length<=1000
abbrev RR (p:L):P:=⟨p.text,p.at_,false⟩
abbrev up (p:L) (k:Int):L:=⟨p.text,p.at_+k⟩
def cv (p:L):Int:=match p.text[p.at_.toNat]? with|some b=>(b.toNat:Int)|none=>0
section
variable {p:L} {n:Nat}
theorem nZ {c:Int} (hp:RQ p) (h:cv p=c) (hc:c≠0):p.at_<p.text.length:=by
 unfold cv at h;split at h
 ·rename_i b hb;have:=(List.getElem?_eq_some_iff.1 hb).1;have:=hp.h0;omega
 exact absurd h.symm hc
theorem Ka {b:UInt8} (h:p.text[p.at_.toNat]?=some b):cv p=b.toNat:=by unfold cv;rw[h]
theorem sH (hp:RQ p) (h:p.at_<p.text.length):∃ b,p.text[p.at_.toNat]?=some b/\cv p=b.toNat:=by
 have:=hp.h0;have hl:p.at_.toNat<p.text.length:=by omega
 exact ⟨_,List.getElem?_eq_getElem hl,Ka (List.getElem?_eq_getElem hl)⟩
theorem RQ.up {k:Int} (hp:RQ p) (h0:0<=p.at_+k) (h:p.at_+k<=p.text.length):RQ (up p k):=⟨h0,h,hp.h2⟩
theorem ky {x:Int} (h0:-100000<=x) (h1:x<=100000):J x:=by unfold J;omega
theorem mo (hp:RQ p):bP p=.ok (cv p,p):=by
 unfold bP kp;by_cases h:p.at_<p.text.length
 ·obtain ⟨b,hb,hc⟩:=sH hp h;rw[hc,decide_eq_true h];show U.el _ _ _=_;unfold U.el;rw[if_pos hp.h0,hb]
 have:p.text[p.at_.toNat]?=none:=List.getElem?_eq_none (by have:=hp.h0;omega);simp[U.br,h,cv,this]
theorem mO {c:Int} (hp:RQ p) (hc:c≠0):bH c (RR p)=.ok (decide (cv p=c),if cv p=c then RR (up p 1) else RR p):=by
 unfold bH kp;by_cases h:p.at_<p.text.length
 ·obtain ⟨b,hb,hb'⟩:=sH hp h;have h':¬(p.at_>=(p.text.length:Int)):=by omega
  have hi:J (p.at_+1):=ky (by have:=hp.h0;omega) (by have:=hp.h1;have:=hp.h2;omega);rw[hb'];by_cases e:(b.toNat:Int)=c
  ·simp[kp,U.br,U.el,U.gd,h',hp.h0,hb,e,hi,RR,up]
  have e2:((b.toNat:Int) !=c)=true:=by simpa using e
  simp[kp,U.br,U.el,U.gd,h',hp.h0,hb,e,e2,RR]
 have h':p.at_>=(p.text.length:Int):=by omega
 have hn:¬cv p=c:=λe=>h (nZ hp e hc);simp[kp,U.br,h',hn,RR]
theorem ry:dM (RR p)=.ok (decide (p.at_<p.text.length),RR p):=by
 unfold dM kp;simp[kp,U.br,RR]
theorem tZ {m:Nat->Nat} (hm:g m) {b:UInt8}:Ev (λi=>kc (m i) (b.toNat:Int)) (λy=>y=decide (b∈([40,41,91,93,123,125,124,42,43,63,46,92]:ByS))) fM:=by
 unfold kc;generalize hl:([40,41,91,93,123,125,124,42,43,63,46,92]:ByS)=l;have hl2:l.length=12:=by rw[<- hl];rfl
 refine Ev.iter hm (λ(v:Int)=>0<=v/\v<=l.length/\b ∉ l.take v.toNat) (λv=>(l.length - v).toNat) ⟨by omega,by omega,by simp⟩ ?_;intro v hv next hn;refine Ev.br (λh=>Ev.el hv.1 (by simpa using h) λx hx=>Ev.br (λe=>Ev.ok ?_) (λe=>Ev.gd (ky (by omega) (by omega)) (hn _ ⟨by omega,?_,?_⟩ ?_))) (λh=>Ev.ok ?_)
 ·have:x=b:=UInt8.toNat_inj.1 (by have:(x.toNat:Int)=b.toNat:=(by simpa using e);omega)
  subst this;simp[List.mem_of_getElem? hx]
 ·simp at h;omega
 ·have e1:(v+1).toNat=v.toNat+1:=by omega
  have:x≠b:=λq=>by subst q;simp at e
  rw[e1,List.take_add_one,hx];simp;exact ⟨hv.2.2,Ne.symm this⟩
 ·simp at h;omega
 have:v.toNat=l.length:=by simp at h;omega
 have h3:=hv.2.2;rw[this,List.take_length] at h3;simp[h3]
theorem Hq {l:ByS} {b:UInt8}:PO (λy=>0<=y↔b∈l) (strings_IndexByte l (b.toNat:Int)):=by
 unfold strings_IndexByte;refine PO.ok ?_;have e:UInt8.ofNat (b.toNat:Int).toNat=b:=by simp
 rw[e];cases h:l.findIdx? (·==b) with
 | none=>
  rw[List.findIdx?_eq_none_iff] at h
  simp
  exact λq=>by simpa using h b q
 | some i=>
  have:=List.findIdx?_eq_some_iff_getElem.1 h
  obtain ⟨h1,h2,_⟩:=this
  simp
  have:l[i]=b:=by simpa using h2
  exact this▸List.getElem_mem h1
def HX (c d:Int):Prop:=(48<=c/\c<=57/\d=c - 48)\/(97<=c/\c<=102/\d=c - 87)\/(65<=c/\c<=70/\d=c - 55)
theorem HX.r {c d:Int} (h:HX c d):0<=d/\d<=15:=by unfold HX at h;omega
theorem Kb {x:Int} (h0:0<=x) (h1:x<256):IntKind.wrap .u8 x=x:=by
 simp[IntKind.wrap,IntKind.bits,IntKind.signed];omega
theorem EH {c:Int}:PO (λr=>r.2=true->HX c r.1) (ma c):=by
 unfold ma;refine PO.jn (λv=>v=true->48<=c/\c<=57) (λv hv=>PO.br (λh=>PO.ok λ_=>?_) (λ_=>PO.jn (λv=>v=true->97<=c/\c<=102) (λv hv=>PO.br (λh=>PO.ok λ_=>?_) (λ_=>PO.br (λh1=>PO.br (λh2=>PO.ok λ_=>?_) (λ_=>PO.ok λh=>by cases h)) (λ_=>PO.ok λh=>by cases h))) (λk hk=>PO.br (λh=>hk _ λq=>⟨by simpa using h,by simpa using q⟩) (λ_=>hk _ λh=>by cases h)))) (λk hk=>PO.br (λh=>hk _ λq=>⟨by simpa using h,by simpa using q⟩) (λ_=>hk _ λh=>by cases h))
 ·have:=hv h;dsimp only;rw[Kb (by omega) (by omega)];exact .inl ⟨by omega,by omega,rfl⟩
 ·have:=hv h;dsimp only;rw[Kb (x:=c - 97) (by omega) (by omega),Kb (by omega) (by omega)];exact .inr (.inl ⟨by omega,by omega,by omega⟩)
 simp at h1 h2;dsimp only;rw[Kb (x:=c - 65) (by omega) (by omega),Kb (by omega) (by omega)];exact .inr (.inr ⟨by omega,by omega,by omega⟩)
theorem Kc {c d:Int} (h:HX c d):kD c=.ok d:=by
 unfold kD;have hd:=h.r;rcases h with ⟨h1,h2,rfl⟩|⟨h1,h2,rfl⟩|⟨h1,h2,rfl⟩
 ·simp[U.jn,U.br,h1,h2,Kb (x:=c - 48) (by omega) (by omega),wrap_i64 (x:=c - 48) (by omega) (by omega)]
 ·have e1:IntKind.wrap .i64 (IntKind.wrap .u8 (c - 97))+10=c - 87:=by rw[Kb (by omega) (by omega),wrap_i64 (by omega) (by omega)];omega
  have:¬c<=57:=by omega
  have h48:48<=c:=by omega
  simp[U.jn,U.br,U.gd,h1,h2,this,h48,e1,ky (x:=c - 87) (by omega) (by omega)]
 have e1:IntKind.wrap .i64 (IntKind.wrap .u8 (c - 65))+10=c - 55:=by rw[Kb (by omega) (by omega),wrap_i64 (by omega) (by omega)];omega
 have a1:¬c<=57:=by omega
 have a2:¬97<=c:=by omega
 have h48:48<=c:=by omega
 simp[U.jn,U.br,U.gd,h1,h2,a1,a2,h48,e1,ky (x:=c - 55) (by omega) (by omega)]
end
end Go.Abs
end
section
namespace Go.Abs
open U
abbrev Ii:ByS:=[40,41,91,93,123,125,124,42,43,63,46,92]
def EB (b:UInt8) (v:Int):Prop:=(b=110/\v=10)\/(b=116/\v=9)\/(b=114/\v=13)\/((b∈Ii\/b=94\/b=45)/\v=b.toNat)
structure H2 (lo:Int) (p:L) (v:Int):Prop where
 x:∃ a b d e,HX a d/\HX b e/\cv p=a/\cv (up p 1)=b/\v=d*16+e
 l:p.at_+2<=p.text.length
 b:∃ d,HX (cv p) d/\lo<=d*16+15
 v:lo<=v
theorem uq {b:UInt8} {c:Nat} (h:(b.toNat:Int)=c) (hc:c<256):b=UInt8.ofNat c:=by
 have:b.toNat=c:=by omega
 exact UInt8.toNat_inj.1 (by rw[this];simp;omega)
theorem yz {d e:Int} (hd:0<=d/\d<=15) (he:0<=e/\e<=15):sJ .u8 (lS .u8 d 4) e=d*16+e:=by
 obtain ⟨d,rfl⟩:=Int.eq_ofNat_of_zero_le hd.1;obtain ⟨e,rfl⟩:=Int.eq_ofNat_of_zero_le he.1;have h1:d<16:=by omega
 have h2:e<16:=by omega
 have key:∀ d:Fin 16,∀ e:Fin 16,sJ .u8 (lS .u8 ((d.val:Nat):Int) 4) ((e.val:Nat):Int)=((d.val:Nat):Int)*16+((e.val:Nat):Int):=by decide +kernel
 exact key ⟨d,h1⟩ ⟨e,h2⟩
section
variable {p:L} {n:Nat} {lo:Int}
theorem Lf (hp:RQ p) (hx:cv p=120):PO (λr=>r.2=up p 3/\H2 lo (up p 1) r.1) (dE n lo p):=by
 have hlt:=nZ hp hx (by decide);have hp1:RQ (up p 1):=hp.up (by have:=hp.h0;omega) (by omega);unfold dE;refine PO.iter (λv=>v=(p,0,0)\/(∃ d,HX (cv (up p 1)) d/\lo<=d*16+15/\v=(up p 1,d,1))\/∃ d e,HX (cv (up p 1)) d/\HX (cv (up p 2)) e/\lo<=d*16+15/\lo<=d*16+e/\v=(up p 2,d*16+e,2)) (.inl rfl) λnext v hn hv=>?_;have up2:up (up p 1) 1=up p 2:=by simp only[up];congr 1;omega
 rcases hv with rfl|⟨d,hd,hl,rfl⟩|⟨d,e,hd,he,hl,hl2,rfl⟩
 ·refine PO.br (λ_=>PO.gd λ_=>PO.gd λ_=>?_) (λh=>by simp at h);dsimp only;rw[mo hp1];refine PO.bind (W:=λy=>y=(cv (up p 1),up p 1)) (PO.ok rfl) λy hy=>?_;subst hy;refine PO.bind EH λz hz=>PO.gd λ_=>PO.jn (λv=>v=false->HX (cv (up p 1)) z.1/\lo<=z.1*16+15) (λw hw=>PO.br (λ_=>PO.any λ_ h=>by cases h) (λhb=>PO.gd λ_=>hn _ (.inr (.inl ⟨z.1,(hw hb).1,(hw hb).2,?_⟩)))) (λk hk=>?_)
  ·have:=(hw hb).1.r;have e0:sJ .u8 (lS .u8 0 4) z.1=z.1:=by have:=yz (d:=0) (by decide) this;simpa using this
   rw[e0];rfl
  refine PO.br (λ_=>hk _ λh=>by cases h) (λhz2=>PO.br (λ_=>PO.gd λ_=>PO.br (λ_=>hk _ λh=>by cases h) (λhb=>PO.br (λh=>by cases h) (λ_=>hk _ λ_=>?_))) (λh=>by cases h));have hx:=hz (by simpa using hz2);have e0:sJ .u8 (lS .u8 0 4) z.1=z.1:=by have:=yz (d:=0) (by decide) hx.r;simpa using this
  have e1:sJ .u8 (lS .u8 z.1 4) 15=z.1*16+15:=yz hx.r (by decide);have hb0:decide (sJ .u8 (lS .u8 (sJ .u8 (lS .u8 0 4) z.1) 4) 15<lo)=false:=hb;have hb':¬(sJ .u8 (lS .u8 (sJ .u8 (lS .u8 0 4) z.1) 4) 15<lo):=by simpa using hb0
  rw[e0,e1] at hb';exact ⟨hx,by omega⟩
 ·refine PO.br (λ_=>PO.gd λ_=>PO.gd λ_=>?_) (λh=>by simp at h);dsimp only;have hx1:cv (up p 1)≠0:=by unfold HX at hd;omega
  have hlt1:=nZ hp1 rfl hx1;have hp2:RQ (up p 2):=hp.up (by have:=hp.h0;omega) (by dsimp only [up] at hlt1;omega);have e2:(⟨p.text,p.at_+1+1⟩:L)=up p 2:=up2;rw[e2,mo hp2];refine PO.bind (W:=λy=>y=(cv (up p 2),up p 2)) (PO.ok rfl) λy hy=>?_;subst hy;refine PO.bind EH λz hz=>PO.gd λ_=>PO.jn (λv=>v=false->HX (cv (up p 2)) z.1/\lo<=d*16+z.1) (λw hw=>PO.br (λ_=>PO.any λ_ h=>by cases h) (λhb=>PO.gd λ_=>hn _ (.inr (.inr ⟨d,z.1,hd,(hw hb).1,hl,(hw hb).2,?_⟩)))) (λk hk=>?_)
  ·rw[yz hd.r (hw hb).1.r];rfl
  refine PO.br (λ_=>hk _ λh=>by cases h) (λhz2=>PO.br (λh=>by cases h) (λ_=>PO.br (λ_=>hk _ λhb=>?_) (λh=>by cases h)));have hx:=hz (by simpa using hz2);rw[yz hd.r hx.r] at hb;exact ⟨hx,by simpa using hb⟩
 refine PO.br (λh=>by simp at h) (λ_=>PO.gd λ_=>PO.ok ⟨?_,⟨_,_,d,e,hd,he,rfl,by rw[up2],rfl⟩,?_,⟨d,hd,hl⟩,hl2⟩)
 ·simp only[up];congr 1;omega
 have hx2:cv (up p 2)≠0:=by unfold HX at he;omega
 have hx1:cv (up p 1)≠0:=by unfold HX at hd;omega
 have hlt1:=nZ hp1 rfl hx1;have hp2:RQ (up p 2):=hp.up (by have:=hp.h0;omega) (by dsimp only [up] at hlt1;omega);have:=nZ hp2 rfl hx2;dsimp only [up] at this ⊢;omega
theorem Js {b:UInt8} (h:b∈([40,41,91,93,123,125,124,42,43,63,46,92,45,94]:ByS)):b∈Ii\/b=94\/b=45:=by
 simp only[List.mem_cons,List.not_mem_nil,or_false] at h ⊢;rcases h with h|h|h|h|h|h|h|h|h|h|h|h|h|h<;>simp only[h,true_or,or_true]
theorem An (hp:RQ p) (hx:cv p=92):PO (λr=>lo<=r.1/\((cv (up p 1)=120/\r.2=up p 4/\H2 lo (up p 2) r.1)\/(r.2=up p 2/\p.at_+2<=p.text.length/\∃ b:UInt8,cv (up p 1)=b.toNat/\EB b r.1))) (cP n lo p):=by
 have hlt:=nZ hp hx (by decide);have hp1:RQ (up p 1):=hp.up (by have:=hp.h0;omega) (by omega);unfold cP kp;refine PO.gd λ_=>?_;rw[mo hp1];refine PO.bind (W:=λy=>y=(cv (up p 1),up p 1)) (PO.ok rfl) λy hy=>?_;subst hy;refine PO.jn (λv=>v.1=up p 1/\p.at_+2<=p.text.length/\∃ b:UInt8,cv (up p 1)=b.toNat/\EB b v.2) (λv hv=>?_) (λk hk=>?_)
 ·obtain ⟨vp,vc⟩:=v;obtain ⟨h1,h2,h3⟩:=hv;dsimp only at h1 h3;subst h1;refine PO.jn (λw=>w=up p 1/\lo<=vc) (λw hw=>PO.gd λ_=>PO.ok ⟨hw.2,.inr ⟨?_,h2,h3⟩⟩) (λk hk=>PO.br (λ_=>PO.any λ_ h=>by cases h) (λhb=>hk _ ⟨rfl,by simpa using hb⟩));rw[hw.1];simp only[up];congr 1;omega
 refine PO.br (λ_=>PO.any λ_ h=>by cases h) (λhlt1=>?_);have hlt1:(up p 1).at_<(up p 1).text.length:=by simpa using hlt1
 have h2:p.at_+2<=p.text.length:=by dsimp only [up] at hlt1;omega
 obtain ⟨b,hb,hcb⟩:=sH hp1 hlt1;have hbv:∀ {c:Nat},cv (up p 1)=(c:Int)->c<256->b=UInt8.ofNat c:=λ{c} h hc=>uq (hcb▸h) hc;refine PO.br (λh120=>PO.bind (Lf hp1 (by simpa using h120)) λz hz=>PO.ok ⟨hz.2.v,.inl ⟨by simpa using h120,?_,?_⟩⟩) (λ_=>?_)
 ·rw[hz.1];simp only[up];congr 1;omega
 ·have e:up (up p 1) 1=up p 2:=by simp only[up];congr 1;omega
  rw[<- e];exact hz.2
 refine PO.br (λh=>hk _ ⟨rfl,h2,b,hcb,.inl ⟨hbv (c:=110) (by simpa using h) (by decide),rfl⟩⟩) (λ_=>PO.br (λh=>hk _ ⟨rfl,h2,b,hcb,.inr (.inl ⟨hbv (c:=116) (by simpa using h) (by decide),rfl⟩)⟩) (λ_=>PO.br (λh=>hk _ ⟨rfl,h2,b,hcb,.inr (.inr (.inl ⟨hbv (c:=114) (by simpa using h) (by decide),rfl⟩))⟩) (λ_=>?_)));have hix:PO (λy=>0<=y↔b∈([40,41,91,93,123,125,124,42,43,63,46,92,45,94]:ByS)) (strings_IndexByte [40,41,91,93,123,125,124,42,43,63,46,92,45,94] (cv (up p 1))):=by rw[hcb];exact Hq
 exact PO.bind hix λz hz=>PO.br (λ_=>PO.any λ_ h=>by cases h) (λh=>hk _ ⟨rfl,h2,b,hcb,.inr (.inr (.inr ⟨Js (hz.1 (by simpa using h)),hcb⟩))⟩)
theorem CM (hp:RQ p) {v:Int} (h:H2 lo p v):iI lo (RR p)=.ok (v,RR (up p 2)):=by
 obtain ⟨⟨a,b,d,e,hd,he,ha,hb,rfl⟩,hl,⟨d',hd',hlo⟩,hv⟩:=h;subst ha hb;have hdd:d'=d:=by unfold HX at hd hd';omega
 subst hdd;have h0:=hp.h0;have h2:=hp.h2;have hlt:p.at_<p.text.length:=by omega
 obtain ⟨x,hx,hcx⟩:=sH hp hlt;have hp1:RQ (up p 1):=hp.up (by omega) (by omega);have hlt1:(up p 1).at_<(up p 1).text.length:=by dsimp only [up];omega
 obtain ⟨y,hy,hcy⟩:=sH hp1 hlt1;have hm1:dM ⟨p.text,p.at_,false⟩=.ok (decide (p.at_<p.text.length),⟨p.text,p.at_,false⟩):=ry;have hm2:dM ⟨p.text,p.at_+1,false⟩=.ok (decide (p.at_+1<p.text.length),⟨p.text,p.at_+1,false⟩):=ry (p:=up p 1);have hr:=hd.r;have hs:=he.r;rw[hcx] at hd;rw[hcy] at he;have w1:IntKind.wrap .i64 (d'*16)=d'*16:=wrap_i64 (by omega) (by omega);have a1:¬d'<0:=by omega
 have a2:¬e<0:=by omega
 have a3:¬d'*16+15<lo:=by omega
 have a4:¬d'*16+e<lo:=by omega
 have i1:J (d'*16+15):=ky (by omega) (by omega);have i2:J (d'*16+e):=ky (by omega) (by omega);have i3:J (p.at_+1):=ky (by omega) (by omega);have i4:J (p.at_+2):=ky (by omega) (by omega);have hlt':p.at_+1<p.text.length:=hlt1;have h01:0<=p.at_+1:=by omega
 have e3:p.at_+2 - 1=p.at_+1:=by omega
 have e4:p.at_+1+1=p.at_+2:=by omega
 have hy':p.text[(p.at_+1).toNat]?=some y:=hy;have q1:kD (x.toNat:Int)=.ok d':=Kc hd;have q2:kD (y.toNat:Int)=.ok e:=Kc he;unfold iI kp;simp only[kp,lg,U.jn,RR,up,U.br,U.el,U.gd,hm1,hm2,U.bind,hx,hy',q1,q2,h0,h01,i1,i2,i3,i4,w1,a1,a2,a3,a4,e3,e4,hlt,hlt',decide_true,decide_false,if_true,Bool.not_true,Bool.not_false]
end
end Go.Abs
end
section
namespace Go.Abs
open U
section
variable {α β:Type} {Q:α->Prop} {R:sB->Prop} {F G:Nat->U α} {b:Bool}
theorem Ev.bt (h:b=true) (hx:Ev F Q R):Ev (λi=>U.br b (F i) (G i)) Q R:=by subst h;exact hx
theorem Ev.bf (h:b=false) (hx:Ev G Q R):Ev (λi=>U.br b (F i) (G i)) Q R:=by subst h;exact hx
theorem Ev.cf {H:Nat->U β} {a:β} {K:Nat->β->U α} (h:Ev H (λx=>x=a) R) (hk:Ev (λi=>K i a) Q R):Ev (λi=>U.bind (H i) (K i)) Q R:=Ev.Y h λx hx=>hx▸hk
end
section
variable {p:L} {n:Nat} {lo:Int}
theorem Ao {j k l:Int} (h:j+k=l):up (up p j) k=up p l:=by subst h;simp only[up];congr 1;omega
theorem EB.r {b:UInt8} {v:Int} (h:EB b v):0<=v/\v<=255:=by
 rcases h with ⟨_,rfl⟩|⟨_,rfl⟩|⟨_,rfl⟩|⟨_,rfl⟩
 ·decide
 ·decide
 ·decide
 have:=b.toNat_lt;omega
theorem EB.nx {b:UInt8} {v:Int} (h:EB b v):b≠120:=by
 rintro rfl;rcases h with ⟨h,_⟩|⟨h,_⟩|⟨h,_⟩|⟨h|h|h,_⟩<;>revert h<;>decide
theorem H2.r {v:Int} (h:H2 lo p v):0<=v/\v<=255:=by
 obtain ⟨_,_,d,e,hd,he,_,_,rfl⟩:=h.x;have:=hd.r;have:=he.r;omega
theorem Lg {v:Int} {p':L} (hp:RQ p) (hx:cv p=92) (hlo:lo<=v) (h:(cv (up p 1)=120/\p'=up p 4/\H2 lo (up p 2) v)\/(p'=up p 2/\p.at_+2<=p.text.length/\∃ b:UInt8,cv (up p 1)=b.toNat/\EB b v)) :
  RQ p'/\p'.text=p.text/\0<=v/\v<=255/\∀ m,g m->Ev (λi=>eP (m i) lo (RR p)) (λs=>s=(v,RR p')) fM:=by
 have hlt:=nZ hp hx (by decide)
 have h0:=hp.h0
 have hp1:RQ (up p 1):=hp.up (by omega) (by omega)
 rcases h with ⟨h120,rfl,hH⟩|⟨rfl,h2,b,hb,hE⟩
 ·have hl:=hH.l
  dsimp only [up] at hl
  have hp2:RQ (up p 2):=hp.up (by omega) (by omega)
  refine ⟨hp.up (by omega) (by omega),rfl,hH.r.1,hH.r.2,λm hm=>?_⟩
  unfold eP kp
  refine Ev.fh (mO hp (by decide)) (Ev.bt (by simpa using hx) ?_)
  rw[if_pos hx]
  refine Ev.fh (mO hp1 (by decide)) (Ev.bt (by simpa using h120) ?_)
  rw[if_pos h120,Ao (l:=2) (by decide)]
  refine Ev.fh (CM hp2 hH) (Ev.ok ?_)
  rw[Ao (l:=4) (by decide)]
 ·have hp2:RQ (up p 2):=hp.up (by omega) (by omega)
  have hr:=hE.r
  have hn120:¬cv (up p 1)=120:=λq=>hE.nx (uq (c:=120) (by rw[<- hb];exact q) (by decide))
  have hlt1:(up p 1).at_<(up p 1).text.length:=by dsimp only [up];omega
  obtain ⟨b',hb',hcb⟩:=sH hp1 hlt1
  have:b'=b:=UInt8.toNat_inj.1 (by omega)
  subst this
  have hw:IntKind.wrap .i64 (b'.toNat:Int)=b'.toNat:=wrap_i64 (by omega) (by have:=b'.toNat_lt;omega)
  refine ⟨hp2,rfl,hr.1,hr.2,λm hm=>?_⟩
  unfold eP kp
  refine Ev.fh (mO hp (by decide)) (Ev.bt (by simpa using hx) ?_)
  rw[if_pos hx]
  refine Ev.fh (mO hp1 (by decide)) (Ev.bf (by simpa using hn120) ?_)
  rw[if_neg hn120]
  refine Ev.fh ry (Ev.bt (by simpa using hlt1) ?_)
  refine Ev.E3 hp1.h0 hb' ?_
  have hi:J (p.at_+1+1):=ky (by omega) (by have:=hp.h2;omega)
  have e2:p.at_+1+1=p.at_+2:=by omega
  have fin:Ev (λ_:Nat=>br (decide (v>=lo)) (gd (J (p.at_+1+1)) (.ok (v,(P.mk p.text (p.at_+1+1) false)))) (.ok (0,(P.mk p.text (p.at_+1) true)))) (λs=>s=(v,RR (up p 2))) fM:=
   Ev.bt (by simpa using hlo) (Ev.gd hi (Ev.ok (by rw[e2])))
  obtain ⟨c0,hc0⟩:∃ a,kb (b'.toNat:Int)=.ok a:=by
   unfold kb
   cases ((b'.toNat:Int)==110)<;>cases ((b'.toNat:Int)==116)<;>cases ((b'.toNat:Int)==114)<;>exact ⟨_,rfl⟩
  refine Ev.fh hc0 (Ev.jn (λw=>w=v) (λw hw=>hw▸fin) (λj hj=>Ev.cf (tZ hm) ?_))
  rw[hw]
  rcases hE with ⟨rfl,rfl⟩|⟨rfl,rfl⟩|⟨rfl,rfl⟩|⟨h,rfl⟩
  ·cases hc0;exact hj _ rfl
  ·cases hc0;exact hj _ rfl
  ·cases hc0;exact hj _ rfl
  ·by_cases hs:b'∈Ii
   ·exact Ev.bt (by simpa using hs) (hj _ rfl)
   ·refine Ev.bf (by simpa using hs) ?_
    rcases h with h|rfl|rfl
    ·exact absurd h hs
    ·exact hj _ rfl
    ·exact hj _ rfl
theorem Jt {b:UInt8} (h:b ∉ ([40,41,91,93,123,125,124,42,43,63,46,94,45]:ByS)) (h92:b≠92):b ∉ Ii/\b≠94/\b≠45:=by
 simp only[List.mem_cons,List.not_mem_nil,or_false,not_or] at h ⊢;obtain ⟨h1,h2,h3,h4,h5,h6,h7,h8,h9,h10,h11,h12,h13⟩:=h;exact ⟨⟨h1,h2,h3,h4,h5,h6,h7,h8,h9,h10,h11,h92⟩,h12,h13⟩
theorem Hr (hp:RQ p):PO (λr=>RQ r.2/\r.2.text=p.text/\0<=r.1/\r.1<=255/\∀ m,g m->Ev (λi=>eP (m i) lo (RR p)) (λs=>s=(r.1,RR r.2)) fM) (dJ n lo p):=by
 have h0:=hp.h0;unfold dJ kp;rw[mo hp];refine PO.bind (W:=λy=>y=(cv p,p)) (PO.ok rfl) λy hy=>?_;subst hy;refine PO.jn (λw=>w=p/\p.at_<p.text.length/\32<=cv p/\cv p<=126/\lo<=cv p/\cv p≠92/\∀ b:UInt8,cv p=b.toNat->b ∉ ([40,41,91,93,123,125,124,42,43,63,46,94,45]:ByS)) (λw hw=>PO.gd λ_=>PO.ok ?_) (λk hk=>?_)
 ·obtain ⟨rfl,hlt,h32,h126,hlo,h92,hS⟩:=hw;obtain ⟨b,hb,hcb⟩:=sH hp hlt;have hS:=hS b hcb;have hb92:b≠92:=λq=>h92 (by rw[hcb,q];rfl);obtain ⟨s1,s2,s3⟩:=Jt hS hb92;have hw:IntKind.wrap .i64 (b.toNat:Int)=b.toNat:=wrap_i64 (by omega) (by have:=b.toNat_lt;omega);refine ⟨hp.up (by omega) (by omega),rfl,by dsimp only;omega,by dsimp only;omega,λm hm=>?_⟩;unfold eP kp;refine Ev.fh (mO hp (by decide)) (Ev.bf (by simpa using h92) ?_);rw[if_neg h92];refine Ev.fh ry (Ev.bf (by simpa using hlt) (Ev.E3 h0 hb ?_));have hi:J (w.at_+1):=ky (by omega) (by have:=hp.h2;omega);refine Ev.jn (λv=>v=false) (λv hv=>Ev.bf hv (Ev.gd hi (Ev.ok ?_))) (λj hj=>Ev.bf (by simp;omega) (Ev.bf (by simp;omega) (Ev.cf (tZ hm) (Ev.bf (by simpa using s1) (Ev.bf ?_ (Ev.bf ?_ (hj _ ?_)))))))
  ·rw[hw,hcb]
  ·simp;intro q;exact s2 (uq (c:=94) q (by decide))
  ·simp;intro q;exact s3 (uq (c:=45) q (by decide))
  rw[hw];simp;omega
 refine PO.br (λ_=>PO.any λ_ h=>by cases h) (λhge=>PO.br (λh92=>PO.bind (An hp (by simpa using h92)) λz hz=>PO.ok ?_) (λh92=>?_))
 ·exact Lg hp (by simpa using h92) hz.1 hz.2
 have hlt:p.at_<p.text.length:=by simpa using hge
 obtain ⟨b,hb,hcb⟩:=sH hp hlt;refine PO.jn (λw=>w=false->32<=cv p/\cv p<=126/\lo<=cv p/\b ∉ ([40,41,91,93,123,125,124,42,43,63,46,94,45]:ByS)) (λw hw=>PO.br (λ_=>PO.any λ_ h=>by cases h) (λhb=>hk _ ?_)) (λk hk=>?_)
 ·obtain ⟨a1,a2,a3,a4⟩:=hw hb;exact ⟨rfl,hlt,a1,a2,a3,by simpa using h92,λc hc=>(UInt8.toNat_inj.1 (by omega):b=c)▸a4⟩
 have hix:PO (λy=>0<=y↔b∈([40,41,91,93,123,125,124,42,43,63,46,94,45]:ByS)) (strings_IndexByte [40,41,91,93,123,125,124,42,43,63,46,94,45] (cv p)):=by rw[hcb];exact Hq
 refine PO.br (λ_=>hk _ λh=>by cases h) (λa1=>PO.br (λ_=>hk _ λh=>by cases h) (λa2=>PO.br (λ_=>hk _ λh=>by cases h) (λa3=>PO.bind hix λz hz=>hk _ λh=>⟨by simpa using a1,by simpa using a2,by simpa using a3,λq=>?_⟩)));have:=hz.2 q;simp at h;omega
end
end Go.Abs
end
section
namespace Go.Abs
open U
inductive RX:ax->ax->Prop
 | nothing:RX (.mk 0 0 0 0 0 []) (.mk 0 0 0 0 0 [])
 | empty:RX (.mk 1 0 0 0 0 []) (.mk 1 0 0 0 0 [])
 | one {a b c d a' b' c' d':Int}:RX (.mk 2 a b c d []) (.mk 2 a' b' c' d' [])
 | many {k:Int} {l l':List ax} (hk:k=3\/k=4) (h2:2<=l.length) (hl:l.length=l'.length) (h:∀ (i:Nat) (x y:ax),l[i]?=some x->l'[i]?=some y->RX x y):RX (.mk k 0 0 0 0 l) (.mk k 0 0 0 0 l')
 | star {x y:ax} (h:RX x y):RX (.mk 5 0 0 0 0 [x]) (.mk 5 0 0 0 0 [y])
section
variable {m:Nat->Nat}
theorem uN (hm:g m) {a b:Int} (ha:0<=a) (hb:b<=255):Ev (λi=>gQ (m i) a b) (λ_=>True) fM:=by
 unfold gQ kp;refine Ev.iter hm (λ(x:bM×Int)=>0<=x.2) (λx=>(256 - x.2).toNat) ha ?_;intro x hx next hn;refine Ev.br (λh=>?_) (λ_=>Ev.ok trivial);have h:x.2<=b:=by simpa using h
 have hw:=EG hx (by omega:x.2<256);have ht:0<=Int.tmod x.2 64:=by
  have:Int.tmod x.2 64=x.2 % 64:=Int.tmod_eq_emod_of_nonneg hx;rw[this];omega
 exact Ev.gd (by decide) (Ev.gd (by decide) (Ev.gd hw (Ev.gd (by decide) (Ev.gd ht (Ev.gd hw (Ev.gd (ky (by omega) (by omega)) (hn _ (by dsimp only;omega) (by dsimp only;omega))))))))
theorem wc (hm:g m) {a b:bM}:Ev (λi=>lA (m i) a b) (λ_=>True) fM:=by
 unfold lA kp;refine Ev.iter hm (λ(x:bM×Int)=>0<=x.2) (λx=>(4 - x.2).toNat) (by simp) ?_;intro x hx next hn;refine Ev.br (λh=>?_) (λ_=>Ev.ok trivial);have h:x.2<4:=by simpa using h
 exact Ev.gd ⟨hx,h⟩ (Ev.gd ⟨hx,h⟩ (Ev.gd ⟨hx,h⟩ (Ev.gd (ky (by omega) (by omega)) (hn _ (by dsimp only;omega) (by dsimp only;omega)))))
theorem Ju (hm:g m) {a:bM}:Ev (λi=>pZ (m i) a) (λ_=>True) fM:=by
 unfold pZ;refine Ev.iter hm (λ(x:bM×Int)=>0<=x.2) (λx=>(4 - x.2).toNat) (by simp) ?_;intro x hx next hn;refine Ev.br (λh=>?_) (λ_=>Ev.ok trivial);have h:x.2<4:=by simpa using h
 exact Ev.gd ⟨hx,h⟩ (Ev.gd ⟨hx,h⟩ (Ev.gd (ky (by omega) (by omega)) (hn _ (by dsimp only;omega) (by dsimp only;omega))))
end
def Lh (n:Nat) (neg:Bool) (next21:L×bM×Bool->U (ax×L)) (v20:L×bM×Bool):U (ax×L):=
 jn (λ(v23:L)=>U.bind (dJ n 0 v23) λy28=>U.bind (bP y28.2) λy32=>br (y32.1==45) (gd (J (y32.2.at_+1)) (U.bind (dJ n y28.1 (L.mk y32.2.text (y32.2.at_+1))) λy36=>U.bind (fk n y28.1 y36.1) λy37=>U.bind (gD n v20.2.1 y37) λy38=>next21 (y36.2,y38,false))) (U.bind (fk n y28.1 y28.1) λy39=>U.bind (gD n v20.2.1 y39) λy40=>next21 (y32.2,y40,false))) λj24=>br v20.2.2 (j24 (v20.1)) (U.bind (bP v20.1) λy43=>br (y43.1 !=93) (j24 (y43.2)) (gd (J (y43.2.at_+1)) (br neg (U.bind (kL n v20.2.1) λy50=>.ok ((ax.mk 2 y50.x0 y50.x1 y50.x2 y50.x3 []),(L.mk y43.2.text (y43.2.at_+1)))) (.ok ((ax.mk 2 v20.2.1.x0 v20.2.1.x1 v20.2.1.x2 v20.2.1.x3 []),(L.mk y43.2.text (y43.2.at_+1)))))))
def Mg (n:Nat) (neg:Bool) (v10:P×bM):U (ax×P):=br neg (U.bind (pZ n v10.2) λy16=>.ok ((ax.mk 2 y16.x0 y16.x1 y16.x2 y16.x3 []),v10.1)) (.ok ((ax.mk 2 v10.2.x0 v10.2.x1 v10.2.x2 v10.2.x3 []),v10.1))
def M7 (n:Nat) (neg:Bool) (next20:P×bM->U (ax×P)) (v19:P×bM):U (ax×P):=
 br (!v19.1.cF) (U.bind (eP n 0 v19.1) λy26=>jn (λ(v28:P×Int)=>br (!v28.1.cF) (U.bind (gQ n y26.1 v28.2) λy34=>U.bind (lA n v19.2 y34) λy35=>U.bind (bH 93 v28.1) λy37=>br y37.1 (Mg n neg (y37.2,y35)) (next20 (y37.2,y35))) (U.bind (bH 93 v28.1) λy40=>br y40.1 (Mg n neg (y40.2,v19.2)) (next20 (y40.2,v19.2)))) λj29=>U.bind (bH 45 y26.2) λy43=>br y43.1 (U.bind (eP n y26.1 y43.2) λy45=>j29 (y45.2,y45.1)) (j29 (y43.2,y26.1))) (Mg n neg (v19.1,v19.2))
section
variable {p:L} {n:Nat}
abbrev VX (p:L) (a:ax×L) (s:ax×P):Prop:=s.2=RR a.2/\RX a.1 s.1/\RQ a.2/\a.2.text=p.text
theorem Mh (hp:RQ p) (hx:cv p=91) {m:Nat->Nat} (hm:g m):PO (λa=>Ev (λi=>mC (m i) (RR (up p 1))) (VX p a) fM) (gk n p):=by
 have hlt:=nZ hp hx (by decide);have h0:=hp.h0;have hp1:RQ (up p 1):=hp.up (by omega) (by omega);unfold gk mC;refine PO.gd λ_=>?_;rw[mo hp1,mO hp1 (by decide)];refine PO.bind (W:=λy=>y=(cv (up p 1),up p 1)) (PO.ok rfl) λy hy=>?_;subst hy;by_cases h93:cv (up p 1)=93
 ·have hlt1:=nZ hp1 h93 (by decide);have h94:¬cv (up p 1)=94:=by omega
  refine PO.jn (λw=>w=up p 1) (λw hw=>?_) (λk hk=>PO.br (λq=>absurd (by simpa using q) h94) (λ_=>hk _ rfl));subst hw;refine PO.jn (λw=>w=(up p 1,true)) (λw hw=>?_) (λk hk=>PO.br (λ_=>?_) (λq=>absurd (by simpa using q) h94))
  ·subst hw;refine PO.br (λ_=>PO.gd λ_=>PO.ok ?_) (λq=>by cases q);rw[if_pos h93];exact Ev.fh rfl (Ev.bt (by simpa using h93) (Ev.ok ⟨rfl,.nothing,hp1.up (by have:=hp1.h0;omega) (by omega),rfl⟩))
  rw[mo hp1];exact PO.bind (W:=λy=>y=(cv (up p 1),up p 1)) (PO.ok rfl) λy hy=>by subst hy;exact hk _ (by rw[h93];rfl)
 rw[if_neg h93];have key:∀ {q:L} {neg:Bool},RQ q->q.text=p.text->PO (λa=>Ev (λi=>iter (M7 (m i) neg) (m i) (RR q,bM.mk 0 0 0 0)) (VX p a) fM) (iter (Lh n neg) n (q,(bM.mk 0 0 0 0),true)):=by
  intro q neg hq ht;refine vx (I:=λv w=>RQ v.1/\v.1.text=p.text/\w.1=RR v.1/\(v.2.2=true\/cv v.1≠93)) (λk v w hI next' hn=>?_) n hm _ _ ⟨hq,ht,rfl,.inl rfl⟩;obtain ⟨vp,vs,vf⟩:=v;obtain ⟨wr,ws⟩:=w;obtain ⟨hv,hvt,hw,hf⟩:=hI;dsimp only at hv hvt hw hf;subst hw;have tail:∀ {q:L} {s:bM} {lo hi:Int},RQ q->q.text=p.text->0<=lo->hi<=255->PO (λa=>Ev (λi=>U.bind (gQ (m i) lo hi) λy34=>U.bind (lA (m i) ws y34) λy35=>U.bind (bH 93 (RR q)) λy37=>br y37.1 (Mg (m i) neg (y37.2,y35)) (next' i (y37.2,y35))) (VX p a) fM) (iter (Lh n neg) k (q,s,false)):=by
   intro q s lo hi hq ht hlo hhi a e;refine Ev.Y (uN hm hlo hhi) λx _=>Ev.Y (wc hm) λy _=>Ev.fh (mO hq (by decide)) ?_;by_cases h:cv q=93
   ·rw[if_pos h];have hlq:=nZ hq h (by decide);have ha:a.2=up q 1/\∃ b c d f,a.1=.mk 2 b c d f []:=by
     cases k with
     | zero=>cases e
     | succ k=>
      refine (?_:PO (λa=>a.2=up q 1/\∃ b c d f,a.1=.mk 2 b c d f []) _) a e
      show PO _ (Lh n neg _ _)
      unfold Lh
      refine PO.lK (PO.br (λq=>by cases q) λ_=>?_)
      rw[mo hq]
      refine PO.bind (W:=λy=>y=(cv q,q)) (PO.ok rfl) λy hy=>?_
      subst hy
      exact PO.br (λq=>by rw[h] at q;cases q) λ_=>PO.gd λ_=>PO.br (λ_=>PO.any λ_ _=>PO.ok ⟨rfl,_,_,_,_,rfl⟩) λ_=>PO.ok ⟨rfl,_,_,_,_,rfl⟩
    obtain ⟨ar,ap⟩:=a;obtain ⟨rfl,b,c,d,f,rfl⟩:=ha;have hu:RQ (up q 1):=hq.up (by have:=hq.h0;omega) (by omega);unfold Mg;exact Ev.bt (by simpa using h) (Ev.br (λ_=>Ev.Y (Ju hm) λ_ _=>Ev.ok ⟨rfl,.one,hu,ht⟩) λ_=>Ev.ok ⟨rfl,.one,hu,ht⟩)
   rw[if_neg h];exact Ev.bf (by simpa using h) (hn _ _ ⟨hq,ht,rfl,.inr h⟩ a e)
  unfold Lh M7;refine PO.jn (λw=>w=vp) (λw hw=>?_) (λk hk=>PO.br (λ_=>hk _ rfl) (λhb=>?_))
  ·subst hw;refine PO.bind (Hr hv) λa ha=>?_;obtain ⟨hq2,ht2,ha0,ha1,hE⟩:=ha;rw[mo hq2];refine PO.bind (W:=λy=>y=(cv a.2,a.2)) (PO.ok rfl) λy hy=>?_;subst hy;refine PO.br (λh45=>PO.gd λ_=>?_) (λh45=>PO.any λ_ _=>PO.any λ_ _=>?_)
   ·have h45:cv a.2=45:=by simpa using h45
    have hl2:=nZ hq2 h45 (by decide);have hq3:RQ (up a.2 1):=hq2.up (by have:=hq2.h0;omega) (by omega);refine PO.bind (Hr hq3) λb hb=>PO.any λ_ _=>PO.any λ_ _=>?_;obtain ⟨hq4,ht4,hb0,hb1,hE2⟩:=hb;refine (tail (lo:=a.1) (hi:=b.1) hq4 (ht4.trans (ht2.trans hvt)) ha0 hb1).mono λr hr=>?_;refine Ev.bK (Ev.cf (hE m hm) (Ev.jn (λu=>u=(RR b.2,b.1)) (λu hu=>?_) λj hj=>Ev.fh (mO hq2 (by decide)) (Ev.bt (by simpa using h45) ?_)))
    ·subst hu;exact Ev.bK hr
    rw[if_pos h45];exact Ev.cf (hE2 m hm) (hj _ rfl)
   have h45:¬cv a.2=45:=by simpa using h45
   refine (tail (lo:=a.1) (hi:=a.1) hq2 (ht2.trans hvt) ha0 ha1).mono λr hr=>?_;refine Ev.bK (Ev.cf (hE m hm) (Ev.jn (λu=>u=(RR a.2,a.1)) (λu hu=>?_) λj hj=>Ev.fh (mO hq2 (by decide)) (Ev.bf (by simpa using h45) ?_)))
   ·subst hu;exact Ev.bK hr
   rw[if_neg h45];exact hj _ rfl
  dsimp only at hb;subst hb;have h93:=hf.resolve_left (by decide);rw[mo hv];refine PO.bind (W:=λy=>y=(cv vp,vp)) (PO.ok rfl) λy hy=>?_;subst hy;exact PO.br (λ_=>hk _ rfl) (λq=>absurd (by simpa using q) h93)
 by_cases h94:cv (up p 1)=94
 ·have hlt1:=nZ hp1 h94 (by decide);have hp2:RQ (up p 2):=hp.up (by omega) (by dsimp only [up] at hlt1;omega);refine PO.jn (λw=>w=up p 2) (λw hw=>?_) (λk hk=>PO.br (λ_=>PO.gd λ_=>hk _ (Ao (p:=p) (j:=1) (k:=1) (by decide))) (λq=>by simp[h94] at q));subst hw;refine PO.jn (λw=>w=(up p 2,false)) (λw hw=>?_) (λk hk=>PO.br (λq=>by simp[h94] at q) (λ_=>hk _ rfl));subst hw;refine PO.br (λq=>by cases q) (λ_=>(?_:PO _ (iter (Lh n (cv (up p 1)==94)) n (up p 2,bM.mk 0 0 0 0,true))));refine (key hp2 rfl).mono λa ha=>Ev.fh rfl (Ev.bf (by simpa using h93) (Ev.fh (mO hp1 (by decide)) ?_));rw[if_pos h94,Ao (l:=2) (by decide)];have e:decide (cv (up p 1)=94)=(cv (up p 1)==94):=by simp[h94]
  rw[e];exact ha
 refine PO.jn (λw=>w=up p 1) (λw hw=>?_) (λk hk=>PO.br (λq=>absurd (by simpa using q) h94) (λ_=>hk _ rfl));subst hw;refine PO.jn (λw=>w=(up p 1,false)) (λw hw=>?_) (λk hk=>PO.br (λ_=>?_) (λq=>absurd (by simpa using q) h94))
 ·subst hw;refine PO.br (λq=>by cases q) (λ_=>(?_:PO _ (iter (Lh n (cv (up p 1)==94)) n (up p 1,bM.mk 0 0 0 0,true))));refine (key hp1 rfl).mono λa ha=>Ev.fh rfl (Ev.bf (by simpa using h93) (Ev.fh (mO hp1 (by decide)) ?_));rw[if_neg h94];have e:decide (cv (up p 1)=94)=(cv (up p 1)==94):=by simp[h94]
  rw[e];exact ha
 rw[mo hp1];exact PO.bind (W:=λy=>y=(cv (up p 1),up p 1)) (PO.ok rfl) λy hy=>by
  subst hy;have e:((cv (up p 1):Int)==93)=false:=by simpa using h93
  exact hk _ (by rw[e])
end
end Go.Abs
end
section
namespace Go.Abs
open U
section
variable {p:L} {n:Nat} {m:Nat->Nat}
theorem Jv {c:Int}:PO (λr=>r.2=true->c=100\/c=119\/c=115) (jW n c):=by
 unfold jW;exact PO.any λ_ _=>PO.br (λh=>PO.ok λ_=>.inl (by simpa using h)) λ_=>PO.br (λh=>PO.any λ_ _=>PO.any λ_ _=>PO.any λ_ _=>PO.any λ_ _=>PO.any λ_ _=>PO.any λ_ _=>PO.ok λ_=>.inr (.inl (by simpa using h))) λ_=>PO.br (λh=>PO.any λ_ _=>PO.any λ_ _=>PO.any λ_ _=>PO.any λ_ _=>PO.any λ_ _=>PO.ok λ_=>.inr (.inr (by simpa using h))) λ_=>PO.ok λh=>by cases h
theorem Hs (hm:g m) {c:Int}:Ev (λi=>oW (m i) c) (λr=>c=100\/c=119\/c=115->r.2=true) fM:=by
 have O:∀ {a b:Int},0<=a->b<=255->Ev (λi=>gQ (m i) a b) (λ_=>True) fM:=λh h'=>uN hm h h';unfold oW;refine Ev.br (λ_=>Ev.Y (O (by decide) (by decide)) λ_ _=>Ev.ok λ_=>rfl) λh1=>?_;refine Ev.br (λ_=>Ev.Y (O (by decide) (by decide)) λ_ _=>Ev.Y (O (by decide) (by decide)) λ_ _=>Ev.Y (wc hm) λ_ _=>Ev.Y (O (by decide) (by decide)) λ_ _=>Ev.Y (O (by decide) (by decide)) λ_ _=>Ev.Y (wc hm) λ_ _=>Ev.Y (wc hm) λ_ _=>Ev.ok λ_=>rfl) λh2=>?_;refine Ev.br (λ_=>Ev.Y (O (by decide) (by decide)) λ_ _=>Ev.Y (O (by decide) (by decide)) λ_ _=>Ev.Y (wc hm) λ_ _=>Ev.Y (O (by decide) (by decide)) λ_ _=>Ev.Y (wc hm) λ_ _=>Ev.ok λ_=>rfl) λh3=>Ev.ok λh=>?_;simp at h1 h2 h3;omega
abbrev Ht (q:L) (s:ax×P):Prop:=s.2=RR q/\∃ a b c d,s.1=.mk 2 a b c d []
theorem Fm {b:UInt8}:∃ a,kb (b.toNat:Int)=.ok a/\a<=255/\(b=110\/b=116\/b=114->0<=a):=by
 unfold kb;cases h1:((b.toNat:Int)==110) with
 | true=>exact ⟨10,rfl,by decide,λ_=>by decide⟩
 | false=>
  cases h2:((b.toNat:Int)==116) with
  | true=>exact ⟨9,rfl,by decide,λ_=>by decide⟩
  | false=>
   cases h3:((b.toNat:Int)==114) with
   | true=>exact ⟨13,rfl,by decide,λ_=>by decide⟩
   | false=>
    refine ⟨-1,rfl,by decide,λh=>?_⟩
    rcases h with rfl|rfl|rfl
    ·cases h1
    ·cases h2
    ·cases h3
theorem CN (hm:g m) (hp1:RQ (up p 1)) {b:UInt8} (hb:(up p 1).text[(up p 1).at_.toNat]?=some b) (h:(b=100\/b=119\/b=115)\/∃ v,EB b v):Ev (λi=>fL (m i) (RR (up p 1))) (Ht (up p 2)) fM:=by
 have hcb:=Ka hb;have hlt:(up p 1).at_<(up p 1).text.length:=by
  have:=(List.getElem?_eq_some_iff.1 hb).1;have:=hp1.h0;omega
 have h120:¬cv (up p 1)=120:=λq=>by
  have:b=120:=uq (c:=120) (by rw[<- hcb];exact q) (by decide);subst this;rcases h with h|⟨v,h⟩
  ·rcases h with h|h|h<;>cases h
  exact h.nx rfl
 unfold fL;refine Ev.fh (mO hp1 (by decide)) (Ev.bf (by simpa using h120) ?_);rw[if_neg h120];refine Ev.fh ry (Ev.bt (by simpa using hlt) (Ev.E3 hp1.h0 hb (Ev.Y (Hs hm) λy hy=>?_)));have hi:J (p.at_+1+1):=ky (by have:=hp1.h0;dsimp only [up] at this;omega) (by have:=hp1.h1;have:=hp1.h2;dsimp only [up] at *;omega);have e2:p.at_+1+1=p.at_+2:=by omega
 have hw:IntKind.wrap .i64 (b.toNat:Int)=b.toNat:=wrap_i64 (by omega) (by have:=b.toNat_lt;omega);obtain ⟨c0,hc0,hc1,hc2⟩:=@Fm b;have h255:=b.toNat_lt;refine Ev.jn (λv=>v.2=true\/b∈Ii\/b=94\/b=45) (λv hv=>?_) (λj hj=>Ev.fh hc0 (Ev.br (λh0=>Ev.Y (uN hm (by simpa using h0) hc1) λ_ _=>hj _ (.inl rfl)) λh0=>hj _ ?_))
 ·refine Ev.jn (λw=>w.2=true) (λw hw=>Ev.bt hw (Ev.gd hi (Ev.ok ⟨by rw[e2],_,_,_,_,rfl⟩))) (λk hk=>?_);refine Ev.jn (λw=>w=true\/v.2=true) (λw hw2=>Ev.br (λ_=>Ev.Y (uN hm (by rw[hw];omega) (by rw[hw];omega)) λ_ _=>hk _ rfl) λhf=>hk _ (hw2.resolve_left (by rw[hf];exact λq=>by cases q))) (λl hl=>Ev.cf (tZ hm) ?_);rcases hv with hv|hv|rfl|rfl
  ·exact Ev.br (λ_=>hl _ (.inl rfl)) λ_=>Ev.br (λ_=>hl _ (.inl rfl)) λ_=>hl _ (.inr hv)
  ·exact Ev.bt (by simpa using hv) (hl _ (.inl rfl))
  ·exact Ev.br (λ_=>hl _ (.inl rfl)) λ_=>Ev.bt rfl (hl _ (.inl rfl))
  exact Ev.br (λ_=>hl _ (.inl rfl)) λ_=>Ev.bf rfl (hl _ (.inl rfl))
 rcases h with h|⟨v,h⟩
 ·exact .inl (hy (by rcases h with rfl|rfl|rfl<;>decide))
 rcases h with ⟨h,_⟩|⟨h,_⟩|⟨h,_⟩|⟨h,_⟩
 ·have:=hc2 (.inl h);simp at h0;omega
 ·have:=hc2 (.inr (.inl h));simp at h0;omega
 ·have:=hc2 (.inr (.inr h));simp at h0;omega
 exact .inr h
theorem Hu (hm:g m) (hp:RQ p) (hlt:p.at_<p.text.length) (h120:cv (up p 1)=120) {v:Int} (h:H2 0 (up p 2) v):Ev (λi=>fL (m i) (RR (up p 1))) (Ht (up p 4)) fM:=by
 have h0:=hp.h0;have hl:=h.l;dsimp only [up] at hl;have hp1:RQ (up p 1):=hp.up (by omega) (by omega);have hp2:RQ (up p 2):=hp.up (by omega) (by omega);unfold fL;refine Ev.fh (mO hp1 (by decide)) (Ev.bt (by simpa using h120) ?_);rw[if_pos h120,Ao (l:=2) (by decide)];refine Ev.fh (CM hp2 h) (Ev.Y (uN hm h.r.1 h.r.2) λ_ _=>Ev.ok ⟨?_,_,_,_,_,rfl⟩);rw[Ao (l:=4) (by decide)]
theorem Kd {c:Int}:PO (λr=>∃ a b d e,r=.mk 2 a b d e []) (kC n c):=by
 unfold kC;exact PO.any λ_ _=>PO.ok ⟨_,_,_,_,rfl⟩
theorem yA {q:L} {a b c d:Int} {s:ax×P} (hq:RQ q) (ht:q.text=p.text) (h:Ht q s):VX p (.mk 2 a b c d [],q) s:=by
 obtain ⟨h1,_,_,_,_,h2⟩:=h;exact ⟨h1,h2▸.one,hq,ht⟩
def MN (n:Nat) (T:bZ) (r:P):U (ax×P):=
 U.bind (bH 41 r) λy23=>br y23.1 (.ok ((ax.mk 1 0 0 0 0 []),y23.2)) (U.bind (T.bQ y23.2) λy27=>U.bind (bH 41 y27.2) λy30=>br (!y30.1) (.ok (y27.1,(P.mk y30.2.S y30.2.At true))) (.ok (y27.1,y30.2)))
abbrev rT (n:Nat):=bb n
structure XQ (n:Nat):Prop where
 alt:∀ {p:L} {m:Nat->Nat},RQ p->g m->PO (λa=>Ev (λi=>bQ (m i) (RR p)) (VX p a) fM) (bo n p)
 Fa:∀ {p:L} {m:Nat->Nat},RQ p->g m->PO (λa=>Ev (λi=>cV (m i) (RR p)) (VX p a) fM) (bI n p)
 Al:∀ {l:List ax} {p:L} {m:Nat->Nat},RQ p->g m->PO (λa=>∃ r,a.1=l++[r]/\mV 64 l.length 1/\Ev (λi=>c7 (m i) (RR p)) (VX p (r,a.2)) fM) (bA n l p)
 piece:∀ {p:L} {m:Nat->Nat},RQ p->g m->PO (λa=>Ev (λi=>c7 (m i) (RR p)) (VX p a) fM) (dw n p)
 atom:∀ {p:L} {m:Nat->Nat},RQ p->g m->PO (λa=>Ev (λi=>fo (m i) (RR p)) (VX p a) fM) (dK n p)
 group:∀ {p:L} {m:Nat->Nat},RQ p->cv p=40->g m->PO (λa=>Ev (λi=>MN (m i) (rT (m i)) (RR (up p 1))) (VX p a) fM) (dv n p)
theorem Hv (ih:XQ n) (hp:RQ p) (hx:cv p=40) (hm:g m):PO (λa=>Ev (λi=>MN (m i) (rT (m i)) (RR (up p 1))) (VX p a) fM) (dv (n+1) p):=by
 have hlt:=nZ hp hx (by decide);have h0:=hp.h0;have hp1:RQ (up p 1):=hp.up (by omega) (by omega);show PO _ (eL n (aw n) p);unfold eL MN;refine PO.gd λ_=>?_;rw[mo hp1];refine PO.bind (W:=λy=>y=(cv (up p 1),up p 1)) (PO.ok rfl) λy hy=>?_;subst hy;refine PO.br (λh41=>PO.gd λ_=>PO.ok ?_) (λh41=>PO.bind (ih.alt hp1 hm) λa ha=>?_)
 ·have h41:cv (up p 1)=41:=by simpa using h41
  have hl1:=nZ hp1 h41 (by decide);refine Ev.fh (mO hp1 (by decide)) (Ev.bt (by simpa using h41) ?_);rw[if_pos h41];exact Ev.ok ⟨rfl,.empty,hp1.up (by have:=hp1.h0;omega) (by omega),rfl⟩
 have h41:¬cv (up p 1)=41:=by simpa using h41
 obtain ⟨s0,⟨_,_,hq,ht⟩,_⟩:=ha.get;refine PO.jn (λw=>w=a.2/\cv a.2=41) (λw hw=>PO.gd λ_=>PO.ok ?_) (λk hk=>?_)
 ·obtain ⟨rfl,hc⟩:=hw;have hl1:=nZ hq hc (by decide);refine Ev.fh (mO hp1 (by decide)) (Ev.bf (by simpa using h41) ?_);rw[if_neg h41];refine Ev.Y ha λs hs=>?_;obtain ⟨s1,s2⟩:=s;obtain ⟨e,hx,_,_⟩:=hs;dsimp only at e;subst e;refine Ev.fh (mO hq (by decide)) (Ev.bf (by simpa using hc) ?_);rw[if_pos hc];exact Ev.ok ⟨rfl,hx,hq.up (by have:=hq.h0;omega) (by omega),ht⟩
 rw[mo hq];refine PO.bind (W:=λy=>y=(cv a.2,a.2)) (PO.ok rfl) λy hy=>?_;subst hy;exact PO.br (λ_=>PO.any λ_ h=>by cases h) λh=>hk _ ⟨rfl,by simpa using h⟩
theorem Jw (ih:XQ n) (hp:RQ p) (hm:g m):PO (λa=>Ev (λi=>fo (m i) (RR p)) (VX p a) fM) (dK (n+1) p):=by
 have h0:=hp.h0;intro a e;refine Ev.grow (F:=λn=>fo n (RR p)) hm λm hm=>?_;show Ev (λi=>jL (m i) (bb (m i)) (RR p)) _ _;revert e;revert a;show PO (λa=>Ev (λi=>jL (m i) (bb (m i)) (RR p)) (VX p a) fM) (fc n (aw n) p);unfold fc jL;rw[mo hp];refine PO.bind (W:=λy=>y=(cv p,p)) (PO.ok rfl) λy hy=>?_;subst hy;have is:∀ {c:Int} {K:Nat->Bool×P->U (ax×P)} {Q:ax×P->Prop},c≠0->¬cv p=c->Ev (λi=>K i (false,RR p)) Q fM->Ev (λi=>U.bind (bH c (RR p)) (K i)) Q fM:=λhc hn hk=>by
  refine Ev.fh (mO hp hc) ?_;rw[if_neg hn,decide_eq_false hn];exact hk
 refine PO.jn (λw=>w=p/\p.at_<p.text.length/\32<=cv p/\cv p<=126/\∀ b:UInt8,cv p=b.toNat->b ∉ Ii) (λw hw=>PO.gd λ_=>PO.bind Kd λr hr=>PO.ok ?_) (λk hk=>?_)
 ·obtain ⟨rfl,hlt,h32,h126,hS⟩:=hw;obtain ⟨b,hb,hcb⟩:=sH hp hlt;have hS:=hS b hcb;obtain ⟨a1,a2,a3,a4,rfl⟩:=hr;have ne:∀ {c:Nat},c<256->UInt8.ofNat c∈Ii->¬cv w=(c:Int):=λhc hmem q=>hS ((uq (by rw[<- hcb];exact q) hc)▸hmem);have h255:=b.toNat_lt;have hw:IntKind.wrap .i64 (b.toNat:Int)=b.toNat:=wrap_i64 (by omega) (by omega);have hi:J (w.at_+1):=ky (by omega) (by have:=hp.h2;omega);have e1:w.at_+1 - 1=w.at_:=by omega
  refine is (by decide) (ne (c:=92) (by decide) (by decide)) (Ev.bE (is (by decide) (ne (c:=46) (by decide) (by decide)) (Ev.bE (is (by decide) (ne (c:=91) (by decide) (by decide)) (Ev.bE (is (by decide) (ne (c:=40) (by decide) (by decide)) (Ev.bE ?_)))))));refine Ev.jn (λv=>v=(RR w,false)) (λv hv=>?_) (λj hj=>Ev.fh ry (Ev.bf (by simpa using hlt) (Ev.E3 h0 hb (Ev.bf (by simp;omega) (Ev.E3 h0 hb (Ev.bf (by simp;omega) (Ev.E3 h0 hb (Ev.cf (tZ hm) (hj _ ?_)))))))))
  ·subst hv;refine Ev.bE (Ev.gd hi (Ev.gd (by rw[e1];exact ky (by omega) (by have:=hp.h1;have:=hp.h2;omega)) ?_));show Ev (λi=>el w.text (w.at_+1 - 1) _) _ _;rw[e1];exact Ev.E3 h0 hb (Ev.Y (uN hm (by rw[hw];omega) (by rw[hw];omega)) λ_ _=>Ev.ok ⟨rfl,.one,hp.up (by omega) (by omega),rfl⟩)
  simp[hS]
 refine PO.br (λ_=>PO.any λ_ h=>by cases h) (λhge=>?_);have hlt:p.at_<p.text.length:=by simpa using hge
 have hp1:RQ (up p 1):=hp.up (by omega) (by omega);refine PO.br (λh40=>PO.bind (ih.group hp (by simpa using h40) hm) λa ha=>PO.ok ?_) (λh40=>?_)
 ·have h40:cv p=40:=by simpa using h40
  refine is (by decide) (by omega) (Ev.bE (is (by decide) (by omega) (Ev.bE (is (by decide) (by omega) (Ev.bE (Ev.fh (mO hp (by decide)) (Ev.bt (by simpa using h40) ?_)))))));rw[if_pos h40];exact ha
 refine PO.br (λh91=>PO.bind (Mh hp (by simpa using h91) hm) λa ha=>PO.ok ?_) (λh91=>?_)
 ·have h91:cv p=91:=by simpa using h91
  refine is (by decide) (by omega) (Ev.bE (is (by decide) (by omega) (Ev.bE (Ev.fh (mO hp (by decide)) (Ev.bt (by simpa using h91) ?_)))));rw[if_pos h91];exact Ev.Y ha λs hs=>Ev.ok hs
 refine PO.br (λh46=>PO.gd λ_=>PO.any λ_ _=>PO.ok ?_) (λh46=>?_)
 ·have h46:cv p=46:=by simpa using h46
  refine is (by decide) (by omega) (Ev.bE (Ev.fh (mO hp (by decide)) (Ev.bt (by simpa using h46) ?_)));rw[if_pos h46];exact Ev.Y (uN hm (by decide) (by decide)) λ_ _=>Ev.ok ⟨rfl,.one,hp1,rfl⟩
 refine PO.br (λh92=>PO.gd λ_=>?_) (λh92=>?_)
 ·have h92:cv p=92:=by simpa using h92
  refine PO.mono (V':=λa=>Ev (λi=>fL (m i) (RR (up p 1))) (VX p a) fM) ?_ λa ha=>?_
  ·have esc:PO (λa=>Ev (λi=>fL (m i) (RR (up p 1))) (VX p a) fM) (U.bind (cP n 0 p) λy47=>U.bind (kC n y47.1) λy48=>.ok (y48,y47.2)):=by
    refine PO.bind (An hp h92) λa ha=>PO.bind Kd λr hr=>PO.ok ?_;obtain ⟨a1,a2,a3,a4,rfl⟩:=hr;rcases ha.2 with ⟨h120,e,hH⟩|⟨e,h2,b,hb,hE⟩
    ·have hl:=hH.l;dsimp only [up] at hl;have hq:RQ a.2:=e▸hp.up (by omega) (by omega);exact (Hu hm hp hlt h120 hH).Ag λs hs=>yA hq (by rw[e]) (e▸hs)
    have hq:RQ a.2:=e▸hp.up (by omega) (by omega);have hlt1:(up p 1).at_<(up p 1).text.length:=by dsimp only [up];omega
    obtain ⟨b',hb',hcb⟩:=sH hp1 hlt1;have:b'=b:=UInt8.toNat_inj.1 (by omega);subst this;exact (CN hm hp1 hb' (.inr ⟨_,hE⟩)).Ag λs hs=>yA hq (by rw[e]) (e▸hs)
   refine PO.br (λhlt1=>PO.gd λ_=>PO.el λb _ hb=>PO.bind Jv λc hc=>PO.br (λhc2=>PO.gd λ_=>PO.ok ?_) (λ_=>esc)) (λ_=>esc);have hl1:p.at_+1<p.text.length:=by simpa using hlt1
   have h3:=hc hc2;have h3:b=100\/b=119\/b=115:=by
    rcases h3 with h|h|h
    ·exact .inl (uq (c:=100) h (by decide))
    ·exact .inr (.inl (uq (c:=119) h (by decide)))
    exact .inr (.inr (uq (c:=115) h (by decide)))
   exact (CN hm hp1 hb (.inl h3)).Ag λs hs=>yA (hp.up (by omega) (by omega)) rfl hs
  refine Ev.fh (mO hp (by decide)) (Ev.bt (by simpa using h92) ?_);rw[if_pos h92];exact Ev.Y ha λs hs=>Ev.ok hs
 obtain ⟨b,hb,hcb⟩:=sH hp hlt;refine PO.jn (λw=>w=false->32<=cv p/\cv p<=126/\b ∉ Ii) (λw hw=>PO.br (λ_=>PO.any λ_ h=>by cases h) (λhb=>hk _ ?_)) (λl hl=>?_)
 ·obtain ⟨a1,a2,a4⟩:=hw hb;exact ⟨rfl,hlt,a1,a2,λc hc=>(UInt8.toNat_inj.1 (by omega):b=c)▸a4⟩
 have hix:PO (λy=>0<=y↔b∈Ii) (strings_IndexByte Ii (cv p)):=by rw[hcb];exact Hq
 refine PO.br (λ_=>hl _ λh=>by cases h) (λa1=>PO.br (λ_=>hl _ λh=>by cases h) (λa2=>PO.bind hix λz hz=>hl _ λh=>⟨by simpa using a1,by simpa using a2,λq=>?_⟩));have:=hz.2 q;simp at h;omega
end
end Go.Abs
end
section
namespace Go.Abs
open U
structure LX (l l':List ax):Prop where
 n:l.length=l'.length
 h:∀ (i:Nat) (x y:ax),l[i]?=some x->l'[i]?=some y->RX x y
theorem LX.one {x y:ax} (h:RX x y):LX [x] [y]:=⟨rfl,λi a b ha hb=>by
 cases i with
 | zero=>cases ha;cases hb;exact h
 | succ i=>cases ha⟩
theorem LX.snoc {l l':List ax} {x y:ax} (h:LX l l') (hx:RX x y):LX (l++[x]) (l'++[y]):=⟨by simp[h.n],λi a b ha hb=>by
 by_cases hi:i<l.length
 ·rw[List.getElem?_append_left hi] at ha;rw[List.getElem?_append_left (by rw[<- h.n];exact hi)] at hb;exact h.h i a b ha hb
 rw[List.getElem?_append_right (by omega)] at ha;rw[List.getElem?_append_right (by rw[<- h.n];omega)] at hb;have e1:=A7 ha;have e2:=A7 hb;subst e1 e2;exact hx⟩
theorem RX.two {k:Int} {a a' b b':ax} (hk:k=3\/k=4) (h:RX a a') (h':RX b b'):RX (.mk k 0 0 0 0 [a,b]) (.mk k 0 0 0 0 [a',b']):=.many hk (Nat.le_refl 2) rfl ((LX.one h).snoc h').h
theorem Hw {k:Int} {l l':List ax} (hk:k=3\/k=4) (h:LX l l') (h1:1<=l.length):PO (λr=>Ev (λ_=>jT k l') (λs=>RX r s) fM) (kl k l):=by
 unfold kl jT;refine PO.br (λhe=>PO.el λx _ hx=>PO.ok ?_) (λhe=>PO.ok ?_)
 ·have hl:l.length=1:=by simp at he;omega
  have hl':l'.length=1:=by rw[<- h.n];exact hl
  refine Ev.bt (by rw[hl'];rfl) (Ev.el (by decide) (by omega) λy hy=>Ev.ok (h.h 0 x y hx hy))
 have hl:¬l.length=1:=by simp at he;omega
 refine Ev.bf (by rw[<- h.n];simp;omega) (Ev.ok (.many hk (by omega) h.n h.h))
section
variable {p:L} {n:Nat} {m:Nat->Nat}
theorem VX.at {a:ax×L} {F:Nat->U (ax×P)} (h:Ev F (VX p a) fM):RQ a.2/\a.2.text=p.text:=by
 obtain ⟨_,⟨_,_,h1,h2⟩,_⟩:=h.get;exact ⟨h1,h2⟩
theorem Hx (ih:XQ n) {l:List ax} (hp:RQ p) (hm:g m):PO (λa=>∃ r,a.1=l++[r]/\mV 64 l.length 1/\Ev (λi=>c7 (m i) (RR p)) (VX p (r,a.2)) fM) (bA (n+1) l p):=by
 show PO _ (cy n (aw n) l p);unfold cy;exact PO.bind (ih.piece hp hm) λa ha=>PO.gd λhg=>PO.ok ⟨a.1,rfl,hg,ha⟩
theorem Hy (ih:XQ n) (hp:RQ p) (hm:g m):PO (λa=>Ev (λi=>c7 (m i) (RR p)) (VX p a) fM) (dw (n+1) p):=by
 intro a e;refine Ev.grow (F:=λn=>c7 n (RR p)) hm λm hm=>?_;show Ev (λi=>jm (m i) (bb (m i)) (RR p)) _ _;revert e;revert a;show PO (λa=>Ev (λi=>jm (m i) (bb (m i)) (RR p)) (VX p a) fM) (eM n (aw n) p);unfold eM jm;refine PO.bind (ih.atom hp hm) λa ha=>?_;obtain ⟨hq,ht⟩:=VX.at ha;intro b hb;refine Ev.Y ha λs hs=>?_;obtain ⟨s1,s2⟩:=s;obtain ⟨e,hx,_,_⟩:=hs;dsimp only at e hx;subst e;revert hb;revert b;refine vx (I:=λv w=>RQ v.1/\v.1.text=p.text/\w.1=RR v.1/\RX v.2 w.2) (λk v w hI next' hn=>?_) n hm _ _ ⟨hq,ht,rfl,hx⟩;obtain ⟨vp,vr⟩:=v;obtain ⟨wr,ws⟩:=w;obtain ⟨hv,hvt,hw,hr⟩:=hI;dsimp only at hv hvt hw hr;subst hw;refine PO.lK ?_;rw[mo hv];refine PO.bind (W:=λy=>y=(cv vp,vp)) (PO.ok rfl) λy hy=>?_;subst hy;have h0:=hv.h0;refine PO.br (λhc=>PO.gd λ_=>?_) λh42=>PO.br (λhc=>PO.gd λ_=>?_) λh43=>PO.br (λhc=>PO.gd λ_=>?_) λh63=>PO.ok ?_
 ·have hc:cv vp=42:=by simpa using hc
  have hl:=nZ hv hc (by decide);intro a e;refine Ev.bK (Ev.fh (mO hv (by decide)) (Ev.bt (by simpa using hc) ?_));rw[if_pos hc];exact hn _ _ ⟨hv.up (by omega) (by omega),hvt,rfl,.star hr⟩ a e
 ·have hc:cv vp=43:=by simpa using hc
  have hl:=nZ hv hc (by decide);have h42:¬cv vp=42:=by omega
  intro a e;refine Ev.bK (Ev.fh (mO hv (by decide)) (Ev.bf (by simpa using h42) ?_));rw[if_neg h42];refine Ev.fh (mO hv (by decide)) (Ev.bt (by simpa using hc) ?_);rw[if_pos hc];exact hn _ _ ⟨hv.up (by omega) (by omega),hvt,rfl,.two (.inl rfl) hr (.star hr)⟩ a e
 ·have hc:cv vp=63:=by simpa using hc
  have hl:=nZ hv hc (by decide);have h42:¬cv vp=42:=by omega
  have h43:¬cv vp=43:=by omega
  intro a e;refine Ev.bK (Ev.fh (mO hv (by decide)) (Ev.bf (by simpa using h42) ?_));rw[if_neg h42];refine Ev.fh (mO hv (by decide)) (Ev.bf (by simpa using h43) ?_);rw[if_neg h43];refine Ev.fh (mO hv (by decide)) (Ev.bt (by simpa using hc) ?_);rw[if_pos hc];exact hn _ _ ⟨hv.up (by omega) (by omega),hvt,rfl,.two (.inr rfl) hr .empty⟩ a e
 have h42:¬cv vp=42:=by simpa using h42
 have h43:¬cv vp=43:=by simpa using h43
 have h63:¬cv vp=63:=by simpa using h63
 refine Ev.bK (Ev.fh (mO hv (by decide)) (Ev.bf (by simpa using h42) ?_));rw[if_neg h42];refine Ev.fh (mO hv (by decide)) (Ev.bf (by simpa using h43) ?_);rw[if_neg h43];refine Ev.fh (mO hv (by decide)) (Ev.bf (by simpa using h63) ?_);rw[if_neg h63];exact Ev.ok ⟨rfl,hr,hv,hvt⟩
theorem Jx (ih:XQ n) (hp:RQ p) (hm:g m):PO (λa=>Ev (λi=>cV (m i) (RR p)) (VX p a) fM) (bI (n+1) p):=by
 intro a e;refine Ev.grow (F:=λn=>cV n (RR p)) hm λm hm=>?_;show Ev (λi=>iu (m i) (bb (m i)) (RR p)) _ _;revert e;revert a;show PO (λa=>Ev (λi=>iu (m i) (bb (m i)) (RR p)) (VX p a) fM) (cG n (aw n) p);unfold cG iu;refine PO.bind (ih.Al (l:=[]) hp hm) λa ha=>?_;obtain ⟨al,ap⟩:=a;obtain ⟨r,e,_,ha⟩:=ha;dsimp only at e;subst e;obtain ⟨hq,ht⟩:=VX.at ha;intro b hb;refine Ev.Y ha λs hs=>?_;obtain ⟨s1,s2⟩:=s;obtain ⟨e,hx,_,_⟩:=hs;dsimp only at e hx hq ht;subst e;revert hb;revert b;refine vx (I:=λv w=>RQ v.1/\v.1.text=p.text/\w.1=RR v.1/\LX v.2 w.2/\1<=v.2.length) (λk v w hI next' hn=>?_) n hm _ _ ⟨hq,ht,rfl,LX.one hx,Nat.le_refl 1⟩;obtain ⟨vp,vl⟩:=v;obtain ⟨wr,wl⟩:=w;obtain ⟨hv,hvt,hw,hl,hl1⟩:=hI;dsimp only at hv hvt hw hl hl1;subst hw;have stop:∀ {K:U (ax×L)->Prop},PO (λa=>Ev (λ_=>U.bind (jT 3 wl) λy25=>.ok (y25,RR vp)) (VX p a) fM) (U.bind (kl 3 vl) λy=>.ok (y,vp)):=λ{K}=>PO.bind (Hw (.inl rfl) hl hl1) λa ha=>PO.ok (Ev.Y ha λs hs=>Ev.ok ⟨rfl,hs,hv,hvt⟩);refine PO.br (λhlt=>?_) λhge=>?_
 ·have hlt:vp.at_<vp.text.length:=by simpa using hlt
  obtain ⟨b,hb,hcb⟩:=sH hv hlt;rw[mo hv];refine PO.bind (W:=λy=>y=(cv vp,vp)) (PO.ok rfl) λy hy=>?_;subst hy;refine PO.br (λh124=>?_) λh124=>?_
  ·rw[mo hv];refine PO.bind (W:=λy=>y=(cv vp,vp)) (PO.ok rfl) λy hy=>?_;subst hy;refine PO.br (λh41=>PO.bind (ih.Al (l:=vl) hv hm) λa ha=>?_) λh41=>?_
   ·obtain ⟨al,ap⟩:=a;obtain ⟨r,e,hg,ha⟩:=ha;dsimp only at e;subst e;obtain ⟨hq,ht⟩:=VX.at ha;dsimp only at hq ht;intro c hc;refine Ev.fh ry (Ev.bt (by simpa using hlt) (Ev.E3 hv.h0 hb (Ev.bt (by rw[<- hcb];exact h124) (Ev.E3 hv.h0 hb (Ev.bt (by rw[<- hcb];exact h41) (Ev.Y ha λs hs=>?_))))));obtain ⟨s1,s2⟩:=s;obtain ⟨e,hx,_,_⟩:=hs;dsimp only at e hx;subst e;exact Ev.gd (by rw[<- hl.n];exact hg) (hn _ _ ⟨hq,ht.trans hvt,rfl,hl.snoc hx,by simp⟩ c hc)
   exact (stop (K:=λ_=>True)).mono λa ha=>Ev.fh ry (Ev.bt (by simpa using hlt) (Ev.E3 hv.h0 hb (Ev.bt (by rw[<- hcb];exact h124) (Ev.E3 hv.h0 hb (Ev.bf (by rw[<- hcb];exact h41) ha)))))
  exact (stop (K:=λ_=>True)).mono λa ha=>Ev.fh ry (Ev.bt (by simpa using hlt) (Ev.E3 hv.h0 hb (Ev.bf (by rw[<- hcb];exact h124) ha)))
 exact (stop (K:=λ_=>True)).mono λa ha=>Ev.fh ry (Ev.bf (by simpa using hge) ha)
theorem Li (ih:XQ n) (hp:RQ p) (hm:g m):PO (λa=>Ev (λi=>bQ (m i) (RR p)) (VX p a) fM) (bo (n+1) p):=by
 intro a e;refine Ev.grow (F:=λn=>bQ n (RR p)) hm λm hm=>?_;show Ev (λi=>fR (m i) (bb (m i)) (RR p)) _ _;revert e;revert a;show PO (λa=>Ev (λi=>fR (m i) (bb (m i)) (RR p)) (VX p a) fM) (cR n (aw n) p);unfold cR fR;refine PO.bind (ih.Fa hp hm) λa ha=>?_;obtain ⟨ar,ap⟩:=a;obtain ⟨hq,ht⟩:=VX.at ha;intro b hb;refine Ev.Y ha λs hs=>?_;obtain ⟨s1,s2⟩:=s;obtain ⟨e,hx,_,_⟩:=hs;dsimp only at e hx hq ht;subst e;revert hb;revert b;refine vx (I:=λv w=>RQ v.1/\v.1.text=p.text/\w.1=RR v.1/\LX v.2 w.2/\1<=v.2.length) (λk v w hI next' hn=>?_) n hm _ _ ⟨hq,ht,rfl,LX.one hx,Nat.le_refl 1⟩;obtain ⟨vp,vl⟩:=v;obtain ⟨wr,wl⟩:=w;obtain ⟨hv,hvt,hw,hl,hl1⟩:=hI;dsimp only at hv hvt hw hl hl1;subst hw;rw[mo hv];refine PO.bind (W:=λy=>y=(cv vp,vp)) (PO.ok rfl) λy hy=>?_;subst hy;refine PO.br (λhc=>PO.gd λ_=>?_) λhc=>PO.bind (Hw (.inr rfl) hl hl1) λa ha=>PO.ok ?_
 ·have hc:cv vp=124:=by simpa using hc
  have hlt:=nZ hv hc (by decide);have hu:RQ (up vp 1):=hv.up (by have:=hv.h0;omega) (by omega);refine PO.bind (ih.Fa (p:=up vp 1) hu hm) λa ha=>PO.gd λhg=>?_;obtain ⟨ar,ap⟩:=a;obtain ⟨hq,ht⟩:=VX.at ha;dsimp only at hq ht;intro c e;refine Ev.fh (mO hv (by decide)) (Ev.bt (by simpa using hc) ?_);rw[if_pos hc];refine Ev.Y ha λs hs=>?_;obtain ⟨s1,s2⟩:=s;obtain ⟨e',hx,_,_⟩:=hs;dsimp only at e' hx;subst e';exact Ev.gd (by rw[<- hl.n];exact hg) (hn _ _ ⟨hq,ht.trans hvt,rfl,hl.snoc hx,by simp⟩ c e)
 have hc:¬cv vp=124:=by simpa using hc
 refine Ev.fh (mO hv (by decide)) (Ev.bf (by simpa using hc) ?_);rw[if_neg hc];exact Ev.Y ha λs hs=>Ev.ok ⟨rfl,hs,hv,hvt⟩
theorem Hz:∀ n,XQ n
 | 0=>⟨λ_ _=>PO.nil,λ_ _=>PO.nil,λ_ _=>PO.nil,λ_ _=>PO.nil,λ_ _=>PO.nil,λ_ _ _=>PO.nil⟩
 | n+1=>have ih:=Hz n
  ⟨Li ih,Jx ih,Hx ih,Hy ih,Jw ih,Hv ih⟩
end
structure M8 (a b:ax):Prop where
 k0:0<=a.Kind
 k5:a.Kind<=5
 z:a.Kind≠2->a.B9=0/\a.Ca=0/\a.Cb=0/\a.Cc=0
 z':a.Kind≠2->b.B9=0/\b.Ca=0/\b.Cb=0/\b.Cc=0
 k:b.Kind=a.Kind
 n:b.B.length=a.B.length
 c:a.Kind<3/\a.B.length=0\/(a.Kind=3\/a.Kind=4)/\2<=a.B.length\/a.Kind=5/\a.B.length=1
 s:∀ (i:Nat) (x y:ax),a.B[i]?=some x->b.B[i]?=some y->RX x y
theorem RX.o {a b:ax} (h:RX a b):M8 a b:=by
 cases h with
 | nothing=>exact ⟨by decide,by decide,λ_=>⟨rfl,rfl,rfl,rfl⟩,λ_=>⟨rfl,rfl,rfl,rfl⟩,rfl,rfl,.inl ⟨by decide,rfl⟩,λi x y h=>by cases h⟩
 | empty=>exact ⟨by decide,by decide,λ_=>⟨rfl,rfl,rfl,rfl⟩,λ_=>⟨rfl,rfl,rfl,rfl⟩,rfl,rfl,.inl ⟨by decide,rfl⟩,λi x y h=>by cases h⟩
 | one=>exact ⟨(by decide:(0:Int)<=2),(by decide:(2:Int)<=5),λh=>absurd rfl h,λh=>absurd rfl h,rfl,rfl,.inl ⟨(by decide:(2:Int)<3),rfl⟩,λi x y h=>by cases h⟩
 | many hk h2 hl h=>
  refine ⟨?_,?_,λ_=>⟨rfl,rfl,rfl,rfl⟩,λ_=>⟨rfl,rfl,rfl,rfl⟩,rfl,hl.symm,.inr (.inl ⟨hk,h2⟩),h⟩
  ·rcases hk with rfl|rfl
   ·exact (by decide:(0:Int)<=3)
   exact (by decide:(0:Int)<=4)
  ·rcases hk with rfl|rfl
   ·exact (by decide:(3:Int)<=5)
   exact (by decide:(4:Int)<=5)
 | star h=>exact ⟨(by decide:(0:Int)<=5),(by decide:(5:Int)<=5),λ_=>⟨rfl,rfl,rfl,rfl⟩,λ_=>⟨rfl,rfl,rfl,rfl⟩,rfl,rfl,.inr (.inr ⟨rfl,rfl⟩),(LX.one h).h⟩
theorem Lj {a b:ax} (h:M8 a b):qA b=.ok 0:=by
 obtain ⟨h0,h5,_,hz,hk,hn,hc,_⟩:=h;unfold qA;rw[hk,hn];have e1:decide (a.Kind<0)=false:=by simpa using h0
 have e2:decide (a.Kind>5)=false:=by simpa using h5
 have e3:br (a.Kind !=2) (br (!([b.B9,b.Ca,b.Cb,b.Cc]==[0,0,0,0])) (.ok 11) (.ok 0)) (.ok 0)=(.ok 0:U Int):=by
  cases hb:a.Kind !=2 with
  | false=>rfl
  | true=>
   obtain ⟨z0,z1,z2,z3⟩:=hz (by simpa using hb)
   rw[z0,z1,z2,z3];rfl
 simp only[lg,U.jn];rcases hc with ⟨hc,hl⟩|⟨hc,hl⟩|⟨hc,hl⟩
 ·have a1:decide (a.Kind<3)=true:=by simpa using hc
  have a2:decide ((a.B.length:Int)>0)=false:=by simp[hl]
  have a3:(a.Kind==3)=false:=by simp;omega
  have a4:(a.Kind==4)=false:=by simp;omega
  have a5:(a.Kind==5)=false:=by simp;omega
  rw[e1,e2,a1,a2,a3,a4,a5];exact e3
 ·have a1:decide (a.Kind<3)=false:=by simp;omega
  have a2:decide ((a.B.length:Int)<2)=false:=by simp;omega
  have a5:(a.Kind==5)=false:=by simp;omega
  rw[e1,e2,a1,a2,a5];cases (a.Kind==3)<;>cases (a.Kind==4)<;>exact e3
 have a1:decide (a.Kind<3)=false:=by simp;omega
 have a3:(a.Kind==3)=false:=by simp;omega
 have a4:(a.Kind==4)=false:=by simp;omega
 have a5:(a.Kind==5)=true:=by simpa using hc
 have a6:((a.B.length:Int) !=1)=false:=by simp[hl]
 rw[e1,e2,a1,a3,a4,a5,a6];exact e3
theorem EI:∀ (n:Nat) {a b:ax} {l:Int},RX a b->PO (λe=>e=9\/e=0/\∀ m,g m->Ev (λi=>ir (m i) b l) (λy=>y=0) fM) (ep n a l)
 | 0,_,_,_,_=>PO.nil
 | n+1,a,b,l,h=>by
  have ho:=h.o;have ih:∀ {a b:ax} {l:Int},RX a b->PO (λe=>e=9\/e=0/\∀ m,g m->Ev (λi=>ir (m i) b l) (λy=>y=0) fM) ((fj n).ep a l):=λh=>EI n h;show PO _ (gh n (fj n) a l);unfold gh;refine PO.br (λ_=>PO.ok (.inl rfl)) λh16=>?_;have k0:=ho.k0;have k5:=ho.k5;have hc:=ho.c;refine PO.jn (λ_=>True) (λ_ _=>?_) λj7 hj=>PO.br (λq=>absurd k0 (by simpa using q)) λ_=>PO.br (λq=>absurd k5 (by simpa using q)) λ_=>PO.br (λh2=>?_) λ_=>hj _ trivial
  ·refine PO.jn (λ_=>True) (λ_ _=>?_) λj11 hj=>PO.jn (λv=>v=true↔a.Kind=3\/a.Kind=4) (λv hv=>PO.br (λh=>PO.br (λq=>?_) λ_=>hj _ trivial) λh=>PO.br (λh5=>PO.br (λq=>?_) λ_=>hj _ trivial) λh5=>PO.br (λq=>?_) λ_=>hj _ trivial) λk hk=>PO.br (λq=>hk _ ⟨λ_=>.inl (by simpa using q),λ_=>q⟩) λq=>hk _ ⟨λr=>.inr (by simpa using r),λr=>by simp at q ⊢;omega⟩
   ·refine PO.iter (λv=>0<=v/\(0<v->J (l+1)/\J v)/\∀ i:Nat,(i:Int)<v->∀ y,b.B[i]?=some y->∀ m,g m->Ev (λi=>ir (m i) y (l+1)) (λy=>y=0) fM) ⟨Int.le_refl 0,λh=>absurd h (by decide),λi hi=>by omega⟩ λnext v hn hv=>PO.br (λ_=>PO.el λx hx0 hx=>PO.gd λhil=>?_) λhlt=>PO.ok (.inr ⟨rfl,λm hm=>?_⟩)
    ·have hvl:v.toNat<a.B.length:=(List.getElem?_eq_some_iff.1 hx).1;have hyl:v.toNat<b.B.length:=by rw[ho.n];exact hvl
     refine PO.bind (ih (ho.s _ _ _ hx (List.getElem?_eq_getElem hyl))) λe he=>PO.br (λhne=>PO.ok ?_) λh0=>PO.gd λhiv=>hn _ ⟨by omega,λ_=>⟨hil,hiv⟩,λi hi y hy=>?_⟩
     ·rcases he with he|he
      ·exact .inl he
      rw[he.1] at hne;cases hne
     by_cases q:(i:Int)<v
     ·exact hv.2.2 i q y hy
     have:i=v.toNat:=by omega
     subst this;rw[List.getElem?_eq_getElem hyl] at hy;cases hy;rcases he with he|he
     ·rw[he] at h0;cases h0
     exact he.2
    refine Ev.grow (F:=λn=>ir n b l) hm λm hm=>?_;show Ev (λi=>mN (m i) (mB (m i)) b l) _ _;unfold mN;have h16':l<=16:=by simpa using h16
    refine Ev.bf h16 (Ev.fh (Lj ho) (Ev.bE ?_));have hlen:(a.B.length:Int)<=v:=by simpa using hlt
    refine Ev.iter hm (λ(w:Int)=>0<=w/\w<=b.B.length) (λw=>(b.B.length - w).toNat) (by simp) ?_;intro w hw next hn;refine Ev.br (λq=>?_) λ_=>Ev.ok rfl;have q:w<b.B.length:=by simpa using q
    have hbn:=ho.n;obtain ⟨hil,hiv⟩:=hv.2.1 (by omega);refine Ev.el hw.1 q λy hy=>Ev.gd hil (Ev.cf (hv.2.2 w.toNat (by omega) y hy m hm) (Ev.bE (Ev.gd ?_ (hn _ (by omega) (by omega)))));unfold J at hiv ⊢;omega
   ·have:=hv.1 h;simp at q;omega
   ·have q:=bne_iff_ne.1 q;simp at h5;omega
   have:¬(a.Kind=3\/a.Kind=4):=λr=>by rw[hv.2 r] at h;cases h
   have q:=bne_iff_ne.1 q;simp at h5;omega
  obtain ⟨z0,z1,z2,z3⟩:=ho.z (by simpa using h2);rw[z0,z1,z2,z3];exact PO.br (λq=>by cases q) λ_=>hj _ trivial
theorem HA {n:Nat} {s:ByS} {m:Nat->Nat} (hm:g m):PO (λr=>r.2.Errno=0->Ev (λi=>oX (m i) s) (λy=>y.2.Errno=0) fM) (iJ n s):=by
 unfold iJ;refine PO.br (λ_=>PO.ok λh=>by cases h) λhlen=>PO.jh ?_ λp=>PO.qJ λv=>PO.bind (PO.ok (V:=λr=>r.2.Errno=8) rfl) λr hr=>PO.ok λh=>?_
 ·have hl:s.length<=1000:=by simp at hlen;omega
  have hp:RQ ⟨s,0⟩:=⟨Int.le_refl 0,by dsimp only;omega,hl⟩;refine PO.bind ((Hz n).alt hp hm) λa ha=>?_;obtain ⟨hq,ht⟩:=VX.at ha;refine PO.jn (λw=>¬(a.2.at_<(s.length:Int))) (λw hw=>?_) λk hk=>PO.br (λ_=>PO.any λ_ h=>by cases h) λh=>hk _ (by simpa using h);obtain ⟨b,hb,hN⟩:=ha.get;refine PO.bind (W:=λe=>e=9\/e=0/\Ev (λi=>oV (m i) b.1) (λy=>y=0) fM) ?_ λe he=>PO.br (λ_=>PO.ok λh=>by cases h) λh9=>PO.ok λ_=>?_
  ·unfold nt oV;refine PO.bind (EI n hb.2.1) λe he=>PO.ok (he.imp_right λ⟨h0,h⟩=>⟨h0,Ev.Y (h m hm) λ_ h=>Ev.ok h⟩)
  have he:=(he.resolve_left (by simpa using h9)).2;unfold oX;refine Ev.bf hlen (Ev.cf (a:=b) (Ev.of_eq (N:=hN.choose) hN.choose_spec rfl) ?_);obtain ⟨b1,b2⟩:=b;obtain ⟨e,_,_,_⟩:=hb;dsimp only at e;subst e;exact Ev.bE (Ev.bf (by simpa using hw) (Ev.cf he (Ev.bE (Ev.ok rfl))))
 dsimp only at h;rw[hr] at h;cases h
end Go.Abs
end
section
namespace Go.Abs
open U
structure PC (s:ByS) (T:List aY) (b:Int):Prop where
 F:Mf s T
 b0:0<=b
 bs:b+s.length<=65536
def PP (c:Int):sB->Prop:=λp=>∃ v:Int,p=⟨86,[.sc (.int .i64 v)]⟩/\0<=v/\v<=c
abbrev M:=A.mk
section
variable {s:ByS} {T:List aY} {b:Int}
theorem PC.len (h:PC s T b):(T.length:Int)<=s.length+1:=by
 obtain ⟨l,rfl,h1⟩:=h.F.is;have:=h1.len;simp;omega
theorem PC.pos (h:PC s T b):1<=T.length:=by
 obtain ⟨l,rfl,h1⟩:=h.F.is;simp
theorem PC.np (h:PC s T b):(T.length:Int)<=65537:=by
 have:=h.len;have:=h.bs;have:=h.b0;omega
theorem PC.tok (h:PC s T b) {i:Nat} {t:aY} (ht:T[i]?=some t):0<=t.Pos/\t.Pos<=t.End/\t.End<=s.length/\t.Text.length<=65536/\(t.Kind=4->(t.Text.length:Int)+2<=t.End - t.Pos)/\(t.Kind≠0->i+1<T.length/\t.Pos<t.End):=by
 obtain ⟨l,rfl,h1⟩:=h.F.is;rcases Nat.lt_or_ge i l.length with q|q
 ·rw[List.getElem?_append_left q] at ht;have:=h1.ok t (List.mem_of_getElem? ht);exact ⟨this.p0,by have:=this.pe;omega,this.e,this.tl,this.ip,λ_=>⟨by simp;omega,this.pe⟩⟩
 rw[List.getElem?_append_right q] at ht;have hi:i - l.length=0:=by
  have:=(List.getElem?_eq_some_iff.1 ht).1;simp at this;omega
 rw[hi] at ht;simp at ht;subst ht;exact ⟨by simp,by simp,by simp,by simp,λq=>by simp at q,λq=>absurd rfl q⟩
theorem PC.next (h:PC s T b) {a:Int} (h0:0<=a) {t:aY} (ht:T[a.toNat]?=some t) (hk:t.Kind≠0):a+1<T.length:=by
 have:=((h.tok ht).2.2.2.2.2 hk).1;omega
theorem PC.sorted (h:PC s T b) {i j:Nat} (hij:i<j) {t u:aY} (ht:T[i]?=some t) (hu:T[j]?=some u):t.End<=u.Pos:=by
 obtain ⟨l,rfl,h1⟩:=h.F.is;have hj:=(List.getElem?_eq_some_iff.1 hu).1;simp at hj;have hi:i<l.length:=by omega
 rw[List.getElem?_append_left hi] at ht;rcases Nat.lt_or_ge j l.length with q|q
 ·rw[List.getElem?_append_left q] at hu;obtain ⟨hi',e1⟩:=List.getElem?_eq_some_iff.1 ht;obtain ⟨hj',e2⟩:=List.getElem?_eq_some_iff.1 hu;rw[<- e1,<- e2];exact List.pairwise_iff_getElem.1 h1.sorted i j hi' hj' hij
 rw[List.getElem?_append_right q] at hu;have hi:j - l.length=0:=by omega
 rw[hi] at hu;simp at hu;subst hu;exact (h1.ok t (List.mem_of_getElem? ht)).e
end
section
variable {s:ByS} {T:List aY} {b:Int} {α:Type} {Q:α->Prop} {R:sB->Prop} {m:Nat->Nat} {a:Int} {k:Bool} {q:Option Z}
theorem la {t:aY} {x:ByS} {K:Nat->Bool->U α} (hk:∀ r,(r=true->t.Kind=5/\t.Text=x)->(r=false->¬ (t.Kind=5/\t.Text=x))->Ev (λi=>K i r) Q R):Ev (λi=>U.bind (cY t x) (K i)) Q R:=by
 refine Ev.bind (Q:=λr=>(r=true->t.Kind=5/\t.Text=x)/\(r=false->¬ (t.Kind=5/\t.Text=x))) (R':=fM) ?_ (λ_ q=>q.elim) λr hr=>hk r hr.1 hr.2;unfold cY;refine Ev.W (λh=>Ev.ok ⟨λq=>⟨h,by simpa using q⟩,λq=>by simp at q;exact λw=>q w.2⟩) (λh=>Ev.ok ⟨λq=>by simp at q,λ_ w=>h w.1⟩)
theorem pT {t:aY} {x:ByS} {K:Nat->Bool->U α} (hk:∀ r,(r=true->t.Kind=1/\t.Text=x)->(r=false->¬ (t.Kind=1/\t.Text=x))->Ev (λi=>K i r) Q R):Ev (λi=>U.bind (hZ t x) (K i)) Q R:=by
 refine Ev.bind (Q:=λr=>(r=true->t.Kind=1/\t.Text=x)/\(r=false->¬ (t.Kind=1/\t.Text=x))) (R':=fM) ?_ (λ_ q=>q.elim) λr hr=>hk r hr.1 hr.2;unfold hZ;refine Ev.W (λh=>Ev.ok ⟨λq=>⟨h,by simpa using q⟩,λq=>by simp at q;exact λw=>q w.2⟩) (λh=>Ev.ok ⟨λq=>by simp at q,λ_ w=>h w.1⟩)
theorem vy (hm:g m) {t:aY} {x:ByS} (hx:x.length<=60000) {K:Nat->Bool->U α} (hk:∀ r,(r=true->t.Kind=5)->Ev (λi=>K i r) Q R):Ev (λi=>U.bind (gU (m i) t x) (K i)) Q R:=by
 refine Ev.bind (Q:=λr=>r=true->t.Kind=5) (R':=fM) ?_ (λ_ q=>q.elim) λr hr=>hk r hr;unfold gU kp;refine Ev.W (λh=>?_) (λ_=>Ev.ok (by simp));refine Ev.Y (yu (by simp) (by omega)) λy hy=>Ev.Y (kB hm (by omega)) λz _=>Ev.ok λ_=>h
theorem yB (hm:g m) {t:aY} {K:Nat->Bool->U α} (hk:∀ r,(r=true->t.Kind=3\/t.Kind=1)->Ev (λi=>K i r) Q R):Ev (λi=>U.bind (k3 (m i) t) (K i)) Q R:=by
 refine Ev.bind (Q:=λr=>r=true->t.Kind=3\/t.Kind=1) (R':=fM) ?_ (λ_ q=>q.elim) λr hr=>hk r hr;unfold k3;refine Ev.W (λh=>Ev.ok λ_=>.inl h) (λ_=>Ev.W (λh=>?_) (λ_=>Ev.ok (by simp)));exact Ev.Y (gR hm) λz _=>Ev.ok λ_=>.inr h
theorem zN (hm:g m) (hC:PC s T b) (h0:0<=a) (h1:a<T.length) :
  Ev (λi=>aE (m i) (M s T a b k q)) (λr=>∃ a' t,r=(t,M s T a' b k q)/\a<=a'/\a'<T.length/\T[a'.toNat]?=some t/\(k=true->t.Kind≠7)/\∀ u,T[a.toNat]?=some u->(k=true->u.Kind≠7)->a'=a) fM:=by
 unfold aE kp
 have hl:=hC.np
 refine Ev.jn (λv=>∃ a',v=M s T a' b k q/\a<=a'/\a'<T.length/\(k=true->∀ t,T[a'.toNat]?=some t->t.Kind≠7)/\∀ u,T[a.toNat]?=some u->(k=true->u.Kind≠7)->a'=a) (λv hv=>?_) (λj hj=>?_)
 ·obtain ⟨a',rfl,h2,h3,h4,h5⟩:=hv
  exact Ev.el (by dsimp only;omega) (by dsimp only;omega) λt ht=>Ev.ok ⟨a',t,rfl,h2,h3,ht,λhk=>h4 hk t ht,h5⟩
 ·refine Ev.iter hm (λ(x:A)=>∃ a',x=M s T a' b k q/\a<=a'/\a'<T.length/\∀ u,T[a.toNat]?=some u->(k=true->u.Kind≠7)->a'=a) (λx=>(T.length - x.at_).toNat) ⟨a,rfl,by omega,h1,λ_ _ _=>rfl⟩ ?_
  rintro x ⟨a',rfl,h2,h3,h5⟩ next hn
  dsimp only
  refine Ev.br (λhk0=>?_) (λhk=>hj _ ⟨a',rfl,h2,h3,(λh=>by rw[hk] at h;cases h),h5⟩)
  refine Ev.eA λt ht=>?_
  refine Ev.W (λh7=>?_) (λh7=>hj _ ⟨a',rfl,h2,h3,λ_ u hu=>by rw[ht] at hu;cases hu;exact h7,h5⟩)
  have:=hC.next (by omega) ht (by omega)
  refine Ev.gA (hn _ ⟨a'+1,rfl,by omega,by omega,λu hu hk=>?_⟩ (by dsimp only;omega))
  have:=h5 u hu hk
  subst this
  rw[ht] at hu;cases hu
  exact absurd h7 (hk ‹k=true›)
theorem fm (hm:g m) (hC:PC s T b) (h0:0<=a) (h1:a<T.length) {K:Nat->aY×A->U α}
  (hk:∀ a' t,a<=a'->a'<T.length->T[a'.toNat]?=some t->(k=true->t.Kind≠7)->(∀ u,T[a.toNat]?=some u->(k=true->u.Kind≠7)->a'=a)->Ev (λi=>K i (t,M s T a' b k q)) Q R) :
  Ev (λi=>U.bind (aE (m i) (M s T a b k q)) (K i)) Q R:=by
 refine Ev.fQ (zN hm hC h0 h1) λr hr=>?_
 obtain ⟨a',t,rfl,h⟩:=hr
 exact hk a' t h.1 h.2.1 h.2.2.1 h.2.2.2.1 h.2.2.2.2
theorem mK (hm:g m) (hC:PC s T b) (h0:0<=a) (h1:a<T.length) {K:Nat->Int×A->U α}
  (hk:∀ a' t v,a<=a'->a'<T.length->T[a'.toNat]?=some t->(∀ u,T[a.toNat]?=some u->(k=true->u.Kind≠7)->a'=a)->v=b+t.Pos->0<=v->v<=b+s.length->Ev (λi=>K i (v,M s T a' b k q)) Q R) :
  Ev (λi=>U.bind (bO (m i) (M s T a b k q)) (K i)) Q R:=by
 refine Ev.bind (Q:=λr=>∃ a' t v,r=(v,M s T a' b k q)/\a<=a'/\a'<T.length/\T[a'.toNat]?=some t/\(∀ u,T[a.toNat]?=some u->(k=true->u.Kind≠7)->a'=a)/\v=b+t.Pos/\0<=v/\v<=b+s.length) (R':=fM) ?_ (λ_ q=>q.elim) λr hr=>?_
 ·unfold bO kp
  refine fm hm hC h0 h1 λa' t h2 h3 h4 h5 h6=>?_
  have:=hC.tok h4
  have:=hC.b0
  have:=hC.bs
  exact Ev.gA (Ev.ok ⟨a',t,_,rfl,h2,h3,h4,h6,rfl,by dsimp only;omega,by dsimp only;omega⟩)
 ·obtain ⟨a',t,v,rfl,h2,h3,h4,h5,h6,h7,h8⟩:=hr
  exact hk a' t v h2 h3 h4 h5 h6 h7 h8
theorem xc {v:Int} {p:A} {c:Int} (h0:0<=v) (h1:v<=c) {K:Nat->A->U α}:Ev (λi=>U.bind (eT v p) (K i)) Q (PP c):=by
 unfold eT;exact Ev.mw ⟨v,rfl,h0,h1⟩
theorem iP (hm:g m) (hC:PC s T b) (h0:0<=a) (h1:a<T.length) {c:Int} (hc:b+s.length<=c) {K:Nat->A->U α}:Ev (λi=>U.bind (bm (m i) (M s T a b k q)) (K i)) Q (PP c):=by
 refine Ev.Y (Q:=λ_=>False) ?_ λr hr=>hr.elim;unfold bm;refine mK hm hC h0 h1 λa' t v _ _ _ _ _ h2 h3=>?_;exact xc h2 (by omega)
theorem mD (hm:g m) (hC:PC s T b) (h0:0<=a) (h1:a<T.length) {x:ByS} {K:Nat->Bool×A->U α}
  (ht:∀ a' t,a<a'->a'<T.length->T[(a' - 1).toNat]?=some t->t.Kind=5->t.Text=x->(∀ u,T[a.toNat]?=some u->(k=true->u.Kind≠7)->a'=a+1)->Ev (λi=>K i (true,M s T a' b k q)) Q R)
  (hf:∀ a' t,a<=a'->a'<T.length->T[a'.toNat]?=some t->(k=true->t.Kind≠7)->¬ (t.Kind=5/\t.Text=x)->(∀ u,T[a.toNat]?=some u->(k=true->u.Kind≠7)->a'=a)->Ev (λi=>K i (false,M s T a' b k q)) Q R) :
  Ev (λi=>U.bind (cq (m i) x (M s T a b k q)) (K i)) Q R:=by
 refine Ev.bind (Q:=λr=>(∃ a' t,r=(true,M s T a' b k q)/\a<a'/\a'<T.length/\T[(a' - 1).toNat]?=some t/\t.Kind=5/\t.Text=x/\(∀ u,T[a.toNat]?=some u->(k=true->u.Kind≠7)->a'=a+1))\/
  (∃ a' t,r=(false,M s T a' b k q)/\a<=a'/\a'<T.length/\T[a'.toNat]?=some t/\(k=true->t.Kind≠7)/\¬ (t.Kind=5/\t.Text=x)/\(∀ u,T[a.toNat]?=some u->(k=true->u.Kind≠7)->a'=a))) (R':=fM) ?_ (λ_ q=>q.elim) λr hr=>?_
 ·unfold cq
  have:=hC.np
  refine fm hm hC h0 h1 λa' t h2 h3 h4 h5 h6=>?_
  dsimp only
  refine la λr hr1 hr2=>?_
  refine Ev.bz (λh=>Ev.ok (.inr ⟨a',t,rfl,h2,h3,h4,h5,hr2 h,h6⟩)) (λh=>?_)
  obtain ⟨q1,q2⟩:=hr1 h
  have:=hC.next (by omega) h4 (by omega)
  exact Ev.gA (Ev.ok (.inl ⟨a'+1,t,rfl,by omega,by omega,by simpa using h4,q1,q2,λu hu hk=>by rw[h6 u hu hk]⟩))
 ·rcases hr with ⟨a',t,rfl,h2,h3,h4,h5,h6,h7⟩|⟨a',t,rfl,h2,h3,h4,h5,h6,h7⟩
  ·exact ht a' t h2 h3 h4 h5 h6 h7
  ·exact hf a' t h2 h3 h4 h5 h6 h7
theorem lf (hm:g m) (hC:PC s T b) (h0:0<=a) (h1:a<T.length) {c:Int} (hc:b+s.length<=c) {x:ByS} {K:Nat->A->U α}
  (ht:∀ a' t,a<a'->a'<T.length->T[(a' - 1).toNat]?=some t->t.Kind=5->t.Text=x->(∀ u,T[a.toNat]?=some u->(k=true->u.Kind≠7)->a'=a+1)->Ev (λi=>K i (M s T a' b k q)) Q (PP c)) :
  Ev (λi=>U.bind (bX (m i) x (M s T a b k q)) (K i)) Q (PP c):=by
 refine Ev.Y (Q:=λr=>(∃ a' t,r=(M s T a' b k q)/\a<a'/\a'<T.length/\T[(a' - 1).toNat]?=some t/\t.Kind=5/\t.Text=x/\(∀ u,T[a.toNat]?=some u->(k=true->u.Kind≠7)->a'=a+1))) ?_ λr hr=>?_
 ·unfold bX
  refine mD hm hC h0 h1 (λa' t h2 h3 h4 h5 h6 h7=>Ev.ok ⟨a',t,rfl,h2,h3,h4,h5,h6,h7⟩) (λa' t h2 h3 h4 h5 h6 h7=>?_)
  exact iP hm hC (by omega) (by omega) hc
 ·obtain ⟨a',t,rfl,h2,h3,h4,h5,h6,h7⟩:=hr
  exact ht a' t h2 h3 h4 h5 h6 h7
theorem o6 (hm:g m) (hC:PC s T b) (h0:0<=a) (h1:a<T.length) {c:Int} (hc:b+s.length<=c) {x:ByS} {K:Nat->A->U α}
  (ht:∀ a' t,a<=a'->a'+1<T.length->T[a'.toNat]?=some t->t.Kind=5->t.Text=x->Ev (λi=>K i (M s T a' b k q)) Q (PP c)) :
  Ev (λi=>U.bind (cH (m i) x (M s T a b k q)) (K i)) Q (PP c):=by
 refine Ev.Y (Q:=λr=>(∃ a' t,r=(M s T a' b k q)/\a<=a'/\a'+1<T.length/\T[a'.toNat]?=some t/\t.Kind=5/\t.Text=x)) ?_ λr hr=>?_
 ·unfold cH
  refine fm hm hC h0 h1 λa' t h2 h3 h4 h5 h6=>?_
  dsimp only
  refine la λr hr1 hr2=>?_
  refine Ev.bz (λh=>iP hm hC (by omega) (by omega) hc) (λh=>?_)
  obtain ⟨q1,q2⟩:=hr1 h
  exact Ev.ok ⟨a',t,rfl,h2,hC.next (by omega) h4 (by omega),h4,q1,q2⟩
 ·obtain ⟨a',t,rfl,h⟩:=hr
  exact ht a' t h.1 h.2.1 h.2.2.1 h.2.2.2.1 h.2.2.2.2
theorem sA (hm:g m) (hC:PC s T b) (h0:0<=a) (h1:a<T.length) {c:Int} (hc:b+s.length<=c) {x:ByS} {K:Nat->A->U α}
  (ht:∀ a',a<a'->a'<T.length->Ev (λi=>K i (M s T a' b k q)) Q (PP c)):Ev (λi=>U.bind (dN (m i) x (M s T a b k q)) (K i)) Q (PP c):=by
 refine Ev.Y (Q:=λr=>(∃ a',r=(M s T a' b k q)/\a<a'/\a'<T.length)) ?_ λr hr=>?_
 ·unfold dN
  have:=hC.np
  refine fm hm hC h0 h1 λa' t h2 h3 h4 h5 h6=>?_
  dsimp only
  refine pT λr hr1 hr2=>?_
  refine Ev.bz (λh=>iP hm hC (by omega) (by omega) hc) (λh=>?_)
  obtain ⟨q1,q2⟩:=hr1 h
  have:=hC.next (by omega) h4 (by omega)
  exact Ev.gA (Ev.ok ⟨a'+1,rfl,by omega,by omega⟩)
 ·obtain ⟨a',rfl,h⟩:=hr
  exact ht a' h.1 h.2
theorem ua (hm:g m) (hC:PC s T b) (h0:0<=a) (h1:a<T.length) {c:Int} (hc:b+s.length<=c) {K:Nat->ByS×A->U α}
  (ht:∀ a' x,a<a'->a'<T.length->Ev (λi=>K i (x,M s T a' b k q)) Q (PP c)):Ev (λi=>U.bind (dO (m i) (M s T a b k q)) (K i)) Q (PP c):=by
 refine Ev.Y (Q:=λr=>(∃ a' x,r=(x,M s T a' b k q)/\a<a'/\a'<T.length)) ?_ λr hr=>?_
 ·unfold dO
  have:=hC.np
  refine fm hm hC h0 h1 λa' t h2 h3 h4 h5 h6=>?_
  dsimp only
  refine Ev.jn (λv=>v=M s T a' b k q/\t.Kind=1) (λv hv=>?_) (λj hj=>?_)
  ·obtain ⟨rfl,h7⟩:=hv
   have:=hC.next (by omega) h4 (by omega)
   exact Ev.gA (Ev.ok ⟨a'+1,_,rfl,by omega,by omega⟩)
  ·refine Ev.cr (λ_=>iP hm hC (by omega) (by omega) hc) (λh1=>?_)
   refine Ev.fQ (gR hm) λz _=>?_
   exact Ev.bz (λ_=>iP hm hC (by omega) (by omega) hc) (λ_=>hj _ ⟨rfl,h1⟩)
 ·obtain ⟨a',x,rfl,h⟩:=hr
  exact ht a' x h.1 h.2
theorem CO (hm:g m) (hC:PC s T b) (h0:0<=a) (h1:a<T.length) {c:Int} (hc:b+s.length<=c) {K:Nat->jO×A->U α}
  (ht:∀ a' x,a<a'->a'<T.length->Ev (λi=>K i (x,M s T a' b k q)) Q (PP c)):Ev (λi=>U.bind (fK (m i) (M s T a b k q)) (K i)) Q (PP c):=by
 refine Ev.Y (Q:=λr=>(∃ a' x,r=(x,M s T a' b k q)/\a<a'/\a'<T.length)) ?_ λr hr=>?_
 ·unfold fK
  refine ua hm hC h0 h1 hc λa1 x1 h2 h3=>lf hm hC (by omega) (by omega) hc λa2 t h4 h5 _ _ _ _=>mK hm hC (by omega) (by omega) λa3 t3 v h6 h7 _ _ _ h8 h9=>ua hm hC (by omega) (by omega) hc λa4 x4 h10 h11=>?_
  exact Ev.W (λ_=>xc h8 (by omega)) (λ_=>Ev.ok ⟨a4,_,rfl,by omega,by omega⟩)
 ·obtain ⟨a',x,rfl,h⟩:=hr
  exact ht a' x h.1 h.2
theorem oz {n:Int} (hC:PC s T b) (h0:0<=a) (h1:a<T.length) (hn:0<=n) (hn2:n<=70000) {K:Nat->aY×A->U α}
  (hk:∀ t,(t.Kind≠0->T[(a+n).toNat]?=some t/\a+n+1<T.length)->Ev (λi=>K i (t,M s T a b k q)) Q R):Ev (λi=>U.bind (cO n (M s T a b k q)) (K i)) Q R:=by
 refine Ev.bind (Q:=λr=>∃ t,r=(t,M s T a b k q)/\(t.Kind≠0->T[(a+n).toNat]?=some t/\a+n+1<T.length)) (R':=fM) ?_ (λ_ q=>q.elim) λr hr=>?_
 ·unfold cO kp
  have:=hC.np
  dsimp only
  refine Ev.gA (Ev.gA (Ev.el (by split<;>omega) (by split<;>omega) λt ht=>Ev.ok ⟨t,rfl,λhk=>?_⟩))
  have h2:=((hC.tok ht).2.2.2.2.2 hk).1
  have:¬ ((T.length:Int) - 1<a+n):=λh=>by rw[if_pos h] at h2;omega
  rw[if_neg this] at ht h2
  exact ⟨ht,by omega⟩
 ·obtain ⟨t,rfl,h⟩:=hr
  exact hk t h
theorem sI (hm:g m) (hC:PC s T b) (h0:0<=a) (h1:a<T.length):Ev (λi=>eu (m i) (M s T a b k q)) (λr=>r.2=M s T a b k q) fM:=by
 have hl:=hC.np;unfold eu kp;dsimp only;refine Ev.gA ?_;refine Ev.iter hm (λ(x:Int)=>-1<=x/\x<a) (λx=>(x+1).toNat) (by omega) ?_;intro x hx next hn;refine Ev.bk (λh=>?_) (λ_=>Ev.ok rfl);refine Ev.eA λt ht=>?_;refine Ev.cr (λ_=>?_) (λ_=>Ev.gA (hn _ (by omega) (by omega)));refine Ev.E3 (by omega) ht (Ev.eA λu hu=>?_);have h2:=hC.sorted (by omega) ht hu;have h3:=hC.tok ht;have h4:=hC.tok hu;have:=hC.bs;have:=hC.b0;refine Ev.gA ?_;have:=tX (c:=s) (i:=t.End) (j:=u.Pos) (by omega) (by omega) (by omega);exact Ev.Y (ra (by omega)) λ_ _=>Ev.ok rfl
theorem wg (hm:g m) (hC:PC s T b) (h0:0<=a) (h1:a<T.length) {e:Int} (he:1<=e) (he2:e<=a):Ev (λi=>fu (m i) e (M s T a b k q)) (λr=>r.2=M s T a b k q) fM:=by
 have hl:=hC.np;unfold fu kp;dsimp only;refine Ev.iter hm (λ(x:Int)=>e<=x/\x<=a) (λx=>(a - x).toNat) (by omega) ?_;intro x hx next hn;refine Ev.bk (λh=>?_) (λ_=>?_)
 ·refine Ev.eA λt ht=>la λr _ _=>Ev.bz (λ_=>Ev.ok rfl) (λ_=>?_);exact Ev.gA (hn _ (by omega) (by omega))
 refine Ev.gA (Ev.eA λt ht=>Ev.eA λu hu=>?_);have h2:=hC.sorted (by omega) ht hu;have h3:=hC.tok ht;have h4:=hC.tok hu;have:=hC.bs;have:=hC.b0;refine Ev.gA ?_;have:=tX (c:=s) (i:=t.End) (j:=u.Pos) (by omega) (by omega) (by omega);exact Ev.Y (ra (by omega)) λ_ _=>Ev.ok rfl
theorem Jy (hm:g m) (hC:PC s T b) (h0:0<=a) (h1:a<T.length) {K:Nat->Bool×A->U α}
  (hk:∀ a' t r,a<=a'->a'<T.length->T[a'.toNat]?=some t->(r=false->t.Kind≠0)->(k=true->t.Kind≠7)->Ev (λi=>K i (r,M s T a' b k q)) Q R):Ev (λi=>U.bind (ga (m i) (M s T a b k q)) (K i)) Q R:=by
 refine Ev.bind (Q:=λr=>∃ a' t x,r=(x,M s T a' b k q)/\a<=a'/\a'<T.length/\T[a'.toNat]?=some t/\(x=false->t.Kind≠0)/\(k=true->t.Kind≠7)) (R':=fM) ?_ (λ_ q=>q.elim) λr hr=>?_
 ·unfold ga
  refine fm hm hC h0 h1 λa1 t1 h2 h3 h4 h5 _=>?_
  dsimp only
  refine Ev.W (λ_=>Ev.ok ⟨a1,t1,_,rfl,h2,h3,h4,by simp,h5⟩) (λhne=>?_)
  refine fm hm hC (by omega) h3 λa2 t2 h6 h7 h8 h9 h10=>la λr _ _=>Ev.ok ⟨a2,t2,r,rfl,by omega,by omega,h8,λ_=>?_,h9⟩
  have:=h10 t1 h4 h5
  subst this
  rw[h4] at h8;cases h8;exact hne
 ·obtain ⟨a',t,x,rfl,h⟩:=hr
  exact hk a' t x h.1 h.2.1 h.2.2.1 h.2.2.2.1 h.2.2.2.2
end
end Go.Abs
end
section
namespace Go.Abs
open U
mutual
inductive kW:Z->Prop where
 | mk {k:Int} {t:ByS} {n:Int} {a b:ByS} {subs:List Z} {decls:List au} {tail:List ByS} {pos:Int} (h1:subs.length<=70000) (h2:decls.length<=70000) (h3:tail.length<=70000)
  (h4:∀ x,x∈tail->x.length<=65536) (h5:k=16->2<=subs.length) (hs:∀ x,x∈subs->kW x) (hd:∀ x,x∈decls->mP x):kW (Z.mk k t n a b subs decls tail pos)
inductive mP:au->Prop where
 | mk {k p:Int} {lb a b:ByS} {subs:List Z} {body:List au} {tail lead:List ByS} {trail:ByS} {pos:Int} (h1:subs.length<=70000) (h2:body.length<=70000) (h3:tail.length<=70000)
  (h4:∀ x,x∈tail->x.length<=65536) (h5:lead.length<=70000) (h6:∀ x,x∈lead->x.length<=65536) (h7:trail.length<=65536) (h8:k=1\/k=2\/k=3->1<=subs.length)
  (hs:∀ x,x∈subs->kW x) (hd:∀ x,x∈body->mP x):mP (au.mk k p lb a b subs body tail lead trail pos)
end
theorem kW.l1 {e:Z} (h:kW e):e.B.length<=70000:=by cases h;assumption
theorem kW.l2 {e:Z} (h:kW e):e.Decls.length<=70000:=by cases h;assumption
theorem kW.l3 {e:Z} (h:kW e):e.H.length<=70000:=by cases h;assumption
theorem kW.l4 {e:Z} (h:kW e):∀ x,x∈e.H->x.length<=65536:=by cases h;assumption
theorem kW.kd {e:Z} (h:kW e):e.Kind=16->2<=e.B.length:=by cases h;assumption
theorem kW.s {e:Z} (h:kW e):∀ x,x∈e.B->kW x:=by cases h;assumption
theorem kW.d {e:Z} (h:kW e):∀ x,x∈e.Decls->mP x:=by cases h;assumption
theorem mP.l1 {e:au} (h:mP e):e.B.length<=70000:=by cases h;assumption
theorem mP.l2 {e:au} (h:mP e):e.Body.length<=70000:=by cases h;assumption
theorem mP.l3 {e:au} (h:mP e):e.H.length<=70000:=by cases h;assumption
theorem mP.l4 {e:au} (h:mP e):∀ x,x∈e.H->x.length<=65536:=by cases h;assumption
theorem mP.l5 {e:au} (h:mP e):e.lT.length<=70000:=by cases h;assumption
theorem mP.l6 {e:au} (h:mP e):∀ x,x∈e.lT->x.length<=65536:=by cases h;assumption
theorem mP.l7 {e:au} (h:mP e):e.Trail.length<=65536:=by cases h;assumption
theorem mP.kd {e:au} (h:mP e):e.Kind=1\/e.Kind=2\/e.Kind=3->1<=e.B.length:=by cases h;assumption
theorem mP.s {e:au} (h:mP e):∀ x,x∈e.B->kW x:=by cases h;assumption
theorem mP.d {e:au} (h:mP e):∀ x,x∈e.Body->mP x:=by cases h;assumption
theorem TS {k:Int} {t:ByS} {n:Int} {a b:ByS} {l:List Z} {d:List au} {tl:List ByS} {p:Int}:(Z.mk k t n a b l d tl p).B=l:=rfl
theorem kW.of {k:Int} {t:ByS} {n:Int} {a b:ByS} {subs:List Z} {pos:Int} (h1:subs.length<=70000) (h5:k=16->2<=subs.length) (hs:∀ x,x∈subs->kW x):kW (Z.mk k t n a b subs [] [] pos):=
 .mk h1 (by simp) (by simp) (by simp) h5 hs (by simp)
theorem kW.leaf {k:Int} {t:ByS} {n:Int} {a b:ByS} {pos:Int} (h5:k≠16):kW (Z.mk k t n a b [] [] [] pos):=.of (by simp) (λq=>absurd q h5) (by simp)
theorem kW.one {k:Int} {t:ByS} {n:Int} {a b:ByS} {x:Z} {pos:Int} (h5:k≠16) (hx:kW x):kW (Z.mk k t n a b [x] [] [] pos):=.of (by simp) (λq=>absurd q h5) (by simpa using hx)
theorem kW.two {k:Int} {t:ByS} {n:Int} {a b:ByS} {x y:Z} {pos:Int} (hx:kW x) (hy:kW y):kW (Z.mk k t n a b [x,y] [] [] pos):=.of (by simp) (λ_=>by simp) (by simp;exact ⟨hx,hy⟩)
theorem EJ {e x:Z} (h:x∈e.B):SizeOf.sizeOf x<SizeOf.sizeOf e:=by
 cases e;have:=List.sizeOf_lt_of_mem h;simp only[Z.B] at this;simp;omega
theorem Dv {e:Z} {x:au} (h:x∈e.Decls):SizeOf.sizeOf x<SizeOf.sizeOf e:=by
 cases e;have:=List.sizeOf_lt_of_mem h;simp only[Z.Decls] at this;simp;omega
theorem HB {e:au} {x:Z} (h:x∈e.B):SizeOf.sizeOf x<SizeOf.sizeOf e:=by
 cases e;have:=List.sizeOf_lt_of_mem h;simp only[au.B] at this;simp;omega
theorem HC {e x:au} (h:x∈e.Body):SizeOf.sizeOf x<SizeOf.sizeOf e:=by
 cases e;have:=List.sizeOf_lt_of_mem h;simp only[au.Body] at this;simp;omega
theorem wh {c v:Int} (h0:0<=v) (h1:v<=c) {p:A}:∀ (N:Nat) {m:Nat->Nat} {e:Z},g m->SizeOf.sizeOf e<N->kW e->Ev (λi=>bg (m i) e v p) (λr=>r.2=p/\kW r.1) (PP c):=by
 intro N
 induction N with
 | zero=>intro m e _ h;exact absurd h (Nat.not_lt_zero _)
 | succ N ih=>
  intro m e hm hN he
  refine Ev.grow (F:=λn=>bg n e v p) hm λm hm=>?_
  show Ev (λi=>eK (m i) (cN (m i)) e v p) _ _
  unfold eK
  refine Ev.W (λhk=>?_) (λ_=>?_)
  ·have h2:=he.kd hk;refine Ev.eA λx hx=>Ev.eA λy hy=>?_;have hx:=List.mem_of_getElem? hx;have hy:=List.mem_of_getElem? hy;refine Ev.Y (ih hm (by have:=EJ hx;omega) (he.s _ hx)) λx2 hx2=>?_;rw[hx2.1];refine Ev.Y (ih hm (by have:=EJ hy;omega) (he.s _ hy)) λy2 hy2=>?_;exact Ev.ok ⟨hy2.1,.mk (by simp) he.l2 he.l3 he.l4 (λ_=>by simp) (by simp;exact ⟨hx2.2,hy2.2⟩) he.d⟩
  ·refine Ev.W (λ_=>?_) (λ_=>Ev.ok ⟨rfl,he⟩);have hl:=he.l2;refine Ev.iter hm (λ(x:A×List au×Int)=>x.1=p/\0<=x.2.2/\x.2.2<=e.Decls.length/\x.2.1.length=x.2.2/\∀ d,d∈x.2.1->mP d) (λx=>(e.Decls.length - x.2.2).toNat) ⟨rfl,by simp,by simp,by simp,by simp⟩ ?_;rintro x ⟨hx1,hx2,hx3,hx4,hx5⟩ next hn;refine Ev.bk (λhlt=>?_) (λ_=>Ev.ok ⟨hx1,.mk he.l1 (by omega) he.l3 he.l4 (by simp) he.s hx5⟩);refine Ev.eA λd hd=>?_;have hd:=List.mem_of_getElem? hd;have hds:=he.d _ hd;refine Ev.jn (λw=>w.1=p/\mP w.2) (λw hw=>?_) (λj hj=>?_)
   ·refine Ev.gA (Ev.gA (hn _ ⟨hw.1,by dsimp only;omega,by dsimp only;omega,by simp;omega,λz hz=>?_⟩ (by dsimp only;omega)));rcases List.mem_append.1 hz with q|q
    ·exact hx5 z q
    simp at q;subst q;exact hw.2
   refine Ev.jn (λ_=>True) (λw _=>?_) (λj2 hj2=>?_)
   ·refine Ev.br (λ_=>xc h0 h1) (λ_=>?_);refine Ev.jn (λw=>w=true->d.Kind=1\/d.Kind=2\/d.Kind=3) (λw hw=>?_) (λj2 hj2=>?_)
    ·refine Ev.br (λhw2=>?_) (λ_=>hj _ ⟨hx1,hds⟩);have:=hds.kd (hw hw2);refine Ev.eA λy hy=>?_;have hy:=List.mem_of_getElem? hy;rw[hx1];refine Ev.Y (ih hm (by have:=HB hy;have:=Dv hd;omega) (hds.s _ hy)) λy2 hy2=>?_;exact hj _ ⟨hy2.1,.mk (by simp) hds.l2 hds.l3 hds.l4 hds.l5 hds.l6 hds.l7 (λ_=>by simp) (by simpa using hy2.2) hds.d⟩
    refine Ev.W (λh=>hj2 _ λ_=>.inl h) (λ_=>Ev.W (λh=>hj2 _ λ_=>.inr (.inl h)) (λ_=>hj2 _ λh=>.inr (.inr (by simpa using h))))
   (repeat' (with_reducible first|refine Ev.gA ?_|refine Ev.eA (λ_ _=>?_)|apply Ev.bK|apply Ev.bE|(first|apply Ev.bk|apply Ev.W|apply Ev.cr|apply Ev.bz|apply Ev.br)<;>intro _|(apply Ev.lK;try dsimp only)))
   all_goals exact hj2 _ trivial
section
variable {s:ByS} {T:List aY} {b:Int} {α X:Type} {Q:α->Prop} {R:sB->Prop} {m:Nat->Nat} {a:Int} {k:Bool} {q:Option Z} {c:Int}
def QS (q:Option Z):Prop:=∀ e,q=some e->kW e
theorem QS.none:QS none:=λ_ h=>by cases h
def St (s:ByS) (T:List aY) (b:Int) (k:Bool) (a d:Int) (p:A):Prop:=∃ a' q',p=M s T a' b k q'/\a<=a'/\a'+d<T.length/\QS q'
theorem gC {d:Int} {F:Nat->U (X×A)} {P:X->Prop} {K:Nat->X×A->U α} (h:Ev F (λr=>St s T b k a d r.2/\P r.1) (PP c))
  (hk:∀ x a' q',a<=a'->a'+d<T.length->QS q'->P x->Ev (λi=>K i (x,M s T a' b k q')) Q (PP c)):Ev (λi=>U.bind (F i) (K i)) Q (PP c):=by
 refine Ev.Y h λr hr=>?_
 obtain ⟨x,p⟩:=r
 obtain ⟨⟨a',q',hp,h1,h2,h3⟩,h4⟩:=hr
 dsimp only at hp
 subst hp
 exact hk x a' q' h1 h2 h3 h4
theorem ur {d:Int} {F:Nat->U (A×X)} {P:X->Prop} {K:Nat->A×X->U α} (h:Ev F (λr=>St s T b k a d r.1/\P r.2) (PP c))
  (hk:∀ x a' q',a<=a'->a'+d<T.length->QS q'->P x->Ev (λi=>K i (M s T a' b k q',x)) Q (PP c)):Ev (λi=>U.bind (F i) (K i)) Q (PP c):=by
 refine Ev.Y h λr hr=>?_
 obtain ⟨p,x⟩:=r
 obtain ⟨⟨a',q',hp,h1,h2,h3⟩,h4⟩:=hr
 dsimp only at hp
 subst hp
 exact hk x a' q' h1 h2 h3 h4
theorem r4 (hm:g m) {v:Int} (h0:0<=v) (h1:v<=c) {e:Z} (he:kW e) {p:A} {K:Nat->Z×A->U α} (hk:∀ x,kW x->Ev (λi=>K i (x,p)) Q (PP c)) :
  Ev (λi=>U.bind (bg (m i) e v p) (K i)) Q (PP c):=by
 refine Ev.Y (wh h0 h1 _ hm (Nat.lt_succ_self _) he) λr hr=>?_
 obtain ⟨x,p'⟩:=r
 obtain ⟨h1,h2⟩:=hr
 dsimp only at h1
 subst h1
 exact hk x h2
def CP (T:List aY) (a:Int):Prop:=∃ t u,T[a.toNat]?=some t/\t.Kind=5/\T[(a+1).toNat]?=some u/\u.Kind≠0/\u.Kind≠7/\(u.Kind=5->∃ w,T[(a+2).toNat]?=some w/\w.Kind=3)
theorem Bb (hm:g m) (hC:PC s T b) (h0:0<=a) (h1:a<T.length) {K:Nat->Bool×A->U α}
  (hk:∀ a' r,a<=a'->a'<T.length->(∀ u,T[a.toNat]?=some u->(k=true->u.Kind≠7)->a'=a)->(r=true->CP T a')->Ev (λi=>K i (r,M s T a' b k q)) Q R):Ev (λi=>U.bind (fi (m i) (M s T a b k q)) (K i)) Q R:=by
 refine Ev.bind (Q:=λr=>∃ a' x,r=(x,M s T a' b k q)/\a<=a'/\a'<T.length/\(∀ u,T[a.toNat]?=some u->(k=true->u.Kind≠7)->a'=a)/\(x=true->CP T a')) (R':=fM) ?_ (λ_ q=>q.elim) λr hr=>?_
 ·unfold fi
  have hl:=hC.np
  refine fm hm hC h0 h1 λa' t h2 h3 h4 h5 h6=>?_
  dsimp only
  refine la λr hr1 hr2=>Ev.bz (λ_=>Ev.ok ⟨a',_,rfl,h2,h3,h6,by simp⟩) (λhr=>?_)
  obtain ⟨g1,g2⟩:=hr1 hr
  refine Ev.jn (λv=>v.1=M s T a' b k q/\2<=v.2/\v.2<=3/\CP T a') (λv hv=>?_) (λj hj=>?_)
  ·refine Ev.iter hm (λ(x:A×Int)=>x.1=M s T a' b k q/\2<=x.2/\x.2<=T.length+3) (λx=>(T.length+4 - x.2).toNat) ⟨hv.1,hv.2.1,by dsimp only;omega⟩ ?_
   rintro x ⟨hx1,hx2,hx3⟩ next hn
   rw[hx1]
   refine oz hC (by omega) h3 (by omega) (by omega) λu hu=>?_
   dsimp only
   refine Ev.W (λh7=>?_) (λ_=>?_)
   ·have:=(hu (by omega)).2
    exact Ev.gA (hn _ ⟨rfl,by dsimp only;omega,by dsimp only;omega⟩ (by dsimp only;omega))
   ·refine oz hC (by omega) h3 (by omega) (by omega) λu hu=>?_
    dsimp only
    refine la λr _ _=>Ev.br (λ_=>?_) (λ_=>Ev.ok ⟨a',_,rfl,h2,h3,h6,by simp⟩)
    refine Ev.gA (oz hC (by omega) h3 (by omega) (by omega) λu hu=>?_)
    dsimp only
    exact la λr _ _=>Ev.ok ⟨a',_,rfl,h2,h3,h6,λ_=>hv.2.2.2⟩
  ·refine oz hC (by omega) h3 (by omega) (by omega) λu hu=>?_
   dsimp only
   refine pT λr hr1 hr2=>Ev.bz (λ_=>?_) (λhr=>?_)
   ·refine oz hC (by omega) h3 (by omega) (by omega) λu hu=>?_
    dsimp only
    refine la λr hr1 hr2=>Ev.bz (λ_=>Ev.ok ⟨a',_,rfl,h2,h3,h6,by simp⟩) (λhr=>?_)
    obtain ⟨q1,q2⟩:=hr1 hr
    refine oz hC (by omega) h3 (by omega) (by omega) λw hw=>?_
    dsimp only
    refine Ev.cr (λ_=>Ev.ok ⟨a',_,rfl,h2,h3,h6,by simp⟩) (λh3=>?_)
    exact hj _ ⟨rfl,by simp,by simp,t,u,h4,g1,(hu (by omega)).1,by omega,by omega,λ_=>⟨w,(hw (by omega)).1,h3⟩⟩
   ·obtain ⟨q1,q2⟩:=hr1 hr
    exact hj _ ⟨rfl,by simp,by simp,t,u,h4,g1,(hu (by omega)).1,by omega,by omega,λ_=>by omega⟩
 ·obtain ⟨a',x,rfl,h⟩:=hr
  exact hk a' x h.1 h.2.1 h.2.2.1 h.2.2.2
theorem wj (hm:g m) (hC:PC s T b) (h0:0<=a) (hc:b+s.length<=c) (hq:QS q) {u:aY} (hu:T[a.toNat]?=some u) (hk0:u.Kind≠0) (hk7:u.Kind≠7) (hw:u.Kind=5->∃ w,T[(a+1).toNat]?=some w/\w.Kind=3) {d:au} :
  Ev (λi=>fZ (m i) true (M s T a b k q) d) (λr=>St s T b k a 1 r.1/\(r.2=d\/∃ l,r.2=au.mk d.Kind d.cX l d.V d.aS d.B d.Body d.H d.lT d.Trail d.Pos)) (PP c):=by
 have hl:=hC.np
 have h1:a<T.length:=by have:=(List.getElem?_eq_some_iff.1 hu).1;omega
 unfold fZ
 refine ur (b:=b) (T:=T) (s:=s) (k:=true) (a:=a) (d:=1) (P:=λx=>x=d\/∃ l,x=au.mk d.Kind d.cX l d.V d.aS d.B d.Body d.H d.lT d.Trail d.Pos) ?_ λx a' q' h2 h3 h4 h5=>Ev.ok ⟨⟨a',q',rfl,h2,h3,h4⟩,h5⟩
 unfold fS kp
 dsimp only
 refine Ev.jn (λv=>(∃ a',v.1=M s T a' b true q/\a<=a'/\a'+1<T.length)/\(v.2=d\/∃ l,v.2=au.mk d.Kind d.cX l d.V d.aS d.B d.Body d.H d.lT d.Trail d.Pos)) (λv hv=>?_) (λj hj=>?_)
 ·obtain ⟨⟨a',hv1,hv2,hv3⟩,hv4⟩:=hv
  rw[hv1]
  refine Ev.gA (o6 hm hC (by dsimp only;omega) (by dsimp only;omega) hc λa2 t h2 h3 h4 h5 _=>Ev.ok ⟨⟨a2,q,rfl,by dsimp only at h2;omega,h3,hq⟩,hv4⟩)
 ·refine mD hm hC h0 h1 (λa' t h2 h3 h4 h5 h6 h7=>?_) (λa' t h2 h3 h4 h5 h6 h7=>?_)
  ·dsimp only
   have ha:=h7 u hu (λ_=>hk7)
   subst ha
   have:u=t:=by
    have e:a+1 - 1=a:=by omega
    rw[e,hu] at h4;cases h4;rfl
   subst this
   obtain ⟨w,hw1,hw2⟩:=hw h5
   refine Ev.bK ?_
   refine fm hm hC (by omega) h3 λa2 t2 h8 h9 h10 h11 h12=>?_
   dsimp only
   have ha2:=h12 w hw1 (λ_=>by omega)
   subst ha2
   have hnx:=hC.next (by omega) hw1 (by omega)
   refine Ev.fQ (tN hm) λy _=>?_
   refine Ev.cr (λ_=>iP hm hC (by omega) h9 hc) (λ_=>hj _ ⟨⟨_,rfl,by omega,by omega⟩,.inr ⟨_,rfl⟩⟩)
  ·dsimp only
   have ha:=h7 u hu (λ_=>hk7)
   subst ha
   have hnx:=hC.next (by omega) hu hk0
   exact Ev.bE (hj _ ⟨⟨_,rfl,by omega,by omega⟩,.inl rfl⟩)
end
end Go.Abs
end
section
namespace Go.Abs
open U
section
variable {s:ByS} {T:List aY} {b:Int}
def Bv (s:ByS) (T:List aY) (b:Int) (K c:Nat) (F:Nat->A->U (Z×A)):Prop:=∀ {m:Nat->Nat} {a:Int} {k:Bool} {q:Option Z},g m->0<=a->a<T.length->QS q->64*(T.length - a).toNat+c<K->Ev (λi=>F (m i) (M s T a b k q)) (λr=>St s T b k a 0 r.2/\kW r.1) (PP (b+s.length))
structure PG (s:ByS) (T:List aY) (b:Int) (K:Nat):Prop where
 expr:∀ {j:Bool},Bv s T b K 13 (λn=>aF n j)
 alt:∀ {j:Bool},Bv s T b K 12 (λn=>bF n j)
 CF:∀ {j:Bool},Bv s T b K 11 (λn=>bG n j)
 bin:∀ {m:Nat->Nat} {a l:Int} {k:Bool} {q:Option Z} {j:Bool},g m->0<=a->a<T.length->QS q->0<=l->l<=5->64*(T.length - a).toNat+(10 - l).toNat<K->Ev (λi=>bS (m i) l j (M s T a b k q)) (λr=>St s T b k a 0 r.2/\kW r.1) (PP (b+s.length))
 unary:∀ {j:Bool},Bv s T b K 4 (λn=>cI n j)
 post:∀ {j:Bool},Bv s T b K 3 (λn=>cu n j)
 I8:∀ {j:Bool},Bv s T b K 2 (λn=>cU n j)
 named:∀ {m:Nat->Nat} {a:Int} {k:Bool} {q:Option Z} {t:aY},g m->0<=a->a<T.length->QS q->T[a.toNat]?=some t->t.Kind=1->64*(T.length - a).toNat+1<K->Ev (λi=>dA (m i) (M s T a b k q)) (λr=>St s T b k a 0 r.2/\kW r.1) (PP (b+s.length))
 qB:∀ {m:Nat->Nat} {a:Int} {k:Bool} {q:Option Z} {t:aY},g m->0<=a->a<T.length->T[a.toNat]?=some t->t.Kind=4->64*(T.length - a).toNat+1<K->Ev (λi=>df (m i) t (b+t.Pos) (M s T a b k q)) (λr=>r.2=M s T a b k q/\kW r.1) (PP (b+s.length))
 parens:∀ {m:Nat->Nat} {a:Int} {k:Bool} {q:Option Z} {j:Bool},g m->0<=a->a<T.length->QS q->64*(T.length - a).toNat+1<K->Ev (λi=>cB (m i) j (M s T a b k q)) (λr=>St s T b k (a+1) 0 r.2/\kW r.1) (PP (b+s.length))
 A5:∀ {j:Bool},Bv s T b K 1 (λn=>dc n j)
 list:Bv s T b K 1 dR
 block:∀ {m:Nat->Nat} {a:Int} {k:Bool} {q:Option Z} {j:Bool},g m->0<=a->a<T.length->QS q->64*(T.length - a).toNat<K->Ev (λi=>cn (m i) j (M s T a b k q)) (λr=>St s T b k a 0 r.2.2/\r.1.length<=70000/\(∀ d,d∈r.1->mP d)/\r.2.1.length<=70000/\∀ x,x∈r.2.1->x.length<=65536) (PP (b+s.length))
 args:∀ {m:Nat->Nat} {a:Int} {k:Bool} {q:Option Z},g m->0<=a->a<T.length->QS q->64*(T.length - a).toNat+1<K->Ev (λi=>dP (m i) (M s T a b k q)) (λr=>St s T b k a 0 r.2/\r.1.length<=70000/\∀ x,x∈r.1->kW x) (PP (b+s.length))
 item:Bv s T b K 14 dQ
 field:∀ {m:Nat->Nat} {a:Int} {k:Bool} {q:Option Z} {j:Bool} {d:au} {t:aY},g m->0<=a->a<T.length->QS q->mP d->T[a.toNat]?=some t->t.Kind≠0->t.Kind≠7->64*(T.length - a).toNat+14<K->Ev (λi=>dz (m i) j (M s T a b k q) d) (λr=>St s T b k a 0 r.1/\mP r.2) (PP (b+s.length))
 pattern:∀ {m:Nat->Nat} {a:Int} {k:Bool} {q:Option Z} {j:Bool} {d:au},g m->0<=a->a<T.length->QS q->mP d->CP T a->64*(T.length - a).toNat+14<K->Ev (λi=>cT (m i) j (M s T a b k q) d) (λr=>St s T b k a 0 r.1/\mP r.2) (PP (b+s.length))
 xb:∀ {m:Nat->Nat} {a:Int} {k:Bool} {q:Option Z} {j:Bool} {d:au},g m->0<=a->a<T.length->QS q->mP d->64*(T.length - a).toNat+14<K->Ev (λi=>cS (m i) j (M s T a b k q) d) (λr=>St s T b k a 0 r.1/\mP r.2) (PP (b+s.length))
 decl:∀ {m:Nat->Nat} {a:Int} {k:Bool} {q:Option Z} {j:Bool} {t:aY},g m->0<=a->a<T.length->QS q->T[a.toNat]?=some t->t.Kind≠0->t.Kind≠7->64*(T.length - a).toNat+17<K->Ev (λi=>cA (m i) j (M s T a b k q)) (λr=>St s T b k a 0 r.2/\mP r.1) (PP (b+s.length))
 decls:∀ {m:Nat->Nat} {a:Int} {k:Bool} {q:Option Z} {j:Bool},g m->0<=a->a<T.length->QS q->64*(T.length - a).toNat+18<K->Ev (λi=>dF (m i) j (M s T a b k q)) (λr=>St s T b k a 0 r.2.2/\r.1.length<=70000/\(∀ d,d∈r.1->mP d)/\r.2.1.length<=70000/\∀ x,x∈r.2.1->x.length<=65536) (PP (b+s.length))
variable {K:Nat} {m:Nat->Nat} {a:Int} {k:Bool} {q:Option Z} {j:Bool}
theorem Jz (hC:PC s T b) (ih:PG s T b K):Bv s T b (K+1) 13 (λn=>aF n j):=by
 intro m a k q hm h0 h1 hq hK;refine Ev.grow (F:=λn=>aF n j (M s T a b k q)) hm λm hm=>?_;show Ev (λi=>ic (m i) (X (m i)) j (M s T a b k q)) _ _;unfold ic;have hl:=hC.np;dsimp only;refine Ev.jn (λv=>St s T b k a 0 v.1) (λv hv=>?_) (λjj hj=>?_)
 ·obtain ⟨p,w⟩:=v;obtain ⟨a1,q1,hp,h2,h3,hq1⟩:=hv;dsimp only at hp;subst hp;dsimp only;refine Ev.jn (λv=>St s T b k a 0 v.1/\kW v.2) (λv hv=>?_) (λjj hj=>?_)
  ·obtain ⟨p,e⟩:=v;obtain ⟨⟨a2,q2,hp,h4,h5,hq2⟩,he⟩:=hv;dsimp only at hp he;subst hp;dsimp only;refine Ev.jn (λv=>St s T b k a 0 v) (λv hv=>?_) (λjj hj=>?_)
   ·obtain ⟨a3,q3,rfl,h6,h7,hq3⟩:=hv;dsimp only;refine Ev.jn (λv=>St s T b k a 0 v) (λv hv=>?_) (λjj hj=>?_)
    ·obtain ⟨a4,q4,rfl,h8,h9,hq4⟩:=hv;refine mK hm hC (by omega) (by omega) λa5 t v h10 h11 _ _ _ h12 h13=>?_;dsimp only;refine r4 hm h12 h13 he λx hx=>?_;dsimp only;refine Ev.iter hm (λ(x:A×List Z)=>St s T b k a 0 x.1/\1<=x.2.length/\(x.2.length:Int)<=x.1.at_+1/\∀ e,e∈x.2->kW e) (λx=>(T.length - x.1.at_).toNat) ⟨⟨_,q4,rfl,by omega,by omega,hq4⟩,by simp,by simp;omega,by simpa using hx⟩ ?_;rintro ⟨p,l⟩ ⟨⟨a6,q6,hp,h14,h15,hq6⟩,hl1,hl2,hl3⟩ next hn;dsimp only at hp hl1 hl2 hl3;subst hp;dsimp only at hn hl2 ⊢;refine mD hm hC (by omega) (by omega) (λa7 t h16 h17 _ _ _ _=>?_) (λa7 t h16 h17 _ _ _ _=>?_)
     ·dsimp only;refine Ev.bK (gC (ih.alt hm (by omega) h17 hq6 (by omega)) λe a8 q8 h18 h19 hq8 he8=>?_);dsimp only;refine Ev.gA (hn _ ⟨⟨a8,q8,rfl,by omega,h19,hq8⟩,by simp,by simp;omega,λz hz=>?_⟩ (by dsimp only;omega));rcases List.mem_append.1 hz with w|w
      ·exact hl3 z w
      simp at w;subst w;exact he8
     dsimp only;refine Ev.bE (Ev.eA λx hx=>Ev.ok ⟨⟨a7,q6,rfl,by omega,by omega,hq6⟩,.of (by omega) (by simp) hl3⟩)
    refine fm hm hC (by omega) (by omega) λa4 t h8 h9 _ _ _=>?_;dsimp only;refine la λr _ _=>Ev.bz (λ_=>iP hm hC (by omega) h9 (by omega)) (λ_=>hj _ ⟨a4,q3,rfl,by omega,by omega,hq3⟩)
   refine Ev.bz (λ_=>?_) (λ_=>hj _ ⟨a2,q2,rfl,h4,h5,hq2⟩);refine fm hm hC (by omega) (by omega) λa4 t h8 h9 _ _ _=>?_;dsimp only;exact la λr _ _=>Ev.bz (λ_=>Ev.ok ⟨⟨a4,q2,rfl,by omega,by omega,hq2⟩,he⟩) (λ_=>hj _ ⟨a4,q2,rfl,by omega,by omega,hq2⟩)
  refine Ev.br (λ_=>gC (ih.alt hm (by omega) (by omega) hq1 (by omega)) λe a2 q2 h4 h5 hq2 he=>hj _ ⟨⟨a2,q2,rfl,by omega,h5,hq2⟩,he⟩) (λ_=>gC (ih.alt hm (by omega) (by omega) hq1 (by omega)) λe a2 q2 h4 h5 hq2 he=>hj _ ⟨⟨a2,q2,rfl,by omega,h5,hq2⟩,he⟩)
 refine Ev.br (λ_=>?_) (λ_=>hj _ ⟨a,q,rfl,by omega,by omega,hq⟩);refine fm hm hC h0 h1 λa4 t h8 h9 _ _ _=>?_;dsimp only;exact la λr _ _=>hj _ ⟨a4,q,rfl,by omega,by omega,hq⟩
theorem Lk (hC:PC s T b) (ih:PG s T b K):Bv s T b (K+1) 12 (λn=>bF n j):=by
 intro m a k q hm h0 h1 hq hK;refine Ev.grow (F:=λn=>bF n j (M s T a b k q)) hm λm hm=>?_;show Ev (λi=>eV (m i) (X (m i)) j (M s T a b k q)) _ _;unfold eV;have hl:=hC.np;dsimp only;refine Ev.br (λ_=>?_) (λ_=>?_)
 ·refine mK hm hC h0 h1 λa2 t v h2 h3 _ _ _ _ _=>?_;dsimp only;refine mD hm hC (by omega) h3 (λa3 t h4 h5 _ _ _ _=>?_) (λa3 t h4 h5 _ _ _ _=>?_)
  ·dsimp only;exact Ev.bK (gC (ih.CF hm (by omega) h5 hq (by omega)) λe a4 q4 h6 h7 hq4 he=>Ev.ok ⟨⟨a4,q4,rfl,by omega,h7,hq4⟩,.one (by decide) he⟩)
  dsimp only;exact Ev.bE (gC (ih.CF hm (by omega) h5 hq (by omega)) λe a4 q4 h6 h7 hq4 he=>Ev.ok ⟨⟨a4,q4,rfl,by omega,h7,hq4⟩,he⟩)
 exact gC (ih.CF hm (by omega) h1 hq (by omega)) λe a4 q4 h6 h7 hq4 he=>Ev.ok ⟨⟨a4,q4,rfl,by omega,h7,hq4⟩,he⟩
theorem JA (hC:PC s T b) (ih:PG s T b K):Bv s T b (K+1) 11 (λn=>bG n j):=by
 intro m a k q hm h0 h1 hq hK;refine Ev.grow (F:=λn=>bG n j (M s T a b k q)) hm λm hm=>?_;show Ev (λi=>eW (m i) (X (m i)) j (M s T a b k q)) _ _;unfold eW;refine gC (ih.bin hm h0 h1 hq (by omega) (by omega) (by omega)) λe a2 q2 h2 h3 hq2 he=>?_;dsimp only;refine Ev.iter hm (λ(x:A×Z)=>St s T b k a 0 x.1/\kW x.2) (λx=>(T.length - x.1.at_).toNat) ⟨⟨a2,q2,rfl,h2,h3,hq2⟩,he⟩ ?_;rintro ⟨p,e⟩ ⟨⟨a3,q3,hp,h4,h5,hq3⟩,he⟩ next hn;dsimp only at hp he;subst hp;dsimp only at hn ⊢;refine mD hm hC (by omega) (by omega) (λa4 t h6 h7 _ _ _ _=>?_) (λa4 t h6 h7 _ _ _ _=>?_)
 ·dsimp only;exact Ev.bK (gC (ih.bin hm (by omega) h7 hq3 (by omega) (by omega) (by omega)) λe2 a5 q5 h8 h9 hq5 he5=>hn _ ⟨⟨a5,q5,rfl,by omega,h9,hq5⟩,.two he he5⟩ (by dsimp only;omega))
 exact Ev.bE (Ev.ok ⟨⟨a4,q3,rfl,by omega,by omega,hq3⟩,he⟩)
theorem Bc {l:Int}:Ev (λ_=>iS l) (λr=>r.length<=100) fM:=by
 unfold iS
 (repeat' (with_reducible first|refine Ev.gA ?_|refine Ev.eA (λ_ _=>?_)|apply Ev.bK|apply Ev.bE|(first|apply Ev.bk|apply Ev.W|apply Ev.cr|apply Ev.bz|apply Ev.br)<;>intro _|(apply Ev.lK;try dsimp only)))
 all_goals exact Ev.ok (by simp)
theorem Ll (hC:PC s T b) (ih:PG s T b K) {l:Int} (hm:g m) (h0:0<=a) (h1:a<T.length) (hq:QS q) (hl0:0<=l) (hl5:l<=5) (hK:64*(T.length - a).toNat+(10 - l).toNat<K+1) :
  Ev (λi=>bS (m i) l j (M s T a b k q)) (λr=>St s T b k a 0 r.2/\kW r.1) (PP (b+s.length)):=by
 refine Ev.grow (F:=λn=>bS n l j (M s T a b k q)) hm λm hm=>?_
 show Ev (λi=>gq (m i) (X (m i)) l j (M s T a b k q)) _ _
 unfold gq
 have hl:=hC.np
 refine Ev.bk (λ_=>gC (ih.unary hm h0 h1 hq (by omega)) λe a4 q4 h6 h7 hq4 he=>Ev.ok ⟨⟨a4,q4,rfl,by omega,h7,hq4⟩,he⟩) (λ_=>?_)
 refine Ev.gA (gC (ih.bin hm h0 h1 hq (by omega) (by omega) (by omega)) λe a2 q2 h2 h3 hq2 he=>?_)
 dsimp only
 refine Ev.iter hm (λ(x:A×Z)=>St s T b k a 0 x.1/\kW x.2) (λx=>(T.length - x.1.at_).toNat) ⟨⟨a2,q2,rfl,h2,h3,hq2⟩,he⟩ ?_
 rintro ⟨p,e⟩ ⟨⟨a3,q3,hp,h4,h5,hq3⟩,he⟩ next hn
 dsimp only at hp he;subst hp;dsimp only at hn ⊢
 refine fm hm hC (by omega) (by omega) λa4 t h6 h7 ht h8 _=>?_
 dsimp only
 refine Ev.fQ Bc λops hops=>vy hm (by omega) λr hr=>Ev.br (λhr1=>?_) (λ_=>Ev.ok ⟨⟨a4,q3,rfl,by omega,by omega,hq3⟩,he⟩)
 have hk5:=hr hr1
 have hnx:=hC.next (by omega) ht (by omega)
 refine mK hm hC (by omega) h7 λa5 t5 v h9 h10 _ h11 _ h12 h13=>?_
 have e5:=h11 t ht h8
 subst e5
 dsimp only
 refine r4 hm h12 h13 he λx hx=>?_
 dsimp only
 refine fm hm hC (by omega) h7 λa6 t6 h14 h15 _ _ h16=>?_
 have e6:=h16 t ht h8
 subst e6
 dsimp only
 refine Ev.gA (Ev.gA (gC (ih.bin hm (by omega) hnx hq3 (by omega) (by omega) (by omega)) λe2 a7 q7 h17 h18 hq7 he7=>hn _ ⟨⟨a7,q7,rfl,by omega,h18,hq7⟩,.two hx he7⟩ (by dsimp only;omega)))
theorem HD (hC:PC s T b) (ih:PG s T b K):Bv s T b (K+1) 4 (λn=>cI n j):=by
 intro m a k q hm h0 h1 hq hK;refine Ev.grow (F:=λn=>cI n j (M s T a b k q)) hm λm hm=>?_;show Ev (λi=>gO (m i) (X (m i)) j (M s T a b k q)) _ _;unfold gO;have hl:=hC.np;dsimp only;refine Ev.br (λ_=>gC (ih.post hm h0 h1 hq (by omega)) λe a4 q4 h6 h7 hq4 he=>Ev.ok ⟨⟨a4,q4,rfl,by omega,h7,hq4⟩,he⟩) (λ_=>?_);refine fm hm hC h0 h1 λa2 t h2 h3 ht h4 _=>?_;dsimp only;refine mK hm hC (by omega) h3 λa5 t5 v h9 h10 _ h11 _ h12 h13=>?_;have e5:=h11 t ht h4;subst e5;dsimp only;refine Ev.jn (λv=>v≠16/\t.Kind=5) (λw hw=>?_) (λjj hj=>?_)
 ·have hnx:=hC.next (by omega) ht (by omega);exact Ev.gA (gC (ih.unary hm (by omega) hnx hq (by omega)) λe a4 q4 h6 h7 hq4 he=>Ev.ok ⟨⟨a4,q4,rfl,by omega,h7,hq4⟩,.one hw.1 he⟩)
 refine vy hm (by simp) λr hr=>Ev.br (λhr1=>hj _ ⟨by decide,hr hr1⟩) (λ_=>?_);refine vy hm (by simp) λr hr=>Ev.br (λhr1=>hj _ ⟨by decide,hr hr1⟩) (λ_=>?_);exact gC (ih.post hm (by omega) h3 hq (by omega)) λe a4 q4 h6 h7 hq4 he=>Ev.ok ⟨⟨a4,q4,rfl,by omega,h7,hq4⟩,he⟩
theorem HE (hC:PC s T b) (ih:PG s T b K) (hm:g m) (h0:0<=a) (h1:a<T.length) (hq:QS q) (hK:64*(T.length - a).toNat+13<K) {e:Z} (he:kW e) :
  Ev (λi=>cQ (m i) true (M s T a b k q) e) (λr=>St s T b k a 1 r.1/\kW r.2) (PP (b+s.length)):=by
 refine Ev.grow (F:=λn=>cQ n true (M s T a b k q) e) hm λm hm=>?_
 show Ev (λi=>eB (m i) (X (m i)) true (M s T a b k q) e) _ _
 unfold eB
 dsimp only
 refine gC (k:=true) (a:=a) (d:=1) (P:=kW) ?_ λx a' q' h2 h3 h4 h5=>Ev.ok ⟨⟨a',q',rfl,h2,h3,h4⟩,h5⟩
 refine Ev.grow (F:=λn=>dL n e (M s T a b true q)) hm λm hm=>?_
 show Ev (λi=>fB (m i) (X (m i)) e (M s T a b true q)) _ _
 unfold fB
 refine gC (ih.expr hm h0 h1 hq hK) λx a2 q2 h2 h3 h4 h5=>?_
 dsimp only
 exact o6 hm hC (by omega) (by omega) (by omega) λa3 t h6 h7 _ _ _=>Ev.ok ⟨⟨a3,q2,rfl,by omega,h7,h4⟩,.two he h5⟩
theorem JB (hC:PC s T b) (ih:PG s T b K):Bv s T b (K+1) 3 (λn=>cu n j):=by
 intro m a k q hm h0 h1 hq hK;refine Ev.grow (F:=λn=>cu n j (M s T a b k q)) hm λm hm=>?_;show Ev (λi=>fV (m i) (X (m i)) j (M s T a b k q)) _ _;unfold fV;have hl:=hC.np;refine gC (ih.I8 hm h0 h1 hq (by omega)) λe a2 q2 h2 h3 hq2 he=>?_;dsimp only;refine Ev.iter hm (λ(x:A×Z)=>St s T b k a 0 x.1/\kW x.2) (λx=>(T.length - x.1.at_).toNat) ⟨⟨a2,q2,rfl,h2,h3,hq2⟩,he⟩ ?_;rintro ⟨p,e⟩ ⟨⟨a3,q3,hp,h4,h5,hq3⟩,he⟩ next hn;dsimp only at hp he;subst hp;dsimp only at hn ⊢;refine fm hm hC (by omega) (by omega) λa4 t h6 h7 ht h8 _=>?_;dsimp only;refine mK hm hC (by omega) h7 λa5 t5 v h9 h10 _ h11 _ h12 h13=>?_;have e5:=h11 t ht h8;subst e5;dsimp only;refine la λr hr _=>Ev.br (λhr1=>?_) (λ_=>?_)
 ·have hk5:=(hr hr1).1;have hnx:=hC.next (by omega) ht (by omega);refine r4 hm h12 h13 he λx hx=>?_;dsimp only;refine Ev.gA (fm hm hC (by omega) hnx λa6 t6 h14 h15 ht6 _ _=>?_);dsimp only;refine Ev.jn (λv=>v=M s T a6 b k q3/\t6.Kind≠0) (λv hv=>?_) (λjj hj=>?_)
  ·obtain ⟨rfl,h16⟩:=hv;have hnx6:=hC.next (by omega) ht6 h16;exact Ev.gA (hn _ ⟨⟨a6+1,q3,rfl,by omega,by omega,hq3⟩,.one (by decide) hx⟩ (by dsimp only;omega))
  exact yB hm λr hr=>Ev.bz (λ_=>iP hm hC (by omega) h15 (by omega)) (λhr1=>hj _ ⟨rfl,by have:=hr hr1;omega⟩)
 refine la λr hr _=>Ev.br (λhr1=>?_) (λ_=>Ev.ok ⟨⟨a5,q3,rfl,by omega,by omega,hq3⟩,he⟩);have hk5:=(hr hr1).1;have hnx:=hC.next (by omega) ht (by omega);refine r4 hm h12 h13 he λx hx=>?_;dsimp only;refine Ev.gA (ur (HE hC ih hm (by omega) hnx hq3 (by omega) hx) λx a6 q6 h14 h15 hq6 hx6=>?_);dsimp only;exact Ev.gA (hn _ ⟨⟨a6+1,q6,rfl,by omega,by omega,hq6⟩,hx6⟩ (by dsimp only;omega))
end
end Go.Abs
end
section
namespace Go.Abs
open U
section
variable {s:ByS} {T:List aY} {b:Int} {K:Nat} {m:Nat->Nat} {a:Int} {k:Bool} {q:Option Z} {j:Bool}
theorem JC (hC:PC s T b) (ih:PG s T b K):Bv s T b (K+1) 2 (λn=>cU n j):=by
 intro m a k q hm h0 h1 hq hK;refine Ev.grow (F:=λn=>cU n j (M s T a b k q)) hm λm hm=>?_;show Ev (λi=>fW (m i) (X (m i)) j (M s T a b k q)) _ _;unfold fW;have hl:=hC.np;dsimp only;cases q with
 | some e=>exact Ev.bK (Ev.some rfl (Ev.ok ⟨⟨a,none,rfl,by omega,by omega,.none⟩,hq e rfl⟩))
 | none=>
  refine Ev.bE ?_
  refine fm hm hC h0 h1 λa2 t h2 h3 ht h4 _=>?_
  dsimp only
  refine mK hm hC (by omega) h3 λa5 t5 v h9 h10 ht5 h11 hv h12 h13=>?_
  have e5:=h11 t ht h4
  subst e5
  rw[ht] at ht5;cases ht5
  dsimp only
  refine Ev.jn (λv=>v.1=M s T a5 b k none/\kW v.2/\t.Kind≠0) (λw hw=>?_) (λjj hj=>?_)
  ·obtain ⟨p,e⟩:=w;obtain ⟨hp,he,hk⟩:=hw;dsimp only at hp he;subst hp;dsimp only;have hnx:=hC.next (by omega) ht hk;exact Ev.gA (Ev.ok ⟨⟨a5+1,none,rfl,by omega,by omega,.none⟩,he⟩)
  ·refine Ev.W (λhk=>?_) (λ_=>?_)
   ·exact gC (ih.named hm (by omega) h3 .none ht hk (by omega)) λe a4 q4 h6 h7 hq4 he=>Ev.ok ⟨⟨a4,q4,rfl,by omega,h7,hq4⟩,he⟩
   refine Ev.W (λhk=>?_) (λ_=>?_)
   ·exact Ev.fQ (tL hm) λy _=>hj _ ⟨rfl,.leaf (by decide),by omega⟩
   refine Ev.W (λhk=>hj _ ⟨rfl,.leaf (by decide),by omega⟩) (λ_=>?_);refine Ev.W (λhk=>?_) (λ_=>?_)
   ·rw[hv];refine Ev.Y (ih.qB hm (by omega) h3 ht hk (by omega)) λy hy=>?_;exact hj _ ⟨hy.1,hy.2,by omega⟩
   refine la λr hr _=>Ev.br (λhr1=>hj _ ⟨rfl,.leaf (by decide),by have:=(hr hr1).1;omega⟩) (λ_=>?_);refine la λr hr _=>Ev.br (λhr1=>hj _ ⟨rfl,.leaf (by decide),by have:=(hr hr1).1;omega⟩) (λ_=>?_);refine la λr hr _=>Ev.br (λhr1=>?_) (λ_=>?_)
   ·exact gC (ih.parens hm (by omega) h3 .none (by omega)) λe a4 q4 h6 h7 hq4 he=>Ev.ok ⟨⟨a4,q4,rfl,by omega,h7,hq4⟩,he⟩
   refine la λr hr _=>Ev.br (λhr1=>?_) (λ_=>?_)
   ·exact gC (ih.A5 hm (by omega) h3 .none (by omega)) λe a4 q4 h6 h7 hq4 he=>Ev.ok ⟨⟨a4,q4,rfl,by omega,h7,hq4⟩,he⟩
   refine la λr hr _=>Ev.br (λhr1=>?_) (λ_=>?_)
   ·exact gC (ih.list hm (by omega) h3 .none (by omega)) λe a4 q4 h6 h7 hq4 he=>Ev.ok ⟨⟨a4,q4,rfl,by omega,h7,hq4⟩,he⟩
   exact iP hm hC (by omega) h3 (by omega)
theorem HF (hC:PC s T b) (ih:PG s T b K) (hm:g m) (h0:0<=a) (h1:a<T.length) (hq:QS q) {t:aY} (ht:T[a.toNat]?=some t) (hk:t.Kind=1) (hK:64*(T.length - a).toNat+1<K+1) :
  Ev (λi=>dA (m i) (M s T a b k q)) (λr=>St s T b k a 0 r.2/\kW r.1) (PP (b+s.length)):=by
 refine Ev.grow (F:=λn=>dA n (M s T a b k q)) hm λm hm=>?_
 show Ev (λi=>gN (m i) (X (m i)) (M s T a b k q)) _ _
 unfold gN
 have hl:=hC.np
 have hnx:=hC.next (by omega) ht (by omega)
 refine fm hm hC h0 h1 λa2 t2 h2 h3 ht2 h4 e2=>?_
 have e2:=e2 t ht (λ_=>by omega)
 subst e2
 rw[ht] at ht2;cases ht2
 dsimp only
 refine mK hm hC (by omega) h3 λa5 t5 v h9 h10 ht5 h11 hv h12 h13=>?_
 have e5:=h11 t ht h4
 subst e5
 dsimp only
 refine Ev.jn (λv=>v.Kind≠16) (λw hw=>?_) (λjj hj=>?_)
 ·exact Ev.gA (Ev.ok ⟨⟨a5+1,q,rfl,by omega,by omega,hq⟩,.leaf hw⟩)
 ·refine Ev.W (λ_=>hj _ (by simp[Z.Kind])) (λ_=>?_)
  refine Ev.jn (λ_=>True) (λw _=>?_) (λj2 hj2=>?_)
  ·refine Ev.br (λ_=>Ev.W (λ_=>hj _ (by simp[Z.Kind])) (λ_=>hj _ (by simp[Z.Kind]))) (λ_=>?_)
   refine Ev.jn (λ_=>True) (λw _=>?_) (λj2 hj2=>?_)
   ·refine Ev.br (λ_=>hj _ (by simp[Z.Kind])) (λ_=>?_)
    refine ua hm hC h0 h3 (by omega) λa6 x h14 h15=>?_
    dsimp only
    refine fm hm hC (by omega) h15 λa7 t7 h16 h17 _ _ _=>?_
    dsimp only
    refine la λr _ _=>Ev.br (λ_=>?_) (λ_=>Ev.ok ⟨⟨a7,q,rfl,by omega,by omega,hq⟩,.leaf (by decide)⟩)
    exact gC (P:=λl:List Z=>l.length<=70000/\∀ x,x∈l->kW x) (ih.args hm (by omega) h17 hq (by omega)) λe a4 q4 h6 h7 hq4 he=>Ev.ok ⟨⟨a4,q4,rfl,by omega,h7,hq4⟩,.of he.1 (by simp) he.2⟩
   ·refine Ev.W (λ_=>hj2 _ trivial) (λ_=>Ev.W (λ_=>hj2 _ trivial) (λ_=>Ev.W (λ_=>hj2 _ trivial) (λ_=>hj2 _ trivial)))
  ·exact Ev.W (λ_=>hj2 _ trivial) (λ_=>hj2 _ trivial)
def uO (s:ByS) (b:Int):Prop:=∀ {m:Nat->Nat} {x:ByS} {f:Int},g m->x.length<s.length->0<=f->f+x.length<=b+s.length->Ev (λi=>iK (m i) x f) (λr=>kW r.1) fM
theorem Fo (hC:PC s T b) (hX:uO s b) (hm:g m) (h0:0<=a) (h1:a<T.length) {t:aY} (ht:T[a.toNat]?=some t) (hk:t.Kind=4) :
  Ev (λi=>df (m i) t (b+t.Pos) (M s T a b k q)) (λr=>r.2=M s T a b k q/\kW r.1) (PP (b+s.length)):=by
 refine Ev.grow (F:=λn=>df n t (b+t.Pos) (M s T a b k q)) hm λm hm=>?_
 show Ev (λi=>gu (m i) (X (m i)) t (b+t.Pos) (M s T a b k q)) _ _
 unfold gu
 have hbs:=hC.bs
 have hb0:=hC.b0
 obtain ⟨g0,g1,g2,g3,g4,_⟩:=hC.tok ht
 have g4:=g4 hk
 refine Ev.fQ (sG hm (by omega)) λy hy=>?_
 refine Ev.iter hm (λ(x:A×Z×Int)=>x.1=M s T a b k q/\0<=x.2.2/\x.2.2<=y.1.length/\x.2.1.B.length<=x.2.2/\x.2.1.Kind=5/\∀ e,e∈x.2.1.B->kW e) (λx=>(y.1.length - x.2.2).toNat) ⟨rfl,by simp,by simp,by simp[TS],rfl,by simp[TS]⟩ ?_
 rintro ⟨p,e,i⟩ ⟨hp,h2,h3,h4,h5,h6⟩ next hn
 dsimp only at hp h2 h3 h4 h5 h6 hn ⊢
 subst hp
 have hyl:=hy.1
 refine Ev.bk (λhlt=>?_) (λ_=>Ev.ok ⟨rfl,.of (by omega) (by omega) h6⟩)
 refine Ev.eA λx hx=>?_
 obtain ⟨x0,x1,x2⟩:=hy.2 x (List.mem_of_getElem? hx)
 refine Ev.gA (Ev.gA (Ev.bz (λ_=>?_) (λhc=>?_)))
 ·refine Ev.gA (Ev.gA (hn _ ⟨rfl,by dsimp only;omega,by dsimp only;omega,by simp[TS];omega,h5,λz hz=>?_⟩ (by dsimp only;omega)))
  rcases List.mem_append.1 hz with w|w
  ·exact h6 z w
  ·simp at w;subst w;exact .leaf (by decide)
 ·have x2:=x2 hc
  refine Ev.fQ (hX hm (x:=x.Text) (f:=b+t.Pos+1+x.Pos) (by omega) (by omega) (by omega)) λz hz=>?_
  refine Ev.bz (λ_=>xc (by omega) (by omega)) (λ_=>?_)
  refine Ev.gA (Ev.gA (hn _ ⟨rfl,by dsimp only;omega,by dsimp only;omega,by simp[TS];omega,h5,λz2 hz2=>?_⟩ (by dsimp only;omega)))
  rcases List.mem_append.1 hz2 with w|w
  ·exact h6 z2 w
  ·simp at w;subst w;exact hz
theorem Fp (hC:PC s T b) (ih:PG s T b K) (hm:g m) (h0:0<=a) (h1:a<T.length) (hq:QS q) (hK:64*(T.length - a).toNat+1<K+1) :
  Ev (λi=>cB (m i) j (M s T a b k q)) (λr=>St s T b k (a+1) 0 r.2/\kW r.1) (PP (b+s.length)):=by
 refine Ev.grow (F:=λn=>cB n j (M s T a b k q)) hm λm hm=>?_
 show Ev (λi=>gw (m i) (X (m i)) j (M s T a b k q)) _ _
 unfold gw
 have hl:=hC.np
 refine lf hm hC h0 h1 (by omega) λa2 t h2 h3 _ _ _ _=>?_
 refine ur (s:=s) (T:=T) (b:=b) (k:=k) (a:=a+1) (d:=1) (P:=λx:Bool×Z=>kW x.2) ?_ λx a3 q3 h4 h5 hq3 he=>?_
 ·refine Ev.grow (F:=λn=>di n true (M s T a2 b k q) j (Z.mk 0 [] 0 [] [] [] [] [] 0)) hm λm hm=>?_
  show Ev (λi=>ez (m i) (X (m i)) true (M s T a2 b k q) j (Z.mk 0 [] 0 [] [] [] [] [] 0)) _ _
  unfold ez
  dsimp only
  refine Ev.Y (Q:=λr=>St s T b true (a+1) 1 r.2.2/\kW r.2.1) ?_ λr hr=>?_
  ·refine Ev.grow (F:=λn=>ea n j (Z.mk 0 [] 0 [] [] [] [] [] 0) (M s T a2 b true q)) hm λm hm=>?_
   show Ev (λi=>eU (m i) (X (m i)) j (Z.mk 0 [] 0 [] [] [] [] [] 0) (M s T a2 b true q)) _ _
   unfold eU
   refine gC (ih.expr hm (by omega) h3 hq (by omega)) λx a3 q3 h4 h5 hq3 he=>?_
   dsimp only
   exact o6 hm hC (by omega) (by omega) (by omega) λa4 t h6 h7 _ _ _=>Ev.ok ⟨⟨a4,q3,rfl,by omega,h7,hq3⟩,he⟩
  ·obtain ⟨x,e,p⟩:=r
   obtain ⟨⟨a3,q3,hp,h4,h5,hq3⟩,he⟩:=hr
   dsimp only at hp he;subst hp
   exact Ev.ok ⟨⟨a3,q3,rfl,h4,h5,hq3⟩,he⟩
 ·dsimp only
  exact Ev.gA (Ev.ok ⟨⟨a3+1,q3,rfl,by omega,by omega,hq3⟩,he⟩)
theorem HG (hC:PC s T b) (ih:PG s T b K) (hm:g m) (h0:0<=a) (h1:a<T.length) (hq:QS q) (hK:64*(T.length - a).toNat<K+1) :
  Ev (λi=>cn (m i) j (M s T a b k q)) (λr=>St s T b k a 0 r.2.2/\r.1.length<=70000/\(∀ d,d∈r.1->mP d)/\r.2.1.length<=70000/\∀ x,x∈r.2.1->x.length<=65536) (PP (b+s.length)):=by
 refine Ev.grow (F:=λn=>cn n j (M s T a b k q)) hm λm hm=>?_
 show Ev (λi=>gK (m i) (X (m i)) j (M s T a b k q)) _ _
 unfold gK
 have hl:=hC.np
 refine lf hm hC h0 h1 (by omega) λa2 t h2 h3 _ _ _ _=>?_
 refine ur (s:=s) (T:=T) (b:=b) (k:=k) (a:=a+1) (d:=1) (P:=λr:Bool×List au×List ByS=>r.2.1.length<=70000/\(∀ d,d∈r.2.1->mP d)/\r.2.2.length<=70000/\∀ x,x∈r.2.2->x.length<=65536) ?_ λx a3 q3 h4 h5 hq3 he=>?_
 ·refine Ev.grow (F:=λn=>dh n false (M s T a2 b k q) j [] []) hm λm hm=>?_
  show Ev (λi=>ey (m i) (X (m i)) false (M s T a2 b k q) j [] []) _ _
  unfold ey
  dsimp only
  refine Ev.Y (Q:=λr=>St s T b false (a+1) 1 r.2.2.2/\r.2.1.length<=70000/\(∀ d,d∈r.2.1->mP d)/\r.2.2.1.length<=70000/\∀ x,x∈r.2.2.1->x.length<=65536) ?_ λr hr=>?_
  ·refine Ev.grow (F:=λn=>ek n j [] [] (M s T a2 b false q)) hm λm hm=>?_
   show Ev (λi=>fl (m i) (X (m i)) j [] [] (M s T a2 b false q)) _ _
   unfold fl
   refine Ev.Y (ih.decls hm (by omega) h3 hq (by omega)) λr hr=>?_
   obtain ⟨x,e,p⟩:=r
   obtain ⟨⟨a3,q3,hp,h4,h5,hq3⟩,he⟩:=hr
   dsimp only at hp he;subst hp
   dsimp only
   exact o6 hm hC (by omega) (by omega) (by omega) λa4 t h6 h7 _ _ _=>Ev.ok ⟨⟨a4,q3,rfl,by omega,h7,hq3⟩,he⟩
  ·obtain ⟨x,y,e,p⟩:=r
   obtain ⟨⟨a3,q3,hp,h4,h5,hq3⟩,he⟩:=hr
   dsimp only at hp he;subst hp
   exact Ev.ok ⟨⟨a3,q3,rfl,h4,h5,hq3⟩,he⟩
 ·dsimp only
  exact Ev.gA (Ev.ok ⟨⟨a3+1,q3,rfl,by omega,by omega,hq3⟩,he⟩)
theorem Fq (hC:PC s T b) (ih:PG s T b K):Bv s T b (K+1) 1 (λn=>dc n j):=by
 intro m a k q hm h0 h1 hq hK;refine Ev.grow (F:=λn=>dc n j (M s T a b k q)) hm λm hm=>?_;show Ev (λi=>gr (m i) (X (m i)) j (M s T a b k q)) _ _;unfold gr;refine mK hm hC h0 h1 λa2 t v h2 h3 _ _ _ _ _=>?_;dsimp only;refine Ev.jn (λv=>v.Kind≠16) (λw hw=>?_) (λjj hj=>?_)
 ·refine Ev.Y (ih.block hm (by omega) h3 hq (by omega)) λr hr=>?_;obtain ⟨x,e,p⟩:=r;obtain ⟨⟨a3,q3,hp,h4,h5,hq3⟩,he1,he2,he3,he4⟩:=hr;dsimp only at hp he1 he2 he3 he4;subst hp;exact Ev.ok ⟨⟨a3,q3,rfl,by omega,h5,hq3⟩,.mk (by simp) he1 he3 he4 (λq=>absurd q hw) (by simp) he2⟩
 exact Ev.br (λ_=>hj _ (by simp[Z.Kind])) (λ_=>hj _ (by simp[Z.Kind]))
theorem JD (hC:PC s T b) (ih:PG s T b K) (hm:g m) (h0:0<=a) (h1:a<T.length) (hq:QS q) (hK:64*(T.length - a).toNat+1<K+1) :
  Ev (λi=>dP (m i) (M s T a b k q)) (λr=>St s T b k a 0 r.2/\r.1.length<=70000/\∀ x,x∈r.1->kW x) (PP (b+s.length)):=by
 refine Ev.grow (F:=λn=>dP n (M s T a b k q)) hm λm hm=>?_
 show Ev (λi=>ia (m i) (X (m i)) (M s T a b k q)) _ _
 unfold ia
 have hl:=hC.np
 refine lf hm hC h0 h1 (by omega) λa2 t h2 h3 _ _ _ _=>?_
 refine ur (s:=s) (T:=T) (b:=b) (k:=k) (a:=a+1) (d:=1) (P:=λr:List Z=>r.length<=70000/\∀ x,x∈r->kW x) ?_ λx a3 q3 h4 h5 hq3 he=>?_
 ·refine Ev.grow (F:=λn=>dm n true (M s T a2 b k q) []) hm λm hm=>?_
  show Ev (λi=>eD (m i) (X (m i)) true (M s T a2 b k q) []) _ _
  unfold eD
  dsimp only
  refine gC (k:=true) (a:=a+1) (d:=1) (P:=λr:List Z=>r.length<=70000/\∀ x,x∈r->kW x) ?_ λx a' q' h2 h3 h4 h5=>Ev.ok ⟨⟨a',q',rfl,h2,h3,h4⟩,h5⟩
  refine Ev.grow (F:=λn=>eN n [] (M s T a2 b true q)) hm λm hm=>?_
  show Ev (λi=>gp (m i) (X (m i)) [] (M s T a2 b true q)) _ _
  unfold gp
  refine fm hm hC (by omega) h3 λa3 t3 h4 h5 _ _ _=>?_
  dsimp only
  refine la λr _ _=>Ev.bz (λ_=>?_) (λ_=>?_)
  ·refine gC (ih.expr hm (by omega) h5 hq (by omega)) λx a4 q4 h6 h7 hq4 he=>?_
   dsimp only
   refine Ev.gA ?_
   refine Ev.iter hm (λ(x:List Z×A)=>St s T b true (a+1) 0 x.2/\(x.1.length:Int)<=x.2.at_+1/\∀ e,e∈x.1->kW e) (λx=>(T.length - x.2.at_).toNat) ⟨⟨a4,q4,rfl,by omega,h7,hq4⟩,by simp;omega,by simpa using he⟩ ?_
   rintro ⟨l,p⟩ ⟨⟨a6,q6,hp,h14,h15,hq6⟩,hl2,hl3⟩ next hn
   dsimp only at hp hl2 hl3;subst hp;dsimp only at hn hl2 ⊢
   refine mD hm hC (by omega) (by omega) (λa7 t h16 h17 _ _ _ _=>?_) (λa7 t h16 h17 _ _ _ _=>?_)
   ·dsimp only
    refine Ev.bK (gC (ih.expr hm (by omega) h17 hq6 (by omega)) λe a8 q8 h18 h19 hq8 he8=>?_)
    dsimp only
    refine Ev.gA (hn _ ⟨⟨a8,q8,rfl,by omega,h19,hq8⟩,by simp;omega,λz hz=>?_⟩ (by dsimp only;omega))
    rcases List.mem_append.1 hz with w|w
    ·exact hl3 z w
    ·simp at w;subst w;exact he8
   ·dsimp only
    refine Ev.bE (o6 hm hC (by omega) (by omega) (by omega) λa8 t h18 h19 _ _ _=>Ev.ok ⟨⟨a8,q6,rfl,by omega,h19,hq6⟩,by dsimp only;omega,hl3⟩)
  ·exact o6 hm hC (by omega) (by omega) (by omega) λa8 t h18 h19 _ _ _=>Ev.ok ⟨⟨a8,q,rfl,by omega,h19,hq⟩,by simp,by simp⟩
 ·dsimp only
  exact Ev.gA (Ev.ok ⟨⟨a3+1,q3,rfl,by omega,by omega,hq3⟩,he⟩)
theorem JE (hC:PC s T b) (ih:PG s T b K):Bv s T b (K+1) 14 dQ:=by
 intro m a k q hm h0 h1 hq hK;refine Ev.grow (F:=λn=>dQ n (M s T a b k q)) hm λm hm=>?_;show Ev (λi=>ig (m i) (X (m i)) (M s T a b k q)) _ _;unfold ig;refine mK hm hC h0 h1 λa2 t v h2 h3 _ _ _ _ _=>?_;dsimp only;refine fm hm hC (by omega) h3 λa3 t3 h4 h5 _ _ _=>?_;dsimp only;refine pT λr _ _=>Ev.bz (λ_=>?_) (λ_=>?_)
 ·exact gC (ih.expr hm (by omega) h5 hq (by omega)) λx a4 q4 h6 h7 hq4 he=>Ev.ok ⟨⟨a4,q4,rfl,by omega,h7,hq4⟩,he⟩
 refine sA hm hC (by omega) h5 (by omega) λa4 h6 h7=>CO hm hC (by omega) h7 (by omega) λa5 nm h8 h9=>?_;dsimp only;refine sA hm hC (by omega) h9 (by omega) λa6 h10 h11=>gC (ih.expr hm (by omega) h11 hq (by omega)) λx a7 q7 h12 h13 hq7 he=>?_;dsimp only;refine Ev.gA ?_;refine Ev.jn (λv=>St s T b k (a+1) 0 v.1/\v.2.B.length<=2/\v.2.Kind=15/\∀ e,e∈v.2.B->kW e) (λw hw=>?_) (λjj hj=>?_)
 ·obtain ⟨p,e⟩:=w;obtain ⟨⟨a8,q8,hp,h14,h15,hq8⟩,hs1,hs2,hs3⟩:=hw;dsimp only at hp hs1 hs2 hs3;subst hp;dsimp only;refine lf hm hC (by omega) (by omega) (by omega) λa9 t h16 h17 _ _ _ _=>gC (ih.expr hm (by omega) h17 hq8 (by omega)) λx a10 q10 h18 h19 hq10 he10=>?_;dsimp only;refine Ev.gA (Ev.ok ⟨⟨a10,q10,rfl,by omega,h19,hq10⟩,.of (by simp;omega) (by omega) λz hz=>?_⟩);rcases List.mem_append.1 hz with w|w
  ·exact hs3 z w
  simp at w;subst w;exact he10
 refine fm hm hC (by omega) (by omega) λa8 t8 h14 h15 _ _ _=>?_;dsimp only;refine pT λr _ _=>Ev.br (λ_=>?_) (λ_=>hj _ ⟨⟨a8,q7,rfl,by omega,by omega,hq7⟩,by simp[TS],rfl,by simpa[TS] using he⟩);refine sA hm hC (by omega) h15 (by omega) λa9 h16 h17=>gC (ih.expr hm (by omega) h17 hq7 (by omega)) λx2 a10 q10 h18 h19 hq10 he10=>?_;dsimp only;refine Ev.gA (hj _ ⟨⟨a10,q10,rfl,by omega,h19,hq10⟩,by simp[TS],rfl,?_⟩);simp only[TS];intro z hz;simp at hz;rcases hz with rfl|rfl
 ·exact he
 exact he10
theorem JF (hC:PC s T b) (ih:PG s T b K):Bv s T b (K+1) 1 dR:=by
 intro m a k q hm h0 h1 hq hK;refine Ev.grow (F:=λn=>dR n (M s T a b k q)) hm λm hm=>?_;show Ev (λi=>ij (m i) (X (m i)) (M s T a b k q)) _ _;unfold ij;have hl:=hC.np;refine mK hm hC h0 h1 λa1 t v h2 h3 _ _ _ _ _=>?_;dsimp only;refine lf hm hC (by omega) h3 (by omega) λa2 t h4 h5 _ _ _ _=>?_;refine ur (s:=s) (T:=T) (b:=b) (k:=k) (a:=a+1) (d:=1) (P:=kW) ?_ λx a3 q3 h4 h5 hq3 he=>?_
 ·refine Ev.grow (F:=λn=>dj n true (M s T a2 b k q) (Z.mk 14 [] 0 [] [] [] [] [] v)) hm λm hm=>?_;show Ev (λi=>eC (m i) (X (m i)) true (M s T a2 b k q) (Z.mk 14 [] 0 [] [] [] [] [] v)) _ _;unfold eC;dsimp only;refine gC (k:=true) (a:=a+1) (d:=1) (P:=kW) ?_ λx a' q' h2 h3 h4 h5=>Ev.ok ⟨⟨a',q',rfl,h2,h3,h4⟩,h5⟩;refine Ev.grow (F:=λn=>eO n (Z.mk 14 [] 0 [] [] [] [] [] v) (M s T a2 b true q)) hm λm hm=>?_;show Ev (λi=>gv (m i) (X (m i)) (Z.mk 14 [] 0 [] [] [] [] [] v) (M s T a2 b true q)) _ _;unfold gv;refine Ev.iter hm (λ(x:Z×A×Bool)=>St s T b true (a+1) 0 x.2.1/\x.1.Kind=14/\x.1.Decls=[]/\x.1.H=[]/\(x.1.B.length:Int)+(if x.2.2 then 1 else 0)<=x.2.1.at_+1/\∀ e,e∈x.1.B->kW e) (λx=>2*(T.length - x.2.1.at_).toNat+(if x.2.2 then 1 else 0)) ⟨⟨a2,q,rfl,by omega,by omega,hq⟩,rfl,rfl,rfl,by simp[TS];omega,by simp[TS]⟩ ?_;rintro ⟨e,p,f⟩ ⟨⟨a6,q6,hp,h14,h15,hq6⟩,hk,hd,ht,hl2,hl3⟩ next hn;dsimp only at hp hk hd ht hl2 hl3;subst hp;dsimp only at hn hl2 ⊢;refine fm hm hC (by omega) (by omega) λa7 t7 h16 h17 _ _ _=>?_;dsimp only;refine la λr _ _=>Ev.bz (λ_=>?_) (λ_=>?_)
  ·refine Ev.jn (λp=>∃ a8,p=M s T a8 b true q6/\a6<=a8/\a8<T.length/\(f=false->a6<a8)) (λw hw=>?_) (λjj hj=>?_)
   ·obtain ⟨a8,rfl,h18,h19,h20⟩:=hw;have hf1:(e.B.length:Int)<=a8:=by
     cases f with
     | true=>simp at hl2;omega
     | false=>have:=h20 rfl;simp at hl2;omega
    have hf2:∀ x:Int,a8<=x->2*(T.length - x).toNat+0<2*(T.length - a6).toNat+(if f=true then 1 else 0):=by
     intro x hx;cases f with
     | true=>simp;omega
     | false=>have:=h20 rfl;simp;omega
    refine mK hm hC (by omega) h19 λa9 t v h21 h22 _ _ _ _ _=>?_;dsimp only;refine mD hm hC (by omega) (by omega) (λa10 t h23 h24 _ _ _ _=>?_) (λa10 t h23 h24 _ _ _ _=>?_)
    ·dsimp only;refine Ev.bK ?_;refine Ev.jn (λv=>St s T b true (a+1) 0 v.1/\kW v.2) (λw hw=>?_) (λjj hj=>?_)
     ·obtain ⟨p,x⟩:=w;obtain ⟨⟨a11,q11,hp,h25,h26,hq11⟩,hx⟩:=hw;dsimp only at hp hx;subst hp;dsimp only;refine Ev.gA (o6 hm hC (by omega) (by omega) (by omega) λa12 t h27 h28 _ _ _=>Ev.ok ⟨⟨a12,q11,rfl,by omega,h28,hq11⟩,?_⟩);dsimp only;rw[hd,ht];refine .of (by simp;omega) (by omega) λz hz=>?_;rcases List.mem_append.1 hz with w|w
      ·exact hl3 z w
      simp at w;subst w;exact hx
     refine fm hm hC (by omega) (by omega) λa11 t11 h25 h26 _ _ _=>?_;dsimp only;refine la λr _ _=>Ev.bz (λ_=>?_) (λ_=>hj _ ⟨⟨a11,q6,rfl,by omega,by omega,hq6⟩,.leaf (by decide)⟩);exact gC (ih.expr hm (by omega) h26 hq6 (by omega)) λx a12 q12 h27 h28 hq12 he12=>hj _ ⟨⟨a12,q12,rfl,by omega,h28,hq12⟩,he12⟩
    dsimp only;refine Ev.bE (gC (ih.item hm (by omega) h24 hq6 (by omega)) λx a12 q12 h27 h28 hq12 he12=>?_);dsimp only;refine Ev.gA (hn _ ⟨⟨a12,q12,rfl,by omega,h28,hq12⟩,hk,hd,ht,by simp[TS];omega,λz hz=>?_⟩ (by have:=hf2 a12 (by omega);simpa using this));rcases List.mem_append.1 hz with w|w
    ·exact hl3 z w
    simp at w;subst w;exact he12
   refine Ev.bz (λhf=>?_) (λhf=>hj _ ⟨a7,rfl,h16,h17,λh=>by rw[hf] at h;cases h⟩);exact lf hm hC (by omega) h17 (by omega) λa8 t h18 h19 _ _ _ _=>hj _ ⟨a8,rfl,by omega,h19,λ_=>by omega⟩
  refine o6 hm hC (by omega) (by omega) (by omega) λa8 t h18 h19 _ _ _=>Ev.ok ⟨⟨a8,q6,rfl,by omega,h19,hq6⟩,?_⟩;dsimp only;cases e with
  | mk k0 t0 n0 x0 y0 s0 d0 tl0 p0=>
   simp only[Z.Kind,Z.Decls,Z.H,Z.B] at hk hd ht hl2 hl3
   subst hd ht
   refine .of ?_ (by omega) hl3
   have:(s0.length:Int)<=a6+1:=by
    cases f with
    | true=>simp at hl2;omega
    | false=>simp at hl2;omega
   omega
 dsimp only;exact Ev.gA (Ev.ok ⟨⟨a3+1,q3,rfl,by omega,by omega,hq3⟩,he⟩)
end
end Go.Abs
end
section
namespace Go.Abs
open U
structure Mi (d:au):Prop where
 l2:d.Body.length<=70000
 l3:d.H.length<=70000
 l4:∀ x,x∈d.H->x.length<=65536
 l5:d.lT.length<=70000
 l6:∀ x,x∈d.lT->x.length<=65536
 l7:d.Trail.length<=65536
 d:∀ x,x∈d.Body->mP x
theorem mP.w {d:au} (h:mP d):Mi d:=⟨h.l2,h.l3,h.l4,h.l5,h.l6,h.l7,h.d⟩
theorem Mi.one {k p:Int} {lb a b:ByS} {x:Z} {d:au} {pos:Int} (h:Mi d) (hx:kW x):mP (au.mk k p lb a b [x] d.Body d.H d.lT d.Trail pos):=
 .mk (by simp) h.l2 h.l3 h.l4 h.l5 h.l6 h.l7 (λ_=>by simp) (by simpa using hx) h.d
theorem mP.new {k p:Int} {lb a b:ByS} {l:List Z} {body:List au} {tail:List ByS} {pos:Int} (h1:l.length<=70000) (h2:body.length<=70000) (h3:tail.length<=70000) (h4:∀ x,x∈tail->x.length<=65536)
  (h8:k=1\/k=2\/k=3->1<=l.length) (hs:∀ x,x∈l->kW x) (hd:∀ x,x∈body->mP x):mP (au.mk k p lb a b l body tail [] [] pos):=
 .mk h1 h2 h3 h4 (by simp) (by simp) (by simp) h8 hs hd
section
variable {s:ByS} {T:List aY} {b:Int} {K:Nat} {m:Nat->Nat} {a:Int} {k:Bool} {q:Option Z} {j:Bool}
theorem HH (hC:PC s T b) (ih:PG s T b K) (hm:g m) (h0:0<=a) (h1:a<T.length) (hq:QS q) {d:au} (hd:mP d) {t:aY} (ht:T[a.toNat]?=some t) (hk:t.Kind≠0) (hk7:t.Kind≠7) (hK:64*(T.length - a).toNat+14<K+1) :
  Ev (λi=>dz (m i) j (M s T a b k q) d) (λr=>St s T b k a 0 r.1/\mP r.2) (PP (b+s.length)):=by
 refine Ev.grow (F:=λn=>dz n j (M s T a b k q) d) hm λm hm=>?_
 show Ev (λi=>gL (m i) (X (m i)) j (M s T a b k q) d) _ _
 unfold gL
 have hl:=hC.np
 have hnx:=hC.next h0 ht hk
 have hw:=hd.w
 refine fm hm hC h0 h1 λa2 t2 h2 h3 ht2 h4 e2=>?_
 have e2:=e2 t ht (λ_=>hk7)
 subst e2
 dsimp only
 refine Ev.gA ?_
 refine Ev.jn (λv=>St s T b k (a2+1) 0 v.1/\Mi v.2) (λw hw=>?_) (λjj hj=>?_)
 ·obtain ⟨p,e⟩:=w
  obtain ⟨⟨a3,q3,hp,h5,h6,hq3⟩,he⟩:=hw
  dsimp only at hp he;subst hp;dsimp only
  refine lf hm hC (by omega) (by omega) (by omega) λa4 t h7 h8 _ _ _ _=>gC (ih.expr hm (by omega) h8 hq3 (by omega)) λx a5 q5 h9 h10 hq5 hx=>?_
  exact Ev.ok ⟨⟨a5,q5,rfl,by omega,h10,hq5⟩,he.one hx⟩
 ·refine mD hm hC (by omega) hnx (λa4 t h7 h8 _ _ _ _=>?_) (λa4 t h7 h8 _ _ _ _=>?_)
  ·exact Ev.bK (hj _ ⟨⟨a4,q,rfl,by omega,by omega,hq⟩,hw.l2,hw.l3,hw.l4,hw.l5,hw.l6,hw.l7,hw.d⟩)
  ·dsimp only
   refine Ev.bE ?_
   refine mD hm hC (by omega) h8 (λa5 t h9 h10 _ _ _ _=>?_) (λa5 t h9 h10 _ _ _ _=>?_)
   ·exact Ev.bK (hj _ ⟨⟨a5,q,rfl,by omega,by omega,hq⟩,hw.l2,hw.l3,hw.l4,hw.l5,hw.l6,hw.l7,hw.d⟩)
   ·exact Ev.bE (hj _ ⟨⟨a5,q,rfl,by omega,by omega,hq⟩,hw.l2,hw.l3,hw.l4,hw.l5,hw.l6,hw.l7,hw.d⟩)
theorem Dw (hC:PC s T b) (ih:PG s T b K) (hm:g m) (h0:0<=a) (h1:a<T.length) (hq:QS q) {d:au} (hd:mP d) (hp:CP T a) (hK:64*(T.length - a).toNat+14<K+1) :
  Ev (λi=>cT (m i) j (M s T a b k q) d) (λr=>St s T b k a 0 r.1/\mP r.2) (PP (b+s.length)):=by
 refine Ev.grow (F:=λn=>cT n j (M s T a b k q) d) hm λm hm=>?_
 show Ev (λi=>fU (m i) (X (m i)) j (M s T a b k q) d) _ _
 unfold fU
 have hl:=hC.np
 have hw:=hd.w
 obtain ⟨t,u,p1,p2,p3,p4,p5,p6⟩:=hp
 refine lf hm hC h0 h1 (by omega) λa2 t2 h2 h3 _ _ _ e2=>?_
 have e2:=e2 t p1 (λ_=>by omega)
 subst e2
 refine ur (d:=1) (P:=Mi) ((wj hm hC (by omega) (Int.le_refl _) hq p3 p4 p5 (λh=>by obtain ⟨w,w1,w2⟩:=p6 h;exact ⟨w,by rw[show a+1+1=a+2 by omega];exact w1,w2⟩)).Ag λr hr=>⟨hr.1,?_⟩) λx a3 q3 h4 h5 hq3 hxw=>?_
 ·rcases hr.2 with h|⟨l,h⟩
  ·rw[h];exact ⟨hw.l2,hw.l3,hw.l4,hw.l5,hw.l6,hw.l7,hw.d⟩
  ·rw[h];exact ⟨hw.l2,hw.l3,hw.l4,hw.l5,hw.l6,hw.l7,hw.d⟩
 dsimp only
 refine Ev.gA (lf hm hC (by omega) (by omega) (by omega) λa4 t h7 h8 _ _ _ _=>gC (ih.expr hm (by omega) h8 hq3 (by omega)) λy a5 q5 h9 h10 hq5 hy=>?_)
 exact Ev.ok ⟨⟨a5,q5,rfl,by omega,h10,hq5⟩,hxw.one hy⟩
theorem Dx (hC:PC s T b) (ih:PG s T b K) (hm:g m) (h0:0<=a) (h1:a<T.length) (hq:QS q) {d:au} (hd:mP d) (hK:64*(T.length - a).toNat+14<K+1) :
  Ev (λi=>cS (m i) j (M s T a b k q) d) (λr=>St s T b k a 0 r.1/\mP r.2) (PP (b+s.length)):=by
 refine Ev.grow (F:=λn=>cS n j (M s T a b k q) d) hm λm hm=>?_
 show Ev (λi=>fT (m i) (X (m i)) j (M s T a b k q) d) _ _
 unfold fT
 have hl:=hC.np
 have hw:=hd.w
 refine gC (ih.parens hm h0 h1 hq (by omega)) λe a2 q2 h2 h3 hq2 he=>?_
 dsimp only
 refine fm hm hC (by omega) (by omega) λa3 t h4 h5 ht h6 _=>?_
 dsimp only
 refine la λr hr _=>Ev.br (λhr1=>?_) (λ_=>?_)
 ·have hk5:=(hr hr1).1
  have hnx:=hC.next (by omega) ht (by omega)
  refine mK hm hC (by omega) h5 λa5 t5 v h9 h10 _ h11 _ h12 h13=>?_
  have e5:=h11 t ht h6
  subst e5
  dsimp only
  refine r4 hm h12 h13 he λx hx=>?_
  dsimp only
  refine Ev.gA (gC (ih.expr hm (by omega) hnx hq2 (by omega)) λy a5 q5 h9 h10 hq5 hy=>?_)
  exact Ev.ok ⟨⟨a5,q5,rfl,by omega,h10,hq5⟩,.mk (by simp) hw.l2 hw.l3 hw.l4 hw.l5 hw.l6 hw.l7 (λ_=>by simp) (by simp;exact ⟨hx,hy⟩) hw.d⟩
 ·refine gC (ih.expr (q:=some e) hm (by omega) h5 (λx hx=>by cases hx;exact he) (by omega)) λy a5 q5 h9 h10 hq5 hy=>?_
  exact Ev.ok ⟨⟨a5,q5,rfl,by omega,h10,hq5⟩,hw.one hy⟩
theorem JG (hC:PC s T b) (ih:PG s T b K) (hm:g m) (h0:0<=a) (h1:a<T.length) (hq:QS q) {t:aY} (ht:T[a.toNat]?=some t) (hk:t.Kind≠0) (hk7:t.Kind≠7) (hK:64*(T.length - a).toNat+17<K+1) :
  Ev (λi=>cA (m i) j (M s T a b k q)) (λr=>St s T b k a 0 r.2/\mP r.1) (PP (b+s.length)):=by
 refine Ev.grow (F:=λn=>cA n j (M s T a b k q)) hm λm hm=>?_
 show Ev (λi=>ib (m i) (X (m i)) j (M s T a b k q)) _ _
 unfold ib
 have hl:=hC.np
 have hnx:=hC.next h0 ht hk
 refine fm hm hC h0 h1 λa2 t2 h2 h3 ht2 h4 e2=>?_
 have e2:=e2 t ht (λ_=>hk7)
 subst e2
 rw[ht] at ht2;cases ht2
 dsimp only
 refine mK hm hC (by omega) h3 λa5 t5 v h9 h10 _ h11 _ h12 h13=>?_
 have e5:=h11 t ht h4
 subst e5
 dsimp only
 refine oz hC (by omega) h3 (by omega) (by omega) λu _=>?_
 dsimp only
 have hd0:mP (au.mk 0 0 [] [] [] [] [] [] [] [] v):=.new (by simp) (by simp) (by simp) (by simp) (by simp) (by simp) (by simp)
 refine Ev.jn (λw=>St s T b k a5 0 w.1/\mP w.2) (λw hw=>Ev.ok ⟨hw.1,hw.2⟩) (λjj hj=>?_)
 refine Ev.jn (λ_=>True) (λw _=>?_) (λj2 hj2=>?_)
 ·refine Ev.br (λ_=>?_) (λ_=>?_)
  ·exact ur (ih.field hm (by omega) h3 hq hd0 ht hk hk7 (by omega)) λx a6 q6 h14 h15 hq6 hx=>hj _ ⟨⟨a6,q6,rfl,h14,h15,hq6⟩,hx⟩
  refine Bb hm hC (by omega) h3 λa6 r h14 h15 e6 hp=>?_
  have e6:=e6 t ht h4
  subst e6
  dsimp only
  refine Ev.br (λhr=>?_) (λ_=>?_)
  ·exact ur (ih.pattern hm (by omega) h3 hq hd0 (hp hr) (by omega)) λx a6 q6 h14 h15 hq6 hx=>hj _ ⟨⟨a6,q6,rfl,by omega,h15,hq6⟩,hx⟩
  refine pT λr _ _=>Ev.br (λ_=>?_) (λ_=>?_)
  ·refine Ev.jn (λp=>p=M s T a6 b k q) (λp hp=>?_) (λj3 hj3=>?_)
   ·subst hp
    dsimp only
    refine Ev.gA (ua hm hC (by omega) hnx (by omega) λa7 x h16 h17=>?_)
    dsimp only
    refine lf hm hC (by omega) h17 (by omega) λa8 t8 h18 h19 _ _ _ _=>gC (ih.expr hm (by omega) h19 hq (by omega)) λx a9 q9 h20 h21 hq9 hx=>?_
    exact hj _ ⟨⟨a9,q9,rfl,by omega,h21,hq9⟩,.new (by simp) (by simp) (by simp) (by simp) (by simp) (by simpa using hx) (by simp)⟩
   ·exact Ev.bz (λ_=>iP hm hC (by omega) h3 (by omega)) (λ_=>hj3 _ rfl)
  refine la λr _ _=>Ev.br (λ_=>?_) (λ_=>?_)
  ·refine Ev.jn (λp=>p=M s T a6 b k q) (λp hp=>?_) (λj3 hj3=>?_)
   ·subst hp
    dsimp only
    exact Ev.gA (hj _ ⟨⟨a6+1,q,rfl,by omega,by omega,hq⟩,.new (by simp) (by simp) (by simp) (by simp) (by simp) (by simp) (by simp)⟩)
   ·exact Ev.bz (λ_=>iP hm hC (by omega) h3 (by omega)) (λ_=>hj3 _ rfl)
  refine pT λr _ _=>Ev.br (λ_=>?_) (λ_=>?_)
  ·refine Ev.gA (gC (ih.expr hm (by omega) hnx hq (by omega)) λx a9 q9 h20 h21 hq9 hx=>?_)
   dsimp only
   refine Ev.Y (ih.block hm (by omega) (by omega) hq9 (by omega)) λr hr=>?_
   obtain ⟨l,tl,p⟩:=r
   obtain ⟨⟨a3,q3,hp,h4,h5,hq3⟩,he1,he2,he3,he4⟩:=hr
   dsimp only at hp he1 he2 he3 he4;subst hp
   exact hj _ ⟨⟨a3,q3,rfl,by omega,h5,hq3⟩,.new (by simp) he1 he3 he4 (by simp) (by simpa using hx) he2⟩
  refine pT λr _ _=>Ev.br (λ_=>?_) (λ_=>?_)
  ·refine Ev.gA (CO hm hC (by omega) hnx (by omega) λa7 nm h16 h17=>?_)
   dsimp only
   refine sA hm hC (by omega) h17 (by omega) λa8 h18 h19=>gC (ih.expr hm (by omega) h19 hq (by omega)) λx a9 q9 h20 h21 hq9 hx=>?_
   dsimp only
   refine Ev.Y (ih.block hm (by omega) (by omega) hq9 (by omega)) λr hr=>?_
   obtain ⟨l,tl,p⟩:=r
   obtain ⟨⟨a3,q3,hp,h4,h5,hq3⟩,he1,he2,he3,he4⟩:=hr
   dsimp only at hp he1 he2 he3 he4;subst hp
   exact hj _ ⟨⟨a3,q3,rfl,by omega,h5,hq3⟩,.new (by simp) he1 he3 he4 (by simp) (by simpa using hx) he2⟩
  refine la λr _ _=>Ev.br (λ_=>?_) (λ_=>?_)
  ·exact ur (ih.xb hm (by omega) h3 hq hd0 (by omega)) λx a6 q6 h14 h15 hq6 hx=>hj _ ⟨⟨a6,q6,rfl,by omega,h15,hq6⟩,hx⟩
  ·exact gC (ih.expr hm (by omega) h3 hq (by omega)) λx a9 q9 h20 h21 hq9 hx=>hj _ ⟨⟨a9,q9,rfl,by omega,h21,hq9⟩,.new (by simp) (by simp) (by simp) (by simp) (by simp) (by simpa using hx) (by simp)⟩
 ·refine yB hm λr _=>Ev.br (λ_=>vy hm (by simp) λr _=>hj2 _ trivial) (λ_=>hj2 _ trivial)
end
end Go.Abs
end
section
namespace Go.Abs
open U
section
variable {s:ByS} {T:List aY} {b:Int} {K:Nat} {m:Nat->Nat} {a:Int} {k:Bool} {q:Option Z} {j:Bool}
theorem CQ (hC:PC s T b) (hm:g m) (h0:0<=a) (h1:a<T.length) (hq:QS q) {lead:List ByS} (hl1:(lead.length:Int)<=a+1) (hl2:∀ x,x∈lead->x.length<=65536)
  (Hd:∀ {m:Nat->Nat} {a':Int} {q:Option Z} {t:aY},g m->a<=a'->a'<T.length->QS q->T[a'.toNat]?=some t->t.Kind≠0->t.Kind≠7->Ev (λi=>cA (m i) j (M s T a' b k q)) (λr=>St s T b k a' 0 r.2/\mP r.1) (PP (b+s.length))) :
  Ev (λi=>iH (m i) lead j (M s T a b k q)) (λr=>St s T b k a 0 r.2.2/\r.1.length<=70000/\(∀ d,d∈r.1->mP d)/\r.2.1.length<=70000/\∀ x,x∈r.2.1->x.length<=65536) (PP (b+s.length)):=by
 unfold iH
 have hl:=hC.np
 refine Ev.iter hm (λ(x:A×(List ByS)×(List au)×Int×Bool)=>St s T b k a 0 x.1/\(x.2.1.length:Int)<=x.1.at_+1/\(∀ z,z∈x.2.1->z.length<=65536)/\(x.2.2.1.length:Int)<=x.1.at_+(if x.2.2.2.2 then 0 else 1)/\(∀ d,d∈x.2.2.1->mP d)/\x.2.2.2.1<=x.1.at_/\(0<x.2.2.2.1->1<=x.2.2.1.length))
  (λx=>2*(T.length - x.1.at_).toNat+(if x.2.2.2.2 then 1 else 0)) ⟨⟨a,q,rfl,by omega,by omega,hq⟩,by dsimp only;omega,hl2,by simp;omega,by simp,by dsimp only;omega,by simp⟩ ?_
 rintro ⟨p,lead,out,e,sep⟩ ⟨⟨a1,q1,hp,h2,h3,hq1⟩,i1,i2,i3,i4,i5,i6⟩ next hn
 dsimp only at hp i1 i2 i3 i4 i5 i6;subst hp;dsimp only at hn i1 i3 i5 ⊢
 have ho3:out.length<=70000:=by cases sep<;>simp at i3<;>omega
 refine Jy hm hC (by omega) (by omega) λa2 t r h4 h5 ht hr h7=>?_
 dsimp only
 refine Ev.bz (λhrf=>?_) (λ_=>Ev.ok ⟨⟨a2,q1,rfl,by omega,by omega,hq1⟩,ho3,i4,by dsimp only;omega,i2⟩)
 have hk0:=hr hrf
 have hnx:=hC.next (by omega) ht hk0
 have htt:=(hC.tok ht).2.2.2.1
 refine fm hm hC (by omega) h5 λa3 t3 h8 h9 ht3 h10 e3=>?_
 have e3:=e3 t ht h7
 subst e3
 rw[ht] at ht3;cases ht3
 dsimp only
 refine Ev.jn (λv=>v=false->t.Kind≠7) (λv hv=>?_) (λj1 hj1=>?_)
 ·refine Ev.br (λ_=>?_) (λhvf=>?_)
  ·refine Ev.gA (hn _ ⟨⟨a3+1,q1,rfl,by omega,by omega,hq1⟩,by dsimp only;omega,i2,?_,i4,by dsimp only;omega,i6⟩ ?_)
   ·dsimp only;cases sep<;>simp at i3 ⊢<;>omega
   ·dsimp only;cases sep<;>simp<;>omega
  have hk7:=hv hvf
  refine Ev.jn (λv=>v.1=M s T a3 b k q1/\(v.2=true->0<e)) (λv hv=>?_) (λj2 hj2=>?_)
  ·obtain ⟨p,w⟩:=v
   obtain ⟨hp,hw⟩:=hv
   dsimp only at hp hw;subst hp;dsimp only
   refine Ev.br (λhwt=>?_) (λ_=>?_)
   ·have ho:=i6 (hw hwt)
    have ho2:(out.length:Int)<=65540:=by cases sep<;>simp at i3<;>omega
    refine Ev.gA (Ev.eA λx hx=>?_)
    have hxd:=i4 x (List.mem_of_getElem? hx)
    refine Ev.gA (hn _ ⟨⟨a3+1,q1,rfl,by omega,by omega,hq1⟩,by dsimp only;omega,i2,?_,λd hd=>?_,by dsimp only;omega,λ_=>by simpa using ho⟩ ?_)
    ·dsimp only;cases sep<;>simp at i3 ⊢<;>omega
    ·dsimp only at hd
     rcases List.mem_or_eq_of_mem_set hd with w|w
     ·exact i4 d w
     ·subst w;exact .mk hxd.l1 hxd.l2 hxd.l3 hxd.l4 hxd.l5 hxd.l6 htt hxd.kd hxd.s hxd.d
    ·dsimp only;cases sep<;>simp<;>omega
   ·refine Ev.jn (λv=>v.1=M s T a3 b k q1) (λv hv=>?_) (λj3 hj3=>?_)
    ·obtain ⟨p,w⟩:=v
     dsimp only at hv;subst hv;dsimp only
     refine Ev.br (λ_=>?_) (λ_=>?_)
     ·refine Ev.gA (Ev.gA (hn _ ⟨⟨a3+1,q1,rfl,by omega,by omega,hq1⟩,by simp;omega,λz hz=>?_,?_,i4,by dsimp only;omega,i6⟩ ?_))
      ·rcases List.mem_append.1 hz with w|w
       ·exact i2 z w
       ·simp at w;subst w;exact htt
      ·dsimp only;cases sep<;>simp at i3 ⊢<;>omega
      ·dsimp only;cases sep<;>simp<;>omega
     ·refine Ev.jn (λv=>v=false->sep=true) (λv hv=>?_) (λj4 hj4=>?_)
      ·refine Ev.br (λ_=>iP hm hC (by omega) h9 (by omega)) (λhvf=>?_)
       have hsep:=hv hvf
       subst hsep
       simp at i3
       refine gC (Hd hm (by omega) h9 hq1 ht hk0 hk7) λd a4 q4 h11 h12 hq4 hd=>?_
       dsimp only
       refine Ev.gA (hn _ ⟨⟨a4,q4,rfl,by omega,h12,hq4⟩,by simp;omega,by simp,by simp;omega,λz hz=>?_,by dsimp only;omega,λ_=>by simp⟩ (by simp;omega))
       rcases List.mem_append.1 hz with w|w
       ·exact i4 z w
       ·simp at w;subst w
        exact .mk hd.l1 hd.l2 hd.l3 hd.l4 (by omega) i2 hd.l7 hd.kd hd.s hd.d
      ·refine Ev.W (λ_=>hj4 _ (by simp)) (λ_=>hj4 _ (by simp))
    ·refine Ev.W (λ_=>?_) (λ_=>hj3 _ rfl)
     exact Ev.fQ (sI hm hC (by omega) h9) λr hr=>hj3 _ hr
  ·refine Ev.W (λ_=>Ev.bk (λhe=>?_) (λ_=>hj2 _ ⟨rfl,by simp⟩)) (λ_=>hj2 _ ⟨rfl,by simp⟩)
   exact Ev.fQ (wg hm hC (by omega) h9 (by omega) (by omega)) λr hr=>hj2 _ ⟨hr,λ_=>by omega⟩
 ·refine Ev.W (λ_=>hj1 _ (by simp)) (λhk7=>la λr _ _=>hj1 _ λ_=>hk7)
theorem Dy (hC:PC s T b) (hX:uO s b):∀ K,PG s T b K:=by
 intro K
 induction K with
 | zero=>
  constructor
  all_goals (intros;(try intro _ _ _ _ _ _ _ _ _);exact absurd ‹_<0› (Nat.not_lt_zero _))
 | succ K ih=>
  exact {
   expr:=λhm h0 h1 hq hK=>Jz hC ih hm h0 h1 hq hK
   alt:=λhm h0 h1 hq hK=>Lk hC ih hm h0 h1 hq hK
   CF:=λhm h0 h1 hq hK=>JA hC ih hm h0 h1 hq hK
   bin:=λhm h0 h1 hq hl0 hl5 hK=>Ll hC ih hm h0 h1 hq hl0 hl5 hK
   unary:=λhm h0 h1 hq hK=>HD hC ih hm h0 h1 hq hK
   post:=λhm h0 h1 hq hK=>JB hC ih hm h0 h1 hq hK
   I8:=λhm h0 h1 hq hK=>JC hC ih hm h0 h1 hq hK
   named:=λhm h0 h1 hq ht hk hK=>HF hC ih hm h0 h1 hq ht hk hK
   qB:=λhm h0 h1 ht hk _=>Fo hC hX hm h0 h1 ht hk
   parens:=λhm h0 h1 hq hK=>Fp hC ih hm h0 h1 hq hK
   A5:=λhm h0 h1 hq hK=>Fq hC ih hm h0 h1 hq hK
   list:=λhm h0 h1 hq hK=>JF hC ih hm h0 h1 hq hK
   block:=λhm h0 h1 hq hK=>HG hC ih hm h0 h1 hq hK
   args:=λhm h0 h1 hq hK=>JD hC ih hm h0 h1 hq hK
   item:=λhm h0 h1 hq hK=>JE hC ih hm h0 h1 hq hK
   field:=λhm h0 h1 hq hd ht hk hk7 hK=>HH hC ih hm h0 h1 hq hd ht hk hk7 hK
   pattern:=λhm h0 h1 hq hd hp hK=>Dw hC ih hm h0 h1 hq hd hp hK
   xb:=λhm h0 h1 hq hd hK=>Dx hC ih hm h0 h1 hq hd hK
   decl:=λhm h0 h1 hq ht hk hk7 hK=>JG hC ih hm h0 h1 hq ht hk hk7 hK
   decls:=λ{m a k q j} hm h0 h1 hq hK=>by
    refine Ev.grow (F:=λn=>dF n j (M s T a b k q)) hm λm hm=>?_;exact CQ (lead:=[]) hC hm h0 h1 hq (by simp;omega) (by simp) λhm2 ha h2 hq2 ht hk hk7=>ih.decl hm2 (by omega) h2 hq2 ht hk hk7 (by omega) }
end
theorem Bd {m:Nat->Nat} (hm:g m) {l:List aY} (hl:l.length<=70000):Ev (λi=>fv (m i) l) (λ_=>True) fM:=by
 unfold fv;refine Ev.Y (Q:=λ_=>True) ?_ λy _=>Ev.ok trivial;unfold iE;refine Ev.iter hm (λ(x:Int)=>0<=x/\x<=l.length) (λx=>(l.length - x).toNat) (by omega) ?_;intro x hx next hn;refine Ev.bk (λ_=>?_) (λ_=>Ev.ok trivial);refine Ev.eA λt _=>Ev.fh (by unfold oC;rfl) ?_;refine Ev.br (λ_=>Ev.ok trivial) (λ_=>Ev.gA (hn _ (by omega) (by omega)))
theorem JH:∀ (N:Nat) {m:Nat->Nat} {x:ByS} {f:Int},g m->x.length<N->0<=f->f+x.length<=65536->Ev (λi=>iK (m i) x f) (λr=>kW r.1) fM:=by
 intro N
 induction N with
 | zero=>intro m x f _ h;exact absurd h (Nat.not_lt_zero _)
 | succ N ih=>
  intro m x f hm hN h0 h1
  refine Ev.grow (F:=λn=>iK n x f) hm λm hm=>?_
  show Ev (λi=>lG (m i) (X (m i)) x f) _ _
  unfold lG
  refine Ev.Y (rv hm) λy hy=>?_
  refine Ev.cr (λ_=>Ev.ok (.leaf (by decide))) (λhe=>?_)
  have hT:=(hy.2.2 he).2
  have hC:PC x y.1 f:=⟨hT,h0,h1⟩
  have hX:uO x f:=λhm2 hlt h2 h3=>ih hm2 (by omega) h2 (by omega)
  have hl:=hC.np
  have hp:=hC.pos
  refine Ev.Y (Bd hm (by omega)) λz _=>?_
  refine Ev.br (λ_=>Ev.ok (.leaf (by decide))) (λ_=>?_)
  refine Ev.jh (R':=PP (f+x.length)) ?_ ?_
  ·refine gC (s:=x) (T:=y.1) (b:=f) (k:=true) (a:=0) (d:=0) (P:=kW) ((Dy hC hX _).expr hm (Int.le_refl _) (by omega) .none (Nat.lt_succ_self _)) λe a2 q2 h2 h3 hq2 he=>?_;dsimp only;exact fm hm hC (by omega) (by omega) λa3 t h4 h5 _ _ _=>Ev.ok he
  ·rintro p ⟨v,rfl,_,_⟩;refine Ev.qJ ?_;unfold nQ;exact Ev.ok (.leaf (by decide))
theorem yC {s:ByS} {b:Int} (h1:b+s.length<=65536):uO s b:=λhm h h2 h3=>JH _ hm (Nat.lt_succ_self _) h2 (by omega)
end Go.Abs
end
section
namespace Go.Abs
open U
section
variable {m:Nat->Nat}
theorem zO (hm:g m) {l:List Bool} {x:Bool} (hl:l.length<=70000):Ev (λi=>ik (m i) l x) (λ_=>True) fM:=by
 unfold ik;refine Ev.Y (Q:=λ_=>True) ?_ λy _=>Ev.ok trivial;unfold kN;refine Ev.iter hm (λ(x:Int)=>0<=x/\x<=l.length) (λx=>(l.length - x).toNat) (by omega) ?_;intro x hx next hn;refine Ev.bk (λ_=>?_) (λ_=>Ev.ok trivial);refine Ev.eA λt _=>Ev.br (λ_=>Ev.ok trivial) (λ_=>Ev.gA (hn _ (by omega) (by omega)))
theorem ed (hm:g m) {l:List Bool} {p:R} (hl:l.length<=70000):Ev (λi=>u (m i) l p) (λ_=>True) fM:=by
 unfold u;refine Ev.br (λ_=>Ev.ok trivial) (λ_=>Ev.Y (zO hm hl) λy _=>Ev.ok trivial)
theorem Ap (hm:g m) {l:jO}:Ev (λi=>jY (m i) l) (λ_=>True) fM:=by
 unfold jY;refine Ev.Y (gR hm) λy _=>Ev.br (λ_=>Ev.Y (gR hm) λy _=>Ev.br (λ_=>Ev.ok trivial) (λ_=>Ev.ok trivial)) (λ_=>Ev.ok trivial)
theorem qG (hm:g m) {l:List ByS} (hl:l.length<=70000) (hs:∀ x,x∈l->x.length<=65536):Ev (λi=>gx (m i) l) (λ_=>True) fM:=by
 unfold gx gg;refine Ev.Y (Q:=λ_=>True) ?_ λy _=>Ev.ok trivial;refine Ev.Y (Q:=λ_=>True) ?_ λy _=>Ev.ok trivial;unfold il;refine Ev.iter hm (λ(x:Int)=>0<=x/\x<=l.length) (λx=>(l.length - x).toNat) (by omega) ?_;intro x hx next hn;refine Ev.bk (λ_=>?_) (λ_=>Ev.ok trivial);refine Ev.eA λt ht=>?_;have:=hs t (List.mem_of_getElem? ht);refine Ev.Y (Q:=λ_=>True) ?_ λy _=>Ev.br (λ_=>Ev.ok trivial) (λ_=>Ev.gA (hn _ (by omega) (by omega)));unfold mf;exact Ev.Y (ra (by omega)) λy _=>Ev.ok trivial
theorem re (hm:g m) {a b:ByS} (hb:b.length<=60000):Ev (λi=>fE (m i) a b) (λ_=>True) fM:=by
 unfold fE;refine Ev.br (λ_=>?_) (λ_=>Ev.ok trivial);exact Ev.Y (yu (by simp) (by omega)) λy hy=>Ev.Y (kB hm (by omega)) λz _=>Ev.ok trivial
theorem Be {l:jO}:Ev (λ_=>mg l) (λ_=>True) fM:=Ev.ok trivial
theorem Bf (hm:g m) {e:Z} {p:R}:Ev (λi=>ef (m i) e p) (λ_=>True) fM:=by
 unfold ef kp;refine Ev.Y (gR hm) λy _=>Ev.Y (ed hm (by simp)) λy _=>?_;refine Ev.br (λ_=>Ev.Y Be λy _=>Ev.Y (ed hm (by simp)) λy _=>Ev.ok trivial) (λ_=>?_);refine Ev.br (λ_=>Ev.Y (ed hm (by simp)) λy _=>Ev.ok trivial) (λ_=>?_);refine Ev.jn (λ_=>True) (λv _=>Ev.br (λ_=>Ev.Y (ed hm (by simp)) λy _=>Ev.ok trivial) (λ_=>Ev.Y (ed hm (by simp)) λy _=>Ev.ok trivial)) (λj hj=>?_)
 (repeat' (with_reducible first|refine Ev.gA ?_|refine Ev.eA (λ_ _=>?_)|apply Ev.bK|apply Ev.bE|(first|apply Ev.bk|apply Ev.W|apply Ev.cr|apply Ev.bz|apply Ev.br)<;>intro _|(apply Ev.lK;try dsimp only)))
 all_goals exact hj _ trivial
theorem JI (hm:g m) {e:Z} {p:R}:Ev (λi=>dW (m i) e p) (λ_=>True) fM:=by
 unfold dW;have M:∀ {l:List Bool},l.length<=70000->Ev (λi=>U.bind (u (m i) l p) λy=>.ok y) (λ_=>True) fM:=λh=>Ev.Y (ed hm h) λy _=>Ev.ok trivial;refine Ev.jn (λ_=>True) (λv _=>?_) (λj hj=>?_)
 ·refine Ev.br (λ_=>Ev.ok trivial) (λ_=>Ev.br (λ_=>M (by simp)) (λ_=>?_));refine Ev.jn (λ_=>True) (λv _=>?_) (λj hj=>?_)
  ·refine Ev.br (λ_=>M (by simp)) (λ_=>?_);refine Ev.jn (λ_=>True) (λv _=>?_) (λj hj=>?_)
   ·refine Ev.br (λ_=>M (by simp)) (λ_=>Ev.br (λ_=>Ev.br (λ_=>M (by simp)) (λ_=>M (by simp))) (λ_=>Ev.br (λ_=>M (by simp)) (λ_=>Ev.br (λ_=>M (by simp)) (λ_=>M (by simp)))))
   (repeat' (with_reducible first|refine Ev.gA ?_|refine Ev.eA (λ_ _=>?_)|apply Ev.bK|apply Ev.bE|(first|apply Ev.bk|apply Ev.W|apply Ev.cr|apply Ev.bz|apply Ev.br)<;>intro _|(apply Ev.lK;try dsimp only)))
   all_goals exact hj _ trivial
  (repeat' (with_reducible first|refine Ev.gA ?_|refine Ev.eA (λ_ _=>?_)|apply Ev.bK|apply Ev.bE|(first|apply Ev.bk|apply Ev.W|apply Ev.cr|apply Ev.bz|apply Ev.br)<;>intro _|(apply Ev.lK;try dsimp only)))
  all_goals exact hj _ trivial
 (repeat' (with_reducible first|refine Ev.gA ?_|refine Ev.eA (λ_ _=>?_)|apply Ev.bK|apply Ev.bE|(first|apply Ev.bk|apply Ev.W|apply Ev.cr|apply Ev.bz|apply Ev.br)<;>intro _|(apply Ev.lK;try dsimp only)))
 all_goals exact hj _ trivial
theorem JJ (hm:g m) {e:Z} {p:R}:Ev (λi=>dX (m i) e p) (λ_=>True) fM:=by
 unfold dX;have M:∀ {l:List Bool},l.length<=70000->Ev (λi=>U.bind (u (m i) l p) λy=>.ok y) (λ_=>True) fM:=λh=>Ev.Y (ed hm h) λy _=>Ev.ok trivial;refine Ev.jn (λ_=>True) (λv _=>?_) (λj hj=>?_)
 ·refine Ev.br (λ_=>Ev.ok trivial) (λ_=>?_);refine Ev.br (λ_=>Ev.Y (re hm (by simp)) λy _=>M (by simp)) (λ_=>?_);refine Ev.br (λ_=>Ev.Y (re hm (by simp)) λy _=>M (by simp)) (λ_=>?_);refine Ev.br (λ_=>Ev.Y (re hm (by simp)) λy _=>M (by simp)) (λ_=>?_);refine Ev.br (λ_=>Ev.Y (re hm (by simp)) λy _=>M (by simp)) (λ_=>?_);refine Ev.br (λ_=>Ev.Y (gR hm) λy _=>M (by simp)) (λ_=>M (by simp))
 (repeat' (with_reducible first|refine Ev.gA ?_|refine Ev.eA (λ_ _=>?_)|apply Ev.bK|apply Ev.bE|(first|apply Ev.bk|apply Ev.W|apply Ev.cr|apply Ev.bz|apply Ev.br)<;>intro _|(apply Ev.lK;try dsimp only)))
 all_goals exact hj _ trivial
theorem Lm (hm:g m) {e:Z} (he:kW e) {at_:aW} {p:R}:Ev (λi=>dx (m i) e at_ p) (λ_=>True) fM:=by
 unfold dx kp;have M:∀ {l:List Bool} {p:R},l.length<=70000->Ev (λi=>U.bind (u (m i) l p) λy=>.ok y) (λ_=>True) fM:=λh=>Ev.Y (ed hm h) λy _=>Ev.ok trivial;have h2:=he.l2;have h3:=he.l3;refine Ev.jn (λ_=>True) (λv _=>?_) (λj hj=>?_)
 ·refine Ev.Y (JI hm) λy _=>Ev.Y (JJ hm) λy _=>?_;refine Ev.jn (λ_=>True) (λv _=>?_) (λj hj=>Ev.br (λ_=>hj _ trivial) (λ_=>hj _ trivial));refine Ev.jn (λ_=>True) (λv _=>?_) (λj hj=>?_)
  ·refine Ev.jn (λ_=>True) (λv _=>?_) (λj hj=>?_)
   ·refine Ev.jn (λ_=>True) (λv _=>?_) (λj hj=>?_)
    ·refine Ev.jn (λ_=>True) (λv _=>?_) (λj hj=>?_)
     ·exact Ev.br (λ_=>Ev.br (λ_=>M (by simp)) (λ_=>M (by simp))) (λ_=>Ev.br (λ_=>M (by simp)) (λ_=>M (by simp)))
     exact Ev.br (λ_=>Ev.br (λ_=>Ev.Y (ed hm (by simp)) λy _=>hj _ trivial) (λ_=>Ev.Y (ed hm (by simp)) λy _=>hj _ trivial)) (λ_=>Ev.br (λ_=>Ev.Y (ed hm (by simp)) λy _=>hj _ trivial) (λ_=>Ev.Y (ed hm (by simp)) λy _=>hj _ trivial))
    exact Ev.br (λ_=>Ev.Y (Ap hm) λy _=>Ev.Y (ed hm (by simp)) λy _=>hj _ trivial) (λ_=>Ev.Y Be λy _=>Ev.Y (ed hm (by simp)) λy _=>hj _ trivial)
   refine Ev.br (λ_=>Ev.Y (Bf hm) λy _=>Ev.ok trivial) (λ_=>?_);refine Ev.jn (λ_=>True) (λv _=>?_) (λj2 hj2=>Ev.br (λ_=>hj2 _ trivial) (λ_=>hj2 _ trivial));refine Ev.br (λ_=>Ev.br (λ_=>Ev.Y (ed hm (by simp)) λy _=>hj _ trivial) (λ_=>Ev.Y (ed hm (by simp)) λy _=>hj _ trivial)) (λ_=>?_);exact Ev.br (λ_=>Ev.Y qF λy _=>Ev.Y (ed hm (by simp)) λy _=>hj _ trivial) (λ_=>Ev.Y (ed hm (by simp)) λy _=>hj _ trivial)
  refine Ev.br (λ_=>Ev.Y (qG hm h3 he.l4) λy _=>Ev.Y (ed hm (by simp)) λy _=>hj _ trivial) (λ_=>?_);refine Ev.gA (Ev.Y (qG hm h3 he.l4) λy _=>Ev.Y (ed hm (by simp)) λy _=>hj _ trivial)
 exact Ev.br (λ_=>Ev.Y (ed hm (by simp)) λy _=>hj _ trivial) (λ_=>Ev.Y (ed hm (by simp)) λy _=>hj _ trivial)
end
structure SG (N:Nat):Prop where
 e:∀ {m:Nat->Nat} {x:Z} {at_:aW} {p:R},g m->kW x->2*SizeOf.sizeOf x<N->Ev (λi=>aO (m i) x at_ p) (λ_=>True) fM
 d:∀ {m:Nat->Nat} {x:au} {t:Bool} {l:Int} {p:R},g m->mP x->2*SizeOf.sizeOf x<N->Ev (λi=>dB (m i) x t l p) (λ_=>True) fM
theorem wm {N:Nat} (ih:SG N) {m:Nat->Nat} (hm:g m) {l:List au} {t:Bool} {lv:Int} {p:R} (hl:l.length<=70000) (hs:∀ x,x∈l->mP x/\2*SizeOf.sizeOf x<N):Ev (λi=>bY (m i) l t lv p) (λ_=>True) fM:=by
 refine Ev.grow (F:=λn=>bY n l t lv p) hm λm hm=>?_;show Ev (λi=>eb (m i) (aT (m i)) l t lv p) _ _;unfold eb;refine Ev.iter hm (λ(x:R×Int)=>0<=x.2/\x.2<=l.length) (λx=>(l.length - x.2).toNat) (by simp) ?_;intro x hx next hn;refine Ev.bk (λ_=>?_) (λ_=>Ev.ok trivial);refine Ev.eA λd hd=>?_;have:=hs d (List.mem_of_getElem? hd);exact Ev.Y (ih.d hm this.1 this.2) λy _=>Ev.gA (hn _ (by dsimp only;omega) (by dsimp only;omega))
theorem HI:∀ N,SG N:=by
 intro N
 induction N with
 | zero=>exact ⟨λ_ _ h=>absurd h (Nat.not_lt_zero _),λ_ _ h=>absurd h (Nat.not_lt_zero _)⟩
 | succ N ih=>
  refine ⟨?_,?_⟩
  ·intro m x at_ p hm he hN;have hls:=he.l1;have hld:=he.l2;refine Ev.grow (F:=λn=>aO n x at_ p) hm λm hm=>?_;show Ev (λi=>eo (m i) (aT (m i)) x at_ p) _ _;unfold eo;refine Ev.jn (λ_=>True) (λv _=>?_) (λj hj=>Ev.bk (λ_=>hj _ trivial) (λ_=>hj _ trivial));refine Ev.Y (Lm hm he) λy _=>?_;refine Ev.iter hm (λ(w:R×Int)=>0<=w.2/\w.2<=x.B.length) (λw=>(x.B.length - w.2).toNat) (by simp) ?_;intro w hw next hn;refine Ev.bk (λ_=>?_) (λ_=>?_)
   ·refine Ev.jn (λ_=>True) (λv _=>Ev.gA (hn _ (by dsimp only;omega) (by dsimp only;omega))) (λj hj=>?_);refine Ev.eA λz hz=>?_;have hzm:=List.mem_of_getElem? hz;have hsz:=EJ hzm;have hE:∀ {at_:aW} {p:R},Ev (λi=>aO (m i) z at_ p) (λ_=>True) fM:=ih.e hm (he.s z hzm) (by omega);have hB:∀ {at_:aW} {p:R},Ev (λi=>U.bind ((aT (m i)).aO z at_ p) λy=>j i y) (λ_=>True) fM:=Ev.Y hE λy _=>hj _ trivial;have hG:Ev (λi=>U.br (x.Kind==14) (U.br (x.iM==0) (.ok p) (.ok p)) (.ok p)) (λ_=>True) fM:=Ev.br (λ_=>Ev.br (λ_=>Ev.ok trivial) (λ_=>Ev.ok trivial)) (λ_=>Ev.ok trivial);refine Ev.br (λ_=>Ev.br (λ_=>Ev.br (λ_=>Ev.br (λ_=>hB) (λ_=>Ev.gA hB)) (λ_=>hB)) (λ_=>Ev.br (λ_=>Ev.br (λ_=>hB) (λ_=>Ev.gA hB)) (λ_=>hB)))
     (λ_=>Ev.br (λ_=>Ev.br (λ_=>hB) (λ_=>Ev.gA hB)) (λ_=>hB))
   exact Ev.Y (wm ih hm hld λd hd=>⟨he.d d hd,by have:=Dv hd;omega⟩) λy _=>Ev.ok trivial
  ·intro m x t l p hm he hN;have hls:=he.l1;have hlb:=he.l2;have hlt:=he.l3;refine Ev.grow (F:=λn=>dB n x t l p) hm λm hm=>?_;show Ev (λi=>en (m i) (aT (m i)) x t l p) _ _;unfold en kp;refine Ev.jn (λ_=>True) (λv _=>?_) (λj hj=>Ev.bk (λ_=>hj _ trivial) (λ_=>hj _ trivial));refine Ev.jn (λ_=>True) (λv _=>?_) (λj hj=>Ev.W (λ_=>hj _ trivial) (λ_=>hj _ trivial));refine Ev.jn (λ_=>True) (λv _=>?_) (λj hj=>Ev.bk (λ_=>Ev.Y (ed hm (by simp)) λy _=>hj _ trivial) (λ_=>Ev.Y (ed hm (by simp)) λy _=>hj _ trivial));refine Ev.jn (λ_=>True) (λv _=>?_) (λj hj=>?_)
   ·refine Ev.jn (λ_=>True) (λv _=>?_) (λj hj=>?_)
    ·refine Ev.jn (λ_=>True) (λv _=>?_) (λj hj=>?_)
     ·refine Ev.jn (λ_=>True) (λv _=>?_) (λj hj=>?_)
      ·refine Ev.jn (λ_=>True) (λv _=>?_) (λj hj=>Ev.br (λ_=>hj _ trivial) (λ_=>Ev.br (λ_=>hj _ trivial) (λ_=>hj _ trivial)));refine Ev.Y (ed hm (by simp)) λy _=>?_;refine Ev.jn (λ_=>True) (λv _=>?_) (λj hj=>Ev.br (λ_=>hj _ trivial) (λ_=>Ev.br (λ_=>hj _ trivial) (λ_=>Ev.br (λ_=>hj _ trivial) (λ_=>hj _ trivial))));refine Ev.iter hm (λ(w:R×Int)=>0<=w.2/\w.2<=x.B.length) (λw=>(x.B.length - w.2).toNat) (by simp) ?_;intro w hw next hn;refine Ev.bk (λ_=>?_) (λ_=>?_)
       ·refine Ev.eA λz hz=>?_;have hzm:=List.mem_of_getElem? hz;have hsz:=HB hzm;have hB:∀ {at_:aW} {p:R},Ev (λi=>U.bind ((aT (m i)).aO z at_ p) λy=>U.gd (J (w.2+1)) (next i (y,w.2+1))) (λ_=>True) fM:=
         Ev.Y (ih.e hm (he.s z hzm) (by omega)) λy _=>Ev.gA (hn _ (by dsimp only;omega) (by dsimp only;omega))
        exact Ev.br (λ_=>Ev.br (λ_=>hB) (λ_=>hB)) (λ_=>hB)
       exact Ev.Y (wm ih hm hlb λd hd=>⟨he.d d hd,by have:=HC hd;omega⟩) λy _=>Ev.ok trivial
      exact Ev.br (λ_=>Ev.Y (Ap hm) λy _=>Ev.Y (ed hm (by simp)) λy _=>hj _ trivial) (λ_=>Ev.Y Be λy _=>Ev.Y (ed hm (by simp)) λy _=>hj _ trivial)
     refine Ev.br (λ_=>hj _ trivial) (λ_=>Ev.br (λ_=>Ev.Y (tN hm) λy _=>Ev.Y (ed hm (by simp)) λy _=>hj _ trivial) (λ_=>?_));refine Ev.br (λ_=>Ev.Y (gR hm) λy _=>Ev.Y (ed hm (by simp)) λy _=>hj _ trivial) (λ_=>?_);exact Ev.br (λ_=>Ev.Y (ed hm (by simp)) λy _=>hj _ trivial) (λ_=>Ev.Y (ed hm (by simp)) λy _=>hj _ trivial)
    exact Ev.br (λ_=>Ev.bk (λ_=>Ev.Y (ed hm (by simp)) λy _=>hj _ trivial) (λ_=>Ev.Y (ed hm (by simp)) λy _=>hj _ trivial)) (λ_=>Ev.Y (ed hm (by simp)) λy _=>hj _ trivial)
   refine Ev.Y (qG hm he.l5 he.l6) λy _=>Ev.Y (qG hm hlt he.l4) λy _=>Ev.Y (qG hm (by simp) (by simpa using he.l7)) λy _=>?_;exact Ev.br (λ_=>Ev.Y (ed hm (by simp)) λy _=>hj _ trivial) (λ_=>Ev.gA (Ev.Y (ed hm (by simp)) λy _=>hj _ trivial))
theorem CR {p:R}:Ev (λ_=>fw p) (λ_=>True) fM:=by
 unfold fw;exact Ev.br (λ_=>Ev.ok trivial) (λ_=>Ev.br (λ_=>Ev.ok trivial) (λ_=>Ev.ok trivial))
theorem Bg {m:Nat->Nat} (hm:g m) {e:Z} (he:kW e):Ev (λi=>iT (m i) e) (λ_=>True) fM:=by
 unfold iT;exact Ev.Y ((HI _).e hm he (Nat.lt_succ_self _)) λy _=>Ev.Y CR λy _=>Ev.ok trivial
end Go.Abs
end
section
namespace Go.Abs
open U
section
variable {s:ByS} {T:List aY} {b:Int} {m:Nat->Nat} {a:Int} {k:Bool} {q:Option Z}
theorem wH (hC:PC s T b) (hm:g m) (h0:0<=a) (h1:a<T.length) (hq:QS q) :
  Ev (λi=>gy (m i) (M s T a b k q)) (λr=>∃ a',r.2=M s T a' b k q/\a<=a'/\a'<T.length/\(r.1.length:Int)<=a' - a/\∀ x,x∈r.1->x.length<=65536) (PP (b+s.length)):=by
 unfold gy
 have hl:=hC.np
 refine Ev.iter hm (λ(x:A×List ByS)=>∃ a',x.1=M s T a' b k q/\a<=a'/\a'<T.length/\(x.2.length:Int)<=a' - a/\∀ z,z∈x.2->z.length<=65536) (λx=>(T.length - x.1.at_).toNat) ⟨a,rfl,by omega,h1,by simp,by simp⟩ ?_
 rintro ⟨p,l⟩ ⟨a1,hp,h2,h3,h4,h5⟩ next hn
 dsimp only at hp h4 h5;subst hp;dsimp only at hn ⊢
 refine fm hm hC (by omega) h3 λa2 t h6 h7 ht h8 _=>?_
 dsimp only
 refine Ev.W (λhk=>?_) (λ_=>Ev.ok ⟨a2,rfl,by omega,h7,by dsimp only;omega,h5⟩)
 have hnx:=hC.next (by omega) ht (by omega)
 have htt:=(hC.tok ht).2.2.2.1
 refine Ev.jn (λv=>v=M s T a2 b k q) (λv hv=>?_) (λj hj=>?_)
 ·subst hv
  refine fm hm hC (by omega) h7 λa3 t3 h8 h9 ht3 h10 e3=>?_
  have e3:=e3 t ht (λ_=>by omega)
  subst e3
  rw[ht] at ht3;cases ht3
  dsimp only
  refine Ev.gA (Ev.gA (hn _ ⟨a3+1,rfl,by omega,by omega,by simp;omega,λz hz=>?_⟩ (by dsimp only;omega)))
  rcases List.mem_append.1 hz with w|w
  ·exact h5 z w
  ·simp at w;subst w;exact htt
 ·refine Ev.fQ (sI hm hC (by omega) h7) λr hr=>?_
  obtain ⟨x,p⟩:=r
  dsimp only at hr;subst hr
  exact Ev.bz (λ_=>iP hm hC (by omega) h7 (by omega)) (λ_=>hj _ rfl)
theorem vz (hC:PC s T b) (hm:g m) (h0:0<=a) (h1:a<T.length) :
  Ev (λi=>et (m i) (M s T a b k q)) (λr=>∃ a',r=M s T a' b k q/\a<a'/\a'<T.length) (PP (b+s.length)):=by
 unfold et
 have hl:=hC.np
 refine Ev.jn (λv=>∃ a',v=M s T a' b k q/\a<=a'/\a'+1<T.length) (λv hv=>?_) (λj hj=>?_)
 ·obtain ⟨a',rfl,h2,h3⟩:=hv
  exact Ev.gA (Ev.ok ⟨a'+1,rfl,by omega,by omega⟩)
 ·refine fm hm hC h0 h1 λa2 t h6 h7 ht h8 _=>?_
  dsimp only
  refine Ev.cr (λ_=>?_) (λhk=>hj _ ⟨a2,rfl,h6,hC.next (by omega) ht (by omega)⟩)
  refine fm hm hC (by omega) h7 λa3 t3 h8 h9 ht3 h10 e3=>?_
  dsimp only
  exact la λr hr _=>Ev.bz (λ_=>iP hm hC (by omega) h9 (by omega)) (λhr1=>hj _ ⟨a3,rfl,by omega,hC.next (by omega) ht3 (by have:=(hr hr1).1;omega)⟩)
theorem JK {l:ByS} {c:UInt8}:0<=Lib.lastIndex l [c]+1/\Lib.lastIndex l [c]+1<=l.length:=by
 unfold Lib.lastIndex;split
 ·rename_i h;simp at h;rcases Lib.lastOcc_spec l [c] (l.length - [c].length+1) with ⟨h,_⟩|⟨i,h1,h2,_⟩
  ·rw[h];omega
  rw[h2];simp at h1;omega
 omega
theorem CS (hC:PC s T b) (hm:g m) (h0:0<=a) (h1:a<T.length) {t:aY} (ht:T[a.toNat]?=some t) (hk:t.Kind=1) :
  Ev (λi=>dG (m i) (M s T a b k q)) (λr=>∃ a',r.2=M s T a' b k q/\a<a'/\a'<T.length) (PP (b+s.length)):=by
 unfold dG kp
 have hl:=hC.np
 have hnx:=hC.next h0 ht (by omega)
 refine mK hm hC h0 h1 λa2 t2 v h2 h3 _ e2 _ _ _=>?_
 have e2:=e2 t ht (λ_=>by omega)
 subst e2
 dsimp only
 refine Ev.gA ?_
 refine Ev.jn (λv=>∃ a',v.1=M s T a' b k q/\a2<a'/\a'<T.length) (λv hv=>?_) (λj hj=>?_)
 ·obtain ⟨p,x⟩:=v
  obtain ⟨a3,hp,h4,h5⟩:=hv
  dsimp only at hp;subst hp;dsimp only
  refine fm hm hC (by omega) h5 λa4 t4 h6 h7 ht4 h8 _=>?_
  dsimp only
  refine Ev.jn (λv=>v=M s T a4 b k q/\t4.Kind=3) (λv hv=>?_) (λj hj=>?_)
  ·obtain ⟨rfl,hk4⟩:=hv
   have hnx4:=hC.next (by omega) ht4 (by omega)
   have htt:=(hC.tok ht4).2.2.2.1
   refine Ev.jn (λv=>v.1=M s T a4 b k q) (λv hv=>?_) (λj hj=>?_)
   ·obtain ⟨p,x⟩:=v
    dsimp only at hv;subst hv;dsimp only
    refine Ev.gA (Ev.Y (vz hC hm (by omega) hnx4) λr hr=>?_)
    obtain ⟨a5,rfl,h9,h10⟩:=hr
    exact Ev.ok ⟨a5,rfl,by omega,h10⟩
   ·refine Ev.W (λ_=>?_) (λ_=>hj _ rfl)
    refine Ev.fQ (Q:=λ(r:Int)=>0<=r+1/\r+1<=t4.Text.length) ?_ λr hr=>?_
    ·unfold strings_LastIndex
     exact Ev.gA (Ev.ok JK)
    ·refine Ev.gA (Ev.gd hr (Ev.fQ (gR hm) λy _=>?_))
     exact Ev.bz (λ_=>iP hm hC (by omega) h7 (by omega)) (λ_=>hj _ rfl)
  ·exact Ev.cr (λ_=>iP hm hC (by omega) h7 (by omega)) (λhk=>hj _ ⟨rfl,hk⟩)
 ·refine fm hm hC (by omega) hnx λa4 t4 h6 h7 ht4 h8 _=>?_
  dsimp only
  refine Ev.W (λ_=>?_) (λ_=>hj _ ⟨a4,rfl,by omega,h7⟩)
  refine ua hm hC (by omega) h7 (by omega) λa5 x h9 h10=>?_
  exact hj _ ⟨a5,rfl,by omega,h10⟩
structure Lw (f:iC):Prop where
 im:f.dC.length<=70000
 dl:f.Decls.length<=70000
 ds:∀ d,d∈f.Decls->mP d
 tl:f.H.length<=70000
 ts:∀ x,x∈f.H->x.length<=65536
theorem JL (hC:PC s T b) (hX:uO s b) (hm:g m) (h0:0<=a) (h1:a<T.length) (hq:QS q) :
  Ev (λi=>iU (m i) (M s T a b k q)) (λr=>Lw r.1) (PP (b+s.length)):=by
 unfold iU
 have hl:=hC.np
 refine Ev.Y (wH hC hm h0 h1 hq) λr hr=>?_
 obtain ⟨lead,p⟩:=r
 obtain ⟨a1,hp,h2,h3,h4,h5⟩:=hr
 dsimp only at hp h4 h5;subst hp;dsimp only
 refine Ev.jn (λv=>∃ a',v.1=M s T a' b k q/\a<=a'/\a'<T.length/\(v.2.2.length:Int)<=a' - a/\∀ x,x∈v.2.2->x.length<=65536) (λv hv=>?_) (λj hj=>?_)
 ·obtain ⟨p,f,lead⟩:=v
  obtain ⟨a2,hp,h6,h7,h8,h9⟩:=hv
  dsimp only at hp h8 h9;subst hp;dsimp only
  refine Ev.jn (λv=>∃ a',v.1=M s T a' b k q/\a2<=a'/\a'<T.length/\v.2.dC.length<=70000) (λv hv=>?_) (λj hj=>?_)
  ·obtain ⟨p,f⟩:=v
   obtain ⟨a3,hp,h10,h11,h12⟩:=hv
   dsimp only at hp h12;subst hp;dsimp only
   refine Ev.Y (CQ hC hm (by omega) h11 hq (by omega) h9 λhm2 ha h2 hq2 ht hk hk7=>(Dy hC hX _).decl hm2 (by omega) h2 hq2 ht hk hk7 (Nat.lt_succ_self _)) λr hr=>?_
   obtain ⟨ds,tl,p⟩:=r
   obtain ⟨⟨a4,q4,hp,h13,h14,hq4⟩,g1,g2,g3,g4⟩:=hr
   dsimp only at hp g1 g2 g3 g4;subst hp;dsimp only
   refine fm hm hC (by omega) (by omega) λa5 t h15 h16 _ _ _=>?_
   dsimp only
   exact Ev.cr (λ_=>iP hm hC (by omega) h16 (by omega)) (λ_=>Ev.ok ⟨h12,g1,g2,g3,g4⟩)
  ·refine Ev.iter hm (λ(x:A×iC)=>∃ a',x.1=M s T a' b k q/\a2<=a'/\a'<T.length/\(x.2.dC.length:Int)<=a') (λx=>(T.length - x.1.at_).toNat) ⟨a2,rfl,by omega,h7,by simp;omega⟩ ?_
   rintro ⟨p,f⟩ ⟨a3,hp,h10,h11,h12⟩ next hn
   dsimp only at hp h12;subst hp;dsimp only at hn ⊢
   refine fm hm hC (by omega) h11 λa4 t h13 h14 ht _ _=>?_
   dsimp only
   have hI:∀ {K:Nat->cz×A->U (iC×A)},t.Kind=1->(∀ a' x,a4<a'->a'<T.length->Ev (λi=>K i (x,M s T a' b k q)) (λr=>Lw r.1) (PP (b+s.length)))->Ev (λi=>U.bind (dG (m i) (M s T a4 b k q)) (K i)) (λr=>Lw r.1) (PP (b+s.length)):=by
    intro K hk hK
    refine Ev.Y (CS hC hm (by omega) h14 ht hk) λr hr=>?_
    obtain ⟨x,p⟩:=r
    obtain ⟨a5,hp,h15,h16⟩:=hr
    dsimp only at hp;subst hp
    exact hK a5 x h15 h16
   refine pT λr hr _=>Ev.br (λhr1=>?_) (λ_=>hj _ ⟨a4,rfl,by omega,h14,by dsimp only;omega⟩)
   have hk:=(hr hr1).1
   refine Ev.W (λh0=>?_) (λh0=>?_)
   ·refine hI hk λa5 x h15 h16=>?_
    dsimp only
    exact Ev.gA (hn _ ⟨a5,rfl,by omega,h16,by simp;omega⟩ (by dsimp only;omega))
   ·refine Ev.gA (Ev.eA λu _=>Ev.cr (λ_=>?_) (λ_=>hj _ ⟨a4,rfl,by omega,h14,by dsimp only;omega⟩))
    refine hI hk λa5 x h15 h16=>?_
    dsimp only
    exact Ev.gA (hn _ ⟨a5,rfl,by omega,h16,by simp;omega⟩ (by dsimp only;omega))
 ·refine fm hm hC (by omega) h3 λa4 t h13 h14 ht _ _=>?_
  dsimp only
  refine pT λr hr _=>Ev.br (λhr1=>?_) (λ_=>hj _ ⟨a4,rfl,by omega,h14,by dsimp only;omega,h5⟩)
  have hk:=(hr hr1).1
  have hnx:=hC.next (by omega) ht (by omega)
  refine Ev.gA (ua hm hC (by omega) hnx (by omega) λa5 x h15 h16=>?_)
  dsimp only
  refine Ev.Y (vz hC hm (by omega) h16) λr hr=>?_
  obtain ⟨a6,rfl,h17,h18⟩:=hr
  refine Ev.Y (wH hC hm (by omega) h18 hq) λr hr=>?_
  obtain ⟨l2,p⟩:=r
  obtain ⟨a7,hp,h19,h20,h21,h22⟩:=hr
  dsimp only at hp h21 h22;subst hp;dsimp only
  refine Ev.gA (hj _ ⟨a7,rfl,by omega,h20,by simp;omega,λz hz=>?_⟩)
  rcases List.mem_append.1 hz with w|w
  ·exact h5 z w
  ·exact h22 z w
end
theorem HJ {m:Nat->Nat} (hm:g m) {f:iC} (hf:Lw f):Ev (λi=>lq (m i) f) (λ_=>True) fM:=by
 unfold lq kp;have hi:=hf.im;refine Ev.jn (λ_=>True) (λv _=>?_) (λj hj=>?_)
 ·refine Ev.iter hm (λ(x:R×Int)=>0<=x.2/\x.2<=f.dC.length) (λx=>(f.dC.length - x.2).toNat) (by simp) ?_;intro x hx next hn;refine Ev.bk (λ_=>?_) (λ_=>?_)
  ·refine Ev.eA λd hd=>Ev.Y (gR hm) λy _=>Ev.Y (ed hm (by simp)) λy _=>Ev.gA (hn _ (by dsimp only;omega) (by dsimp only;omega))
  exact Ev.Y (wm (HI (2*SizeOf.sizeOf f.Decls+1)) hm hf.dl λd hd=>⟨hf.ds d hd,by have:=List.sizeOf_lt_of_mem hd;omega⟩) λy _=>Ev.Y CR λy _=>Ev.ok trivial
 refine Ev.br (λ_=>?_) (λ_=>?_)
 ·exact Ev.Y (qG hm hf.tl hf.ts) λy _=>Ev.Y (ed hm (by simp)) λy _=>hj _ trivial
 exact Ev.Y (gR hm) λy _=>Ev.Y (qG hm hf.tl hf.ts) λy _=>Ev.Y (ed hm (by simp)) λy _=>hj _ trivial
def MO:iC:=iC.mk [] [] [] []
def MP:Z:=Z.mk 0 [] 0 [] [] [] [] [] 0
theorem yD {m:Nat->Nat} (hm:g m) {s:ByS}:Ev (λi=>jZ (m i) s) (λr=>0<=r.2.At/\r.2.At<=s.length/\(r.2.Errno=0->r.2.At=0/\Lw r.1)/\(r.2.Errno≠0->r.1=MO)) fM:=by
 unfold jZ;refine Ev.Y (rv hm) λy hy=>?_;refine Ev.cr (λhe=>Ev.ok ⟨hy.1,hy.2.1,λh=>absurd h he,λ_=>rfl⟩) (λhe=>?_);have hT:=(hy.2.2 he).2;have hC:PC s y.1 0:=⟨hT,by simp,by have:=hT.M6;omega⟩;have hX:uO s 0:=yC hC.bs;have hp:=hC.pos;refine Ev.jh (R':=PP (0+s.length)) ?_ ?_
 ·refine Ev.Y (JL hC hX hm (Int.le_refl _) (by omega) .none) λr hr=>?_;refine Ev.fQ (HJ hm hr) λz _=>?_;refine Ev.br (λ_=>Ev.ok ⟨by simp,by simp,by simp,λ_=>rfl⟩) (λ_=>Ev.ok ⟨by simp,by simp,λ_=>⟨rfl,hr⟩,by simp⟩)
 rintro p ⟨v,rfl,h1,h2⟩;refine Ev.qJ ?_;unfold nS jV;exact Ev.ok ⟨h1,by simp;omega,by simp,λ_=>rfl⟩
theorem yE {m:Nat->Nat} (hm:g m) {s:ByS}:Ev (λi=>mh (m i) s) (λr=>0<=r.2.At/\r.2.At<=s.length/\(r.2.Errno=0->r.2.At=0/\kW r.1)/\(r.2.Errno≠0->r.1=MP)) fM:=by
 unfold mh;refine Ev.Y (rv hm) λy hy=>?_;refine Ev.cr (λhe=>Ev.ok ⟨hy.1,hy.2.1,λh=>absurd h he,λ_=>rfl⟩) (λhe=>?_);have hT:=(hy.2.2 he).2;have hC:PC s y.1 0:=⟨hT,by simp,by have:=hT.M6;omega⟩;have hX:uO s 0:=yC hC.bs;have hp:=hC.pos;have hl:=hC.np;refine Ev.jh (R':=PP (0+s.length)) ?_ ?_
 ·refine gC (s:=s) (T:=y.1) (b:=0) (k:=false) (a:=0) (d:=0) (P:=kW) ((Dy hC hX _).expr hm (Int.le_refl _) (by omega) .none (Nat.lt_succ_self _)) λe a2 q2 h2 h3 hq2 he=>?_;dsimp only;refine Ev.jn (λv=>∃ a',v=M s y.1 a' 0 false q2/\0<=a'/\a'<y.1.length) (λv hv=>?_) (λj hj=>?_)
  ·obtain ⟨a3,rfl,h4,h5⟩:=hv;refine Ev.jn (λ_=>True) (λv _=>?_) (λj hj=>?_)
   ·refine Ev.fQ (Bg hm he) λz _=>?_;refine Ev.br (λ_=>Ev.ok ⟨by simp,by simp,by simp,λ_=>rfl⟩) (λ_=>Ev.ok ⟨by simp,by simp,λ_=>⟨rfl,he⟩,by simp⟩)
   refine fm hm hC h4 h5 λa4 t h6 h7 _ _ _=>?_;dsimp only;exact Ev.cr (λ_=>iP hm hC (by omega) h7 (by omega)) (λ_=>hj _ trivial)
  refine fm hm hC (by omega) (by omega) λa4 t h6 h7 ht _ _=>?_;dsimp only;refine Ev.W (λhk=>?_) (λ_=>hj _ ⟨a4,rfl,by omega,h7⟩);have hnx:=hC.next (by omega) ht (by omega);exact Ev.gA (hj _ ⟨a4+1,rfl,by omega,hnx⟩)
 rintro p ⟨v,rfl,h1,h2⟩;refine Ev.qJ ?_;unfold nK jV;exact Ev.ok ⟨h1,by simp;omega,by simp,λ_=>rfl⟩
end Go.Abs
end
section
namespace Go.Abs
open U
theorem Ev.po {α:Type} {F:Nat->U α} {Q V:α->Prop} {R:sB->Prop} (h:Ev F Q R) (hp:∀ i,PO V (F i)):Ev F (λa=>Q a/\V a) R:=by
 obtain ⟨r,h1,N,hN⟩:=h;refine ⟨r,?_,N,hN⟩;cases r with
 | stuck=>exact h1
 | mw p=>exact h1
 | ok a=>exact ⟨h1,hp N a (hN N (Nat.le_refl N))⟩
section
variable {m:Nat->Nat}
theorem pU (hm:g m) {t:ByS} {l:List ByS} (hl:l.length<=70000) (h:t∈l):Ev (λi=>nU (m i) t l) (λy=>y=true) fM:=by
 unfold nU;obtain ⟨k,hk,hkt⟩:=List.getElem_of_mem h;refine Ev.iter hm (λ(v:Int)=>0<=v/\v<=k) (λv=>(l.length - v).toNat) ⟨by omega,by omega⟩ ?_;intro v hv next hn;refine Ev.bt (by simp;omega) (Ev.el hv.1 (by omega) λx hx=>Ev.br (λ_=>Ev.ok rfl) λq=>Ev.gd (ky (by omega) (by omega)) (hn _ ⟨by omega,?_⟩ (by omega)));by_cases e:v.toNat=k
 ·subst e;rw[List.getElem?_eq_getElem hk] at hx;cases hx;rw[hkt] at q;simp at q
 omega
theorem fA (hm:g m) {l:List ByS} (hl:l.length<=70000) (hs:∀ x,x∈l->x.length<=65536) (h:sY l):Ev (λi=>ka (m i) l) (λy=>y=false) fM:=by
 unfold ka;refine Ev.iter hm (λ(v:Int)=>0<=v/\v<=l.length) (λv=>(l.length - v).toNat) ⟨by omega,by omega⟩ ?_;intro v hv next hn;refine Ev.br (λq=>?_) λ_=>Ev.ok rfl;have q:v<l.length:=by simpa using q
 refine Ev.el hv.1 q λx hx=>?_;have hx':=List.mem_of_getElem? hx;have hxl:=hs x hx';refine Ev.iter hm (λ(w:Int)=>0<=w/\w<=x.length) (λw=>(x.length - w).toNat) ⟨by omega,by omega⟩ ?_;intro w hw next2 hn2;refine Ev.br (λq2=>?_) λ_=>Ev.gd (ky (by omega) (by omega)) (hn _ ⟨by omega,by omega⟩ (by omega));have q2:w<x.length:=by simpa using q2
 refine Ev.el hw.1 q2 λb hb=>Ev.bf ?_ (Ev.gd (ky (by omega) (by omega)) (hn2 _ ⟨by omega,by omega⟩ (by omega)));have:=h x hx' b (List.mem_of_getElem? hb);simp;exact λe=>this (uq (c:=10) e (by decide))
theorem bV (hm:g m) {s:ByS} (h:fp s):Ev (λi=>iq (m i) s) (λy=>y=true) fM:=by
 refine (Ev.po (Q:=λ_=>True) ?_ λi=>A2 h).Ag λ_ h=>h.2;have hl:=h.1;obtain ⟨_,c,r,e,_,_⟩:=h.2;have hp:1<=s.length:=by rcases e with rfl|rfl|rfl<;>simp
 have L:∀ {c:Int},Ev (λ_:Nat=>jR c) (λ_=>True) fM:=by
  intro c;unfold jR;(repeat' (with_reducible first|refine Ev.gA ?_|refine Ev.eA (λ_ _=>?_)|apply Ev.bK|apply Ev.bE|(first|apply Ev.bk|apply Ev.W|apply Ev.cr|apply Ev.bz|apply Ev.br)<;>intro _|(apply Ev.lK;try dsimp only)));all_goals exact Ev.ok trivial
 have D:∀ {c:Int},Ev (λ_:Nat=>mi c) (λ_=>True) fM:=by
  intro c;unfold mi;(repeat' (with_reducible first|refine Ev.gA ?_|refine Ev.eA (λ_ _=>?_)|apply Ev.bK|apply Ev.bE|(first|apply Ev.bk|apply Ev.W|apply Ev.cr|apply Ev.bz|apply Ev.br)<;>intro _|(apply Ev.lK;try dsimp only)));all_goals exact Ev.ok trivial
 unfold iq oU;refine Ev.br (λ_=>Ev.ok trivial) λ_=>Ev.br (λ_=>Ev.ok trivial) λ_=>?_;refine Ev.iter (X:=Int) hm (λ(v:Int)=>0<=v/\v<=13) (λv=>(13 - v).toNat) ⟨by decide,by decide⟩ ?_;intro v hv next hn;refine Ev.br (λq=>?_) λ_=>?_
 ·have q:v<13:=by simpa using q
  exact Ev.el hv.1 q λx hx=>Ev.br (λ_=>Ev.ok trivial) λ_=>Ev.gd (ky (by omega) (by omega)) (hn _ ⟨by omega,by omega⟩ (by omega))
 refine Ev.jn (λv=>0<=v/\v<=1) (λv hv=>Ev.br (λ_=>Ev.ok trivial) λq=>?_) λj hj=>Ev.el (by decide) (by omega) λx _=>Ev.br (λ_=>hj _ ⟨by decide,by decide⟩) λ_=>Ev.el (by decide) (by omega) λx _=>Ev.br (λ_=>hj _ ⟨by decide,by decide⟩) λ_=>hj _ ⟨by decide,by decide⟩;have q:v<s.length:=by simpa using q
 refine Ev.el hv.1 q λx _=>Ev.Y L λ_ _=>Ev.br (λ_=>Ev.ok trivial) λ_=>?_;refine Ev.iter hm (λ(w:Int)=>0<=w/\w<=s.length) (λw=>(s.length - w).toNat) ⟨by omega,by omega⟩ ?_;intro w hw next2 hn2;refine Ev.br (λq2=>?_) λ_=>Ev.ok trivial;have q2:w<s.length:=by simpa using q2
 have go:Ev (λi=>gd (J (w+1)) (next2 i (w+1))) (λ_=>True) fM:=Ev.gd (ky (by omega) (by omega)) (hn2 _ ⟨by omega,by omega⟩ (by omega));exact Ev.el hw.1 q2 λ_ _=>Ev.Y L λ_ _=>Ev.br (λ_=>Ev.el hw.1 q2 λ_ _=>Ev.Y D λ_ _=>Ev.br (λ_=>Ev.el hw.1 q2 λ_ _=>Ev.br (λ_=>Ev.ok trivial) λ_=>go) λ_=>go) λ_=>go
theorem fI (hm:g m) {a b:ByS} (ha:fp a) (hb:fp b) (hn:a≠b):Ev (λi=>nu (m i) ⟨a,b⟩) (λy=>y=true) fM:=by
 unfold nu;exact Ev.cf (bV hm ha) (Ev.bK (Ev.cf (bV hm hb) (Ev.bK (Ev.ok (by simpa using hn)))))
end
end Go.Abs
end
section
namespace Go.Abs
open U
section
variable {m:Nat->Nat}
theorem Bh {l:List Z} {k:Int} (h0:k<=l.length) (h1:l.length<=70000):Ev (λ_=>U.br (decide ((l.length:Int)<k)) (.ok false) (U.br (decide ((1000000:Int)<l.length)) (.ok false) (.ok true))) (λy=>y=true) fM:=Ev.bf (by simp;omega) (Ev.bf (by simp;omega) (Ev.ok rfl))
theorem yF (hm:g m) {j:Bool} {e:Z} (h:VE j e) (hs:kW e):Ev (λk=>jS (m k) e) (λy=>y=true) fM:=by
 have l1:=hs.l1;have l3:=hs.l3;have l4:=hs.l4;unfold jS nk jv mj lr;cases h with
 | L0=>(simp[pB,pC,dY,cK,ch,cL,Z.Kind,Z.iM,Z.Text,Z.V,Z.aS,Z.B,Z.Decls,Z.H] at *;repeat' (first|(with_reducible first|exact Ev.ok (Eq.refl _)|refine Ev.cf (fA hm (by first|assumption|simp) (by first|assumption|simp) (by first|assumption|exact cM)) ?_|refine Ev.cf (pU hm (by simp) (by first|assumption|(simp;assumption)|simpa using h)) ?_|refine Ev.cf (bV hm (by assumption)) ?_|exact bV hm (by assumption)|exact fI hm (by assumption) (by assumption) (by assumption)|apply Ev.bK|apply Ev.bE)|(with_reducible refine Ev.bf ?_ ?_;focus (first|(simp;done)|(simp;omega)|omega))))
 | bool h=>rcases h with rfl|rfl<;>(simp[pB,pC,dY,cK,ch,cL,Z.Kind,Z.iM,Z.Text,Z.V,Z.aS,Z.B,Z.Decls,Z.H] at *;repeat' (first|(with_reducible first|exact Ev.ok (Eq.refl _)|refine Ev.cf (fA hm (by first|assumption|simp) (by first|assumption|simp) (by first|assumption|exact cM)) ?_|refine Ev.cf (pU hm (by simp) (by first|assumption|(simp;assumption)|simpa using h)) ?_|refine Ev.cf (bV hm (by assumption)) ?_|exact bV hm (by assumption)|exact fI hm (by assumption) (by assumption) (by assumption)|apply Ev.bK|apply Ev.bE)|(with_reducible refine Ev.bf ?_ ?_;focus (first|(simp;done)|(simp;omega)|omega))))
 | num h0 h1=>(simp[pB,pC,dY,cK,ch,cL,Z.Kind,Z.iM,Z.Text,Z.V,Z.aS,Z.B,Z.Decls,Z.H] at *;repeat' (first|(with_reducible first|exact Ev.ok (Eq.refl _)|refine Ev.cf (fA hm (by first|assumption|simp) (by first|assumption|simp) (by first|assumption|exact cM)) ?_|refine Ev.cf (pU hm (by simp) (by first|assumption|(simp;assumption)|simpa using h)) ?_|refine Ev.cf (bV hm (by assumption)) ?_|exact bV hm (by assumption)|exact fI hm (by assumption) (by assumption) (by assumption)|apply Ev.bK|apply Ev.bE)|(with_reducible refine Ev.bf ?_ ?_;focus (first|(simp;done)|(simp;omega)|omega))));rw[decide_eq_true h0];exact Ev.bf (b:=!decide (_<=(1000000000000000:Int))) (by simpa using h1) (Ev.ok rfl)
 | str=>(simp[pB,pC,dY,cK,ch,cL,Z.Kind,Z.iM,Z.Text,Z.V,Z.aS,Z.B,Z.Decls,Z.H] at *;repeat' (first|(with_reducible first|exact Ev.ok (Eq.refl _)|refine Ev.cf (fA hm (by first|assumption|simp) (by first|assumption|simp) (by first|assumption|exact cM)) ?_|refine Ev.cf (pU hm (by simp) (by first|assumption|(simp;assumption)|simpa using h)) ?_|refine Ev.cf (bV hm (by assumption)) ?_|exact bV hm (by assumption)|exact fI hm (by assumption) (by assumption) (by assumption)|apply Ev.bK|apply Ev.bE)|(with_reducible refine Ev.bf ?_ ?_;focus (first|(simp;done)|(simp;omega)|omega))))
 | qB h hs=>have h:=List.length_pos_iff.2 h;(simp[pB,pC,dY,cK,ch,cL,Z.Kind,Z.iM,Z.Text,Z.V,Z.aS,Z.B,Z.Decls,Z.H] at *;repeat' (first|(with_reducible first|exact Ev.ok (Eq.refl _)|refine Ev.cf (fA hm (by first|assumption|simp) (by first|assumption|simp) (by first|assumption|exact cM)) ?_|refine Ev.cf (pU hm (by simp) (by first|assumption|(simp;assumption)|simpa using h)) ?_|refine Ev.cf (bV hm (by assumption)) ?_|exact bV hm (by assumption)|exact fI hm (by assumption) (by assumption) (by assumption)|apply Ev.bK|apply Ev.bE)|(with_reducible refine Ev.bf ?_ ?_;focus (first|(simp;done)|(simp;omega)|omega))));exact Bh (by omega) l1
 | top=>(simp[pB,pC,dY,cK,ch,cL,Z.Kind,Z.iM,Z.Text,Z.V,Z.aS,Z.B,Z.Decls,Z.H] at *;repeat' (first|(with_reducible first|exact Ev.ok (Eq.refl _)|refine Ev.cf (fA hm (by first|assumption|simp) (by first|assumption|simp) (by first|assumption|exact cM)) ?_|refine Ev.cf (pU hm (by simp) (by first|assumption|(simp;assumption)|simpa using h)) ?_|refine Ev.cf (bV hm (by assumption)) ?_|exact bV hm (by assumption)|exact fI hm (by assumption) (by assumption) (by assumption)|apply Ev.bK|apply Ev.bE)|(with_reducible refine Ev.bf ?_ ?_;focus (first|(simp;done)|(simp;omega)|omega))))
 | bot=>(simp[pB,pC,dY,cK,ch,cL,Z.Kind,Z.iM,Z.Text,Z.V,Z.aS,Z.B,Z.Decls,Z.H] at *;repeat' (first|(with_reducible first|exact Ev.ok (Eq.refl _)|refine Ev.cf (fA hm (by first|assumption|simp) (by first|assumption|simp) (by first|assumption|exact cM)) ?_|refine Ev.cf (pU hm (by simp) (by first|assumption|(simp;assumption)|simpa using h)) ?_|refine Ev.cf (bV hm (by assumption)) ?_|exact bV hm (by assumption)|exact fI hm (by assumption) (by assumption) (by assumption)|apply Ev.bK|apply Ev.bE)|(with_reducible refine Ev.bf ?_ ?_;focus (first|(simp;done)|(simp;omega)|omega))))
 | type h=>have h:=Ez h;(simp[pB,pC,dY,cK,ch,cL,Z.Kind,Z.iM,Z.Text,Z.V,Z.aS,Z.B,Z.Decls,Z.H] at *;repeat' (first|(with_reducible first|exact Ev.ok (Eq.refl _)|refine Ev.cf (fA hm (by first|assumption|simp) (by first|assumption|simp) (by first|assumption|exact cM)) ?_|refine Ev.cf (pU hm (by simp) (by first|assumption|(simp;assumption)|simpa using h)) ?_|refine Ev.cf (bV hm (by assumption)) ?_|exact bV hm (by assumption)|exact fI hm (by assumption) (by assumption) (by assumption)|apply Ev.bK|apply Ev.bE)|(with_reducible refine Ev.bf ?_ ?_;focus (first|(simp;done)|(simp;omega)|omega))))
 | bound h hx=>(simp[pB,pC,dY,cK,ch,cL,Z.Kind,Z.iM,Z.Text,Z.V,Z.aS,Z.B,Z.Decls,Z.H] at *;repeat' (first|(with_reducible first|exact Ev.ok (Eq.refl _)|refine Ev.cf (fA hm (by first|assumption|simp) (by first|assumption|simp) (by first|assumption|exact cM)) ?_|refine Ev.cf (pU hm (by simp) (by first|assumption|(simp;assumption)|simpa using h)) ?_|refine Ev.cf (bV hm (by assumption)) ?_|exact bV hm (by assumption)|exact fI hm (by assumption) (by assumption) (by assumption)|apply Ev.bK|apply Ev.bE)|(with_reducible refine Ev.bf ?_ ?_;focus (first|(simp;done)|(simp;omega)|omega))))
 | ref h=>(simp[pB,pC,dY,cK,ch,cL,Z.Kind,Z.iM,Z.Text,Z.V,Z.aS,Z.B,Z.Decls,Z.H] at *;repeat' (first|(with_reducible first|exact Ev.ok (Eq.refl _)|refine Ev.cf (fA hm (by first|assumption|simp) (by first|assumption|simp) (by first|assumption|exact cM)) ?_|refine Ev.cf (pU hm (by simp) (by first|assumption|(simp;assumption)|simpa using h)) ?_|refine Ev.cf (bV hm (by assumption)) ?_|exact bV hm (by assumption)|exact fI hm (by assumption) (by assumption) (by assumption)|apply Ev.bK|apply Ev.bE)|(with_reducible refine Ev.bf ?_ ?_;focus (first|(simp;done)|(simp;omega)|omega))))
 | Lv hx=>(simp[pB,pC,dY,cK,ch,cL,Z.Kind,Z.iM,Z.Text,Z.V,Z.aS,Z.B,Z.Decls,Z.H] at *;repeat' (first|(with_reducible first|exact Ev.ok (Eq.refl _)|refine Ev.cf (fA hm (by first|assumption|simp) (by first|assumption|simp) (by first|assumption|exact cM)) ?_|refine Ev.cf (pU hm (by simp) (by first|assumption|(simp;assumption)|simpa using h)) ?_|refine Ev.cf (bV hm (by assumption)) ?_|exact bV hm (by assumption)|exact fI hm (by assumption) (by assumption) (by assumption)|apply Ev.bK|apply Ev.bE)|(with_reducible refine Ev.bf ?_ ?_;focus (first|(simp;done)|(simp;omega)|omega))))
 | index hx hy=>(simp[pB,pC,dY,cK,ch,cL,Z.Kind,Z.iM,Z.Text,Z.V,Z.aS,Z.B,Z.Decls,Z.H] at *;repeat' (first|(with_reducible first|exact Ev.ok (Eq.refl _)|refine Ev.cf (fA hm (by first|assumption|simp) (by first|assumption|simp) (by first|assumption|exact cM)) ?_|refine Ev.cf (pU hm (by simp) (by first|assumption|(simp;assumption)|simpa using h)) ?_|refine Ev.cf (bV hm (by assumption)) ?_|exact bV hm (by assumption)|exact fI hm (by assumption) (by assumption) (by assumption)|apply Ev.bK|apply Ev.bE)|(with_reducible refine Ev.bf ?_ ?_;focus (first|(simp;done)|(simp;omega)|omega))))
 | struct hd ht=>(simp[pB,pC,dY,cK,ch,cL,Z.Kind,Z.iM,Z.Text,Z.V,Z.aS,Z.B,Z.Decls,Z.H] at *;repeat' (first|(with_reducible first|exact Ev.ok (Eq.refl _)|refine Ev.cf (fA hm (by first|assumption|simp) (by first|assumption|simp) (by first|assumption|exact cM)) ?_|refine Ev.cf (pU hm (by simp) (by first|assumption|(simp;assumption)|simpa using h)) ?_|refine Ev.cf (bV hm (by assumption)) ?_|exact bV hm (by assumption)|exact fI hm (by assumption) (by assumption) (by assumption)|apply Ev.bK|apply Ev.bE)|(with_reducible refine Ev.bf ?_ ?_;focus (first|(simp;done)|(simp;omega)|omega))))
 | list hs=>(simp[pB,pC,dY,cK,ch,cL,Z.Kind,Z.iM,Z.Text,Z.V,Z.aS,Z.B,Z.Decls,Z.H] at *;repeat' (first|(with_reducible first|exact Ev.ok (Eq.refl _)|refine Ev.cf (fA hm (by first|assumption|simp) (by first|assumption|simp) (by first|assumption|exact cM)) ?_|refine Ev.cf (pU hm (by simp) (by first|assumption|(simp;assumption)|simpa using h)) ?_|refine Ev.cf (bV hm (by assumption)) ?_|exact bV hm (by assumption)|exact fI hm (by assumption) (by assumption) (by assumption)|apply Ev.bK|apply Ev.bE)|(with_reducible refine Ev.bf ?_ ?_;focus (first|(simp;done)|(simp;omega)|omega))));exact Bh (by omega) l1
 | rest hs hy=>(simp[pB,pC,dY,cK,ch,cL,Z.Kind,Z.iM,Z.Text,Z.V,Z.aS,Z.B,Z.Decls,Z.H] at *;repeat' (first|(with_reducible first|exact Ev.ok (Eq.refl _)|refine Ev.cf (fA hm (by first|assumption|simp) (by first|assumption|simp) (by first|assumption|exact cM)) ?_|refine Ev.cf (pU hm (by simp) (by first|assumption|(simp;assumption)|simpa using h)) ?_|refine Ev.cf (bV hm (by assumption)) ?_|exact bV hm (by assumption)|exact fI hm (by assumption) (by assumption) (by assumption)|apply Ev.bK|apply Ev.bE)|(with_reducible refine Ev.bf ?_ ?_;focus (first|(simp;done)|(simp;omega)|omega))))
 | and hx hy=>(simp[pB,pC,dY,cK,ch,cL,Z.Kind,Z.iM,Z.Text,Z.V,Z.aS,Z.B,Z.Decls,Z.H] at *;repeat' (first|(with_reducible first|exact Ev.ok (Eq.refl _)|refine Ev.cf (fA hm (by first|assumption|simp) (by first|assumption|simp) (by first|assumption|exact cM)) ?_|refine Ev.cf (pU hm (by simp) (by first|assumption|(simp;assumption)|simpa using h)) ?_|refine Ev.cf (bV hm (by assumption)) ?_|exact bV hm (by assumption)|exact fI hm (by assumption) (by assumption) (by assumption)|apply Ev.bK|apply Ev.bE)|(with_reducible refine Ev.bf ?_ ?_;focus (first|(simp;done)|(simp;omega)|omega))))
 | or h hs=>(simp[pB,pC,dY,cK,ch,cL,Z.Kind,Z.iM,Z.Text,Z.V,Z.aS,Z.B,Z.Decls,Z.H] at *;repeat' (first|(with_reducible first|exact Ev.ok (Eq.refl _)|refine Ev.cf (fA hm (by first|assumption|simp) (by first|assumption|simp) (by first|assumption|exact cM)) ?_|refine Ev.cf (pU hm (by simp) (by first|assumption|(simp;assumption)|simpa using h)) ?_|refine Ev.cf (bV hm (by assumption)) ?_|exact bV hm (by assumption)|exact fI hm (by assumption) (by assumption) (by assumption)|apply Ev.bK|apply Ev.bE)|(with_reducible refine Ev.bf ?_ ?_;focus (first|(simp;done)|(simp;omega)|omega))));exact Bh (by omega) l1
 | unary h hx=>(simp[pB,pC,dY,cK,ch,cL,Z.Kind,Z.iM,Z.Text,Z.V,Z.aS,Z.B,Z.Decls,Z.H] at *;repeat' (first|(with_reducible first|exact Ev.ok (Eq.refl _)|refine Ev.cf (fA hm (by first|assumption|simp) (by first|assumption|simp) (by first|assumption|exact cM)) ?_|refine Ev.cf (pU hm (by simp) (by first|assumption|(simp;assumption)|simpa using h)) ?_|refine Ev.cf (bV hm (by assumption)) ?_|exact bV hm (by assumption)|exact fI hm (by assumption) (by assumption) (by assumption)|apply Ev.bK|apply Ev.bE)|(with_reducible refine Ev.bf ?_ ?_;focus (first|(simp;done)|(simp;omega)|omega))))
 | binary h hx hy=>have h:=CH h;(simp[pB,pC,dY,cK,ch,cL,Z.Kind,Z.iM,Z.Text,Z.V,Z.aS,Z.B,Z.Decls,Z.H] at *;repeat' (first|(with_reducible first|exact Ev.ok (Eq.refl _)|refine Ev.cf (fA hm (by first|assumption|simp) (by first|assumption|simp) (by first|assumption|exact cM)) ?_|refine Ev.cf (pU hm (by simp) (by first|assumption|(simp;assumption)|simpa using h)) ?_|refine Ev.cf (bV hm (by assumption)) ?_|exact bV hm (by assumption)|exact fI hm (by assumption) (by assumption) (by assumption)|apply Ev.bK|apply Ev.bE)|(with_reducible refine Ev.bf ?_ ?_;focus (first|(simp;done)|(simp;omega)|omega))))
 | call h hs=>(simp[pB,pC,dY,cK,ch,cL,Z.Kind,Z.iM,Z.Text,Z.V,Z.aS,Z.B,Z.Decls,Z.H] at *;repeat' (first|(with_reducible first|exact Ev.ok (Eq.refl _)|refine Ev.cf (fA hm (by first|assumption|simp) (by first|assumption|simp) (by first|assumption|exact cM)) ?_|refine Ev.cf (pU hm (by simp) (by first|assumption|(simp;assumption)|simpa using h)) ?_|refine Ev.cf (bV hm (by assumption)) ?_|exact bV hm (by assumption)|exact fI hm (by assumption) (by assumption) (by assumption)|apply Ev.bK|apply Ev.bE)|(with_reducible refine Ev.bf ?_ ?_;focus (first|(simp;done)|(simp;omega)|omega))));exact Bh (by omega) l1
 | value hd ht=>(simp[pB,pC,dY,cK,ch,cL,Z.Kind,Z.iM,Z.Text,Z.V,Z.aS,Z.B,Z.Decls,Z.H] at *;repeat' (first|(with_reducible first|exact Ev.ok (Eq.refl _)|refine Ev.cf (fA hm (by first|assumption|simp) (by first|assumption|simp) (by first|assumption|exact cM)) ?_|refine Ev.cf (pU hm (by simp) (by first|assumption|(simp;assumption)|simpa using h)) ?_|refine Ev.cf (bV hm (by assumption)) ?_|exact bV hm (by assumption)|exact fI hm (by assumption) (by assumption) (by assumption)|apply Ev.bK|apply Ev.bE)|(with_reducible refine Ev.bf ?_ ?_;focus (first|(simp;done)|(simp;omega)|omega))))
theorem HK (hm:g m) {j o i:Bool} {e:Z} (h:VP j o i e) (hs:kW e):Ev (λk=>jS (m k) e) (λy=>y=true) fM:=by
 cases h with
 | e h=>exact yF hm h hs
 | item h=>
  cases h with
  | e h=>exact yF hm h hs
  | yk ha hb hn hx hy=>unfold jS nk jv mj lr;(simp[pB,pC,dY,cK,ch,cL,Z.Kind,Z.iM,Z.Text,Z.V,Z.aS,Z.B,Z.Decls,Z.H] at *;repeat' (first|(with_reducible first|exact Ev.ok (Eq.refl _)|refine Ev.cf (fA hm (by first|assumption|simp) (by first|assumption|simp) (by first|assumption|exact cM)) ?_|refine Ev.cf (pU hm (by simp) (by first|assumption|(simp;assumption)|simpa using h)) ?_|refine Ev.cf (bV hm (by assumption)) ?_|exact bV hm (by assumption)|exact fI hm (by assumption) (by assumption) (by assumption)|apply Ev.bK|apply Ev.bE)|(with_reducible refine Ev.bf ?_ ?_;focus (first|(simp;done)|(simp;omega)|omega))))
  | yl ha hb hn hx hy hz=>unfold jS nk jv mj lr;(simp[pB,pC,dY,cK,ch,cL,Z.Kind,Z.iM,Z.Text,Z.V,Z.aS,Z.B,Z.Decls,Z.H] at *;repeat' (first|(with_reducible first|exact Ev.ok (Eq.refl _)|refine Ev.cf (fA hm (by first|assumption|simp) (by first|assumption|simp) (by first|assumption|exact cM)) ?_|refine Ev.cf (pU hm (by simp) (by first|assumption|(simp;assumption)|simpa using h)) ?_|refine Ev.cf (bV hm (by assumption)) ?_|exact bV hm (by assumption)|exact fI hm (by assumption) (by assumption) (by assumption)|apply Ev.bK|apply Ev.bE)|(with_reducible refine Ev.bf ?_ ?_;focus (first|(simp;done)|(simp;omega)|omega))))
 | alt h=>
  cases h with
  | e h=>exact yF hm h hs
  | mark hx=>unfold jS nk jv mj lr;(simp[pB,pC,dY,cK,ch,cL,Z.Kind,Z.iM,Z.Text,Z.V,Z.aS,Z.B,Z.Decls,Z.H] at *;repeat' (first|(with_reducible first|exact Ev.ok (Eq.refl _)|refine Ev.cf (fA hm (by first|assumption|simp) (by first|assumption|simp) (by first|assumption|exact cM)) ?_|refine Ev.cf (pU hm (by simp) (by first|assumption|(simp;assumption)|simpa using h)) ?_|refine Ev.cf (bV hm (by assumption)) ?_|exact bV hm (by assumption)|exact fI hm (by assumption) (by assumption) (by assumption)|apply Ev.bK|apply Ev.bE)|(with_reducible refine Ev.bf ?_ ?_;focus (first|(simp;done)|(simp;omega)|omega))))
theorem HL (hm:g m) {s:ByS} (h:yj s):Ev (λi=>oX (m i) s) (λy=>y.2.Errno=0) fM:=by
 obtain ⟨n,r,f,h,hf⟩:=h;exact HA hm _ h hf
theorem JM (hm:g m) {z:Bool} {d:au} (h:VD z d) (hs:mP d):Ev (λk=>oY (m k) d) (λy=>y=true) fM:=by
 have l3:=hs.l3;have l4:=hs.l4;have l5:=hs.l5;have l6:=hs.l6;have l7:=hs.l7;unfold oY;cases h<;>(simp[pB,pC,dY,cK,ch,cL,au.Kind,au.cX,au.Label,au.V,au.aS,au.B,au.Body,au.H,au.lT,au.Trail] at *;repeat' (first|(with_reducible first|exact Ev.ok (Eq.refl _)|refine Ev.cf (fA hm (by first|assumption|simp) (by first|assumption|(simp;done)|(simp;assumption)) (by first|assumption|exact cM|exact gH (by assumption))) ?_|(refine Ev.Y (HL hm (by assumption)) λy hy=>?_;rw[hy])|refine Ev.cf (bV hm (by assumption)) ?_|exact bV hm (by assumption)|refine Ev.cf (fI hm (by assumption) (by assumption) (by assumption)) ?_|apply Ev.bK|apply Ev.bE|(refine Ev.jn (λ_=>True) (λ_ _=>?_) (λj hj=>?_))|exact hj _ trivial)|(with_reducible refine Ev.bf ?_ ?_;focus (first|(simp;done)|(simp;omega)|omega))));exact Ev.bf (decide_eq_false (by omega)) (Ev.bf (decide_eq_false (by omega)) (hj _ trivial))
theorem Dz:∀ n:Nat,(∀ {m:Nat->Nat} {e:Z},g m->n<=100->Mb n e->kW e->Ev (λi=>fF (m i) e) (λk=>0<=k/\k<=n) fM)/\
  ∀ {m:Nat->Nat} {l:List au},g m->n<=100->(∀ d,d∈l->Mc n d/\mP d)->l.length<=70000->Ev (λi=>iW (m i) l) (λk=>0<=k/\k<=n) fM
 | 0=>by
  refine ⟨λ_ _ h=>(by cases h),λ{m l} hm _ h _=>?_⟩
  cases l with
  | cons d l=>have:=(h d (.head _)).1;cases this
  | nil=>
   refine Ev.grow (F:=λn=>iW n []) hm λm hm=>?_
   show Ev (λi=>ls (m i) (iL (m i)) []) _ _
   unfold ls
   exact Ev.iter hm (λ(w:Int×Int)=>w=(0,0)) (λ_=>0) rfl λw hw next hn=>by subst hw;exact Ev.bE (Ev.ok ⟨by decide,by decide⟩)
 | n+1=>by
  obtain ⟨ihe,ihd⟩:=Dz n
  refine ⟨λ{m e} hm hn h hs=>?_,λ{m l} hm hn h hl=>?_⟩
  ·have hsl:=hs.l1
   cases h with|mk hsub hd=>
   refine Ev.grow (F:=λn=>fF n e) hm λm hm=>?_
   show Ev (λi=>k6 (m i) (iL (m i)) e) _ _
   unfold k6
   refine Ev.Y (ihd hm (by omega) (λx hx=>⟨hd x hx,hs.d x hx⟩) hs.l2) λk hk=>?_
   refine Ev.iter hm (λ(u:Int×Int)=>0<=u.2/\u.2<=e.B.length/\0<=u.1/\u.1<=(n:Int)) (λu=>(e.B.length - u.2).toNat) ⟨Int.le_refl 0,by dsimp only;omega,hk.1,hk.2⟩ ?_
   intro u hu next3 hn3
   refine Ev.br (λq2=>?_) λ_=>Ev.gd (ky (by omega) (by omega)) (Ev.ok ⟨by omega,by omega⟩)
   have q2:u.2<e.B.length:=by simpa using q2
   refine Ev.el hu.1 q2 λx hx=>Ev.Y (ihe hm (by omega) (hsub x (List.mem_of_getElem? hx)) (hs.s x (List.mem_of_getElem? hx))) λz hz=>Ev.gd (ky (by omega) (by omega)) (hn3 _ ⟨by dsimp only;omega,by dsimp only;omega,?_,?_⟩ (by dsimp only;omega))
   ·dsimp only;split<;>omega
   ·dsimp only;split<;>omega
  ·refine Ev.grow (F:=λn=>iW n l) hm λm hm=>?_
   show Ev (λi=>ls (m i) (iL (m i)) l) _ _
   unfold ls
   refine Ev.iter hm (λ(w:Int×Int)=>0<=w.2/\w.2<=l.length/\0<=w.1/\w.1<=(n:Int)+1) (λw=>(l.length - w.2).toNat) ⟨by decide,by simp,by decide,by dsimp only;omega⟩ ?_
   intro w hw next hn2
   refine Ev.br (λq=>?_) λ_=>Ev.ok ⟨hw.2.2.1,by omega⟩
   have q:w.2<l.length:=by simpa using q
   refine Ev.el hw.1 q λd hd=>?_
   obtain ⟨hD,hds⟩:=h d (List.mem_of_getElem? hd)
   cases hD with|mk hb hsub=>
   refine Ev.Y (ihd hm (by omega) (λx hx=>⟨hb x hx,hds.d x hx⟩) hds.l2) λk hk=>?_
   have hsl:=hds.l1
   refine Ev.iter hm (λ(u:Int×Int)=>0<=u.2/\u.2<=d.B.length/\0<=u.1/\u.1<=(n:Int)) (λu=>(d.B.length - u.2).toNat) ⟨Int.le_refl 0,by dsimp only;omega,hk.1,hk.2⟩ ?_
   intro u hu next3 hn3
   refine Ev.br (λq2=>?_) λ_=>?_
   ·have q2:u.2<d.B.length:=by simpa using q2
    refine Ev.el hu.1 q2 λx hx=>Ev.Y (ihe hm (by omega) (hsub x (List.mem_of_getElem? hx)) (hds.s x (List.mem_of_getElem? hx))) λz hz=>Ev.gd (ky (by omega) (by omega)) (hn3 _ ⟨by dsimp only;omega,by dsimp only;omega,?_,?_⟩ (by dsimp only;omega))
    ·dsimp only;split<;>omega
    ·dsimp only;split<;>omega
   ·refine Ev.gd (ky (by omega) (by omega)) (Ev.gd (ky (by omega) (by omega)) (hn2 _ ⟨by dsimp only;omega,by dsimp only;omega,?_,?_⟩ (by dsimp only;omega)))
    ·dsimp only;split<;>omega
    ·dsimp only;split<;>omega
end
theorem JN {z:Bool} {d:au} (h:VD z d):∀ x,x∈d.Body->VD false x:=by
 cases h
 case I5 hb _ _ _=>exact hb
 case A1 hb _ _ _=>exact hb
 all_goals exact λ_ h=>by cases h
theorem JO {z:Bool} {d:au} (h:VD z d) {x:Z} (hx:x∈d.B):VE (z&&(d.Kind==1||d.Kind==2||d.Kind==3||d.Kind==4)) x:=by
 have one:∀ {a:Z},x∈[a]->x=a:=λh=>by simpa using h
 cases h
 case field h=>cases z<;>exact one hx▸h
 case pattern h=>cases z<;>exact one hx▸h
 case vt h=>cases z<;>exact one hx▸h
 case lets h _ _=>exact one hx▸h
 case I5 h _ _ _ _=>cases z<;>exact one hx▸h
 case A1 h _ _ _ _=>cases z<;>exact one hx▸h
 case dyn ha hb _ _=>
  have two:∀ {a b:Z},x∈[a,b]->VE false a->VE false b->VE false x:=λh ha hb=>by
   simp at h;rcases h with rfl|rfl<;>assumption
  cases z<;>exact two hx ha hb
 case ym=>cases hx
structure RK (N:Nat):Prop where
 e:∀ {m:Nat->Nat} {x:Z} {j o i:Bool},g m->kW x->VP j o i x->2*SizeOf.sizeOf x<N->Ev (λk=>iV (m k) x j o i) (λy=>y=true) fM
 l:∀ {m:Nat->Nat} {l:List au} {z:Bool},g m->l.length<=70000->(∀ d,d∈l->mP d/\VD z d/\2*SizeOf.sizeOf d<N)->Ev (λk=>fy (m k) l z) (λy=>y=true) fM
theorem JP {N:Nat} (ih:RK N) {m:Nat->Nat} {x:Z} {j o i:Bool} (hm:g m) (hs:kW x) (h:VP j o i x) (hN:2*SizeOf.sizeOf x<N+1):Ev (λk=>iV (m k) x j o i) (λy=>y=true) fM:=by
 have hls:=hs.l1;refine Ev.grow (F:=λn=>iV n x j o i) hm λm hm=>?_;show Ev (λk=>nX (m k) (gz (m k)) x j o i) _ _;unfold nX;refine Ev.jn (λv=>v=false) (λv hv=>Ev.bf hv ?_) (λk hk=>Ev.cf (HK hm h hs) (Ev.bE ?_))
 ·refine Ev.iter hm (λ(v:Int)=>0<=v/\v<=x.B.length) (λv=>(x.B.length - v).toNat) ⟨by omega,by omega⟩ ?_;intro v hv next hn;refine Ev.br (λq=>?_) λ_=>?_
  ·have q:v<x.B.length:=by simpa using q
   have hi:J (v+1):=ky (by omega) (by omega);refine Ev.el hv.1 q λy hy=>?_;have hym:=List.mem_of_getElem? hy;have hsz:=EJ hym;have hp:=EC h hy;rw[Int.toNat_of_nonneg hv.1] at hp;have hk10:=Hm h hy;refine Ev.jn (λa=>a=(x.Kind==16&&j)) (λa ha=>?_) (λk hk=>Ev.br (λh16=>Ev.br (λhj=>hk _ (by rw[h16,hj];rfl)) λhj=>hk _ (by rw[hk10,h16,hj];rfl)) λh16=>hk _ (by rw[hk10,h16];rfl));refine Ev.jn (λb=>b=(x.Kind==14&&(x.iM==0||decide (v+1<(x.B.length:Int))))) (λb hb=>?_) (λk hk=>Ev.br (λh14=>Ev.br (λh0=>hk _ (by rw[h14,h0];rfl)) λh0=>Ev.gd hi (hk _ (by rw[h14,h0];rfl))) λh14=>hk _ (by rw[h14];rfl));subst ha hb;exact Ev.cf (ih.e hm (hs.s y hym) hp (by omega)) (Ev.bE (Ev.gd hi (hn _ ⟨by omega,by omega⟩ (by omega))))
  refine Ev.cf (ih.l hm hs.l2 λd hd=>⟨hs.d d hd,CI h d hd,by have:=Dv hd;omega⟩) (Ev.ok rfl)
 cases h with
 | e h=>cases h<;>exact hk _ rfl
 | item h=>
  cases h with
  | e h=>cases h<;>exact hk _ rfl
  | yk=>exact hk _ rfl
  | yl=>exact hk _ rfl
 | alt h=>
  cases h with
  | e h=>cases h<;>exact hk _ rfl
  | mark=>exact hk _ rfl
theorem HM {N:Nat} (ih:RK N) {m:Nat->Nat} {l:List au} {z:Bool} (hm:g m) (hl:l.length<=70000) (h:∀ d,d∈l->mP d/\VD z d/\2*SizeOf.sizeOf d<N+1):Ev (λk=>fy (m k) l z) (λy=>y=true) fM:=by
 refine Ev.grow (F:=λn=>fy n l z) hm λm hm=>?_;show Ev (λk=>kT (m k) (gz (m k)) l z) _ _;unfold kT;refine Ev.iter hm (λ(v:Int)=>0<=v/\v<=l.length) (λv=>(l.length - v).toNat) ⟨by omega,by omega⟩ ?_;intro v hv next hn;refine Ev.br (λq=>?_) λ_=>Ev.ok rfl;have q:v<l.length:=by simpa using q
 refine Ev.el hv.1 q λd hd=>?_;obtain ⟨hs,hV,hN⟩:=h d (List.mem_of_getElem? hd);have hsl:=hs.l1;have hB:Ev (λk=>(gz (m k)).fy d.Body false) (λy=>y=true) fM:=ih.l hm hs.l2 λx hx=>⟨hs.d x hx,JN hV x hx,by have:=HC hx;omega⟩;refine Ev.jn (λ_=>True) (λ_ _=>?_) (λk hk=>Ev.cf (JM hm hV hs) (Ev.bE (Ev.br (λhz=>Ev.bf ?_ (Ev.bf ?_ (Ev.cf hB (Ev.bE (hk _ trivial))))) λ_=>Ev.cf hB (Ev.bE (hk _ trivial)))))
 ·refine Ev.jn (λa=>a=(z&&(d.Kind==1||d.Kind==2||d.Kind==3||d.Kind==4))) (λa ha=>?_) (λk hk=>Ev.br (λhz=>Ev.br (λh1=>hk _ (by rw[hz,h1];rfl)) λh1=>Ev.br (λh2=>hk _ (by rw[hz,h1,h2];rfl)) λh2=>Ev.br (λh3=>hk _ (by rw[hz,h1,h2,h3];rfl)) λh3=>hk _ (by rw[hz,h1,h2,h3];rfl)) λhz=>hk _ (by rw[hz];rfl));refine Ev.iter hm (λ(w:Int)=>0<=w/\w<=d.B.length) (λw=>(d.B.length - w).toNat) ⟨by omega,by omega⟩ ?_;intro w hw next2 hn2;refine Ev.br (λq2=>?_) λ_=>Ev.gd (ky (by omega) (by omega)) (hn _ ⟨by omega,by omega⟩ (by omega));have q2:w<d.B.length:=by simpa using q2
  refine Ev.el hw.1 q2 λx hx=>?_;have hxm:=List.mem_of_getElem? hx;have:=HB hxm;exact Ev.cf (ih.e hm (hs.s x hxm) (.e (ha▸JO hV hxm)) (by omega)) (Ev.bE (Ev.gd (ky (by omega) (by omega)) (hn2 _ ⟨by omega,by omega⟩ (by omega))))
 ·have hz:z=false:=by simpa using hz
  subst hz;cases hV<;>rfl
 have hz:z=false:=by simpa using hz
 subst hz;cases hV<;>rfl
theorem Bi:∀ N,RK N
 | 0=>⟨λ_ _ _ h=>absurd h (Nat.not_lt_zero _),λ{m l z} hm _ h=>by
  cases l with
  | cons d l=>exact absurd (h d (.head _)).2.2 (Nat.not_lt_zero _)
  | nil=>
   refine Ev.grow (F:=λn=>fy n [] z) hm λm hm=>?_
   show Ev (λk=>kT (m k) (gz (m k)) [] z) _ _
   unfold kT
   exact Ev.iter hm (λ(w:Int)=>w=0) (λ_=>0) rfl λw hw next hn=>by subst hw;exact Ev.bE (Ev.ok rfl)⟩
 | N+1=>⟨λhm hs h hN=>JP (Bi N) hm hs h hN,λhm hl h=>HM (Bi N) hm hl h⟩
theorem Aq {k:Int} (h:k<=16):lH true k=.ok 0:=by
 unfold lH;have:decide (k>16)=false:=by simpa using h
 rw[this];rfl
theorem Bj {m:Nat->Nat} (hm:g m) {e:Z} (h:VE true e) (hs:kW e) (hd:DL e 16):Ev (λi=>jw (m i) e) (λy=>y=0) fM:=by
 unfold jw kp;exact Ev.cf ((Bi _).e hm hs (.e h) (Nat.lt_succ_self _)) (Ev.Y ((Dz 16).1 hm (by decide) hd hs) λk hk=>Ev.fh (Aq hk.2) (Ev.ok rfl))
theorem JQ {l:List au}:∃ N,∀ d,d∈l->2*SizeOf.sizeOf d<N:=⟨2*SizeOf.sizeOf l,λd hd=>by have:=List.sizeOf_lt_of_mem hd;omega⟩
theorem HN {m:Nat->Nat} (hm:g m) {f:iC} (h:VF f) (hs:Lw f) (hd:Fk f.Decls 16):Ev (λi=>oZ (m i) f) (λy=>y=0) fM:=by
 obtain ⟨N,hN⟩:=@JQ f.Decls;have hD:=(Bi N).l (z:=true) hm hs.dl λd hd=>⟨hs.ds d hd,h.d d hd,hN d hd⟩;have hL:=fA hm hs.tl hs.ts h.t;have him:=hs.im;unfold oZ;refine Ev.jn (λv=>v=true) (λv hv=>?_) (λk hk=>Ev.br (λ_=>Ev.cf hL (Ev.bK (Ev.cf hD (hk _ rfl)))) λhp=>Ev.cf (bV hm (h.p.resolve_left (by simpa using hp))) (Ev.bK (Ev.cf hL (Ev.bK (Ev.cf hD (hk _ rfl))))));subst hv;refine Ev.iter hm (λ(w:Bool×Int)=>w.1=true/\0<=w.2/\w.2<=f.dC.length) (λw=>(f.dC.length - w.2).toNat) ⟨rfl,by decide,by simp⟩ ?_;intro w hw next hn;refine Ev.br (λq=>?_) λ_=>?_
 ·have q:w.2<f.dC.length:=by simpa using q
  refine Ev.el hw.2.1 q λx hx=>Ev.bt hw.1 (Ev.cf (bV hm (h.i x (List.mem_of_getElem? hx))) (Ev.gd (ky (by omega) (by omega)) (hn _ ⟨rfl,by dsimp only;omega,by dsimp only;omega⟩ (by dsimp only;omega))))
 refine Ev.Y ((Dz 16).2 hm (by decide) (λd hdm=>⟨hd d hdm,hs.ds d hdm⟩) hs.dl) λk hk=>?_;rw[hw.1];exact Ev.fh (Aq hk.2) (Ev.ok rfl)
end Go.Abs
end
section
namespace Go.Abs
open U
theorem HO:kO 64=.ok true:=by kernel_rfl
theorem vA (s:ByS):∃ n,kQ n s=.ok true:=by
 have A:Ev (λ_:Nat=>U.bind (kO 64) λy=>.ok y) (λr=>r=true) fM:=Ev.fh HO (Ev.ok rfl);have key:Ev (λi=>kQ i s) (λr=>r=true) fM:=by
  have hm:g λi=>i:=g.id;unfold kQ;refine Ev.br (λ_=>A) λ_=>Ev.Y ((yD hm).po λi=>Lc) λa ha=>Ev.Y ((yE hm).po λi=>Ld) λb hb=>?_;obtain ⟨⟨_,_,ha1,_⟩,ha2⟩:=ha;obtain ⟨⟨_,_,hb1,_⟩,hb2⟩:=hb;have E:(b.2.Errno !=0)=false->Ev (λi=>U.bind (jw i b.1) λy15=>U.br (y15==0) (U.bind (kO 64) λy17=>.ok y17) (.ok false)) (λr=>r=true) fM:=λh=>by
   have h0:b.2.Errno=0:=by simpa using h
   exact Ev.cf (Bj hm (hb2 h0).1 (hb1 h0).2 (hb2 h0).2) (Ev.bK A)
  refine Ev.br (λ_=>Ev.br (λ_=>A) E) λh=>?_;have h0:a.2.Errno=0:=by simpa using h
  exact Ev.cf (HN hm (ha2 h0).1 (ha1 h0).2 (ha2 h0).2) (Ev.bK (Ev.br (λ_=>A) E))
 obtain ⟨a,ha,N,hN⟩:=key.get;exact ⟨N,by rw[hN N (Nat.le_refl N),ha]⟩
end Go.Abs
end
