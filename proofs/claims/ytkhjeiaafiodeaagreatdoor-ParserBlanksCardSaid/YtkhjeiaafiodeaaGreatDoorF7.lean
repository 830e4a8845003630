/- PROVED: lemmas of a proof that ParserBlanks returns true. CONDITIONS: as each states. -/
import Derived.Test.YtkhjeiaafiodeaaGreatDoorF6
section
namespace Go.Abs
open D
section
variable {s:ByS} {T:List aA} {b:Int} {m:Nat->Nat} {a:Int} {k:Bool} {q:Option U}
theorem vE (hC:PC s T b) (hm:cq m) (h0:0<=a) (h1:a<T.length) (_:QS q) :
  Ev (λi=>eY (m i) (bR s T a b k q)) (λr=>∃ a',r.2=bR s T a' b k q/\a<=a'/\a'<T.length/\(r.1.length:Int)<=a' - a/\∀ x,x∈r.1->x.length<=65536) (PP (b+s.length)):=by
 unfold eY
 have hl:=hC.lJ
 refine Ev.iter hm (λ(x:H×List ByS)=>∃ a',x.1=bR s T a' b k q/\a<=a'/\a'<T.length/\(x.2.length:Int)<=a' - a/\∀ z,z∈x.2->z.length<=65536) (λx=>(T.length - x.1.at_).toNat) ⟨a,rfl,by omega,h1,by simp,by simp⟩ ?_
 rintro ⟨p,l⟩ ⟨a1,hp,h2,h3,h4,h5⟩ next hn
 dsimp only at hp h4 h5;subst hp;dsimp only at hn ⊢
 refine fa hm hC (by omega) h3 λa2 t h6 h7 ht h8 _=>?_
 dsimp only
 refine Ev.bw (λhk=>?_) (λ_=>Ev.ok ⟨a2,rfl,by omega,h7,by dsimp only;omega,h5⟩)
 have hnx:=hC.next (by omega) ht (by omega)
 have htt:=(hC.tok ht).2.2.2.1
 refine Ev.jn (λv=>v=bR s T a2 b k q) (λv hv=>?_) (λj hj=>?_)
 ·subst hv
  refine fa hm hC (by omega) h7 λa3 t3 h8 h9 ht3 h10 e3=>?_
  have e3:=e3 t ht (λ_=>by omega)
  subst e3
  rw[ht] at ht3;cases ht3
  dsimp only
  refine Ev.gA (Ev.gA (hn _ ⟨a3+1,rfl,by omega,by omega,by simp;omega,λz hz=>?_⟩ (by dsimp only;omega)))
  rcases List.mem_append.1 hz with w|w
  ·exact h5 z w
  ·simp at w;subst w;exact htt
 ·refine Ev.fy (rJ hm hC (by omega) h7) λr hr=>?_
  obtain ⟨x,p⟩:=r
  dsimp only at hr;subst hr
  exact Ev.bt (λ_=>ij hm hC (by omega) h7 (by omega)) (λ_=>hj _ rfl)
theorem uv (hC:PC s T b) (hm:cq m) (h0:0<=a) (h1:a<T.length) :
  Ev (λi=>dM (m i) (bR s T a b k q)) (λr=>∃ a',r=bR s T a' b k q/\a<a'/\a'<T.length) (PP (b+s.length)):=by
 unfold dM
 have hl:=hC.lJ
 refine Ev.jn (λv=>∃ a',v=bR s T a' b k q/\a<=a'/\a'+1<T.length) (λv hv=>?_) (λj hj=>?_)
 ·obtain ⟨a',rfl,h2,h3⟩:=hv
  exact Ev.gA (Ev.ok ⟨a'+1,rfl,by omega,by omega⟩)
 ·refine fa hm hC h0 h1 λa2 t h6 h7 ht h8 _=>?_
  dsimp only
  refine Ev.bP (λ_=>?_) (λhk=>hj _ ⟨a2,rfl,h6,hC.next (by omega) ht (by omega)⟩)
  refine fa hm hC (by omega) h7 λa3 t3 h8 h9 ht3 h10 e3=>?_
  dsimp only
  exact jL λr hr _=>Ev.bt (λ_=>ij hm hC (by omega) h9 (by omega)) (λhr1=>hj _ ⟨a3,rfl,by omega,hC.next (by omega) ht3 (by have:=(hr hr1).1;omega)⟩)
theorem GQ {l:ByS} {c:UInt8}:0<=Lib.lastIndex l [c]+1/\Lib.lastIndex l [c]+1<=l.length:=by
 unfold Lib.lastIndex;split
 ·rename_i h;simp at h;rcases Lib.lastOcc_spec l [c] (l.length - [c].length+1) with ⟨h,_⟩|⟨i,h1,h2,_⟩
  ·rw[h];omega
  rw[h2];simp at h1;omega
 omega
theorem Bz (hC:PC s T b) (hm:cq m) (h0:0<=a) (h1:a<T.length) {t:aA} (ht:T[a.toNat]?=some t) (hk:t.Kind=1) :
  Ev (λi=>dE (m i) (bR s T a b k q)) (λr=>∃ a',r.2=bR s T a' b k q/\a<a'/\a'<T.length) (PP (b+s.length)):=by
 unfold dE
 have hl:=hC.lJ
 have hnx:=hC.next h0 ht (by omega)
 refine k5 hm hC h0 h1 λa2 t2 v h2 h3 _ e2 _ _ _=>?_
 have e2:=e2 t ht (λ_=>by omega)
 subst e2
 dsimp only
 refine Ev.gA ?_
 refine Ev.jn (λv=>∃ a',v.1=bR s T a' b k q/\a2<a'/\a'<T.length) (λv hv=>?_) (λj hj=>?_)
 ·obtain ⟨p,x⟩:=v
  obtain ⟨a3,hp,h4,h5⟩:=hv
  dsimp only at hp;subst hp;dsimp only
  refine fa hm hC (by omega) h5 λa4 t4 h6 h7 ht4 h8 _=>?_
  dsimp only
  refine Ev.jn (λv=>v=bR s T a4 b k q/\t4.Kind=3) (λv hv=>?_) (λj hj=>?_)
  ·obtain ⟨rfl,hk4⟩:=hv
   have hnx4:=hC.next (by omega) ht4 (by omega)
   have htt:=(hC.tok ht4).2.2.2.1
   refine Ev.jn (λv=>v.1=bR s T a4 b k q) (λv hv=>?_) (λj hj=>?_)
   ·obtain ⟨p,x⟩:=v
    dsimp only at hv;subst hv;dsimp only
    refine Ev.gA (Ev.aN (uv hC hm (by omega) hnx4) λr hr=>?_)
    obtain ⟨a5,rfl,h9,h10⟩:=hr
    exact Ev.ok ⟨a5,rfl,by omega,h10⟩
   ·refine Ev.bw (λ_=>?_) (λ_=>hj _ rfl)
    refine Ev.fy (Q:=λ(r:Int)=>0<=r+1/\r+1<=t4.Text.length) ?_ λr hr=>?_
    ·unfold strings_LastIndex
     exact Ev.gA (Ev.ok GQ)
    ·refine Ev.gA (Ev.gd hr (Ev.fy (gh hm) λy _=>?_))
     exact Ev.bt (λ_=>ij hm hC (by omega) h7 (by omega)) (λ_=>hj _ rfl)
  ·exact Ev.bP (λ_=>ij hm hC (by omega) h7 (by omega)) (λhk=>hj _ ⟨rfl,hk⟩)
 ·refine fa hm hC (by omega) hnx λa4 t4 h6 h7 ht4 h8 _=>?_
  dsimp only
  refine Ev.bw (λ_=>?_) (λ_=>hj _ ⟨a4,rfl,by omega,h7⟩)
  refine s6 hm hC (by omega) h7 (by omega) λa5 x h9 h10=>?_
  exact hj _ ⟨a5,rfl,by omega,h10⟩
structure GS (f:fq):Prop where
 im:f.cT.length<=70000
 dl:f.Decls.length<=70000
 ds:∀ d,d∈f.Decls->lI d
 tl:f.cl.length<=70000
 ts:∀ x,x∈f.cl->x.length<=65536
theorem GU (hC:PC s T b) (hX:vh s b) (hm:cq m) (h0:0<=a) (h1:a<T.length) (hq:QS q) :
  Ev (λi=>eZ (m i) (bR s T a b k q)) (λr=>GS r.1) (PP (b+s.length)):=by
 unfold eZ
 have hl:=hC.lJ
 refine Ev.aN (vE hC hm h0 h1 hq) λr hr=>?_
 obtain ⟨lead,p⟩:=r
 obtain ⟨a1,hp,h2,h3,h4,h5⟩:=hr
 dsimp only at hp h4 h5;subst hp;dsimp only
 refine Ev.jn (λv=>∃ a',v.1=bR s T a' b k q/\a<=a'/\a'<T.length/\(v.2.2.length:Int)<=a' - a/\∀ x,x∈v.2.2->x.length<=65536) (λv hv=>?_) (λj hj=>?_)
 ·obtain ⟨p,f,lead⟩:=v
  obtain ⟨a2,hp,h6,h7,h8,h9⟩:=hv
  dsimp only at hp h8 h9;subst hp;dsimp only
  refine Ev.jn (λv=>∃ a',v.1=bR s T a' b k q/\a2<=a'/\a'<T.length/\v.2.cT.length<=70000) (λv hv=>?_) (λj hj=>?_)
  ·obtain ⟨p,f⟩:=v
   obtain ⟨a3,hp,h10,h11,h12⟩:=hv
   dsimp only at hp h12;subst hp;dsimp only
   refine Ev.aN (Bx hC hm (by omega) h11 hq (by omega) h9 λhm2 ha h2 hq2 ht hk hk7=>(E2 hC hX _).decl hm2 (by omega) h2 hq2 ht hk hk7 (Nat.lt_succ_self _)) λr hr=>?_
   obtain ⟨ds,tl,p⟩:=r
   obtain ⟨⟨a4,q4,hp,h13,h14,hq4⟩,g1,g2,g3,g4⟩:=hr
   dsimp only at hp g1 g2 g3 g4;subst hp;dsimp only
   refine fa hm hC (by omega) (by omega) λa5 t h15 h16 _ _ _=>?_
   dsimp only
   exact Ev.bP (λ_=>ij hm hC (by omega) h16 (by omega)) (λ_=>Ev.ok ⟨h12,g1,g2,g3,g4⟩)
  ·refine Ev.iter hm (λ(x:H×fq)=>∃ a',x.1=bR s T a' b k q/\a2<=a'/\a'<T.length/\(x.2.cT.length:Int)<=a') (λx=>(T.length - x.1.at_).toNat) ⟨a2,rfl,by omega,h7,by simp;omega⟩ ?_
   rintro ⟨p,f⟩ ⟨a3,hp,h10,h11,h12⟩ next hn
   dsimp only at hp h12;subst hp;dsimp only at hn ⊢
   refine fa hm hC (by omega) h11 λa4 t h13 h14 ht _ _=>?_
   dsimp only
   have hI:∀ {K:Nat->bU×H->D (fq×H)},t.Kind=1->(∀ a' x,a4<a'->a'<T.length->Ev (λi=>K i (x,bR s T a' b k q)) (λr=>GS r.1) (PP (b+s.length)))->Ev (λi=>D.bind (dE (m i) (bR s T a4 b k q)) (K i)) (λr=>GS r.1) (PP (b+s.length)):=by
    intro K hk hK
    refine Ev.aN (Bz hC hm (by omega) h14 ht hk) λr hr=>?_
    obtain ⟨x,p⟩:=r
    obtain ⟨a5,hp,h15,h16⟩:=hr
    dsimp only at hp;subst hp
    exact hK a5 x h15 h16
   refine od λr hr _=>Ev.br (λhr1=>?_) (λ_=>hj _ ⟨a4,rfl,by omega,h14,by dsimp only;omega⟩)
   have hk:=(hr hr1).1
   refine Ev.bw (λh0=>?_) (λh0=>?_)
   ·refine hI hk λa5 x h15 h16=>?_
    dsimp only
    exact Ev.gA (hn _ ⟨a5,rfl,by omega,h16,by simp;omega⟩ (by dsimp only;omega))
   ·refine Ev.gA (Ev.eA λu _=>Ev.bP (λ_=>?_) (λ_=>hj _ ⟨a4,rfl,by omega,h14,by dsimp only;omega⟩))
    refine hI hk λa5 x h15 h16=>?_
    dsimp only
    exact Ev.gA (hn _ ⟨a5,rfl,by omega,h16,by simp;omega⟩ (by dsimp only;omega))
 ·refine fa hm hC (by omega) h3 λa4 t h13 h14 ht _ _=>?_
  dsimp only
  refine od λr hr _=>Ev.br (λhr1=>?_) (λ_=>hj _ ⟨a4,rfl,by omega,h14,by dsimp only;omega,h5⟩)
  have hk:=(hr hr1).1
  have hnx:=hC.next (by omega) ht (by omega)
  refine Ev.gA (s6 hm hC (by omega) hnx (by omega) λa5 x h15 h16=>?_)
  dsimp only
  refine Ev.aN (uv hC hm (by omega) h16) λr hr=>?_
  obtain ⟨a6,rfl,h17,h18⟩:=hr
  refine Ev.aN (vE hC hm (by omega) h18 hq) λr hr=>?_
  obtain ⟨l2,p⟩:=r
  obtain ⟨a7,hp,h19,h20,h21,h22⟩:=hr
  dsimp only at hp h21 h22;subst hp;dsimp only
  refine Ev.gA (hj _ ⟨a7,rfl,by omega,h20,by simp;omega,λz hz=>?_⟩)
  rcases List.mem_append.1 hz with w|w
  ·exact h5 z w
  ·exact h22 z w
end
theorem Fa {m:Nat->Nat} (hm:cq m) {f:fq} (hf:GS f):Ev (λi=>iE (m i) f) (λ_=>True) gP:=by
 unfold iE;have hi:=hf.im;refine Ev.jn (λ_=>True) (λv _=>?_) (λj hj=>?_)
 ·refine Ev.iter hm (λ(x:aq×Int)=>0<=x.2/\x.2<=f.cT.length) (λx=>(f.cT.length - x.2).toNat) (by simp) ?_;intro x hx next hn;refine Ev.aO (λ_=>?_) (λ_=>?_)
  ·refine Ev.eA λd hd=>Ev.aN (gh hm) λy _=>Ev.aN (dF hm (by simp)) λy _=>Ev.gA (hn _ (by dsimp only;omega) (by dsimp only;omega))
  exact Ev.aN (vi (Im (2*SizeOf.sizeOf f.Decls+1)) hm hf.dl λd hd=>⟨hf.ds d hd,by have:=List.sizeOf_lt_of_mem hd;omega⟩) λy _=>Ev.aN E7 λy _=>Ev.ok trivial
 refine Ev.br (λ_=>?_) (λ_=>?_)
 ·exact Ev.aN (oT hm hf.tl hf.ts) λy _=>Ev.aN (dF hm (by simp)) λy _=>hj _ trivial
 exact Ev.aN (gh hm) λy _=>Ev.aN (oT hm hf.tl hf.ts) λy _=>Ev.aN (dF hm (by simp)) λy _=>hj _ trivial
def Au:fq:=fq.mk [] [] [] []
theorem sR {m:Nat->Nat} (hm:cq m) {s:ByS}:Ev (λi=>fg (m i) s) (λr=>0<=r.2.At/\r.2.At<=s.length/\(r.2.Errno=0->r.2.At=0/\GS r.1)/\(r.2.Errno≠0->r.1=Au)) gP:=by
 unfold fg;refine Ev.aN (pP hm) λy hy=>?_;refine Ev.bP (λhe=>Ev.ok ⟨hy.1,hy.2.1,λh=>absurd h he,λ_=>rfl⟩) (λhe=>?_);have hT:=(hy.2.2 he).2;have hC:PC s y.1 0:=⟨hT,by simp,by have:=hT.JQ;omega⟩;have hX:vh s 0:=BY hC.bs;have hp:=hC.pos;refine Ev.yB (R':=PP (0+s.length)) ?_ ?_
 ·refine Ev.aN (GU hC hX hm (Int.le_refl _) (by omega) .none) λr hr=>?_;refine Ev.fy (Fa hm hr) λz _=>?_;refine Ev.br (λ_=>Ev.ok ⟨by simp,by simp,by simp,λ_=>rfl⟩) (λ_=>Ev.ok ⟨by simp,by simp,λ_=>⟨rfl,hr⟩,by simp⟩)
 rintro p ⟨v,rfl,h1,h2⟩;refine Ev.sn ?_;unfold jk kq;exact Ev.ok ⟨h1,by simp;omega,by simp,λ_=>rfl⟩
section
variable {m:Nat->Nat} {s:ByS}
theorem Dt (hm:cq m) (hs:s.length<=400) {l:List aA} (hl:RT s l) (hc:∀ (i:Nat) t u,l[i]?=some t->l[i+1]?=some u->u.Kind=0->t.Kind≠6) {z:Int} :
  Ev (λi=>n5 (m i) s l z) (λr=>Bl s r/\r.length<=3000) gP:=by
 unfold n5
 have hlen:=hl.len
 have hne:=hl.ne
 refine Ev.iter hm (λ(x:Int×ByS×Int×Int)=>0<=x.2.2.2/\x.2.2.2<=l.length/\(x.2.1.length:Int)<=x.2.2.1+2*x.2.2.2/\0<=x.2.2.1/\((x.2.2.2=0/\x.2.2.1=0/\x.2.1=[])\/(0<x.2.2.2/\FZ s x.2.2.1.toNat x.2.1/\∃ t,l[(x.2.2.2 - 1).toNat]?=some t/\t.Pos=x.2.2.1)))
  (λx=>(l.length - x.2.2.2).toNat) ⟨by simp,by simp,by simp,by simp,.inl ⟨rfl,rfl,rfl⟩⟩ ?_
 rintro ⟨z,out,f,v⟩ ⟨h1,h2,h3,h4,h5⟩ next hn
 dsimp only at h1 h2 h3 h4 h5 hn ⊢
 refine Ev.aO (λhv=>?_) (λhv=>?_)
 ·obtain ⟨t,ht⟩:∃ t,l[v.toNat]?=some t:=⟨_,List.getElem?_eq_getElem (by omega)⟩
  obtain ⟨hp,hk0⟩:=hl.ok _ _ ht
  have p0:=hp.p0
  have pe:=hp.pe
  have pn:=hp.en
  have hf:f<=t.Pos:=by
   rcases h5 with ⟨rfl,rfl,_⟩|⟨q,_,u,hu,rfl⟩
   ·exact p0
   ·have:=(hl.I6 _ u t hu (by rw[show (v - 1).toNat+1=v.toNat by omega];exact ht)).1
    have:=((hl.ok _ _ hu).1).pe
    omega
  have hsl:=lr (c:=s) (i:=f) (j:=t.Pos) h4 hf (by omega)
  have J:∀ w:ByS,Jl w->w.length<=2->(s[t.Pos.toNat]?=some 10->w=[])->FZ s t.Pos.toNat (out++sub s f t.Pos++w):=by
   intro w hw hwl hw10
   rcases h5 with ⟨rfl,rfl,rfl⟩|⟨q,hP,u,hu,rfl⟩
   ·have:=FZ.first (s:=s) (b:=t.Pos.toNat) (w:=w) (by omega) (by
     have:=hl.fst t ht
     rw[show ((t.Pos.toNat:Nat):Int)=t.Pos by omega];exact this) hw hw10
    simpa[sub] using this
   ·obtain ⟨hpu,hku⟩:=hl.ok _ _ hu
    have ht':l[(v - 1).toNat+1]?=some t:=by rw[show (v - 1).toNat+1=v.toNat by omega];exact ht
    have hg:=hl.I6 _ u t hu ht'
    refine hP.next (t:=u) hpu (λe=>by have:=hku.1 e;omega) (b:=t.Pos.toNat) (by omega) (by rw[show ((t.Pos.toNat:Nat):Int)=t.Pos by omega];exact hg) hw hw10 λh6 hb=>?_
    rcases Nat.lt_or_ge t.Pos.toNat s.length with g|g
    ·exact g
    ·exfalso
     by_cases k0:t.Kind=0
     ·exact hc _ u t hu ht' k0 h6
     ·by_cases k7:t.Kind=7
      ·have:=(List.getElem?_eq_some_iff.1 (hp.e7 k7).1).1
       omega
      ·obtain ⟨_,_,_,g2⟩:=hp.ex k0 k7;omega
  have h10:t.Kind≠7->s[t.Pos.toNat]?≠some 10:=by
   intro k7 e
   by_cases k0:t.Kind=0
   ·have:=hp.e0 k0
    have:=(List.getElem?_eq_some_iff.1 e).1
    omega
   ·obtain ⟨k,g1,_,_⟩:=hp.ex k0 k7
    rw[List.getElem?_eq_some_iff] at e
    obtain ⟨q1,q2⟩:=e
    rw[List.drop_eq_getElem_cons q1,q2,EG] at g1;cases g1
  refine Ev.jn (λ(w:ByS×Int)=>w.2=t.Pos/\(w.1.length:Int)<=t.Pos+2*(v+1)/\FZ s t.Pos.toNat w.1) (λw hw=>?_) (λj hj=>?_)
  ·obtain ⟨w1,w2,w3⟩:=hw
   exact Ev.gA (hn _ ⟨by dsimp only;omega,by dsimp only;omega,by dsimp only;omega,by dsimp only;omega,.inr ⟨by dsimp only;omega,by dsimp only;rw[w1];exact w3,t,by dsimp only;rw[show v+1 - 1=v by omega];exact ht,w1.symm⟩⟩ (by dsimp only;omega))
  ·have j0:Ev (λi=>j i (out++sub s f t.Pos,t.Pos)) (λr=>Bl s r/\r.length<=3000) gP:=hj _ ⟨rfl,by simp;omega,by have:=J [] (λb hb=>by cases hb) (by simp) (λ_=>rfl);simpa using this⟩
   refine Ev.yA h1 ht (Ev.gd ⟨h4,hf,by omega⟩ (Ev.gA (Ev.yA h1 ht (Ev.yA h1 ht (Ev.bw (λ_=>j0) (λk7=>Ev.gd (by decide) (Ev.br (λ_=>j0) (λ_=>Ev.gd (by decide) (Ev.br (λ_=>?_) (λ_=>?_))))))))))
   ·refine Ev.gd (by simp[mh];omega) (Ev.gd (by simp[mh];omega) (hj _ ⟨rfl,by simp;omega,?_⟩))
    have:=J [9,32] (λb hb=>by simp at hb;rcases hb with rfl|rfl<;>simp) (by simp) (λe=>absurd e (h10 k7))
    simpa using this
   ·refine Ev.gd (by simp[mh];omega) (hj _ ⟨rfl,by simp;omega,?_⟩)
    have:=J [32] (λb hb=>by simp at hb;subst hb;simp) (by simp) (λe=>absurd e (h10 k7))
    simpa using this
 ·rcases h5 with ⟨q,_⟩|⟨q,hP,t,ht,hpos⟩
  ·omega
  obtain ⟨hp,hk0⟩:=hl.ok _ _ ht
  have e0:=hp.e0 (hk0.2 (by omega))
  have ef:f=s.length:=by omega
  refine Ev.gd ⟨h4,by omega⟩ (Ev.gd (by have:=kp (c:=s) (i:=f) h4 (by omega);simp only[mh];omega) (Ev.ok ?_))
  have hlo:dK s f=[]:=by simp only[dK];exact List.drop_eq_nil_of_le (by omega)
  rw[hlo]
  refine ⟨hP [] ?_ λe=>?_,by simp;omega⟩
  ·rw[List.drop_eq_nil_of_le (by omega)];exact .nil
  ·rw[List.getElem?_eq_none (by omega)] at e;cases e
theorem uw {T:List aA} (h:Bs s T) {i j:Nat} {t u:aA} (ht:T[i]?=some t) (hu:T[j]?=some u):0<=t.Pos/\t.Pos<=t.End/\t.End<=s.length/\(i<j->t.End<=u.Pos):=by
 obtain ⟨l,rfl,ho⟩:=h.is;have hi:=(List.getElem?_eq_some_iff.1 ht).1;have hj:=(List.getElem?_eq_some_iff.1 hu).1;simp at hi hj;by_cases q:i<l.length
 ·rw[List.getElem?_append_left q] at ht;obtain ⟨a1,a2,a3,_⟩:=ho.ok t (List.mem_of_getElem? ht);refine ⟨a1,by omega,a3,λhij=>?_⟩;by_cases q2:j<l.length
  ·rw[List.getElem?_append_left q2] at hu;rw[List.getElem?_eq_some_iff] at ht hu;obtain ⟨_,rfl⟩:=ht;obtain ⟨_,rfl⟩:=hu;exact List.pairwise_iff_getElem.1 ho.sorted i j q q2 hij
  rw[show j=l.length by omega,List.getElem?_concat_length] at hu;cases hu;exact a3
 rw[show i=l.length by omega,List.getElem?_concat_length] at ht;cases ht;exact ⟨by simp,by simp,by simp,λhij=>by omega⟩
theorem B1:∀ {l:ByS},(mj l [10]).isSome=decide (0<l.count 10)
 | []=>rfl
 | b::l=>by
  have ih:=B1 (l:=l);by_cases q:b=10
  ·subst q;simp[mj,List.isPrefixOf]
  have e:([10]:ByS).isPrefixOf (b::l)=false:=by simp[List.isPrefixOf];exact λh=>q h.symm
  simp only[mj,e];rw[List.count_cons_of_ne q,<- ih];cases mj l [10]<;>simp
theorem CX {a b:Int} (_:0<=a) (h1:a<=b):Ay s b=Ay s a+(sub s a b).count 10:=by
 unfold Ay sub;rw[show b.toNat=a.toNat+(b.toNat - a.toNat) by omega,List.take_add,List.count_append];congr 3;omega
theorem Fb {s s':ByS} {T T':List aA} (h:Bs s T) (h':Bs s' T') (hr:LR (TR s s') T T'):(Cx.mk s T 0 s' T' 0 0).k8 where
 len:=by simp[hr.1]
 tok:=λi t t' ht ht'=>by
  have:=hr.2 i t t' ht (by simpa using ht');exact ⟨this.hk,this.ht⟩
 nl:=λi j t u t' u' ht hu ht' hu'=>by
  dsimp only at ht hu ht' hu' ⊢;rw[Nat.add_zero] at ht' hu';have g1:=hr.2 i t t' ht ht';have g2:=hr.2 j u u' hu hu';obtain ⟨a1,a2,a3,a4⟩:=uw h ht hu;obtain ⟨b1,b2,b3,b4⟩:=uw h' ht' hu';obtain ⟨c1,c2,c3,c4⟩:=uw h hu ht;obtain ⟨d1,d2,d3,d4⟩:=uw h' hu' ht';unfold strings_Contains;refine RS.gd λ_ _=>RS.ok ?_;rw[B1,B1];by_cases q:i<j
  ·have e1:=CX (s:=s) (a:=t.End) (b:=u.Pos) (by omega) (a4 q);have e2:=CX (s:=s') (a:=t'.End) (b:=u'.Pos) (by omega) (b4 q);rw[g1.he,g2.hp] at e2;exact decide_eq_decide.2 (by omega)
  have z:∀ {s:ByS} {a b:Int},b<=a->(sub s a b).count 10=0:=λ{s a b} hab=>by
   simp only[sub];rw[show b.toNat - a.toNat=0 by omega];simp
  have o1:u.Pos<=t.End:=by
   by_cases w:j<i
   ·have:=c4 w;omega
   obtain rfl:i=j:=by omega
   rw[ht] at hu;cases hu;omega
  have o2:u'.Pos<=t'.End:=by
   by_cases w:j<i
   ·have:=d4 w;omega
   obtain rfl:i=j:=by omega
   rw[ht'] at hu';cases hu';omega
  rw[z o1,z o2]
theorem LR.symm {X Y:Type} {R:X->Y->Prop} {R':Y->X->Prop} {l:List X} {l':List Y} (h:LR R l l') (hr:∀ x y,R x y->R' y x):LR R' l' l:=⟨h.1.symm,λi x y hx hy=>hr y x (h.2 i y x hy hx)⟩
theorem TR.symm {s s':ByS} {t t':aA} (h:TR s s' t t'):TR s' s t' t:=⟨h.hk.symm,h.ht.symm,h.hp.symm,h.he.symm⟩
theorem GV {n:Nat} {s s':ByS} (h:Bl s s') (hs:s.length<=400) (hs':s'.length<=3000) (ht:∀ T F,gN n s=.ok (T,F)->F.Errno=0->Bs s T) (ht':∀ T F,gN n s'=.ok (T,F)->F.Errno=0->Bs s' T) :
  RS (λr r'=>r'.2.Errno=r.2.Errno/\FE r.1 r'.1) (fg n s) (fg n s'):=by
 have nil:∀ {f:fq},f=Au->FE f f:=λe=>by subst e;exact ⟨rfl,.nil,.nil,rfl⟩
 unfold fg
 refine RS.bind (W:=λy y'=>VT s s' y y'/\gN n s=.ok y/\gN n s'=.ok y') (λa e=>(Gk (m:=n) h (by omega) (by omega) a e).imp_right λ⟨b,g1,g2⟩=>⟨b,g1,g2,e,g1⟩) λy y' hy=>?_
 obtain ⟨⟨g1,g2⟩,g3,g4⟩:=hy
 rw[g1]
 refine RS.br rfl (λ_=>RS.ok ⟨g1,nil rfl⟩) (λh0=>?_)
 have e0:y.2.Errno=0:=by simpa using h0
 have hT:=ht y.1 y.2 g3 e0
 have hT':=ht' y'.1 y'.2 g4 (by rw[g1];exact e0)
 have hr:=g2 e0
 have hC:=Fb hT hT' hr
 have hC':=Fb hT' hT (hr.symm λ_ _ q=>q.symm)
 have B:∀ {s s':ByS} {T T':List aA},(Cx.mk s T 0 s' T' 0 0).k8->RS (λr r'=>r'.2.Errno=r.2.Errno/\FE r.1 r'.1)
   (D.bind (eZ n (H.mk s T 0 0 false none)) λy12=>D.bind (iE n y12.1) λy15=>br (y15==9) (.ok ((fq.mk [] [] [] []),(cL.mk 9 0))) (.ok (y12.1,(cL.mk 0 0))))
   (D.bind (eZ n (H.mk s' T' 0 0 false none)) λy12=>D.bind (iE n y12.1) λy15=>br (y15==9) (.ok ((fq.mk [] [] [] []),(cL.mk 9 0))) (.ok (y12.1,(cL.mk 0 0)))):=λ{s s' T T'} hC=>by
  refine RS.bind (GI (C:=Cx.mk s T 0 s' T' 0 0) (m:=n) (a:=0) (k:=false) hC (Int.le_refl 0) rfl) λr r' hf=>RS.bind (E8 hf) λz z' hz=>?_
  subst hz
  exact RS.br rfl (λ_=>RS.ok ⟨rfl,nil rfl⟩) (λ_=>RS.ok ⟨rfl,hf⟩)
 have hP:∀ {q:rA} {r:D (fq×cL)},(sn 86 q λv21=>D.bind (jk v21) λy22=>.ok (y22.1,y22.2))=r->r≠.stuck->∃ v,r=.ok (Au,cL.mk 8 v):=λ{q r} e hr=>by
  obtain ⟨v,_,h⟩:=lQ hr e
  exact ⟨v,h.symm⟩
 refine RS.yB (B hC) λp a ep ha=>⟨λb eb=>?_,λq eq=>?_⟩
 ·rcases B hC' b eb with w|⟨_,w,_⟩<;>(rw[w] at ep;cases ep)
 ·obtain ⟨v,e⟩:=hP ha (λw=>by cases w)
  cases e
  cases hh:(sn 86 q λv21=>D.bind (jk v21) λy22=>.ok (y22.1,y22.2)) with
  | stuck=>exact .inl rfl
  | ok b=>
   obtain ⟨v2,e2⟩:=hP hh (λw=>by cases w)
   cases e2
   exact .inr ⟨_,rfl,rfl,nil rfl⟩
  | mf w=>
   obtain ⟨v2,e2⟩:=hP hh (λw=>by cases w)
   cases e2
theorem Fc (hm:cq m) {f f':fq} (hf:GS f) (h:FE f f'):Ev (λi=>nj (m i) f' f) (λr=>r=true) gP:=by
 unfold nj;have hi:=hf.im;have hl:=h.i.1;rw[h.p,h.t];refine Ev.bP (λq=>absurd rfl q) (λ_=>Ev.bP (λq=>by omega) (λ_=>Ev.aN (oh hm hf.tl) λy hy=>?_));subst hy;refine Ev.cA (Ev.iter hm (λ(v:Int)=>0<=v/\v<=f'.cT.length) (λv=>(f'.cT.length - v).toNat) (by omega) ?_);intro v hv next hn;refine Ev.aO (λhlt=>?_) (λ_=>Ev.aN ((GP _).d hm (λd hd=>Nat.lt_succ_of_lt (List.sizeOf_lt_of_mem hd)) hf.dl hf.ds h.d) λy hy=>Ev.ok hy);obtain ⟨x,hx⟩:∃ x,f.cT[v.toNat]?=some x:=⟨_,List.getElem?_eq_getElem (by omega)⟩;obtain ⟨x',vl⟩:∃ x,f'.cT[v.toNat]?=some x:=⟨_,List.getElem?_eq_getElem (by omega)⟩;have hxx:=h.i.2 _ _ _ hx vl;refine Ev.yA hv.1 vl (Ev.yA hv.1 hx (Ev.bP (λq=>absurd hxx.1 q) (λ_=>Ev.yA hv.1 vl (Ev.yA hv.1 hx (Ev.bP (λq=>absurd hxx.2 q) (λ_=>Ev.gA (hn _ (by omega) (by omega))))))))
end
mutual
theorem EE.symm:∀ {e e':U},EE e e'->EE e' e
 | _,_,.mk h1 h2 h3 h4=>.mk h1.symm (λi x y hx hy=>(h2 i y x hy hx).symm) h3.symm (λi x y hx hy=>(h4 i y x hy hx).symm)
theorem DD.symm:∀ {d d':Z},DD d d'->DD d' d
 | _,_,.mk h1 h2 h3 h4=>.mk h1.symm (λi x y hx hy=>(h2 i y x hy hx).symm) h3.symm (λi x y hx hy=>(h4 i y x hy hx).symm)
end
theorem FE.symm {f f':fq} (h:FE f f'):FE f' f:=⟨h.p.symm,h.i.symm λ_ _ q=>⟨q.1.symm,q.2.symm⟩,h.d.symm λ_ _ q=>q.symm,h.t.symm⟩
theorem Ir:GS Au:=⟨by simp[Au],by simp[Au],by simp[Au],by simp[Au],by simp[Au]⟩
section
variable {s:ByS} {z:Int}
theorem GW {s':ByS} (h:Bl s s') (hs:s.length<=400) (hs':s'.length<=3000) {K:Nat->fq×cL->fq×cL->D Bool}
  (hK:∀ a b,b.2.Errno=a.2.Errno->FE a.1 b.1->GS b.1->Ev (λi=>K i a b) (λr=>r=true) gP) :
  Ev (λi=>D.bind (fg i s) λa=>D.bind (fg i s') λb=>K i a b) (λr=>r=true) gP:=by
 have T1:∀ {s:ByS},s.length<=3000->∃ N,∀ i,N<=i->∀ T F,gN i s=.ok (T,F)->F.Errno=0->Bs s T:=λ{s} _=>by
  obtain ⟨r,hr,N,hN⟩:=pP cq.id (s:=s)
  refine ⟨N,λi hi T F e h0=>?_⟩
  have:=hN i hi
  dsimp only at this
  rw[e] at this;subst this
  exact (hr.2.2 h0).2
 obtain ⟨N1,h1⟩:=T1 (s:=s) (by omega)
 obtain ⟨N2,h2⟩:=T1 (s:=s') hs'
 obtain ⟨a,ha,N3,h3⟩:=(sR cq.id (s:=s)).get
 obtain ⟨b,hb,N4,h4⟩:=(sR cq.id (s:=s')).get
 have e1:=h3 (N1+N2+N3+N4) (by omega)
 have e2:=h4 (N1+N2+N3+N4) (by omega)
 have hR:=GV (n:=N1+N2+N3+N4) h hs hs' (h1 _ (by omega)) (h2 _ (by omega)) a e1
 rcases hR with q|⟨b',q,g1,g2⟩
 ·rw[q] at e2;cases e2
 rw[q] at e2;cases e2
 have hsm:GS b.1:=by
  by_cases q:b.2.Errno=0
  ·exact (hb.2.2.1 q).2
  ·rw[hb.2.2.2 q];exact Ir
 obtain ⟨r,hr,N,hN⟩:=hK a b g1 g2 hsm
 refine ⟨r,hr,N+N3+N4,λi hi=>?_⟩
 have f1:=h3 i (by omega)
 have f2:=h4 i (by omega)
 dsimp only
 rw[f1]
 show D.bind (fg i s') _=r
 rw[f2]
 exact hN i (by omega)
theorem Fe:jW 64=.ok true:=by kernel_rfl
theorem vU:Ev (λi=>kh i s z) (λr=>r=true) gP:=by
 unfold kh;have A:Ev (λ_:Nat=>D.bind (jW 64) λy=>.ok y) (λr=>r=true) gP:=Ev.lV Fe (Ev.ok rfl);refine Ev.aO (λ_=>A) (λhl=>?_);refine Ev.aN (ya cq.id (s:=s) (by omega)) λy hy=>Ev.bP (λ_=>A) (λh0=>?_);have hT:=hy h0;have hlen:=hT.len;refine Ev.iter cq.id (λ(v:Int)=>0<=v/\v<=y.1.length/\∀ (i:Nat) t u,(i:Int)+1<v->y.1[i]?=some t->y.1[i+1]?=some u->u.Kind=0->t.Kind≠6) (λv=>(y.1.length - v).toNat) ⟨by omega,by omega,λi t u h=>by omega⟩ ?_;rintro v ⟨h1,h2,h3⟩ next hn;have N:(∀ t u,y.1[(v - 1).toNat]?=some t->y.1[v.toNat]?=some u->0<v->u.Kind=0->t.Kind≠6)->v<y.1.length->Ev (λi=>D.gd (cr (v+1)) (next i (v+1))) (λr=>r=true) gP:=λg hv=>by
  refine Ev.gA (hn _ ⟨by omega,by omega,λi t u hi ht hu=>?_⟩ (by omega));by_cases q:(i:Int)+1<v
  ·exact h3 i t u q ht hu
  exact g t u (by rw[show (v - 1).toNat=i by omega];exact ht) (by rw[show v.toNat=i+1 by omega];exact hu) (by omega)
 refine Ev.aO (λhv=>Ev.el h1 hv λx hx=>Ev.bw (λk0=>Ev.aO (λhv0=>Ev.gA (Ev.eA λw hw=>Ev.bw (λ_=>A) (λk6=>N (λt u ht hu _ _=>?_) hv))) (λhv0=>N (λt u _ _ q=>absurd q hv0) hv)) (λk0=>N (λt u ht hu _ q=>?_) hv)) (λhv=>?_)
 ·rw[hw] at ht;cases ht;exact k6
 ·rw[hx] at hu;cases hu;exact absurd q k0
 have hc:∀ (i:Nat) t u,y.1[i]?=some t->y.1[i+1]?=some u->u.Kind=0->t.Kind≠6:=λi t u ht hu=>by
  have:=(List.getElem?_eq_some_iff.1 hu).1;exact h3 i t u (by omega) ht hu
 obtain ⟨s',⟨hb,hsl⟩,N0,hN0⟩:=(Dt cq.id (by omega) hT hc (z:=z)).get;have G:=GW hb (by omega) hsl (K:=λi a b=>D.br (a.2.Errno==b.2.Errno) (D.bind (nj i a.1 b.1) λy48=>D.br y48 (D.bind (jW 64) λy50=>.ok (y50)) (.ok (false))) (.ok (false))) λa b e1 e2 e3=>by
  rw[e1];exact Ev.bw (λ_=>Ev.aN (Fc cq.id e3 e2.symm) λq hq=>by subst hq;exact Ev.cR A) (λq=>absurd rfl q)
 obtain ⟨r,hr,N1,hN1⟩:=G;refine ⟨r,hr,N0+N1,λi hi=>?_⟩;have f1:=hN0 i (by omega);have f2:=hN1 i (by omega);dsimp only at f1 f2 ⊢;rw[<- f2,f1];cases fg i s<;>rfl
theorem tQ (s:ByS) (z:Int):∃ n,kh n s z=.ok true:=by
 obtain ⟨a,rfl,N,hN⟩:=(vU (s:=s) (z:=z)).get;exact ⟨N,hN N (Nat.le_refl _)⟩
end
end Go.Abs
end
