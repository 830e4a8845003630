/- PROVED: lemmas of a proof that ParserBlanks returns true. CONDITIONS: as each states. -/
import Derived.Test.YtkhjeiaafiodeaaGreatDoorF5
section
namespace Go.Abs
open D
section
variable {m:Nat->Nat} {s:ByS} {a:Int}
theorem ob (b:UInt8):Ev (λ_=>mD (b.toNat:Int)) (λr=>-1<=r/\r<=255) gP:=by
 have:=F0 b;unfold mD;rw[wrap_i64 (x:=(b.toNat:Int)) (by omega) (by omega)];refine Ev.lV (qw b) ?_
 (repeat' (with_reducible first|refine Ev.gA ?_|refine Ev.eA (λ_ _=>?_)|apply Ev.cR|apply Ev.cA|(first|apply Ev.aO|apply Ev.bw|apply Ev.bP|apply Ev.bt|apply Ev.br)<;>intro _|(apply Ev.kP;try dsimp only)))
 all_goals first|exact Ev.ok (by omega)|(rename_i h;rw[Ad,decide_eq_true_eq] at h;exact Ev.ok (by omega))
theorem vS (h0:0<=a) (h1:a<s.length) (hs:s.length<=70000):Ev (λ_=>n8 s a) (λr=>r.2=0\/(2<=r.2/\a+r.2<=s.length)) gP:=by
 unfold n8;refine Ev.gA (Ev.aO (λ_=>Ev.ok (.inl rfl)) (λh=>Ev.el h0 h1 λb _=>Ev.bP (λ_=>Ev.ok (.inl rfl)) (λ_=>Ev.gA (Ev.eA λc _=>?_))));have ok2:∀ x,Ev (λ_=>(.ok (x,2):D (Int×Int))) (λr=>r.2=0\/(2<=r.2/\a+r.2<=s.length)) gP:=λx=>Ev.ok (.inr ⟨by dsimp only;omega,by dsimp only;omega⟩);refine Ev.jn (λ_=>True) (λv _=>?_) (λj hj=>?_)
 ·refine Ev.br (λ_=>Ev.gA (Ev.eA λd _=>ok2 _)) (λ_=>Ev.br (λ_=>ok2 _) (λ_=>Ev.br (λ_=>ok2 _) (λ_=>Ev.br (λ_=>ok2 _) (λ_=>?_))));refine Ev.jn (λv=>v=true->a+3<s.length) (λv hv=>?_) (λj hj=>?_)
  ·refine Ev.br (λh2=>?_) (λ_=>Ev.ok (.inl rfl));have:=hv h2;refine Ev.gA (Ev.eA λd _=>Ev.gA (Ev.eA λe _=>?_));refine Ev.aN (ob _) λy hy=>Ev.aN (ob _) λz hz=>?_;rw[wrap_i64 (by omega) (by omega)];exact Ev.gA (Ev.ok (.inr ⟨by dsimp only;omega,by dsimp only;omega⟩))
  refine Ev.gA (Ev.eA λd _=>Ev.br (λ_=>Ev.gA (Ev.aO (λh2=>Ev.gA (Ev.eA λe _=>?_)) (λ_=>hj _ (by simp)))) (λ_=>hj _ (by simp)));refine Ev.aN (ob _) λy hy=>Ev.aO (λ_=>Ev.gA (Ev.eA λf _=>?_)) (λ_=>hj _ (by simp));exact Ev.aN (ob _) λz hz=>hj _ (λ_=>h2)
 exact Ev.br (λ_=>hj _ trivial) (λ_=>hj _ trivial)
theorem mE (hm:cq m) (hs:s.length<=70000):Ev (λi=>kx (m i) s) (λr=>r.1.length<=s.length) gP:=by
 unfold kx;have hf:∀ (v:Int),Ev (λ_=>D.bind (jY v) λy=>.ok (([]:ByS),y)) (λr=>r.1.length<=s.length) gP:=λv=>Ev.lV (a:=cL.mk 8 v) rfl (Ev.ok (by simp));refine Ev.aO (λ_=>Ev.ok (by simp)) (λ_=>Ev.bw (λ_=>hf _) (λh=>Ev.eA λb _=>Ev.bP (λ_=>hf _) (λ_=>?_)));refine Ev.iter hm (λ(x:List Int×Int)=>1<=x.2/\x.2<=s.length/\x.1.length<=x.2) (λx=>(s.length - x.2).toNat) (by simp;omega) ?_;rintro ⟨l,v⟩ ⟨h1,h2,h3⟩ next hn;dsimp only at h1 h2 h3 hn ⊢;refine Ev.aO (λhv=>Ev.el (by omega) hv λb _=>Ev.br (λ_=>?_) (λ_=>Ev.br (λ_=>?_) (λ_=>?_))) (λ_=>hf _)
 ·exact Ev.gA (Ev.br (λ_=>Ev.gA (hf _)) (λ_=>Ev.ok (by simp[gR];omega)))
 ·refine Ev.aN (vS (by omega) hv hs) λy hy=>Ev.bw (λ_=>hf _) (λh0=>?_);have hy:=hy.resolve_left h0;refine Ev.gA (Ev.gA (Ev.gA (Ev.gA (hn _ ⟨by dsimp only;omega,by dsimp only;omega,by simp;omega⟩ (by dsimp only;omega)))))
 refine Ev.jn (λ_=>True) (λw _=>?_) (λj hj=>?_)
 ·exact Ev.br (λ_=>hf _) (λ_=>Ev.gA (Ev.gA (hn _ ⟨by dsimp only;omega,by dsimp only;omega,by simp;omega⟩ (by dsimp only;omega))))
 exact Ev.br (λ_=>hj _ trivial) (λ_=>hj _ trivial)
theorem vd (hm:cq m) (h0:0<=a) (hs:s.length<=70000):Ev (λi=>mL (m i) s a) (λr=>r<0\/(a<=r/\r<s.length)) gP:=by
 unfold mL;refine Ev.iter hm (λ(x:Int×Int)=>a<=x.2/\ -x.2<=x.1/\x.1<=x.2) (λx=>(s.length - x.2).toNat) (by simp;omega) ?_;rintro ⟨d,v⟩ ⟨h1,h2,h3⟩ next hn;dsimp only at h1 h2 h3 hn ⊢;refine Ev.aO (λhv=>?_) (λ_=>Ev.ok (.inl (by decide)));refine Ev.jn (λw=>-(v+1)<=w/\w<=v+1) (λw hw=>Ev.gA (hn _ ⟨by dsimp only;omega,by dsimp only;omega,by dsimp only;omega⟩ (by dsimp only;omega))) (λj hj=>?_);refine Ev.jn (λ_=>True) (λ_ _=>?_) (λj2 hj2=>?_)
 ·refine Ev.el (by omega) hv λb _=>Ev.br (λ_=>Ev.gA (Ev.el (by omega) hv λc _=>Ev.br (λ_=>Ev.gA (hj _ (by omega))) (λ_=>hj _ (by omega)))) (λ_=>Ev.el (by omega) hv λc _=>Ev.br (λ_=>Ev.gA (hj _ (by omega))) (λ_=>hj _ (by omega)))
 exact Ev.el (by omega) hv λb _=>Ev.br (λ_=>Ev.br (λ_=>Ev.ok (.inr ⟨h1,hv⟩)) (λ_=>hj2 _ trivial)) (λ_=>hj2 _ trivial)
theorem xn (hm:cq m) (h0:0<=a) (h1:a<s.length) (hs:s.length<=65536):Ev (λi=>po (m i) s a) (λr=>0<=r/\a+r<=s.length) gP:=by
 unfold po;refine Ev.iter hm (λ(v:Int)=>1<=v/\v<=5) (λv=>(5 - v).toNat) (by omega) ?_;intro v hv next hn;refine Ev.aO (λh4=>Ev.gA (Ev.aO (λh5=>?_) (λ_=>Ev.ok ⟨by decide,by omega⟩))) (λ_=>Ev.ok ⟨by decide,by omega⟩);have hl:=lr (c:=s) (i:=a) (j:=a+v) h0 (by omega) h5;refine Ev.gA (Ev.gd ⟨h0,by omega,h5⟩ (Ev.gA (Ev.gA (Ev.aN (mE hm (by simp;omega)) λy _=>?_))));exact Ev.br (λ_=>Ev.br (λ_=>Ev.ok ⟨by omega,h5⟩) (λ_=>Ev.gA (hn _ (by omega) (by omega)))) (λ_=>Ev.gA (hn _ (by omega) (by omega)))
theorem vT (hm:cq m) (hs:s.length<=65536):Ev (λi=>n9 (m i) s) (λ_=>True) gP:=by
 unfold n9;refine Ev.iter hm (λ(x:List P×ByS×Int×Int)=>0<=x.2.2.1/\x.2.2.1<=x.2.2.2/\x.2.2.2<=s.length/\(x.1.length:Int)<=2*x.2.2.2/\(x.2.1.length:Int)<=8*x.2.2.2) (λx=>(s.length - x.2.2.2).toNat) (by simp) ?_;rintro ⟨l,t,f,v⟩ ⟨h1,h2,h3,h4,h5⟩ next hn;dsimp only at h1 h2 h3 h4 h5 hn ⊢;refine Ev.aO (λhv=>?_) (λ_=>Ev.br (λ_=>Ev.gA (Ev.ok trivial)) (λ_=>Ev.ok trivial));refine Ev.jn (λw=>w=true->v+1<s.length) (λw hw=>?_) (λj hj=>?_)
 ·refine Ev.br (λh6=>?_) (λ_=>?_)
  ·have:=hw h6;refine Ev.gA (Ev.aN (vd hm (by omega) (by omega)) λy hy=>Ev.aO (λ_=>Ev.ok trivial) (λh7=>?_));have hy:=hy.resolve_left h7;refine Ev.jn (λw=>(w.length:Int)<=2*v+1) (λw hw=>?_) (λj hj=>Ev.br (λ_=>Ev.gA (hj _ (by simp;omega))) (λ_=>hj _ (by omega)));refine Ev.gA (Ev.gd ⟨by omega,by omega,by omega⟩ (Ev.gA (Ev.gA (Ev.gA (Ev.gA (hn _ ?_ (by dsimp only;omega)))))));exact ⟨by dsimp only;omega,by dsimp only;omega,by dsimp only;omega,by simp;omega,by simp;omega⟩
  refine Ev.aN (xn hm (by omega) hv hs) λy hy=>Ev.bw (λ_=>Ev.ok trivial) (λh7=>?_);have hl:=lr (c:=s) (i:=v) (j:=v+y) (by omega) (by omega) hy.2;refine Ev.gA (Ev.gd ⟨by omega,by omega,by omega⟩ (Ev.gA (Ev.gA (Ev.aN (mE hm (by simp;omega)) λz hz=>?_))));simp at hz;refine Ev.gA (Ev.gA (hn _ ?_ (by dsimp only;omega)));exact ⟨by dsimp only;omega,by dsimp only;omega,by dsimp only;omega,by dsimp only;omega,by simp;omega⟩
 exact Ev.el (by omega) hv λb _=>Ev.br (λ_=>Ev.gA (Ev.aO (λh6=>Ev.gA (Ev.el (by omega) h6 λc _=>hj _ λ_=>h6)) (λ_=>hj _ (by simp)))) (λ_=>hj _ (by simp))
theorem wrap_u8 {x:Int} (h0:0<=x) (h1:x<256):IntKind.wrap .u8 x=x:=by
 have:IntKind.wrap .u8 x=x % 256:=by simp[IntKind.wrap,IntKind.bits,IntKind.signed]
 rw[this];omega
def Jz (l:ByS):Prop:=∃ b,b∈l/\b≠48
theorem rI (hm:cq m) {n k:Int} (h0:0<=n) (h1:n<=1000000000000000000) (hk:k<=10):Ev (λi=>mb (m i) n k) (λr=>r.length<=1000000000000000010/\(0<n->Jz r)) gP:=by
 unfold mb;refine Ev.iter hm (λ(x:Int×ByS)=>0<=x.1/\x.1<=n/\x.1+x.2.length<=1000000000000000010/\(0<n->0<x.1\/Jz x.2)) (λx=>x.1.toNat+(10 - x.2.length)) ⟨h0,Int.le_refl _,by simp;omega,λh=>.inl h⟩ ?_;rintro ⟨v,l⟩ ⟨h2,h3,h4,h5⟩ next hn;dsimp only at h2 h3 h4 h5 hn ⊢;have e1:Int.tdiv v 10=v / 10:=Int.tdiv_eq_ediv_of_nonneg h2;have e2:Int.tmod v 10=v % 10:=Int.tmod_eq_emod_of_nonneg h2;rw[e1,e2,wrap_u8 (x:=48+v % 10) (by omega) (by omega),wrap_i64 (x:=v / 10) (by omega) (by omega)];refine Ev.jn (λ_=>0<v\/(l.length:Int)<k) (λw hw=>?_) (λj hj=>Ev.aO (λh=>hj () (.inl h)) (λh=>Ev.aO (λh3=>hj () (.inr h3)) (λh3=>Ev.ok ⟨by omega,λq=>(h5 q).resolve_left h⟩)));refine Ev.gd (by decide) (Ev.gA (Ev.gd (by simp[mh,gR];omega) (Ev.gd (by decide) (hn _ ⟨by dsimp only;omega,by dsimp only;omega,?_,λq=>?_⟩ ?_))))
 ·simp[gR];omega
 ·dsimp only;rcases h5 q with w|⟨b,w1,w2⟩
  ·by_cases g:0<v / 10
   ·exact .inl g
   refine .inr ⟨UInt8.ofNat (48+v % 10).toNat,by simp[gR],λe=>?_⟩;have:=congrArg UInt8.toNat e;rw[UInt8.toNat_ofNat'] at this;have e48:(48:UInt8).toNat=48:=rfl;omega
  exact .inr ⟨b,by simp[w1],w2⟩
 simp[gR];omega
theorem um {u:Int} (h0:-1000000000000000<=u) (h1:u<=1000000000000000):Ev (λ_=>qu u) (λr=>0<=r/\r<=1000000000000000/\(r=u\/r = -u)) gP:=by
 unfold qu;refine Ev.aO (λh=>Ev.ok ?_) (λh=>Ev.ok (by omega));rw[wrap_i64 (by omega) (by omega)];omega
theorem xY (hm:cq m) {u:Int}:Ev (λi=>rh (m i) u) (λ_=>True) gP:=by
 unfold rh;refine Ev.aN (Q:=λr=>r=true->-1000000000000000<=u/\u<=1000000000000000) ?_ λy hy=>Ev.bt (λ_=>Ev.ok trivial) (λh=>?_)
 ·unfold ni;exact Ev.aO (λh=>Ev.ok λq=>⟨h,of_decide_eq_true q⟩) (λ_=>Ev.ok λq=>by cases q)
 obtain ⟨h0,h1⟩:=hy h;refine Ev.aN (um h0 h1) λy hy=>Ev.gd (by decide) ?_;have e1:Int.tdiv y 10000=y / 10000:=Int.tdiv_eq_ediv_of_nonneg hy.1;rw[e1,wrap_i64 (x:=y / 10000) (by omega) (by omega)];refine Ev.aN (rI hm (by omega) (by omega) (by decide)) λz hz=>?_;refine Ev.jn (λw=>w.length<=2000000000000000010) (λw hw=>?_) (λj hj=>Ev.br (λ_=>Ev.gd (by simp[mh];omega) (hj _ (by simp;omega))) (λ_=>hj _ (by omega)));refine Ev.gd (by decide) (Ev.bw (λ_=>Ev.ok trivial) (λhne=>?_));refine Ev.aN (um h0 h1) λy2 hy2=>Ev.gd (by decide) ?_;have e2:Int.tmod y2 10000=y2 % 10000:=Int.tmod_eq_emod_of_nonneg hy2.1;rw[e2];refine Ev.aN (rI hm (by omega) (by omega) (by decide)) λd hd=>?_;have hpos:0<y2 % 10000:=by
  rcases hy2.2.2 with q|q
  ·subst q;rw[e2] at hne;omega
  have:u = -y2:=by omega
  rw[this,Int.neg_tmod,e2] at hne;omega
 refine Ev.iter hm (λ(x:ByS)=>x.length<=1000000000000000010/\Jz x) (λx=>x.length) ⟨hd.1,hd.2 hpos⟩ ?_;rintro x ⟨hx1,b,hx2,hx3⟩ next hn;have hl:0<x.length:=List.length_pos_of_mem hx2;refine Ev.gA (Ev.eA λc hc=>Ev.br (λh48=>?_) (λ_=>?_))
 ·refine Ev.gA (Ev.gd ⟨by omega,by omega⟩ (hn _ ⟨by have:=uf (c:=x) (j:=(x.length:Int) - 1);omega,b,?_,hx3⟩ ?_))
  ·rw[kI 48 48 rfl,beq_iff_eq] at h48;subst h48;obtain ⟨i,hi⟩:=List.mem_iff_getElem?.1 hx2;have:=(List.getElem?_eq_some_iff.1 hi).1;have hne2:i≠((x.length:Int) - 1).toNat:=λe=>by rw[e,hc] at hi;cases hi;exact hx3 rfl
   refine List.mem_iff_getElem?.2 ⟨i,?_⟩;simp only[jU];rw[List.getElem?_take,if_pos (by omega)];exact hi
  have:=uV (c:=x) (j:=(x.length:Int) - 1) (by omega) (by omega);omega
 exact Ev.gd (by simp[mh];omega) (Ev.gd (by simp[mh];omega) (Ev.ok trivial))
theorem xo (hm:cq m):Ev (λi=>ph (m i) s) (λ_=>True) gP:=by
 unfold ph;refine Ev.aO (λ_=>Ev.ok trivial) (λhl=>?_);have pw:∀ i k:Nat,i<=k->(10:Int) ^ i<=((10 ^ k:Nat):Int):=λi k h=>by
  have h2:=Nat.pow_le_pow_right (n:=10) (by decide) h;have e:(10:Int) ^ i=((10 ^ i:Nat):Int):=by simp
  rw[e];omega
 refine Ev.iter hm (λ(x:Int×Int×Int)=>0<=x.2.2/\x.2.2<=s.length/\ -1<=x.2.1/\x.2.1<=x.2.2/\0<=x.1/\x.1<10 ^ x.2.2.toNat) (λx=>(s.length - x.2.2).toNat) (by simp) ?_;rintro ⟨n,p,v⟩ ⟨h1,h2,h3,h4,h5,h6⟩ next hn;dsimp only at h1 h2 h3 h4 h5 h6 hn ⊢;have pv:(10:Int) ^ v.toNat<=1000000000000000000:=pw v.toNat 18 (by omega);refine Ev.aO (λhv=>?_) (λ_=>?_)
 ·have pv:(10:Int) ^ v.toNat<=100000000000000000:=pw v.toNat 17 (by omega);have p1:(10:Int) ^ (v+1).toNat=10 ^ v.toNat*10:=by rw[show (v+1).toNat=v.toNat+1 by omega,Int.pow_succ]
  refine Ev.jn (λ(w:Int×Int)=>-1<=w.2/\w.2<=v+1/\0<=w.1/\w.1<10 ^ (v+1).toNat) (λw hw=>Ev.gA (hn _ ⟨by dsimp only;omega,by dsimp only;omega,hw.1,hw.2.1,hw.2.2.1,hw.2.2.2⟩ (by dsimp only;omega))) (λj hj=>?_);refine Ev.jn (λ_=>True) (λ_ _=>?_) (λj2 hj2=>?_)
  ·refine Ev.jn (λw=>w=true->∀ b:UInt8,s[v.toNat]?=some b->48<=(b.toNat:Int)/\(b.toNat:Int)<=57) (λw hw=>?_) (λj3 hj3=>?_)
   ·refine Ev.br (λhwt=>Ev.el h1 hv λb hb=>?_) (λ_=>Ev.br (λ_=>Ev.ok trivial) (λ_=>Ev.el h1 hv λb hb=>Ev.br (λ_=>Ev.ok trivial) (λ_=>hj _ ⟨h3,by dsimp only;omega,h5,by dsimp only;omega⟩)));have hb:=hw hwt b hb;rw[wrap_i64 (x:=n*10) (by omega) (by omega),wrap_u8 (x:=(b.toNat:Int) - 48) (by omega) (by omega),wrap_i64 (x:=(b.toNat:Int) - 48) (by omega) (by omega)];exact Ev.gA (Ev.br (λ_=>Ev.gA (hj _ ⟨by dsimp only;omega,by dsimp only;omega,by dsimp only;omega,by dsimp only;omega⟩)) (λ_=>hj _ ⟨h3,by dsimp only;omega,by dsimp only;omega,by dsimp only;omega⟩))
   refine Ev.el h1 hv λb hb=>Ev.aO (λh48=>Ev.el h1 hv λc hc=>hj3 _ λq b2 hb2=>?_) (λ_=>hj3 _ (by simp));rw[hb] at hc hb2;cases hc;cases hb2;have:=of_decide_eq_true q;omega
  exact Ev.el h1 hv λb hb=>Ev.br (λ_=>Ev.br (λ_=>hj _ ⟨by dsimp only;omega,by dsimp only;omega,h5,by dsimp only;omega⟩) (λ_=>hj2 _ trivial)) (λ_=>hj2 _ trivial)
 refine Ev.jn (λw=>0<=w) (λw hw=>?_) (λj hj=>Ev.aO (λ_=>hj _ (by decide)) (λ_=>hj _ (by omega)));refine Ev.iter hm (λ(x:Int×Int)=>0<=x.1/\x.1<=1000000000000000000/\0<=x.2) (λx=>(4 - x.2).toNat) ⟨h5,by dsimp only;omega,hw⟩ ?_;rintro ⟨x,k⟩ ⟨g1,g2,g3⟩ next hn;dsimp only at g1 g2 g3 hn ⊢;refine Ev.aO (λhk=>Ev.aO (λ_=>Ev.ok trivial) (λhx=>?_)) (λ_=>?_)
 ·rw[wrap_i64 (x:=x*10) (by omega) (by omega)];exact Ev.gA (hn _ ⟨by dsimp only;omega,by dsimp only;omega,by dsimp only;omega⟩ (by dsimp only;omega))
 refine Ev.jn (λ_=>True) (λz _=>?_) (λj _=>?_)
 ·refine Ev.aN (Q:=λ_=>True) ?_ λy _=>Ev.br (λ_=>Ev.ok trivial) (λ_=>Ev.aN (xY hm) λy _=>Ev.br (λ_=>Ev.ok trivial) (λ_=>Ev.ok trivial));unfold ni;exact Ev.br (λ_=>Ev.ok trivial) (λ_=>Ev.ok trivial)
 rename_i hj;exact Ev.aO (λh=>Ev.el (by decide) (by omega) λb _=>Ev.br (λ_=>hj _ trivial) (λ_=>hj _ trivial)) (λ_=>hj _ trivial)
end
structure Rt (s:ByS) (l:List aA) (a:Int):Prop where
 len:(l.length:Int)<=a
 ok:∀ t,t∈l->Hb s t/\t.Kind≠0
 I6:∀ (i:Nat) t u,l[i]?=some t->l[i+1]?=some u->BQ s t.End u.Pos
 fst:∀ t,l[0]?=some t->BQ s 0 t.Pos
 JL:∀ t,l.getLast?=some t->BQ s t.End a
 nil:l=[]->BQ s 0 a
theorem BQ.ext {s:ByS} {x a:Int} (h:BQ s x a) (h0:0<=a) {b:UInt8} (hb:s[a.toNat]?=some b) (hB:Fl b):BQ s x (a+1):=by
 refine ⟨by have:=h.1;omega,λi y h1 h2 hy=>?_⟩;by_cases q:(i:Int)<a
 ·exact h.2 i y h1 q hy
 rw[show i=a.toNat by omega,hb] at hy;cases hy;exact hB
theorem Rt.sp {s:ByS} {l:List aA} {a:Int} (h:Rt s l a) (h0:0<=a) {b:UInt8} (hb:s[a.toNat]?=some b) (hB:Fl b):Rt s l (a+1):=
 ⟨by have:=h.len;omega,h.ok,h.I6,h.fst,λt ht=>(h.JL t ht).ext h0 hb hB,λq=>(h.nil q).ext h0 hb hB⟩
theorem Rt.snoc {s:ByS} {l:List aA} {a:Int} (h:Rt s l a) {t:aA} (_:Hb s t) (hp:t.Pos=a):(∀ (i:Nat) x u,(l++[t])[i]?=some x->(l++[t])[i+1]?=some u->BQ s x.End u.Pos)/\∀ x,(l++[t])[0]?=some x->BQ s 0 x.Pos:=by
 refine ⟨λi x u hx hu=>?_,λx hx=>?_⟩
 ·have hi:=(List.getElem?_eq_some_iff.1 hu).1;simp at hi;rw[List.getElem?_append_left (by omega)] at hx;by_cases q:i+1<l.length
  ·rw[List.getElem?_append_left q] at hu;exact h.I6 i x u hx hu
  have e:i+1=l.length:=by omega
  rw[e,List.getElem?_concat_length] at hu;cases hu;rw[hp];exact h.JL x (by rw[List.getLast?_eq_getElem?,<- hx];congr 1;omega)
 cases l with
 | nil=>simp at hx;subst hx;rw[hp];exact h.nil rfl
 | cons y l=>exact h.fst x (by simpa using hx)
theorem Rt.add {s:ByS} {l:List aA} {a:Int} (h:Rt s l a) {t:aA} (ht:Hb s t) (hp:t.Pos=a) (hk:t.Kind≠0) (he:a<t.End):Rt s (l++[t]) t.End:=by
 obtain ⟨g1,g2⟩:=h.snoc ht hp;refine ⟨by have:=h.len;simp;omega,λu hu=>?_,g1,g2,λu hu=>?_,λq=>by simp at q⟩
 ·rcases List.mem_append.1 hu with q|q
  ·exact h.ok u q
  simp at q;subst q;exact ⟨ht,hk⟩
 simp at hu;subst hu;exact ⟨Int.le_refl _,λi x h1 h2=>by omega⟩
structure RT (s:ByS) (T:List aA):Prop where
 len:(T.length:Int)<=s.length+1
 ok:∀ (i:Nat) t,T[i]?=some t->Hb s t/\(t.Kind=0↔i+1=T.length)
 I6:∀ (i:Nat) t u,T[i]?=some t->T[i+1]?=some u->BQ s t.End u.Pos
 fst:∀ t,T[0]?=some t->BQ s 0 t.Pos
 ne:0<T.length
theorem Rt.fin {s:ByS} {l:List aA} (h:Rt s l s.length):RT s (l++[aA.mk 0 [] s.length s.length]):=by
 have hp:Hb s (aA.mk 0 [] s.length s.length):=⟨by simp,by simp,by simp,λq=>by simp at q,λ_=>rfl,λq=>absurd rfl q⟩;obtain ⟨g1,g2⟩:=h.snoc hp rfl;refine ⟨by have:=h.len;simp;omega,λi t ht=>?_,g1,g2,by simp⟩;by_cases q:i<l.length
 ·rw[List.getElem?_append_left q] at ht;have:=h.ok t (List.mem_of_getElem? ht);exact ⟨this.1,λe=>absurd e this.2,λe=>by simp at e;omega⟩
 have hi:=(List.getElem?_eq_some_iff.1 ht).1;simp at hi;have e:i=l.length:=by omega
 subst e;rw[List.getElem?_concat_length] at ht;cases ht;exact ⟨hp,λ_=>by simp,λ_=>rfl⟩
section
variable {m:Nat->Nat} {s:ByS} {a:Int}
theorem xZ (hm:cq m) (h0:0<=a) {e:Int} (h1:a<e) (h2:e<s.length) (hs:s.length<=65536) {c:Bool}:Ev (λi=>rk (m i) s a e c) (λr=>r.1.Pos=a/\r.1.End=e+1/\(r.1.Kind=3\/r.1.Kind=4)) gP:=by
 unfold rk;have l1:=lr (c:=s) (i:=a+1) (j:=e) (by omega) (by omega) (by omega);have l2:=lr (c:=s) (i:=a) (j:=e+1) (by omega) (by omega) (by omega);refine Ev.br (λ_=>?_) (λ_=>?_)
 ·exact Ev.gA (Ev.gd ⟨by omega,by omega,by omega⟩ (Ev.aN (vT hm (by omega)) λy _=>Ev.gA (Ev.gd ⟨by omega,by omega,by omega⟩ (Ev.gA (Ev.ok ⟨rfl,rfl,.inr rfl⟩)))))
 exact Ev.gA (Ev.gd ⟨by omega,by omega,by omega⟩ (Ev.aN (mE hm (by omega)) λy _=>Ev.gA (Ev.ok ⟨rfl,rfl,.inl rfl⟩)))
theorem xp:∀ o∈ops,(∀ b,o[0]?=some b->pW 0 b=true->o=[95,124,95]\/o=[95])/\0<o.length:=by
 have:∀ o∈ops,(match o with|b::_=>!(pW 0 b)||o==[95,124,95]||o==[95]|[]=>false)=true:=by decide
 intro o ho;have:=this o ho;cases o with
 | nil=>cases this
 | cons c o=>
  refine ⟨λb hb hp=>?_,by simp⟩
  simp at hb;subst hb
  simp only[hp] at this
  simpa using this
theorem Ai {u:ByS} (h:tR u≠[]):tR u∈ops/\(tR u).isPrefixOf u=true:=by
 unfold tR at h ⊢;cases e:ops.find? λo=>o.isPrefixOf u with
 | none=>rw[e] at h;exact absurd rfl h
 | some o=>exact ⟨List.mem_of_find?_eq_some e,List.find?_some (p:=λo:ByS=>o.isPrefixOf u) e⟩
theorem EO {u:ByS} (h:0<gp u):(tR u).length<=gp u:=by
 by_cases q:tR u=[]
 ·rw[q];simp
 obtain ⟨h1,h2⟩:=Ai q;rw[qL] at h2;have hl:=(xp _ h1).2;have hr:=A6 (u:=u);obtain ⟨b,hb,hp⟩:=oH (p:=pW) (u:=u) (i:=0) (j:=0) (by omega);have e0:=h2 0 hl;rw[hb] at e0;rcases (xp _ h1).1 b e0.symm hp with e|e
 ·exfalso;rw[e] at h2;have u0:=h2 0 (by decide);have u1:=h2 1 (by decide);have hr1:run pW 0 u=1:=run_eq (λj hj=>⟨b,by rw[show j=0 by omega];exact hb,by rw[show j=0 by omega];exact hp⟩) λc hc=>by
   rw[u1] at hc;cases hc;decide
  unfold gp at h;rw[if_pos ⟨hr1,.inr u0⟩] at h;omega
 rw[e];exact h
theorem Ic {c:UInt8} {w:ByS} (h1:[47,47].isPrefixOf (c::w)=false) (h2:gp (c::w)=0) (h3:pE c=false) (h4:c≠34) (h5:tR (c::w)≠[]):ext (c::w)=some (5,(tR (c::w)).length):=by
 unfold ext;simp[h1,h2,h3,h4,h5]
theorem EP {u:ByS} (h1:[47,47].isPrefixOf u=false) (h2:0<gp u):ext u=some (1,gp u):=by
 unfold ext;rw[if_neg (by simp[h1]),if_pos h2]
theorem CP {c:UInt8} {w:ByS} (h:pW 0 c=false):gp (c::w)=0:=by
 unfold gp;simp[run,h]
theorem Gd {c:UInt8} {w:ByS} (h3:pE c=true):ext (c::w)=some (2,ue (c::w)):=by
 have hL:uU c=false:=by
  rw[Ad,decide_eq_true_eq] at h3;rw[BT];simp;omega
 have h35:c≠35:=by rintro rfl;revert h3;decide
 have h47:c≠47:=by rintro rfl;revert h3;decide
 have h2:gp (c::w)=0:=CP (by simp[pW,hL,h35]);unfold ext;simp[h2,h3,List.isPrefixOf,h47.symm]
theorem Ge {w:ByS} {x:Nat×Bool} (h:fw w=some x):ext (34::w)=some (3,x.1+1):=by
 have h2:gp (34::w)=0:=CP (by decide);unfold ext;simp[h2,h,List.isPrefixOf,show pE 34=false by decide]
theorem x7 (hm:cq m) (h0:0<=a) {b:UInt8} (hb:s[a.toNat]?=some b) (hB:¬ Fl b) (hs:s.length<=65536) :
  Ev (λi=>rl (m i) s a) (λr=>r.2=true->r.1.Pos=a/\r.1.Kind≠0/\a<r.1.End/\Hb s r.1) gP:=by
 have hlt:=(List.getElem?_eq_some_iff.1 hb).1
 have hu:s.drop a.toNat=b::s.drop (a+1).toNat:=by
  rw[List.getElem?_eq_some_iff] at hb
  obtain ⟨q1,q2⟩:=hb
  rw[List.drop_eq_getElem_cons q1,q2,show (a+1).toNat=a.toNat+1 by omega]
 have hul:(s.drop a.toNat).length=s.length - a.toNat:=by simp
 have P:∀ {t:aA} {n:Nat} {k:Nat},t.Pos=a->t.End=a+n->0<n->a+n<=s.length->t.Kind≠0->t.Kind≠7->ext (s.drop a.toNat)=some (k,n)->(k=6->t.Kind=6)->t.Pos=a/\t.Kind≠0/\a<t.End/\Hb s t:=by
  intro t n k e1 e2 e3 e4 e5 e6 e7 e8
  refine ⟨e1,e5,by omega,by omega,by omega,by omega,λq=>absurd q e6,λq=>absurd q e5,λ_ _=>⟨k,?_,e8,by omega⟩⟩
  rw[e1,e7,show (t.End - a).toNat=n by omega]
 unfold rl
 refine Ev.yA h0 hb (Ev.br (λh34=>?_) (λh34=>?_))
 ·rw[kI 34 34 rfl,beq_iff_eq] at h34
  subst h34
  refine Ev.aN (Ah hm h0 (by omega) hs) λy hy=>Ev.aO (λ_=>Ev.ok λq=>by cases q) (λhy0=>?_)
  cases e:fw (s.drop (a+1).toNat) with
  | none=>rw[hy] at hy0;simp[th,e] at hy0
  | some x=>
   have hx:=BO e
   have hx0:=zJ e
   simp at hx
   have hy1:y.1=a+x.1:=by rw[hy];simp[th,e];omega
   refine Ev.aN (xZ hm h0 (by omega) (by omega) hs) λz hz=>Ev.ok λ_=>?_
   have hex:=Ge e
   rw[<- hu] at hex
   exact P (n:=x.1+1) hz.1 (by rw[hz.2.1];omega) (by omega) (by omega) (by rcases hz.2.2 with q|q<;>(dsimp only;omega)) (by rcases hz.2.2 with q|q<;>(dsimp only;omega)) hex (λq=>by omega)
 rw[kI 34 34 rfl,beq_eq_false_iff_ne] at h34
 have hpre:(sub s a (a+2)==[47,47])=[47,47].isPrefixOf (s.drop a.toNat):=Ag (o:=[47,47]) h0
 refine Ev.jn (λv=>v=[47,47].isPrefixOf (s.drop a.toNat)) (λv hv=>?_) (λj hj=>?_)
 ·refine Ev.br (λhvt=>?_) (λhvf=>?_)
  ·rw[hvt] at hv
   have hrl:=wg (s:=s) (a:=a) (p:=pC) (i:=0) h0 (by omega)
   refine Ev.jn (λw=>w=a+run pC 0 (s.drop a.toNat)) (λw hw=>?_) (λj hj=>?_)
   ·have hr2:2<=run pC 0 (s.drop a.toNat):=by
     have h2:=hv.symm
     rw[qL] at h2
     have g0:=h2 0 (by decide)
     have g1:=h2 1 (by decide)
     rcases Nat.lt_or_ge (run pC 0 (s.drop a.toNat)) 2 with q|q
     ·exfalso
      have q2:run pC 0 (s.drop a.toNat)=0\/run pC 0 (s.drop a.toNat)=1:=by omega
      rcases q2 with q2|q2
      ·have:=lU (p:=pC) (u:=s.drop a.toNat) (i:=0) (b:=47) (by rw[q2];exact g0)
       simp[pC] at this
      ·have:=lU (p:=pC) (u:=s.drop a.toNat) (i:=0) (b:=47) (by rw[q2];exact g1)
       simp[pC] at this
     ·exact q
    subst hw
    refine Ev.gA (Ev.gd ⟨by omega,by omega,hrl⟩ (Ev.ok λ_=>?_))
    exact P (k:=6) rfl rfl (by omega) hrl (by dsimp only;omega) (by dsimp only;omega) (by unfold ext;rw[if_pos hv.symm]) (λ_=>rfl)
   ·refine Ev.iter hm (λv=>a<=v/\v<=a+run pC 0 (s.drop a.toNat)) (λv=>(s.length - v).toNat) ⟨by omega,by omega⟩ ?_
    intro v hv next hn
    refine Ev.aO (λhlt2=>Ev.el (by omega) hlt2 λx hx=>?_) (λhge=>hj _ (by omega))
    rw[<- xk h0 hv.1] at hx
    refine Ev.br (λhne=>Ev.gA (hn _ ?_ (by omega))) (λheq=>hj _ ?_)
    ·by_cases q:v<a+run pC 0 (s.drop a.toNat)
     ·omega
     ·exfalso
      have e:v - a=run pC 0 (s.drop a.toNat):=by omega
      rw[e] at hx
      have:=lU (p:=pC) (u:=s.drop a.toNat) (i:=0) (b:=x) (by simpa using hx)
      have hx10:x=10:=by simpa[pC] using this
      subst hx10
      revert hne;decide
    ·by_cases q:v<a+run pC 0 (s.drop a.toNat)
     ·exfalso
      obtain ⟨c,h1,h2⟩:=oH (p:=pC) (u:=s.drop a.toNat) (i:=0) (j:=(v - a).toNat) (by omega)
      rw[hx] at h1;cases h1
      rw[bne,kI 10 10 rfl] at heq
      unfold pC at h2
      rw[bne,heq] at h2;cases h2
     ·omega
  ·rw[hvf] at hv
   refine Ev.aN (vR hm h0 (by omega) hs) λy hy=>Ev.aO (λhya=>?_) (λhya=>?_)
   ·have hn0:xl (s.drop a.toNat)≠0:=by omega
    have hnl:=Gc (u:=s.drop a.toNat)
    have hr0:run pD 0 (s.drop a.toNat)≠0:=λq=>hn0 (by unfold xl;rw[if_pos q])
    have hd:pE b=true:=by
     obtain ⟨c,h1,h2⟩:=oH (p:=pD) (u:=s.drop a.toNat) (i:=0) (j:=0) (by omega)
     rw[hu] at h1;simp at h1;subst h1;exact h2
    have hnum:xl (s.drop a.toNat)=ue (s.drop a.toNat):=by unfold xl;rw[if_neg hr0]
    have hex:=Gd (w:=s.drop (a+1).toNat) hd
    rw[<- hu,<- hnum] at hex
    have hl:=lr (c:=s) (i:=a) (j:=y) h0 (by omega) (by omega)
    refine Ev.gd ⟨h0,by omega,by omega⟩ (Ev.aN (xo hm) λz _=>Ev.gd ⟨h0,by omega,by omega⟩ (Ev.ok λ_=>?_))
    exact P rfl hy (by omega) (by omega) (by dsimp only;omega) (by dsimp only;omega) hex (λq=>by omega)
   ·refine Ev.aN (uk hm h0 (by omega) hs) λop hop=>Ev.aN (xm hm h0 (by omega) hs) λw hw=>?_
    have hwl:gp (s.drop a.toNat)<=s.length - a.toNat:=by
     have:=A6 (u:=s.drop a.toNat)
     have:=tJ (p:=pW) (u:=s.drop a.toNat) (i:=0)
     omega
    have hD:pE b=false:=by
     cases e:pE b with
     | false=>rfl
     | true=>
      exfalso
      have hr:0<run pD 0 (s.drop a.toNat):=by rw[hu];simp[run,pD,e];omega
      have:xl (s.drop a.toNat)≠0:=by
       unfold xl ue
       rw[if_neg (by omega)]
       split<;>omega
      omega
    refine Ev.jn (λv=>v=decide (0<gp (s.drop a.toNat))) (λv hv2=>?_) (λj hj=>?_)
    ·refine Ev.br (λh=>?_) (λh=>?_)
     ·rw[h] at hv2
      have hw0:=of_decide_eq_true hv2.symm
      refine Ev.gd ⟨h0,by omega,by omega⟩ (Ev.ok λ_=>?_)
      exact P rfl hw hw0 (by omega) (by dsimp only;omega) (by dsimp only;omega) (EP hv.symm hw0) (λq=>by omega)
     ·rw[h] at hv2
      have hw0:gp (s.drop a.toNat)=0:=by have:=of_decide_eq_false hv2.symm;omega
      have hol:(op.length:Int)<=3:=by
       rw[hop]
       by_cases q:tR (s.drop a.toNat)=[]
       ·rw[q];simp
       ·have:∀ o∈ops,o.length<=3:=by decide
        have:=this _ (Ai q).1;omega
      refine Ev.gA (Ev.ok λhne=>?_)
      have hne:tR (s.drop a.toNat)≠[]:=by rw[<- hop];simpa using hne
      obtain ⟨o1,o2⟩:=Ai hne
      have o3:=(xp _ o1).2
      have o4:(tR (s.drop a.toNat)).length<=(s.drop a.toNat).length:=by
       rw[iX,beq_iff_eq] at o2
       have:=congrArg List.length o2
       simp at this ⊢;omega
      have hex:ext (s.drop a.toNat)=some (5,(tR (s.drop a.toNat)).length):=by
       rw[hu] at hv hw0 hne ⊢
       exact Ic hv.symm hw0 hD h34 hne
      refine P rfl (by dsimp only;rw[hop]) o3 (by omega) (by dsimp only;omega) (by dsimp only;omega) hex (λq=>by omega)
    ·have:=EO (u:=s.drop a.toNat)
     refine Ev.aO (λh=>Ev.gA (hj _ ?_)) (λh=>hj _ ?_)
     ·rw[hop]
      have h5:0<gp (s.drop a.toNat):=by omega
      rw[decide_eq_true h5,decide_eq_true (by have:=this h5;omega)]
     ·rw[decide_eq_false (by omega)]
 ·refine Ev.gA (Ev.aO (λh=>Ev.gA (Ev.gd ⟨h0,by omega,by omega⟩ (hj _ ?_))) (λh=>hj _ ?_))
  ·exact hpre
  ·symm
   cases e:[47,47].isPrefixOf (s.drop a.toNat) with
   | false=>rfl
   | true=>
    rw[iX,beq_iff_eq] at e
    have:=congrArg List.length e
    simp at this;omega
theorem x8 (hm:cq m) {t:aA}:Ev (λi=>re (m i) t) (λ_=>True) gP:=by
 unfold re;refine Ev.jn (λ_=>True) (λv _=>Ev.br (λ_=>Ev.ok trivial) (λ_=>Ev.br (λ_=>?_) (λ_=>Ev.ok trivial))) (λj hj=>Ev.br (λ_=>hj _ trivial) (λ_=>Ev.br (λ_=>hj _ trivial) (λ_=>Ev.br (λ_=>hj _ trivial) (λ_=>hj _ trivial))));refine Ev.iter hm (λ(v:Int)=>0<=v/\v<=7) (λv=>(7 - v).toNat) (by omega) ?_;intro v hv next hn;refine Ev.aO (λh=>Ev.el hv.1 h λx _=>Ev.br (λ_=>Ev.ok trivial) (λ_=>?_)) (λ_=>Ev.ok trivial);simp at h;exact Ev.gA (hn _ (by omega) (by omega))
theorem x9 (hm:cq m) {l:List aA} (ha:a<=s.length) (hs:s.length<=65536) (h:Rt s l a):Ev (λi=>rf (m i) s l a) (λ_=>True) gP:=by
 unfold rf;have hl:=h.len;refine Ev.gA ?_;refine Ev.iter hm (λ(v:Int)=>-1<=v/\v<l.length) (λv=>(v+1).toNat) (by omega) ?_;intro v hv next hn;refine Ev.aO (λh1=>Ev.el h1 hv.2 λt ht=>Ev.br (λ_=>Ev.ok trivial) (λ_=>Ev.el h1 hv.2 λ_ _=>Ev.br (λ_=>Ev.gA (hn _ (by omega) (by omega))) (λ_=>Ev.el h1 hv.2 λu hu=>?_))) (λ_=>Ev.ok trivial);have hp:=(h.ok u (List.mem_of_getElem? hu)).1;have p0:=hp.p0;have pe:=hp.pe;have pn:=hp.en;refine Ev.iter hm (λ(w:Int)=>0<=w/\w<=s.length) (λw=>(s.length - w).toNat) (by omega) ?_;intro w hw next2 hn2;exact Ev.aO (λh2=>Ev.el hw.1 (by omega) λb _=>Ev.br (λ_=>Ev.ok trivial) (λ_=>Ev.gA (hn2 _ (by omega) (by omega)))) (λ_=>Ev.el h1 hv.2 λx _=>Ev.aN (x8 hm) λy _=>Ev.ok trivial)
theorem ya (hm:cq m) (hs:s.length<=60000):Ev (λi=>rm (m i) s) (λr=>r.2.Errno=0->RT s r.1) gP:=by
 unfold rm;refine Ev.aO (λh=>by omega) (λ_=>?_);refine Ev.iter hm (λ(x:List aA×Int)=>0<=x.2/\x.2<=s.length/\Rt s x.1 x.2) (λx=>(s.length - x.2).toNat) ⟨by simp,by simp,⟨by simp,by simp,by simp,by simp,by simp,λ_=>⟨by simp,λi x h1 h2=>by dsimp only at h2;omega⟩⟩⟩ ?_;rintro ⟨l,v⟩ ⟨h1,h2,h3⟩ next hn;dsimp only at h1 h2 h3 hn ⊢;have hl:=h3.len;refine Ev.aO (λhv=>Ev.el h1 hv λb hb=>?_) (λhv=>Ev.gA (Ev.ok λ_=>?_))
 ·have sp:Fl b->Ev (λi=>D.gd (cr (v+1)) (next i (l,v+1))) (λr=>r.2.Errno=0->RT s r.1) gP:=λhB=>Ev.gA (hn _ ⟨by dsimp only;omega,by dsimp only;omega,h3.sp h1 hb hB⟩ (by dsimp only;omega));refine Ev.br (λh=>sp (.inl ?_)) (λn1=>Ev.yA h1 hb (Ev.br (λh=>sp (.inr (.inl ?_))) (λn2=>Ev.yA h1 hb (Ev.br (λh=>sp (.inr (.inr (.inl ?_)))) (λn3=>Ev.yA h1 hb (Ev.br (λh=>?_) (λn4=>?_)))))))
  ·rwa [kI 32 32 rfl,beq_iff_eq] at h
  ·rwa [kI 9 9 rfl,beq_iff_eq] at h
  ·rwa [kI 13 13 rfl,beq_iff_eq] at h
  ·rw[kI 10 10 rfl,beq_iff_eq] at h;refine Ev.aN (x9 hm h2 (by omega) h3) λy _=>Ev.br (λ_=>?_) (λ_=>sp (.inr (.inr (.inr h))));refine Ev.gA (Ev.gA (Ev.gA (hn _ ⟨by dsimp only;omega,by dsimp only;omega,?_⟩ (by dsimp only;omega))));refine Rt.add (t:=aA.mk 7 [10] v (v+1)) h3 ⟨h1,by dsimp only;omega,by dsimp only;omega,λ_=>⟨by rw[hb,h],rfl⟩,λq=>by simp at q,λ_ q=>absurd rfl q⟩ rfl (by dsimp only;omega) (by dsimp only;omega)
  rw[kI 32 32 rfl,beq_eq_false_iff_ne] at n1;rw[kI 9 9 rfl,beq_eq_false_iff_ne] at n2;rw[kI 13 13 rfl,beq_eq_false_iff_ne] at n3;rw[kI 10 10 rfl,beq_eq_false_iff_ne] at n4;refine Ev.aN (x7 hm h1 hb (by unfold Fl;simp[n1,n2,n3,n4]) (by omega)) λy hy=>Ev.bt (λ_=>Ev.ok λq=>by simp at q) (λhy2=>?_);obtain ⟨e1,e2,e3,e4⟩:=hy hy2;have:=e4.en;exact Ev.gA (hn _ ⟨by dsimp only;omega,by dsimp only;omega,h3.add e4 e1 e2 e3⟩ (by dsimp only;omega))
 have e:v=s.length:=by omega
 rw[e] at h3;exact h3.fin
end
def RS {α β:Type} (V:α->β->Prop) (x:D α) (y:D β):Prop:=∀ a,x=.ok a->y=.stuck\/∃ b,y=.ok b/\V a b
section
variable {α β γ δ X Y:Type} {V V':α->β->Prop} {W:γ->δ->Prop}
theorem RS.ok {a:α} {b:β} (h:V a b):RS V (.ok a) (.ok b):=λ_ e=>by cases e;exact .inr ⟨b,rfl,h⟩
theorem RS.mf {p:rA} {y:D β}:RS V (.mf p) y:=λ_ e=>by cases e
theorem RS.nil {y:D β}:RS V .stuck y:=λ_ e=>by cases e
theorem RS.yb {x:D α}:RS V x .stuck:=λ_ _=>.inl rfl
theorem RS.bind {x:D γ} {y:D δ} {f:γ->D α} {g:δ->D β} (h:RS W x y) (hk:∀ a b,W a b->RS V (f a) (g b)):RS V (D.bind x f) (D.bind y g):=by
 intro a e;cases x with
 | stuck=>cases e
 | mf p=>cases e
 | ok c=>
  rcases h c rfl with q|⟨d,q,hd⟩
  ·subst q;exact .inl rfl
  ·subst q;exact hk c d hd a e
theorem RS.same {x:D γ} {f:γ->D α} {g:γ->D β} (hk:∀ a,x=.ok a->RS V (f a) (g a)):RS V (D.bind x f) (D.bind x g):=
 RS.bind (W:=λa b=>x=.ok a/\b=a) (λa e=>.inr ⟨a,e,e,rfl⟩) λa b h=>by rw[h.2];exact hk a h.1
theorem RS.br {b c:Bool} {x x':D α} {y y':D β} (h:c=b) (ht:b=true->RS V x y) (hf:b=false->RS V x' y'):RS V (D.br b x x') (D.br c y y'):=by
 subst h;cases c with
 | true=>exact ht rfl
 | false=>exact hf rfl
theorem RS.JR {b:Bool} {x x':D α} {y:D β} (ht:b=true->RS V x y) (hf:b=false->RS V x' y):RS V (D.br b x x') y:=by
 cases b with
 | true=>exact ht rfl
 | false=>exact hf rfl
theorem RS.JM {b:Bool} {x:D α} {y y':D β} (ht:b=true->RS V x y) (hf:b=false->RS V x y'):RS V x (D.br b y y'):=by
 cases b with
 | true=>exact ht rfl
 | false=>exact hf rfl
theorem RS.gd {p p':Prop} [Decidable p] [Decidable p'] {x:D α} {y:D β} (h:p->p'->RS V x y):RS V (D.gd p x) (D.gd p' y):=by
 unfold D.gd;split
 ·split
  ·exact h ‹_› ‹_›
  exact RS.yb
 exact RS.nil
theorem RS.el {l:List X} {l':List Y} {j j':Int} {K:X->D α} {K':Y->D β} (h:∀ x y,0<=j->0<=j'->l[j.toNat]?=some x->l'[j'.toNat]?=some y->RS V (K x) (K' y)):RS V (D.el l j K) (D.el l' j' K'):=by
 unfold D.el;split
 ·split
  ·split
   ·split
    ·exact h _ _ ‹_› ‹_› ‹_› ‹_›
    exact RS.yb
   exact RS.yb
  exact RS.nil
 exact RS.nil
theorem RS.some {o:Option X} {o':Option Y} {K:X->D α} {K':Y->D β} (h:∀ x y,o=some x->o'=some y->RS V (K x) (K' y)):RS V (D.some? o K) (D.some? o' K'):=by
 cases o with
 | none=>exact RS.nil
 | some x=>cases o' with
  | none=>exact RS.yb
  | some y=>exact h x y rfl rfl
theorem RS.jn {j:X->D α} {j':Y->D β} {p:(X->D α)->D α} {p':(Y->D β)->D β} (J:X->Y->Prop) (hj:∀ v w,J v w->RS V (j v) (j' w))
 (hp:∀ (j:X->D α) (j':Y->D β),(∀ v w,J v w->RS V (j v) (j' w))->RS V (p j) (p' j')):RS V (D.jn j p) (D.jn j' p'):=hp j j' hj
theorem RS.iter {body:(X->D α)->X->D α} {body':(Y->D β)->Y->D β} (I:X->Y->Prop)
  (hb:∀ x y,I x y->∀ (next:X->D α) (next':Y->D β),(∀ v w,I v w->RS V (next v) (next' w))->RS V (body next x) (body' next' y)) :
  ∀ (n n':Nat) {x:X} {y:Y},I x y->RS V (D.iter body n x) (D.iter body' n' y)
 | 0,_,_,_,_=>RS.nil
 | _+1,0,_,_,_=>RS.yb
 | n+1,n'+1,x,y,h=>hb x y h _ _ λ_ _ q=>RS.iter I hb n n' q
theorem RS.yB {x:D α} {y:D β} {H:rA->D α} {H':rA->D β} (h:RS V x y) (hr:∀ p a,x=.mf p->H p=.ok a->(∀ b,y=.ok b->V a b)/\∀ q,y=.mf q->H' q=.stuck\/∃ b,H' q=.ok b/\V a b):RS V (oF x H) (oF y H'):=by
 intro a e;cases x with
 | stuck=>cases e
 | ok c=>
  cases e
  rcases h a rfl with q|⟨d,q,hd⟩
  ·subst q;exact .inl rfl
  ·subst q;exact .inr ⟨d,rfl,hd⟩
 | mf p=>
  obtain ⟨h1,h2⟩:=hr p a rfl e
  cases y with
  | stuck=>exact .inl rfl
  | ok b=>exact .inr ⟨b,rfl,h1 b rfl⟩
  | mf q=>exact h2 q rfl
end
def LR {X Y:Type} (R:X->Y->Prop) (l:List X) (l':List Y):Prop:=l.length=l'.length/\∀ (i:Nat) x y,l[i]?=some x->l'[i]?=some y->R x y
section
variable {X Y:Type} {R:X->Y->Prop}
theorem LR.nil:LR R [] []:=⟨rfl,λi x y h=>by simp at h⟩
theorem LR.cons {l:List X} {l':List Y} {x:X} {y:Y} (h:R x y) (h':LR R l l'):LR R (x::l) (y::l'):=by
 refine ⟨by simp[h'.1],λi a b ha hb=>?_⟩;cases i with
 | zero=>simp at ha hb;subst ha hb;exact h
 | succ i=>simp at ha hb;exact h'.2 i a b ha hb
theorem LR.one {x:X} {y:Y} (h:R x y):LR R [x] [y]:=.cons h .nil
theorem LR.two {x a:X} {y b:Y} (h:R x y) (h':R a b):LR R [x,a] [y,b]:=.cons h (.one h')
theorem LR.snoc {l:List X} {l':List Y} {x:X} {y:Y} (h':LR R l l') (h:R x y):LR R (l++[x]) (l'++[y]):=by
 refine ⟨by simp[h'.1],λi a b ha hb=>?_⟩;have hl:=h'.1;by_cases q:i<l.length
 ·rw[List.getElem?_append_left q] at ha;rw[List.getElem?_append_left (by omega)] at hb;exact h'.2 i a b ha hb
 rw[List.getElem?_append_right (by omega)] at ha;rw[List.getElem?_append_right (by omega)] at hb;have:=(List.getElem?_eq_some_iff.1 ha).1;simp at this;rw[show i - l.length=0 by omega] at ha;rw[show i - l'.length=0 by omega] at hb;simp at ha hb;subst ha hb;exact h
theorem LR.set {l:List X} {l':List Y} {x:X} {y:Y} (h':LR R l l') (h:R x y) (j:Nat):LR R (l.set j x) (l'.set j y):=by
 refine ⟨by simp[h'.1],λi a b ha hb=>?_⟩;have hl:=h'.1;by_cases q:j=i
 ·subst q;have h1:=(List.getElem?_eq_some_iff.1 ha).1;have h2:=(List.getElem?_eq_some_iff.1 hb).1;simp at h1 h2;rw[List.getElem?_set_self h1] at ha;rw[List.getElem?_set_self h2] at hb;cases ha;cases hb;exact h
 rw[List.getElem?_set_ne q] at ha hb;exact h'.2 i a b ha hb
end
def Tk {α:Type} (x:D α) (a:α):Prop:=x=.stuck\/x=.ok a
section
variable {α β X:Type} {a:α}
theorem Tk.of {b:α} (h:b=a):Tk (.ok b) a:=.inr (by rw[h])
theorem Tk.lV {x:D β} {c:β} {f:β->D α} (h:x=.ok c) (hf:Tk (f c) a):Tk (D.bind x f) a:=by subst h;exact hf
theorem Tk.br {b:Bool} {x y:D α} (ht:b=true->Tk x a) (hf:b=false->Tk y a):Tk (D.br b x y) a:=by
 cases b with
 | true=>exact ht rfl
 | false=>exact hf rfl
theorem Tk.gd {p:Prop} [Decidable p] {x:D α} (h:p->Tk x a):Tk (D.gd p x) a:=by
 unfold D.gd;split
 ·exact h ‹_›
 exact .inl rfl
theorem Tk.el {l:List X} {v:Int} {K:X->D α} (h:∀ x,0<=v->l[v.toNat]?=some x->Tk (K x) a):Tk (D.el l v K) a:=by
 unfold D.el;split
 ·split
  ·exact h _ ‹_› ‹_›
  exact .inl rfl
 exact .inl rfl
theorem Tk.jn {j:X->D α} {p:(X->D α)->D α} (J:X->Prop) (hj:∀ v,J v->Tk (j v) a) (hp:∀ j:X->D α,(∀ v,J v->Tk (j v) a)->Tk (p j) a):Tk (D.jn j p) a:=hp j hj
theorem Tk.iter {body:(X->D α)->X->D α} (I:X->Prop) (hb:∀ x,I x->∀ next:X->D α,(∀ y,I y->Tk (next y) a)->Tk (body next x) a):∀ (n:Nat) {x:X},I x->Tk (D.iter body n x) a
 | 0,_,_=>.inl rfl
 | n+1,x,h=>hb x h _ λ_ q=>Tk.iter I hb n q
theorem Tk.rs {γ δ:Type} {V:γ->δ->Prop} {x:D α} {y:D β} {c:α} {d:β} {f:α->D γ} {g:β->D δ} (h:Tk x c) (h':Tk y d) (hk:RS V (f c) (g d)):RS V (D.bind x f) (D.bind y g):=by
 rcases h with rfl|rfl
 ·exact RS.nil
 rcases h' with rfl|rfl
 ·exact RS.yb
 exact hk
end
theorem yD (b:UInt8):kf (b.toNat:Int)=.ok (uU b):=by
 rw[BT];unfold kf;by_cases h1:(97:Int)<=b.toNat<;>by_cases h2:(b.toNat:Int)<=122<;>by_cases h3:(65:Int)<=b.toNat<;>by_cases h4:(b.toNat:Int)<=90<;>by_cases h5:(b.toNat:Int)=95<;>first|omega|simp[h1,h2,h3,h4,h5,D.br]
theorem sQ (b:UInt8):iG (b.toNat:Int)=.ok (pE b):=by
 rw[Ad];unfold iG;by_cases h1:(48:Int)<=b.toNat<;>simp[h1,D.br]
section
variable {α:Type} {m:Nat} {u:ByS}
theorem CR {F:UInt8->D Bool} {p:UInt8->Bool} (hF:∀ b,F b=.ok (p b)) {j:Int->D α} {a:α} {v0:Int} (h0:0<=v0) (hv:v0<=u.length) (hj:Tk (j (v0+run (λ_=>p) 0 (u.drop v0.toNat))) a) :
  Tk (D.iter (λnext (v:Int)=>D.br (decide (v<(List.length u:Int))) (D.el u v λb=>D.bind (F b) λy=>D.br y (D.gd (cr (v+1)) (next (v+1))) (j v)) (j v)) m v0) a:=by
 have hl:=wg (p:=λ_=>p) (i:=0) h0 hv
 refine Tk.iter (λv=>v0<=v/\v<=v0+run (λ_=>p) 0 (u.drop v0.toNat)) (λv hv2 next hn=>?_) m ⟨by omega,by omega⟩
 have hat:∀ x,u[v.toNat]?=some x->p x=decide (v<v0+run (λ_=>p) 0 (u.drop v0.toNat)):=by
  intro x hx
  rw[<- xk h0 hv2.1] at hx
  by_cases q:v<v0+run (λ_=>p) 0 (u.drop v0.toNat)
  ·obtain ⟨b,h1,h2⟩:=oH (p:=λ_=>p) (u:=u.drop v0.toNat) (i:=0) (j:=(v - v0).toNat) (by omega)
   rw[hx] at h1;cases h1
   rw[h2,decide_eq_true q]
  ·have e:v - v0=run (λ_=>p) 0 (u.drop v0.toNat):=by omega
   rw[e] at hx
   have:=lU (p:=λ_=>p) (u:=u.drop v0.toNat) (i:=0) (b:=x) (by simpa using hx)
   rw[this,decide_eq_false q]
 refine Tk.br (λhlt=>Tk.el λx _ hx=>Tk.lV (hF x) (Tk.br (λh=>Tk.gd λ_=>hn _ ?_) (λh=>?_))) (λhge=>?_)
 ·rw[hat x hx] at h
  have:=of_decide_eq_true h
  omega
 ·rw[hat x hx] at h
  have:=of_decide_eq_false h
  rw[show v=v0+run (λ_=>p) 0 (u.drop v0.toNat) by omega];exact hj
 ·have:=of_decide_eq_false hge
  rw[show v=v0+run (λ_=>p) 0 (u.drop v0.toNat) by omega];exact hj
theorem yE:Tk (kW m u) (ue u:Int):=by
 unfold kW;have hl:=tJ (p:=pD) (i:=0) (u:=u);refine Tk.jn (λv=>v=run pD 0 u) (λv hv=>?_) (λj hj=>CR (p:=pE) sQ (Int.le_refl 0) (by omega) (hj _ (by simp[EN])));subst hv;refine Tk.jn (λz=>z=oI u (run pD 0 u)) (λz hz=>?_) (λj hj=>Tk.gd λ_=>?_)
 ·refine Tk.br (λh=>Tk.gd λ_=>?_) (λh=>?_)
  ·rw[h] at hz;have hd:=hz.symm;unfold oI at hd;simp only[Bool.and_eq_true,beq_iff_eq] at hd;have:=(List.getElem?_eq_some_iff.1 hd.1).1;refine CR (p:=pE) sQ (by omega) (by omega) (Tk.of ?_);unfold ue;rw[if_pos hz.symm,show ((run pD 0 u:Int)+1).toNat=run pD 0 u+1 by omega,EN];omega
  rw[h] at hz;refine Tk.of ?_;unfold ue;rw[if_neg (by rw[<- hz];simp)]
 have g0:((run pD 0 u:Int)).toNat=run pD 0 u:=by omega
 have g1:((run pD 0 u:Int)+1).toNat=run pD 0 u+1:=by omega
 refine Tk.br (λh2=>Tk.el λx _ hx=>Tk.br (λh3=>Tk.gd λ_=>Tk.el λy _ hy=>Tk.lV (sQ y) (hj _ ?_)) (λh3=>hj _ ?_)) (λh2=>hj _ ?_)
 ·rw[g0] at hx;rw[g1] at hy;rw[kI 46 46 rfl] at h3;unfold oI;rw[hx,hy,beq_iff_eq.1 h3];simp
 ·rw[g0] at hx;rw[kI 46 46 rfl] at h3;unfold oI;rw[hx];have:(some x==some (46:UInt8))=false:=h3;rw[this];rfl
 have:=of_decide_eq_false h2;unfold oI;rw[List.getElem?_eq_none (l:=u) (i:=run pD 0 u+1) (by omega)];simp
theorem CS:Tk (mC m u) (gp u:Int):=by
 unfold mC;refine Tk.jn (λv=>v=run pW 0 u) (λv hv=>?_) (λj hj=>?_)
 ·subst hv;refine Tk.br (λh=>?_) (λh=>Tk.of ?_)
  ·have h1:run pW 0 u=1:=by have:=beq_iff_eq.1 h;omega
   obtain ⟨b,hb,hp⟩:=oH (p:=pW) (u:=u) (i:=0) (j:=0) (by omega);have hp:(uU b||b==35)=true:=by simpa[pW] using hp
   refine Tk.el λx _ hx=>Tk.lV (yD x) (Tk.br (λh2=>Tk.of ?_) (λh2=>Tk.el λy _ hy=>Tk.br (λh3=>Tk.of ?_) (λh3=>Tk.of ?_)))
   ·have hx:u[0]?=some x:=hx;rw[hb] at hx;cases hx;simp at h2;rw[h2] at hp;have h35:b=35:=by simpa using hp
    unfold gp;rw[if_pos ⟨h1,.inl (by rw[hb,h35])⟩];rfl
   ·have hy:u[0]?=some y:=hy;rw[kI 95 95 rfl,beq_iff_eq] at h3;unfold gp;rw[if_pos ⟨h1,.inr (by rw[hy,h3])⟩];rfl
   have hx:u[0]?=some x:=hx;have hy:u[0]?=some y:=hy;rw[hx] at hy;cases hy;rw[kI 95 95 rfl,beq_eq_false_iff_ne] at h3;simp at h2;have h35:x≠35:=by rintro rfl;revert h2;decide
   unfold gp;rw[if_neg (by rw[hx];simp[h35,h3])]
  have h1:run pW 0 u≠1:=by have:=beq_eq_false_iff_ne.1 h;omega
  unfold gp;rw[if_neg (λq=>h1 q.1)]
 have hl:=tJ (p:=pW) (i:=0) (u:=u);refine Tk.iter (λ(v:Int)=>0<=v/\v<=run pW 0 u) (λv hv next hn=>?_) m ⟨by omega,by omega⟩;have hat:∀ x,u[v.toNat]?=some x->(uU x||(decide (0<v)&&pE x)||(decide (v=0)&&x==35))=decide (v<run pW 0 u):=by
  intro x hx;have e:(uU x||(decide (0<v)&&pE x)||(decide (v=0)&&x==35))=pW v.toNat x:=by
   unfold pW;rw[show decide (0<v)=decide (0<v.toNat) from decide_eq_decide.2 (by omega),show decide (v=0)=decide (v.toNat=0) from decide_eq_decide.2 (by omega)]
  rw[e];by_cases q:v<run pW 0 u
  ·obtain ⟨b,h1,h2⟩:=oH (p:=pW) (u:=u) (i:=0) (j:=v.toNat) (by omega);rw[hx] at h1;cases h1;rw[decide_eq_true q,<- h2];congr 1;omega
  have e:v.toNat=run pW 0 u:=by omega
  rw[e] at hx ⊢;have:=lU (p:=pW) (u:=u) (i:=0) (b:=x) hx;rw[decide_eq_false q,<- this];congr 1;omega
 have fin:¬ v<run pW 0 u->Tk (j v) (gp u:Int):=λq=>by rw[show v=run pW 0 u by omega];exact hj _ rfl
 refine Tk.jn (λ_=>v<run pW 0 u) (λ_ hq=>Tk.gd λ_=>hn _ (by omega)) (λj2 hj2=>?_);refine Tk.br (λhlt=>Tk.el λx _ hx=>Tk.lV (yD x) ?_) (λh=>fin (by have:=of_decide_eq_false h;omega));have hat:=hat x hx;refine Tk.br (λhL=>hj2 () (of_decide_eq_true (by rw[<- hat,hL];rfl))) (λhL=>?_);rw[hL,Bool.false_or] at hat;have h35:v=0->Tk (D.el u v λb=>D.br ((b.toNat:Int)==35) (j2 ()) (j v)) (gp u:Int):=λh0=>by
  refine Tk.el λy _ hy=>?_;rw[hx] at hy;cases hy;rw[kI 35 35 rfl];have hat:(x==35)=decide (v<run pW 0 u):=by simpa[h0] using hat
  refine Tk.br (λh=>hj2 () (of_decide_eq_true (by rw[<- hat,h]))) (λh=>fin (of_decide_eq_false (by rw[<- hat,h])))
 refine Tk.br (λh=>Tk.el λy _ hy=>Tk.lV (sQ y) ?_) (λh=>?_)
 ·rw[hx] at hy;cases hy;have hv0:=of_decide_eq_true h;have hv0:(0:Int)<v:=hv0;have hne:v≠0:=by omega
  have hat:pE x=decide (v<run pW 0 u):=by simpa[hv0,hne] using hat
  refine Tk.br (λh2=>hj2 () (of_decide_eq_true (by rw[<- hat,h2]))) (λh2=>?_);have e0:(v==0)=false:=by simp[hne]
  rw[e0];exact fin (of_decide_eq_false (by rw[<- hat,h2]))
 have hv0:¬ 0<v:=of_decide_eq_false h;have e:v=0:=by omega
 have e0:(v==0)=true:=by simp[e]
 rw[e0];exact h35 e
def rZ (u:ByS) (c:Bool) (i:Int):Int×Bool:=match fw (u.drop i.toNat) with|some x=>(i+x.1,c||x.2)|none=>(0,false)
theorem xq:Tk (kt m u) (rZ u false 1):=by
 unfold kt;refine Tk.iter (λ(v:Bool×Int)=>0<v.2/\rZ u v.1 v.2=rZ u false 1) (λv hv next hn=>?_) m ⟨by decide,rfl⟩;obtain ⟨c,v⟩:=v;obtain ⟨h1,h3⟩:=hv;dsimp only at h1 h3 ⊢;refine Tk.br (λh=>?_) (λh=>Tk.of ?_)
 ·refine Tk.jn (λ(w:Bool×Int)=>v<=w.2/\rZ u w.1 (w.2+1)=rZ u false 1) (λw hw=>Tk.gd λ_=>hn _ ⟨by dsimp only;omega,hw.2⟩) (λj hj=>?_);refine Tk.el λx _ hx=>?_;have hu:u.drop v.toNat=x::u.drop (v+1).toNat:=by
   have hx2:=hx;rw[List.getElem?_eq_some_iff] at hx2;obtain ⟨q1,q2⟩:=hx2;rw[List.drop_eq_getElem_cons q1,q2,show (v+1).toNat=v.toNat+1 by omega]
  rw[kI 34 34 rfl];refine Tk.br (λh4=>Tk.gd λ_=>Tk.of ?_) (λh4=>Tk.el λy _ hy=>?_)
  ·rw[beq_iff_eq] at h4;subst h4;rw[<- h3];unfold rZ;rw[hu,CM];simp
  rw[hx] at hy;cases hy;rw[kI 92 92 rfl];refine Tk.br (λh5=>?_) (λh5=>?_)
  ·rw[beq_iff_eq] at h5;subst h5;have hE:∀ d,u[(v+1).toNat]?=some d->rZ u (c||d==40) (v+1+1)=rZ u false 1:=by
    intro d hd;have hd2:=hd;rw[List.getElem?_eq_some_iff] at hd2;obtain ⟨q1,q2⟩:=hd2;rw[<- h3];unfold rZ;rw[hu,List.drop_eq_getElem_cons q1,q2,CN,show (v+1+1).toNat=(v+1).toNat+1 by omega];cases fw (u.drop ((v+1).toNat+1)) with
    | none=>rfl
    | some y=>simp[Bool.or_comm,Bool.or_left_comm];omega
   have hN:¬ v+1<u.length->∀ c,rZ u c (v+1+1)=rZ u false 1:=by
    intro q c';rw[<- h3];unfold rZ;rw[hu,List.drop_eq_nil_of_le (by omega),List.drop_eq_nil_of_le (by omega)];simp[fw]
   refine Tk.br (λhc=>Tk.gd λ_=>hj _ ⟨by dsimp only;omega,?_⟩) (λhc=>Tk.gd λ_=>Tk.br (λh6=>Tk.gd λ_=>Tk.el λd _ hd=>Tk.gd λ_=>hj _ ⟨by dsimp only;omega,?_⟩) (λh6=>Tk.gd λ_=>hj _ ⟨by dsimp only;omega,hN (of_decide_eq_false h6) _⟩))
   ·dsimp only;by_cases q:v+1<u.length
    ·obtain ⟨d,hd⟩:∃ d,u[(v+1).toNat]?=some d:=⟨_,List.getElem?_eq_getElem (by omega)⟩;have:=hE d hd;rw[hc] at this;simpa using this
    exact hN q _
   have:=hE d hd;rw[hc] at this;dsimp only;rw[kI 40 40 rfl];simpa using this
  refine hj _ ⟨by dsimp only;omega,?_⟩;dsimp only;rw[<- h3];unfold rZ;rw[hu,CO (by simpa using h4) (by simpa using h5)];cases fw (u.drop (v+1).toNat) with
  | none=>rfl
  | some y=>simp;omega
 have:=of_decide_eq_false h;rw[<- h3];unfold rZ;rw[List.drop_eq_nil_of_le (by omega)];simp[fw]
def I7:List (List ByS):=[[[95,124,95],[46,46,46]],[[61,61],[33,61],[60,61],[62,61],[61,126],[33,126],[38,38],[124,124]],[[95],[40],[41],[91],[93],[123],[125],[58],[44],[46],[63],[33],[42],[38],[124],[61],[60],[62],[43],[45],[47],[37]]]
theorem vB:Tk (jI m u) (tR u):=by
 unfold jI;have hN:∀ {g:List ByS} {i:Nat},i<3->I7[i]?=some g->(∀ (k:Nat) h,k<i->I7[k]?=some h->h.find? (λo=>o.isPrefixOf u)=none)->∀ o,g.find? (λo=>o.isPrefixOf u)=some o->o=tR u:=by
  intro g i hi hg hb o ho;have key:tR u=(ops.find? λo=>o.isPrefixOf u).getD []:=rfl;have e:ops=[[95,124,95],[46,46,46]]++([[61,61],[33,61],[60,61],[62,61],[61,126],[33,126],[38,38],[124,124]]++[[95],[40],[41],[91],[93],[123],[125],[58],[44],[46],[63],[33],[42],[38],[124],[61],[60],[62],[43],[45],[47],[37]]):=rfl;rw[key,e,List.find?_append,List.find?_append];rcases (show i=0\/i=1\/i=2 by omega) with q|q|q<;>subst q<;>(simp only[I7,List.getElem?_cons_zero,List.getElem?_cons_succ] at hg;cases hg)
  ·rw[ho];rfl
  ·rw[hb 0 _ (by decide) rfl,ho];rfl
  rw[hb 0 _ (by decide) rfl,hb 1 _ (by decide) rfl,ho];rfl
 refine Tk.iter (λ(v:Int)=>0<=v/\v<=3/\∀ (k:Nat) h,(k:Int)<v->I7[k]?=some h->h.find? (λo=>o.isPrefixOf u)=none) (λv hv next hn=>?_) m ⟨by decide,by decide,λk h q=>by omega⟩;obtain ⟨h1,h2,h3⟩:=hv;refine Tk.br (λh=>Tk.el λp _ hp=>?_) (λh=>Tk.of ?_)
 ·have hlt:v<3:=of_decide_eq_true h;obtain ⟨g,hg,hs⟩:∃ g,I7[v.toNat]?=some g/\pF [32] (p.length+1) p=g:=by
   rcases (show v.toNat=0\/v.toNat=1\/v.toNat=2 by omega) with q|q|q<;>rw[q] at hp ⊢<;>cases hp<;>exact ⟨_,rfl,rfl⟩
  have hsp:strings_Split p [32]=.stuck\/strings_Split p [32]=.ok g:=by
   unfold strings_Split D.gd;split
   ·right;rw[<- hs]
   exact .inl rfl
  rcases hsp with q|q
  ·rw[q];exact .inl rfl
  rw[q];refine Tk.iter (λ(w:Int)=>0<=w/\∀ (i:Nat) o,(i:Int)<w->g[i]?=some o->o.isPrefixOf u=false) (λw hw next2 hn2=>?_) m ⟨by decide,λi o q=>by omega⟩;refine Tk.br (λ_=>Tk.el λo _ ho=>Tk.lV (rr u o) (Tk.br (λh5=>Tk.of ?_) (λh5=>Tk.gd λ_=>hn2 _ ⟨by omega,λi o2 hi ho2=>?_⟩))) (λh4=>Tk.gd λ_=>hn _ ⟨by omega,by omega,λk h hk hh=>?_⟩)
  ·exact hN (i:=v.toNat) (by omega) hg (λk h hk hh=>h3 k h (by omega) hh) o (CL (v:=w.toNat) (λi p hi hp2=>hw.2 i p (by omega) hp2) ho h5)
  ·by_cases q:(i:Int)<w
   ·exact hw.2 i o2 q ho2
   rw[show i=w.toNat by omega,ho] at ho2;cases ho2;exact h5
  by_cases q:(k:Int)<v
  ·exact h3 k h q hh
  rw[show k=v.toNat by omega,hg] at hh;cases hh;rw[List.find?_eq_none];intro o ho;obtain ⟨i,hi⟩:=List.mem_iff_getElem?.1 ho;have hil:=(List.getElem?_eq_some_iff.1 hi).1;have h4:=of_decide_eq_false h4;rw[hw.2 i o (by omega) hi];simp
 have hge:¬ v<3:=of_decide_eq_false h;have e:ops=[[95,124,95],[46,46,46]]++([[61,61],[33,61],[60,61],[62,61],[61,126],[33,126],[38,38],[124,124]]++[[95],[40],[41],[91],[93],[123],[125],[58],[44],[46],[63],[33],[42],[38],[124],[61],[60],[62],[43],[45],[47],[37]]):=rfl;unfold tR;rw[e,List.find?_append,List.find?_append,h3 0 _ (by omega) rfl,h3 1 _ (by omega) rfl,h3 2 _ (by omega) rfl];rfl
end
structure PC (s:ByS) (T:List aA) (b:Int):Prop where
 X:Bs s T
 b0:0<=b
 bs:b+s.length<=65536
def PP (c:Int):rA->Prop:=λp=>∃ v:Int,p=⟨86,[.sc (.int .i64 v)]⟩/\0<=v/\v<=c
abbrev bR:=H.mk
section
variable {s:ByS} {T:List aA} {b:Int}
theorem PC.len (h:PC s T b):(T.length:Int)<=s.length+1:=by
 obtain ⟨l,rfl,h1⟩:=h.X.is;have:=h1.len;simp;omega
theorem PC.pos (h:PC s T b):1<=T.length:=by
 obtain ⟨l,rfl,h1⟩:=h.X.is;simp
theorem PC.lJ (h:PC s T b):(T.length:Int)<=65537:=by
 have:=h.len;have:=h.bs;have:=h.b0;omega
theorem PC.tok (h:PC s T b) {i:Nat} {t:aA} (ht:T[i]?=some t):0<=t.Pos/\t.Pos<=t.End/\t.End<=s.length/\t.Text.length<=65536/\(t.Kind=4->(t.Text.length:Int)+2<=t.End - t.Pos)/\(t.Kind≠0->i+1<T.length/\t.Pos<t.End):=by
 obtain ⟨l,rfl,h1⟩:=h.X.is;rcases Nat.lt_or_ge i l.length with q|q
 ·rw[List.getElem?_append_left q] at ht;have:=h1.ok t (List.mem_of_getElem? ht);exact ⟨this.p0,by have:=this.pe;omega,this.e,this.tl,this.ip,λ_=>⟨by simp;omega,this.pe⟩⟩
 rw[List.getElem?_append_right q] at ht;have hi:i - l.length=0:=by
  have:=(List.getElem?_eq_some_iff.1 ht).1;simp at this;omega
 rw[hi] at ht;simp at ht;subst ht;exact ⟨by simp,by simp,by simp,by simp,λq=>by simp at q,λq=>absurd rfl q⟩
theorem PC.next (h:PC s T b) {a:Int} (h0:0<=a) {t:aA} (ht:T[a.toNat]?=some t) (hk:t.Kind≠0):a+1<T.length:=by
 have:=((h.tok ht).2.2.2.2.2 hk).1;omega
theorem PC.sorted (h:PC s T b) {i j:Nat} (hij:i<j) {t u:aA} (ht:T[i]?=some t) (hu:T[j]?=some u):t.End<=u.Pos:=by
 obtain ⟨l,rfl,h1⟩:=h.X.is;have hj:=(List.getElem?_eq_some_iff.1 hu).1;simp at hj;have hi:i<l.length:=by omega
 rw[List.getElem?_append_left hi] at ht;rcases Nat.lt_or_ge j l.length with q|q
 ·rw[List.getElem?_append_left q] at hu;obtain ⟨hi',e1⟩:=List.getElem?_eq_some_iff.1 ht;obtain ⟨hj',e2⟩:=List.getElem?_eq_some_iff.1 hu;rw[<- e1,<- e2];exact List.pairwise_iff_getElem.1 h1.sorted i j hi' hj' hij
 rw[List.getElem?_append_right q] at hu;have hi:j - l.length=0:=by omega
 rw[hi] at hu;simp at hu;subst hu;exact (h1.ok t (List.mem_of_getElem? ht)).e
end
section
variable {s:ByS} {T:List aA} {b:Int} {α:Type} {Q:α->Prop} {R:rA->Prop} {m:Nat->Nat} {a:Int} {k:Bool} {q:Option U}
theorem jL {t:aA} {x:ByS} {K:Nat->Bool->D α} (hk:∀ r,(r=true->t.Kind=5/\t.Text=x)->(r=false->¬ (t.Kind=5/\t.Text=x))->Ev (λi=>K i r) Q R):Ev (λi=>D.bind (cB t x) (K i)) Q R:=by
 refine Ev.bind (Q:=λr=>(r=true->t.Kind=5/\t.Text=x)/\(r=false->¬ (t.Kind=5/\t.Text=x))) (R':=gP) ?_ (λ_ q=>q.elim) λr hr=>hk r hr.1 hr.2;unfold cB;refine Ev.bw (λh=>Ev.ok ⟨λq=>⟨h,by simpa using q⟩,λq=>by simp at q;exact λw=>q w.2⟩) (λh=>Ev.ok ⟨λq=>by simp at q,λ_ w=>h w.1⟩)
theorem od {t:aA} {x:ByS} {K:Nat->Bool->D α} (hk:∀ r,(r=true->t.Kind=1/\t.Text=x)->(r=false->¬ (t.Kind=1/\t.Text=x))->Ev (λi=>K i r) Q R):Ev (λi=>D.bind (eJ t x) (K i)) Q R:=by
 refine Ev.bind (Q:=λr=>(r=true->t.Kind=1/\t.Text=x)/\(r=false->¬ (t.Kind=1/\t.Text=x))) (R':=gP) ?_ (λ_ q=>q.elim) λr hr=>hk r hr.1 hr.2;unfold eJ;refine Ev.bw (λh=>Ev.ok ⟨λq=>⟨h,by simpa using q⟩,λq=>by simp at q;exact λw=>q w.2⟩) (λh=>Ev.ok ⟨λq=>by simp at q,λ_ w=>h w.1⟩)
theorem uo (hm:cq m) {t:aA} {x:ByS} (hx:x.length<=60000) {K:Nat->Bool->D α} (hk:∀ r,(r=true->t.Kind=5)->Ev (λi=>K i r) Q R):Ev (λi=>D.bind (gk (m i) t x) (K i)) Q R:=by
 refine Ev.bind (Q:=λr=>r=true->t.Kind=5) (R':=gP) ?_ (λ_ q=>q.elim) λr hr=>hk r hr;unfold gk;refine Ev.bw (λh=>?_) (λ_=>Ev.ok (by simp));refine Ev.aN (xe (by simp) (by omega)) λy hy=>Ev.aN (iV hm (by omega)) λz _=>Ev.ok λ_=>h
theorem xr (hm:cq m) {t:aA} {K:Nat->Bool->D α} (hk:∀ r,(r=true->t.Kind=3\/t.Kind=1)->Ev (λi=>K i r) Q R):Ev (λi=>D.bind (gg (m i) t) (K i)) Q R:=by
 refine Ev.bind (Q:=λr=>r=true->t.Kind=3\/t.Kind=1) (R':=gP) ?_ (λ_ q=>q.elim) λr hr=>hk r hr;unfold gg;refine Ev.bw (λh=>Ev.ok λ_=>.inl h) (λ_=>Ev.bw (λh=>?_) (λ_=>Ev.ok (by simp)));exact Ev.aN (gh hm) λz _=>Ev.ok λ_=>.inr h
theorem yc (hm:cq m) (hC:PC s T b) (h0:0<=a) (h1:a<T.length) :
  Ev (λi=>aF (m i) (bR s T a b k q)) (λr=>∃ a' t,r=(t,bR s T a' b k q)/\a<=a'/\a'<T.length/\T[a'.toNat]?=some t/\(k=true->t.Kind≠7)/\∀ u,T[a.toNat]?=some u->(k=true->u.Kind≠7)->a'=a) gP:=by
 unfold aF
 have hl:=hC.lJ
 refine Ev.jn (λv=>∃ a',v=bR s T a' b k q/\a<=a'/\a'<T.length/\(k=true->∀ t,T[a'.toNat]?=some t->t.Kind≠7)/\∀ u,T[a.toNat]?=some u->(k=true->u.Kind≠7)->a'=a) (λv hv=>?_) (λj hj=>?_)
 ·obtain ⟨a',rfl,h2,h3,h4,h5⟩:=hv
  exact Ev.el (by dsimp only;omega) (by dsimp only;omega) λt ht=>Ev.ok ⟨a',t,rfl,h2,h3,ht,λhk=>h4 hk t ht,h5⟩
 ·refine Ev.iter hm (λ(x:H)=>∃ a',x=bR s T a' b k q/\a<=a'/\a'<T.length/\∀ u,T[a.toNat]?=some u->(k=true->u.Kind≠7)->a'=a) (λx=>(T.length - x.at_).toNat) ⟨a,rfl,by omega,h1,λ_ _ _=>rfl⟩ ?_
  rintro x ⟨a',rfl,h2,h3,h5⟩ next hn
  dsimp only
  refine Ev.br (λhk0=>?_) (λhk=>hj _ ⟨a',rfl,h2,h3,(λh=>by rw[hk] at h;cases h),h5⟩)
  refine Ev.eA λt ht=>?_
  refine Ev.bw (λh7=>?_) (λh7=>hj _ ⟨a',rfl,h2,h3,λ_ u hu=>by rw[ht] at hu;cases hu;exact h7,h5⟩)
  have:=hC.next (by omega) ht (by omega)
  refine Ev.gA (hn _ ⟨a'+1,rfl,by omega,by omega,λu hu hk=>?_⟩ (by dsimp only;omega))
  have:=h5 u hu hk
  subst this
  rw[ht] at hu;cases hu
  exact absurd h7 (hk ‹k=true›)
theorem fa (hm:cq m) (hC:PC s T b) (h0:0<=a) (h1:a<T.length) {K:Nat->aA×H->D α}
  (hk:∀ a' t,a<=a'->a'<T.length->T[a'.toNat]?=some t->(k=true->t.Kind≠7)->(∀ u,T[a.toNat]?=some u->(k=true->u.Kind≠7)->a'=a)->Ev (λi=>K i (t,bR s T a' b k q)) Q R) :
  Ev (λi=>D.bind (aF (m i) (bR s T a b k q)) (K i)) Q R:=by
 refine Ev.fy (yc hm hC h0 h1) λr hr=>?_
 obtain ⟨a',t,rfl,h⟩:=hr
 exact hk a' t h.1 h.2.1 h.2.2.1 h.2.2.2.1 h.2.2.2.2
theorem k5 (hm:cq m) (hC:PC s T b) (h0:0<=a) (h1:a<T.length) {K:Nat->Int×H->D α}
  (hk:∀ a' t v,a<=a'->a'<T.length->T[a'.toNat]?=some t->(∀ u,T[a.toNat]?=some u->(k=true->u.Kind≠7)->a'=a)->v=b+t.Pos->0<=v->v<=b+s.length->Ev (λi=>K i (v,bR s T a' b k q)) Q R) :
  Ev (λi=>D.bind (bL (m i) (bR s T a b k q)) (K i)) Q R:=by
 refine Ev.bind (Q:=λr=>∃ a' t v,r=(v,bR s T a' b k q)/\a<=a'/\a'<T.length/\T[a'.toNat]?=some t/\(∀ u,T[a.toNat]?=some u->(k=true->u.Kind≠7)->a'=a)/\v=b+t.Pos/\0<=v/\v<=b+s.length) (R':=gP) ?_ (λ_ q=>q.elim) λr hr=>?_
 ·unfold bL
  refine fa hm hC h0 h1 λa' t h2 h3 h4 h5 h6=>?_
  have:=hC.tok h4
  have:=hC.b0
  have:=hC.bs
  exact Ev.gA (Ev.ok ⟨a',t,_,rfl,h2,h3,h4,h6,rfl,by dsimp only;omega,by dsimp only;omega⟩)
 ·obtain ⟨a',t,v,rfl,h2,h3,h4,h5,h6,h7,h8⟩:=hr
  exact hk a' t v h2 h3 h4 h5 h6 h7 h8
theorem wh {v:Int} {p:H} {c:Int} (h0:0<=v) (h1:v<=c) {K:Nat->H->D α}:Ev (λi=>D.bind (ed v p) (K i)) Q (PP c):=by
 unfold ed;exact Ev.mf ⟨v,rfl,h0,h1⟩
theorem ij (hm:cq m) (hC:PC s T b) (h0:0<=a) (h1:a<T.length) {c:Int} (hc:b+s.length<=c) {K:Nat->H->D α}:Ev (λi=>D.bind (bo (m i) (bR s T a b k q)) (K i)) Q (PP c):=by
 refine Ev.aN (Q:=λ_=>False) ?_ λr hr=>hr.elim;unfold bo;refine k5 hm hC h0 h1 λa' t v _ _ _ _ _ h2 h3=>?_;exact wh h2 (by omega)
theorem kX (hm:cq m) (hC:PC s T b) (h0:0<=a) (h1:a<T.length) {x:ByS} {K:Nat->Bool×H->D α}
  (ht:∀ a' t,a<a'->a'<T.length->T[(a' - 1).toNat]?=some t->t.Kind=5->t.Text=x->(∀ u,T[a.toNat]?=some u->(k=true->u.Kind≠7)->a'=a+1)->Ev (λi=>K i (true,bR s T a' b k q)) Q R)
  (hf:∀ a' t,a<=a'->a'<T.length->T[a'.toNat]?=some t->(k=true->t.Kind≠7)->¬ (t.Kind=5/\t.Text=x)->(∀ u,T[a.toNat]?=some u->(k=true->u.Kind≠7)->a'=a)->Ev (λi=>K i (false,bR s T a' b k q)) Q R) :
  Ev (λi=>D.bind (ch (m i) x (bR s T a b k q)) (K i)) Q R:=by
 refine Ev.bind (Q:=λr=>(∃ a' t,r=(true,bR s T a' b k q)/\a<a'/\a'<T.length/\T[(a' - 1).toNat]?=some t/\t.Kind=5/\t.Text=x/\(∀ u,T[a.toNat]?=some u->(k=true->u.Kind≠7)->a'=a+1))\/
  (∃ a' t,r=(false,bR s T a' b k q)/\a<=a'/\a'<T.length/\T[a'.toNat]?=some t/\(k=true->t.Kind≠7)/\¬ (t.Kind=5/\t.Text=x)/\(∀ u,T[a.toNat]?=some u->(k=true->u.Kind≠7)->a'=a))) (R':=gP) ?_ (λ_ q=>q.elim) λr hr=>?_
 ·unfold ch
  have:=hC.lJ
  refine fa hm hC h0 h1 λa' t h2 h3 h4 h5 h6=>?_
  dsimp only
  refine jL λr hr1 hr2=>?_
  refine Ev.bt (λh=>Ev.ok (.inr ⟨a',t,rfl,h2,h3,h4,h5,hr2 h,h6⟩)) (λh=>?_)
  obtain ⟨q1,q2⟩:=hr1 h
  have:=hC.next (by omega) h4 (by omega)
  exact Ev.gA (Ev.ok (.inl ⟨a'+1,t,rfl,by omega,by omega,by simpa using h4,q1,q2,λu hu hk=>by rw[h6 u hu hk]⟩))
 ·rcases hr with ⟨a',t,rfl,h2,h3,h4,h5,h6,h7⟩|⟨a',t,rfl,h2,h3,h4,h5,h6,h7⟩
  ·exact ht a' t h2 h3 h4 h5 h6 h7
  ·exact hf a' t h2 h3 h4 h5 h6 h7
theorem jM (hm:cq m) (hC:PC s T b) (h0:0<=a) (h1:a<T.length) {c:Int} (hc:b+s.length<=c) {x:ByS} {K:Nat->H->D α}
  (ht:∀ a' t,a<a'->a'<T.length->T[(a' - 1).toNat]?=some t->t.Kind=5->t.Text=x->(∀ u,T[a.toNat]?=some u->(k=true->u.Kind≠7)->a'=a+1)->Ev (λi=>K i (bR s T a' b k q)) Q (PP c)) :
  Ev (λi=>D.bind (bS (m i) x (bR s T a b k q)) (K i)) Q (PP c):=by
 refine Ev.aN (Q:=λr=>(∃ a' t,r=(bR s T a' b k q)/\a<a'/\a'<T.length/\T[(a' - 1).toNat]?=some t/\t.Kind=5/\t.Text=x/\(∀ u,T[a.toNat]?=some u->(k=true->u.Kind≠7)->a'=a+1))) ?_ λr hr=>?_
 ·unfold bS
  refine kX hm hC h0 h1 (λa' t h2 h3 h4 h5 h6 h7=>Ev.ok ⟨a',t,rfl,h2,h3,h4,h5,h6,h7⟩) (λa' t h2 h3 h4 h5 h6 h7=>?_)
  exact ij hm hC (by omega) (by omega) hc
 ·obtain ⟨a',t,rfl,h2,h3,h4,h5,h6,h7⟩:=hr
  exact ht a' t h2 h3 h4 h5 h6 h7
theorem nq (hm:cq m) (hC:PC s T b) (h0:0<=a) (h1:a<T.length) {c:Int} (hc:b+s.length<=c) {x:ByS} {K:Nat->H->D α}
  (ht:∀ a' t,a<=a'->a'+1<T.length->T[a'.toNat]?=some t->t.Kind=5->t.Text=x->Ev (λi=>K i (bR s T a' b k q)) Q (PP c)) :
  Ev (λi=>D.bind (cM (m i) x (bR s T a b k q)) (K i)) Q (PP c):=by
 refine Ev.aN (Q:=λr=>(∃ a' t,r=(bR s T a' b k q)/\a<=a'/\a'+1<T.length/\T[a'.toNat]?=some t/\t.Kind=5/\t.Text=x)) ?_ λr hr=>?_
 ·unfold cM
  refine fa hm hC h0 h1 λa' t h2 h3 h4 h5 h6=>?_
  dsimp only
  refine jL λr hr1 hr2=>?_
  refine Ev.bt (λh=>ij hm hC (by omega) (by omega) hc) (λh=>?_)
  obtain ⟨q1,q2⟩:=hr1 h
  exact Ev.ok ⟨a',t,rfl,h2,hC.next (by omega) h4 (by omega),h4,q1,q2⟩
 ·obtain ⟨a',t,rfl,h⟩:=hr
  exact ht a' t h.1 h.2.1 h.2.2.1 h.2.2.2.1 h.2.2.2.2
theorem ru (hm:cq m) (hC:PC s T b) (h0:0<=a) (h1:a<T.length) {c:Int} (hc:b+s.length<=c) {x:ByS} {K:Nat->H->D α}
  (ht:∀ a',a<a'->a'<T.length->Ev (λi=>K i (bR s T a' b k q)) Q (PP c)):Ev (λi=>D.bind (dv (m i) x (bR s T a b k q)) (K i)) Q (PP c):=by
 refine Ev.aN (Q:=λr=>(∃ a',r=(bR s T a' b k q)/\a<a'/\a'<T.length)) ?_ λr hr=>?_
 ·unfold dv
  have:=hC.lJ
  refine fa hm hC h0 h1 λa' t h2 h3 h4 h5 h6=>?_
  dsimp only
  refine od λr hr1 hr2=>?_
  refine Ev.bt (λh=>ij hm hC (by omega) (by omega) hc) (λh=>?_)
  obtain ⟨q1,q2⟩:=hr1 h
  have:=hC.next (by omega) h4 (by omega)
  exact Ev.gA (Ev.ok ⟨a'+1,rfl,by omega,by omega⟩)
 ·obtain ⟨a',rfl,h⟩:=hr
  exact ht a' h.1 h.2
theorem s6 (hm:cq m) (hC:PC s T b) (h0:0<=a) (h1:a<T.length) {c:Int} (hc:b+s.length<=c) {K:Nat->ByS×H->D α}
  (ht:∀ a' x,a<a'->a'<T.length->Ev (λi=>K i (x,bR s T a' b k q)) Q (PP c)):Ev (λi=>D.bind (dw (m i) (bR s T a b k q)) (K i)) Q (PP c):=by
 refine Ev.aN (Q:=λr=>(∃ a' x,r=(x,bR s T a' b k q)/\a<a'/\a'<T.length)) ?_ λr hr=>?_
 ·unfold dw
  have:=hC.lJ
  refine fa hm hC h0 h1 λa' t h2 h3 h4 h5 h6=>?_
  dsimp only
  refine Ev.jn (λv=>v=bR s T a' b k q/\t.Kind=1) (λv hv=>?_) (λj hj=>?_)
  ·obtain ⟨rfl,h7⟩:=hv
   have:=hC.next (by omega) h4 (by omega)
   exact Ev.gA (Ev.ok ⟨a'+1,_,rfl,by omega,by omega⟩)
  ·refine Ev.bP (λ_=>ij hm hC (by omega) (by omega) hc) (λh1=>?_)
   refine Ev.fy (gh hm) λz _=>?_
   exact Ev.bt (λ_=>ij hm hC (by omega) (by omega) hc) (λ_=>hj _ ⟨rfl,h1⟩)
 ·obtain ⟨a',x,rfl,h⟩:=hr
  exact ht a' x h.1 h.2
theorem Bt (hm:cq m) (hC:PC s T b) (h0:0<=a) (h1:a<T.length) {c:Int} (hc:b+s.length<=c) {K:Nat->gT×H->D α}
  (ht:∀ a' x,a<a'->a'<T.length->Ev (λi=>K i (x,bR s T a' b k q)) Q (PP c)):Ev (λi=>D.bind (fe (m i) (bR s T a b k q)) (K i)) Q (PP c):=by
 refine Ev.aN (Q:=λr=>(∃ a' x,r=(x,bR s T a' b k q)/\a<a'/\a'<T.length)) ?_ λr hr=>?_
 ·unfold fe
  refine s6 hm hC h0 h1 hc λa1 x1 h2 h3=>jM hm hC (by omega) (by omega) hc λa2 t h4 h5 _ _ _ _=>k5 hm hC (by omega) (by omega) λa3 t3 v h6 h7 _ _ _ h8 h9=>s6 hm hC (by omega) (by omega) hc λa4 x4 h10 h11=>?_
  exact Ev.bw (λ_=>wh h8 (by omega)) (λ_=>Ev.ok ⟨a4,_,rfl,by omega,by omega⟩)
 ·obtain ⟨a',x,rfl,h⟩:=hr
  exact ht a' x h.1 h.2
theorem mG {n:Int} (hC:PC s T b) (h0:0<=a) (h1:a<T.length) (hn:0<=n) (hn2:n<=70000) {K:Nat->aA×H->D α}
  (hk:∀ t,(t.Kind≠0->T[(a+n).toNat]?=some t/\a+n+1<T.length)->Ev (λi=>K i (t,bR s T a b k q)) Q R):Ev (λi=>D.bind (cO n (bR s T a b k q)) (K i)) Q R:=by
 refine Ev.bind (Q:=λr=>∃ t,r=(t,bR s T a b k q)/\(t.Kind≠0->T[(a+n).toNat]?=some t/\a+n+1<T.length)) (R':=gP) ?_ (λ_ q=>q.elim) λr hr=>?_
 ·unfold cO
  have:=hC.lJ
  dsimp only
  refine Ev.gA (Ev.gA (Ev.el (by split<;>omega) (by split<;>omega) λt ht=>Ev.ok ⟨t,rfl,λhk=>?_⟩))
  have h2:=((hC.tok ht).2.2.2.2.2 hk).1
  have:¬ ((T.length:Int) - 1<a+n):=λh=>by rw[if_pos h] at h2;omega
  rw[if_neg this] at ht h2
  exact ⟨ht,by omega⟩
 ·obtain ⟨t,rfl,h⟩:=hr
  exact hk t h
theorem rJ (hm:cq m) (hC:PC s T b) (h0:0<=a) (h1:a<T.length):Ev (λi=>dO (m i) (bR s T a b k q)) (λr=>r.2=bR s T a b k q) gP:=by
 have hl:=hC.lJ;unfold dO;dsimp only;refine Ev.gA ?_;refine Ev.iter hm (λ(x:Int)=>-1<=x/\x<a) (λx=>(x+1).toNat) (by omega) ?_;intro x hx next hn;refine Ev.aO (λh=>?_) (λ_=>Ev.ok rfl);refine Ev.eA λt ht=>?_;refine Ev.bP (λ_=>?_) (λ_=>Ev.gA (hn _ (by omega) (by omega)));refine Ev.yA (by omega) ht (Ev.eA λu hu=>?_);have h2:=hC.sorted (by omega) ht hu;have h3:=hC.tok ht;have h4:=hC.tok hu;have:=hC.bs;have:=hC.b0;refine Ev.gA ?_;have:=lr (c:=s) (i:=t.End) (j:=u.Pos) (by omega) (by omega) (by omega);exact Ev.aN (pq (by omega)) λ_ _=>Ev.ok rfl
theorem ve (hm:cq m) (hC:PC s T b) (h0:0<=a) (h1:a<T.length) {e:Int} (he:1<=e) (he2:e<=a):Ev (λi=>eK (m i) e (bR s T a b k q)) (λr=>r.2=bR s T a b k q) gP:=by
 have hl:=hC.lJ;unfold eK;dsimp only;refine Ev.iter hm (λ(x:Int)=>e<=x/\x<=a) (λx=>(a - x).toNat) (by omega) ?_;intro x hx next hn;refine Ev.aO (λh=>?_) (λ_=>?_)
 ·refine Ev.eA λt ht=>jL λr _ _=>Ev.bt (λ_=>Ev.ok rfl) (λ_=>?_);exact Ev.gA (hn _ (by omega) (by omega))
 refine Ev.gA (Ev.eA λt ht=>Ev.eA λu hu=>?_);have h2:=hC.sorted (by omega) ht hu;have h3:=hC.tok ht;have h4:=hC.tok hu;have:=hC.bs;have:=hC.b0;refine Ev.gA ?_;have:=lr (c:=s) (i:=t.End) (j:=u.Pos) (by omega) (by omega) (by omega);exact Ev.aN (pq (by omega)) λ_ _=>Ev.ok rfl
theorem Gf (hm:cq m) (hC:PC s T b) (h0:0<=a) (h1:a<T.length) {K:Nat->Bool×H->D α}
  (hk:∀ a' t r,a<=a'->a'<T.length->T[a'.toNat]?=some t->(r=false->t.Kind≠0)->(k=true->t.Kind≠7)->Ev (λi=>K i (r,bR s T a' b k q)) Q R):Ev (λi=>D.bind (fG (m i) (bR s T a b k q)) (K i)) Q R:=by
 refine Ev.bind (Q:=λr=>∃ a' t x,r=(x,bR s T a' b k q)/\a<=a'/\a'<T.length/\T[a'.toNat]?=some t/\(x=false->t.Kind≠0)/\(k=true->t.Kind≠7)) (R':=gP) ?_ (λ_ q=>q.elim) λr hr=>?_
 ·unfold fG
  refine fa hm hC h0 h1 λa1 t1 h2 h3 h4 h5 _=>?_
  dsimp only
  refine Ev.bw (λ_=>Ev.ok ⟨a1,t1,_,rfl,h2,h3,h4,by simp,h5⟩) (λhne=>?_)
  refine fa hm hC (by omega) h3 λa2 t2 h6 h7 h8 h9 h10=>jL λr _ _=>Ev.ok ⟨a2,t2,r,rfl,by omega,by omega,h8,λ_=>?_,h9⟩
  have:=h10 t1 h4 h5
  subst this
  rw[h4] at h8;cases h8;exact hne
 ·obtain ⟨a',t,x,rfl,h⟩:=hr
  exact hk a' t x h.1 h.2.1 h.2.2.1 h.2.2.2.1 h.2.2.2.2
end
end Go.Abs
end
section
namespace Go.Abs
open D
mutual
inductive ky:U->Prop where
 | mk {k:Int} {t:ByS} {n:Int} {a b:ByS} {subs:List U} {decls:List Z} {tail:List ByS} {pos:Int} (h1:subs.length<=70000) (h2:decls.length<=70000) (h3:tail.length<=70000)
  (h4:∀ x,x∈tail->x.length<=65536) (h5:k=16->2<=subs.length) (hs:∀ x,x∈subs->ky x) (hd:∀ x,x∈decls->lI x):ky (U.mk k t n a b subs decls tail pos)
inductive lI:Z->Prop where
 | mk {k p:Int} {lb a b:ByS} {subs:List U} {body:List Z} {tail lead:List ByS} {trail:ByS} {pos:Int} (h1:subs.length<=70000) (h2:body.length<=70000) (h3:tail.length<=70000)
  (h4:∀ x,x∈tail->x.length<=65536) (h5:lead.length<=70000) (h6:∀ x,x∈lead->x.length<=65536) (h7:trail.length<=65536) (h8:k=1\/k=2\/k=3->1<=subs.length)
  (hs:∀ x,x∈subs->ky x) (hd:∀ x,x∈body->lI x):lI (Z.mk k p lb a b subs body tail lead trail pos)
end
theorem ky.l1 {e:U} (h:ky e):e.bg.length<=70000:=by cases h;assumption
theorem ky.l2 {e:U} (h:ky e):e.Decls.length<=70000:=by cases h;assumption
theorem ky.l3 {e:U} (h:ky e):e.cl.length<=70000:=by cases h;assumption
theorem ky.l4 {e:U} (h:ky e):∀ x,x∈e.cl->x.length<=65536:=by cases h;assumption
theorem ky.kd {e:U} (h:ky e):e.Kind=16->2<=e.bg.length:=by cases h;assumption
theorem ky.s {e:U} (h:ky e):∀ x,x∈e.bg->ky x:=by cases h;assumption
theorem ky.d {e:U} (h:ky e):∀ x,x∈e.Decls->lI x:=by cases h;assumption
theorem lI.l1 {e:Z} (h:lI e):e.bg.length<=70000:=by cases h;assumption
theorem lI.l2 {e:Z} (h:lI e):e.Body.length<=70000:=by cases h;assumption
theorem lI.l3 {e:Z} (h:lI e):e.cl.length<=70000:=by cases h;assumption
theorem lI.l4 {e:Z} (h:lI e):∀ x,x∈e.cl->x.length<=65536:=by cases h;assumption
theorem lI.l5 {e:Z} (h:lI e):e.ka.length<=70000:=by cases h;assumption
theorem lI.l6 {e:Z} (h:lI e):∀ x,x∈e.ka->x.length<=65536:=by cases h;assumption
theorem lI.l7 {e:Z} (h:lI e):e.Trail.length<=65536:=by cases h;assumption
theorem lI.kd {e:Z} (h:lI e):e.Kind=1\/e.Kind=2\/e.Kind=3->1<=e.bg.length:=by cases h;assumption
theorem lI.s {e:Z} (h:lI e):∀ x,x∈e.bg->ky x:=by cases h;assumption
theorem lI.d {e:Z} (h:lI e):∀ x,x∈e.Body->lI x:=by cases h;assumption
theorem TS {k:Int} {t:ByS} {n:Int} {a b:ByS} {l:List U} {d:List Z} {tl:List ByS} {p:Int}:(U.mk k t n a b l d tl p).bg=l:=rfl
theorem ky.of {k:Int} {t:ByS} {n:Int} {a b:ByS} {subs:List U} {pos:Int} (h1:subs.length<=70000) (h5:k=16->2<=subs.length) (hs:∀ x,x∈subs->ky x):ky (U.mk k t n a b subs [] [] pos):=
 .mk h1 (by simp) (by simp) (by simp) h5 hs (by simp)
theorem ky.leaf {k:Int} {t:ByS} {n:Int} {a b:ByS} {pos:Int} (h5:k≠16):ky (U.mk k t n a b [] [] [] pos):=.of (by simp) (λq=>absurd q h5) (by simp)
theorem ky.one {k:Int} {t:ByS} {n:Int} {a b:ByS} {x:U} {pos:Int} (h5:k≠16) (hx:ky x):ky (U.mk k t n a b [x] [] [] pos):=.of (by simp) (λq=>absurd q h5) (by simpa using hx)
theorem ky.two {k:Int} {t:ByS} {n:Int} {a b:ByS} {x y:U} {pos:Int} (hx:ky x) (hy:ky y):ky (U.mk k t n a b [x,y] [] [] pos):=.of (by simp) (λ_=>by simp) (by simp;exact ⟨hx,hy⟩)
theorem CU {e x:U} (h:x∈e.bg):SizeOf.sizeOf x<SizeOf.sizeOf e:=by
 cases e;have:=List.sizeOf_lt_of_mem h;simp only[U.bg] at this;simp;omega
theorem BU {e:U} {x:Z} (h:x∈e.Decls):SizeOf.sizeOf x<SizeOf.sizeOf e:=by
 cases e;have:=List.sizeOf_lt_of_mem h;simp only[U.Decls] at this;simp;omega
theorem ES {e:Z} {x:U} (h:x∈e.bg):SizeOf.sizeOf x<SizeOf.sizeOf e:=by
 cases e;have:=List.sizeOf_lt_of_mem h;simp only[Z.bg] at this;simp;omega
theorem ET {e x:Z} (h:x∈e.Body):SizeOf.sizeOf x<SizeOf.sizeOf e:=by
 cases e;have:=List.sizeOf_lt_of_mem h;simp only[Z.Body] at this;simp;omega
theorem vf {c v:Int} (h0:0<=v) (h1:v<=c) {p:H}:∀ (N:Nat) {m:Nat->Nat} {e:U},cq m->SizeOf.sizeOf e<N->ky e->Ev (λi=>bm (m i) e v p) (λr=>r.2=p/\ky r.1) (PP c):=by
 intro N
 induction N with
 | zero=>intro m e _ h;exact absurd h (Nat.not_lt_zero _)
 | succ N ih=>
  intro m e hm hN he
  refine Ev.grow (F:=λn=>bm n e v p) hm λm hm=>?_
  show Ev (λi=>eO (m i) (eN (m i)) e v p) _ _
  unfold eO
  refine Ev.bw (λhk=>?_) (λ_=>?_)
  ·have h2:=he.kd hk;refine Ev.eA λx hx=>Ev.eA λy hy=>?_;have hx:=List.mem_of_getElem? hx;have hy:=List.mem_of_getElem? hy;refine Ev.aN (ih hm (by have:=CU hx;omega) (he.s _ hx)) λx2 hx2=>?_;rw[hx2.1];refine Ev.aN (ih hm (by have:=CU hy;omega) (he.s _ hy)) λy2 hy2=>?_;exact Ev.ok ⟨hy2.1,.mk (by simp) he.l2 he.l3 he.l4 (λ_=>by simp) (by simp;exact ⟨hx2.2,hy2.2⟩) he.d⟩
  ·refine Ev.bw (λ_=>?_) (λ_=>Ev.ok ⟨rfl,he⟩);have hl:=he.l2;refine Ev.iter hm (λ(x:H×List Z×Int)=>x.1=p/\0<=x.2.2/\x.2.2<=e.Decls.length/\x.2.1.length=x.2.2/\∀ d,d∈x.2.1->lI d) (λx=>(e.Decls.length - x.2.2).toNat) ⟨rfl,by simp,by simp,by simp,by simp⟩ ?_;rintro x ⟨hx1,hx2,hx3,hx4,hx5⟩ next hn;refine Ev.aO (λhlt=>?_) (λ_=>Ev.ok ⟨hx1,.mk he.l1 (by omega) he.l3 he.l4 (by simp) he.s hx5⟩);refine Ev.eA λd hd=>?_;have hd:=List.mem_of_getElem? hd;have hds:=he.d _ hd;refine Ev.jn (λw=>w.1=p/\lI w.2) (λw hw=>?_) (λj hj=>?_)
   ·refine Ev.gA (Ev.gA (hn _ ⟨hw.1,by dsimp only;omega,by dsimp only;omega,by simp;omega,λz hz=>?_⟩ (by dsimp only;omega)));rcases List.mem_append.1 hz with q|q
    ·exact hx5 z q
    simp at q;subst q;exact hw.2
   refine Ev.jn (λ_=>True) (λw _=>?_) (λj2 hj2=>?_)
   ·refine Ev.br (λ_=>wh h0 h1) (λ_=>?_);refine Ev.jn (λw=>w=true->d.Kind=1\/d.Kind=2\/d.Kind=3) (λw hw=>?_) (λj2 hj2=>?_)
    ·refine Ev.br (λhw2=>?_) (λ_=>hj _ ⟨hx1,hds⟩);have:=hds.kd (hw hw2);refine Ev.eA λy hy=>?_;have hy:=List.mem_of_getElem? hy;rw[hx1];refine Ev.aN (ih hm (by have:=ES hy;have:=BU hd;omega) (hds.s _ hy)) λy2 hy2=>?_;exact hj _ ⟨hy2.1,.mk (by simp) hds.l2 hds.l3 hds.l4 hds.l5 hds.l6 hds.l7 (λ_=>by simp) (by simpa using hy2.2) hds.d⟩
    refine Ev.bw (λh=>hj2 _ λ_=>.inl h) (λ_=>Ev.bw (λh=>hj2 _ λ_=>.inr (.inl h)) (λ_=>hj2 _ λh=>.inr (.inr (by simpa using h))))
   (repeat' (with_reducible first|refine Ev.gA ?_|refine Ev.eA (λ_ _=>?_)|apply Ev.cR|apply Ev.cA|(first|apply Ev.aO|apply Ev.bw|apply Ev.bP|apply Ev.bt|apply Ev.br)<;>intro _|(apply Ev.kP;try dsimp only)))
   all_goals exact hj2 _ trivial
section
variable {s:ByS} {T:List aA} {b:Int} {α X:Type} {Q:α->Prop} {R:rA->Prop} {m:Nat->Nat} {a:Int} {k:Bool} {q:Option U} {c:Int}
def QS (q:Option U):Prop:=∀ e,q=some e->ky e
theorem QS.none:QS none:=λ_ h=>by cases h
def St (s:ByS) (T:List aA) (b:Int) (k:Bool) (a d:Int) (p:H):Prop:=∃ a' q',p=bR s T a' b k q'/\a<=a'/\a'+d<T.length/\QS q'
theorem fX {d:Int} {F:Nat->D (X×H)} {P:X->Prop} {K:Nat->X×H->D α} (h:Ev F (λr=>St s T b k a d r.2/\P r.1) (PP c))
  (hk:∀ x a' q',a<=a'->a'+d<T.length->QS q'->P x->Ev (λi=>K i (x,bR s T a' b k q')) Q (PP c)):Ev (λi=>D.bind (F i) (K i)) Q (PP c):=by
 refine Ev.aN h λr hr=>?_
 obtain ⟨x,p⟩:=r
 obtain ⟨⟨a',q',hp,h1,h2,h3⟩,h4⟩:=hr
 dsimp only at hp
 subst hp
 exact hk x a' q' h1 h2 h3 h4
theorem tA {d:Int} {F:Nat->D (H×X)} {P:X->Prop} {K:Nat->H×X->D α} (h:Ev F (λr=>St s T b k a d r.1/\P r.2) (PP c))
  (hk:∀ x a' q',a<=a'->a'+d<T.length->QS q'->P x->Ev (λi=>K i (bR s T a' b k q',x)) Q (PP c)):Ev (λi=>D.bind (F i) (K i)) Q (PP c):=by
 refine Ev.aN h λr hr=>?_
 obtain ⟨p,x⟩:=r
 obtain ⟨⟨a',q',hp,h1,h2,h3⟩,h4⟩:=hr
 dsimp only at hp
 subst hp
 exact hk x a' q' h1 h2 h3 h4
theorem qy (hm:cq m) {v:Int} (h0:0<=v) (h1:v<=c) {e:U} (he:ky e) {p:H} {K:Nat->U×H->D α} (hk:∀ x,ky x->Ev (λi=>K i (x,p)) Q (PP c)) :
  Ev (λi=>D.bind (bm (m i) e v p) (K i)) Q (PP c):=by
 refine Ev.aN (vf h0 h1 _ hm (Nat.lt_succ_self _) he) λr hr=>?_
 obtain ⟨x,p'⟩:=r
 obtain ⟨h1,h2⟩:=hr
 dsimp only at h1
 subst h1
 exact hk x h2
def Bu (T:List aA) (a:Int):Prop:=∃ t u,T[a.toNat]?=some t/\t.Kind=5/\T[(a+1).toNat]?=some u/\u.Kind≠0/\u.Kind≠7/\(u.Kind=5->∃ w,T[(a+2).toNat]?=some w/\w.Kind=3)
theorem Aj (hm:cq m) (hC:PC s T b) (h0:0<=a) (h1:a<T.length) {K:Nat->Bool×H->D α}
  (hk:∀ a' r,a<=a'->a'<T.length->(∀ u,T[a.toNat]?=some u->(k=true->u.Kind≠7)->a'=a)->(r=true->Bu T a')->Ev (λi=>K i (r,bR s T a' b k q)) Q R):Ev (λi=>D.bind (ez (m i) (bR s T a b k q)) (K i)) Q R:=by
 refine Ev.bind (Q:=λr=>∃ a' x,r=(x,bR s T a' b k q)/\a<=a'/\a'<T.length/\(∀ u,T[a.toNat]?=some u->(k=true->u.Kind≠7)->a'=a)/\(x=true->Bu T a')) (R':=gP) ?_ (λ_ q=>q.elim) λr hr=>?_
 ·unfold ez
  have hl:=hC.lJ
  refine fa hm hC h0 h1 λa' t h2 h3 h4 h5 h6=>?_
  dsimp only
  refine jL λr hr1 hr2=>Ev.bt (λ_=>Ev.ok ⟨a',_,rfl,h2,h3,h6,by simp⟩) (λhr=>?_)
  obtain ⟨g1,g2⟩:=hr1 hr
  refine Ev.jn (λv=>v.1=bR s T a' b k q/\2<=v.2/\v.2<=3/\Bu T a') (λv hv=>?_) (λj hj=>?_)
  ·refine Ev.iter hm (λ(x:H×Int)=>x.1=bR s T a' b k q/\2<=x.2/\x.2<=T.length+3) (λx=>(T.length+4 - x.2).toNat) ⟨hv.1,hv.2.1,by dsimp only;omega⟩ ?_
   rintro x ⟨hx1,hx2,hx3⟩ next hn
   rw[hx1]
   refine mG hC (by omega) h3 (by omega) (by omega) λu hu=>?_
   dsimp only
   refine Ev.bw (λh7=>?_) (λ_=>?_)
   ·have:=(hu (by omega)).2
    exact Ev.gA (hn _ ⟨rfl,by dsimp only;omega,by dsimp only;omega⟩ (by dsimp only;omega))
   ·refine mG hC (by omega) h3 (by omega) (by omega) λu hu=>?_
    dsimp only
    refine jL λr _ _=>Ev.br (λ_=>?_) (λ_=>Ev.ok ⟨a',_,rfl,h2,h3,h6,by simp⟩)
    refine Ev.gA (mG hC (by omega) h3 (by omega) (by omega) λu hu=>?_)
    dsimp only
    exact jL λr _ _=>Ev.ok ⟨a',_,rfl,h2,h3,h6,λ_=>hv.2.2.2⟩
  ·refine mG hC (by omega) h3 (by omega) (by omega) λu hu=>?_
   dsimp only
   refine od λr hr1 hr2=>Ev.bt (λ_=>?_) (λhr=>?_)
   ·refine mG hC (by omega) h3 (by omega) (by omega) λu hu=>?_
    dsimp only
    refine jL λr hr1 hr2=>Ev.bt (λ_=>Ev.ok ⟨a',_,rfl,h2,h3,h6,by simp⟩) (λhr=>?_)
    obtain ⟨q1,q2⟩:=hr1 hr
    refine mG hC (by omega) h3 (by omega) (by omega) λw hw=>?_
    dsimp only
    refine Ev.bP (λ_=>Ev.ok ⟨a',_,rfl,h2,h3,h6,by simp⟩) (λh3=>?_)
    exact hj _ ⟨rfl,by simp,by simp,t,u,h4,g1,(hu (by omega)).1,by omega,by omega,λ_=>⟨w,(hw (by omega)).1,h3⟩⟩
   ·obtain ⟨q1,q2⟩:=hr1 hr
    exact hj _ ⟨rfl,by simp,by simp,t,u,h4,g1,(hu (by omega)).1,by omega,by omega,λ_=>by omega⟩
 ·obtain ⟨a',x,rfl,h⟩:=hr
  exact hk a' x h.1 h.2.1 h.2.2.1 h.2.2.2
theorem vg (hm:cq m) (hC:PC s T b) (h0:0<=a) (hc:b+s.length<=c) (hq:QS q) {u:aA} (hu:T[a.toNat]?=some u) (hk0:u.Kind≠0) (hk7:u.Kind≠7) (hw:u.Kind=5->∃ w,T[(a+1).toNat]?=some w/\w.Kind=3) {d:Z} :
  Ev (λi=>fF (m i) true (bR s T a b k q) d) (λr=>St s T b k a 1 r.1/\(r.2=d\/∃ l,r.2=Z.mk d.Kind d.cG l d.bp d.bq d.bg d.Body d.cl d.ka d.Trail d.Pos)) (PP c):=by
 have hl:=hC.lJ
 have h1:a<T.length:=by have:=(List.getElem?_eq_some_iff.1 hu).1;omega
 unfold fF
 refine tA (b:=b) (T:=T) (s:=s) (k:=true) (a:=a) (d:=1) (P:=λx=>x=d\/∃ l,x=Z.mk d.Kind d.cG l d.bp d.bq d.bg d.Body d.cl d.ka d.Trail d.Pos) ?_ λx a' q' h2 h3 h4 h5=>Ev.ok ⟨⟨a',q',rfl,h2,h3,h4⟩,h5⟩
 unfold iw
 dsimp only
 refine Ev.jn (λv=>(∃ a',v.1=bR s T a' b true q/\a<=a'/\a'+1<T.length)/\(v.2=d\/∃ l,v.2=Z.mk d.Kind d.cG l d.bp d.bq d.bg d.Body d.cl d.ka d.Trail d.Pos)) (λv hv=>?_) (λj hj=>?_)
 ·obtain ⟨⟨a',hv1,hv2,hv3⟩,hv4⟩:=hv
  rw[hv1]
  refine Ev.gA (nq hm hC (by dsimp only;omega) (by dsimp only;omega) hc λa2 t h2 h3 h4 h5 _=>Ev.ok ⟨⟨a2,q,rfl,by dsimp only at h2;omega,h3,hq⟩,hv4⟩)
 ·refine kX hm hC h0 h1 (λa' t h2 h3 h4 h5 h6 h7=>?_) (λa' t h2 h3 h4 h5 h6 h7=>?_)
  ·dsimp only
   have ha:=h7 u hu (λ_=>hk7)
   subst ha
   have:u=t:=by
    have e:a+1 - 1=a:=by omega
    rw[e,hu] at h4;cases h4;rfl
   subst this
   obtain ⟨w,hw1,hw2⟩:=hw h5
   refine Ev.cR ?_
   refine fa hm hC (by omega) h3 λa2 t2 h8 h9 h10 h11 h12=>?_
   dsimp only
   have ha2:=h12 w hw1 (λ_=>by omega)
   subst ha2
   have hnx:=hC.next (by omega) hw1 (by omega)
   refine Ev.fy (sP hm) λy _=>?_
   refine Ev.bP (λ_=>ij hm hC (by omega) h9 hc) (λ_=>hj _ ⟨⟨_,rfl,by omega,by omega⟩,.inr ⟨_,rfl⟩⟩)
  ·dsimp only
   have ha:=h7 u hu (λ_=>hk7)
   subst ha
   have hnx:=hC.next (by omega) hu hk0
   exact Ev.cA (hj _ ⟨⟨_,rfl,by omega,by omega⟩,.inl rfl⟩)
end
mutual
inductive EE:U->U->Prop where
 | mk {k:Int} {t:ByS} {n:Int} {a b:ByS} {l l':List U} {d d':List Z} {tail:List ByS} {pos pos':Int} (h1:l.length=l'.length) (h2:∀ (i:Nat) x y,l[i]?=some x->l'[i]?=some y->EE x y)
  (h3:d.length=d'.length) (h4:∀ (i:Nat) x y,d[i]?=some x->d'[i]?=some y->DD x y):EE (U.mk k t n a b l d tail pos) (U.mk k t n a b l' d' tail pos')
inductive DD:Z->Z->Prop where
 | mk {k p:Int} {lb a b:ByS} {l l':List U} {d d':List Z} {tail lead:List ByS} {trail:ByS} {pos pos':Int} (h1:l.length=l'.length) (h2:∀ (i:Nat) x y,l[i]?=some x->l'[i]?=some y->EE x y)
  (h3:d.length=d'.length) (h4:∀ (i:Nat) x y,d[i]?=some x->d'[i]?=some y->DD x y):DD (Z.mk k p lb a b l d tail lead trail pos) (Z.mk k p lb a b l' d' tail lead trail pos')
end
section
variable {k n p:Int} {t a b lb:ByS} {l l':List U} {d d':List Z} {tail lead:List ByS} {trail:ByS} {pos pos':Int}
theorem EE.of (h:LR EE l l') (h':LR DD d d'):EE (U.mk k t n a b l d tail pos) (U.mk k t n a b l' d' tail pos'):=.mk h.1 h.2 h'.1 h'.2
theorem DD.of (h:LR EE l l') (h':LR DD d d'):DD (Z.mk k p lb a b l d tail lead trail pos) (Z.mk k p lb a b l' d' tail lead trail pos'):=.mk h.1 h.2 h'.1 h'.2
theorem EE.sub (h:LR EE l l'):EE (U.mk k t n a b l [] tail pos) (U.mk k t n a b l' [] tail pos'):=.of h .nil
theorem EE.leaf:EE (U.mk k t n a b [] [] tail pos) (U.mk k t n a b [] [] tail pos'):=.of .nil .nil
end
structure JA (e e':U):Prop where
 k:e'.Kind=e.Kind
 t:e'.Text=e.Text
 n:e'.jV=e.jV
 a:e'.bp=e.bp
 b:e'.bq=e.bq
 tl:e'.cl=e.cl
 s:LR EE e.bg e'.bg
 d:LR DD e.Decls e'.Decls
theorem EE.x {e e':U} (h:EE e e'):JA e e':=by
 cases h with
 | mk h1 h2 h3 h4=>exact ⟨rfl,rfl,rfl,rfl,rfl,rfl,⟨h1,h2⟩,⟨h3,h4⟩⟩
theorem JA.sub {e e':U} (h:JA e e') {l l':List U} {pos pos':Int} (hl:LR EE l l'):EE (U.mk e.Kind e.Text e.jV e.bp e.bq l [] [] pos) (U.mk e'.Kind e'.Text e'.jV e'.bp e'.bq l' [] [] pos'):=by
 rw[h.k,h.t,h.n,h.a,h.b];exact .sub hl
structure JS (e e':Z):Prop where
 k:e'.Kind=e.Kind
 p:e'.cG=e.cG
 t:e'.Label=e.Label
 a:e'.bp=e.bp
 b:e'.bq=e.bq
 tl:e'.cl=e.cl
 ld:e'.ka=e.ka
 tr:e'.Trail=e.Trail
 s:LR EE e.bg e'.bg
 d:LR DD e.Body e'.Body
theorem DD.x {e e':Z} (h:DD e e'):JS e e':=by
 cases h with
 | mk h1 h2 h3 h4=>exact ⟨rfl,rfl,rfl,rfl,rfl,rfl,rfl,rfl,⟨h1,h2⟩,⟨h3,h4⟩⟩
def QR (q q':Option U):Prop:=(q=none/\q'=none)\/∃ e e',q=some e/\q'=some e'/\EE e e'
theorem QR.none:QR none none:=.inl ⟨rfl,rfl⟩
theorem QR.JN {q q':Option U} (h:QR q q'):(q'.map U.C).isNone=(q.map U.C).isNone:=by
 rcases h with ⟨rfl,rfl⟩|⟨e,e',rfl,rfl,_⟩<;>rfl
theorem QR.JT {q q':Option U} (h:QR q q'):(q'.map U.C).isSome=(q.map U.C).isSome:=by
 rcases h with ⟨rfl,rfl⟩|⟨e,e',rfl,rfl,_⟩<;>rfl
structure Cx where
 s:ByS
 T:List aA
 b:Int
 s':ByS
 T':List aA
 b':Int
 κ:Nat
structure Cx.k8 (C:Cx):Prop where
 len:C.T'.length=C.T.length+C.κ
 tok:∀ (i:Nat) t t',C.T[i]?=some t->C.T'[i+C.κ]?=some t'->t'.Kind=t.Kind/\t'.Text=t.Text
 nl:∀ (i j:Nat) t u t' u',C.T[i]?=some t->C.T[j]?=some u->C.T'[i+C.κ]?=some t'->C.T'[j+C.κ]?=some u'->RS Eq (strings_Contains (sub C.s t.End u.Pos) [10]) (strings_Contains (sub C.s' t'.End u'.Pos) [10])
theorem Cx.k8.refl {s:ByS} {T:List aA} {b b':Int}:(Cx.mk s T b s T b' 0).k8 where
 len:=rfl
 tok:=λi t t' h h'=>by simp at h h';rw[h] at h';cases h';exact ⟨rfl,rfl⟩
 nl:=λi j t u t' u' h1 h2 h3 h4=>by
  simp at h1 h2 h3 h4;rw[h1] at h3;rw[h2] at h4;cases h3;cases h4;exact λa e=>.inr ⟨a,e,rfl⟩
def Rl (C:Cx) (k:Bool) (a:Int) (p p':H):Prop:=∃ a1,p=bR C.s C.T a1 C.b k none/\p'=bR C.s' C.T' (a1+C.κ) C.b' k none/\a<=a1
abbrev VE (C:Cx) (k:Bool) (a:Int) (r r':U×H):Prop:=Rl C k a r.2 r'.2/\EE r.1 r'.1
section
variable {C:Cx} {α β X Y:Type} {V:α->β->Prop} {m:Nat} {a:Int} {k:Bool} {q q':Option U}
theorem Rl.mk {a1:Int} (h1:a<=a1):Rl C k a (bR C.s C.T a1 C.b k none) (bR C.s' C.T' (a1+C.κ) C.b' k none):=⟨a1,rfl,rfl,h1⟩
theorem Rl.mk' {a1 a2:Int} (h1:a<=a1) (h2:a2=a1+C.κ):Rl C k a (bR C.s C.T a1 C.b k none) (bR C.s' C.T' a2 C.b' k none):=⟨a1,rfl,by rw[h2],h1⟩
theorem jw {P:X->Y->Prop} {x:D (X×H)} {y:D (Y×H)} {K:X×H->D α} {K':Y×H->D β} (h:RS (λr r'=>Rl C k a r.2 r'.2/\P r.1 r'.1) x y)
  (hk:∀ v w a1,a<=a1->P v w->RS V (K (v,bR C.s C.T a1 C.b k none)) (K' (w,bR C.s' C.T' (a1+C.κ) C.b' k none))):RS V (D.bind x K) (D.bind y K'):=by
 refine RS.bind h λr r' hr=>?_
 obtain ⟨v,p⟩:=r
 obtain ⟨w,p'⟩:=r'
 obtain ⟨⟨a1,h1,h2,h3⟩,h5⟩:=hr
 dsimp only at h1 h2 h5
 subst h1 h2
 exact hk v w a1 h3 h5
theorem yd {P:X->Y->Prop} {x:D (H×X)} {y:D (H×Y)} {K:H×X->D α} {K':H×Y->D β} (h:RS (λr r'=>Rl C k a r.1 r'.1/\P r.2 r'.2) x y)
  (hk:∀ v w a1,a<=a1->P v w->RS V (K (bR C.s C.T a1 C.b k none,v)) (K' (bR C.s' C.T' (a1+C.κ) C.b' k none,w))):RS V (D.bind x K) (D.bind y K'):=by
 refine RS.bind h λr r' hr=>?_
 obtain ⟨p,v⟩:=r
 obtain ⟨p',w⟩:=r'
 obtain ⟨⟨a1,h1,h2,h3⟩,h5⟩:=hr
 dsimp only at h1 h2 h5
 subst h1 h2
 exact hk v w a1 h3 h5
theorem tn (h0:0<=a) {κ:Nat}:(a+κ).toNat=a.toNat+κ:=by omega
abbrev ST (t t':aA):Prop:=t'.Kind=t.Kind/\t'.Text=t.Text
theorem I8 {t t':aA} (h:ST t t') (x:ByS):cB t' x=cB t x:=by unfold cB;rw[h.1,h.2]
theorem Gg {t t':aA} (h:ST t t') (x:ByS):eJ t' x=eJ t x:=by unfold eJ;rw[h.1,h.2]
theorem EU {t t':aA} (h:ST t t') (x:ByS):gk m t' x=gk m t x:=by unfold gk;rw[h.1,h.2]
theorem BV {t t':aA} (h:ST t t'):gg m t'=gg m t:=by unfold gg;rw[h.1,h.2]
theorem jN {t t':aA} (h:ST t t') {x:ByS} {K:Bool->D α} {K':Bool->D β} (hk:∀ r,(r=true->t.Kind=5/\t.Text=x)->RS V (K r) (K' r)):RS V (D.bind (cB t x) K) (D.bind (cB t' x) K'):=by
 rw[I8 h];refine RS.same λr hr=>hk r λe=>?_;subst e;unfold cB at hr;cases h5:t.Kind==5 with
 | false=>rw[h5] at hr;simp[D.br] at hr
 | true=>rw[h5] at hr;simp[D.br] at hr;exact ⟨by simpa using h5,hr⟩
theorem og {t t':aA} (h:ST t t') {x:ByS} {K:Bool->D α} {K':Bool->D β} (hk:∀ r,RS V (K r) (K' r)):RS V (D.bind (eJ t x) K) (D.bind (eJ t' x) K'):=by
 rw[Gg h];exact RS.same λr _=>hk r
theorem uq {t t':aA} (h:ST t t') {x:ByS} {K:Bool->D α} {K':Bool->D β} (hk:∀ r,RS V (K r) (K' r)):RS V (D.bind (gk m t x) K) (D.bind (gk m t' x) K'):=by
 rw[EU h];exact RS.same λr _=>hk r
theorem xu {t t':aA} (h:ST t t') {K:Bool->D α} {K':Bool->D β} (hk:∀ r,RS V (K r) (K' r)):RS V (D.bind (gg m t) K) (D.bind (gg m t') K'):=by
 rw[BV h];exact RS.same λr _=>hk r
theorem Ie (hC:C.k8) (_:0<=a):RS (λr r'=>∃ a1 t t',r=(t,bR C.s C.T a1 C.b k q)/\r'=(t',bR C.s' C.T' (a1+C.κ) C.b' k q')/\a<=a1/\C.T[a1.toNat]?=some t/\C.T'[a1.toNat+C.κ]?=some t'/\ST t t')
  (aF m (bR C.s C.T a C.b k q)) (aF m (bR C.s' C.T' (a+C.κ) C.b' k q')):=by
 unfold aF
 refine RS.jn (λv w=>∃ a1,v=bR C.s C.T a1 C.b k q/\w=bR C.s' C.T' (a1+C.κ) C.b' k q'/\a<=a1) (λv w h=>?_) (λj j' hj=>?_)
 ·obtain ⟨a1,rfl,rfl,h1⟩:=h
  refine RS.el λt t' _ _ ht ht'=>RS.ok ?_
  dsimp only at ht ht'
  rw[tn (by omega)] at ht'
  exact ⟨a1,t,t',rfl,rfl,h1,ht,ht',hC.tok _ _ _ ht ht'⟩
 ·refine RS.iter (λv w=>∃ a1,v=bR C.s C.T a1 C.b k q/\w=bR C.s' C.T' (a1+C.κ) C.b' k q'/\a<=a1) (λv w h next next' hn=>?_) _ _ ⟨a,rfl,rfl,by omega⟩
  obtain ⟨a1,rfl,rfl,h1⟩:=h
  dsimp only
  refine RS.br rfl (λ_=>?_) (λ_=>hj _ _ ⟨a1,rfl,rfl,h1⟩)
  refine RS.el λt t' _ _ ht ht'=>?_
  rw[tn (by omega)] at ht'
  have hs:=hC.tok _ _ _ ht ht'
  refine RS.br (by rw[hs.1]) (λ_=>?_) (λ_=>hj _ _ ⟨a1,rfl,rfl,h1⟩)
  exact RS.gd λ_ _=>hn _ _ ⟨a1+1,rfl,by congr 1;omega,by omega⟩
theorem fb (hC:C.k8) (h0:0<=a) {K:aA×H->D α} {K':aA×H->D β} (hk:∀ a1 t t',a<=a1->C.T[a1.toNat]?=some t->C.T'[a1.toNat+C.κ]?=some t'->ST t t'->RS V (K (t,bR C.s C.T a1 C.b k q)) (K' (t',bR C.s' C.T' (a1+C.κ) C.b' k q'))) :
  RS V (D.bind (aF m (bR C.s C.T a C.b k q)) K) (D.bind (aF m (bR C.s' C.T' (a+C.κ) C.b' k q')) K'):=by
 refine RS.bind (Ie hC h0) λr r' h=>?_
 obtain ⟨a1,t,t',rfl,rfl,h1,h2,h3,h4⟩:=h
 exact hk a1 t t' h1 h2 h3 h4
theorem lD (hC:C.k8) (h0:0<=a) {K:Int×H->D α} {K':Int×H->D β} (hk:∀ a1 v w,a<=a1->RS V (K (v,bR C.s C.T a1 C.b k q)) (K' (w,bR C.s' C.T' (a1+C.κ) C.b' k q'))) :
  RS V (D.bind (bL m (bR C.s C.T a C.b k q)) K) (D.bind (bL m (bR C.s' C.T' (a+C.κ) C.b' k q')) K'):=by
 refine RS.bind (W:=λr r'=>∃ a1 v w,r=(v,bR C.s C.T a1 C.b k q)/\r'=(w,bR C.s' C.T' (a1+C.κ) C.b' k q')/\a<=a1) ?_ λr r' h=>?_
 ·unfold bL
  exact fb hC h0 λa1 t t' h1 _ _ _=>RS.gd λ_ _=>RS.ok ⟨a1,_,_,rfl,rfl,h1⟩
 ·obtain ⟨a1,v,w,rfl,rfl,h1⟩:=h
  exact hk a1 v w h1
theorem Ak {v:Int} {p:H} {K:H->D α} {y:D β}:RS V (D.bind (ed v p) K) y:=by unfold ed;exact RS.mf
theorem ik {p:H} {K:H->D α} {y:D β}:RS V (D.bind (bo m p) K) y:=by
 intro a e;unfold bo ed at e;cases h:bL m p with
 | stuck=>rw[h] at e;cases e
 | mf _=>rw[h] at e;cases e
 | ok r=>rw[h] at e;cases e
theorem kY (hC:C.k8) (h0:0<=a) {x:ByS} {K:Bool×H->D α} {K':Bool×H->D β}
  (ht:∀ a1 t,a<a1->C.T[(a1 - 1).toNat]?=some t->t.Kind=5->RS V (K (true,bR C.s C.T a1 C.b k q)) (K' (true,bR C.s' C.T' (a1+C.κ) C.b' k q')))
  (hf:∀ a1,a<=a1->RS V (K (false,bR C.s C.T a1 C.b k q)) (K' (false,bR C.s' C.T' (a1+C.κ) C.b' k q'))) :
  RS V (D.bind (ch m x (bR C.s C.T a C.b k q)) K) (D.bind (ch m x (bR C.s' C.T' (a+C.κ) C.b' k q')) K'):=by
 refine RS.bind (W:=λr r'=>(∃ a1 t,r=(true,bR C.s C.T a1 C.b k q)/\r'=(true,bR C.s' C.T' (a1+C.κ) C.b' k q')/\a<a1/\C.T[(a1 - 1).toNat]?=some t/\t.Kind=5)\/∃ a1,r=(false,bR C.s C.T a1 C.b k q)/\r'=(false,bR C.s' C.T' (a1+C.κ) C.b' k q')/\a<=a1) ?_ λr r' h=>?_
 ·unfold ch
  refine fb hC h0 λa1 t t' h1 h2 _ h4=>?_
  dsimp only
  refine jN h4 λr hr=>RS.br rfl (λ_=>RS.ok (.inr ⟨a1,rfl,rfl,h1⟩)) (λe=>?_)
  exact RS.gd λ_ _=>RS.ok (.inl ⟨a1+1,t,rfl,by congr 2;omega,by omega,by simpa using h2,(hr (by simpa using e)).1⟩)
 ·rcases h with ⟨a1,t,rfl,rfl,h1,h2,h3⟩|⟨a1,rfl,rfl,h1⟩
  ·exact ht a1 t h1 h2 h3
  ·exact hf a1 h1
theorem jO (hC:C.k8) (h0:0<=a) {x:ByS} {K:H->D α} {K':H->D β}
  (hk:∀ a1 t,a<a1->C.T[(a1 - 1).toNat]?=some t->t.Kind=5->RS V (K (bR C.s C.T a1 C.b k q)) (K' (bR C.s' C.T' (a1+C.κ) C.b' k q'))) :
  RS V (D.bind (bS m x (bR C.s C.T a C.b k q)) K) (D.bind (bS m x (bR C.s' C.T' (a+C.κ) C.b' k q')) K'):=by
 refine RS.bind (W:=λr r'=>∃ a1 t,r=bR C.s C.T a1 C.b k q/\r'=bR C.s' C.T' (a1+C.κ) C.b' k q'/\a<a1/\C.T[(a1 - 1).toNat]?=some t/\t.Kind=5) ?_ λr r' h=>?_
 ·unfold bS
  exact kY hC h0 (λa1 t h1 h2 h3=>RS.ok ⟨a1,t,rfl,rfl,h1,h2,h3⟩) (λa1 _=>ik)
 ·obtain ⟨a1,t,rfl,rfl,h1,h2,h3⟩:=h
  exact hk a1 t h1 h2 h3
end
end Go.Abs
end
section
namespace Go.Abs
open D
section
variable {α β Y:Type} {V:α->β->Prop}
theorem RS.JU {p:Prop} [Decidable p] {x:D α} {y:D β} (h:p->RS V x y):RS V x (D.gd p y):=by
 unfold D.gd;split
 ·exact h ‹_›
 exact RS.yb
theorem RS.JV {l:List Y} {v:Int} {x:D α} {K:Y->D β} (h:∀ y,0<=v->l[v.toNat]?=Option.some y->RS V x (K y)):RS V x (D.el l v K):=by
 unfold D.el;split
 ·split
  ·exact h _ ‹_› ‹_›
  exact RS.yb
 exact RS.yb
end
def Ay (s:ByS) (i:Int):Nat:=(s.take i.toNat).count 10
theorem Al {s c r:ByS} {a:Int} (h0:0<=a) (h:s.drop a.toNat=c++r):Ay s (a+c.length)=Ay s a+c.count 10:=by
 unfold Ay;rw[show (a+(c.length:Int)).toNat=a.toNat+c.length by omega,List.take_add,h];simp
theorem Am {s r:ByS} {b:UInt8} {a:Int} (h0:0<=a) (h:s.drop a.toNat=b::r):Ay s (a+1)=Ay s a+[b].count 10:=Al (c:=[b]) h0 h
structure TR (s s':ByS) (t t':aA):Prop where
 hk:t'.Kind=t.Kind
 ht:t'.Text=t.Text
 hp:Ay s' t'.Pos=Ay s t.Pos
 he:Ay s' t'.End=Ay s t.End
section
variable {m:Nat} {x x':bf}
structure SA (x x':bf) (n:Int) (z z':bf):Prop where
 hx:z.text=x.text
 vl:z'.text=x'.text
 ha:z.at_=x.at_+n
 Hi:z'.at_=x'.at_+n
 hl:z'.line=z.line
 ho:∃ k t,z.out=x.out++[aA.mk k t x.at_ (x.at_+n)]/\z'.out=x'.out++[aA.mk k t x'.at_ (x'.at_+n)]
theorem xv (h:x'.line=x.line) {k n:Int} {t:ByS}:RS (SA x x' n) (cf k t n x) (cf k t n x'):=by
 unfold cf;have ok:∀ b,RS (SA x x' n) (.ok (bf.mk x.text (x.at_+n) (x.out++[aA.mk k t x.at_ (x.at_+n)]) b)) (.ok (bf.mk x'.text (x'.at_+n) (x'.out++[aA.mk k t x'.at_ (x'.at_+n)]) b)):=λb=>RS.ok ⟨rfl,rfl,rfl,rfl,rfl,k,t,rfl,rfl⟩;refine RS.gd λ_ _=>RS.gd λ_ _=>RS.gd λ_ _=>RS.br rfl (λ_=>by rw[h];exact ok _) (λ_=>RS.jn (λv w=>w=v) (λv w h=>?_) (λj j' hj=>?_))
 ·subst h;exact RS.br rfl (λ_=>ok _) (λ_=>RS.br rfl (λ_=>RS.gd λ_ _=>RS.gd λ_ _=>RS.same λy _=>ok _) (λ_=>ok _))
 exact RS.br rfl (λ_=>hj _ _ rfl) (λ_=>RS.br rfl (λ_=>hj _ _ rfl) (λ_=>RS.br rfl (λ_=>hj _ _ rfl) (λ_=>hj _ _ rfl)))
variable {c r r':ByS}
theorem wi (r:ByS):jU (c++r) (c.length:Int)=c:=by simp[jU]
theorem Hj {s:ByS} {a:Int} (h0:0<=a) (h:dK s a=c++r):sub s a (a+(c.length:Int))=c:=by
 have h:s.drop a.toNat=c++r:=h;simp only[sub];rw[h,show (a+(c.length:Int)).toNat - a.toNat=c.length by omega];simp
abbrev NX (x x':bf) (n:Int) (y y':Bool×bf):Prop:=y'.1=y.1/\(y.1=true->SA x x' n y.2 y'.2)
theorem If (h:x'.line=x.line) (h1:dK x.text x.at_=c++r) (h2:dK x'.text x'.at_=c++r') {b:Bool} (q:rZ (c++r) false 1=((c.length:Int),b)) (q':rZ (c++r') false 1=((c.length:Int),b)) :
  RS (NX x x' c.length) (gL m x) (gL m x'):=by
 unfold gL
 refine RS.gd λg g'=>?_
 rw[h1,h2]
 refine Tk.rs xq xq ?_
 rw[q,q']
 dsimp only
 rw[Hj g.1 h1,Hj g'.1 h2]
 refine RS.br rfl (λ_=>RS.ok ⟨rfl,λh=>by cases h⟩) (λ_=>RS.gd λ_ _=>RS.gd λ_ _=>RS.br rfl (λ_=>RS.gd λ_ _=>RS.gd λ_ _=>RS.same λy _=>RS.br rfl (λ_=>RS.ok ⟨rfl,λh=>by cases h⟩) (λ_=>RS.gd λ_ _=>RS.gd λ_ _=>?_)) (λ_=>RS.same λy _=>RS.br rfl (λ_=>RS.ok ⟨rfl,λh=>by cases h⟩) (λ_=>?_)))
 ·exact RS.bind (xv h) λz z' hz=>RS.ok ⟨rfl,λ_=>hz⟩
 ·exact RS.bind (xv h) λz z' hz=>RS.ok ⟨rfl,λ_=>hz⟩
theorem Hk {r:ByS} (hc:∀ b,b∈c->b≠10) (hr:r=[]\/∃ y,r=10::y):(match mj (c++r) [10] with|some i=>((c++r).take i,(c++r).drop (i+([10]:ByS).length),true)|none=>(c++r,[],false)).1=c:=by
 have:mj (c++r) [10]=if r=[] then none else some c.length:=by
  induction c with
  | nil=>
   rcases hr with rfl|⟨y,rfl⟩
   ·rfl
   ·simp[mj,List.isPrefixOf]
  | cons b c ih=>
   have hb:=hc b (by simp)
   have e:([10]:ByS).isPrefixOf (b::(c++r))=false:=by simp[List.isPrefixOf];exact λq=>hb q.symm
   simp only[List.cons_append,mj,e]
   rw[ih λb' hb'=>hc b' (by simp[hb'])]
   by_cases q:r=[]<;>simp[q]
 rw[this];rcases hr with rfl|⟨y,rfl⟩
 ·simp
 simp
theorem wj {α β:Type} {a:α} {k:α->D β}:D.bind (.ok a) k=k a:=rfl
theorem Gi (h:x'.line=x.line) (h1:dK x.text x.at_=c++r) (h2:dK x'.text x'.at_=c++r') (h0:0<c.length) {k:Nat} (he:ext (c++r)=some (k,c.length)) (hla:LA r r') (hk:k=6->∃ y,r'=10::y) :
  RS (NX x x' c.length) (fH m x) (fH m x'):=by
 unfold fH
 refine RS.gd λg g'=>?_
 rw[h1,h2,rr,rr]
 have A:∀ {k:Int} {t:ByS},RS (NX x x' c.length) (D.bind (cf k t c.length x) λy=>.ok (true,y)) (D.bind (cf k t c.length x') λy=>.ok (true,y)):=λ{k t}=>RS.bind (xv h) λz z' hz=>RS.ok ⟨rfl,λ_=>hz⟩
 have hp:[47,47].isPrefixOf (c++r')=true->[47,47].isPrefixOf (c++r)=true:=EF hla (by
  intro i
  match i with
  | 0=>decide
  | 1=>decide
  | i+2=>simp)
 obtain ⟨d,cc,hcc⟩:∃ d cc,c=d::cc:=by
  cases c with
  | nil=>simp at h0
  | cons d cc=>exact ⟨d,cc,rfl⟩
 unfold ext at he
 split at he
 ·rename_i hpre
  simp at he
  obtain ⟨rfl,hrun⟩:=he
  have hc10:∀ b,b∈c->b≠10:=by
   intro b hb
   obtain ⟨i,hi⟩:=List.mem_iff_getElem?.1 hb
   have hil:=(List.getElem?_eq_some_iff.1 hi).1
   obtain ⟨b2,g1,g2⟩:=oH (p:=pC) (u:=c++r) (i:=0) (j:=i) (by omega)
   rw[List.getElem?_append_left hil,hi] at g1;cases g1
   simpa[pC] using g2
  have hl2:2<=c.length:=by
   rcases Nat.lt_or_ge c.length 2 with q|q
   ·exfalso
    have h1':c.length=1:=by omega
    have g1:=(qL.1 hpre) 1 (by decide)
    have:=lU (p:=pC) (u:=c++r) (i:=0) (b:=47) (by rw[hrun,h1'];exact g1)
    rw[hrun,h1'] at this;revert this;decide
   ·exact q
  have hr10:r=[]\/∃ y,r=10::y:=by
   cases r with
   | nil=>exact .inl rfl
   | cons b y=>
    have:=lU (p:=pC) (u:=c++b::y) (i:=0) (b:=b) (by rw[hrun,vx];rfl)
    exact .inr ⟨y,by rw[show b=10 by simpa[pC] using this]⟩
  rw[hpre,Ha (by exact hl2) r' r,hpre,wj,wj]
  refine RS.br rfl (λ_=>?_) (λq=>by cases q)
  unfold strings_Cut
  refine RS.bind (W:=λy y'=>y.1=c/\y'.1=c) (RS.gd λ_ _=>RS.ok ⟨Hk hc10 hr10,Hk hc10 (.inr (hk rfl))⟩) λy y' hy=>?_
  rw[hy.1,hy.2]
  exact RS.gd λ_ _=>A
 rename_i hpre
 have hpre:[47,47].isPrefixOf (c++r)=false:=eq_false_of_ne_true hpre
 have hpre':[47,47].isPrefixOf (c++r')=false:=by
  cases e:[47,47].isPrefixOf (c++r') with
  | false=>rfl
  | true=>rw[hp e] at hpre;cases hpre
 rw[hpre,hpre',wj,wj]
 refine RS.br rfl (λq=>by cases q) (λ_=>?_)
 have hw:gp (c++r')=gp (c++r):=by
  refine FX hla h0 ?_
  split at he
  ·rename_i hw
   simp at he
   have:gp (c++r)=run pW 0 (c++r):=by unfold gp at hw ⊢;split<;>simp_all
   omega
  ·rename_i hw
   unfold gp at hw
   split at hw<;>omega
 refine Tk.rs CS CS ?_
 rw[hw]
 split at he
 ·rename_i hw0
  simp at he
  rw[he.2]
  refine RS.br rfl (λ_=>RS.gd λ_ _=>?_) (λq=>by have:=of_decide_eq_false q;omega)
  rw[wi,wi];exact A
 rename_i hw0
 refine RS.br rfl (λq=>by have:=of_decide_eq_true q;omega) (λ_=>?_)
 refine RS.el λb b' _ _ hb hb'=>?_
 have hd:b=d:=by rw[hcc] at hb;simpa using hb.symm
 have hd':b'=d:=by rw[hcc] at hb';simpa using hb'.symm
 subst hd hd'
 rw[sQ]
 rw[hcc] at he
 simp only[List.cons_append] at he
 have hcl:(b'::(cc++r))=c++r:=by rw[hcc];rfl
 refine RS.same λy hy=>?_
 have hy:pE b'=y:=D.ok.inj hy
 split at he
 ·rename_i hD
  rw[hcl,<- hcc] at he
  simp at he
  rw[<- hy,hD]
  refine RS.br rfl (λ_=>?_) (λq=>by cases q)
  refine Tk.rs yE yE ?_
  rw[H0 hla he.2,he.2]
  refine RS.gd λ_ _=>?_
  rw[wi,wi]
  exact RS.same λz _=>RS.br rfl (λ_=>RS.ok ⟨rfl,λq=>by cases q⟩) (λ_=>RS.gd λ_ _=>A)
 rename_i hD
 refine RS.br rfl (λq=>absurd (hy.trans q) hD) (λ_=>?_)
 rw[kI 34 34 rfl]
 split at he
 ·rename_i h34
  refine RS.br rfl (λ_=>?_) (λq=>by simp[h34] at q)
  cases e:fw (cc++r) with
  | none=>rw[e] at he;cases he
  | some x1=>
   rw[e] at he
   simp at he
   have e2:fw (cc++r)=some (cc.length,x1.2):=by rw[e,<- he.2]
   have Q:∀ {r:ByS},fw (cc++r)=some (cc.length,x1.2)->rZ (c++r) false 1=((c.length:Int),x1.2):=by
    intro r q
    unfold rZ
    rw[hcc]
    simp only[List.cons_append,Int.toNat_one,List.drop_succ_cons,List.drop_zero,q]
    simp;omega
   refine RS.bind (If h h1 h2 (Q e2) (Q (BP e2))) λz z' hz=>RS.ok hz
 rename_i h34
 refine RS.br rfl (λq=>absurd (beq_iff_eq.1 q) h34) (λ_=>?_)
 rw[hcl,<- hcc] at he
 split at he
 ·cases he
 rename_i hop
 simp at he
 refine Tk.rs vB vB ?_
 have ho:=IX hla hop he.2
 rw[ho]
 refine RS.br rfl (λ_=>RS.ok ⟨rfl,λq=>by cases q⟩) (λ_=>?_)
 rw[he.2];exact A
structure SR (s s':ByS) (x x':bf):Prop where
 t:x.text=s
 t':x'.text=s'
 a:0<=x.at_
 a':0<=x'.at_
 an:x.at_<=s.length
 JW:x'.at_<=s'.length
 bl:Bl (s.drop x.at_.toNat) (s'.drop x'.at_.toNat)
 l:x'.line=x.line
 o:LR (TR s s') x.out x'.out
 n:Ay s' x'.at_=Ay s x.at_
def kn (n:Nat) (p0:ByS):(bf->D (List aA×cL))->bf->D (List aA×cL):=
 λnext10 (v9:bf)=>br (decide (v9.at_<(List.length p0:Int))) (el p0 v9.at_ λb16=>jn (λ(_:Unit)=>gd (cr (v9.at_+1)) (next10 ((bf.mk v9.text (v9.at_+1) v9.out v9.line)))) λj22=>br ((b16.toNat:Int)==10) (br v9.line (D.bind (cf 7 ([10]:ByS) 1 v9) λy34=>next10 ((bf.mk y34.text y34.at_ y34.out false))) (j22 ())) (br ((b16.toNat:Int)==32) (j22 ()) (br ((b16.toNat:Int)==9) (j22 ()) (br ((b16.toNat:Int)==13) (j22 ()) (D.bind (fH n v9) λy44=>br (!y44.1) (.ok ([],(cL.mk 8 y44.2.at_))) (next10 (y44.2))))))) (D.bind (cf 0 ([]:ByS) 0 v9) λy48=>.ok (y48.out,(cL.mk 0 0)))
theorem CV (n:Nat) (s:ByS):gN n s=D.br (decide ((s.length:Int)>65536)) (.ok ([],cL.mk 2 0)) (D.iter (kn n s) n ⟨s,0,[],false⟩):=rfl
theorem Gj {b:UInt8} {u:ByS} (hb:Fl b):ext (b::u)=none:=by
 rcases hb with rfl|rfl|rfl|rfl;all_goals
  have h1:∀ {n:Nat},run pW 0 (n.toUInt8::u)=0->True:=λ_=>trivial
  unfold ext
  simp[gp,run,List.isPrefixOf,pW,tR,ops,List.find?,show uU 32=false by decide,show uU 9=false by decide,show uU 13=false by decide,show uU 10=false by decide,show pE 32=false by decide,show pE 9=false by decide,show pE 13=false by decide,show pE 10=false by decide]
theorem xw {s u:ByS} {b:UInt8} {a:Int} (h0:0<=a) (h:s.drop a.toNat=b::u):s.drop (a+1).toNat=u/\s[a.toNat]?=some b/\a<s.length:=by
 have h1:s[a.toNat]?=some b:=by rw[<- List.head?_drop,h];rfl
 have h2:=(List.getElem?_eq_some_iff.1 h1).1;refine ⟨?_,h1,by omega⟩;rw[show (a+1).toNat=a.toNat+1 by omega,<- List.drop_drop,h];rfl
theorem EV {s c u:ByS} {a:Int} (h0:0<=a) (h:s.drop a.toNat=c++u):s.drop (a+(c.length:Int)).toNat=u:=by
 rw[show (a+(c.length:Int)).toNat=a.toNat+c.length by omega,<- List.drop_drop,h];simp
abbrev VT (s s':ByS) (r r':List aA×cL):Prop:=r'.2.Errno=r.2.Errno/\(r.2.Errno=0->LR (TR s s') r.1 r'.1)
theorem CW {s s':ByS}:∀ (k' k:Nat) {x x':bf},SR s s' x x'->RS (VT s s') (D.iter (kn m s) k x) (D.iter (kn m s') k' x')
 | 0,_,_,_,_=>RS.yb
 | k'+1,0,_,_,_=>RS.nil
 | k'+1,k+1,x,x',h=>by
  have ih:=λk {x x':bf} (h:SR s s' x x')=>CW (s:=s) (s':=s') k' k h;have h0:=h.a;have h0':=h.a';have hbl:=h.bl;generalize hu:s.drop x.at_.toNat=u at hbl;generalize hu':s'.drop x'.at_.toNat=u' at hbl;cases hbl with
  | nil=>
   have e:x.at_=s.length:=by have:=congrArg List.length hu;simp at this;have:=h.an;omega
   have e':x'.at_=s'.length:=by have:=congrArg List.length hu';simp at this;have:=h.JW;omega
   show RS _ (kn m s _ x) (kn m s' _ x')
   unfold kn
   rw[decide_eq_false (by omega),decide_eq_false (by omega)]
   refine RS.br rfl (λq=>by cases q) (λ_=>RS.bind (xv h.l) λz z' hz=>RS.ok ⟨rfl,λ_=>?_⟩)
   obtain ⟨kk,tt,z1,z2⟩:=hz.ho
   dsimp only
   rw[z1,z2]
   exact h.o.snoc ⟨rfl,rfl,h.n,by dsimp only;rw[Int.add_zero,Int.add_zero];exact h.n⟩
  | @ins b _ u1' hb hbl=>
   obtain ⟨d1,d2,d3⟩:=xw h0' hu'
   show RS _ _ (kn m s' (D.iter (kn m s') k') x')
   have:RS (VT s s') (D.iter (kn m s) (k+1) x) (D.iter (kn m s') k' ⟨x'.text,x'.at_+1,x'.out,x'.line⟩):=by
    refine ih (k+1) ⟨h.t,h.t',h0,by dsimp only;omega,h.an,by dsimp only;omega,by dsimp only;rw[d1,hu];exact hbl,h.l,h.o,?_⟩;dsimp only;rw[Am h0' hu',h.n];rcases hb with rfl|rfl<;>simp
   generalize D.iter (kn m s) (k+1) x=L at this ⊢
   unfold kn
   refine RS.JM (λ_=>RS.JV λb2 _ hb2=>?_) (λq=>by have:=of_decide_eq_false q;omega)
   rw[d2] at hb2;cases hb2
   have j:RS (VT s s') L (D.gd (cr (x'.at_+1)) (D.iter (kn m s') k' ⟨x'.text,x'.at_+1,x'.out,x'.line⟩)):=RS.JU λ_=>this
   rcases hb with rfl|rfl
   ·exact j
   ·exact j
  | @sp b u1 u1' hb hbl=>
   obtain ⟨d1,d2,d3⟩:=xw h0 hu
   obtain ⟨d1',d2',d3'⟩:=xw h0' hu'
   have hn:Ay s' (x'.at_+1)=Ay s (x.at_+1):=by rw[Am h0' hu',Am h0 hu,h.n]
   have J:RS (VT s s') (D.gd (cr (x.at_+1)) (D.iter (kn m s) k ⟨x.text,x.at_+1,x.out,x.line⟩)) (D.gd (cr (x'.at_+1)) (D.iter (kn m s') k' ⟨x'.text,x'.at_+1,x'.out,x'.line⟩)):=
    RS.gd λ_ _=>ih k ⟨h.t,h.t',by dsimp only;omega,by dsimp only;omega,by dsimp only;omega,by dsimp only;omega,by dsimp only;rw[d1,d1'];exact hbl,h.l,h.o,hn⟩
   show RS _ (kn m s (D.iter (kn m s) k) x) (kn m s' (D.iter (kn m s') k') x')
   unfold kn
   rw[decide_eq_true d3,decide_eq_true d3']
   refine RS.br rfl (λ_=>RS.el λb1 b2 _ _ e1 e2=>?_) (λq=>by cases q)
   rw[d2] at e1;cases e1
   rw[d2'] at e2;cases e2
   rcases hb with rfl|rfl|rfl|rfl
   ·exact J
   ·exact J
   ·exact J
   ·refine RS.br (b:=x.line) h.l (λ_=>RS.bind (xv h.l) λz z' hz=>?_) (λ_=>J);obtain ⟨kk,tt,z1,z2⟩:=hz.ho;refine ih k ⟨hz.hx.trans h.t,hz.vl.trans h.t',by dsimp only;have:=hz.ha;omega,by dsimp only;have:=hz.Hi;omega,by dsimp only;have:=hz.ha;omega,by dsimp only;have:=hz.Hi;omega,?_,rfl,?_,?_⟩
    ·dsimp only;rw[hz.ha,hz.Hi,d1,d1'];exact hbl
    ·dsimp only;rw[z1,z2];exact h.o.snoc ⟨rfl,rfl,h.n,hn⟩
    dsimp only;rw[hz.ha,hz.Hi];exact hn
  | @tok c r r' kk he hc hk hbl=>
   obtain ⟨d,cc,hcc⟩:∃ d cc,c=d::cc:=by
    cases c with
    | nil=>simp at hc
    | cons d cc=>exact ⟨d,cc,rfl⟩
   obtain ⟨_,d2,d3⟩:=xw (b:=d) (u:=cc++r) h0 (by rw[hu,hcc];rfl)
   obtain ⟨_,d2',d3'⟩:=xw (b:=d) (u:=cc++r') h0' (by rw[hu',hcc];rfl)
   have hB:¬ Fl d:=λq=>by rw[hcc,List.cons_append,Gj q] at he;cases he
   have hn:Ay s' (x'.at_+c.length)=Ay s (x.at_+c.length):=by rw[Al h0' hu',Al h0 hu,h.n]
   have l1:=congrArg List.length hu
   have l1':=congrArg List.length hu'
   simp at l1 l1'
   show RS _ (kn m s (D.iter (kn m s) k) x) (kn m s' (D.iter (kn m s') k') x')
   unfold kn
   rw[decide_eq_true d3,decide_eq_true d3']
   refine RS.br rfl (λ_=>RS.el λb1 b2 _ _ e1 e2=>?_) (λq=>by cases q)
   rw[d2] at e1;cases e1
   rw[d2'] at e2;cases e2
   rw[kI 10 10 rfl,kI 32 32 rfl,kI 9 9 rfl,kI 13 13 rfl]
   refine RS.br rfl (λq=>absurd (.inr (.inr (.inr (beq_iff_eq.1 q)))) hB) (λ_=>RS.br rfl (λq=>absurd (.inl (beq_iff_eq.1 q)) hB) (λ_=>RS.br rfl (λq=>absurd (.inr (.inl (beq_iff_eq.1 q))) hB) (λ_=>RS.br rfl (λq=>absurd (.inr (.inr (.inl (beq_iff_eq.1 q)))) hB) (λ_=>?_))))
   refine RS.bind (Gi h.l (by rw[h.t];exact hu) (by rw[h.t'];exact hu') hc he hbl.la hk) λy y' hy=>?_
   rw[hy.1]
   refine RS.br rfl (λ_=>RS.ok ⟨rfl,λq=>by simp at q⟩) (λq=>?_)
   have hz:=hy.2 (by simpa using q)
   obtain ⟨kk,tt,z1,z2⟩:=hz.ho
   refine ih k ⟨hz.hx.trans h.t,hz.vl.trans h.t',by have:=hz.ha;omega,by have:=hz.Hi;omega,by have:=hz.ha;omega,by have:=hz.Hi;omega,?_,hz.hl,?_,?_⟩
   ·rw[hz.ha,hz.Hi,EV h0 hu,EV h0' hu'];exact hbl
   ·rw[z1,z2];exact h.o.snoc ⟨rfl,rfl,h.n,hn⟩
   ·rw[hz.ha,hz.Hi];exact hn
theorem Gk {s s':ByS} (h:Bl s s') (hs:s.length<=65536) (hs':s'.length<=65536):RS (VT s s') (gN m s) (gN m s'):=by
 rw[CV,CV,decide_eq_false (by omega),decide_eq_false (by omega)];exact CW m m ⟨rfl,rfl,Int.le_refl 0,Int.le_refl 0,by simp,by simp,by simpa using h,rfl,.nil,rfl⟩
end
section
variable {C:Cx} {α β X Y:Type} {V:α->β->Prop} {m:Nat} {a:Int} {k:Bool} {q q':Option U}
theorem nr (hC:C.k8) (h0:0<=a) {x:ByS} {K:H->D α} {K':H->D β} (hk:∀ a1,a<=a1->RS V (K (bR C.s C.T a1 C.b k q)) (K' (bR C.s' C.T' (a1+C.κ) C.b' k q'))) :
  RS V (D.bind (cM m x (bR C.s C.T a C.b k q)) K) (D.bind (cM m x (bR C.s' C.T' (a+C.κ) C.b' k q')) K'):=by
 refine RS.bind (W:=λr r'=>∃ a1,r=(bR C.s C.T a1 C.b k q)/\r'=(bR C.s' C.T' (a1+C.κ) C.b' k q')/\a<=a1) ?_ λr r' h=>?_
 ·unfold cM
  refine fb hC h0 λa1 t t' h1 _ _ h4=>?_
  dsimp only
  exact jN h4 λr _=>RS.br rfl (λ_=>ik) (λ_=>RS.ok ⟨a1,rfl,rfl,h1⟩)
 ·obtain ⟨a1,rfl,rfl,h1⟩:=h
  exact hk a1 h1
theorem rv (hC:C.k8) (h0:0<=a) {x:ByS} {K:H->D α} {K':H->D β} (hk:∀ a1,a<=a1->RS V (K (bR C.s C.T a1 C.b k q)) (K' (bR C.s' C.T' (a1+C.κ) C.b' k q'))) :
  RS V (D.bind (dv m x (bR C.s C.T a C.b k q)) K) (D.bind (dv m x (bR C.s' C.T' (a+C.κ) C.b' k q')) K'):=by
 refine RS.bind (W:=λr r'=>∃ a1,r=(bR C.s C.T a1 C.b k q)/\r'=(bR C.s' C.T' (a1+C.κ) C.b' k q')/\a<=a1) ?_ λr r' h=>?_
 ·unfold dv
  refine fb hC h0 λa1 t t' h1 _ _ h4=>?_
  dsimp only
  exact og h4 λr=>RS.br rfl (λ_=>ik) (λ_=>RS.gd λ_ _=>RS.ok ⟨a1+1,rfl,by congr 1;omega,by omega⟩)
 ·obtain ⟨a1,rfl,rfl,h1⟩:=h
  exact hk a1 h1
theorem s7 (hC:C.k8) (h0:0<=a) {K:ByS×H->D α} {K':ByS×H->D β} (hk:∀ a1 x,a<=a1->RS V (K (x,(bR C.s C.T a1 C.b k q))) (K' (x,(bR C.s' C.T' (a1+C.κ) C.b' k q')))) :
  RS V (D.bind (dw m (bR C.s C.T a C.b k q)) K) (D.bind (dw m (bR C.s' C.T' (a+C.κ) C.b' k q')) K'):=by
 refine RS.bind (W:=λr r'=>∃ a1 x,r=(x,(bR C.s C.T a1 C.b k q))/\r'=(x,(bR C.s' C.T' (a1+C.κ) C.b' k q'))/\a<=a1) ?_ λr r' h=>?_
 ·unfold dw
  refine fb hC h0 λa1 t t' h1 _ _ h4=>?_
  dsimp only
  refine RS.jn (λv w=>v=(bR C.s C.T a1 C.b k q)/\w=(bR C.s' C.T' (a1+C.κ) C.b' k q')) (λv w h=>?_) (λj j' hj=>?_)
  ·obtain ⟨rfl,rfl⟩:=h
   rw[h4.2]
   exact RS.gd λ_ _=>RS.ok ⟨a1+1,_,rfl,by dsimp only;congr 2;omega,by omega⟩
  ·refine RS.br (by rw[h4.1]) (λ_=>ik) (λ_=>?_)
   rw[h4.2]
   exact RS.same λr _=>RS.br rfl (λ_=>ik) (λ_=>hj _ _ ⟨rfl,rfl⟩)
 ·obtain ⟨a1,x,rfl,rfl,h1⟩:=h
  exact hk a1 x h1
theorem Bv (hC:C.k8) (h0:0<=a) {K:gT×H->D α} {K':gT×H->D β} (hk:∀ a1 x,a<=a1->RS V (K (x,(bR C.s C.T a1 C.b k q))) (K' (x,(bR C.s' C.T' (a1+C.κ) C.b' k q')))) :
  RS V (D.bind (fe m (bR C.s C.T a C.b k q)) K) (D.bind (fe m (bR C.s' C.T' (a+C.κ) C.b' k q')) K'):=by
 refine RS.bind (W:=λr r'=>∃ a1 x,r=(x,(bR C.s C.T a1 C.b k q))/\r'=(x,(bR C.s' C.T' (a1+C.κ) C.b' k q'))/\a<=a1) ?_ λr r' h=>?_
 ·unfold fe
  refine s7 hC h0 λa1 x1 h1=>jO hC (by omega) λa2 _ h2 _ _=>lD hC (by omega) λa3 _ _ h3=>s7 hC (by omega) λa4 x4 h4=>?_
  exact RS.br rfl (λ_=>Ak) (λ_=>RS.ok ⟨a4,_,rfl,rfl,by omega⟩)
 ·obtain ⟨a1,x,rfl,rfl,h1⟩:=h
  exact hk a1 x h1
theorem mH (hC:C.k8) {n:Int} {K:aA×H->D α} {K':aA×H->D β} (hk:∀ t t',ST t t'->RS V (K (t,(bR C.s C.T a C.b k q))) (K' (t',(bR C.s' C.T' (a+C.κ) C.b' k q')))) :
  RS V (D.bind (cO n (bR C.s C.T a C.b k q)) K) (D.bind (cO n (bR C.s' C.T' (a+C.κ) C.b' k q')) K'):=by
 refine RS.bind (W:=λr r'=>∃ t t',r=(t,(bR C.s C.T a C.b k q))/\r'=(t',(bR C.s' C.T' (a+C.κ) C.b' k q'))/\ST t t') ?_ λr r' h=>?_
 ·unfold cO
  dsimp only
  have hl:=hC.len
  refine RS.gd λ_ _=>RS.gd λ_ _=>RS.el λt t' h1 h2 h3 h4=>RS.ok ⟨t,t',rfl,rfl,hC.tok _ _ _ h3 ?_⟩
  rw[<- h4];congr 1
  split at h1<;>split<;>omega
 ·obtain ⟨t,t',rfl,rfl,h1⟩:=h
  exact hk t t' h1
def Gl (C:Cx) (a:Int):Prop:=C.κ=0\/∃ (i:Nat) (t:aA),(i:Int)<a/\C.T[i]?=some t/\t.Kind≠7
theorem Gl.mono {b:Int} (h:Gl C a) (hab:a<=b):Gl C b:=h.imp_right λ⟨i,t,h1,h2⟩=>⟨i,t,by omega,h2⟩
theorem Gl.of {t:aA} (h0:0<a) (h:C.T[(a - 1).toNat]?=some t) (hk:t.Kind=5):Gl C a:=.inr ⟨_,t,by omega,h,by omega⟩
theorem Bw (hC:C.k8) (hB:Gl C a) (h0:0<=a) {K:Bool×H->D α} {K':Bool×H->D β} (hk:∀ r,RS V (K (r,(bR C.s C.T a C.b k q))) (K' (r,(bR C.s' C.T' (a+C.κ) C.b' k q')))) :
  RS V (D.bind (dO m (bR C.s C.T a C.b k q)) K) (D.bind (dO m (bR C.s' C.T' (a+C.κ) C.b' k q')) K'):=by
 refine RS.bind (W:=λr r'=>∃ x,r=(x,(bR C.s C.T a C.b k q))/\r'=(x,(bR C.s' C.T' (a+C.κ) C.b' k q'))) ?_ λr r' h=>?_
 ·unfold dO
  dsimp only
  refine RS.gd λ_ _=>?_
  refine RS.iter (λ(x y:Int)=>y=x+C.κ/\ -1<=x/\x<a/\(C.κ=0\/∃ (i:Nat) (t:aA),(i:Int)<=x/\C.T[i]?=some t/\t.Kind≠7)) (λx y h next next' hn=>?_) _ _ ⟨by omega,by omega,by omega,hB.imp_right λ⟨i,t,h1,h2⟩=>⟨i,t,by omega,h2⟩⟩
  obtain ⟨rfl,h1,h2,h3⟩:=h
  have e:decide (0<=x+(C.κ:Int))=decide (0<=x):=by
   rcases h3 with h3|⟨i,t,h4,_⟩
   ·rw[h3];simp
   ·rw[decide_eq_true (by omega),decide_eq_true (by omega)]
  refine RS.br e (λhx=>?_) (λ_=>RS.ok ⟨_,rfl,rfl⟩)
  have hx:=of_decide_eq_true hx
  refine RS.el λt t' _ _ ht ht'=>?_
  rw[tn (by omega)] at ht'
  have hs:=hC.tok _ _ _ ht ht'
  refine RS.br (by rw[hs.1]) (λ_=>?_) (λh7=>?_)
  ·refine RS.el λt2 t2' _ _ g1 g1'=>RS.el λu u' _ _ g2 g2'=>RS.gd λ_ _=>?_
   rw[tn (by omega)] at g1' g2'
   refine RS.bind (hC.nl _ _ _ _ _ _ g1 g2 g1' g2') λr r' h=>?_
   subst h
   exact RS.ok ⟨_,rfl,rfl⟩
  ·refine RS.gd λ_ _=>hn _ _ ⟨by omega,by omega,by omega,?_⟩
   refine h3.imp_right λ⟨i,u,h4,h5,h6⟩=>⟨i,u,?_,h5,h6⟩
   have:(i:Int)≠x:=λe=>by
    subst e
    simp only[Int.toNat_natCast] at ht
    rw[ht] at h5;cases h5;simp at h7;exact h6 h7
   omega
 ·obtain ⟨x,rfl,rfl⟩:=h
  exact hk x
theorem Dk (hC:C.k8) (_:0<=a) {e e':Int} (h1:1<=e) (he:e'=e+C.κ) {K:Bool×H->D α} {K':Bool×H->D β} (hk:∀ r,RS V (K (r,(bR C.s C.T a C.b k q))) (K' (r,(bR C.s' C.T' (a+C.κ) C.b' k q')))) :
  RS V (D.bind (eK m e (bR C.s C.T a C.b k q)) K) (D.bind (eK m e' (bR C.s' C.T' (a+C.κ) C.b' k q')) K'):=by
 refine RS.bind (W:=λr r'=>∃ x,r=(x,(bR C.s C.T a C.b k q))/\r'=(x,(bR C.s' C.T' (a+C.κ) C.b' k q'))) ?_ λr r' h=>?_
 ·unfold eK
  dsimp only
  subst he
  refine RS.iter (λ(x y:Int)=>y=x+C.κ/\1<=x) (λx y h next next' hn=>?_) _ _ ⟨rfl,h1⟩
  obtain ⟨rfl,h2⟩:=h
  refine RS.br (decide_eq_decide.2 (by omega)) (λ_=>?_) (λ_=>?_)
  ·refine RS.el λt t' _ _ ht ht'=>?_
   rw[tn (by omega)] at ht'
   refine jN (hC.tok _ _ _ ht ht') λr _=>RS.br rfl (λ_=>RS.ok ⟨_,rfl,rfl⟩) (λ_=>?_)
   exact RS.gd λ_ _=>hn _ _ ⟨by omega,by omega⟩
  ·refine RS.gd λ_ _=>RS.el λt t' _ _ g1 g1'=>RS.el λu u' _ _ g2 g2'=>RS.gd λ_ _=>?_
   rw[show (e+(C.κ:Int) - 1).toNat=(e - 1).toNat+C.κ by omega] at g1'
   rw[tn (by omega)] at g2'
   refine RS.bind (hC.nl _ _ _ _ _ _ g1 g2 g1' g2') λr r' h=>?_
   subst h
   exact RS.ok ⟨_,rfl,rfl⟩
 ·obtain ⟨x,rfl,rfl⟩:=h
  exact hk x
theorem Gm (hC:C.k8) (h0:0<=a) {K:Bool×H->D α} {K':Bool×H->D β} (hk:∀ a1 r,a<=a1->RS V (K (r,(bR C.s C.T a1 C.b k q))) (K' (r,(bR C.s' C.T' (a1+C.κ) C.b' k q')))) :
  RS V (D.bind (fG m (bR C.s C.T a C.b k q)) K) (D.bind (fG m (bR C.s' C.T' (a+C.κ) C.b' k q')) K'):=by
 refine RS.bind (W:=λr r'=>∃ a1 x,r=(x,(bR C.s C.T a1 C.b k q))/\r'=(x,(bR C.s' C.T' (a1+C.κ) C.b' k q'))/\a<=a1) ?_ λr r' h=>?_
 ·unfold fG
  refine fb hC h0 λa1 t t' h1 _ _ h4=>?_
  dsimp only
  refine RS.br (by rw[h4.1]) (λ_=>RS.ok ⟨a1,_,rfl,rfl,h1⟩) (λ_=>fb hC (by omega) λa2 t t' h1 _ _ h4=>?_)
  dsimp only
  exact jN h4 λr _=>RS.ok ⟨a2,_,rfl,rfl,by omega⟩
 ·obtain ⟨a1,x,rfl,rfl,h1⟩:=h
  exact hk a1 x h1
theorem An (hC:C.k8) (h0:0<=a) {K:Bool×H->D α} {K':Bool×H->D β} (hk:∀ a1 r,a<=a1->RS V (K (r,(bR C.s C.T a1 C.b k q))) (K' (r,(bR C.s' C.T' (a1+C.κ) C.b' k q')))) :
  RS V (D.bind (ez m (bR C.s C.T a C.b k q)) K) (D.bind (ez m (bR C.s' C.T' (a+C.κ) C.b' k q')) K'):=by
 refine RS.bind (W:=λr r'=>∃ a1 x,r=(x,(bR C.s C.T a1 C.b k q))/\r'=(x,(bR C.s' C.T' (a1+C.κ) C.b' k q'))/\a<=a1) ?_ λr r' h=>?_
 ·unfold ez
  refine fb hC h0 λa1 t t' h1 _ _ h4=>?_
  dsimp only
  refine jN h4 λr _=>RS.br rfl (λ_=>RS.ok ⟨a1,_,rfl,rfl,h1⟩) (λ_=>?_)
  refine RS.jn (λv w=>v.1=(bR C.s C.T a1 C.b k q)/\w.1=(bR C.s' C.T' (a1+C.κ) C.b' k q')/\w.2=v.2) (λv w h=>?_) (λj j' hj=>?_)
  ·refine RS.iter (λ(v:H×Int) (w:H×Int)=>v.1=(bR C.s C.T a1 C.b k q)/\w.1=(bR C.s' C.T' (a1+C.κ) C.b' k q')/\w.2=v.2) (λv w h next next' hn=>?_) _ _ h
   obtain ⟨p,x⟩:=v
   obtain ⟨p',x'⟩:=w
   obtain ⟨g1,g2,g3⟩:=h
   dsimp only at g1 g2 g3
   subst g1 g2 g3
   dsimp only
   refine mH hC λt t' hs=>?_
   dsimp only
   refine RS.br (by rw[hs.1]) (λ_=>RS.gd λ_ _=>hn _ _ ⟨rfl,rfl,rfl⟩) (λ_=>mH hC λt t' hs=>?_)
   dsimp only
   refine jN hs λr _=>RS.br rfl (λ_=>RS.gd λ_ _=>mH hC λt t' hs=>?_) (λ_=>RS.ok ⟨a1,_,rfl,rfl,h1⟩)
   dsimp only
   exact jN hs λr _=>RS.ok ⟨a1,_,rfl,rfl,h1⟩
  ·refine mH hC λt t' hs=>?_
   dsimp only
   refine og hs λr=>RS.br rfl (λ_=>mH hC λt t' hs=>?_) (λ_=>hj _ _ ⟨rfl,rfl,rfl⟩)
   dsimp only
   refine jN hs λr _=>RS.br rfl (λ_=>RS.ok ⟨a1,_,rfl,rfl,h1⟩) (λ_=>mH hC λt t' hs=>?_)
   dsimp only
   exact RS.br (by rw[hs.1]) (λ_=>RS.ok ⟨a1,_,rfl,rfl,h1⟩) (λ_=>hj _ _ ⟨rfl,rfl,rfl⟩)
 ·obtain ⟨a1,x,rfl,rfl,h1⟩:=h
  exact hk a1 x h1
theorem Dl (hC:C.k8) (h0:0<=a) {d d':Z} (hd:DD d d') {K:H×Z->D α} {K':H×Z->D β}
  (hk:∀ a1 d d',a<=a1->DD d d'->RS V (K ((bR C.s C.T a1 C.b k none),d)) (K' ((bR C.s' C.T' (a1+C.κ) C.b' k none),d'))):RS V (D.bind (fF m true (bR C.s C.T a C.b k none) d) K) (D.bind (fF m true (bR C.s' C.T' (a+C.κ) C.b' k none) d') K'):=by
 refine yd (k:=k) (a:=a) (P:=DD) ?_ λv w a1 h1 h3=>hk a1 v w h1 h3
 unfold fF
 refine yd (k:=true) (a:=a) (P:=DD) ?_ λv w a1 h1 h3=>RS.ok ⟨.mk h1,h3⟩
 unfold iw
 dsimp only
 refine RS.jn (λv w=>Rl C true a v.1 w.1/\DD v.2 w.2) (λv w h=>?_) (λj j' hj=>?_)
 ·obtain ⟨p,x⟩:=v
  obtain ⟨p',x'⟩:=w
  obtain ⟨⟨a1,g1,g2,g3⟩,g5⟩:=h
  dsimp only at g1 g2 g5
  subst g1 g2
  dsimp only
  refine RS.gd λ_ _=>?_
  rw[show a1+(C.κ:Int)+1=a1+1+C.κ by omega]
  exact nr hC (by omega) λa2 h2=>RS.ok ⟨.mk (by omega),g5⟩
 ·refine kY hC h0 (λa1 t h1 _ _=>?_) (λa1 h1=>?_)
  ·dsimp only
   refine RS.br rfl (λ_=>fb hC (by omega) λa2 t t' h2 _ _ hs=>?_) (λh=>by cases h)
   dsimp only
   rw[hs.2]
   refine RS.same λy _=>RS.br rfl (λ_=>ik) (λ_=>hj _ _ ⟨.mk (by omega),?_⟩)
   have hx:=hd.x
   dsimp only
   rw[hx.k,hx.p,hx.a,hx.b,hx.tl,hx.ld,hx.tr]
   exact .of hx.s hx.d
  ·exact RS.br rfl (λh=>by cases h) (λ_=>hj _ _ ⟨.mk h1,hd⟩)
theorem s8 {v v':Int}:∀ (n:Nat) {e e':U} {p p':H},EE e e'->RS (λr r'=>r.2=p/\r'.2=p'/\EE r.1 r'.1) (bm n e v p) (bm n e' v' p')
 | 0,_,_,_,_,_=>RS.nil
 | n+1,e,e',p,p',he=>by
  have hx:=he.x;show RS _ (eO n (eN n) e v p) (eO n (eN n) e' v' p');unfold eO;rw[hx.k,hx.t,hx.n,hx.a,hx.b,hx.tl];refine RS.br rfl (λ_=>?_) (λ_=>RS.br rfl (λ_=>?_) (λ_=>RS.ok ⟨rfl,rfl,he⟩))
  ·refine RS.el λx x' _ _ hx1 hx1'=>RS.el λy y' _ _ hy1 hy1'=>?_;refine RS.bind (s8 n (hx.s.2 _ _ _ hx1 hx1')) λr r' h=>?_;rw[h.1,h.2.1];refine RS.bind (s8 n (hx.s.2 _ _ _ hy1 hy1')) λw w' h'=>RS.ok ⟨h'.1,h'.2.1,.of (.two h.2.2 h'.2.2) hx.d⟩
  refine RS.iter (λ(x:H×List Z×Int) (y:H×List Z×Int)=>x.1=p/\y.1=p'/\LR DD x.2.1 y.2.1/\y.2.2=x.2.2) (λx y h next next' hn=>?_) _ _ ⟨rfl,rfl,.nil,rfl⟩;obtain ⟨h1,h2,h3,h4⟩:=h;rw[h4,<- hx.d.1];refine RS.br rfl (λ_=>?_) (λ_=>RS.ok ⟨h1,h2,.of hx.s h3⟩);refine RS.el λd d' _ _ hd hd'=>?_;have hdr:=hx.d.2 _ _ _ hd hd';have hdx:=hdr.x;refine RS.jn (λx y=>x.1=p/\y.1=p'/\DD x.2 y.2) (λx y h=>?_) (λj j' hj=>?_)
  ·exact RS.gd λ_ _=>RS.gd λ_ _=>hn _ _ ⟨h.1,h.2.1,h3.snoc h.2.2,rfl⟩
  rw[hdx.k];refine RS.jn (λx y=>y=x) (λx y h=>?_) (λj2 j2' hj2=>?_)
  ·subst h;refine RS.br rfl (λ_=>Ak) (λ_=>?_);refine RS.jn (λx y=>y=x) (λx y h=>?_) (λj2 j2' hj2=>?_)
   ·subst h;refine RS.br rfl (λ_=>?_) (λ_=>hj _ _ ⟨h1,h2,hdr⟩);refine RS.el λx x' _ _ hx1 hx1'=>?_;rw[h1,h2];refine RS.bind (s8 n (hdx.s.2 _ _ _ hx1 hx1')) λr r' h=>hj _ _ ⟨h.1,h.2.1,?_⟩;dsimp only;rw[hdx.p,hdx.t,hdx.a,hdx.b,hdx.tl,hdx.ld,hdx.tr];exact .of (.one h.2.2) hdx.d
   exact RS.br rfl (λ_=>hj2 _ _ rfl) (λ_=>RS.br rfl (λ_=>hj2 _ _ rfl) (λ_=>hj2 _ _ rfl))
  exact RS.br rfl (λ_=>hj2 _ _ rfl) (λ_=>hj2 _ _ rfl)
theorem qz {e e':U} (he:EE e e') {v v':Int} {p p':H} {K:U×H->D α} {K':U×H->D β} (hk:∀ x x',EE x x'->RS V (K (x,p)) (K' (x',p'))) :
  RS V (D.bind (bm m e v p) K) (D.bind (bm m e' v' p') K'):=by
 refine RS.bind (s8 m he) λr r' h=>?_
 obtain ⟨x,p1⟩:=r
 obtain ⟨x',p1'⟩:=r'
 obtain ⟨h1,h2,h3⟩:=h
 dsimp only at h1 h2
 subst h1 h2
 exact hk x x' h3
end
section
variable {s:ByS} {T:List aA} {b:Int}
def Az (s:ByS) (T:List aA) (b:Int) (K c:Nat) (F:Nat->H->D (U×H)):Prop:=∀ {m:Nat->Nat} {a:Int} {k:Bool} {q:Option U},cq m->0<=a->a<T.length->QS q->64*(T.length - a).toNat+c<K->Ev (λi=>F (m i) (bR s T a b k q)) (λr=>St s T b k a 0 r.2/\ky r.1) (PP (b+s.length))
structure PG (s:ByS) (T:List aA) (b:Int) (K:Nat):Prop where
 expr:∀ {j:Bool},Az s T b K 13 (λn=>aG n j)
 alt:∀ {j:Bool},Az s T b K 12 (λn=>bz n j)
 Ao:∀ {j:Bool},Az s T b K 11 (λn=>bA n j)
 bin:∀ {m:Nat->Nat} {a l:Int} {k:Bool} {q:Option U} {j:Bool},cq m->0<=a->a<T.length->QS q->0<=l->l<=5->64*(T.length - a).toNat+(10 - l).toNat<K->Ev (λi=>bM (m i) l j (bR s T a b k q)) (λr=>St s T b k a 0 r.2/\ky r.1) (PP (b+s.length))
 unary:∀ {j:Bool},Az s T b K 4 (λn=>cw n j)
 post:∀ {j:Bool},Az s T b K 3 (λn=>bX n j)
 EW:∀ {j:Bool},Az s T b K 2 (λn=>cE n j)
 named:∀ {m:Nat->Nat} {a:Int} {k:Bool} {q:Option U} {t:aA},cq m->0<=a->a<T.length->QS q->T[a.toNat]?=some t->t.Kind=1->64*(T.length - a).toNat+1<K->Ev (λi=>cX (m i) (bR s T a b k q)) (λr=>St s T b k a 0 r.2/\ky r.1) (PP (b+s.length))
 xx:∀ {m:Nat->Nat} {a:Int} {k:Bool} {q:Option U} {t:aA},cq m->0<=a->a<T.length->T[a.toNat]?=some t->t.Kind=4->64*(T.length - a).toNat+1<K->Ev (λi=>cQ (m i) t (b+t.Pos) (bR s T a b k q)) (λr=>r.2=bR s T a b k q/\ky r.1) (PP (b+s.length))
 parens:∀ {m:Nat->Nat} {a:Int} {k:Bool} {q:Option U} {j:Bool},cq m->0<=a->a<T.length->QS q->64*(T.length - a).toNat+1<K->Ev (λi=>ck (m i) j (bR s T a b k q)) (λr=>St s T b k (a+1) 0 r.2/\ky r.1) (PP (b+s.length))
 xy:∀ {j:Bool},Az s T b K 1 (λn=>cP n j)
 list:Az s T b K 1 db
 block:∀ {m:Nat->Nat} {a:Int} {k:Bool} {q:Option U} {j:Bool},cq m->0<=a->a<T.length->QS q->64*(T.length - a).toNat<K->Ev (λi=>bW (m i) j (bR s T a b k q)) (λr=>St s T b k a 0 r.2.2/\r.1.length<=70000/\(∀ d,d∈r.1->lI d)/\r.2.1.length<=70000/\∀ x,x∈r.2.1->x.length<=65536) (PP (b+s.length))
 args:∀ {m:Nat->Nat} {a:Int} {k:Bool} {q:Option U},cq m->0<=a->a<T.length->QS q->64*(T.length - a).toNat+1<K->Ev (λi=>c8 (m i) (bR s T a b k q)) (λr=>St s T b k a 0 r.2/\r.1.length<=70000/\∀ x,x∈r.1->ky x) (PP (b+s.length))
 item:Az s T b K 14 da
 field:∀ {m:Nat->Nat} {a:Int} {k:Bool} {q:Option U} {j:Bool} {d:Z} {t:aA},cq m->0<=a->a<T.length->QS q->lI d->T[a.toNat]?=some t->t.Kind≠0->t.Kind≠7->64*(T.length - a).toNat+14<K->Ev (λi=>cW (m i) j (bR s T a b k q) d) (λr=>St s T b k a 0 r.1/\lI r.2) (PP (b+s.length))
 pattern:∀ {m:Nat->Nat} {a:Int} {k:Bool} {q:Option U} {j:Bool} {d:Z},cq m->0<=a->a<T.length->QS q->lI d->Bu T a->64*(T.length - a).toNat+14<K->Ev (λi=>cD (m i) j (bR s T a b k q) d) (λr=>St s T b k a 0 r.1/\lI r.2) (PP (b+s.length))
 ur:∀ {m:Nat->Nat} {a:Int} {k:Bool} {q:Option U} {j:Bool} {d:Z},cq m->0<=a->a<T.length->QS q->lI d->64*(T.length - a).toNat+14<K->Ev (λi=>cC (m i) j (bR s T a b k q) d) (λr=>St s T b k a 0 r.1/\lI r.2) (PP (b+s.length))
 decl:∀ {m:Nat->Nat} {a:Int} {k:Bool} {q:Option U} {j:Bool} {t:aA},cq m->0<=a->a<T.length->QS q->T[a.toNat]?=some t->t.Kind≠0->t.Kind≠7->64*(T.length - a).toNat+17<K->Ev (λi=>cj (m i) j (bR s T a b k q)) (λr=>St s T b k a 0 r.2/\lI r.1) (PP (b+s.length))
 decls:∀ {m:Nat->Nat} {a:Int} {k:Bool} {q:Option U} {j:Bool},cq m->0<=a->a<T.length->QS q->64*(T.length - a).toNat+18<K->Ev (λi=>dh (m i) j (bR s T a b k q)) (λr=>St s T b k a 0 r.2.2/\r.1.length<=70000/\(∀ d,d∈r.1->lI d)/\r.2.1.length<=70000/\∀ x,x∈r.2.1->x.length<=65536) (PP (b+s.length))
variable {K:Nat} {m:Nat->Nat} {a:Int} {k:Bool} {q:Option U} {j:Bool}
theorem Gn (hC:PC s T b) (ih:PG s T b K):Az s T b (K+1) 13 (λn=>aG n j):=by
 intro m a k q hm h0 h1 hq hK;refine Ev.grow (F:=λn=>aG n j (bR s T a b k q)) hm λm hm=>?_;show Ev (λi=>fM (m i) (ai (m i)) j (bR s T a b k q)) _ _;unfold fM;have hl:=hC.lJ;dsimp only;refine Ev.jn (λv=>St s T b k a 0 v.1) (λv hv=>?_) (λjj hj=>?_)
 ·obtain ⟨p,w⟩:=v;obtain ⟨a1,q1,hp,h2,h3,hq1⟩:=hv;dsimp only at hp;subst hp;dsimp only;refine Ev.jn (λv=>St s T b k a 0 v.1/\ky v.2) (λv hv=>?_) (λjj hj=>?_)
  ·obtain ⟨p,e⟩:=v;obtain ⟨⟨a2,q2,hp,h4,h5,hq2⟩,he⟩:=hv;dsimp only at hp he;subst hp;dsimp only;refine Ev.jn (λv=>St s T b k a 0 v) (λv hv=>?_) (λjj hj=>?_)
   ·obtain ⟨a3,q3,rfl,h6,h7,hq3⟩:=hv;dsimp only;refine Ev.jn (λv=>St s T b k a 0 v) (λv hv=>?_) (λjj hj=>?_)
    ·obtain ⟨a4,q4,rfl,h8,h9,hq4⟩:=hv;refine k5 hm hC (by omega) (by omega) λa5 t v h10 h11 _ _ _ h12 h13=>?_;dsimp only;refine qy hm h12 h13 he λx hx=>?_;dsimp only;refine Ev.iter hm (λ(x:H×List U)=>St s T b k a 0 x.1/\1<=x.2.length/\(x.2.length:Int)<=x.1.at_+1/\∀ e,e∈x.2->ky e) (λx=>(T.length - x.1.at_).toNat) ⟨⟨_,q4,rfl,by omega,by omega,hq4⟩,by simp,by simp;omega,by simpa using hx⟩ ?_;rintro ⟨p,l⟩ ⟨⟨a6,q6,hp,h14,h15,hq6⟩,hl1,hl2,hl3⟩ next hn;dsimp only at hp hl1 hl2 hl3;subst hp;dsimp only at hn hl2 ⊢;refine kX hm hC (by omega) (by omega) (λa7 t h16 h17 _ _ _ _=>?_) (λa7 t h16 h17 _ _ _ _=>?_)
     ·dsimp only;refine Ev.cR (fX (ih.alt hm (by omega) h17 hq6 (by omega)) λe a8 q8 h18 h19 hq8 he8=>?_);dsimp only;refine Ev.gA (hn _ ⟨⟨a8,q8,rfl,by omega,h19,hq8⟩,by simp,by simp;omega,λz hz=>?_⟩ (by dsimp only;omega));rcases List.mem_append.1 hz with w|w
      ·exact hl3 z w
      simp at w;subst w;exact he8
     dsimp only;refine Ev.cA (Ev.eA λx hx=>Ev.ok ⟨⟨a7,q6,rfl,by omega,by omega,hq6⟩,.of (by omega) (by simp) hl3⟩)
    refine fa hm hC (by omega) (by omega) λa4 t h8 h9 _ _ _=>?_;dsimp only;refine jL λr _ _=>Ev.bt (λ_=>ij hm hC (by omega) h9 (by omega)) (λ_=>hj _ ⟨a4,q3,rfl,by omega,by omega,hq3⟩)
   refine Ev.bt (λ_=>?_) (λ_=>hj _ ⟨a2,q2,rfl,h4,h5,hq2⟩);refine fa hm hC (by omega) (by omega) λa4 t h8 h9 _ _ _=>?_;dsimp only;exact jL λr _ _=>Ev.bt (λ_=>Ev.ok ⟨⟨a4,q2,rfl,by omega,by omega,hq2⟩,he⟩) (λ_=>hj _ ⟨a4,q2,rfl,by omega,by omega,hq2⟩)
  refine Ev.br (λ_=>fX (ih.alt hm (by omega) (by omega) hq1 (by omega)) λe a2 q2 h4 h5 hq2 he=>hj _ ⟨⟨a2,q2,rfl,by omega,h5,hq2⟩,he⟩) (λ_=>fX (ih.alt hm (by omega) (by omega) hq1 (by omega)) λe a2 q2 h4 h5 hq2 he=>hj _ ⟨⟨a2,q2,rfl,by omega,h5,hq2⟩,he⟩)
 refine Ev.br (λ_=>?_) (λ_=>hj _ ⟨a,q,rfl,by omega,by omega,hq⟩);refine fa hm hC h0 h1 λa4 t h8 h9 _ _ _=>?_;dsimp only;exact jL λr _ _=>hj _ ⟨a4,q,rfl,by omega,by omega,hq⟩
theorem Ig (hC:PC s T b) (ih:PG s T b K):Az s T b (K+1) 12 (λn=>bz n j):=by
 intro m a k q hm h0 h1 hq hK;refine Ev.grow (F:=λn=>bz n j (bR s T a b k q)) hm λm hm=>?_;show Ev (λi=>dC (m i) (ai (m i)) j (bR s T a b k q)) _ _;unfold dC;have hl:=hC.lJ;dsimp only;refine Ev.br (λ_=>?_) (λ_=>?_)
 ·refine k5 hm hC h0 h1 λa2 t v h2 h3 _ _ _ _ _=>?_;dsimp only;refine kX hm hC (by omega) h3 (λa3 t h4 h5 _ _ _ _=>?_) (λa3 t h4 h5 _ _ _ _=>?_)
  ·dsimp only;exact Ev.cR (fX (ih.Ao hm (by omega) h5 hq (by omega)) λe a4 q4 h6 h7 hq4 he=>Ev.ok ⟨⟨a4,q4,rfl,by omega,h7,hq4⟩,.one (by decide) he⟩)
  dsimp only;exact Ev.cA (fX (ih.Ao hm (by omega) h5 hq (by omega)) λe a4 q4 h6 h7 hq4 he=>Ev.ok ⟨⟨a4,q4,rfl,by omega,h7,hq4⟩,he⟩)
 exact fX (ih.Ao hm (by omega) h1 hq (by omega)) λe a4 q4 h6 h7 hq4 he=>Ev.ok ⟨⟨a4,q4,rfl,by omega,h7,hq4⟩,he⟩
theorem Gp (hC:PC s T b) (ih:PG s T b K):Az s T b (K+1) 11 (λn=>bA n j):=by
 intro m a k q hm h0 h1 hq hK;refine Ev.grow (F:=λn=>bA n j (bR s T a b k q)) hm λm hm=>?_;show Ev (λi=>dD (m i) (ai (m i)) j (bR s T a b k q)) _ _;unfold dD;refine fX (ih.bin hm h0 h1 hq (by omega) (by omega) (by omega)) λe a2 q2 h2 h3 hq2 he=>?_;dsimp only;refine Ev.iter hm (λ(x:H×U)=>St s T b k a 0 x.1/\ky x.2) (λx=>(T.length - x.1.at_).toNat) ⟨⟨a2,q2,rfl,h2,h3,hq2⟩,he⟩ ?_;rintro ⟨p,e⟩ ⟨⟨a3,q3,hp,h4,h5,hq3⟩,he⟩ next hn;dsimp only at hp he;subst hp;dsimp only at hn ⊢;refine kX hm hC (by omega) (by omega) (λa4 t h6 h7 _ _ _ _=>?_) (λa4 t h6 h7 _ _ _ _=>?_)
 ·dsimp only;exact Ev.cR (fX (ih.bin hm (by omega) h7 hq3 (by omega) (by omega) (by omega)) λe2 a5 q5 h8 h9 hq5 he5=>hn _ ⟨⟨a5,q5,rfl,by omega,h9,hq5⟩,.two he he5⟩ (by dsimp only;omega))
 exact Ev.cA (Ev.ok ⟨⟨a4,q3,rfl,by omega,by omega,hq3⟩,he⟩)
theorem Ap {l:Int}:Ev (λ_=>kU l) (λr=>r.length<=100) gP:=by
 unfold kU
 (repeat' (with_reducible first|refine Ev.gA ?_|refine Ev.eA (λ_ _=>?_)|apply Ev.cR|apply Ev.cA|(first|apply Ev.aO|apply Ev.bw|apply Ev.bP|apply Ev.bt|apply Ev.br)<;>intro _|(apply Ev.kP;try dsimp only)))
 all_goals exact Ev.ok (by simp)
theorem Ih (hC:PC s T b) (ih:PG s T b K) {l:Int} (hm:cq m) (h0:0<=a) (h1:a<T.length) (hq:QS q) (hl0:0<=l) (hl5:l<=5) (hK:64*(T.length - a).toNat+(10 - l).toNat<K+1) :
  Ev (λi=>bM (m i) l j (bR s T a b k q)) (λr=>St s T b k a 0 r.2/\ky r.1) (PP (b+s.length)):=by
 refine Ev.grow (F:=λn=>bM n l j (bR s T a b k q)) hm λm hm=>?_
 show Ev (λi=>eS (m i) (ai (m i)) l j (bR s T a b k q)) _ _
 unfold eS
 have hl:=hC.lJ
 refine Ev.aO (λ_=>fX (ih.unary hm h0 h1 hq (by omega)) λe a4 q4 h6 h7 hq4 he=>Ev.ok ⟨⟨a4,q4,rfl,by omega,h7,hq4⟩,he⟩) (λ_=>?_)
 refine Ev.gA (fX (ih.bin hm h0 h1 hq (by omega) (by omega) (by omega)) λe a2 q2 h2 h3 hq2 he=>?_)
 dsimp only
 refine Ev.iter hm (λ(x:H×U)=>St s T b k a 0 x.1/\ky x.2) (λx=>(T.length - x.1.at_).toNat) ⟨⟨a2,q2,rfl,h2,h3,hq2⟩,he⟩ ?_
 rintro ⟨p,e⟩ ⟨⟨a3,q3,hp,h4,h5,hq3⟩,he⟩ next hn
 dsimp only at hp he;subst hp;dsimp only at hn ⊢
 refine fa hm hC (by omega) (by omega) λa4 t h6 h7 ht h8 _=>?_
 dsimp only
 refine Ev.fy Ap λops hops=>uo hm (by omega) λr hr=>Ev.br (λhr1=>?_) (λ_=>Ev.ok ⟨⟨a4,q3,rfl,by omega,by omega,hq3⟩,he⟩)
 have hk5:=hr hr1
 have hnx:=hC.next (by omega) ht (by omega)
 refine k5 hm hC (by omega) h7 λa5 t5 v h9 h10 _ h11 _ h12 h13=>?_
 have e5:=h11 t ht h8
 subst e5
 dsimp only
 refine qy hm h12 h13 he λx hx=>?_
 dsimp only
 refine fa hm hC (by omega) h7 λa6 t6 h14 h15 _ _ h16=>?_
 have e6:=h16 t ht h8
 subst e6
 dsimp only
 refine Ev.gA (Ev.gA (fX (ih.bin hm (by omega) hnx hq3 (by omega) (by omega) (by omega)) λe2 a7 q7 h17 h18 hq7 he7=>hn _ ⟨⟨a7,q7,rfl,by omega,h18,hq7⟩,.two hx he7⟩ (by dsimp only;omega)))
theorem EX (hC:PC s T b) (ih:PG s T b K):Az s T b (K+1) 4 (λn=>cw n j):=by
 intro m a k q hm h0 h1 hq hK;refine Ev.grow (F:=λn=>cw n j (bR s T a b k q)) hm λm hm=>?_;show Ev (λi=>fm (m i) (ai (m i)) j (bR s T a b k q)) _ _;unfold fm;have hl:=hC.lJ;dsimp only;refine Ev.br (λ_=>fX (ih.post hm h0 h1 hq (by omega)) λe a4 q4 h6 h7 hq4 he=>Ev.ok ⟨⟨a4,q4,rfl,by omega,h7,hq4⟩,he⟩) (λ_=>?_);refine fa hm hC h0 h1 λa2 t h2 h3 ht h4 _=>?_;dsimp only;refine k5 hm hC (by omega) h3 λa5 t5 v h9 h10 _ h11 _ h12 h13=>?_;have e5:=h11 t ht h4;subst e5;dsimp only;refine Ev.jn (λv=>v≠16/\t.Kind=5) (λw hw=>?_) (λjj hj=>?_)
 ·have hnx:=hC.next (by omega) ht (by omega);exact Ev.gA (fX (ih.unary hm (by omega) hnx hq (by omega)) λe a4 q4 h6 h7 hq4 he=>Ev.ok ⟨⟨a4,q4,rfl,by omega,h7,hq4⟩,.one hw.1 he⟩)
 refine uo hm (by simp) λr hr=>Ev.br (λhr1=>hj _ ⟨by decide,hr hr1⟩) (λ_=>?_);refine uo hm (by simp) λr hr=>Ev.br (λhr1=>hj _ ⟨by decide,hr hr1⟩) (λ_=>?_);exact fX (ih.post hm (by omega) h3 hq (by omega)) λe a4 q4 h6 h7 hq4 he=>Ev.ok ⟨⟨a4,q4,rfl,by omega,h7,hq4⟩,he⟩
theorem EY (hC:PC s T b) (ih:PG s T b K) (hm:cq m) (h0:0<=a) (h1:a<T.length) (hq:QS q) (hK:64*(T.length - a).toNat+13<K) {e:U} (he:ky e) :
  Ev (λi=>c6 (m i) true (bR s T a b k q) e) (λr=>St s T b k a 1 r.1/\ky r.2) (PP (b+s.length)):=by
 refine Ev.grow (F:=λn=>c6 n true (bR s T a b k q) e) hm λm hm=>?_
 show Ev (λi=>dX (m i) (ai (m i)) true (bR s T a b k q) e) _ _
 unfold dX
 dsimp only
 refine fX (k:=true) (a:=a) (d:=1) (P:=ky) ?_ λx a' q' h2 h3 h4 h5=>Ev.ok ⟨⟨a',q',rfl,h2,h3,h4⟩,h5⟩
 refine Ev.grow (F:=λn=>eB n e (bR s T a b true q)) hm λm hm=>?_
 show Ev (λi=>dU (m i) (ai (m i)) e (bR s T a b true q)) _ _
 unfold dU
 refine fX (ih.expr hm h0 h1 hq hK) λx a2 q2 h2 h3 h4 h5=>?_
 dsimp only
 exact nq hm hC (by omega) (by omega) (by omega) λa3 t h6 h7 _ _ _=>Ev.ok ⟨⟨a3,q2,rfl,by omega,h7,h4⟩,.two he h5⟩
theorem Gq (hC:PC s T b) (ih:PG s T b K):Az s T b (K+1) 3 (λn=>bX n j):=by
 intro m a k q hm h0 h1 hq hK;refine Ev.grow (F:=λn=>bX n j (bR s T a b k q)) hm λm hm=>?_;show Ev (λi=>eF (m i) (ai (m i)) j (bR s T a b k q)) _ _;unfold eF;have hl:=hC.lJ;refine fX (ih.EW hm h0 h1 hq (by omega)) λe a2 q2 h2 h3 hq2 he=>?_;dsimp only;refine Ev.iter hm (λ(x:H×U)=>St s T b k a 0 x.1/\ky x.2) (λx=>(T.length - x.1.at_).toNat) ⟨⟨a2,q2,rfl,h2,h3,hq2⟩,he⟩ ?_;rintro ⟨p,e⟩ ⟨⟨a3,q3,hp,h4,h5,hq3⟩,he⟩ next hn;dsimp only at hp he;subst hp;dsimp only at hn ⊢;refine fa hm hC (by omega) (by omega) λa4 t h6 h7 ht h8 _=>?_;dsimp only;refine k5 hm hC (by omega) h7 λa5 t5 v h9 h10 _ h11 _ h12 h13=>?_;have e5:=h11 t ht h8;subst e5;dsimp only;refine jL λr hr _=>Ev.br (λhr1=>?_) (λ_=>?_)
 ·have hk5:=(hr hr1).1;have hnx:=hC.next (by omega) ht (by omega);refine qy hm h12 h13 he λx hx=>?_;dsimp only;refine Ev.gA (fa hm hC (by omega) hnx λa6 t6 h14 h15 ht6 _ _=>?_);dsimp only;refine Ev.jn (λv=>v=bR s T a6 b k q3/\t6.Kind≠0) (λv hv=>?_) (λjj hj=>?_)
  ·obtain ⟨rfl,h16⟩:=hv;have hnx6:=hC.next (by omega) ht6 h16;exact Ev.gA (hn _ ⟨⟨a6+1,q3,rfl,by omega,by omega,hq3⟩,.one (by decide) hx⟩ (by dsimp only;omega))
  exact xr hm λr hr=>Ev.bt (λ_=>ij hm hC (by omega) h15 (by omega)) (λhr1=>hj _ ⟨rfl,by have:=hr hr1;omega⟩)
 refine jL λr hr _=>Ev.br (λhr1=>?_) (λ_=>Ev.ok ⟨⟨a5,q3,rfl,by omega,by omega,hq3⟩,he⟩);have hk5:=(hr hr1).1;have hnx:=hC.next (by omega) ht (by omega);refine qy hm h12 h13 he λx hx=>?_;dsimp only;refine Ev.gA (tA (EY hC ih hm (by omega) hnx hq3 (by omega) hx) λx a6 q6 h14 h15 hq6 hx6=>?_);dsimp only;exact Ev.gA (hn _ ⟨⟨a6+1,q6,rfl,by omega,by omega,hq6⟩,hx6⟩ (by dsimp only;omega))
end
section
variable {s:ByS} {T:List aA} {b:Int} {K:Nat} {m:Nat->Nat} {a:Int} {k:Bool} {q:Option U} {j:Bool}
theorem Gr (hC:PC s T b) (ih:PG s T b K):Az s T b (K+1) 2 (λn=>cE n j):=by
 intro m a k q hm h0 h1 hq hK;refine Ev.grow (F:=λn=>cE n j (bR s T a b k q)) hm λm hm=>?_;show Ev (λi=>eG (m i) (ai (m i)) j (bR s T a b k q)) _ _;unfold eG;have hl:=hC.lJ;dsimp only;cases q with
 | some e=>exact Ev.cR (Ev.some rfl (Ev.ok ⟨⟨a,none,rfl,by omega,by omega,.none⟩,hq e rfl⟩))
 | none=>
  refine Ev.cA ?_
  refine fa hm hC h0 h1 λa2 t h2 h3 ht h4 _=>?_
  dsimp only
  refine k5 hm hC (by omega) h3 λa5 t5 v h9 h10 ht5 h11 hv h12 h13=>?_
  have e5:=h11 t ht h4
  subst e5
  rw[ht] at ht5;cases ht5
  dsimp only
  refine Ev.jn (λv=>v.1=bR s T a5 b k none/\ky v.2/\t.Kind≠0) (λw hw=>?_) (λjj hj=>?_)
  ·obtain ⟨p,e⟩:=w;obtain ⟨hp,he,hk⟩:=hw;dsimp only at hp he;subst hp;dsimp only;have hnx:=hC.next (by omega) ht hk;exact Ev.gA (Ev.ok ⟨⟨a5+1,none,rfl,by omega,by omega,.none⟩,he⟩)
  ·refine Ev.bw (λhk=>?_) (λ_=>?_)
   ·exact fX (ih.named hm (by omega) h3 .none ht hk (by omega)) λe a4 q4 h6 h7 hq4 he=>Ev.ok ⟨⟨a4,q4,rfl,by omega,h7,hq4⟩,he⟩
   refine Ev.bw (λhk=>?_) (λ_=>?_)
   ·exact Ev.fy (sN hm) λy _=>hj _ ⟨rfl,.leaf (by decide),by omega⟩
   refine Ev.bw (λhk=>hj _ ⟨rfl,.leaf (by decide),by omega⟩) (λ_=>?_);refine Ev.bw (λhk=>?_) (λ_=>?_)
   ·rw[hv];refine Ev.aN (ih.xx hm (by omega) h3 ht hk (by omega)) λy hy=>?_;exact hj _ ⟨hy.1,hy.2,by omega⟩
   refine jL λr hr _=>Ev.br (λhr1=>hj _ ⟨rfl,.leaf (by decide),by have:=(hr hr1).1;omega⟩) (λ_=>?_);refine jL λr hr _=>Ev.br (λhr1=>hj _ ⟨rfl,.leaf (by decide),by have:=(hr hr1).1;omega⟩) (λ_=>?_);refine jL λr hr _=>Ev.br (λhr1=>?_) (λ_=>?_)
   ·exact fX (ih.parens hm (by omega) h3 .none (by omega)) λe a4 q4 h6 h7 hq4 he=>Ev.ok ⟨⟨a4,q4,rfl,by omega,h7,hq4⟩,he⟩
   refine jL λr hr _=>Ev.br (λhr1=>?_) (λ_=>?_)
   ·exact fX (ih.xy hm (by omega) h3 .none (by omega)) λe a4 q4 h6 h7 hq4 he=>Ev.ok ⟨⟨a4,q4,rfl,by omega,h7,hq4⟩,he⟩
   refine jL λr hr _=>Ev.br (λhr1=>?_) (λ_=>?_)
   ·exact fX (ih.list hm (by omega) h3 .none (by omega)) λe a4 q4 h6 h7 hq4 he=>Ev.ok ⟨⟨a4,q4,rfl,by omega,h7,hq4⟩,he⟩
   exact ij hm hC (by omega) h3 (by omega)
theorem EZ (hC:PC s T b) (ih:PG s T b K) (hm:cq m) (h0:0<=a) (h1:a<T.length) (hq:QS q) {t:aA} (ht:T[a.toNat]?=some t) (hk:t.Kind=1) (hK:64*(T.length - a).toNat+1<K+1) :
  Ev (λi=>cX (m i) (bR s T a b k q)) (λr=>St s T b k a 0 r.2/\ky r.1) (PP (b+s.length)):=by
 refine Ev.grow (F:=λn=>cX n (bR s T a b k q)) hm λm hm=>?_
 show Ev (λi=>fl (m i) (ai (m i)) (bR s T a b k q)) _ _
 unfold fl
 have hl:=hC.lJ
 have hnx:=hC.next (by omega) ht (by omega)
 refine fa hm hC h0 h1 λa2 t2 h2 h3 ht2 h4 e2=>?_
 have e2:=e2 t ht (λ_=>by omega)
 subst e2
 rw[ht] at ht2;cases ht2
 dsimp only
 refine k5 hm hC (by omega) h3 λa5 t5 v h9 h10 ht5 h11 hv h12 h13=>?_
 have e5:=h11 t ht h4
 subst e5
 dsimp only
 refine Ev.jn (λv=>v.Kind≠16) (λw hw=>?_) (λjj hj=>?_)
 ·exact Ev.gA (Ev.ok ⟨⟨a5+1,q,rfl,by omega,by omega,hq⟩,.leaf hw⟩)
 ·refine Ev.bw (λ_=>hj _ (by simp[U.Kind])) (λ_=>?_)
  refine Ev.jn (λ_=>True) (λw _=>?_) (λj2 hj2=>?_)
  ·refine Ev.br (λ_=>Ev.bw (λ_=>hj _ (by simp[U.Kind])) (λ_=>hj _ (by simp[U.Kind]))) (λ_=>?_)
   refine Ev.jn (λ_=>True) (λw _=>?_) (λj2 hj2=>?_)
   ·refine Ev.br (λ_=>hj _ (by simp[U.Kind])) (λ_=>?_)
    refine s6 hm hC h0 h3 (by omega) λa6 x h14 h15=>?_
    dsimp only
    refine fa hm hC (by omega) h15 λa7 t7 h16 h17 _ _ _=>?_
    dsimp only
    refine jL λr _ _=>Ev.br (λ_=>?_) (λ_=>Ev.ok ⟨⟨a7,q,rfl,by omega,by omega,hq⟩,.leaf (by decide)⟩)
    exact fX (P:=λl:List U=>l.length<=70000/\∀ x,x∈l->ky x) (ih.args hm (by omega) h17 hq (by omega)) λe a4 q4 h6 h7 hq4 he=>Ev.ok ⟨⟨a4,q4,rfl,by omega,h7,hq4⟩,.of he.1 (by simp) he.2⟩
   ·refine Ev.bw (λ_=>hj2 _ trivial) (λ_=>Ev.bw (λ_=>hj2 _ trivial) (λ_=>Ev.bw (λ_=>hj2 _ trivial) (λ_=>hj2 _ trivial)))
  ·exact Ev.bw (λ_=>hj2 _ trivial) (λ_=>hj2 _ trivial)
def vh (s:ByS) (b:Int):Prop:=∀ {m:Nat->Nat} {x:ByS} {f:Int},cq m->x.length<s.length->0<=f->f+x.length<=b+s.length->Ev (λi=>gx (m i) x f) (λr=>ky r.1) gP
theorem Dm (hC:PC s T b) (hX:vh s b) (hm:cq m) (_:0<=a) (_:a<T.length) {t:aA} (ht:T[a.toNat]?=some t) (hk:t.Kind=4) :
  Ev (λi=>cQ (m i) t (b+t.Pos) (bR s T a b k q)) (λr=>r.2=bR s T a b k q/\ky r.1) (PP (b+s.length)):=by
 refine Ev.grow (F:=λn=>cQ n t (b+t.Pos) (bR s T a b k q)) hm λm hm=>?_
 show Ev (λi=>eU (m i) (ai (m i)) t (b+t.Pos) (bR s T a b k q)) _ _
 unfold eU
 have hbs:=hC.bs
 have hb0:=hC.b0
 obtain ⟨g0,g1,g2,g3,g4,_⟩:=hC.tok ht
 have g4:=g4 hk
 refine Ev.fy (rH hm (by omega)) λy hy=>?_
 refine Ev.iter hm (λ(x:H×U×Int)=>x.1=bR s T a b k q/\0<=x.2.2/\x.2.2<=y.1.length/\x.2.1.bg.length<=x.2.2/\x.2.1.Kind=5/\∀ e,e∈x.2.1.bg->ky e) (λx=>(y.1.length - x.2.2).toNat) ⟨rfl,by simp,by simp,by simp[TS],rfl,by simp[TS]⟩ ?_
 rintro ⟨p,e,i⟩ ⟨hp,h2,h3,h4,h5,h6⟩ next hn
 dsimp only at hp h2 h3 h4 h5 h6 hn ⊢
 subst hp
 have hyl:=hy.1
 refine Ev.aO (λhlt=>?_) (λ_=>Ev.ok ⟨rfl,.of (by omega) (by omega) h6⟩)
 refine Ev.eA λx hx=>?_
 obtain ⟨x0,x1,x2⟩:=hy.2 x (List.mem_of_getElem? hx)
 refine Ev.gA (Ev.gA (Ev.bt (λ_=>?_) (λhc=>?_)))
 ·refine Ev.gA (Ev.gA (hn _ ⟨rfl,by dsimp only;omega,by dsimp only;omega,by simp[TS];omega,h5,λz hz=>?_⟩ (by dsimp only;omega)))
  rcases List.mem_append.1 hz with w|w
  ·exact h6 z w
  ·simp at w;subst w;exact .leaf (by decide)
 ·have x2:=x2 hc
  refine Ev.fy (hX hm (x:=x.Text) (f:=b+t.Pos+1+x.Pos) (by omega) (by omega) (by omega)) λz hz=>?_
  refine Ev.bt (λ_=>wh (by omega) (by omega)) (λ_=>?_)
  refine Ev.gA (Ev.gA (hn _ ⟨rfl,by dsimp only;omega,by dsimp only;omega,by simp[TS];omega,h5,λz2 hz2=>?_⟩ (by dsimp only;omega)))
  rcases List.mem_append.1 hz2 with w|w
  ·exact h6 z2 w
  ·simp at w;subst w;exact hz
theorem Dn (hC:PC s T b) (ih:PG s T b K) (hm:cq m) (h0:0<=a) (h1:a<T.length) (hq:QS q) (hK:64*(T.length - a).toNat+1<K+1) :
  Ev (λi=>ck (m i) j (bR s T a b k q)) (λr=>St s T b k (a+1) 0 r.2/\ky r.1) (PP (b+s.length)):=by
 refine Ev.grow (F:=λn=>ck n j (bR s T a b k q)) hm λm hm=>?_
 show Ev (λi=>eW (m i) (ai (m i)) j (bR s T a b k q)) _ _
 unfold eW
 have hl:=hC.lJ
 refine jM hm hC h0 h1 (by omega) λa2 t h2 h3 _ _ _ _=>?_
 refine tA (s:=s) (T:=T) (b:=b) (k:=k) (a:=a+1) (d:=1) (P:=λx:Bool×U=>ky x.2) ?_ λx a3 q3 h4 h5 hq3 he=>?_
 ·refine Ev.grow (F:=λn=>dp n true (bR s T a2 b k q) j (U.mk 0 [] 0 [] [] [] [] [] 0)) hm λm hm=>?_
  show Ev (λi=>dW (m i) (ai (m i)) true (bR s T a2 b k q) j (U.mk 0 [] 0 [] [] [] [] [] 0)) _ _
  unfold dW
  dsimp only
  refine Ev.aN (Q:=λr=>St s T b true (a+1) 1 r.2.2/\ky r.2.1) ?_ λr hr=>?_
  ·refine Ev.grow (F:=λn=>eQ n j (U.mk 0 [] 0 [] [] [] [] [] 0) (bR s T a2 b true q)) hm λm hm=>?_
   show Ev (λi=>eh (m i) (ai (m i)) j (U.mk 0 [] 0 [] [] [] [] [] 0) (bR s T a2 b true q)) _ _
   unfold eh
   refine fX (ih.expr hm (by omega) h3 hq (by omega)) λx a3 q3 h4 h5 hq3 he=>?_
   dsimp only
   exact nq hm hC (by omega) (by omega) (by omega) λa4 t h6 h7 _ _ _=>Ev.ok ⟨⟨a4,q3,rfl,by omega,h7,hq3⟩,he⟩
  ·obtain ⟨x,e,p⟩:=r
   obtain ⟨⟨a3,q3,hp,h4,h5,hq3⟩,he⟩:=hr
   dsimp only at hp he;subst hp
   exact Ev.ok ⟨⟨a3,q3,rfl,h4,h5,hq3⟩,he⟩
 ·dsimp only
  exact Ev.gA (Ev.ok ⟨⟨a3+1,q3,rfl,by omega,by omega,hq3⟩,he⟩)
theorem E0 (hC:PC s T b) (ih:PG s T b K) (hm:cq m) (h0:0<=a) (h1:a<T.length) (hq:QS q) (hK:64*(T.length - a).toNat<K+1) :
  Ev (λi=>bW (m i) j (bR s T a b k q)) (λr=>St s T b k a 0 r.2.2/\r.1.length<=70000/\(∀ d,d∈r.1->lI d)/\r.2.1.length<=70000/\∀ x,x∈r.2.1->x.length<=65536) (PP (b+s.length)):=by
 refine Ev.grow (F:=λn=>bW n j (bR s T a b k q)) hm λm hm=>?_
 show Ev (λi=>fj (m i) (ai (m i)) j (bR s T a b k q)) _ _
 unfold fj
 have hl:=hC.lJ
 refine jM hm hC h0 h1 (by omega) λa2 t h2 h3 _ _ _ _=>?_
 refine tA (s:=s) (T:=T) (b:=b) (k:=k) (a:=a+1) (d:=1) (P:=λr:Bool×List Z×List ByS=>r.2.1.length<=70000/\(∀ d,d∈r.2.1->lI d)/\r.2.2.length<=70000/\∀ x,x∈r.2.2->x.length<=65536) ?_ λx a3 q3 h4 h5 hq3 he=>?_
 ·refine Ev.grow (F:=λn=>dm n false (bR s T a2 b k q) j [] []) hm λm hm=>?_
  show Ev (λi=>dV (m i) (ai (m i)) false (bR s T a2 b k q) j [] []) _ _
  unfold dV
  dsimp only
  refine Ev.aN (Q:=λr=>St s T b false (a+1) 1 r.2.2.2/\r.2.1.length<=70000/\(∀ d,d∈r.2.1->lI d)/\r.2.2.1.length<=70000/\∀ x,x∈r.2.2.1->x.length<=65536) ?_ λr hr=>?_
  ·refine Ev.grow (F:=λn=>fi n j [] [] (bR s T a2 b false q)) hm λm hm=>?_
   show Ev (λi=>eC (m i) (ai (m i)) j [] [] (bR s T a2 b false q)) _ _
   unfold eC
   refine Ev.aN (ih.decls hm (by omega) h3 hq (by omega)) λr hr=>?_
   obtain ⟨x,e,p⟩:=r
   obtain ⟨⟨a3,q3,hp,h4,h5,hq3⟩,he⟩:=hr
   dsimp only at hp he;subst hp
   dsimp only
   exact nq hm hC (by omega) (by omega) (by omega) λa4 t h6 h7 _ _ _=>Ev.ok ⟨⟨a4,q3,rfl,by omega,h7,hq3⟩,he⟩
  ·obtain ⟨x,y,e,p⟩:=r
   obtain ⟨⟨a3,q3,hp,h4,h5,hq3⟩,he⟩:=hr
   dsimp only at hp he;subst hp
   exact Ev.ok ⟨⟨a3,q3,rfl,h4,h5,hq3⟩,he⟩
 ·dsimp only
  exact Ev.gA (Ev.ok ⟨⟨a3+1,q3,rfl,by omega,by omega,hq3⟩,he⟩)
theorem Dp (hC:PC s T b) (ih:PG s T b K):Az s T b (K+1) 1 (λn=>cP n j):=by
 intro m a k q hm h0 h1 hq hK;refine Ev.grow (F:=λn=>cP n j (bR s T a b k q)) hm λm hm=>?_;show Ev (λi=>eT (m i) (ai (m i)) j (bR s T a b k q)) _ _;unfold eT;refine k5 hm hC h0 h1 λa2 t v h2 h3 _ _ _ _ _=>?_;dsimp only;refine Ev.jn (λv=>v.Kind≠16) (λw hw=>?_) (λjj hj=>?_)
 ·refine Ev.aN (ih.block hm (by omega) h3 hq (by omega)) λr hr=>?_;obtain ⟨x,e,p⟩:=r;obtain ⟨⟨a3,q3,hp,h4,h5,hq3⟩,he1,he2,he3,he4⟩:=hr;dsimp only at hp he1 he2 he3 he4;subst hp;exact Ev.ok ⟨⟨a3,q3,rfl,by omega,h5,hq3⟩,.mk (by simp) he1 he3 he4 (λq=>absurd q hw) (by simp) he2⟩
 exact Ev.br (λ_=>hj _ (by simp[U.Kind])) (λ_=>hj _ (by simp[U.Kind]))
theorem Gs (hC:PC s T b) (ih:PG s T b K) (hm:cq m) (h0:0<=a) (h1:a<T.length) (hq:QS q) (hK:64*(T.length - a).toNat+1<K+1) :
  Ev (λi=>c8 (m i) (bR s T a b k q)) (λr=>St s T b k a 0 r.2/\r.1.length<=70000/\∀ x,x∈r.1->ky x) (PP (b+s.length)):=by
 refine Ev.grow (F:=λn=>c8 n (bR s T a b k q)) hm λm hm=>?_
 show Ev (λi=>fK (m i) (ai (m i)) (bR s T a b k q)) _ _
 unfold fK
 have hl:=hC.lJ
 refine jM hm hC h0 h1 (by omega) λa2 t h2 h3 _ _ _ _=>?_
 refine tA (s:=s) (T:=T) (b:=b) (k:=k) (a:=a+1) (d:=1) (P:=λr:List U=>r.length<=70000/\∀ x,x∈r->ky x) ?_ λx a3 q3 h4 h5 hq3 he=>?_
 ·refine Ev.grow (F:=λn=>dr n true (bR s T a2 b k q) []) hm λm hm=>?_
  show Ev (λi=>dZ (m i) (ai (m i)) true (bR s T a2 b k q) []) _ _
  unfold dZ
  dsimp only
  refine fX (k:=true) (a:=a+1) (d:=1) (P:=λr:List U=>r.length<=70000/\∀ x,x∈r->ky x) ?_ λx a' q' h2 h3 h4 h5=>Ev.ok ⟨⟨a',q',rfl,h2,h3,h4⟩,h5⟩
  refine Ev.grow (F:=λn=>fI n [] (bR s T a2 b true q)) hm λm hm=>?_
  show Ev (λi=>eR (m i) (ai (m i)) [] (bR s T a2 b true q)) _ _
  unfold eR
  refine fa hm hC (by omega) h3 λa3 t3 h4 h5 _ _ _=>?_
  dsimp only
  refine jL λr _ _=>Ev.bt (λ_=>?_) (λ_=>?_)
  ·refine fX (ih.expr hm (by omega) h5 hq (by omega)) λx a4 q4 h6 h7 hq4 he=>?_
   dsimp only
   refine Ev.gA ?_
   refine Ev.iter hm (λ(x:List U×H)=>St s T b true (a+1) 0 x.2/\(x.1.length:Int)<=x.2.at_+1/\∀ e,e∈x.1->ky e) (λx=>(T.length - x.2.at_).toNat) ⟨⟨a4,q4,rfl,by omega,h7,hq4⟩,by simp;omega,by simpa using he⟩ ?_
   rintro ⟨l,p⟩ ⟨⟨a6,q6,hp,h14,h15,hq6⟩,hl2,hl3⟩ next hn
   dsimp only at hp hl2 hl3;subst hp;dsimp only at hn hl2 ⊢
   refine kX hm hC (by omega) (by omega) (λa7 t h16 h17 _ _ _ _=>?_) (λa7 t h16 h17 _ _ _ _=>?_)
   ·dsimp only
    refine Ev.cR (fX (ih.expr hm (by omega) h17 hq6 (by omega)) λe a8 q8 h18 h19 hq8 he8=>?_)
    dsimp only
    refine Ev.gA (hn _ ⟨⟨a8,q8,rfl,by omega,h19,hq8⟩,by simp;omega,λz hz=>?_⟩ (by dsimp only;omega))
    rcases List.mem_append.1 hz with w|w
    ·exact hl3 z w
    ·simp at w;subst w;exact he8
   ·dsimp only
    refine Ev.cA (nq hm hC (by omega) (by omega) (by omega) λa8 t h18 h19 _ _ _=>Ev.ok ⟨⟨a8,q6,rfl,by omega,h19,hq6⟩,by dsimp only;omega,hl3⟩)
  ·exact nq hm hC (by omega) (by omega) (by omega) λa8 t h18 h19 _ _ _=>Ev.ok ⟨⟨a8,q,rfl,by omega,h19,hq⟩,by simp,by simp⟩
 ·dsimp only
  exact Ev.gA (Ev.ok ⟨⟨a3+1,q3,rfl,by omega,by omega,hq3⟩,he⟩)
theorem Gt (hC:PC s T b) (ih:PG s T b K):Az s T b (K+1) 14 da:=by
 intro m a k q hm h0 h1 hq hK;refine Ev.grow (F:=λn=>da n (bR s T a b k q)) hm λm hm=>?_;show Ev (λi=>fN (m i) (ai (m i)) (bR s T a b k q)) _ _;unfold fN;refine k5 hm hC h0 h1 λa2 t v h2 h3 _ _ _ _ _=>?_;dsimp only;refine fa hm hC (by omega) h3 λa3 t3 h4 h5 _ _ _=>?_;dsimp only;refine od λr _ _=>Ev.bt (λ_=>?_) (λ_=>?_)
 ·exact fX (ih.expr hm (by omega) h5 hq (by omega)) λx a4 q4 h6 h7 hq4 he=>Ev.ok ⟨⟨a4,q4,rfl,by omega,h7,hq4⟩,he⟩
 refine ru hm hC (by omega) h5 (by omega) λa4 h6 h7=>Bt hm hC (by omega) h7 (by omega) λa5 nm h8 h9=>?_;dsimp only;refine ru hm hC (by omega) h9 (by omega) λa6 h10 h11=>fX (ih.expr hm (by omega) h11 hq (by omega)) λx a7 q7 h12 h13 hq7 he=>?_;dsimp only;refine Ev.gA ?_;refine Ev.jn (λv=>St s T b k (a+1) 0 v.1/\v.2.bg.length<=2/\v.2.Kind=15/\∀ e,e∈v.2.bg->ky e) (λw hw=>?_) (λjj hj=>?_)
 ·obtain ⟨p,e⟩:=w;obtain ⟨⟨a8,q8,hp,h14,h15,hq8⟩,hs1,hs2,hs3⟩:=hw;dsimp only at hp hs1 hs2 hs3;subst hp;dsimp only;refine jM hm hC (by omega) (by omega) (by omega) λa9 t h16 h17 _ _ _ _=>fX (ih.expr hm (by omega) h17 hq8 (by omega)) λx a10 q10 h18 h19 hq10 he10=>?_;dsimp only;refine Ev.gA (Ev.ok ⟨⟨a10,q10,rfl,by omega,h19,hq10⟩,.of (by simp;omega) (by omega) λz hz=>?_⟩);rcases List.mem_append.1 hz with w|w
  ·exact hs3 z w
  simp at w;subst w;exact he10
 refine fa hm hC (by omega) (by omega) λa8 t8 h14 h15 _ _ _=>?_;dsimp only;refine od λr _ _=>Ev.br (λ_=>?_) (λ_=>hj _ ⟨⟨a8,q7,rfl,by omega,by omega,hq7⟩,by simp[TS],rfl,by simpa[TS] using he⟩);refine ru hm hC (by omega) h15 (by omega) λa9 h16 h17=>fX (ih.expr hm (by omega) h17 hq7 (by omega)) λx2 a10 q10 h18 h19 hq10 he10=>?_;dsimp only;refine Ev.gA (hj _ ⟨⟨a10,q10,rfl,by omega,h19,hq10⟩,by simp[TS],rfl,?_⟩);simp only[TS];intro z hz;simp at hz;rcases hz with rfl|rfl
 ·exact he
 exact he10
theorem Gu (hC:PC s T b) (ih:PG s T b K):Az s T b (K+1) 1 db:=by
 intro m a k q hm h0 h1 hq hK;refine Ev.grow (F:=λn=>db n (bR s T a b k q)) hm λm hm=>?_;show Ev (λi=>fO (m i) (ai (m i)) (bR s T a b k q)) _ _;unfold fO;have hl:=hC.lJ;refine k5 hm hC h0 h1 λa1 t v h2 h3 _ _ _ _ _=>?_;dsimp only;refine jM hm hC (by omega) h3 (by omega) λa2 t h4 h5 _ _ _ _=>?_;refine tA (s:=s) (T:=T) (b:=b) (k:=k) (a:=a+1) (d:=1) (P:=ky) ?_ λx a3 q3 h4 h5 hq3 he=>?_
 ·refine Ev.grow (F:=λn=>dq n true (bR s T a2 b k q) (U.mk 14 [] 0 [] [] [] [] [] v)) hm λm hm=>?_;show Ev (λi=>dY (m i) (ai (m i)) true (bR s T a2 b k q) (U.mk 14 [] 0 [] [] [] [] [] v)) _ _;unfold dY;dsimp only;refine fX (k:=true) (a:=a+1) (d:=1) (P:=ky) ?_ λx a' q' h2 h3 h4 h5=>Ev.ok ⟨⟨a',q',rfl,h2,h3,h4⟩,h5⟩;refine Ev.grow (F:=λn=>fJ n (U.mk 14 [] 0 [] [] [] [] [] v) (bR s T a2 b true q)) hm λm hm=>?_;show Ev (λi=>eV (m i) (ai (m i)) (U.mk 14 [] 0 [] [] [] [] [] v) (bR s T a2 b true q)) _ _;unfold eV;refine Ev.iter hm (λ(x:U×H×Bool)=>St s T b true (a+1) 0 x.2.1/\x.1.Kind=14/\x.1.Decls=[]/\x.1.cl=[]/\(x.1.bg.length:Int)+(if x.2.2 then 1 else 0)<=x.2.1.at_+1/\∀ e,e∈x.1.bg->ky e) (λx=>2*(T.length - x.2.1.at_).toNat+(if x.2.2 then 1 else 0)) ⟨⟨a2,q,rfl,by omega,by omega,hq⟩,rfl,rfl,rfl,by simp[TS];omega,by simp[TS]⟩ ?_;rintro ⟨e,p,f⟩ ⟨⟨a6,q6,hp,h14,h15,hq6⟩,hk,hd,ht,hl2,hl3⟩ next hn;dsimp only at hp hk hd ht hl2 hl3;subst hp;dsimp only at hn hl2 ⊢;refine fa hm hC (by omega) (by omega) λa7 t7 h16 h17 _ _ _=>?_;dsimp only;refine jL λr _ _=>Ev.bt (λ_=>?_) (λ_=>?_)
  ·refine Ev.jn (λp=>∃ a8,p=bR s T a8 b true q6/\a6<=a8/\a8<T.length/\(f=false->a6<a8)) (λw hw=>?_) (λjj hj=>?_)
   ·obtain ⟨a8,rfl,h18,h19,h20⟩:=hw;have hf1:(e.bg.length:Int)<=a8:=by
     cases f with
     | true=>simp at hl2;omega
     | false=>have:=h20 rfl;simp at hl2;omega
    have hf2:∀ x:Int,a8<=x->2*(T.length - x).toNat+0<2*(T.length - a6).toNat+(if f=true then 1 else 0):=by
     intro x hx;cases f with
     | true=>simp;omega
     | false=>have:=h20 rfl;simp;omega
    refine k5 hm hC (by omega) h19 λa9 t v h21 h22 _ _ _ _ _=>?_;dsimp only;refine kX hm hC (by omega) (by omega) (λa10 t h23 h24 _ _ _ _=>?_) (λa10 t h23 h24 _ _ _ _=>?_)
    ·dsimp only;refine Ev.cR ?_;refine Ev.jn (λv=>St s T b true (a+1) 0 v.1/\ky v.2) (λw hw=>?_) (λjj hj=>?_)
     ·obtain ⟨p,x⟩:=w;obtain ⟨⟨a11,q11,hp,h25,h26,hq11⟩,hx⟩:=hw;dsimp only at hp hx;subst hp;dsimp only;refine Ev.gA (nq hm hC (by omega) (by omega) (by omega) λa12 t h27 h28 _ _ _=>Ev.ok ⟨⟨a12,q11,rfl,by omega,h28,hq11⟩,?_⟩);dsimp only;rw[hd,ht];refine .of (by simp;omega) (by omega) λz hz=>?_;rcases List.mem_append.1 hz with w|w
      ·exact hl3 z w
      simp at w;subst w;exact hx
     refine fa hm hC (by omega) (by omega) λa11 t11 h25 h26 _ _ _=>?_;dsimp only;refine jL λr _ _=>Ev.bt (λ_=>?_) (λ_=>hj _ ⟨⟨a11,q6,rfl,by omega,by omega,hq6⟩,.leaf (by decide)⟩);exact fX (ih.expr hm (by omega) h26 hq6 (by omega)) λx a12 q12 h27 h28 hq12 he12=>hj _ ⟨⟨a12,q12,rfl,by omega,h28,hq12⟩,he12⟩
    dsimp only;refine Ev.cA (fX (ih.item hm (by omega) h24 hq6 (by omega)) λx a12 q12 h27 h28 hq12 he12=>?_);dsimp only;refine Ev.gA (hn _ ⟨⟨a12,q12,rfl,by omega,h28,hq12⟩,hk,hd,ht,by simp[TS];omega,λz hz=>?_⟩ (by have:=hf2 a12 (by omega);simpa using this));rcases List.mem_append.1 hz with w|w
    ·exact hl3 z w
    simp at w;subst w;exact he12
   refine Ev.bt (λhf=>?_) (λhf=>hj _ ⟨a7,rfl,h16,h17,λh=>by rw[hf] at h;cases h⟩);exact jM hm hC (by omega) h17 (by omega) λa8 t h18 h19 _ _ _ _=>hj _ ⟨a8,rfl,by omega,h19,λ_=>by omega⟩
  refine nq hm hC (by omega) (by omega) (by omega) λa8 t h18 h19 _ _ _=>Ev.ok ⟨⟨a8,q6,rfl,by omega,h19,hq6⟩,?_⟩;dsimp only;cases e with
  | mk k0 t0 n0 x0 y0 s0 d0 tl0 p0=>
   simp only[U.Kind,U.Decls,U.cl,U.bg] at hk hd ht hl2 hl3
   subst hd ht
   refine .of ?_ (by omega) hl3
   have:(s0.length:Int)<=a6+1:=by
    cases f with
    | true=>simp at hl2;omega
    | false=>simp at hl2;omega
   omega
 dsimp only;exact Ev.gA (Ev.ok ⟨⟨a3+1,q3,rfl,by omega,by omega,hq3⟩,he⟩)
end
structure I9 (d:Z):Prop where
 l2:d.Body.length<=70000
 l3:d.cl.length<=70000
 l4:∀ x,x∈d.cl->x.length<=65536
 l5:d.ka.length<=70000
 l6:∀ x,x∈d.ka->x.length<=65536
 l7:d.Trail.length<=65536
 d:∀ x,x∈d.Body->lI x
theorem lI.w {d:Z} (h:lI d):I9 d:=⟨h.l2,h.l3,h.l4,h.l5,h.l6,h.l7,h.d⟩
theorem I9.one {k p:Int} {lb a b:ByS} {x:U} {d:Z} {pos:Int} (h:I9 d) (hx:ky x):lI (Z.mk k p lb a b [x] d.Body d.cl d.ka d.Trail pos):=
 .mk (by simp) h.l2 h.l3 h.l4 h.l5 h.l6 h.l7 (λ_=>by simp) (by simpa using hx) h.d
theorem lI.new {k p:Int} {lb a b:ByS} {l:List U} {body:List Z} {tail:List ByS} {pos:Int} (h1:l.length<=70000) (h2:body.length<=70000) (h3:tail.length<=70000) (h4:∀ x,x∈tail->x.length<=65536)
  (h8:k=1\/k=2\/k=3->1<=l.length) (hs:∀ x,x∈l->ky x) (hd:∀ x,x∈body->lI x):lI (Z.mk k p lb a b l body tail [] [] pos):=
 .mk h1 h2 h3 h4 (by simp) (by simp) (by simp) h8 hs hd
section
variable {s:ByS} {T:List aA} {b:Int} {K:Nat} {m:Nat->Nat} {a:Int} {k:Bool} {q:Option U} {j:Bool}
theorem E1 (hC:PC s T b) (ih:PG s T b K) (hm:cq m) (h0:0<=a) (h1:a<T.length) (hq:QS q) {d:Z} (hd:lI d) {t:aA} (ht:T[a.toNat]?=some t) (hk:t.Kind≠0) (hk7:t.Kind≠7) (hK:64*(T.length - a).toNat+14<K+1) :
  Ev (λi=>cW (m i) j (bR s T a b k q) d) (λr=>St s T b k a 0 r.1/\lI r.2) (PP (b+s.length)):=by
 refine Ev.grow (F:=λn=>cW n j (bR s T a b k q) d) hm λm hm=>?_
 show Ev (λi=>fk (m i) (ai (m i)) j (bR s T a b k q) d) _ _
 unfold fk
 have hl:=hC.lJ
 have hnx:=hC.next h0 ht hk
 have hw:=hd.w
 refine fa hm hC h0 h1 λa2 t2 h2 h3 ht2 h4 e2=>?_
 have e2:=e2 t ht (λ_=>hk7)
 subst e2
 dsimp only
 refine Ev.gA ?_
 refine Ev.jn (λv=>St s T b k (a2+1) 0 v.1/\I9 v.2) (λw hw=>?_) (λjj hj=>?_)
 ·obtain ⟨p,e⟩:=w
  obtain ⟨⟨a3,q3,hp,h5,h6,hq3⟩,he⟩:=hw
  dsimp only at hp he;subst hp;dsimp only
  refine jM hm hC (by omega) (by omega) (by omega) λa4 t h7 h8 _ _ _ _=>fX (ih.expr hm (by omega) h8 hq3 (by omega)) λx a5 q5 h9 h10 hq5 hx=>?_
  exact Ev.ok ⟨⟨a5,q5,rfl,by omega,h10,hq5⟩,he.one hx⟩
 ·refine kX hm hC (by omega) hnx (λa4 t h7 h8 _ _ _ _=>?_) (λa4 t h7 h8 _ _ _ _=>?_)
  ·exact Ev.cR (hj _ ⟨⟨a4,q,rfl,by omega,by omega,hq⟩,hw.l2,hw.l3,hw.l4,hw.l5,hw.l6,hw.l7,hw.d⟩)
  ·dsimp only
   refine Ev.cA ?_
   refine kX hm hC (by omega) h8 (λa5 t h9 h10 _ _ _ _=>?_) (λa5 t h9 h10 _ _ _ _=>?_)
   ·exact Ev.cR (hj _ ⟨⟨a5,q,rfl,by omega,by omega,hq⟩,hw.l2,hw.l3,hw.l4,hw.l5,hw.l6,hw.l7,hw.d⟩)
   ·exact Ev.cA (hj _ ⟨⟨a5,q,rfl,by omega,by omega,hq⟩,hw.l2,hw.l3,hw.l4,hw.l5,hw.l6,hw.l7,hw.d⟩)
theorem BW (hC:PC s T b) (ih:PG s T b K) (hm:cq m) (h0:0<=a) (h1:a<T.length) (hq:QS q) {d:Z} (hd:lI d) (hp:Bu T a) (hK:64*(T.length - a).toNat+14<K+1) :
  Ev (λi=>cD (m i) j (bR s T a b k q) d) (λr=>St s T b k a 0 r.1/\lI r.2) (PP (b+s.length)):=by
 refine Ev.grow (F:=λn=>cD n j (bR s T a b k q) d) hm λm hm=>?_
 show Ev (λi=>eE (m i) (ai (m i)) j (bR s T a b k q) d) _ _
 unfold eE
 have hl:=hC.lJ
 have hw:=hd.w
 obtain ⟨t,u,p1,p2,p3,p4,p5,p6⟩:=hp
 refine jM hm hC h0 h1 (by omega) λa2 t2 h2 h3 _ _ _ e2=>?_
 have e2:=e2 t p1 (λ_=>by omega)
 subst e2
 refine tA (d:=1) (P:=I9) ((vg hm hC (by omega) (Int.le_refl _) hq p3 p4 p5 (λh=>by obtain ⟨w,w1,w2⟩:=p6 h;exact ⟨w,by rw[show a+1+1=a+2 by omega];exact w1,w2⟩)).He λr hr=>⟨hr.1,?_⟩) λx a3 q3 h4 h5 hq3 hxw=>?_
 ·rcases hr.2 with h|⟨l,h⟩
  ·rw[h];exact ⟨hw.l2,hw.l3,hw.l4,hw.l5,hw.l6,hw.l7,hw.d⟩
  ·rw[h];exact ⟨hw.l2,hw.l3,hw.l4,hw.l5,hw.l6,hw.l7,hw.d⟩
 dsimp only
 refine Ev.gA (jM hm hC (by omega) (by omega) (by omega) λa4 t h7 h8 _ _ _ _=>fX (ih.expr hm (by omega) h8 hq3 (by omega)) λy a5 q5 h9 h10 hq5 hy=>?_)
 exact Ev.ok ⟨⟨a5,q5,rfl,by omega,h10,hq5⟩,hxw.one hy⟩
theorem BX (hC:PC s T b) (ih:PG s T b K) (hm:cq m) (h0:0<=a) (h1:a<T.length) (hq:QS q) {d:Z} (hd:lI d) (hK:64*(T.length - a).toNat+14<K+1) :
  Ev (λi=>cC (m i) j (bR s T a b k q) d) (λr=>St s T b k a 0 r.1/\lI r.2) (PP (b+s.length)):=by
 refine Ev.grow (F:=λn=>cC n j (bR s T a b k q) d) hm λm hm=>?_
 show Ev (λi=>eD (m i) (ai (m i)) j (bR s T a b k q) d) _ _
 unfold eD
 have hl:=hC.lJ
 have hw:=hd.w
 refine fX (ih.parens hm h0 h1 hq (by omega)) λe a2 q2 h2 h3 hq2 he=>?_
 dsimp only
 refine fa hm hC (by omega) (by omega) λa3 t h4 h5 ht h6 _=>?_
 dsimp only
 refine jL λr hr _=>Ev.br (λhr1=>?_) (λ_=>?_)
 ·have hk5:=(hr hr1).1
  have hnx:=hC.next (by omega) ht (by omega)
  refine k5 hm hC (by omega) h5 λa5 t5 v h9 h10 _ h11 _ h12 h13=>?_
  have e5:=h11 t ht h6
  subst e5
  dsimp only
  refine qy hm h12 h13 he λx hx=>?_
  dsimp only
  refine Ev.gA (fX (ih.expr hm (by omega) hnx hq2 (by omega)) λy a5 q5 h9 h10 hq5 hy=>?_)
  exact Ev.ok ⟨⟨a5,q5,rfl,by omega,h10,hq5⟩,.mk (by simp) hw.l2 hw.l3 hw.l4 hw.l5 hw.l6 hw.l7 (λ_=>by simp) (by simp;exact ⟨hx,hy⟩) hw.d⟩
 ·refine fX (ih.expr (q:=some e) hm (by omega) h5 (λx hx=>by cases hx;exact he) (by omega)) λy a5 q5 h9 h10 hq5 hy=>?_
  exact Ev.ok ⟨⟨a5,q5,rfl,by omega,h10,hq5⟩,hw.one hy⟩
theorem Gv (hC:PC s T b) (ih:PG s T b K) (hm:cq m) (h0:0<=a) (h1:a<T.length) (hq:QS q) {t:aA} (ht:T[a.toNat]?=some t) (hk:t.Kind≠0) (hk7:t.Kind≠7) (hK:64*(T.length - a).toNat+17<K+1) :
  Ev (λi=>cj (m i) j (bR s T a b k q)) (λr=>St s T b k a 0 r.2/\lI r.1) (PP (b+s.length)):=by
 refine Ev.grow (F:=λn=>cj n j (bR s T a b k q)) hm λm hm=>?_
 show Ev (λi=>fL (m i) (ai (m i)) j (bR s T a b k q)) _ _
 unfold fL
 have hl:=hC.lJ
 have hnx:=hC.next h0 ht hk
 refine fa hm hC h0 h1 λa2 t2 h2 h3 ht2 h4 e2=>?_
 have e2:=e2 t ht (λ_=>hk7)
 subst e2
 rw[ht] at ht2;cases ht2
 dsimp only
 refine k5 hm hC (by omega) h3 λa5 t5 v h9 h10 _ h11 _ h12 h13=>?_
 have e5:=h11 t ht h4
 subst e5
 dsimp only
 refine mG hC (by omega) h3 (by omega) (by omega) λu _=>?_
 dsimp only
 have hd0:lI (Z.mk 0 0 [] [] [] [] [] [] [] [] v):=.new (by simp) (by simp) (by simp) (by simp) (by simp) (by simp) (by simp)
 refine Ev.jn (λw=>St s T b k a5 0 w.1/\lI w.2) (λw hw=>Ev.ok ⟨hw.1,hw.2⟩) (λjj hj=>?_)
 refine Ev.jn (λ_=>True) (λw _=>?_) (λj2 hj2=>?_)
 ·refine Ev.br (λ_=>?_) (λ_=>?_)
  ·exact tA (ih.field hm (by omega) h3 hq hd0 ht hk hk7 (by omega)) λx a6 q6 h14 h15 hq6 hx=>hj _ ⟨⟨a6,q6,rfl,h14,h15,hq6⟩,hx⟩
  refine Aj hm hC (by omega) h3 λa6 r h14 h15 e6 hp=>?_
  have e6:=e6 t ht h4
  subst e6
  dsimp only
  refine Ev.br (λhr=>?_) (λ_=>?_)
  ·exact tA (ih.pattern hm (by omega) h3 hq hd0 (hp hr) (by omega)) λx a6 q6 h14 h15 hq6 hx=>hj _ ⟨⟨a6,q6,rfl,by omega,h15,hq6⟩,hx⟩
  refine od λr _ _=>Ev.br (λ_=>?_) (λ_=>?_)
  ·refine Ev.jn (λp=>p=bR s T a6 b k q) (λp hp=>?_) (λj3 hj3=>?_)
   ·subst hp
    dsimp only
    refine Ev.gA (s6 hm hC (by omega) hnx (by omega) λa7 x h16 h17=>?_)
    dsimp only
    refine jM hm hC (by omega) h17 (by omega) λa8 t8 h18 h19 _ _ _ _=>fX (ih.expr hm (by omega) h19 hq (by omega)) λx a9 q9 h20 h21 hq9 hx=>?_
    exact hj _ ⟨⟨a9,q9,rfl,by omega,h21,hq9⟩,.new (by simp) (by simp) (by simp) (by simp) (by simp) (by simpa using hx) (by simp)⟩
   ·exact Ev.bt (λ_=>ij hm hC (by omega) h3 (by omega)) (λ_=>hj3 _ rfl)
  refine jL λr _ _=>Ev.br (λ_=>?_) (λ_=>?_)
  ·refine Ev.jn (λp=>p=bR s T a6 b k q) (λp hp=>?_) (λj3 hj3=>?_)
   ·subst hp
    dsimp only
    exact Ev.gA (hj _ ⟨⟨a6+1,q,rfl,by omega,by omega,hq⟩,.new (by simp) (by simp) (by simp) (by simp) (by simp) (by simp) (by simp)⟩)
   ·exact Ev.bt (λ_=>ij hm hC (by omega) h3 (by omega)) (λ_=>hj3 _ rfl)
  refine od λr _ _=>Ev.br (λ_=>?_) (λ_=>?_)
  ·refine Ev.gA (fX (ih.expr hm (by omega) hnx hq (by omega)) λx a9 q9 h20 h21 hq9 hx=>?_)
   dsimp only
   refine Ev.aN (ih.block hm (by omega) (by omega) hq9 (by omega)) λr hr=>?_
   obtain ⟨l,tl,p⟩:=r
   obtain ⟨⟨a3,q3,hp,h4,h5,hq3⟩,he1,he2,he3,he4⟩:=hr
   dsimp only at hp he1 he2 he3 he4;subst hp
   exact hj _ ⟨⟨a3,q3,rfl,by omega,h5,hq3⟩,.new (by simp) he1 he3 he4 (by simp) (by simpa using hx) he2⟩
  refine od λr _ _=>Ev.br (λ_=>?_) (λ_=>?_)
  ·refine Ev.gA (Bt hm hC (by omega) hnx (by omega) λa7 nm h16 h17=>?_)
   dsimp only
   refine ru hm hC (by omega) h17 (by omega) λa8 h18 h19=>fX (ih.expr hm (by omega) h19 hq (by omega)) λx a9 q9 h20 h21 hq9 hx=>?_
   dsimp only
   refine Ev.aN (ih.block hm (by omega) (by omega) hq9 (by omega)) λr hr=>?_
   obtain ⟨l,tl,p⟩:=r
   obtain ⟨⟨a3,q3,hp,h4,h5,hq3⟩,he1,he2,he3,he4⟩:=hr
   dsimp only at hp he1 he2 he3 he4;subst hp
   exact hj _ ⟨⟨a3,q3,rfl,by omega,h5,hq3⟩,.new (by simp) he1 he3 he4 (by simp) (by simpa using hx) he2⟩
  refine jL λr _ _=>Ev.br (λ_=>?_) (λ_=>?_)
  ·exact tA (ih.ur hm (by omega) h3 hq hd0 (by omega)) λx a6 q6 h14 h15 hq6 hx=>hj _ ⟨⟨a6,q6,rfl,by omega,h15,hq6⟩,hx⟩
  ·exact fX (ih.expr hm (by omega) h3 hq (by omega)) λx a9 q9 h20 h21 hq9 hx=>hj _ ⟨⟨a9,q9,rfl,by omega,h21,hq9⟩,.new (by simp) (by simp) (by simp) (by simp) (by simp) (by simpa using hx) (by simp)⟩
 ·refine xr hm λr _=>Ev.br (λ_=>uo hm (by simp) λr _=>hj2 _ trivial) (λ_=>hj2 _ trivial)
theorem Bx (hC:PC s T b) (hm:cq m) (h0:0<=a) (h1:a<T.length) (hq:QS q) {lead:List ByS} (hl1:(lead.length:Int)<=a+1) (hl2:∀ x,x∈lead->x.length<=65536)
  (Hd:∀ {m:Nat->Nat} {a':Int} {q:Option U} {t:aA},cq m->a<=a'->a'<T.length->QS q->T[a'.toNat]?=some t->t.Kind≠0->t.Kind≠7->Ev (λi=>cj (m i) j (bR s T a' b k q)) (λr=>St s T b k a' 0 r.2/\lI r.1) (PP (b+s.length))) :
  Ev (λi=>fU (m i) lead j (bR s T a b k q)) (λr=>St s T b k a 0 r.2.2/\r.1.length<=70000/\(∀ d,d∈r.1->lI d)/\r.2.1.length<=70000/\∀ x,x∈r.2.1->x.length<=65536) (PP (b+s.length)):=by
 unfold fU
 have hl:=hC.lJ
 refine Ev.iter hm (λ(x:H×(List ByS)×(List Z)×Int×Bool)=>St s T b k a 0 x.1/\(x.2.1.length:Int)<=x.1.at_+1/\(∀ z,z∈x.2.1->z.length<=65536)/\(x.2.2.1.length:Int)<=x.1.at_+(if x.2.2.2.2 then 0 else 1)/\(∀ d,d∈x.2.2.1->lI d)/\x.2.2.2.1<=x.1.at_/\(0<x.2.2.2.1->1<=x.2.2.1.length))
  (λx=>2*(T.length - x.1.at_).toNat+(if x.2.2.2.2 then 1 else 0)) ⟨⟨a,q,rfl,by omega,by omega,hq⟩,by dsimp only;omega,hl2,by simp;omega,by simp,by dsimp only;omega,by simp⟩ ?_
 rintro ⟨p,lead,out,e,sep⟩ ⟨⟨a1,q1,hp,h2,h3,hq1⟩,i1,i2,i3,i4,i5,i6⟩ next hn
 dsimp only at hp i1 i2 i3 i4 i5 i6;subst hp;dsimp only at hn i1 i3 i5 ⊢
 have ho3:out.length<=70000:=by cases sep<;>simp at i3<;>omega
 refine Gf hm hC (by omega) (by omega) λa2 t r h4 h5 ht hr h7=>?_
 dsimp only
 refine Ev.bt (λhrf=>?_) (λ_=>Ev.ok ⟨⟨a2,q1,rfl,by omega,by omega,hq1⟩,ho3,i4,by dsimp only;omega,i2⟩)
 have hk0:=hr hrf
 have hnx:=hC.next (by omega) ht hk0
 have htt:=(hC.tok ht).2.2.2.1
 refine fa hm hC (by omega) h5 λa3 t3 h8 h9 ht3 h10 e3=>?_
 have e3:=e3 t ht h7
 subst e3
 rw[ht] at ht3;cases ht3
 dsimp only
 refine Ev.jn (λv=>v=false->t.Kind≠7) (λv hv=>?_) (λj1 hj1=>?_)
 ·refine Ev.br (λ_=>?_) (λhvf=>?_)
  ·refine Ev.gA (hn _ ⟨⟨a3+1,q1,rfl,by omega,by omega,hq1⟩,by dsimp only;omega,i2,?_,i4,by dsimp only;omega,i6⟩ ?_)
   ·dsimp only;cases sep<;>simp at i3 ⊢<;>omega
   ·dsimp only;cases sep<;>simp<;>omega
  have hk7:=hv hvf
  refine Ev.jn (λv=>v.1=bR s T a3 b k q1/\(v.2=true->0<e)) (λv hv=>?_) (λj2 hj2=>?_)
  ·obtain ⟨p,w⟩:=v
   obtain ⟨hp,hw⟩:=hv
   dsimp only at hp hw;subst hp;dsimp only
   refine Ev.br (λhwt=>?_) (λ_=>?_)
   ·have ho:=i6 (hw hwt)
    have ho2:(out.length:Int)<=65540:=by cases sep<;>simp at i3<;>omega
    refine Ev.gA (Ev.eA λx hx=>?_)
    have hxd:=i4 x (List.mem_of_getElem? hx)
    refine Ev.gA (hn _ ⟨⟨a3+1,q1,rfl,by omega,by omega,hq1⟩,by dsimp only;omega,i2,?_,λd hd=>?_,by dsimp only;omega,λ_=>by simpa using ho⟩ ?_)
    ·dsimp only;cases sep<;>simp at i3 ⊢<;>omega
    ·dsimp only at hd
     rcases List.mem_or_eq_of_mem_set hd with w|w
     ·exact i4 d w
     ·subst w;exact .mk hxd.l1 hxd.l2 hxd.l3 hxd.l4 hxd.l5 hxd.l6 htt hxd.kd hxd.s hxd.d
    ·dsimp only;cases sep<;>simp<;>omega
   ·refine Ev.jn (λv=>v.1=bR s T a3 b k q1) (λv hv=>?_) (λj3 hj3=>?_)
    ·obtain ⟨p,w⟩:=v
     dsimp only at hv;subst hv;dsimp only
     refine Ev.br (λ_=>?_) (λ_=>?_)
     ·refine Ev.gA (Ev.gA (hn _ ⟨⟨a3+1,q1,rfl,by omega,by omega,hq1⟩,by simp;omega,λz hz=>?_,?_,i4,by dsimp only;omega,i6⟩ ?_))
      ·rcases List.mem_append.1 hz with w|w
       ·exact i2 z w
       ·simp at w;subst w;exact htt
      ·dsimp only;cases sep<;>simp at i3 ⊢<;>omega
      ·dsimp only;cases sep<;>simp<;>omega
     ·refine Ev.jn (λv=>v=false->sep=true) (λv hv=>?_) (λj4 hj4=>?_)
      ·refine Ev.br (λ_=>ij hm hC (by omega) h9 (by omega)) (λhvf=>?_)
       have hsep:=hv hvf
       subst hsep
       simp at i3
       refine fX (Hd hm (by omega) h9 hq1 ht hk0 hk7) λd a4 q4 h11 h12 hq4 hd=>?_
       dsimp only
       refine Ev.gA (hn _ ⟨⟨a4,q4,rfl,by omega,h12,hq4⟩,by simp;omega,by simp,by simp;omega,λz hz=>?_,by dsimp only;omega,λ_=>by simp⟩ (by simp;omega))
       rcases List.mem_append.1 hz with w|w
       ·exact i4 z w
       ·simp at w;subst w
        exact .mk hd.l1 hd.l2 hd.l3 hd.l4 (by omega) i2 hd.l7 hd.kd hd.s hd.d
      ·refine Ev.bw (λ_=>hj4 _ (by simp)) (λ_=>hj4 _ (by simp))
    ·refine Ev.bw (λ_=>?_) (λ_=>hj3 _ rfl)
     exact Ev.fy (rJ hm hC (by omega) h9) λr hr=>hj3 _ hr
  ·refine Ev.bw (λ_=>Ev.aO (λhe=>?_) (λ_=>hj2 _ ⟨rfl,by simp⟩)) (λ_=>hj2 _ ⟨rfl,by simp⟩)
   exact Ev.fy (ve hm hC (by omega) h9 (by omega) (by omega)) λr hr=>hj2 _ ⟨hr,λ_=>by omega⟩
 ·refine Ev.bw (λ_=>hj1 _ (by simp)) (λhk7=>jL λr _ _=>hj1 _ λ_=>hk7)
theorem E2 (hC:PC s T b) (hX:vh s b):∀ K,PG s T b K:=by
 intro K
 induction K with
 | zero=>
  constructor
  all_goals (intros;(try intro _ _ _ _ _ _ _ _ _);exact absurd ‹_<0› (Nat.not_lt_zero _))
 | succ K ih=>
  exact {
   expr:=λhm h0 h1 hq hK=>Gn hC ih hm h0 h1 hq hK
   alt:=λhm h0 h1 hq hK=>Ig hC ih hm h0 h1 hq hK
   Ao:=λhm h0 h1 hq hK=>Gp hC ih hm h0 h1 hq hK
   bin:=λhm h0 h1 hq hl0 hl5 hK=>Ih hC ih hm h0 h1 hq hl0 hl5 hK
   unary:=λhm h0 h1 hq hK=>EX hC ih hm h0 h1 hq hK
   post:=λhm h0 h1 hq hK=>Gq hC ih hm h0 h1 hq hK
   EW:=λhm h0 h1 hq hK=>Gr hC ih hm h0 h1 hq hK
   named:=λhm h0 h1 hq ht hk hK=>EZ hC ih hm h0 h1 hq ht hk hK
   xx:=λhm h0 h1 ht hk _=>Dm hC hX hm h0 h1 ht hk
   parens:=λhm h0 h1 hq hK=>Dn hC ih hm h0 h1 hq hK
   xy:=λhm h0 h1 hq hK=>Dp hC ih hm h0 h1 hq hK
   list:=λhm h0 h1 hq hK=>Gu hC ih hm h0 h1 hq hK
   block:=λhm h0 h1 hq hK=>E0 hC ih hm h0 h1 hq hK
   args:=λhm h0 h1 hq hK=>Gs hC ih hm h0 h1 hq hK
   item:=λhm h0 h1 hq hK=>Gt hC ih hm h0 h1 hq hK
   field:=λhm h0 h1 hq hd ht hk hk7 hK=>E1 hC ih hm h0 h1 hq hd ht hk hk7 hK
   pattern:=λhm h0 h1 hq hd hp hK=>BW hC ih hm h0 h1 hq hd hp hK
   ur:=λhm h0 h1 hq hd hK=>BX hC ih hm h0 h1 hq hd hK
   decl:=λhm h0 h1 hq ht hk hk7 hK=>Gv hC ih hm h0 h1 hq ht hk hk7 hK
   decls:=λ{m a k q j} hm h0 h1 hq hK=>by
    refine Ev.grow (F:=λn=>dh n j (bR s T a b k q)) hm λm hm=>?_;exact Bx (lead:=[]) hC hm h0 h1 hq (by simp;omega) (by simp) λhm2 ha h2 hq2 ht hk hk7=>ih.decl hm2 (by omega) h2 hq2 ht hk hk7 (by omega) }
end
theorem Aq {m:Nat->Nat} (hm:cq m) {l:List aA} (hl:l.length<=70000):Ev (λi=>fW (m i) l) (λ_=>True) gP:=by
 unfold fW;refine Ev.aN (Q:=λ_=>True) ?_ λy _=>Ev.ok trivial;unfold iO;refine Ev.iter hm (λ(x:Int)=>0<=x/\x<=l.length) (λx=>(l.length - x).toNat) (by omega) ?_;intro x hx next hn;refine Ev.aO (λ_=>?_) (λ_=>Ev.ok trivial);refine Ev.eA λt _=>Ev.lV (by unfold pH;rfl) ?_;refine Ev.br (λ_=>Ev.ok trivial) (λ_=>Ev.gA (hn _ (by omega) (by omega)))
theorem Gw:∀ (N:Nat) {m:Nat->Nat} {x:ByS} {f:Int},cq m->x.length<N->0<=f->f+x.length<=65536->Ev (λi=>gx (m i) x f) (λr=>ky r.1) gP:=by
 intro N
 induction N with
 | zero=>intro m x f _ h;exact absurd h (Nat.not_lt_zero _)
 | succ N ih=>
  intro m x f hm hN h0 h1
  refine Ev.grow (F:=λn=>gx n x f) hm λm hm=>?_
  show Ev (λi=>js (m i) (ai (m i)) x f) _ _
  unfold js
  refine Ev.aN (pP hm) λy hy=>?_
  refine Ev.bP (λ_=>Ev.ok (.leaf (by decide))) (λhe=>?_)
  have hT:=(hy.2.2 he).2
  have hC:PC x y.1 f:=⟨hT,h0,h1⟩
  have hX:vh x f:=λhm2 hlt h2 h3=>ih hm2 (by omega) h2 (by omega)
  have hl:=hC.lJ
  have hp:=hC.pos
  refine Ev.aN (Aq hm (by omega)) λz _=>?_
  refine Ev.br (λ_=>Ev.ok (.leaf (by decide))) (λ_=>?_)
  refine Ev.yB (R':=PP (f+x.length)) ?_ ?_
  ·refine fX (s:=x) (T:=y.1) (b:=f) (k:=true) (a:=0) (d:=0) (P:=ky) ((E2 hC hX _).expr hm (Int.le_refl _) (by omega) .none (Nat.lt_succ_self _)) λe a2 q2 h2 h3 hq2 he=>?_;dsimp only;exact fa hm hC (by omega) (by omega) λa3 t h4 h5 _ _ _=>Ev.ok he
  ·rintro p ⟨v,rfl,_,_⟩;refine Ev.sn ?_;unfold gK;exact Ev.ok (.leaf (by decide))
theorem BY {s:ByS} {b:Int} (h1:b+s.length<=65536):vh s b:=λhm h h2 h3=>Gw _ hm (Nat.lt_succ_self _) h2 (by omega)
def RH {X Y:Type} (V:X->Y->Prop) (C:Cx) (k:Bool) (a:Int) (F:H->D X) (G:H->D Y):Prop:=∀ {q q':Option U},QR q q'->RS V (F (bR C.s C.T a C.b k q)) (G (bR C.s' C.T' (a+C.κ) C.b' k q'))
abbrev VL (C:Cx) (k:Bool) (a:Int) (r r':List U×H):Prop:=Rl C k a r.2 r'.2/\LR EE r.1 r'.1
abbrev VB (C:Cx) (k:Bool) (a:Int) (r r':List Z×List ByS×H):Prop:=Rl C k a r.2.2 r'.2.2/\LR DD r.1 r'.1/\r'.2.1=r.2.1
abbrev VF (C:Cx) (k:Bool) (a:Int) (r r':H×Z):Prop:=Rl C k a r.1 r'.1/\DD r.2 r'.2
abbrev VD (C:Cx) (k:Bool) (a:Int) (r r':Z×H):Prop:=Rl C k a r.2 r'.2/\DD r.1 r'.1
def RN {X Y:Type} (V:X->Y->Prop) (C:Cx) (k:Bool) (a:Int) (F:H->D X) (G:H->D Y):Prop:=RS V (F (bR C.s C.T a C.b k none)) (G (bR C.s' C.T' (a+C.κ) C.b' k none))
structure GR (n:Nat):Prop where
 expr:∀ {C:Cx} {a:Int} {k j:Bool},C.k8->0<=a->RH (VE C k a) C k a (aG n j) (aG n j)
 alt:∀ {C:Cx} {a:Int} {k j:Bool},C.k8->0<=a->RH (VE C k a) C k a (bz n j) (bz n j)
 Ao:∀ {C:Cx} {a:Int} {k j:Bool},C.k8->0<=a->RH (VE C k a) C k a (bA n j) (bA n j)
 bin:∀ {C:Cx} {a l:Int} {k j:Bool},C.k8->0<=a->RH (VE C k a) C k a (bM n l j) (bM n l j)
 unary:∀ {C:Cx} {a:Int} {k j:Bool},C.k8->0<=a->RH (VE C k a) C k a (cw n j) (cw n j)
 post:∀ {C:Cx} {a:Int} {k j:Bool},C.k8->0<=a->RH (VE C k a) C k a (bX n j) (bX n j)
 EW:∀ {C:Cx} {a:Int} {k j:Bool},C.k8->0<=a->RH (VE C k a) C k a (cE n j) (cE n j)
 named:∀ {C:Cx} {a:Int} {k:Bool},C.k8->0<=a->RN (VE C k a) C k a (cX n) (cX n)
 xx:∀ {C:Cx} {a v v':Int} {k:Bool} {t t':aA},ST t t'->RN (VE C k a) C k a (cQ n t v) (cQ n t' v')
 parens:∀ {C:Cx} {a:Int} {k j:Bool},C.k8->0<=a->RN (VE C k a) C k a (ck n j) (ck n j)
 xy:∀ {C:Cx} {a:Int} {k j:Bool},C.k8->0<=a->RN (VE C k a) C k a (cP n j) (cP n j)
 list:∀ {C:Cx} {a:Int} {k:Bool},C.k8->0<=a->RN (VE C k a) C k a (db n) (db n)
 block:∀ {C:Cx} {a:Int} {k j:Bool},C.k8->0<=a->RN (VB C k a) C k a (bW n j) (bW n j)
 args:∀ {C:Cx} {a:Int} {k:Bool},C.k8->0<=a->RN (VL C k a) C k a (c8 n) (c8 n)
 item:∀ {C:Cx} {a:Int} {k:Bool},C.k8->0<=a->RN (VE C k a) C k a (da n) (da n)
 field:∀ {C:Cx} {a:Int} {k j:Bool} {d d':Z},C.k8->0<=a->DD d d'->RN (VF C k a) C k a (λp=>cW n j p d) (λp=>cW n j p d')
 pattern:∀ {C:Cx} {a:Int} {k j:Bool} {d d':Z},C.k8->0<=a->DD d d'->RN (VF C k a) C k a (λp=>cD n j p d) (λp=>cD n j p d')
 ur:∀ {C:Cx} {a:Int} {k j:Bool} {d d':Z},C.k8->0<=a->DD d d'->RN (VF C k a) C k a (λp=>cC n j p d) (λp=>cC n j p d')
 decl:∀ {C:Cx} {a:Int} {k j:Bool},C.k8->0<=a->RN (VD C k a) C k a (cj n j) (cj n j)
 decls:∀ {C:Cx} {a:Int} {k j:Bool},C.k8->0<=a->Gl C a->RN (VB C k a) C k a (dh n j) (dh n j)
 code:∀ {x:ByS} {v v':Int},RS (λr r'=>r.2=true->r'.2=true/\EE r.1 r'.1) (gx n x v) (gx n x v')
def GL (n:Nat):Prop:=∀ i,i<=n->GR i
theorem GL.g {n:Nat} (h:GL n):GR n:=h n (Nat.le_refl _)
theorem GL.dn {n:Nat} (h:GL (n+1)):GL n:=λi hi=>h i (Nat.le_succ_of_le hi)
theorem nx {a:Int} {κ:Nat}:a+(κ:Int)+1=a+1+κ:=by omega
section
variable {C:Cx} {n:Nat} {a:Int} {k j:Bool}
theorem Gx (ih:GL n) (hC:C.k8) (h0:0<=a):RH (VE C k a) C k a (aG (n+1) j) (aG (n+1) j):=by
 intro q q' hq;show RS _ (fM n (ai n) j _) (fM n (ai n) j _);unfold fM;dsimp only;refine RS.jn (λv w=>∃ a1,v.1=(bR C.s C.T a1 C.b k q)/\w.1=(bR C.s' C.T' (a1+C.κ) C.b' k q')/\a<=a1/\w.2=v.2) (λv w h=>?_) (λj0 j0' hj=>?_)
 ·obtain ⟨p,x⟩:=v;obtain ⟨p',x'⟩:=w;obtain ⟨a1,g1,g2,h1,g3⟩:=h;dsimp only at g1 g2 g3;subst g1 g2 g3;dsimp only;refine RS.jn (λv w=>Rl C k a v.1 w.1/\EE v.2 w.2) (λv w h=>?_) (λj1 j1' hj=>?_)
  ·obtain ⟨p,e⟩:=v;obtain ⟨p',e'⟩:=w;obtain ⟨⟨a2,g1,g2,h2⟩,he⟩:=h;dsimp only at g1 g2 he;subst g1 g2;dsimp only;refine RS.jn (λv w=>Rl C k a v w) (λv w h=>?_) (λj2 j2' hj=>?_)
   ·obtain ⟨a3,rfl,rfl,h3⟩:=h;dsimp only;refine RS.jn (λv w=>Rl C k a v w) (λv w h=>?_) (λj3 j3' hj=>?_)
    ·obtain ⟨a4,rfl,rfl,h4⟩:=h;refine lD hC (by omega) λa5 v v' h5=>?_;dsimp only;refine qz he λx x' hx=>?_;dsimp only;refine RS.iter (λ(v w:H×List U)=>Rl C k a v.1 w.1/\LR EE v.2 w.2) (λv w h next next' hn=>?_) _ _ ⟨.mk (by omega),.one hx⟩;obtain ⟨p,l⟩:=v;obtain ⟨p',l'⟩:=w;obtain ⟨⟨a6,g1,g2,h6⟩,hl⟩:=h;dsimp only at g1 g2 hl;subst g1 g2;dsimp only;refine kY hC (by omega) (λa7 t h7 _ _=>?_) (λa7 h7=>?_)
     ·dsimp only;refine RS.br rfl (λ_=>jw (ih.g.alt hC (by omega) .none) λe e' a8 h8 he8=>?_) (λh=>by cases h);dsimp only;exact RS.gd λ_ _=>hn _ _ ⟨.mk (by omega),hl.snoc he8⟩
     dsimp only;exact RS.br rfl (λh=>by cases h) (λ_=>RS.el λx x' _ _ _ _=>RS.ok ⟨.mk (by omega),.sub hl⟩)
    refine fb hC (by omega) λa4 t t' h4 _ _ hs=>?_;dsimp only;exact jN hs λr _=>RS.br rfl (λ_=>ik) (λ_=>hj _ _ (.mk (by omega)))
   refine RS.br rfl (λ_=>?_) (λ_=>hj _ _ (.mk (by omega)));refine fb hC (by omega) λa4 t t' h4 _ _ hs=>?_;dsimp only;exact jN hs λr _=>RS.br rfl (λ_=>RS.ok ⟨.mk (by omega),he⟩) (λ_=>hj _ _ (.mk (by omega)))
  exact RS.br rfl (λ_=>jw (ih.g.alt hC (by omega) hq) λe e' a8 h8 he8=>hj _ _ ⟨.mk (by omega),he8⟩) (λ_=>jw (ih.g.alt hC (by omega) hq) λe e' a8 h8 he8=>hj _ _ ⟨.mk (by omega),he8⟩)
 refine RS.br hq.JN (λ_=>?_) (λ_=>hj _ _ ⟨_,rfl,rfl,by omega,rfl⟩);refine fb hC h0 λa4 t t' h4 _ _ hs=>?_;dsimp only;exact jN hs λr _=>hj _ _ ⟨_,rfl,rfl,by omega,rfl⟩
theorem Ii (ih:GL n) (hC:C.k8) (h0:0<=a):RH (VE C k a) C k a (bz (n+1) j) (bz (n+1) j):=by
 intro q q' hq;show RS _ (dC n (ai n) j _) (dC n (ai n) j _);unfold dC;dsimp only;refine RS.br hq.JN (λ_=>?_) (λ_=>?_)
 ·refine lD hC h0 λa2 v v' h2=>?_;dsimp only;refine kY hC (by omega) (λa7 t h7 _ _=>?_) (λa7 h7=>?_)
  ·exact RS.br rfl (λ_=>jw (ih.g.Ao hC (by omega) hq) λe e' a8 h8 he8=>RS.ok ⟨.mk (by omega),.sub (.one he8)⟩) (λh=>by cases h)
  exact RS.br rfl (λh=>by cases h) (λ_=>jw (ih.g.Ao hC (by omega) hq) λe e' a8 h8 he8=>RS.ok ⟨.mk (by omega),he8⟩)
 exact jw (ih.g.Ao hC (by omega) hq) λe e' a8 h8 he8=>RS.ok ⟨.mk (by omega),he8⟩
theorem Gy (ih:GL n) (hC:C.k8) (h0:0<=a):RH (VE C k a) C k a (bA (n+1) j) (bA (n+1) j):=by
 intro q q' hq;show RS _ (dD n (ai n) j _) (dD n (ai n) j _);unfold dD;refine jw (ih.g.bin hC h0 hq) λe e' a2 h2 he=>?_;dsimp only;refine RS.iter (λ(v w:H×U)=>Rl C k a v.1 w.1/\EE v.2 w.2) (λv w h next next' hn=>?_) _ _ ⟨.mk (by omega),he⟩;obtain ⟨p,e⟩:=v;obtain ⟨p',e'⟩:=w;obtain ⟨⟨a6,g1,g2,h6⟩,he⟩:=h;dsimp only at g1 g2 he;subst g1 g2;dsimp only;refine kY hC (by omega) (λa7 t h7 _ _=>?_) (λa7 h7=>?_)
 ·exact RS.br rfl (λ_=>jw (ih.g.bin hC (by omega) .none) λe2 e2' a8 h8 he8=>hn _ _ ⟨.mk (by omega),.sub (.two he he8)⟩) (λh=>by cases h)
 exact RS.br rfl (λh=>by cases h) (λ_=>RS.ok ⟨.mk (by omega),he⟩)
theorem Ij (ih:GL n) (hC:C.k8) (h0:0<=a) {l:Int}:RH (VE C k a) C k a (bM (n+1) l j) (bM (n+1) l j):=by
 intro q q' hq;show RS _ (eS n (ai n) l j _) (eS n (ai n) l j _);unfold eS;refine RS.br rfl (λ_=>jw (ih.g.unary hC h0 hq) λe e' a8 h8 he8=>RS.ok ⟨.mk (by omega),he8⟩) (λ_=>?_);refine RS.gd λ_ _=>jw (ih.g.bin hC h0 hq) λe e' a2 h2 he=>?_;dsimp only;refine RS.iter (λ(v w:H×U)=>Rl C k a v.1 w.1/\EE v.2 w.2) (λv w h next next' hn=>?_) _ _ ⟨.mk (by omega),he⟩;obtain ⟨p,e⟩:=v;obtain ⟨p',e'⟩:=w;obtain ⟨⟨a6,g1,g2,h6⟩,he⟩:=h;dsimp only at g1 g2 he;subst g1 g2;dsimp only;refine fb hC (by omega) λa4 t t' h4 _ _ hs=>RS.same λops _=>?_;dsimp only;refine uq hs λr=>RS.br rfl (λ_=>?_) (λ_=>RS.ok ⟨.mk (by omega),he⟩);refine lD hC (by omega) λa5 v v' h5=>?_;dsimp only;refine qz he λx x' hx=>?_;dsimp only;refine fb hC (by omega) λa7 t t' h7 _ _ hs=>?_;dsimp only;rw[nx,hs.2];exact RS.gd λ_ _=>RS.gd λ_ _=>jw (ih.g.bin hC (by omega) .none) λe2 e2' a8 h8 he8=>hn _ _ ⟨.mk (by omega),.sub (.two hx he8)⟩
theorem E3 (ih:GL n) (hC:C.k8) (h0:0<=a):RH (VE C k a) C k a (cw (n+1) j) (cw (n+1) j):=by
 intro q q' hq;show RS _ (fm n (ai n) j _) (fm n (ai n) j _);unfold fm;dsimp only;refine RS.br hq.JT (λ_=>jw (ih.g.post hC h0 hq) λe e' a8 h8 he8=>RS.ok ⟨.mk (by omega),he8⟩) (λ_=>?_);refine fb hC h0 λa4 t t' h4 _ _ hs=>?_;dsimp only;refine lD hC (by omega) λa5 v v' h5=>?_;dsimp only;refine RS.jn (λx y=>y=x) (λx y h=>?_) (λj0 j0' hj=>?_)
 ·subst h;rw[nx,hs.2];exact RS.gd λ_ _=>jw (ih.g.unary hC (by omega) hq) λe e' a8 h8 he8=>RS.ok ⟨.mk (by omega),.sub (.one he8)⟩
 refine uq hs λr=>RS.br rfl (λ_=>hj _ _ rfl) (λ_=>uq hs λr=>RS.br rfl (λ_=>hj _ _ rfl) (λ_=>?_));exact jw (ih.g.post hC (by omega) hq) λe e' a8 h8 he8=>RS.ok ⟨.mk (by omega),he8⟩
theorem Ja (ih:GL n) (hC:C.k8) (h0:0<=a) {e e':U} (he:EE e e'):RN (λr r'=>Rl C k a r.1 r'.1/\EE r.2 r'.2) C k a (λp=>c6 n true p e) (λp=>c6 n true p e'):=by
 unfold RN;cases n with
 | zero=>exact RS.nil
 | succ n=>
  show RS _ (dX n (ai n) true _ e) (dX n (ai n) true _ e')
  unfold dX
  dsimp only
  refine jw (k:=true) (a:=a) (P:=EE) ?_ λx x' a2 h2 hx=>RS.ok ⟨.mk h2,hx⟩
  cases n with
  | zero=>exact RS.nil
  | succ n=>
   show RS _ (dU n (ai n) e _) (dU n (ai n) e' _)
   unfold dU
   refine jw (ih.dn.dn.g.expr hC h0 .none) λx x' a2 h2 hx=>?_
   dsimp only
   exact nr hC (by omega) λa3 h3=>RS.ok ⟨.mk (by omega),.sub (.two he hx)⟩
theorem Gz (ih:GL n) (hC:C.k8) (h0:0<=a):RH (VE C k a) C k a (bX (n+1) j) (bX (n+1) j):=by
 intro q q' hq;show RS _ (eF n (ai n) j _) (eF n (ai n) j _);unfold eF;refine jw (ih.g.EW hC h0 hq) λe e' a2 h2 he=>?_;dsimp only;refine RS.iter (λ(v w:H×U)=>Rl C k a v.1 w.1/\EE v.2 w.2) (λv w h next next' hn=>?_) _ _ ⟨.mk (by omega),he⟩;obtain ⟨p,e⟩:=v;obtain ⟨p',e'⟩:=w;obtain ⟨⟨a3,g1,g2,h3⟩,he⟩:=h;dsimp only at g1 g2 he;subst g1 g2;dsimp only;refine fb hC (by omega) λa4 t t' h4 _ _ hs=>?_;dsimp only;refine lD hC (by omega) λa5 v v' h5=>?_;dsimp only;refine jN hs λr _=>RS.br rfl (λ_=>?_) (λ_=>jN hs λr _=>RS.br rfl (λ_=>?_) (λ_=>RS.ok ⟨.mk (by omega),he⟩))
 ·refine qz he λx x' hx=>?_;dsimp only;rw[nx];refine RS.gd λ_ _=>fb hC (by omega) λa6 t t' h6 _ _ hs=>?_;dsimp only;refine RS.jn (λv w=>v=(bR C.s C.T a6 C.b k none)/\w=(bR C.s' C.T' (a6+C.κ) C.b' k none)) (λv w h=>?_) (λj0 j0' hj=>?_)
  ·obtain ⟨rfl,rfl⟩:=h;dsimp only;rw[hs.2];exact RS.gd λ_ _=>hn _ _ ⟨.mk' (by omega) nx,.sub (.one hx)⟩
  exact xu hs λr=>RS.br rfl (λ_=>ik) (λ_=>hj _ _ ⟨rfl,rfl⟩)
 refine qz he λx x' hx=>?_;dsimp only;rw[nx];refine RS.gd λ_ _=>yd (Ja ih hC (by omega) hx) λx x' a6 h6 hx=>?_;dsimp only;exact RS.gd λ_ _=>hn _ _ ⟨.mk' (by omega) nx,hx⟩
theorem E4 (ih:GL n) (hC:C.k8) (h0:0<=a):RN (VE C k a) C k a (cX (n+1)) (cX (n+1)):=by
 unfold RN;show RS _ (fl n (ai n) _) (fl n (ai n) _);unfold fl;refine fb hC h0 λa2 t t' h2 _ _ hs=>?_;dsimp only;refine lD hC (by omega) λa5 v v' h5=>?_;dsimp only;rw[hs.2];refine RS.jn (λe e'=>EE e e') (λe e' he=>?_) (λj0 j0' hj=>?_)
 ·exact RS.gd λ_ _=>RS.ok ⟨.mk' (by omega) nx,he.x.sub .nil⟩
 refine RS.br rfl (λ_=>hj _ _ .leaf) (λ_=>?_);refine RS.jn (λx y=>y=x) (λx y h=>?_) (λj2 j2' hj2=>?_)
 ·subst h;refine RS.br rfl (λ_=>RS.br rfl (λ_=>hj _ _ .leaf) (λ_=>hj _ _ .leaf)) (λ_=>?_);refine RS.jn (λx y=>y=x) (λx y h=>?_) (λj2 j2' hj2=>?_)
  ·subst h;refine RS.br rfl (λ_=>hj _ _ .leaf) (λ_=>?_);refine s7 hC (by omega) λa6 x h6=>?_;dsimp only;refine fb hC (by omega) λa7 t t' h7 _ _ hs=>?_;dsimp only;refine jN hs λr _=>RS.br rfl (λ_=>?_) (λ_=>RS.ok ⟨.mk (by omega),.leaf⟩);exact jw (P:=LR EE) (ih.g.args hC (by omega)) λl l' a4 h4 hl=>RS.ok ⟨.mk (by omega),.sub hl⟩
  exact RS.br rfl (λ_=>hj2 _ _ rfl) (λ_=>RS.br rfl (λ_=>hj2 _ _ rfl) (λ_=>RS.br rfl (λ_=>hj2 _ _ rfl) (λ_=>hj2 _ _ rfl)))
 exact RS.br rfl (λ_=>hj2 _ _ rfl) (λ_=>hj2 _ _ rfl)
theorem Dq (ih:GL n) {t t':aA} {v v':Int} (hs:ST t t'):RN (VE C k a) C k a (cQ (n+1) t v) (cQ (n+1) t' v'):=by
 unfold RN;show RS _ (eU n (ai n) t v _) (eU n (ai n) t' v' _);unfold eU;rw[hs.2];refine RS.same λy _=>?_;refine RS.iter (λ(x y:H×U×Int)=>x.1=(bR C.s C.T a C.b k none)/\y.1=(bR C.s' C.T' (a+C.κ) C.b' k none)/\EE x.2.1 y.2.1/\y.2.2=x.2.2) (λx y h next next' hn=>?_) _ _ ⟨rfl,rfl,.leaf,rfl⟩;obtain ⟨p,e,i⟩:=x;obtain ⟨p',e',i'⟩:=y;obtain ⟨g1,g2,he,g3⟩:=h;dsimp only at g1 g2 g3 he;subst g1 g2 g3;dsimp only;have hx:=he.x;refine RS.br rfl (λ_=>?_) (λ_=>RS.ok ⟨.mk (by omega),hx.sub hx.s⟩);refine RS.el λx x' _ _ hy hy'=>?_;rw[hy] at hy';cases hy';refine RS.gd λ_ _=>RS.gd λ_ _=>RS.br rfl (λ_=>?_) (λ_=>?_)
 ·exact RS.gd λ_ _=>RS.gd λ_ _=>hn _ _ ⟨rfl,rfl,hx.sub (hx.s.snoc .leaf),rfl⟩
 refine RS.bind ih.g.code λz z' hz=>?_;refine RS.JR (λ_=>Ak) (λh=>?_);have hz2:=hz (by simpa using h);exact RS.JM (λh=>by rw[hz2.1] at h;cases h) (λ_=>RS.gd λ_ _=>RS.gd λ_ _=>hn _ _ ⟨rfl,rfl,hx.sub (hx.s.snoc hz2.2),rfl⟩)
theorem Jb (ih:GL n) (hC:C.k8) (h0:0<=a) {e:U}:RN (λr r'=>Rl C k a r.1 r'.1/\EE r.2.2 r'.2.2) C k a (λp=>dp n true p j e) (λp=>dp n true p j e):=by
 unfold RN;cases n with
 | zero=>exact RS.nil
 | succ n=>
  show RS _ (dW n (ai n) true _ j e) (dW n (ai n) true _ j e)
  unfold dW
  dsimp only
  refine RS.bind (W:=λr r'=>Rl C true a r.2.2 r'.2.2/\EE r.2.1 r'.2.1) ?_ λr r' h=>?_
  ·cases n with
   | zero=>exact RS.nil
   | succ n=>
    show RS _ (eh n (ai n) j e _) (eh n (ai n) j e _)
    unfold eh
    refine jw (ih.dn.dn.g.expr hC h0 .none) λx x' a2 h2 hx=>?_
    dsimp only
    exact nr hC (by omega) λa3 h3=>RS.ok ⟨.mk (by omega),hx⟩
  ·obtain ⟨x,e1,p⟩:=r;obtain ⟨x',e1',p'⟩:=r';obtain ⟨⟨a3,g1,g2,h3⟩,he⟩:=h;dsimp only at g1 g2 he;subst g1 g2;exact RS.ok ⟨.mk h3,he⟩
theorem Dr (ih:GL n) (hC:C.k8) (h0:0<=a):RN (VE C k a) C k a (ck (n+1) j) (ck (n+1) j):=by
 unfold RN;show RS _ (eW n (ai n) j _) (eW n (ai n) j _);unfold eW;refine jO hC h0 λa2 t h2 _ _=>yd (P:=λx x':Bool×U=>EE x.2 x'.2) (Jb ih hC (by omega)) λx x' a3 h3 he=>?_;dsimp only;exact RS.gd λ_ _=>RS.ok ⟨.mk' (by omega) nx,he⟩
theorem Jc (ih:GL n) (hC:C.k8) (h0:0<=a) (hB:Gl C a):RN (λr r'=>Rl C k a r.1 r'.1/\LR DD r.2.2.1 r'.2.2.1/\r'.2.2.2=r.2.2.2) C k a (λp=>dm n false p j [] []) (λp=>dm n false p j [] []):=by
 unfold RN;cases n with
 | zero=>exact RS.nil
 | succ n=>
  show RS _ (dV n (ai n) false _ j [] []) (dV n (ai n) false _ j [] [])
  unfold dV
  dsimp only
  refine RS.bind (W:=λr r'=>Rl C false a r.2.2.2 r'.2.2.2/\LR DD r.2.1 r'.2.1/\r'.2.2.1=r.2.2.1) ?_ λr r' h=>?_
  ·cases n with
   | zero=>exact RS.nil
   | succ n=>
    show RS _ (eC n (ai n) j [] [] _) (eC n (ai n) j [] [] _)
    unfold eC
    refine RS.bind (ih.dn.dn.g.decls hC h0 hB) λr r' h=>?_
    obtain ⟨x,e1,p⟩:=r
    obtain ⟨x',e1',p'⟩:=r'
    obtain ⟨⟨a3,g1,g2,h3⟩,hl,ht⟩:=h
    dsimp only at g1 g2 hl ht;subst g1 g2 ht
    dsimp only
    exact nr hC (by omega) λa4 h4=>RS.ok ⟨.mk (by omega),hl,rfl⟩
  ·obtain ⟨x,e1,tl,p⟩:=r;obtain ⟨x',e1',tl',p'⟩:=r';obtain ⟨⟨a3,g1,g2,h3⟩,hl,ht⟩:=h;dsimp only at g1 g2 hl ht;subst g1 g2 ht;exact RS.ok ⟨.mk h3,hl,rfl⟩
theorem E5 (ih:GL n) (hC:C.k8) (h0:0<=a):RN (VB C k a) C k a (bW (n+1) j) (bW (n+1) j):=by
 unfold RN;show RS _ (fj n (ai n) j _) (fj n (ai n) j _);unfold fj;refine jO hC h0 λa2 t h2 ht hk=>yd (P:=λx x':Bool×List Z×List ByS=>LR DD x.2.1 x'.2.1/\x'.2.2=x.2.2) (Jc ih hC (by omega) (.of (by omega) ht hk)) λx x' a3 h3 he=>?_;dsimp only;exact RS.gd λ_ _=>RS.ok ⟨.mk' (by omega) nx,he.1,he.2⟩
theorem Ds (ih:GL n) (hC:C.k8) (h0:0<=a):RN (VE C k a) C k a (cP (n+1) j) (cP (n+1) j):=by
 unfold RN;show RS _ (eT n (ai n) j _) (eT n (ai n) j _);unfold eT;refine lD hC h0 λa2 v v' h2=>?_;dsimp only;refine RS.jn (λe e'=>EE e e') (λe e' he=>?_) (λj0 j0' hj=>?_)
 ·have hx:=he.x;refine RS.bind (ih.g.block hC (by omega)) λr r' h=>?_;obtain ⟨x,e1,p⟩:=r;obtain ⟨x',e1',p'⟩:=r';obtain ⟨⟨a3,g1,g2,h3⟩,hl,ht⟩:=h;dsimp only at g1 g2 hl ht;subst g1 g2 ht;dsimp only;rw[hx.k,hx.t,hx.n,hx.a,hx.b];exact RS.ok ⟨.mk (by omega),EE.of .nil hl⟩
 exact RS.br rfl (λ_=>hj _ _ .leaf) (λ_=>hj _ _ .leaf)
theorem Jd (ih:GL n) (hC:C.k8) (h0:0<=a):RN (λr r'=>Rl C k a r.1 r'.1/\LR EE r.2 r'.2) C k a (λp=>dr n true p []) (λp=>dr n true p []):=by
 unfold RN;cases n with
 | zero=>exact RS.nil
 | succ n=>
  show RS _ (dZ n (ai n) true _ []) (dZ n (ai n) true _ [])
  unfold dZ
  dsimp only
  refine jw (k:=true) (a:=a) (P:=LR EE) ?_ λx x' a2 h2 hx=>RS.ok ⟨.mk h2,hx⟩
  cases n with
  | zero=>exact RS.nil
  | succ n=>
   show RS _ (eR n (ai n) [] _) (eR n (ai n) [] _)
   unfold eR
   refine fb hC h0 λa3 t t' h3 _ _ hs=>?_
   dsimp only
   refine jN hs λr _=>RS.br rfl (λ_=>?_) (λ_=>nr hC (by omega) λa4 h4=>RS.ok ⟨.mk (by omega),.nil⟩)
   refine jw (ih.dn.dn.g.expr hC (by omega) .none) λx x' a2 h2 hx=>?_
   dsimp only
   refine RS.gd λ_ _=>RS.iter (λ(v w:List U×H)=>Rl C true a v.2 w.2/\LR EE v.1 w.1) (λv w h next next' hn=>?_) _ _ ⟨.mk (by omega),.one hx⟩
   obtain ⟨l,p⟩:=v
   obtain ⟨l',p'⟩:=w
   obtain ⟨⟨a6,g1,g2,h6⟩,hl⟩:=h
   dsimp only at g1 g2 hl;subst g1 g2;dsimp only
   refine kY hC (by omega) (λa7 t h7 _ _=>?_) (λa7 h7=>?_)
   ·dsimp only;refine RS.br rfl (λ_=>jw (ih.dn.dn.g.expr hC (by omega) .none) λe e' a8 h8 he8=>?_) (λh=>by cases h);dsimp only;exact RS.gd λ_ _=>hn _ _ ⟨.mk (by omega),hl.snoc he8⟩
   ·exact RS.br rfl (λh=>by cases h) (λ_=>nr hC (by omega) λa8 h8=>RS.ok ⟨.mk (by omega),hl⟩)
theorem GA (ih:GL n) (hC:C.k8) (h0:0<=a):RN (VL C k a) C k a (c8 (n+1)) (c8 (n+1)):=by
 unfold RN;show RS _ (fK n (ai n) _) (fK n (ai n) _);unfold fK;refine jO hC h0 λa2 t h2 _ _=>yd (Jd ih hC (by omega)) λx x' a3 h3 he=>?_;dsimp only;exact RS.gd λ_ _=>RS.ok ⟨.mk' (by omega) nx,he⟩
theorem GB (ih:GL n) (hC:C.k8) (h0:0<=a):RN (VE C k a) C k a (da (n+1)) (da (n+1)):=by
 unfold RN;show RS _ (fN n (ai n) _) (fN n (ai n) _);unfold fN;refine lD hC h0 λa2 v v' h2=>?_;dsimp only;refine fb hC (by omega) λa3 t t' h3 _ _ hs=>?_;dsimp only;refine og hs λr=>RS.br rfl (λ_=>?_) (λ_=>?_)
 ·exact jw (ih.g.expr hC (by omega) .none) λe e' a8 h8 he8=>RS.ok ⟨.mk (by omega),he8⟩
 refine rv hC (by omega) λa4 h4=>Bv hC (by omega) λa5 nm h5=>?_;dsimp only;refine rv hC (by omega) λa6 h6=>jw (ih.g.expr hC (by omega) .none) λe e' a7 h7 he7=>?_;dsimp only;refine RS.gd λ_ _=>RS.jn (λv w=>Rl C k a v.1 w.1/\EE v.2 w.2) (λv w h=>?_) (λj1 j1' hj=>?_)
 ·obtain ⟨p,e⟩:=v;obtain ⟨p',e'⟩:=w;obtain ⟨⟨a8,g1,g2,h8⟩,he⟩:=h;dsimp only at g1 g2 he;subst g1 g2;dsimp only;have hx:=he.x;refine jO hC (by omega) λa9 t h9 _ _=>jw (ih.g.expr hC (by omega) .none) λx x' a10 h10 hx10=>?_;dsimp only;exact RS.gd λ_ _=>RS.ok ⟨.mk (by omega),hx.sub (hx.s.snoc hx10)⟩
 refine fb hC (by omega) λa8 t t' h8 _ _ hs=>?_;dsimp only;refine og hs λr=>RS.br rfl (λ_=>?_) (λ_=>hj _ _ ⟨.mk (by omega),.sub (.one he7)⟩);refine rv hC (by omega) λa9 h9=>jw (ih.g.expr hC (by omega) .none) λx x' a10 h10 hx10=>?_;dsimp only;exact RS.gd λ_ _=>hj _ _ ⟨.mk (by omega),.sub (.two he7 hx10)⟩
theorem Je (ih:GL n) (hC:C.k8) (h0:0<=a) {e e':U} (he:EE e e'):RN (λr r'=>Rl C k a r.1 r'.1/\EE r.2 r'.2) C k a (λp=>dq n true p e) (λp=>dq n true p e'):=by
 unfold RN;cases n with
 | zero=>exact RS.nil
 | succ n=>
  show RS _ (dY n (ai n) true _ e) (dY n (ai n) true _ e')
  unfold dY
  dsimp only
  refine jw (k:=true) (a:=a) (P:=EE) ?_ λx x' a2 h2 hx=>RS.ok ⟨.mk h2,hx⟩
  cases n with
  | zero=>exact RS.nil
  | succ n=>
   show RS _ (eV n (ai n) e _) (eV n (ai n) e' _)
   unfold eV
   refine RS.iter (λ(v w:U×H×Bool)=>Rl C true a v.2.1 w.2.1/\EE v.1 w.1/\w.2.2=v.2.2) (λv w h next next' hn=>?_) _ _ ⟨.mk (by omega),he,rfl⟩
   obtain ⟨e,p,f⟩:=v
   obtain ⟨e',p',f'⟩:=w
   obtain ⟨⟨a6,g1,g2,h6⟩,he,g3⟩:=h
   dsimp only at g1 g2 g3 he;subst g1 g2 g3;dsimp only
   have hx:=he.x
   rw[hx.k,hx.t,hx.n,hx.a,hx.b,hx.tl]
   refine fb hC (by omega) λa7 t t' h7 _ _ hs=>?_
   dsimp only
   refine jN hs λr _=>RS.br rfl (λ_=>?_) (λ_=>nr hC (by omega) λa8 h8=>RS.ok ⟨.mk (by omega),he⟩)
   refine RS.jn (λv w=>∃ a8,v=(bR C.s C.T a8 C.b true none)/\w=(bR C.s' C.T' (a8+C.κ) C.b' true none)/\a<=a8) (λv w h=>?_) (λj0 j0' hj=>?_)
   ·obtain ⟨a8,rfl,rfl,h8⟩:=h;refine lD hC (by omega) λa9 v v' h9=>?_;dsimp only;refine kY hC (by omega) (λa10 t h10 _ _=>?_) (λa10 h10=>?_)
    ·dsimp only;refine RS.br rfl (λ_=>?_) (λh=>by cases h);refine RS.jn (λv w=>Rl C true a v.1 w.1/\EE v.2 w.2) (λv w h=>?_) (λj1 j1' hj=>?_)
     ·obtain ⟨p,x⟩:=v;obtain ⟨p',x'⟩:=w;obtain ⟨⟨a11,g1,g2,h11⟩,hx11⟩:=h;dsimp only at g1 g2 hx11;subst g1 g2;dsimp only;exact RS.gd λ_ _=>nr hC (by omega) λa12 h12=>RS.ok ⟨.mk (by omega),.of (hx.s.snoc hx11) hx.d⟩
     refine fb hC (by omega) λa11 t t' h11 _ _ hs=>?_;dsimp only;refine jN hs λr _=>RS.br rfl (λ_=>?_) (λ_=>hj _ _ ⟨.mk (by omega),.leaf⟩);exact jw (ih.dn.dn.g.expr hC (by omega) .none) λx x' a12 h12 hx12=>hj _ _ ⟨.mk (by omega),hx12⟩
    dsimp only;refine RS.br rfl (λh=>by cases h) (λ_=>jw (ih.dn.dn.g.item hC (by omega)) λx x' a12 h12 hx12=>?_);dsimp only;exact RS.gd λ_ _=>hn _ _ ⟨.mk (by omega),.of (hx.s.snoc hx12) hx.d,rfl⟩
   ·refine RS.br rfl (λ_=>?_) (λ_=>hj _ _ ⟨a7,rfl,rfl,by omega⟩);exact jO hC (by omega) λa8 t h8 _ _=>hj _ _ ⟨a8,rfl,rfl,by omega⟩
theorem GC (ih:GL n) (hC:C.k8) (h0:0<=a):RN (VE C k a) C k a (db (n+1)) (db (n+1)):=by
 unfold RN;show RS _ (fO n (ai n) _) (fO n (ai n) _);unfold fO;refine lD hC h0 λa1 v v' h1=>?_;dsimp only;refine jO hC (by omega) λa2 t h2 _ _=>yd (Je ih hC (by omega) .leaf) λx x' a3 h3 he=>?_;dsimp only;exact RS.gd λ_ _=>RS.ok ⟨.mk' (by omega) nx,he⟩
theorem GD (ih:GL n) (hC:C.k8) (h0:0<=a):RH (VE C k a) C k a (cE (n+1) j) (cE (n+1) j):=by
 intro q q' hq;show RS _ (eG n (ai n) j _) (eG n (ai n) j _);unfold eG;dsimp only;rcases hq with ⟨rfl,rfl⟩|⟨e,e',rfl,rfl,he⟩
 ·refine RS.br rfl (λh=>by cases h) (λ_=>?_);refine fb hC h0 λa2 t t' h2 _ _ hs=>?_;dsimp only;refine lD hC (by omega) λa5 v v' h5=>?_;dsimp only;refine RS.jn (λv w=>Rl C k a5 v.1 w.1/\EE v.2 w.2) (λv w h=>?_) (λj0 j0' hj=>?_)
  ·obtain ⟨p,e⟩:=v;obtain ⟨p',e'⟩:=w;obtain ⟨⟨a6,g1,g2,h6⟩,he⟩:=h;dsimp only at g1 g2 he;subst g1 g2;dsimp only;exact RS.gd λ_ _=>RS.ok ⟨.mk' (by omega) nx,he⟩
  rw[hs.1,hs.2];have hp:=λ{F:H->D (U×H)} (h:RN (VE C k a5) C k a5 F F)=>(jw (V:=VE C k a) (K:=.ok) (K':=.ok) h λe e' a8 h8 he8=>RS.ok ⟨.mk (by omega),he8⟩);refine RS.br rfl (λ_=>hp (ih.g.named hC (by omega))) (λ_=>?_);refine RS.br rfl (λ_=>RS.same λy _=>hj _ _ ⟨.mk (by omega),.leaf⟩) (λ_=>?_);refine RS.br rfl (λ_=>hj _ _ ⟨.mk (by omega),.leaf⟩) (λ_=>?_);refine RS.br rfl (λ_=>?_) (λ_=>?_)
  ·exact jw (ih.g.xx (C:=C) hs) λe e' a8 h8 he8=>hj _ _ ⟨.mk (by omega),he8⟩
  refine jN hs λr _=>RS.br rfl (λ_=>hj _ _ ⟨.mk (by omega),.leaf⟩) (λ_=>?_);refine jN hs λr _=>RS.br rfl (λ_=>hj _ _ ⟨.mk (by omega),.leaf⟩) (λ_=>?_);refine jN hs λr _=>RS.br rfl (λ_=>hp (ih.g.parens hC (by omega))) (λ_=>?_);refine jN hs λr _=>RS.br rfl (λ_=>hp (ih.g.xy hC (by omega))) (λ_=>?_);refine jN hs λr _=>RS.br rfl (λ_=>hp (ih.g.list hC (by omega))) (λ_=>ik)
 exact RS.br rfl (λ_=>RS.some λx x' h h'=>by cases h;cases h';exact RS.ok ⟨.mk (by omega),he⟩) (λh=>by cases h)
theorem E6 (ih:GL n) (hC:C.k8) (h0:0<=a) {d d':Z} (hd:DD d d'):RN (VF C k a) C k a (λp=>cW (n+1) j p d) (λp=>cW (n+1) j p d'):=by
 unfold RN;show RS _ (fk n (ai n) j _ d) (fk n (ai n) j _ d');unfold fk;have hx:=hd.x;rw[hx.a,hx.b,hx.tl,hx.ld,hx.tr];refine fb hC h0 λa2 t t' h2 _ _ hs=>?_;dsimp only;rw[hs.2,nx];refine RS.gd λ_ _=>RS.jn (λv w=>Rl C k a v.1 w.1/\DD v.2 w.2) (λv w h=>?_) (λj0 j0' hj=>?_)
 ·obtain ⟨p,e⟩:=v;obtain ⟨p',e'⟩:=w;obtain ⟨⟨a3,g1,g2,h3⟩,he⟩:=h;dsimp only at g1 g2 he;subst g1 g2;dsimp only;have hx:=he.x;refine jO hC (by omega) λa4 t h4 _ _=>jw (ih.g.expr hC (by omega) .none) λx x' a5 h5 hx5=>?_;dsimp only;rw[hx.k,hx.p,hx.t,hx.a,hx.b,hx.tl,hx.ld,hx.tr];exact RS.ok ⟨.mk (by omega),.of (.one hx5) hx.d⟩
 refine kY hC (by omega) (λa4 t h4 _ _=>?_) (λa4 h4=>?_)
 ·exact RS.br rfl (λ_=>hj _ _ ⟨.mk (by omega),.of hx.s hx.d⟩) (λh=>by cases h)
 dsimp only;refine RS.br rfl (λh=>by cases h) (λ_=>kY hC (by omega) (λa5 t h5 _ _=>?_) (λa5 h5=>?_))
 ·exact RS.br rfl (λ_=>hj _ _ ⟨.mk (by omega),.of hx.s hx.d⟩) (λh=>by cases h)
 exact RS.br rfl (λh=>by cases h) (λ_=>hj _ _ ⟨.mk (by omega),.of hx.s hx.d⟩)
theorem BZ (ih:GL n) (hC:C.k8) (h0:0<=a) {d d':Z} (hd:DD d d'):RN (VF C k a) C k a (λp=>cD (n+1) j p d) (λp=>cD (n+1) j p d'):=by
 unfold RN;show RS _ (eE n (ai n) j _ d) (eE n (ai n) j _ d');unfold eE;have hx:=hd.x;rw[hx.p,hx.a,hx.b,hx.tl,hx.ld,hx.tr];refine jO hC h0 λa2 t h2 _ _=>Dl hC (by omega) (.of hx.s hx.d) λa3 e e' h3 he=>?_;dsimp only;have hx:=he.x;rw[nx];refine RS.gd λ_ _=>jO hC (by omega) λa4 t h4 _ _=>jw (ih.g.expr hC (by omega) .none) λx x' a5 h5 hx5=>?_;dsimp only;rw[hx.k,hx.p,hx.t,hx.a,hx.b,hx.tl,hx.ld,hx.tr];exact RS.ok ⟨.mk (by omega),.of (.one hx5) hx.d⟩
theorem B0 (ih:GL n) (hC:C.k8) (h0:0<=a) {d d':Z} (hd:DD d d'):RN (VF C k a) C k a (λp=>cC (n+1) j p d) (λp=>cC (n+1) j p d'):=by
 unfold RN;show RS _ (eD n (ai n) j _ d) (eD n (ai n) j _ d');unfold eD;have hx:=hd.x;rw[hx.p,hx.t,hx.a,hx.b,hx.tl,hx.ld,hx.tr];refine jw (ih.g.parens hC h0) λe e' a2 h2 he=>?_;dsimp only;refine fb hC (by omega) λa3 t t' h3 _ _ hs=>?_;dsimp only;refine jN hs λr _=>RS.br rfl (λ_=>?_) (λ_=>?_)
 ·refine lD hC (by omega) λa5 v v' h5=>?_;dsimp only;refine qz he λx x' hx5=>?_;dsimp only;rw[nx];refine RS.gd λ_ _=>jw (ih.g.expr hC (by omega) .none) λy y' a6 h6 hy=>?_;exact RS.ok ⟨.mk (by omega),.of (.two hx5 hy) hx.d⟩
 refine jw (ih.g.expr hC (by omega) (.inr ⟨e,e',rfl,rfl,he⟩)) λy y' a6 h6 hy=>?_;exact RS.ok ⟨.mk (by omega),.of (.one hy) hx.d⟩
theorem GG (ih:GL n) (hC:C.k8) (h0:0<=a):RN (VD C k a) C k a (cj (n+1) j) (cj (n+1) j):=by
 unfold RN;show RS _ (fL n (ai n) j _) (fL n (ai n) j _);unfold fL;refine fb hC h0 λa2 t t' h2 _ _ hs=>?_;dsimp only;refine lD hC (by omega) λa5 v v' h5=>?_;dsimp only;refine mH hC λu u' hu=>?_;dsimp only;refine RS.jn (λv w=>VF C k a v w) (λv w h=>RS.ok h) (λj0 j0' hj=>?_);have hE:∀ {b c:Bool} {q q':Option U} {x:Int} {X:U×H->Z},True:=trivial;refine RS.jn (λx y=>y=x) (λx y h=>?_) (λj2 j2' hj2=>?_)
 ·subst h;refine RS.br rfl (λ_=>?_) (λ_=>?_)
  ·exact yd (P:=DD) (ih.g.field hC (by omega) (.of .nil .nil)) λx x' a6 h6 hx=>hj _ _ ⟨.mk (by omega),hx⟩
  refine An hC (by omega) λa6 r h6=>?_;dsimp only;refine RS.br rfl (λ_=>?_) (λ_=>?_)
  ·exact yd (P:=DD) (ih.g.pattern hC (by omega) (.of .nil .nil)) λx x' a6 h6 hx=>hj _ _ ⟨.mk (by omega),hx⟩
  refine og hs λr=>RS.br rfl (λ_=>?_) (λ_=>?_)
  ·refine RS.jn (λp p'=>p=(bR C.s C.T a6 C.b k none)/\p'=(bR C.s' C.T' (a6+C.κ) C.b' k none)) (λp p' h=>?_) (λj3 j3' hj3=>?_)
   ·obtain ⟨rfl,rfl⟩:=h;dsimp only;rw[nx];refine RS.gd λ_ _=>s7 hC (by omega) λa7 x h7=>?_;dsimp only;refine jO hC (by omega) λa8 t8 h8 _ _=>jw (ih.g.expr hC (by omega) .none) λx x' a9 h9 hx=>?_;exact hj _ _ ⟨.mk (by omega),.of (.one hx) .nil⟩
   exact RS.br rfl (λ_=>ik) (λ_=>hj3 _ _ ⟨rfl,rfl⟩)
  refine jN hs λr _=>RS.br rfl (λ_=>?_) (λ_=>?_)
  ·refine RS.jn (λp p'=>p=(bR C.s C.T a6 C.b k none)/\p'=(bR C.s' C.T' (a6+C.κ) C.b' k none)) (λp p' h=>?_) (λj3 j3' hj3=>?_)
   ·obtain ⟨rfl,rfl⟩:=h;dsimp only;exact RS.gd λ_ _=>hj _ _ ⟨.mk' (by omega) nx,.of .nil .nil⟩
   exact RS.br rfl (λ_=>ik) (λ_=>hj3 _ _ ⟨rfl,rfl⟩)
  rw[nx];refine og hs λr=>RS.br rfl (λ_=>?_) (λ_=>?_)
  ·refine RS.gd λ_ _=>jw (ih.g.expr hC (by omega) .none) λx x' a9 h9 hx=>?_;dsimp only;refine RS.bind (ih.g.block hC (by omega)) λr r' h=>?_;obtain ⟨l,tl,p⟩:=r;obtain ⟨l',tl',p'⟩:=r';obtain ⟨⟨a3,g1,g2,h3⟩,hl,ht⟩:=h;dsimp only at g1 g2 hl ht;subst g1 g2 ht;exact hj _ _ ⟨.mk (by omega),.of (.one hx) hl⟩
  refine og hs λr=>RS.br rfl (λ_=>?_) (λ_=>?_)
  ·refine RS.gd λ_ _=>Bv hC (by omega) λa7 nm h7=>?_;dsimp only;refine rv hC (by omega) λa8 h8=>jw (ih.g.expr hC (by omega) .none) λx x' a9 h9 hx=>?_;dsimp only;refine RS.bind (ih.g.block hC (by omega)) λr r' h=>?_;obtain ⟨l,tl,p⟩:=r;obtain ⟨l',tl',p'⟩:=r';obtain ⟨⟨a3,g1,g2,h3⟩,hl,ht⟩:=h;dsimp only at g1 g2 hl ht;subst g1 g2 ht;exact hj _ _ ⟨.mk (by omega),.of (.one hx) hl⟩
  refine jN hs λr _=>RS.br rfl (λ_=>?_) (λ_=>?_)
  ·exact yd (P:=DD) (ih.g.ur hC (by omega) (.of .nil .nil)) λx x' a6 h6 hx=>hj _ _ ⟨.mk (by omega),hx⟩
  exact jw (ih.g.expr hC (by omega) .none) λx x' a9 h9 hx=>hj _ _ ⟨.mk (by omega),.of (.one hx) .nil⟩
 refine xu hs λr=>RS.br rfl (λ_=>uq hu λr=>hj2 _ _ rfl) (λ_=>hj2 _ _ rfl)
theorem By (hd:GR n) (hC:C.k8) (h0:0<=a) (hB:Gl C a) {lead:List ByS}:RN (VB C k a) C k a (fU n lead j) (fU n lead j):=by
 unfold RN;unfold fU;refine RS.iter (λ(v w:H×(List ByS)×(List Z)×Int×Bool)=>Rl C k a v.1 w.1/\w.2.1=v.2.1/\LR DD v.2.2.1 w.2.2.1/\((0<v.2.2.2.1->w.2.2.2.1=v.2.2.2.1+C.κ)/\(v.2.2.2.1<=0->w.2.2.2.1<=0))/\w.2.2.2.2=v.2.2.2.2)
  (λv w h next next' hn=>?_) _ _ ⟨.mk (by omega),rfl,.nil,⟨λh=>by simp at h,λ_=>by simp⟩,rfl⟩
 obtain ⟨p,ld,out,e,sep⟩:=v;obtain ⟨p',ld',out',e',sep'⟩:=w;obtain ⟨⟨a1,g1,g2,h1⟩,g3,hl,he,g4⟩:=h;dsimp only at g1 g2 g3 hl he g4;subst g1 g2 g3 g4;dsimp only;refine Gm hC (by omega) λa2 r h2=>?_;dsimp only;refine RS.br rfl (λ_=>?_) (λ_=>RS.ok ⟨.mk (by omega),hl,rfl⟩);refine fb hC (by omega) λa3 t t' h3 _ _ hs=>?_;dsimp only;rw[hs.1,hs.2,nx,hl.1];refine RS.jn (λx y=>y=x) (λx y h=>?_) (λj1 j1' hj1=>?_)
 ·subst h;refine RS.br rfl (λ_=>?_) (λ_=>?_)
  ·exact RS.gd λ_ _=>hn _ _ ⟨.mk (by omega),rfl,hl,he,rfl⟩
  refine RS.jn (λv w=>v.1=(bR C.s C.T a3 C.b k none)/\w.1=(bR C.s' C.T' (a3+C.κ) C.b' k none)/\w.2=v.2) (λv w h=>?_) (λj2 j2' hj2=>?_)
  ·obtain ⟨p,x⟩:=v;obtain ⟨p',x'⟩:=w;obtain ⟨g1,g2,g3⟩:=h;dsimp only at g1 g2 g3;subst g1 g2 g3;dsimp only;refine RS.br rfl (λ_=>?_) (λ_=>?_)
   ·refine RS.gd λ_ _=>RS.el λd d' _ _ hd1 hd1'=>?_;have hdr:=hl.2 _ _ _ hd1 hd1';have hx:=hdr.x;rw[nx,hx.k,hx.p,hx.t,hx.a,hx.b,hx.tl,hx.ld];exact RS.gd λ_ _=>hn _ _ ⟨.mk (by omega),rfl,hl.set (.of hx.s hx.d) _,he,rfl⟩
   refine RS.jn (λv w=>v.1=(bR C.s C.T a3 C.b k none)/\w.1=(bR C.s' C.T' (a3+C.κ) C.b' k none)/\w.2=v.2) (λv w h=>?_) (λj3 j3' hj3=>?_)
   ·obtain ⟨p,x⟩:=v;obtain ⟨p',x'⟩:=w;obtain ⟨g1,g2,g3⟩:=h;dsimp only at g1 g2 g3;subst g1 g2 g3;dsimp only;refine RS.br rfl (λ_=>?_) (λ_=>?_)
    ·exact RS.gd λ_ _=>RS.gd λ_ _=>hn _ _ ⟨.mk' (by omega) nx,rfl,hl,he,rfl⟩
    refine RS.jn (λx y=>y=x) (λx y h=>?_) (λj4 j4' hj4=>?_)
    ·subst h;refine RS.br rfl (λ_=>ik) (λ_=>jw (hd.decl hC (by omega)) λd d' a4 h4 hdr=>?_);have hx:=hdr.x;dsimp only;rw[hx.k,hx.p,hx.t,hx.a,hx.b,hx.tl,hx.tr];refine RS.gd λ_ _=>hn _ _ ⟨.mk (by omega),rfl,hl.snoc (.of hx.s hx.d),⟨λ_=>rfl,λh=>?_⟩,rfl⟩;dsimp only at h ⊢;rcases hB with w|⟨i,_,w,_⟩
     ·rw[w];omega
     omega
    exact RS.br rfl (λ_=>hj4 _ _ rfl) (λ_=>hj4 _ _ rfl)
   refine RS.br rfl (λ_=>Bw hC (hB.mono (by omega)) (by omega) λr=>hj3 _ _ ⟨rfl,rfl,rfl⟩) (λ_=>hj3 _ _ ⟨rfl,rfl,rfl⟩)
  refine RS.br rfl (λ_=>RS.br (decide_eq_decide.2 ⟨λh=>?_,λh=>?_⟩) (λh=>?_) (λ_=>hj2 _ _ ⟨rfl,rfl,rfl⟩)) (λ_=>hj2 _ _ ⟨rfl,rfl,rfl⟩)
  ·by_cases w:0<e
   ·exact w
   have:=he.2 (by omega);omega
  ·have:=he.1 h;omega
  have h:=of_decide_eq_true h;exact Dk hC (by omega) (by omega) (he.1 h) λr=>hj2 _ _ ⟨rfl,rfl,rfl⟩
 exact RS.br rfl (λ_=>hj1 _ _ rfl) (λ_=>jN hs λr _=>hj1 _ _ rfl)
theorem GH (ih:GL n) {x:ByS} {v v':Int}:RS (λr r'=>r.2=true->r'.2=true/\EE r.1 r'.1) (gx (n+1) x v) (gx (n+1) x v'):=by
 show RS _ (js n (ai n) x v) (js n (ai n) x v');unfold js;refine RS.same λy _=>RS.br rfl (λ_=>RS.ok λh=>by cases h) (λ_=>RS.same λz _=>RS.br rfl (λ_=>RS.ok λh=>by cases h) (λ_=>?_));refine RS.yB ?_ λp a _ h=>?_
 ·have hC:(Cx.mk x y.1 v x y.1 v' 0).k8:=.refl;refine jw (C:=Cx.mk x y.1 v x y.1 v' 0) (ih.g.expr hC (Int.le_refl 0) .none) λe e' a2 h2 he=>?_;dsimp only;refine fb hC (by omega) λa3 t t' h3 _ _ hs=>RS.ok ?_;dsimp only;rw[hs.1];exact λh=>⟨h,he⟩
 have hf:∀ (p:rA) (r:U×Bool),(sn 86 p λv=>D.bind (gK v) λy=>.ok (y.1,y.2))=.ok r->r.2=false:=λp r h=>by
  obtain ⟨v,_,h⟩:=lQ (λq=>by cases q) h;unfold gK at h;cases h;rfl
 have ha:=hf p a h;refine ⟨λb _ q=>(by rw[ha] at q;cases q),λp' _=>?_⟩;cases hh:(sn 86 p' λv=>D.bind (gK v) λy=>.ok (y.1,y.2)) with
 | stuck=>exact .inl rfl
 | ok b=>exact .inr ⟨b,rfl,λq=>by rw[ha] at q;cases q⟩
 | mf w=>
  obtain ⟨v,_,h⟩:=lQ (λq=>by cases q) hh
  unfold gK at h;cases h
theorem Ik:∀ n,GL n:=by
 intro n
 induction n with
 | zero=>
  intro i hi
  have e:i=0:=by omega
  subst e
  constructor<;>intros<;>first|exact RS.nil|(intro q q' _;exact RS.nil)
 | succ n ih=>
  intro i hi
  by_cases h:i<=n
  ·exact ih i h
  have e:i=n+1:=by omega
  subst e
  exact {
   expr:=Gx ih,alt:=Ii ih,Ao:=Gy ih,bin:=λhC h0=>Ij ih hC h0,unary:=E3 ih,post:=Gz ih,EW:=GD ih,named:=E4 ih,xx:=λhs=>Dq ih hs,parens:=Dr ih,xy:=Ds ih
   list:=GC ih,block:=E5 ih,args:=GA ih,item:=GB ih,field:=λhC h0 hd=>E6 ih hC h0 hd,pattern:=λhC h0 hd=>BZ ih hC h0 hd,ur:=λhC h0 hd=>B0 ih hC h0 hd,decl:=GG ih,decls:=λhC h0 hB=>By (lead:=[]) ih.g hC h0 hB,code:=GH ih }
end
def IE (x x':bU):Prop:=x'.Name=x.Name/\x'.Path=x.Path
structure FE (f f':fq):Prop where
 p:f'.gj=f.gj
 i:LR IE f.cT f'.cT
 d:LR DD f.Decls f'.Decls
 t:f'.cl=f.cl
def PI (f f':fq):Prop:=f'.gj=f.gj/\LR IE f.cT f'.cT
section
variable {C:Cx} {α β:Type} {V:α->β->Prop} {m:Nat} {a:Int} {k:Bool} {q q':Option U}
theorem vC (hC:C.k8) (h0:0<=a) (hκ:C.κ=0) {K:List ByS×H->D α} {K':List ByS×H->D β} (hk:∀ a1 l,a<=a1->RS V (K (l,(bR C.s C.T a1 C.b k q))) (K' (l,(bR C.s' C.T' (a1+C.κ) C.b' k q')))) :
  RS V (D.bind (eY m (bR C.s C.T a C.b k q)) K) (D.bind (eY m (bR C.s' C.T' (a+C.κ) C.b' k q')) K'):=by
 refine RS.bind (W:=λr r'=>∃ a1 l,r=(l,(bR C.s C.T a1 C.b k q))/\r'=(l,(bR C.s' C.T' (a1+C.κ) C.b' k q'))/\a<=a1) ?_ λr r' h=>?_
 ·unfold eY
  refine RS.iter (λ(x y:H×List ByS)=>∃ a1,x.1=(bR C.s C.T a1 C.b k q)/\y.1=(bR C.s' C.T' (a1+C.κ) C.b' k q')/\y.2=x.2/\a<=a1) (λx y h next next' hn=>?_) _ _ ⟨a,rfl,rfl,rfl,Int.le_refl _⟩
  obtain ⟨p,l⟩:=x
  obtain ⟨p',l'⟩:=y
  obtain ⟨a1,g1,g2,g3,h1⟩:=h
  dsimp only at g1 g2 g3;subst g1 g2 g3;dsimp only
  refine fb hC (by omega) λa2 t t' h2 _ _ hs=>?_
  dsimp only
  rw[hs.1]
  refine RS.br rfl (λ_=>?_) (λ_=>RS.ok ⟨a2,_,rfl,rfl,by omega⟩)
  refine RS.jn (λv w=>v=(bR C.s C.T a2 C.b k q)/\w=(bR C.s' C.T' (a2+C.κ) C.b' k q')) (λv w h=>?_) (λj j' hj=>?_)
  ·obtain ⟨rfl,rfl⟩:=h
   refine fb hC (by omega) λa3 t t' h3 _ _ hs=>?_
   dsimp only
   rw[hs.2]
   exact RS.gd λ_ _=>RS.gd λ_ _=>hn _ _ ⟨a3+1,rfl,by dsimp only;congr 1;omega,rfl,by omega⟩
  ·refine Bw hC (.inl hκ) (by omega) λr=>?_
   dsimp only
   exact RS.br rfl (λ_=>ik) (λ_=>hj _ _ ⟨rfl,rfl⟩)
 ·obtain ⟨a1,l,rfl,rfl,h1⟩:=h
  exact hk a1 l h1
theorem uu (hC:C.k8) (h0:0<=a) {K:H->D α} {K':H->D β} (hk:∀ a1,a<=a1->RS V (K (bR C.s C.T a1 C.b k q)) (K' (bR C.s' C.T' (a1+C.κ) C.b' k q'))) :
  RS V (D.bind (dM m (bR C.s C.T a C.b k q)) K) (D.bind (dM m (bR C.s' C.T' (a+C.κ) C.b' k q')) K'):=by
 refine RS.bind (W:=λr r'=>∃ a1,r=(bR C.s C.T a1 C.b k q)/\r'=(bR C.s' C.T' (a1+C.κ) C.b' k q')/\a<=a1) ?_ λr r' h=>?_
 ·unfold dM
  refine RS.jn (λv w=>∃ a1,v=(bR C.s C.T a1 C.b k q)/\w=(bR C.s' C.T' (a1+C.κ) C.b' k q')/\a<=a1) (λv w h=>?_) (λj j' hj=>?_)
  ·obtain ⟨a1,rfl,rfl,h1⟩:=h
   exact RS.gd λ_ _=>RS.ok ⟨a1+1,rfl,by dsimp only;congr 1;omega,by omega⟩
  ·refine fb hC (by omega) λa2 t t' h2 _ _ hs=>?_
   dsimp only
   rw[hs.1]
   refine RS.br rfl (λ_=>?_) (λ_=>hj _ _ ⟨a2,rfl,rfl,h2⟩)
   refine fb hC (by omega) λa3 t t' h3 _ _ hs=>?_
   dsimp only
   exact jN hs λr _=>RS.br rfl (λ_=>ik) (λ_=>hj _ _ ⟨a3,rfl,rfl,by omega⟩)
 ·obtain ⟨a1,rfl,rfl,h1⟩:=h
  exact hk a1 h1
theorem vD (hC:C.k8) (h0:0<=a) {K:bU×H->D α} {K':bU×H->D β} (hk:∀ a1 x x',a<=a1->IE x x'->RS V (K (x,(bR C.s C.T a1 C.b k q))) (K' (x',(bR C.s' C.T' (a1+C.κ) C.b' k q')))) :
  RS V (D.bind (dE m (bR C.s C.T a C.b k q)) K) (D.bind (dE m (bR C.s' C.T' (a+C.κ) C.b' k q')) K'):=by
 refine RS.bind (W:=λr r'=>∃ a1 x x',r=(x,(bR C.s C.T a1 C.b k q))/\r'=(x',(bR C.s' C.T' (a1+C.κ) C.b' k q'))/\a<=a1/\IE x x') ?_ λr r' h=>?_
 ·unfold dE
  refine lD hC h0 λa2 v w h2=>?_
  dsimp only
  rw[show a2+(C.κ:Int)+1=a2+1+C.κ by omega]
  refine RS.gd λ_ _=>RS.jn (λv w=>∃ a1,v.1=(bR C.s C.T a1 C.b k q)/\w.1=(bR C.s' C.T' (a1+C.κ) C.b' k q')/\a<=a1/\IE v.2 w.2) (λv w h=>?_) (λj j' hj=>?_)
  ·obtain ⟨p,x⟩:=v
   obtain ⟨p',x'⟩:=w
   obtain ⟨a3,g1,g2,h3,hx⟩:=h
   dsimp only at g1 g2 hx;subst g1 g2;dsimp only
   refine fb hC (by omega) λa4 t t' h4 _ _ hs=>?_
   dsimp only
   rw[hs.1,hs.2,hx.1]
   refine RS.jn (λv w=>v=(bR C.s C.T a4 C.b k q)/\w=(bR C.s' C.T' (a4+C.κ) C.b' k q')) (λv w h=>?_) (λj j' hj=>?_)
   ·obtain ⟨rfl,rfl⟩:=h
    refine RS.jn (λv w=>v.1=(bR C.s C.T a4 C.b k q)/\w.1=(bR C.s' C.T' (a4+C.κ) C.b' k q')/\IE v.2 w.2) (λv w h=>?_) (λj j' hj=>?_)
    ·obtain ⟨p,x⟩:=v
     obtain ⟨p',x'⟩:=w
     obtain ⟨g1,g2,hx⟩:=h
     dsimp only at g1 g2 hx;subst g1 g2;dsimp only
     rw[show a4+(C.κ:Int)+1=a4+1+C.κ by omega]
     refine RS.gd λ_ _=>uu hC (by omega) λa5 h5=>?_
     exact RS.ok ⟨a5,_,_,rfl,rfl,by omega,hx⟩
    ·refine RS.br rfl (λ_=>?_) (λ_=>hj _ _ ⟨rfl,rfl,⟨rfl,rfl⟩⟩)
     refine RS.same λy _=>RS.gd λ_ _=>RS.gd λ_ _=>RS.same λz _=>?_
     exact RS.br rfl (λ_=>ik) (λ_=>hj _ _ ⟨rfl,rfl,⟨rfl,rfl⟩⟩)
   ·exact RS.br rfl (λ_=>ik) (λ_=>hj _ _ ⟨rfl,rfl⟩)
  ·refine fb hC (by omega) λa4 t t' h4 _ _ hs=>?_
   dsimp only
   rw[hs.1]
   refine RS.br rfl (λ_=>s7 hC (by omega) λa5 x h5=>?_) (λ_=>hj _ _ ⟨a4,rfl,rfl,by omega,⟨rfl,rfl⟩⟩)
   exact hj _ _ ⟨a5,rfl,rfl,by omega,⟨rfl,rfl⟩⟩
 ·obtain ⟨a1,x,x',rfl,rfl,h1,hx⟩:=h
  exact hk a1 x x' h1 hx
theorem GI (hC:C.k8) (h0:0<=a) (hκ:C.κ=0):RS (λr r'=>FE r.1 r'.1) (eZ m (bR C.s C.T a C.b k none)) (eZ m (bR C.s' C.T' (a+C.κ) C.b' k none)):=by
 unfold eZ;refine vC hC h0 hκ λa1 l h1=>?_;dsimp only;refine RS.jn (λv w=>∃ a1,v.1=(bR C.s C.T a1 C.b k none)/\w.1=(bR C.s' C.T' (a1+C.κ) C.b' k none)/\a<=a1/\PI v.2.1 w.2.1/\w.2.2=v.2.2) (λv w h=>?_) (λj j' hj=>?_)
 ·obtain ⟨p,f,l⟩:=v;obtain ⟨p',f',l'⟩:=w;obtain ⟨a2,g1,g2,h2,hf,g3⟩:=h;dsimp only at g1 g2 g3 hf;subst g1 g2 g3;dsimp only;refine RS.jn (λv w=>∃ a1,v.1=(bR C.s C.T a1 C.b k none)/\w.1=(bR C.s' C.T' (a1+C.κ) C.b' k none)/\a<=a1/\PI v.2 w.2) (λv w h=>?_) (λj j' hj=>?_)
  ·obtain ⟨p,f⟩:=v;obtain ⟨p',f'⟩:=w;obtain ⟨a3,g1,g2,h3,hf⟩:=h;dsimp only at g1 g2 hf;subst g1 g2;dsimp only;refine RS.bind (By (Ik m).g hC (by omega) (.inl hκ)) λr r' h=>?_;obtain ⟨ds,tl,p⟩:=r;obtain ⟨ds',tl',p'⟩:=r';obtain ⟨⟨a4,g1,g2,h4⟩,hd,ht⟩:=h;dsimp only at g1 g2 hd ht;subst g1 g2 ht;dsimp only;refine fb hC (by omega) λa5 t t' h5 _ _ hs=>?_;dsimp only;rw[hs.1];exact RS.br rfl (λ_=>ik) (λ_=>RS.ok ⟨hf.1,hf.2,hd,rfl⟩)
  refine RS.iter (λ(v w:H×fq)=>∃ a1,v.1=(bR C.s C.T a1 C.b k none)/\w.1=(bR C.s' C.T' (a1+C.κ) C.b' k none)/\a<=a1/\PI v.2 w.2) (λv w h next next' hn=>?_) _ _ ⟨a2,rfl,rfl,h2,hf.1,.nil⟩;obtain ⟨p,f⟩:=v;obtain ⟨p',f'⟩:=w;obtain ⟨a3,g1,g2,h3,hf⟩:=h;dsimp only at g1 g2 hf;subst g1 g2;dsimp only;refine fb hC (by omega) λa4 t t' h4 _ _ hs=>?_;dsimp only;refine og hs λr=>RS.br rfl (λ_=>?_) (λ_=>hj _ _ ⟨a4,rfl,rfl,by omega,hf.1,hf.2⟩);rw[<- hf.2.1];refine RS.br rfl (λ_=>vD hC (by omega) λa5 x x' h5 hx=>?_) (λ_=>?_)
  ·dsimp only;exact RS.gd λ_ _=>hn _ _ ⟨a5,rfl,rfl,by omega,hf.1,hf.2.snoc hx⟩
  refine RS.gd λ_ _=>RS.el λu u' w0 w1 g1 g1'=>?_;have hs2:=hC.tok _ _ _ g1 (by rw[hκ] at g1' ⊢;simpa using g1');rw[hs2.1];refine RS.br rfl (λ_=>vD hC (by omega) λa5 x x' h5 hx=>?_) (λ_=>hj _ _ ⟨a4,rfl,rfl,by omega,hf.1,hf.2⟩);dsimp only;exact RS.gd λ_ _=>hn _ _ ⟨a5,rfl,rfl,by omega,hf.1,hf.2.snoc hx⟩
 refine fb hC (by omega) λa4 t t' h4 _ _ hs=>?_;dsimp only;refine og hs λr=>RS.br rfl (λ_=>?_) (λ_=>hj _ _ ⟨a4,rfl,rfl,by omega,⟨rfl,.nil⟩,rfl⟩);rw[show a4+(C.κ:Int)+1=a4+1+C.κ by omega];refine RS.gd λ_ _=>s7 hC (by omega) λa5 x h5=>?_;dsimp only;refine uu hC (by omega) λa6 h6=>vC hC (by omega) hκ λa7 l2 h7=>?_;dsimp only;exact RS.gd λ_ _=>hj _ _ ⟨a7,rfl,rfl,by omega,⟨rfl,.nil⟩,rfl⟩
end
section
variable {m:Nat->Nat}
theorem ye (hm:cq m) {l:List Bool} {x:Bool} (hl:l.length<=70000):Ev (λi=>ji (m i) l x) (λ_=>True) gP:=by
 unfold ji;refine Ev.aN (Q:=λ_=>True) ?_ λy _=>Ev.ok trivial;unfold ma;refine Ev.iter hm (λ(x:Int)=>0<=x/\x<=l.length) (λx=>(l.length - x).toNat) (by omega) ?_;intro x hx next hn;refine Ev.aO (λ_=>?_) (λ_=>Ev.ok trivial);refine Ev.eA λt _=>Ev.br (λ_=>Ev.ok trivial) (λ_=>Ev.gA (hn _ (by omega) (by omega)))
theorem dF (hm:cq m) {l:List Bool} {p:aq} (hl:l.length<=70000):Ev (λi=>aC (m i) l p) (λ_=>True) gP:=by
 unfold aC;refine Ev.br (λ_=>Ev.ok trivial) (λ_=>Ev.aN (ye hm hl) λy _=>Ev.ok trivial)
theorem yF (hm:cq m) {l:gT}:Ev (λi=>lj (m i) l) (λ_=>True) gP:=by
 unfold lj;refine Ev.aN (gh hm) λy _=>Ev.br (λ_=>Ev.aN (gh hm) λy _=>Ev.br (λ_=>Ev.ok trivial) (λ_=>Ev.ok trivial)) (λ_=>Ev.ok trivial)
theorem oT (hm:cq m) {l:List ByS} (hl:l.length<=70000) (hs:∀ x,x∈l->x.length<=65536):Ev (λi=>ia (m i) l) (λ_=>True) gP:=by
 unfold ia iP;refine Ev.aN (Q:=λ_=>True) ?_ λy _=>Ev.ok trivial;refine Ev.aN (Q:=λ_=>True) ?_ λy _=>Ev.ok trivial;unfold jJ;refine Ev.iter hm (λ(x:Int)=>0<=x/\x<=l.length) (λx=>(l.length - x).toNat) (by omega) ?_;intro x hx next hn;refine Ev.aO (λ_=>?_) (λ_=>Ev.ok trivial);refine Ev.eA λt ht=>?_;have:=hs t (List.mem_of_getElem? ht);refine Ev.aN (Q:=λ_=>True) ?_ λy _=>Ev.br (λ_=>Ev.ok trivial) (λ_=>Ev.gA (hn _ (by omega) (by omega)));unfold oQ;exact Ev.aN (pq (by omega)) λy _=>Ev.ok trivial
theorem px (hm:cq m) {a b:ByS} (hb:b.length<=60000):Ev (λi=>iy (m i) a b) (λ_=>True) gP:=by
 unfold iy;refine Ev.br (λ_=>?_) (λ_=>Ev.ok trivial);exact Ev.aN (xe (by simp) (by omega)) λy hy=>Ev.aN (iV hm (by omega)) λz _=>Ev.ok trivial
theorem Ar {l:gT}:Ev (λ_=>nh l) (λ_=>True) gP:=Ev.ok trivial
theorem As (hm:cq m) {e:U} {p:aq}:Ev (λi=>ei (m i) e p) (λ_=>True) gP:=by
 unfold ei;refine Ev.aN (gh hm) λy _=>Ev.aN (dF hm (by simp)) λy _=>?_;refine Ev.br (λ_=>Ev.aN Ar λy _=>Ev.aN (dF hm (by simp)) λy _=>Ev.ok trivial) (λ_=>?_);refine Ev.br (λ_=>Ev.aN (dF hm (by simp)) λy _=>Ev.ok trivial) (λ_=>?_);refine Ev.jn (λ_=>True) (λv _=>Ev.br (λ_=>Ev.aN (dF hm (by simp)) λy _=>Ev.ok trivial) (λ_=>Ev.aN (dF hm (by simp)) λy _=>Ev.ok trivial)) (λj hj=>?_)
 (repeat' (with_reducible first|refine Ev.gA ?_|refine Ev.eA (λ_ _=>?_)|apply Ev.cR|apply Ev.cA|(first|apply Ev.aO|apply Ev.bw|apply Ev.bP|apply Ev.bt|apply Ev.br)<;>intro _|(apply Ev.kP;try dsimp only)))
 all_goals exact hj _ trivial
theorem GJ (hm:cq m) {e:U} {p:aq}:Ev (λi=>fS (m i) e p) (λ_=>True) gP:=by
 unfold fS;have M:∀ {l:List Bool},l.length<=70000->Ev (λi=>D.bind (aC (m i) l p) λy=>.ok y) (λ_=>True) gP:=λh=>Ev.aN (dF hm h) λy _=>Ev.ok trivial;refine Ev.jn (λ_=>True) (λv _=>?_) (λj hj=>?_)
 ·refine Ev.br (λ_=>Ev.ok trivial) (λ_=>Ev.br (λ_=>M (by simp)) (λ_=>?_));refine Ev.jn (λ_=>True) (λv _=>?_) (λj hj=>?_)
  ·refine Ev.br (λ_=>M (by simp)) (λ_=>?_);refine Ev.jn (λ_=>True) (λv _=>?_) (λj hj=>?_)
   ·refine Ev.br (λ_=>M (by simp)) (λ_=>Ev.br (λ_=>Ev.br (λ_=>M (by simp)) (λ_=>M (by simp))) (λ_=>Ev.br (λ_=>M (by simp)) (λ_=>Ev.br (λ_=>M (by simp)) (λ_=>M (by simp)))))
   (repeat' (with_reducible first|refine Ev.gA ?_|refine Ev.eA (λ_ _=>?_)|apply Ev.cR|apply Ev.cA|(first|apply Ev.aO|apply Ev.bw|apply Ev.bP|apply Ev.bt|apply Ev.br)<;>intro _|(apply Ev.kP;try dsimp only)))
   all_goals exact hj _ trivial
  (repeat' (with_reducible first|refine Ev.gA ?_|refine Ev.eA (λ_ _=>?_)|apply Ev.cR|apply Ev.cA|(first|apply Ev.aO|apply Ev.bw|apply Ev.bP|apply Ev.bt|apply Ev.br)<;>intro _|(apply Ev.kP;try dsimp only)))
  all_goals exact hj _ trivial
 (repeat' (with_reducible first|refine Ev.gA ?_|refine Ev.eA (λ_ _=>?_)|apply Ev.cR|apply Ev.cA|(first|apply Ev.aO|apply Ev.bw|apply Ev.bP|apply Ev.bt|apply Ev.br)<;>intro _|(apply Ev.kP;try dsimp only)))
 all_goals exact hj _ trivial
theorem GK (hm:cq m) {e:U} {p:aq}:Ev (λi=>fT (m i) e p) (λ_=>True) gP:=by
 unfold fT;have M:∀ {l:List Bool},l.length<=70000->Ev (λi=>D.bind (aC (m i) l p) λy=>.ok y) (λ_=>True) gP:=λh=>Ev.aN (dF hm h) λy _=>Ev.ok trivial;refine Ev.jn (λ_=>True) (λv _=>?_) (λj hj=>?_)
 ·refine Ev.br (λ_=>Ev.ok trivial) (λ_=>?_);refine Ev.br (λ_=>Ev.aN (px hm (by simp)) λy _=>M (by simp)) (λ_=>?_);refine Ev.br (λ_=>Ev.aN (px hm (by simp)) λy _=>M (by simp)) (λ_=>?_);refine Ev.br (λ_=>Ev.aN (px hm (by simp)) λy _=>M (by simp)) (λ_=>?_);refine Ev.br (λ_=>Ev.aN (px hm (by simp)) λy _=>M (by simp)) (λ_=>?_);refine Ev.br (λ_=>Ev.aN (gh hm) λy _=>M (by simp)) (λ_=>M (by simp))
 (repeat' (with_reducible first|refine Ev.gA ?_|refine Ev.eA (λ_ _=>?_)|apply Ev.cR|apply Ev.cA|(first|apply Ev.aO|apply Ev.bw|apply Ev.bP|apply Ev.bt|apply Ev.br)<;>intro _|(apply Ev.kP;try dsimp only)))
 all_goals exact hj _ trivial
theorem Il (hm:cq m) {e:U} (he:ky e) {at_:aR} {p:aq}:Ev (λi=>gq (m i) e at_ p) (λ_=>True) gP:=by
 unfold gq;have M:∀ {l:List Bool} {p:aq},l.length<=70000->Ev (λi=>D.bind (aC (m i) l p) λy=>.ok y) (λ_=>True) gP:=λh=>Ev.aN (dF hm h) λy _=>Ev.ok trivial;have h2:=he.l2;have h3:=he.l3;refine Ev.jn (λ_=>True) (λv _=>?_) (λj hj=>?_)
 ·refine Ev.aN (GJ hm) λy _=>Ev.aN (GK hm) λy _=>?_;refine Ev.jn (λ_=>True) (λv _=>?_) (λj hj=>Ev.br (λ_=>hj _ trivial) (λ_=>hj _ trivial));refine Ev.jn (λ_=>True) (λv _=>?_) (λj hj=>?_)
  ·refine Ev.jn (λ_=>True) (λv _=>?_) (λj hj=>?_)
   ·refine Ev.jn (λ_=>True) (λv _=>?_) (λj hj=>?_)
    ·refine Ev.jn (λ_=>True) (λv _=>?_) (λj hj=>?_)
     ·exact Ev.br (λ_=>Ev.br (λ_=>M (by simp)) (λ_=>M (by simp))) (λ_=>Ev.br (λ_=>M (by simp)) (λ_=>M (by simp)))
     exact Ev.br (λ_=>Ev.br (λ_=>Ev.aN (dF hm (by simp)) λy _=>hj _ trivial) (λ_=>Ev.aN (dF hm (by simp)) λy _=>hj _ trivial)) (λ_=>Ev.br (λ_=>Ev.aN (dF hm (by simp)) λy _=>hj _ trivial) (λ_=>Ev.aN (dF hm (by simp)) λy _=>hj _ trivial))
    exact Ev.br (λ_=>Ev.aN (yF hm) λy _=>Ev.aN (dF hm (by simp)) λy _=>hj _ trivial) (λ_=>Ev.aN Ar λy _=>Ev.aN (dF hm (by simp)) λy _=>hj _ trivial)
   refine Ev.br (λ_=>Ev.aN (As hm) λy _=>Ev.ok trivial) (λ_=>?_);refine Ev.jn (λ_=>True) (λv _=>?_) (λj2 hj2=>Ev.br (λ_=>hj2 _ trivial) (λ_=>hj2 _ trivial));refine Ev.br (λ_=>Ev.br (λ_=>Ev.aN (dF hm (by simp)) λy _=>hj _ trivial) (λ_=>Ev.aN (dF hm (by simp)) λy _=>hj _ trivial)) (λ_=>?_);exact Ev.br (λ_=>Ev.aN oS λy _=>Ev.aN (dF hm (by simp)) λy _=>hj _ trivial) (λ_=>Ev.aN (dF hm (by simp)) λy _=>hj _ trivial)
  refine Ev.br (λ_=>Ev.aN (oT hm h3 he.l4) λy _=>Ev.aN (dF hm (by simp)) λy _=>hj _ trivial) (λ_=>?_);refine Ev.gA (Ev.aN (oT hm h3 he.l4) λy _=>Ev.aN (dF hm (by simp)) λy _=>hj _ trivial)
 exact Ev.br (λ_=>Ev.aN (dF hm (by simp)) λy _=>hj _ trivial) (λ_=>Ev.aN (dF hm (by simp)) λy _=>hj _ trivial)
end
structure SG (N:Nat):Prop where
 e:∀ {m:Nat->Nat} {x:U} {at_:aR} {p:aq},cq m->ky x->2*SizeOf.sizeOf x<N->Ev (λi=>aM (m i) x at_ p) (λ_=>True) gP
 d:∀ {m:Nat->Nat} {x:Z} {t:Bool} {l:Int} {p:aq},cq m->lI x->2*SizeOf.sizeOf x<N->Ev (λi=>dQ (m i) x t l p) (λ_=>True) gP
theorem vi {N:Nat} (ih:SG N) {m:Nat->Nat} (hm:cq m) {l:List Z} {t:Bool} {lv:Int} {p:aq} (hl:l.length<=70000) (hs:∀ x,x∈l->lI x/\2*SizeOf.sizeOf x<N):Ev (λi=>bT (m i) l t lv p) (λ_=>True) gP:=by
 refine Ev.grow (F:=λn=>bT n l t lv p) hm λm hm=>?_;show Ev (λi=>eX (m i) (aZ (m i)) l t lv p) _ _;unfold eX;refine Ev.iter hm (λ(x:aq×Int)=>0<=x.2/\x.2<=l.length) (λx=>(l.length - x.2).toNat) (by simp) ?_;intro x hx next hn;refine Ev.aO (λ_=>?_) (λ_=>Ev.ok trivial);refine Ev.eA λd hd=>?_;have:=hs d (List.mem_of_getElem? hd);exact Ev.aN (ih.d hm this.1 this.2) λy _=>Ev.gA (hn _ (by dsimp only;omega) (by dsimp only;omega))
theorem Im:∀ N,SG N:=by
 intro N
 induction N with
 | zero=>exact ⟨λ_ _ h=>absurd h (Nat.not_lt_zero _),λ_ _ h=>absurd h (Nat.not_lt_zero _)⟩
 | succ N ih=>
  refine ⟨?_,?_⟩
  ·intro m x at_ p hm he hN;have hls:=he.l1;have hld:=he.l2;refine Ev.grow (F:=λn=>aM n x at_ p) hm λm hm=>?_;show Ev (λi=>fp (m i) (aZ (m i)) x at_ p) _ _;unfold fp;refine Ev.jn (λ_=>True) (λv _=>?_) (λj hj=>Ev.aO (λ_=>hj _ trivial) (λ_=>hj _ trivial));refine Ev.aN (Il hm he) λy _=>?_;refine Ev.iter hm (λ(w:aq×Int)=>0<=w.2/\w.2<=x.bg.length) (λw=>(x.bg.length - w.2).toNat) (by simp) ?_;intro w hw next hn;refine Ev.aO (λ_=>?_) (λ_=>?_)
   ·refine Ev.jn (λ_=>True) (λv _=>Ev.gA (hn _ (by dsimp only;omega) (by dsimp only;omega))) (λj hj=>?_);refine Ev.eA λz hz=>?_;have hzm:=List.mem_of_getElem? hz;have hsz:=CU hzm;have hE:∀ {at_:aR} {p:aq},Ev (λi=>aM (m i) z at_ p) (λ_=>True) gP:=ih.e hm (he.s z hzm) (by omega);have hB:∀ {at_:aR} {p:aq},Ev (λi=>D.bind ((aZ (m i)).aM z at_ p) λy=>j i y) (λ_=>True) gP:=Ev.aN hE λy _=>hj _ trivial;have hG:Ev (λi=>D.br (x.Kind==14) (D.br (x.jV==0) (.ok p) (.ok p)) (.ok p)) (λ_=>True) gP:=Ev.br (λ_=>Ev.br (λ_=>Ev.ok trivial) (λ_=>Ev.ok trivial)) (λ_=>Ev.ok trivial);refine Ev.br (λ_=>Ev.br (λ_=>Ev.br (λ_=>Ev.br (λ_=>hB) (λ_=>Ev.gA hB)) (λ_=>hB)) (λ_=>Ev.br (λ_=>Ev.br (λ_=>hB) (λ_=>Ev.gA hB)) (λ_=>hB)))
     (λ_=>Ev.br (λ_=>Ev.br (λ_=>hB) (λ_=>Ev.gA hB)) (λ_=>hB))
   exact Ev.aN (vi ih hm hld λd hd=>⟨he.d d hd,by have:=BU hd;omega⟩) λy _=>Ev.ok trivial
  ·intro m x t l p hm he hN;have hls:=he.l1;have hlb:=he.l2;have hlt:=he.l3;refine Ev.grow (F:=λn=>dQ n x t l p) hm λm hm=>?_;show Ev (λi=>fo (m i) (aZ (m i)) x t l p) _ _;unfold fo;refine Ev.jn (λ_=>True) (λv _=>?_) (λj hj=>Ev.aO (λ_=>hj _ trivial) (λ_=>hj _ trivial));refine Ev.jn (λ_=>True) (λv _=>?_) (λj hj=>Ev.bw (λ_=>hj _ trivial) (λ_=>hj _ trivial));refine Ev.jn (λ_=>True) (λv _=>?_) (λj hj=>Ev.aO (λ_=>Ev.aN (dF hm (by simp)) λy _=>hj _ trivial) (λ_=>Ev.aN (dF hm (by simp)) λy _=>hj _ trivial));refine Ev.jn (λ_=>True) (λv _=>?_) (λj hj=>?_)
   ·refine Ev.jn (λ_=>True) (λv _=>?_) (λj hj=>?_)
    ·refine Ev.jn (λ_=>True) (λv _=>?_) (λj hj=>?_)
     ·refine Ev.jn (λ_=>True) (λv _=>?_) (λj hj=>?_)
      ·refine Ev.jn (λ_=>True) (λv _=>?_) (λj hj=>Ev.br (λ_=>hj _ trivial) (λ_=>Ev.br (λ_=>hj _ trivial) (λ_=>hj _ trivial)));refine Ev.aN (dF hm (by simp)) λy _=>?_;refine Ev.jn (λ_=>True) (λv _=>?_) (λj hj=>Ev.br (λ_=>hj _ trivial) (λ_=>Ev.br (λ_=>hj _ trivial) (λ_=>Ev.br (λ_=>hj _ trivial) (λ_=>hj _ trivial))));refine Ev.iter hm (λ(w:aq×Int)=>0<=w.2/\w.2<=x.bg.length) (λw=>(x.bg.length - w.2).toNat) (by simp) ?_;intro w hw next hn;refine Ev.aO (λ_=>?_) (λ_=>?_)
       ·refine Ev.eA λz hz=>?_;have hzm:=List.mem_of_getElem? hz;have hsz:=ES hzm;have hB:∀ {at_:aR} {p:aq},Ev (λi=>D.bind ((aZ (m i)).aM z at_ p) λy=>D.gd (cr (w.2+1)) (next i (y,w.2+1))) (λ_=>True) gP:=
         Ev.aN (ih.e hm (he.s z hzm) (by omega)) λy _=>Ev.gA (hn _ (by dsimp only;omega) (by dsimp only;omega))
        exact Ev.br (λ_=>Ev.br (λ_=>hB) (λ_=>hB)) (λ_=>hB)
       exact Ev.aN (vi ih hm hlb λd hd=>⟨he.d d hd,by have:=ET hd;omega⟩) λy _=>Ev.ok trivial
      exact Ev.br (λ_=>Ev.aN (yF hm) λy _=>Ev.aN (dF hm (by simp)) λy _=>hj _ trivial) (λ_=>Ev.aN Ar λy _=>Ev.aN (dF hm (by simp)) λy _=>hj _ trivial)
     refine Ev.br (λ_=>hj _ trivial) (λ_=>Ev.br (λ_=>Ev.aN (sP hm) λy _=>Ev.aN (dF hm (by simp)) λy _=>hj _ trivial) (λ_=>?_));refine Ev.br (λ_=>Ev.aN (gh hm) λy _=>Ev.aN (dF hm (by simp)) λy _=>hj _ trivial) (λ_=>?_);exact Ev.br (λ_=>Ev.aN (dF hm (by simp)) λy _=>hj _ trivial) (λ_=>Ev.aN (dF hm (by simp)) λy _=>hj _ trivial)
    exact Ev.br (λ_=>Ev.aO (λ_=>Ev.aN (dF hm (by simp)) λy _=>hj _ trivial) (λ_=>Ev.aN (dF hm (by simp)) λy _=>hj _ trivial)) (λ_=>Ev.aN (dF hm (by simp)) λy _=>hj _ trivial)
   refine Ev.aN (oT hm he.l5 he.l6) λy _=>Ev.aN (oT hm hlt he.l4) λy _=>Ev.aN (oT hm (by simp) (by simpa using he.l7)) λy _=>?_;exact Ev.br (λ_=>Ev.aN (dF hm (by simp)) λy _=>hj _ trivial) (λ_=>Ev.gA (Ev.aN (dF hm (by simp)) λy _=>hj _ trivial))
theorem E7 {p:aq}:Ev (λ_=>ig p) (λ_=>True) gP:=by
 unfold ig;exact Ev.br (λ_=>Ev.ok trivial) (λ_=>Ev.br (λ_=>Ev.ok trivial) (λ_=>Ev.ok trivial))
section
variable {e e':U} {m:Nat}
theorem GM (h:EE e e') {p:aq}:fS m e' p=fS m e p:=by
 have hx:=h.x;unfold fS;rw[hx.k,hx.n,hx.s.1]
theorem GO (h:EE e e') {p:aq}:fT m e' p=fT m e p:=by
 have hx:=h.x;unfold fT;rw[hx.k,hx.t]
theorem Io (h:EE e e') {p:aq}:ei m e' p=ei m e p:=by
 have hx:=h.x;unfold ei;rw[hx.t,hx.n,hx.a,hx.b,hx.s.1]
theorem Ip (h:EE e e') {q:aR} {p:aq}:gq m e' q p=gq m e q p:=by
 have hx:=h.x;unfold gq;simp only[GM h,GO h,Io h,hx.k,hx.n,hx.a,hx.b,hx.tl,<- hx.s.1,<- hx.d.1]
abbrev RQ {X:Type} (x y:D X):Prop:=RS (λa b=>b=a) x y
theorem RQ.bind {X Y:Type} {x y:D X} {f g:X->D Y} (h:RQ x y) (hk:∀ a,RQ (f a) (g a)):RQ (D.bind x f) (D.bind y g):=RS.bind h λa b q=>by rw[q];exact hk a
theorem RQ.rfl {X:Type} {x:D X}:RQ x x:=λa e=>.inr ⟨a,e,Eq.refl _⟩
theorem RQ.jn {X Y:Type} {j j':X->D Y} {p p':(X->D Y)->D Y} (hj:∀ v,RQ (j v) (j' v)) (hp:∀ j j':X->D Y,(∀ v,RQ (j v) (j' v))->RQ (p j) (p' j')):RQ (D.jn j p) (D.jn j' p'):=hp j j' hj
structure CQ (n:Nat):Prop where
 e:∀ {e e':U} {q:aR} {p:aq},EE e e'->RQ (aM n e q p) (aM n e' q p)
 d:∀ {d d':Z} {z:Bool} {l:Int} {p:aq},DD d d'->RQ (dQ n d z l p) (dQ n d' z l p)
 l:∀ {d d':List Z} {z:Bool} {l:Int} {p:aq},LR DD d d'->RQ (bT n d z l p) (bT n d' z l p)
theorem Iq:∀ n,CQ n:=by
 intro n
 induction n with
 | zero=>constructor<;>(intros;exact RS.nil)
 | succ n ih=>
  refine ⟨?_,?_,?_⟩
  ·intro e e' q p he;have hx:=he.x;show RQ (fp n (aZ n) e q p) (fp n (aZ n) e' q p);unfold fp;simp only[Ip he,hx.k,hx.n,<- hx.s.1];refine RQ.jn (λv=>RQ.bind RQ.rfl λy=>?_) (λj j' hj=>?_)
   ·refine RS.iter (λ(v w:aq×Int)=>w=v) (λv w h next next' hn=>?_) _ _ rfl;subst h;refine RS.br rfl (λ_=>RQ.jn (λv=>RS.gd λ_ _=>hn _ _ rfl) λj j' hj=>?_) (λ_=>RQ.bind (ih.l hx.d) λy=>RQ.rfl);refine RS.el λx x' _ _ hx1 hx2=>?_;have hxx:=hx.s.2 _ _ _ hx1 hx2;have A:∀ {q:aR},RQ (D.bind ((aZ n).aM x q w.1) λy=>j y) (D.bind ((aZ n).aM x' q w.1) λy=>j' y):=λ{q}=>RQ.bind (ih.e hxx) hj;repeat' (first|exact A|refine RS.br rfl (λ_=>?_) (λ_=>?_)|refine RS.gd λ_ _=>?_)
   repeat' (first|exact hj _|refine RS.br rfl (λ_=>?_) (λ_=>?_))
  ·intro d d' z l p hd;have hx:=hd.x;show RQ (fo n (aZ n) d z l p) (fo n (aZ n) d' z l p);unfold fo;simp only[hx.k,hx.p,hx.t,hx.a,hx.b,hx.tl,hx.ld,hx.tr,<- hx.s.1,<- hx.d.1];have A:∀ {x x':U} {q:aR} {w:aq},EE x x'->RQ ((aZ n).aM x q w) ((aZ n).aM x' q w):=ih.e;have L:∀ {y:Int} {w:aq},RQ ((aZ n).bT d.Body false y w) ((aZ n).bT d'.Body false y w):=ih.l hx.d;repeat' (with_reducible first|refine RQ.jn (λv=>?_) (λj j' hj=>?_)|refine RS.br rfl (λ_=>?_) (λ_=>?_)|refine RS.gd λ_ _=>?_|exact hj _|refine RQ.bind RQ.rfl λy=>?_|refine RS.el λx x' _ _ hx1 hx2=>?_|exact RQ.bind L λy=>RQ.rfl|(refine RS.iter (λ(v w:aq×Int)=>w=v) (λv w h next next' hn=>?_) _ _ rfl;subst h))
   all_goals exact RQ.bind (A (hx.s.2 _ _ _ hx1 hx2)) λy=>RS.gd λ_ _=>hn _ _ rfl
  ·intro d d' z l p hd;show RQ (eX n (aZ n) d z l p) (eX n (aZ n) d' z l p);unfold eX;simp only[<- hd.1];refine RS.iter (λ(v w:aq×Int)=>w=v) (λv w h next next' hn=>?_) _ _ rfl;subst h;refine RS.br rfl (λ_=>RS.el λx x' _ _ hx1 hx2=>RQ.bind (ih.d (hd.2 _ _ _ hx1 hx2)) λy=>RS.gd λ_ _=>hn _ _ rfl) (λ_=>RQ.rfl)
theorem E8 {f f':fq} (h:FE f f'):RQ (iE m f) (iE m f'):=by
 unfold iE;rw[h.p,h.t,<- h.i.1];refine RQ.jn (λv=>?_) (λj j' hj=>RS.br rfl (λ_=>RQ.bind RQ.rfl λy=>RQ.bind RQ.rfl λz=>hj _) (λ_=>RQ.bind RQ.rfl λy=>RQ.bind RQ.rfl λz=>RQ.bind RQ.rfl λw=>hj _));refine RS.iter (λ(v w:aq×Int)=>w=v) (λv w h2 next next' hn=>?_) _ _ rfl;subst h2;refine RS.br rfl (λ_=>RS.el λx x' _ _ hx1 hx2=>?_) (λ_=>RQ.bind ((Iq m).l h.d) λy=>RQ.rfl);rw[(h.i.2 _ _ _ hx1 hx2).1];exact RQ.bind RQ.rfl λy=>RQ.bind RQ.rfl λz=>RS.gd λ_ _=>hn _ _ rfl
end
theorem oh {m:Nat->Nat} (hm:cq m) {l:List ByS} (hl:l.length<=70000):Ev (λi=>iz (m i) l l) (λr=>r=true) gP:=by
 unfold iz;refine Ev.bP (λh=>absurd rfl h) (λ_=>?_);refine Ev.iter hm (λ(v:Int)=>0<=v/\v<=l.length) (λv=>(l.length - v).toNat) (by omega) ?_;intro v hv next hn;refine Ev.aO (λh=>Ev.eA λx hx=>Ev.yA (by omega) hx (Ev.bP (λh=>absurd rfl h) (λ_=>Ev.gA (hn _ (by omega) (by omega))))) (λ_=>Ev.ok rfl)
structure JX (N:Nat):Prop where
 e:∀ {m:Nat->Nat} {e e':U},cq m->SizeOf.sizeOf e<N->ky e->EE e e'->Ev (λi=>fP (m i) e' e) (λr=>r=true) gP
 d:∀ {m:Nat->Nat} {l l':List Z},cq m->(∀ d,d∈l->SizeOf.sizeOf d<N)->l.length<=70000->(∀ d,d∈l->lI d)->LR DD l l'->Ev (λi=>dt (m i) l' l) (λr=>r=true) gP
theorem E9 {α X Y:Type} {R:X->Y->Prop} {l:List X} {l':List Y} (h:LR R l l') {v:Int} (h0:0<=v) (h1:v<l'.length) {K:Nat->Y->X->D α} {Q:α->Prop} {P:rA->Prop}
  (hk:∀ x y,x∈l->R x y->Ev (λi=>K i y x) Q P):Ev (λi=>D.el l' v λy=>D.el l v λx=>K i y x) Q P:=by
 have e:=h.1
 refine Ev.el h0 (by omega) λy hy=>Ev.el h0 (by omega) λx hx=>hk x y (List.mem_of_getElem? hx) (h.2 _ _ _ hx hy)
theorem GP:∀ N,JX N:=by
 intro N
 induction N with
 | zero=>exact ⟨λ_ h=>absurd h (Nat.not_lt_zero _),λ{m l l'} hm hN _ _ hR=>by
  have:l=[]:=by
   cases l with
   | nil=>rfl
   | cons d l=>exact absurd (hN d (by simp)) (Nat.not_lt_zero _)
  subst this;have:l'=[]:=List.eq_nil_of_length_eq_zero (by rw[<- hR.1];rfl);subst this;refine Ev.grow (F:=λn=>dt n [] []) hm λm hm=>?_;show Ev (λi=>gY (m i) (er (m i)) [] []) _ _;unfold gY;refine Ev.bP (λh=>absurd rfl h) (λ_=>?_);refine Ev.iter hm (λ(v:Int)=>v=0) (λ_=>0) rfl ?_;rintro v rfl next hn;exact Ev.aO (λh=>by simp at h) (λ_=>Ev.ok rfl)⟩
 | succ N ih=>
  refine ⟨λ{m e e'} hm hN hs hR=>?_,λ{m l l'} hm hN hl hs hR=>?_⟩
  ·refine Ev.grow (F:=λn=>fP n e' e) hm λm hm=>?_;show Ev (λi=>kH (m i) (er (m i)) e' e) _ _;unfold kH;have hx:=hR.x;have hl1:=hs.l1;have e1:=hx.s.1;rw[hx.k,hx.t,hx.n,hx.a,hx.b,hx.tl];refine Ev.bP (λh=>absurd rfl h) (λ_=>Ev.bP (λh=>absurd rfl h) (λ_=>Ev.bP (λh=>absurd rfl h) (λ_=>Ev.br (λh=>by simp at h) (λ_=>Ev.bP (λh=>absurd (by rw[e1]) h) (λ_=>?_)))));refine Ev.bind (oh hm hs.l3) (λ_ q=>q) λy hy=>?_;subst hy;refine Ev.cA (Ev.iter hm (λ(v:Int)=>0<=v/\v<=e'.bg.length) (λv=>(e'.bg.length - v).toNat) (by omega) ?_);intro v hv next hn;refine Ev.aO (λh=>E9 hx.s (by omega) h λx x' hm1 hxx=>?_) (λ_=>?_)
   ·refine Ev.bind (ih.e hm (by have:=CU hm1;omega) (hs.s _ hm1) hxx) (λ_ q=>q) λy hy=>?_;subst hy;exact Ev.cA (Ev.gA (hn _ (by omega) (by omega)))
   exact Ev.bind (ih.d hm (λd hd=>by have:=BU hd;omega) hs.l2 hs.d hx.d) (λ_ q=>q) λy hy=>Ev.ok hy
  ·refine Ev.grow (F:=λn=>dt n l' l) hm λm hm=>?_;show Ev (λi=>gY (m i) (er (m i)) l' l) _ _;unfold gY;have e1:=hR.1;refine Ev.bP (λh=>absurd (by rw[e1]) h) (λ_=>?_);refine Ev.iter hm (λ(v:Int)=>0<=v/\v<=l'.length) (λv=>(l'.length - v).toNat) (by omega) ?_;intro v hv next hn;refine Ev.aO (λh=>E9 hR (by omega) h λd d' hd1 hdd=>?_) (λ_=>Ev.ok rfl);have hx:=hdd.x;have hds:=hs _ hd1;have hdN:=hN _ hd1;have e2:=hx.s.1;have hl1:=hds.l1;rw[hx.k,hx.p,hx.t,hx.a,hx.b,hx.tr,hx.ld,hx.tl];refine Ev.bP (λh=>absurd rfl h) (λ_=>Ev.bP (λh=>absurd rfl h) (λ_=>Ev.bP (λh=>absurd rfl h) (λ_=>Ev.br (λh=>by simp at h) (λ_=>Ev.bP (λh=>absurd rfl h) (λ_=>Ev.bP (λh=>absurd (by rw[e2]) h) (λ_=>?_))))));refine Ev.bind (oh hm hds.l5) (λ_ q=>q) λy hy=>?_;subst hy;refine Ev.cA (Ev.bind (oh hm hds.l3) (λ_ q=>q) λy hy=>?_);subst hy;refine Ev.cA (Ev.bind (ih.d hm (λd hd=>by have:=ET hd;omega) hds.l2 hds.d hx.d) (λ_ q=>q) λy hy=>?_);subst hy;refine Ev.cA (Ev.iter hm (λ(w:Int)=>0<=w/\w<=d'.bg.length) (λw=>(d'.bg.length - w).toNat) (by omega) ?_);intro w hw next2 hn2;refine Ev.aO (λh=>E9 hx.s (by omega) h λx x' hm1 hxx=>?_) (λ_=>?_)
   ·refine Ev.bind (ih.e hm (by have:=ES hm1;omega) (hds.s _ hm1) hxx) (λ_ q=>q) λy hy=>?_;subst hy;exact Ev.cA (Ev.gA (hn2 _ (by omega) (by omega)))
   exact Ev.gA (hn _ (by omega) (by omega))
end Go.Abs
end
