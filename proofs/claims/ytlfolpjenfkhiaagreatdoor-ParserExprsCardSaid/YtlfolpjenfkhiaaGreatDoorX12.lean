/- PROVED: lemmas of the proof of: configlanglaw26.ParserExprs returns true for every input. CONDITIONS: as each lemma states. -/
import Derived.Test.YtlfolpjenfkhiaaGreatDoorX11
set_option linter.all false
namespace Go.Abs
open aG
variable {n:Nat} {r r1 r2:ah} {α β γ:Type} {e:ak} {c line bt b0 b1:Bool} {s x b:ByS} {a k lo pos:Int} {t:aB} {d:aK} {tl:List ByS} {out:List aB}
section
variable {m:Nat->Nat} {ds es:ByS}
def Spl.len (h:Spl x ds es):x.length=ds.length+es.length+(if x=ds then 0 else 1)/\0<ds.length:=by
 have h0:0<ds.length:=s7.2 h.ne;refine ⟨?_,h0⟩;rcases h.eq with ⟨h1,h2⟩|h1
 ·rw[aL h1,h1,h2];simp
 have:x≠ds:=λe=>by
  have:=iy List.length h1;rw[e] at this;simp at this
 rw[aC this,h1];simp;omega
def Spl.get (h:Spl x ds es) {i:Nat} {c:UInt8} (hi:x[i]?=some c):(i<ds.length/\ds[i]?=some c/\xF c=true)\/(i=ds.length/\c=46/\x=ds++46::es)\/(ds.length<i/\es[i - ds.length - 1]?=some c/\xF c=true/\x=ds++46::es):=by
 rcases Nat.lt_trichotomy i ds.length with hl|hl|hl
 ·have e:ds[i]?=some c:=by
   rcases h.eq with ⟨h1,_⟩|h1
   ·rw[<- h1];exact hi
   rw[h1,fE hl] at hi;exact hi
  exact .inl ⟨hl,e,h.d1 c (aP e)⟩
 ·rcases h.eq with ⟨h1,_⟩|h1
  ·rw[h1] at hi;have:=(ao.1 hi).1;omega
  rw[h1,ga aD,hl,Nat.sub_self] at hi;cases hi;exact .inr (.inl ⟨hl,rfl,h1⟩)
 rcases h.eq with ⟨h1,_⟩|h1
 ·rw[h1] at hi;have:=(ao.1 hi).1;omega
 rw[h1,ga aD] at hi;obtain ⟨k,hk⟩:∃ k,i - ds.length=k+1:=⟨i - ds.length - 1,aD⟩;rw[hk,nO] at hi;rw[show i - ds.length - 1=k by omega];exact .inr (.inr ⟨hl,hi,h.d2 c (aP hi),h1⟩)
def D0 {l:ByS} {k:Nat} (h:∀ b,b∈l->xF b=true):∀ b,b∈l++List.replicate k 48->xF b=true:=λb hb=>by
 rcases bL.1 hb with hb|hb
 ·exact h b hb
 rw[(List.mem_replicate.1 hb).2];decide
def ô (h:Spl x ds es) (hx:x.length<=20):Tk (mK n x) (Ň x ds es):=by
 have h1:=h;obtain ⟨hl,GD⟩:=h.len;have dd:∀ b,b∈ds++es->xF b=true:=λb hb=>(bL.1 hb).elim (h.d1 b) (h.d2 b);unfold mK jg;refine cA Ij λ_=>rE (λv=>v=(ds,es)) (λv hv=>?_) λj hj=>oW (λv:Int=>0<=v/\v<=ds.length) (λv hv next hn=>?_) n ⟨dN,aD⟩
 ·subst hv;refine oW (λv=>v=es++List.replicate (v.length - es.length) 48/\es.length<=v.length/\(v.length<=4\/v=es)) (λv hv next hn=>?_) n ⟨bm,ik _,.inr rfl⟩;obtain ⟨v1,v2,v3⟩:=hv;refine cA (λh=>dY λ_=>hn _ ⟨?_,rI,.inl (by have:=bg h;simp;omega)⟩) λh=>cA (λh=>iw ?_) λh2=>dY λ_=>?_
  ·rw[show (v++([48]:ByS)).length - es.length=v.length - es.length+1 by simp;omega,List.replicate_succ',<- gj,<- v1]
  ·have h:=bg h;have:v=es:=v3.resolve_left aD;unfold Ň;rw[aC (λq=>by rw[this] at h;omega)]
  have l4:v.length=4:=by have:=aU h;have:=aU h2;omega
  rw[l4] at v1;unfold Ň;rw[v1,<- gj];generalize hS:ds++es++List.replicate (4 - es.length) 48=S;have uv:=h1.ne;obtain ⟨p1,p2⟩:=pI (l:=S) (by rw[<- hS];exact D0 dd) (by rw[<- hS];intro e;simp at e;exact uv e.1);unfold tY;by_cases hb:dv 0 S<9223372036854775808
  ·rw[p1 hb];refine tb Qg (cA dC λ_=>?_);dsimp only;by_cases hv:dv 0 S<=1000000000000000
   ·refine nG (show mc (dv 0 S:Nat)=.ok true by unfold mc;rw[aV aD,aV aD];rfl) (cA dC λ_=>tb (ajp aD aD) ?_);rw[rW];refine cA (λh=>iw ?_) λh=>iw ?_
    ·rw[aC (λq=>by rw[q.2.2] at h;simp at h)]
    rw[aL ⟨aD,hv,jk⟩]
   refine nG (show mc (dv 0 S:Nat)=.ok false by unfold mc;rw[aV aD,bA aD];rfl) (cA (λ_=>iw ?_) dC);rw[aC (λq=>hv q.2.1)]
  rw[p2 aD];refine tb Qg (cA (λ_=>iw ?_) dC);rw[aC (λq=>by have:=q.2.1;omega)]
 have fin:x=ds->¬ v<x.length->(x,([]:ByS))=(ds,es):=λe _=>by
  rcases h.eq with ⟨h1,h2⟩|h1
  ·rw[h1,h2]
  rw[e] at h1;have:=iy List.length h1;simp at this
 refine cA (λgR=>kD λc _ hc=>?_) λgR=>hj _ ?_
 ·rw[mz 46 46 rfl];refine cA (λLH=>dY λ_=>dY λ_=>dY λ_=>hj _ ?_) λLH=>dY λ_=>hn _ ?_
  ·have LH:c=46:=by simpa using LH
   subst LH;rcases h.get hc with ⟨_,_,q⟩|⟨q,_,e⟩|⟨q,_⟩
   ·cases q
   ·unfold sd gp;rw[show (v+1).toNat=v.toNat+1 by omega,q,e];simp
   omega
  rcases h.get hc with ⟨q,_⟩|⟨_,q,_⟩|⟨q,_⟩
  ·exact ⟨by omega,by omega⟩
  ·rw[q] at LH;cases LH
  omega
 have gR:=aU gR;by_cases e:x=ds
 ·exact fin e gR
 rw[aC e] at hl;omega
def afV (hm:bN m) (h:Spl x ds es) (hx:x.length<=18):Ev (λi=>nM (m i) x) (λr=>r=Ň x ds es) dt:=by
 obtain ⟨hl,GD⟩:=h.len;have dd:∀ b,b∈ds++es->xF b=true:=λb hb=>(bL.1 hb).elim (h.d1 b) (h.d2 b);have pw:∀ i k:Nat,i<=k->10 ^ i<=10 ^ k:=λi k h=>Nat.pow_le_pow_right (n:=10) dN h;have xes:es.length=0\/x=ds++46::es:=h.eq.elim (λh=>.inl (by rw[h.2];rfl)) .inr;unfold nM;refine aS (λh=>aw h aD) λ_=>bR hm (λ(w:Int×Int×Int)=>0<=w.2.2/\w.2.2<=x.length/\((w.2.1 = -1/\w.2.2<=ds.length/\w.1=dv 0 (ds.take w.2.2.toNat))\/(ds.length<w.2.2/\w.2.1=w.2.2 - ds.length - 1/\w.1=dv 0 (ds++es.take w.2.1.toNat)))) (λw=>(x.length - w.2.2).toNat) ⟨dN,eZ,.inl ⟨rfl,eZ,by simp[dv]⟩⟩ ?_;rintro ⟨a,p,v⟩ ⟨i0,i1,i2⟩ next hn;dsimp only at i0 i1 i2 hn ⊢;refine aS (λhv=>?_) λhv=>?_
 ·obtain ⟨c,hc⟩:∃ c,x[v.toNat]?=some c:=⟨_,aA aD⟩;have hg:=h.get hc;have ab:0<=a/\a<1000000000000000000 / 10:=by
   rcases i2 with ⟨_,q,e⟩|⟨q,e0,e⟩
   ·have:=@WN (ds.take v.toNat) 0 λb hb=>h.d1 b (pQ hb);have:=pw (ds.take v.toNat).length 17 rI;omega
   have:=@WN (ds++es.take p.toNat) 0 λb hb=>(bL.1 hb).elim (h.d1 b) λhb=>h.d2 b (pQ hb);have:=pw (ds++es.take p.toNat).length 17 rI;omega
  refine bD (λ(w:Int×Int)=>(c=46/\w=(a,0))\/(xF c=true/\w=(a*10+(c.toNat - 48),if 0<=p then p+1 else p))) (λw hw=>aF (hn _ ⟨eZ,eZ,?_⟩ eZ)) λj hj=>?_
  ·dsimp only;rcases hw with ⟨rfl,rfl⟩|⟨hd,rfl⟩
   ·rcases hg with ⟨_,_,q⟩|⟨q,_,e⟩|⟨_,_,q,_⟩
    ·cases q
    ·rcases i2 with ⟨_,q2,e2⟩|⟨q2,_⟩
     ·refine .inr ⟨aD,eZ,?_⟩;rw[e2,q];simp
     omega
    cases q
   have b48:=Dd.1 hd;dsimp only;rcases hg with ⟨q,q2,_⟩|⟨_,q,_⟩|⟨q,q2,_⟩
   ·rcases i2 with ⟨e0,_,e2⟩|⟨q2,_⟩
    ·refine .inl ⟨by rw[aC aD];exact e0,by omega,?_⟩;obtain ⟨w1,w2⟩:=ao.1 q2;rw[show (v+1).toNat=v.toNat+1 by omega,jH w1,w2,afS];omega
    omega
   ·subst q;cases hd
   rcases i2 with ⟨_,q3,_⟩|⟨q3,e0,e2⟩
   ·omega
   refine .inr ⟨aD,by rw[aL aD];omega,?_⟩;rw[aL aD];rw[show v.toNat - ds.length - 1=p.toNat by omega] at q2;obtain ⟨w1,w2⟩:=ao.1 q2;rw[show (p+1).toNat=p.toNat+1 by omega,jH w1,w2,<- gj,afS];omega
  have dig:xF c=true->Ev (λi=>jn (λ(v24:Bool)=>br v24 (el x v λb29=>gd (cD ((IntKind.wrap .i64 (a*10))+(IntKind.wrap .i64 (IntKind.wrap .u8 ((b29.toNat:Int) - 48))))) (br (decide (p>=0)) (gd (cD (p+1)) (j i ((IntKind.wrap .i64 (a*10))+(IntKind.wrap .i64 (IntKind.wrap .u8 ((b29.toNat:Int) - 48))),p+1))) (j i ((IntKind.wrap .i64 (a*10))+(IntKind.wrap .i64 (IntKind.wrap .u8 ((b29.toNat:Int) - 48))),p)))) (br (decide (v>0)) (.ok (0,8)) (el x v λb41=>br ((b41.toNat:Int) !=45) (.ok (0,8)) (j i (a,p))))) λj25=>el x v λb47=>br (decide ((b47.toNat:Int)>=48)) (el x v λb52=>j25 ((decide ((b52.toNat:Int)<=57)))) (j25 (false))) (λr=>r=Ň x ds es) dt:=λhd=>by
   have b48:=Dd.1 hd;have yL:=hj (a*10+(c.toNat - 48),if 0<=p then p+1 else p) (.inr ⟨hd,rfl⟩);refine bD (λw=>w=true) (λw hw=>?_) λk hk=>cR i0 hc (aS (λ_=>cR i0 hc (hk _ (aV aD))) λh=>aw h aD);subst hw;refine ba (cR i0 hc ?_);rw[wrap_i64 (x:=a*10) aD aD,Pb (x:=(c.toNat:Int) - 48) aD aD,wrap_i64 (x:=(c.toNat:Int) - 48) aD aD];refine aF (aS (λhp=>aF ?_) λhp=>?_)
   ·rwa [aL aD] at yL
   rwa [aC aD] at yL
  have np:¬ (c=46/\p<0)->xF c=true:=λhq=>by
   rcases hg with ⟨_,_,q⟩|⟨q,q2,_⟩|⟨_,_,q,_⟩
   ·exact q
   ·rcases i2 with ⟨e0,_⟩|⟨q3,_⟩
    ·exact aw ⟨q2,by omega⟩ hq
    omega
   exact q
  refine bD (λ_=>xF c=true) (λ_ hw=>dig hw) λk hk=>cR i0 hc ?_;rw[mz 46 46 rfl];refine ay (λLH=>aS (λhp=>hj _ (.inl ⟨by simpa using LH,rfl⟩)) λhp=>hk () (np λq=>hp q.2)) λLH=>hk () (np λq=>by rw[q.1] at LH;cases LH)
 
 have fa:a=dv 0 (ds++es)/\(if p<0 then 0 else p)=es.length:=by
  by_cases e:x=ds
  ·rcases h.eq with ⟨_,h2⟩|h1
   ·rcases i2 with ⟨e0,_,e2⟩|⟨q,_⟩
    ·rw[aL aD,h2,e2,dI (by rw[aL e] at hl;omega)];simp
    rw[aL e,h2] at hl;simp at hl;omega
   rw[e] at h1;have:=iy List.length h1;simp at this
  rw[aC e] at hl;rcases i2 with ⟨_,q,_⟩|⟨_,e0,e2⟩
  ·omega
  rw[aC aD,e2,dI aD];exact ⟨rfl,by omega⟩
 obtain ⟨rfl,fp⟩:=fa;have al:=@WN (ds++es) 0 dd;have:=pw (ds++es).length 18 rI;refine bD (λw:Int=>w=es.length) (λw hw=>?_) λj hj=>aS (λhp=>hj _ (by rw[aL hp] at fp;exact fp)) λhp=>hj _ (by rw[aC hp] at fp;exact fp);subst hw;refine bR hm (λ(w:Int×Int)=>es.length<=w.2/\(w.2<=4\/w.2=es.length)/\w.1=dv 0 (ds++es++List.replicate (w.2.toNat - es.length) 48)/\w.1<=1000000000000000000) (λw=>(4 - w.2).toNat) ⟨eZ,.inr rfl,bm,eZ⟩ ?_;rintro ⟨a,k⟩ ⟨k0,k1,k2,k3⟩ next hn;dsimp only at k0 k1 k2 k3 hn ⊢;subst k2;refine aS (λhk=>aS (λFe=>aj ?_) λFe=>aF ?_) λhk=>?_
 ·unfold Ň;rw[aC (λq=>?_)];have:List.replicate (4 - es.length) (48:UInt8)=List.replicate (k.toNat - es.length) 48++List.replicate (4 - k.toNat) 48:=by
   rw[List.replicate_append_replicate];congr 1;omega
  have q2:=q.2.1;rw[this,<- gj,ò] at q2;have:=@ó (List.replicate (4 - k.toNat) 48) (dv 0 (ds++es++List.replicate (k.toNat - es.length) 48));omega
 ·rw[wrap_i64 aD aD];refine hn _ ⟨eZ,.inl eZ,?_,eZ⟩ eZ;dsimp only;rw[show (k+1).toNat - es.length=k.toNat - es.length+1 by omega,List.replicate_succ',<- gj,afS];have:(48:UInt8).toNat=48:=rfl;omega
 obtain ⟨c,hc⟩:∃ c,x[(0:Int).toNat]?=some c:=⟨_,aA (show (0:Int).toNat<x.length by show 0<x.length;omega)⟩;have c45:c≠45:=λe=>by
  subst e;rcases h.get hc with ⟨_,_,q⟩|⟨_,q,_⟩|⟨_,_,q,_⟩<;>cases q
 refine bD (λw:Int=>w=dv 0 (ds++es++List.replicate (k.toNat - es.length) 48)) (λw hw=>?_) λj hj=>aS (λ_=>cR aD hc ?_) λ_=>hj _ rfl
 ·have e4:es.length<=4->k.toNat=4:=λ_=>by omega
  have e5:¬ es.length<=4->k.toNat - es.length=0:=λ_=>by omega
  by_cases hv:w<=1000000000000000
  ·refine ai (Q:=λr=>r=true) (by unfold tK;rw[aV aD,aV hv];exact aj rfl) ?_;rintro _ rfl;refine aH (ai (ajs hm aD hv) ?_);rintro _ rfl;have ew:w.toNat=dv 0 (ds++es++List.replicate (k.toNat - es.length) 48):=by omega
   unfold Ň;by_cases h4:es.length<=4
   ·rw[e4 h4] at ew hw;rw[ew];refine ay (λuv=>aj ?_) λhe=>aj ?_
    ·rw[aC (λq=>by rw[q.2.2] at uv;simp at uv)]
    rw[aL ⟨h4,aD,Dh⟩,hw]
   rw[aC (λq=>h4 q.1)];refine ay (λ_=>aj rfl) λhe=>?_;have he:TX w.toNat=x:=by simpa using he
   have xe:=xes.resolve_left aD;rw[xe] at he;exact aw (afR h.d1 he) h4
  refine ai (Q:=λr=>r=false) (by unfold tK;rw[aV aD,bA hv];exact aj rfl) ?_;rintro _ rfl;refine ba (aj ?_);unfold Ň;rw[aC (λq=>?_)];have q2:=q.2.1;rw[e4 q.1] at hw;omega
 rw[mz 45 45 rfl];exact ay (λh=>aw jk c45) λ_=>hj _ rfl
def adx:aji:=by
 intro n m x hm hx;obtain ⟨ds,es,h⟩:=afU hx;have hl:=h.len;have lk:∀ {r:Int×Int},Tk (mK n x) r->Ev (λi=>nM (m i) x) (λz=>z=r) dt->LK (mK n x) (λi=>nM (m i) x) (λy z=>z=y) (λ_ _=>False):=λ{r} h1 h2=>by
  rcases h1 with h1|h1
  ·rw[h1];exact dc
  rw[h1];exact ⟨λ_ e=>by cases e;exact h2,λ_ e=>by cases e⟩
 have short:¬ x.length<=18->Ev (λi=>nM (m i) x) (λz=>z=(0,8)) dt:=λh=>by
  unfold nM;exact aS U9 λh=>aw (show (x.length:Int)>18 by omega) h
 by_cases h20:x.length<=20
 ·by_cases S9:x.length<=18
  ·exact lk (ô h h20) (afV hm h S9)
  have:Ň x ds es=(0,8):=by
   unfold Ň;rw[aC (λq=>?_)];have:=ajr q.2.1;rw[q.2.2] at this;exact S9 this
  have f:=ô (n:=n) h h20;rw[this] at f;exact lk f (short S9)
 refine lk (r:=(0,8)) ?_ (short aD);unfold mK jg;exact cA (λ_=>kJ) λh=>aw qk aD
end
section
def Bv (k:Int) (t:ByS):Bool:=if k=1\/k=2\/k=3\/k=4 then true else if k=5 then (vM [32,95,124,95,32,95,32,46,46,46,32,41,32,93,32,125,32,63,32] ([32]++t++[32])).isSome else false
def enL:List ByS:=[[95,124,95],[95],[46,46,46],[41],[93],[125],[63]]
def afW:∀ o,o∈ops->Bv 5 o=enL.contains o:=by decide +kernel
section
variable {m:Nat} {x:ey}
def Pe {k n:Int} {t:ByS}:Tk (eR k t n x) ⟨x.bM,x.bB+n,x.out++[⟨k,t,x.bB,x.bB+n⟩],if k=6 then x.line else Bv k t⟩:=by
 unfold eR Cz jU;refine dY λ_=>dY λ_=>dY λ_=>cA (λh=>iw ?_) (λh=>?_)
 ·rw[aL jk]
 have h6:k≠6:=by simpa using h
 rw[aC h6];refine rE (λv=>v=decide (k=1\/k=2\/k=3\/k=4)) (λv hv=>?_) (λj hj=>?_)
 ·refine cA (λh=>iw ?_) (λh=>cA (λh5=>dY λ_=>dY λ_=>?_) (λh5=>iw ?_))
  ·rw[h] at hv;unfold Bv;rw[aL (bg hv.symm)]
  ·rw[h] at hv;have e:Bv k t=(vM [32,95,124,95,32,95,32,46,46,46,32,41,32,93,32,125,32,63,32] ([32]++t++[32])).isSome:=by
    unfold Bv;rw[aC (aU hv.symm),aL MQ]
   rw[e];exact tb (by unfold strings_Contains;exact dY λ_=>kJ) kJ
  rw[h] at hv;unfold Bv;rw[aC (aU hv.symm),aC MQ]
 refine cA (λh=>hj _ ?_) (λh1=>cA (λh=>hj _ ?_) (λh2=>cA (λh=>hj _ ?_) (λh3=>hj _ ?_)))
 ·have:k=1:=by simpa using h
  simp[this]
 ·have:k=2:=by simpa using h
  simp[this]
 ·have:k=3:=by simpa using h
  simp[this]
 have g1:k≠1:=by simpa using h1
 have g2:k≠2:=by simpa using h2
 have g3:k≠3:=by simpa using h3
 rw[cV];simp[g1,g2,g3]
end
variable {c r:ByS}
def ajt (hc:∀ b,b∈c->b≠10) (hr:r=[]\/∃ y,r=10::y):(match vM (c++r) [10] with|some i=>((c++r).take i,(c++r).drop (i+([10]:ByS).length),true)|none=>(c++r,[],false)).1=c:=by
 have:vM (c++r) [10]=if r=[] then none else some c.length:=by
  induction c with
  | nil=>
   rcases hr with rfl|⟨y,rfl⟩
   ·rfl
   ·simp[vM,List.isPrefixOf]
  | cons b c ih=>
   have hb:=hc b bm
   have e:([10]:ByS).isPrefixOf (b::(c++r))=false:=by simp[List.isPrefixOf];exact λq=>hb q.symm
   simp only[mC,vM,e]
   rw[ih λb' xH=>hc b' (by simp[xH])]
   by_cases q:r=[]<;>simp[q]
 rw[this];rcases hr with rfl|⟨y,rfl⟩<;>simp
def Lm:∀ o∈ops,(∀ b,o[0]?=some b->pW 0 b=true->o=[95,124,95]\/o=[95])/\0<o.length:=by
 have:∀ o∈ops,(match o with|b::_=>!(pW 0 b)||o==[95,124,95]||o==[95]|[]=>false)=true:=by decide
 intro o ho;have:=this o ho;cases o with
 | nil=>cases this
 | cons c o=>
  refine ⟨λb hb hp=>?_,bm⟩
  simp at hb;subst hb
  simp only[hp] at this
  simpa using this
variable {u:ByS}
def Pf (h:K3 u≠[]):K3 u∈ops/\(K3 u).isPrefixOf u=true:=by
 unfold K3 at h ⊢;cases e:ops.find? λo=>o.isPrefixOf u with
 | none=>rw[e] at h;exact JO
 | some o=>exact ⟨e9 e,nj (p:=λo:ByS=>o.isPrefixOf u) e⟩
def õ (h:0<qe u):(K3 u).length<=qe u:=by
 by_cases q:K3 u=[]
 ·rw[q];simp
 obtain ⟨h1,h2⟩:=Pf q;rw[OT] at h2;have hl:=(Lm _ h1).2;have hr:=R1 (u:=u);obtain ⟨b,hb,hp⟩:=BO (p:=pW) (u:=u) (i:=0) (j:=0) aD;have e0:=h2 0 hl;rw[hb] at e0;rcases (Lm _ h1).1 b e0.symm hp with e|e
 ·exfalso;rw[e] at h2;have u0:=h2 0 dN;have u1:=h2 1 dN;have yG:run pW 0 u=1:=run_eq (λj hj=>⟨b,by rw[show j=0 by omega];exact hb,by rw[show j=0 by omega];exact hp⟩) λc hc=>by
   rw[u1] at hc;cases hc;decide
  unfold qe at h;rw[aL ⟨yG,.inr u0⟩] at h;omega
 rw[e];exact h
def WO {c:UInt8} {w:ByS} (h:pW 0 c=false):qe (c::w)=0:=by
 unfold qe;simp[run,h]
def afX (hc:∀ b,b∈c->b≠10) (hr:r=[]\/∃ y,r=10::y):∃ y,y.1=c/\Tk (strings_Cut (c++r) [10]) y:=⟨_,ajt hc hr,by unfold strings_Cut;exact dY λ_=>kJ⟩
def LL (s:ByS) (a:Int):List aB->Bool
 | []=>false
 | t::l=>if t.an=7 then false else if t.an=6 then LL s a l else !EH s t.oZ a&&Bv t.an t.bJ
variable {a':Int}
def Ul (h:a<=a') (hn:∀ p:Nat,a<=p->(p:Int)<a'->s[p]?≠some 10):∀ {l:List aB},(∀ t,t∈l->0<=t.oZ/\t.oZ<=a)->LL s a' l=LL s a l
 | [],_=>rfl
 | t::l,hl=>by
  have ih:=Ul h hn λu hu=>hl u (sK _ hu);obtain ⟨h0,h1⟩:=hl t bm;have e:EH s t.oZ a'=EH s t.oZ a:=by
   rw[cV,ue h0,ue h0];constructor
   ·rintro ⟨p,q1,q2,q3⟩;rcases oA (p:Int) a with q|q
    ·exact ⟨p,q1,q,q3⟩
    exact aw q3 (hn p q q2)
   rintro ⟨p,q1,q2,q3⟩;exact ⟨p,q1,by omega,q3⟩
  simp only[LL,ih,e]
def ö {s:ByS} {a a':Int} (h:a<=a'):∀ {l:List aB},(∀ t,t∈l->0<=t.oZ/\t.oZ<=a)->LL s a l=false->LL s a' l=false
 | [],_,_=>rfl
 | t::l,hl,hf=>by
  have ih:=@ö s a a' h l λu hu=>hl u (List.mem_cons_of_mem _ hu);obtain ⟨h0,h1⟩:=hl t (by simp);simp only[LL] at hf ⊢;split
  ·rfl
  split
  ·rename_i q1 q2;rw[if_neg q1,if_pos q2] at hf;exact ih hf
  rename_i q1 q2;rw[if_neg q1,if_neg q2,Bool.and_eq_false_iff] at hf;rw[Bool.and_eq_false_iff];exact hf.imp (λh2=>by
   have h2:EH s t.oZ a=true:=by simpa using h2
   rw[E3 h0 (Int.le_refl _) h h2];rfl) id
section
variable {m:Nat->Nat}
def afY (hm:bN m) {t:aB} (ht:t.an=5->t.bJ∈ops):Ev (λi=>AF (m i) t) (λr=>r=Bv t.an t.bJ) dt:=by
 unfold AF jg;refine bD (λv=>v=decide (t.an=1\/t.an=2\/t.an=3\/t.an=4)) (λv hv=>?_) (λj hj=>?_)
 ·subst hv;unfold Bv;by_cases h:t.an=1\/t.an=2\/t.an=3\/t.an=4
  ·rw[aL h,aV h];exact ba uY
  rw[aC h,bA h];refine aH (ay (λh5=>?_) λh5=>aj (by rw[aC MQ]));have h5:t.an=5:=by simpa using h5
  have e:=afW _ (ht h5);unfold Bv at e;rw[aC dN,aL rfl] at e;rw[aL h5,e];refine bR hm (λ(v:Int)=>0<=v/\v<=7/\(enL.drop v.toNat).contains t.bJ=enL.contains t.bJ) (λv=>(7 - v).toNat) ⟨dN,dN,rfl⟩ ?_;rintro v ⟨v0,v1,v2⟩ next hn;refine aS (λh=>gL v0 h λy hy=>?_) λh=>aj ?_
  ·have h:v<7:=h;have hy:enL[v.toNat]?=some y:=hy;obtain ⟨q1,q2⟩:=ao.1 hy;rw[cb q1,q2,List.contains_cons] at v2;refine ay (λh2=>aj ?_) λh2=>aF (hn _ ⟨aD,aD,?_⟩ aD)
   ·rw[<- v2,show (t.bJ==y)=true by rw[cn] at h2 ⊢;exact h2.symm];rfl
   rw[<- v2,show (t.bJ==y)=false by rw[beq_eq_false_iff_ne] at h2 ⊢;exact λq=>h2 q.symm,show (v+1).toNat=v.toNat+1 by omega];rfl
  have h:¬ v<7:=h;rw[show v=7 by omega] at v2;rw[<- v2];rfl
 refine ay (λh=>hj _ ?_) λh1=>ay (λh=>hj _ ?_) λh2=>ay (λh=>hj _ ?_) λh3=>hj _ ?_
 ·have:t.an=1:=by simpa using h
  simp[this]
 ·have:t.an=2:=by simpa using h
  simp[this]
 ·have:t.an=3:=by simpa using h
  simp[this]
 have g1:t.an≠1:=by simpa using h1
 have g2:t.an≠2:=by simpa using h2
 have g3:t.an≠3:=by simpa using h3
 rw[cV];simp[g1,g2,g3]
def aju (hm:bN m) (ha:a<=s.length) (hs:s.length<=65536) {l:List aB} (hl:(l.length:Int)<=70000) (he:∀ t,t∈l->0<=t.oZ/\t.oZ<=a) (h5:∀ t,t∈l->t.an=5->t.bJ∈ops) :
  Ev (λi=>xz (m i) s l a) (λr=>r=LL s a l.reverse) dt:=by
 unfold xz
 refine aF (bR hm (λ(v:Int)=>-1<=v/\v<l.length/\LL s a (l.take (v+1).toNat).reverse=LL s a l.reverse) (λv=>(v+1).toNat) ⟨aD,aD,by rw[dI aD]⟩ ?_)
 rintro v ⟨v0,v1,v2⟩ next hn
 refine aS (λh=>?_) λh=>aj (by rw[<- v2,show (v+1).toNat=0 by omega];rfl)
 obtain ⟨t,ht⟩:∃ t,l[v.toNat]?=some t:=⟨_,aA aD⟩
 obtain ⟨q1,q2⟩:=ao.1 ht
 rw[show (v+1).toNat=v.toNat+1 by omega,jH q1,q2,nR,mh,mJ,LL] at v2
 have tm:=aP ht
 obtain ⟨e0,e1⟩:=he t tm
 refine cR h ht (ay (λh7=>aj ?_) λh7=>cR h ht (ay (λh6=>aF (hn _ ⟨aD,aD,?_⟩ aD)) λh6=>cR h ht ?_))
 ·rw[<- v2,aL Qx]
 ·rw[aC Qx,aL (by simpa using h6)] at v2
  rw[show v - 1+1=v by omega];exact v2
 rw[aC Qx,aC (by simpa using h6)] at v2
 refine bR hm (λ(w:Int)=>t.oZ<=w/\w<=a/\EH s w a=EH s t.oZ a) (λw=>(a - w).toNat) ⟨eL _,e1,rfl⟩ ?_
 rintro w ⟨w0,w1,w2⟩ Nl IN
 refine aS (λhw=>?_) λhw=>cR h ht (ai (afY hm (h5 t tm)) ?_)
 ·obtain ⟨c,hc⟩:∃ c,s[w.toNat]?=some c:=⟨_,aA aD⟩
  refine cR aD hc ?_
  rw[mz 10 10 rfl]
  refine ay (λyM=>aj ?_) λyM=>aF (IN _ ⟨aD,aD,?_⟩ aD)
  ·have yM:c=10:=by simpa using yM
   subst yM
   have:EH s t.oZ a=true:=(ue e0).2 ⟨w.toNat,aD,aD,hc⟩
   rw[<- v2,this];rfl
  ·rw[<- w2,cV,ue aD,ue aD]
   constructor
   ·rintro ⟨p,p1,p2,p3⟩;exact ⟨p,by omega,p2,p3⟩
   ·rintro ⟨p,p1,p2,p3⟩
    refine ⟨p,?_,p2,p3⟩
    rcases oA w p with q|q
    ·omega
    ·rw[show p=w.toNat by omega,hc] at p3
     cases p3;cases yM
 ·rintro _ rfl
  have:EH s t.oZ a=false:=by
   rw[<- w2]
   cases q:EH s w a with
   | false=>rfl
   | true=>
    obtain ⟨p,p1,p2,_⟩:=(ue aD).1 q
    omega
  refine aj ?_
  rw[<- v2,this];simp
end
end
section
variable {δ X Y:Type} {V:α->β->Prop} {W:sT->β->Prop} {x:aG α} {F:Nat->aG β}
def LK.te {y:α} {z:β} (h:Tk x y) (h':Ev F (λr=>r=z) dt) (hv:V y z):LK x F V W:=by
 rcases h with rfl|rfl
 ·exact dc
 exact ⟨λ_ e=>by cases e;exact h'.oB λ_ q=>q▸hv,λ_ e=>by cases e⟩
def LK.ø {x:aG γ} {G:Nat->aG δ} {U:γ->δ->Prop} {f:γ->aG α} {K:Nat->δ->aG β} (h:LK x G U λ_ _=>False) (hk:∀ a b,x=.ok a->U a b->LK (f a) (λi=>K i b) V W):LK (ag x f) (λi=>ag (G i) (K i)) V W:=
 cq (U:=λa b=>x=.ok a/\U a b) (W0:=λ_ _=>False) ⟨λa e=>(h.1 a e).oB λ_ q=>⟨e,q⟩,h.2⟩ (λa b q=>hk a b q.1 q.2) λ_ _ h=>h.elim
def LK.rb {F:Nat->aG δ} {g:δ->β} {V':α->δ->Prop} (h:LK x F V' λ_ _=>False) (hk:∀ a b,V' a b->V a (g b)):LK x (λi=>ag (F i) λy=>.ok (g y)) V W:=
 ⟨λa e=>(h.1 a e).gZ λb q=>aj (hk a b q),λp e=>(h.2 p e).gZ λb q=>q.elim⟩
def LK.jnT (J:Y->Prop) {j:Nat->Y->aG β} {p:Nat->(Y->aG β)->aG β} (hj:∀ v,J v->LK x (λi=>j i v) V W) (hp:∀ j:Nat->Y->aG β,(∀ v,J v->LK x (λi=>j i v) V W)->LK x (λi=>p i (j i)) V W):LK x (λi=>aG.jn (j i) (p i)) V W:=hp j hj
end
structure Nf (s:ByS) (a:Int) (t:aB):Prop where
 p:t.cG=a
 e:a<t.oZ
 l:t.oZ<=s.length
 k:t.an≠0/\t.an≠7
 k6:t.an=6->(∀ p:Nat,a<=p->(p:Int)<t.oZ->s[p]?≠some 10)/\(t.oZ=s.length\/s[t.oZ.toNat]?=some 10)
 k5:t.an=5->t.bJ∈ops
 k4:t.an=4->∀ {m:Nat->Nat},bN m->Ev (λi=>jh (m i) t.bJ) (λz=>z.2.dX=0) dt
 k2:t.an=2->Sf t.bJ
def NV (s:ByS) (a:Int) (out:List aB) (line:Bool) (y:Bool×ey) (z:aB×Bool):Prop:=
 z.2=y.1/\(y.1=false->y.2.bB=a)/\(y.1=true->y.2=⟨s,z.1.oZ,out++[z.1],if z.1.an=6 then line else Bv z.1.an z.1.bJ⟩/\Nf s a z.1)
section
variable {m:Nat->Nat}
def ù {t:aB}:NV s a out line (false,⟨s,a,out,line⟩) (t,false):=⟨rfl,λ_=>rfl,λh=>by cases h⟩
def sub_sub {k:Int} (h0:0<=a) (h1:1<=k):sub (sub s a (a+k)) 1 (k - 1)=sub s (a+1) (a+k - 1):=by
 unfold sub;rw[nV,r7,j8];congr 1
 ·omega
 congr 1;omega
def afZ (hm:bN m) (h0:0<=a) (hb:s[a.toNat]?=some 34) (hs:s.length<=65536) :
  LK (nD n ⟨s,a,out,line⟩) (λi=>ag (zZ (m i) s a) λy10=>br (decide (y10.1<0)) (.ok ((aB.mk 0 [] 0 0),false)) (ag (vn (m i) s a y10.1 y10.2) λy16=>.ok (y16.1,y16.2))) (NV s a out line) (λ_ _=>False):=by
 have gR:=(ao.1 hb).1
 unfold nD jg
 refine bK λ_=>gU T2 (bn (O0 hm h0 aD hs) ?_)
 unfold Gi Gg
 dsimp only
 rw[show (gp s a).drop (1:Int).toNat=s.drop (a+1).toNat by unfold gp;rw[j8];congr 1;omega]
 cases e:pK (s.drop (a+1).toNat) with
 | none=>exact aI (λ_=>aJ (λ_=>bZ ù) λh=>by cases h) λh=>by cases h
 | some x=>
  have hx:=T0 e
  have hx0:=abi e
  simp only[gP] at hx
  dsimp only
  simp only[ll]
  refine aI (λh=>aw jk (by omega:¬ (1:Int)+x.1=0)) λ_=>bK λ_=>bK λ_=>aJ Ij λ_=>?_
  refine LK.rb (V':=NV s a out line) ?_ λ_ _ h=>h
  unfold vn jg
  have f:∀ {k:Int},k=3\/k=4->∀ {t:ByS},(k=4->∀ {m:Nat->Nat},bN m->Ev (λi=>jh (m i) t) (λz=>z.2.dX=0) dt)->LK (ag (eR k t (1+x.1) ⟨s,a,out,line⟩) λy=>.ok (true,y)) (λ_=>.ok (aB.mk k t a (a+1+x.1 - 1+1),true)) (NV s a out line) (λ_ _=>False):=λ{k} hk {t} hi=>by
   refine gU Pe (bZ ⟨rfl,dC,λ_=>⟨?_,rfl,eZ,eZ,eZ,λh=>(by dsimp only at h;omega),λh=>(by dsimp only at h;omega),hi,λh=>(by dsimp only at h;omega)⟩⟩)
   dsimp only
   rw[show a+(1+(x.1:Int))=a+1+x.1 - 1+1 by omega]
  refine dx rfl (λ_=>bK λ_=>bK λ_=>bW yJ (bW aD ?_)) λ_=>bW yJ (bW aD ?_)
  ·have es:sub (sub s a (a+(1+x.1))) 1 (1+x.1 - 1)=sub s (a+1) (a+1+x.1 - 1):=by
    rw[sub_sub h0 aD];congr 1;omega
   rw[es]
   have sl:=ES (c:=s) (i:=a+1) (j:=a+1+x.1 - 1) aD aD aD
   refine LK.ø (Ll hm aD) λy z hy hz=>bW yJ (bW aD (bW yJ ?_))
   subst hz
   dsimp only
   refine aI (λh=>?_) λh=>bK λ_=>bK λ_=>?_
   ·have h:z.2.dX≠0:=by simpa using h
    rw[beq_eq_false_iff_ne.2 h];exact bZ ù
   ·have h:z.2.dX=0:=by simpa using h
    rw[h]
    refine f (.inr rfl) λ_ {m'} hm'=>((Ll (n:=n) hm' aD).1 _ hy).oB λw hw=>?_
    have:=iy Prod.snd hw
    dsimp only at this
    rw[<- this,h]
  ·rw[show a+(1+(x.1:Int))=a+1+x.1 - 1+1 by omega]
   refine LK.ø (Gl hm) λy z _ hz=>bW yJ ?_
   subst hz
   refine aI (λh=>?_) λh=>?_
   ·have h:z.2.dX≠0:=by simpa using h
    rw[beq_eq_false_iff_ne.2 h];exact bZ ù
   ·have h:z.2.dX=0:=by simpa using h
    rw[h]
    exact f (.inl rfl) λh=>by omega
def af0 {r:ByS}:LA r []:=λ_ _=>.inr (.inl rfl)
end
section
variable {m:Nat->Nat}
def Ph {k l:Int} {t:ByS} (hl:0<l) (hn:a+l<=s.length) (hk:k≠0/\k≠7) (h6:k=6->(∀ p:Nat,a<=p->(p:Int)<a+l->s[p]?≠some 10)/\(a+l=s.length\/s[(a+l).toNat]?=some 10)) (h5:k=5->t∈ops) (h4:k≠4) (h2:k=2->Sf t) :
  Tk (ag (eR k t l ⟨s,a,out,line⟩) λy=>.ok (true,y)) (true,⟨s,a+l,out++[aB.mk k t a (a+l)],if k=6 then line else Bv k t⟩)/\NV s a out line (true,⟨s,a+l,out++[aB.mk k t a (a+l)],if k=6 then line else Bv k t⟩) (aB.mk k t a (a+l),true):=
 ⟨tb Pe kJ,⟨rfl,dC,λ_=>⟨rfl,rfl,eZ,hn,hk,h6,h5,(λh=>aw h h4),h2⟩⟩⟩
def aby (hm:bN m) (h0:0<=a) {b:UInt8} (hb:s[a.toNat]?=some b) (hB:¬ isB b) (hs:s.length<=65536) :
  LK (mD n ⟨s,a,out,line⟩) (λi=>tM (m i) s a) (NV s a out line) (λ_ _=>False):=by
 have gR:=(ao.1 hb).1
 have hu:s.drop a.toNat=b::s.drop (a+1).toNat:=by
  rw[ao] at hb
  obtain ⟨q1,q2⟩:=hb
  rw[cb q1,q2,show (a+1).toNat=a.toNat+1 by omega]
 have hul:(s.drop a.toNat).length=s.length - a.toNat:=by simp
 unfold mD tM jg
 dsimp only
 refine bK λ_=>nH (zJ _ _) (eI h0 hb ?_)
 rw[mz 34 34 rfl,show gp s a=s.drop a.toNat from rfl]
 by_cases h34:b=34
 ·subst h34
  refine aJ (λ_=>?_) dC
  refine aI (λh=>by rw[hu] at h;cases h) λ_=>gU Ww (aI (λh=>?_) λ_=>jc λc _ hc=>?_)
  ·rw[hu,WO dN] at h;cases h
  have hc:(s.drop a.toNat)[0]?=some c:=hc
  rw[hu] at hc
  cases hc
  refine nH (AO _) (aI dC λ_=>aI (λ_=>?_) dC)
  refine sQ (afZ hm h0 hb hs) (λa b h=>bZ h) λ_ _ h=>h
 refine aJ (λh=>aw jk h34) λ_=>?_
 have hpre:(sub s a (a+2)==[47,47])=[47,47].isPrefixOf (s.drop a.toNat):=OZ (o:=[47,47]) h0
 refine LK.jnT (λv=>v=[47,47].isPrefixOf (s.drop a.toNat)) (λv hv=>?_) (λj hj=>?_)
 rotate_left
 ·refine bW yJ (aJ (λh=>?_) λh=>hj _ ?_)
  ·have h:=bg h
   exact bW yJ (bW aD (hj _ hpre))
  ·have h:=aU h
   symm
   cases e:[47,47].isPrefixOf (s.drop a.toNat) with
   | false=>rfl
   | true=>
    rw[qV,cn] at e
    have:=iy List.length e
    simp at this;omega
 refine dx hv (λhp=>?_) λhp=>?_
 ·
  have hrl:=Jo (s:=s) (a:=a) (p:=pC) (i:=0) h0 aD
  have rl:=@BN pC (s.drop a.toNat) 0
  have Hq:2<=run pC 0 (s.drop a.toNat):=by
   have h2:=hp
   rw[OT] at h2
   have g0:=h2 0 dN
   have g1:=h2 1 dN
   rcases fA (run pC 0 (s.drop a.toNat)) 2 with q|q
   ·exfalso
    have q2:run pC 0 (s.drop a.toNat)=0\/run pC 0 (s.drop a.toNat)=1:=by omega
    rcases q2 with q2|q2
    ·have:=yH (p:=pC) (u:=s.drop a.toNat) (i:=0) (b:=47) (by rw[q2];exact g0)
     simp[pC] at this
    ·have:=yH (p:=pC) (u:=s.drop a.toNat) (i:=0) (b:=47) (by rw[q2];exact g1)
     simp[pC] at this
   ·exact q
  generalize hR:run pC 0 (s.drop a.toNat)=R at hrl rl Hq
  have g:∀ p:Nat,a<=p->(p:Int)<a+R->s[p]?≠some 10:=λp p0 p1 h=>by
   obtain ⟨c,q1,q2⟩:=BO (p:=pC) (u:=s.drop a.toNat) (i:=0) (j:=p - a.toNat) aD
   rw[dz,show a.toNat+(p - a.toNat)=p by omega,h] at q1
   cases q1
   simp[pC] at q2
  have g':a+R=s.length\/s[(a+R).toNat]?=some 10:=by
   rcases oA (a+R) s.length with q|q
   ·refine .inr ?_
    obtain ⟨c,hc⟩:∃ c,s[(a+R).toNat]?=some c:=⟨_,aA aD⟩
    have:=yH (p:=pC) (u:=s.drop a.toNat) (i:=0) (b:=c) (by rw[hR,dz,show a.toNat+R=(a+R).toNat by omega];exact hc)
    have:c=10:=by simpa[pC] using this
    rw[hc,this]
   ·exact .inl aD
  have tl:((s.drop a.toNat).take R).length=R:=by rw[iT];omega
  obtain ⟨yc,P3,hcut⟩:=afX (c:=(s.drop a.toNat).take R) (r:=(s.drop a.toNat).drop R) (λc hc=>by
   obtain ⟨i,hi⟩:=oR.1 hc
   rw[gG] at hi
   split at hi
   ·rw[dz] at hi
    intro e;subst e
    exact g _ aD aD hi
   ·cases hi) (by
   rcases g' with q|q
   ·exact .inl (dR aD)
   ·refine .inr ⟨(s.drop a.toNat).drop (R+1),?_⟩
    have e:(s.drop a.toNat)[R]?=some 10:=by rw[dz,show a.toNat+R=(a+R).toNat by omega];exact q
    obtain ⟨w1,w2⟩:=ao.1 e
    rw[cb w1,w2])
  rw[mI] at hcut
  have nv:=Ph (s:=s) (a:=a) (out:=out) (line:=line) (k:=6) (l:=R) (t:=gp ((s.drop a.toNat).take R) 2) aD hrl ⟨dN,dN⟩ (λ_=>⟨g,g'⟩) dC dN dC
  refine LK.te (y:=(true,⟨s,a+R,out++[aB.mk 6 (gp ((s.drop a.toNat).take R) 2) a (a+R)],line⟩)) (z:=(aB.mk 6 (gp ((s.drop a.toNat).take R) 2) a (a+R),true)) ?_ ?_ nv.2
  ·refine tb hcut ?_
   rw[P3,tl]
   exact dY λ_=>nv.1
  ·refine bD (λw=>w=a+R) (λw hw=>?_) (λj hj=>?_)
   ·subst hw
    refine aF (dB ⟨aD,aD,hrl⟩ (aj ?_))
    have:sub s (a+2) (a+R)=gp ((s.drop a.toNat).take R) 2:=by
     unfold sub gp
     rw[nV,j8]
     congr 1
     ·omega
     ·congr 1;omega
    rw[this]
   ·refine bR hm (λv=>a<=v/\v<=a+R) (λv=>(s.length - v).toNat) ⟨aD,aD⟩ ?_
    intro v hv next hn
    refine aS (λKU=>gL aD KU λx hx=>?_) (λFf=>hj _ aD)
    rw[bne,mz 10 10 rfl]
    refine ay (λuv=>aF (hn _ ?_ aD)) (λheq=>hj _ ?_)
    ·have uv:x≠10:=by simpa using uv
     rcases oA v (a+R) with q|q
     ·omega
     ·rw[show v.toNat=(a+R).toNat by omega] at hx
      rcases g' with w|w
      ·omega
      ·rw[hx] at w;cases w;exact aw rfl uv
    ·have heq:x=10:=by simpa using heq
     subst heq
     rcases oA v (a+R) with q|q
     ·exact aw hx (g v.toNat aD aD)
     ·omega
 have wl:(qe (s.drop a.toNat):Int)<=s.length - a:=by
  have:=R1 (u:=s.drop a.toNat)
  have:=BN (p:=pW) (u:=s.drop a.toNat) (i:=0)
  omega
 refine gU Ww ?_
 by_cases hD:xF b=true
 ·
  have hw:qe (s.drop a.toNat)=0:=by
   have hL:Mr b=false:=by
    rw[OU,decide_eq_true_eq] at hD
    rw[T1];simp;omega
   have XH:b≠35:=by rintro rfl;revert hD;decide
   rw[hu];exact WO (by simp[pW,hL,XH])
  rw[hw]
  refine aI dC λ_=>jc λc _ hc=>?_
  have hc:(s.drop a.toNat)[0]?=some c:=hc
  rw[hu] at hc
  cases hc
  refine nH (AO _) (aI (λ_=>gU X6 ?_) λh=>by rw[hD] at h;cases h)
  have hr0:run pD 0 (s.drop a.toNat)≠0:=by rw[hu];simp[run,pD,hD]
  have hnum:OY (s.drop a.toNat)=EG (s.drop a.toNat):=by unfold OY;rw[aC hr0]
  have IG:=abj (u:=s.drop a.toNat)
  have hn0:0<EG (s.drop a.toNat):=by unfold EG;split<;>omega
  refine bn (Dp hm h0 aD hs) ?_
  rw[hnum] at IG ⊢
  generalize hN:EG (s.drop a.toNat)=N at IG hn0
  have es:sub s a (a+N)=(s.drop a.toNat).take N:=by unfold sub;congr 1;omega
  refine aJ (λ_=>bW aD (bK λ_=>?_)) λh=>aw qk aD
  rw[es,show sd (s.drop a.toNat) (N:Int)=(s.drop a.toNat).take N by unfold sd;congr 1]
  have ns:Sf ((s.drop a.toNat).take N):=by
   have tl:((s.drop a.toNat).take N).length=N:=by rw[iT];omega
   refine ⟨?_,b,(s.drop (a+1).toNat).take (N - 1),?_,hD⟩
   ·have:=afB (c:=(s.drop a.toNat).take N) (r:=(s.drop a.toNat).drop N) (r':=[]) af0 (by rw[mI,hN,tl])
    rwa [l9] at this
   ·obtain ⟨k,hk⟩:∃ k,N=k+1:=⟨N - 1,aD⟩
    rw[hu,hk,nQ];rfl
  refine cq (adx hm ns) (λy z hz=>?_) λ_ _ h=>h.elim
  subst hz
  refine bW aD ?_
  have nv:=Ph (s:=s) (a:=a) (out:=out) (line:=line) (k:=2) (l:=N) (t:=(s.drop a.toNat).take N) aD aD ⟨dN,dN⟩ dC dC dN λ_=>ns
  refine aI (λh=>?_) λh=>bK λ_=>?_
  ·have h:z.2≠0:=by simpa using h
   rw[beq_eq_false_iff_ne.2 h];exact bZ ù
  ·have h:z.2=0:=by simpa using h
   rw[h]
   exact LK.te nv.1 uY nv.2
 ·
  have hD:xF b=false:=eq_false_of_ne_true hD
  have hn0:OY (s.drop a.toNat)=0:=by unfold OY;rw[aL (by rw[hu];simp[run,pD,hD])]
  have ol:(K3 (s.drop a.toNat)).length<=3:=by
   by_cases q:K3 (s.drop a.toNat)=[]
   ·rw[q];simp
   ·have:∀ o∈ops,o.length<=3:=by decide
    exact this _ (Pf q).1
  refine bn (Dp hm h0 aD hs) (aJ Ij λ_=>bn (Hc hm h0 aD hs) (bn (K5 hm h0 aD hs) ?_))
  have ow:=õ (u:=s.drop a.toNat)
  refine LK.jnT (λv=>v=decide ((0:Int)<qe (s.drop a.toNat))) (λv hv=>?_) (λj hj=>aJ (λh=>bW yJ (hj _ ?_)) λh=>hj _ ?_)
  rotate_left
  ·have h:=bg h
   rw[aV (show (0:Int)<qe (s.drop a.toNat) by omega),aV]
   have:=ow aD;omega
  ·have h:=aU h
   rw[bA aD]
  refine dx hv (λhw=>bK λ_=>bW aD ?_) λhw=>?_
  ·have hw:(0:Int)<qe (s.drop a.toNat):=bg hw
   have nv:=Ph (s:=s) (a:=a) (out:=out) (line:=line) (k:=1) (l:=qe (s.drop a.toNat)) (t:=sub s a (a+qe (s.drop a.toNat))) hw aD ⟨dN,dN⟩ dC dC dN dC
   rw[show sd (s.drop a.toNat) (qe (s.drop a.toNat):Int)=sub s a (a+qe (s.drop a.toNat)) by unfold sd sub;congr 1;omega]
   exact LK.te nv.1 uY nv.2
  ·refine jc λc _ hc=>?_
   have hc:(s.drop a.toNat)[0]?=some c:=hc
   rw[hu] at hc
   cases hc
   refine nH (AO _) (aI (λh=>by rw[hD] at h;cases h) λ_=>?_)
   rw[mz 34 34 rfl]
   refine aI (λh=>aw jk h34) λ_=>gU R3 (bW yJ ?_)
   by_cases ho:K3 (s.drop a.toNat)=[]
   ·rw[ho]
    exact aI (λ_=>bZ ù) λh=>by cases h
   ·obtain ⟨o1,o2⟩:=Pf ho
    have o3:=(Lm _ o1).2
    have o4:(K3 (s.drop a.toNat)).length<=(s.drop a.toNat).length:=by
     rw[qV,cn] at o2
     have:=iy List.length o2
     simp at this ⊢;omega
    have nv:=Ph (s:=s) (a:=a) (out:=out) (line:=line) (k:=5) (l:=(K3 (s.drop a.toNat)).length) (t:=K3 (s.drop a.toNat)) aD aD ⟨dN,dN⟩ dC (λ_=>o1) dN dC
    refine aI (λh=>aw jk ho) λ_=>?_
    rw[show (K3 (s.drop a.toNat) !=[])=true by simpa using ho]
    exact LK.te nv.1 uY nv.2
end
structure LI (s:ByS) (T:List aB) (a:Int):Prop where
 e:∀ t,t∈T->0<=t.oZ/\t.oZ<=a
 o5:∀ t,t∈T->t.an=5->t.bJ∈ops
 len:(T.length:Int)<=a
 l7:∀ t,t∈T->t.an=7->EH s t.cG t.oZ=true
 c7:∀ t,t∈T->t.an=6->t.oZ=s.length\/s[t.oZ.toNat]?=some 10
 c6:∀ (i j:Nat) t u,i<j->T[i]?=some t->T[j]?=some u->t.an=6->u.an≠7->u.an≠0->EH s t.oZ u.cG=true
 br:∀ (i:Nat) t u,T[i]?=some t->T[i+1]?=some u->u.an=7->kx t [91]=false/\kx t [61,126]=false
 it:∀ t,t∈T->t.an=4->∀ {m:Nat->Nat},bN m->Ev (λi=>jh (m i) t.bJ) (λz=>z.2.dX=0) dt
 nm:∀ t,t∈T->t.an=2->Sf t.bJ
def tS {α:Type} {l:List α} {t u:α} {i:Nat} (h:(l++[t])[i]?=some u):l[i]?=some u\/(i=l.length/\u=t):=by
 have hi:=(ao.1 h).1;rw[dS,fQ] at hi;rcases fA i l.length with q|q
 ·rw[fE q] at h;exact .inl h
 have:i=l.length:=by omega
 subst this;rw[List.getElem?_concat_length] at h;cases h;exact .inr uA
section
variable {T:List aB} {m:Nat->Nat}
def LI.adv {a':Int} (h:LI s T a) (ha:a<=a'):LI s T a':={ h with e:=λt ht=>⟨(h.e t ht).1,by have:=(h.e t ht).2;omega⟩,len:=by have:=h.len;omega }
def LI.snoc (h:LI s T a) (e0:0<=a) (e1:a<t.oZ) (o5:t.an=5->t.bJ∈ops) (l7:t.an=7->EH s t.cG t.oZ=true) (c7:t.an=6->t.oZ=s.length\/s[t.oZ.toNat]?=some 10) (c6:∀ u,u∈T->u.an=6->t.an≠7->t.an≠0->EH s u.oZ t.cG=true) (br:∀ u,T.getLast?=some u->t.an=7->kx u [91]=false/\kx u [61,126]=false) (it:t.an=4->∀ {m:Nat->Nat},bN m->Ev (λi=>jh (m i) t.bJ) (λz=>z.2.dX=0) dt) (nm:t.an=2->Sf t.bJ):LI s (T++[t]) t.oZ:=by
 have mem:∀ {p:aB->Prop},(∀ u,u∈T->p u)->p t->∀ u,u∈T++[t]->p u:=λh1 h2 u hu=>by
  rcases bL.1 hu with q|q
  ·exact h1 u q
  rw[cM.1 q];exact h2
 refine ⟨mem (λu hu=>⟨(h.e u hu).1,by have:=(h.e u hu).2;omega⟩) ⟨aD,aD⟩,mem h.o5 o5,by have:=h.len;simp;omega,mem h.l7 l7,mem h.c7 c7,λi j u v hij hu hv h6 k7 k0=>?_,λi u v hu hv k7=>?_,mem (p:=λt=>t.an=4->∀ {m:Nat->Nat},bN m->Ev (λi=>jh (m i) t.bJ) (λz=>z.2.dX=0) dt) h.it it,mem h.nm nm⟩
 ·rcases tS hu with q|⟨q,rfl⟩
  ·rcases tS hv with q2|⟨_,rfl⟩
   ·exact h.c6 i j u v hij q q2 h6 k7 k0
   exact c6 u (aP q) h6 k7 k0
  have:=(ao.1 hv).1;simp at this;omega
 rcases tS hv with q2|⟨q2,rfl⟩
 ·rcases tS hu with q|⟨q,rfl⟩
  ·exact h.br i u v q q2 k7
  have:=(ao.1 q2).1;omega
 rcases tS hu with q|⟨q,rfl⟩
 ·refine br u ?_ k7;rw[List.getLast?_eq_getElem?,<- q];congr 1;omega
 omega
def LI.tok (h:LI s T a) (h0:0<=a) (nf:Nf s a t) (ha:s[a.toNat]?≠some 10):LI s (T++[t]) t.oZ:=by
 refine h.snoc h0 nf.e nf.k5 (λq=>aw q nf.k.2) (λq=>(nf.k6 q).2) (λu hu hk _ _=>?_) (λ_ _ q=>aw q nf.k.2) nf.k4 nf.k2;have e:=h.e u hu;have:=nf.l;have:=nf.e;have q:=(h.c7 u hu hk).resolve_left aD;have:u.oZ≠a:=λw=>by rw[w] at q;exact ha q
 rw[nf.p];exact (ue e.1).2 ⟨u.oZ.toNat,by omega,by omega,q⟩
def LI.nl (h:LI s T a) (h0:0<=a) (ha:s[a.toNat]?=some 10) (hl:LL s a T.reverse=true):LI s (T++[aB.mk 7 [10] a (a+1)]) (a+1):=by
 refine h.snoc (t:=aB.mk 7 [10] a (a+1)) h0 eZ dC (λ_=>(ue h0).2 ⟨a.toNat,aD,eZ,ha⟩) dC (λ_ _ _ q=>aw rfl q) (λu hu _=>?_) dC dC;obtain ⟨w,rfl⟩:∃ w,T=w++[u]:=by
  rw[List.getLast?_eq_some_iff] at hu;exact hu
 rw[nR,mh,mJ,LL] at hl;have hk:∀ o:ByS,Bv 5 o=false->kx u o=false:=λo ho=>by
  cases e:kx u o with
  | false=>rfl
  | true=>
   exfalso
   have e':(u.an==5)=true/\(u.bJ==o)=true:=by
    unfold kx at e;simpa using e
   have k5:u.an=5:=by simpa using e'.1
   have tx:u.bJ=o:=by simpa using e'.2
   rw[aC aD,aC aD,k5,tx,ho,qg] at hl
   cases hl
 exact ⟨hk _ dN,hk _ dN⟩
def Um:WE:=by
 intro n m s hm;unfold pc sP jg oz jU tG;refine dx rfl (λ_=>bZ Te) λhs=>?_;have hs:s.length<=65536:=by have:=aU hs;omega
 refine ud (λ(v:ey) (w:List aB×Int)=>w=(v.out,v.bB)/\v.bM=s/\0<=v.bB/\v.bB<=s.length/\v.line=LL s v.bB v.out.reverse/\LI s v.out v.bB) ?_ n hm _ _ ⟨rfl,rfl,eL 0,eZ,rfl,bm,bm,bm,bm,bm,bm,bm,bm,bm⟩;rintro ⟨s',a,T,line⟩ _ ⟨rfl,i1,i2,i3,i4,i5⟩ next next' hn;dsimp only at i1 i2 i3 i4 i5 ⊢;subst i1 i4;have hlen:=i5.len;refine dx rfl (λgR=>?_) λFf=>?_
 ·have gR:=bg gR;obtain ⟨c,hc⟩:∃ c,s'[a.toNat]?=some c:=⟨_,aA aD⟩;refine jc λz _ hz=>?_;rw[hc] at hz;cases hz;have re:∀ l:List aB,(∀ t,t∈l->t∈T)->∀ t,t∈l->0<=t.oZ/\t.oZ<=a:=λl hl t ht=>i5.e t (hl t ht);have rv:∀ t,t∈T.reverse->0<=t.oZ/\t.oZ<=a:=re _ λt ht=>F4.1 ht;have adv:LL s' (a+1) T.reverse=LL s' a T.reverse->LK (next ⟨s',a+1,T,LL s' a T.reverse⟩) (λi=>next' i (T,a+1)) _ _:=λh=>hn _ _ ⟨rfl,rfl,eZ,eZ,h.symm,i5.adv eZ⟩;have one:c≠10->LL s' (a+1) T.reverse=LL s' a T.reverse:=λh=>Ul aD (λp p0 p1 hp=>by
   rw[show p=a.toNat by omega,hc] at hp;cases hp;exact h rfl) rv
  refine fP ?_;refine eI i2 hc ?_;rw[mz 10 10 rfl,mz 32 32 rfl,mz 9 9 rfl,mz 13 13 rfl];by_cases yM:c=10
  ·subst yM;refine aJ dC λ_=>eI i2 hc (aJ dC λ_=>eI i2 hc (aJ dC λ_=>eI i2 hc (aJ (λ_=>bn (aju hm i3 hs aD i5.e i5.o5) ?_) dC)));refine aI (λ_=>dx rfl (λhl=>?_) λhl=>bK λhg=>bW hg (adv ?_)) dC
   ·refine gU Pe (bW yJ (bW adJ (bW yJ (hn _ _ ⟨rfl,rfl,eZ,eZ,?_,i5.nl i2 hc hl⟩))));dsimp only;rw[nR,mh,mJ,LL];rfl
   rw[hl];exact ö aD rv hl
  have sp:LK (gd (cD (a+1)) (next ⟨s',a+1,T,LL s' a T.reverse⟩)) (λi=>gd (cD (a+1)) (next' i (T,a+1))) (λy z=>z=y/\(y.2.dX=0->Lx s' y.1)) (λ_ _=>False):=bK λhg=>bW hg (adv (one yM));refine aI (λh=>aw jk yM) λ_=>?_;refine dx rfl (λ_=>sp) λh32=>eI i2 hc ?_;rw[mz 9 9 rfl];refine dx rfl (λ_=>sp) λh9=>eI i2 hc ?_;rw[mz 13 13 rfl];refine dx rfl (λ_=>sp) λJi=>eI i2 hc ?_;rw[mz 10 10 rfl];refine aJ (λh=>aw jk yM) λ_=>?_;have hB:¬ isB c:=by
   unfold isB;rintro (q|q|q|q)
   ·rw[q] at h32;cases h32
   ·rw[q] at h9;cases h9
   ·rw[q] at Ji;cases Ji
   exact yM q
  refine cq (aby hm i2 hc hB hs) ?_ λ_ _ h=>h.elim;rintro ⟨f,x⟩ ⟨t,f'⟩ ⟨rfl,q1,q2⟩;dsimp only at q1 q2 ⊢;refine dx rfl (λh=>?_) λh=>?_
  ·rw[q1 jk];exact bZ Te
  obtain ⟨rfl,nf⟩:=q2 jk;have n1:=nf.e;have n2:=nf.l;refine bW adJ (hn _ _ ⟨rfl,rfl,eZ,n2,?_,i5.tok i2 nf (by rw[hc];intro h;cases h;exact yM rfl)⟩);dsimp only;rw[nR,mh,mJ,LL,aC nf.k.2];by_cases h6:t.an=6
  ·rw[aL h6,aL h6,Ul aD (nf.k6 h6).1 rv]
  have:EH s' t.oZ t.oZ=false:=by
   cases q:EH s' t.oZ t.oZ with
   | false=>rfl
   | true=>
    obtain ⟨p,p1,p2,_⟩:=(ue aD).1 q
    omega
  rw[aC h6,aC h6,this];rfl
 have Ff:=aU Ff;have e:a=s'.length:=by omega
 subst e;refine gU Pe (bW adJ (bZ ⟨bm,λ_=>?_⟩));dsimp only;rw[Int.add_zero];have last:∀ {i:Nat} {t:aB},(T++[aB.mk 0 [] s'.length s'.length])[i]?=some t->T[i]?=some t\/t.an=0:=λh=>(tS h).imp id λq=>by rw[q.2]
 have lm:∀ {t:aB},t∈T++[aB.mk 0 [] s'.length s'.length]->t∈T\/t.an=0:=λh=>(bL.1 h).imp id λq=>by rw[cM.1 q]
 refine ⟨λi t h k=>?_,λi j t u hij ht hu k k7 k0=>?_,λi t u ht hu k=>?_,λt h k=>?_,λt h k=>?_⟩
 ·rcases last h with q|q
  ·exact i5.l7 t (aP q) k
  omega
 ·rcases last ht with q|q
  ·rcases last hu with q2|q2
   ·exact i5.c6 i j t u hij q q2 k k7 k0
   exact aw q2 k0
  omega
 ·rcases last hu with q2|q2
  ·rcases tS ht with q|⟨q,_⟩
   ·exact i5.br i t u q q2 k
   have:=(ao.1 q2).1;omega
  omega
 ·rcases lm h with q|q
  ·exact i5.it t q k
  omega
 rcases lm h with q|q
 ·exact i5.nm t q k
 omega
end
section
structure RQ (p:L):Prop where
 h0:0<=p.bB
 h1:p.bB<=p.bM.length
 h2:p.bM.length<=1000
abbrev RR (p:L):N:=⟨p.bM,p.bB,false⟩
abbrev up (p:L) (k:Int):L:=⟨p.bM,p.bB+k⟩
def cv (p:L):Int:=match p.bM[p.bB.toNat]? with|some b=>(b.toNat:Int)|none=>0
def okB {α:Type} (x:aG α) (f:α->Bool):Bool:=match x with|.ok a=>f a|_=>false
variable {x:aG α} {a:α} {c:Int}
def ú [DecidableEq α] (h:okB x (λy=>decide (y=a))=true):x=.ok a:=by
 cases x with
 | ok b=>rw[bg h]
 | stuck=>cases h
 | qH p=>cases h
def Jw {P:Int->Prop} (h:∀ k:Fin 256,P k.val) (c:Int) (h0:0<=c) (h1:c<256):P c:=by
 have:=h ⟨c.toNat,aD⟩;rwa [show ((c.toNat:Nat):Int)=c by omega] at this
def Jq (c:Int):Option Int:=if 48<=c/\c<=57 then some (c - 48) else if 97<=c/\c<=102 then some (c - 87) else if 65<=c/\c<=70 then some (c - 55) else none
variable {d:Int}
def FX (h:Jq c=some d):0<=d/\d<=15:=by
 unfold Jq at h;exact ś
def abz:∀ k:Fin 256,okB (sC k.val) (λy=>decide (y=match Jq k.val with|some d=>(d,true)|none=>(0,false)))=true:=by decide +kernel
def ajv:∀ k:Fin 256,okB (si k.val) (λy=>decide (y=(Jq k.val).getD (-1)))=true:=by decide +kernel
def IB (d:Int):Option Int:=if d=110 then some 10 else if d=116 then some 9 else if d=114 then some 13 else if d∈([40,41,91,93,123,125,124,42,43,63,46,92,45,94]:List Int) then some d else none
def ajw:∀ k:Fin 256,okB (strings_IndexByte [40,41,91,93,123,125,124,42,43,63,46,92,45,94] k.val) (λy=>decide (y<0)==decide ((k.val:Int) ∉ ([40,41,91,93,123,125,124,42,43,63,46,92,45,94]:List Int)))=true:=by decide +kernel
def ň:List Int:=[40,41,91,93,123,125,124,42,43,63,46,94,45]
def ajx:∀ k:Fin 256,okB (strings_IndexByte [40,41,91,93,123,125,124,42,43,63,46,94,45] k.val) (λy=>decide (y>=0)==decide ((k.val:Int)∈ň))=true:=by decide +kernel
def Py:List Int:=[40,41,91,93,123,125,124,42,43,63,46,92]
def agI:∀ k:Fin 256,okB (strings_IndexByte [40,41,91,93,123,125,124,42,43,63,46,92] k.val) (λy=>decide (y>=0)==decide ((k.val:Int)∈Py))=true:=by decide +kernel
def Ny {f:α->Bool} (h:okB x f=true):∃ a,x=.ok a/\f a=true:=by
 cases x with
 | ok b=>exact ⟨b,rfl,h⟩
 | stuck=>cases h
 | qH p=>cases h
def ajy:∀ d e:Fin 16,Cy .u8 (xx .u8 (d.val:Int) 4) (e.val:Int)=(d.val:Int)*16+e.val:=by decide +kernel
def Un {e:Int} (hd:0<=d/\d<=15) (he:0<=e/\e<=15):Cy .u8 (xx .u8 d 4) e=d*16+e:=by
 have:=ajy ⟨d.toNat,aD⟩ ⟨e.toNat,aD⟩;rwa [show ((d.toNat:Nat):Int)=d by omega,show ((e.toNat:Nat):Int)=e by omega] at this
def Uo (v:Int):sT:=⟨188,[.sc (.int .i64 v)]⟩
def OX {α:Type} (x:aG α) (o:Option α):Prop:=x=.stuck\/(∃ a,o=some a/\x=.ok a)\/(o=none/\∃ v,x=.qH (Uo v))
section
variable {X:Type} {V:α->β->Prop} {W:sT->β->Prop} {F:Nat->aG β} {o:Option α}
def OX.ok {a:α} (h:o=some a):OX (.ok a) o:=.inr (.inl ⟨a,h,rfl⟩)
def OX.fail {p:L} {v:Int} {f:L->aG α} (h:o=none):OX (ag (eF v p) f) o:=.inr (.inr ⟨h,v,rfl⟩)
def Ct:=@OX.fail
def OX.gd {p:Prop} [Decidable p] {x:aG α} (h:p->OX x o):OX (aG.gd p x) o:=by
 unfold aG.gd;split
 ·exact h ‹_›
 exact .inl rfl
def Pj:=@OX.gd
def OX.br {b:Bool} {x y:aG α} (ht:b=true->OX x o) (hf:b=false->OX y o):OX (aG.br b x y) o:=by cases b<;>simp_all [aG.br]
def pV:=@OX.br
def OX.jn {j:X->aG α} {p:(X->aG α)->aG α} (J:X->Prop) (hj:∀ v,J v->OX (j v) o) (hp:∀ j:X->aG α,(∀ v,J v->OX (j v) o)->OX (p j) o):OX (aG.jn j p) o:=hp j hj
def Bw:=@OX.jn
def OX.un {body:(X->aG α)->X->aG α} {v:X} {n:Nat} (h:∀ k,OX (body (aG.iter body k) v) o):OX (aG.iter body n v) o:=by
 cases n with
 | zero=>exact .inl rfl
 | succ k=>exact h k
variable {f:γ->aG α}
def OX.bc {x:aG γ} {c:γ} (h:x=.ok c) (hf:OX (f c) o):OX (ag x f) o:=by subst h;exact hf
def Jr:=@OX.bc
def OX.bind {x:aG γ} {o':Option γ} (h:OX x o') (hs:∀ a,o'=some a->OX (f a) o) (hn:o'=none->o=none):OX (ag x f) o:=by
 rcases h with rfl|⟨a,h1,rfl⟩|⟨h1,v,rfl⟩
 ·exact .inl rfl
 ·exact hs a h1
 exact .inr (.inr ⟨hn h1,v,rfl⟩)
def û {x:aG γ} {o:Option γ} (h:OX x o) (hs:∀ a,o=some a->LK (f a) F V W) (hn:o=none->∀ v,Ev F (W (Uo v)) dt):LK (ag x f) F V W:=by
 rcases h with rfl|⟨a,h1,rfl⟩|⟨h1,v,rfl⟩
 ·exact dc
 ·exact hs a h1
 exact sw (hn h1 v)
end
section
variable {p:L}
def Cu:0<=cv p/\cv p<256:=by
 unfold cv;split
 ·rename_i b _;have:=GZ b;omega
 omega
def yj (hp:RQ p) (h:cv p=c) (hc:c≠0):p.bB<p.bM.length:=by
 unfold cv at h;split at h
 ·rename_i b hb;have:=(ao.1 hb).1;have:=hp.h0;omega
 exact aw h.symm hc
def EM (hp:RQ p) (h:p.bB<p.bM.length):∃ b,p.bM[p.bB.toNat]?=some b/\cv p=b.toNat:=by
 have:=hp.h0;have h2:=aA (show p.bB.toNat<p.bM.length by omega);exact ⟨_,h2,by unfold cv;rw[h2]⟩
def RQ.up {k:Int} (hp:RQ p) (h0:0<=p.bB+k) (h:p.bB+k<=p.bM.length):RQ (up p k):=⟨h0,h,hp.h2⟩
def yk (hp:0<=p.bB):dj p=.ok (cv p,p):=by
 unfold dj jg;by_cases h:p.bB<p.bM.length
 ·have h2:=aA (show p.bB.toNat<p.bM.length by omega);rw[aV h];show aG.el _ _ _=_;unfold aG.el cv;rw[aL hp,h2]
 have:p.bM[p.bB.toNat]?=none:=gY aD;simp[aG.br,h,cv,this]
def yl (hp:RQ p) (hc:c≠0):cu c (RR p)=.ok (decide (cv p=c),if cv p=c then RR (up p 1) else RR p):=by
 unfold cu jg;by_cases h:p.bB<p.bM.length
 ·obtain ⟨b,hb,xH⟩:=EM hp h;have h':¬(p.bB>=(p.bM.length:Int)):=by omega
  have hi:cD (p.bB+1):=by have:=hp.h0;have:=hp.h1;have:=hp.h2;unfold cD;omega
  rw[xH];by_cases e:(b.toNat:Int)=c
  ·simp[aG.br,aG.el,aG.gd,h',hp.h0,hb,e,hi]
  have e2:((b.toNat:Int) !=c)=true:=by simpa using e
  simp[aG.br,aG.el,h',hp.h0,hb,e,e2]
 have h':p.bB>=(p.bM.length:Int):=by omega
 have hn:¬cv p=c:=λe=>h (yj hp e hc);simp[aG.br,h',hn]
def Gm:fW (RR p)=.ok (decide (p.bB<p.bM.length),RR p):=rfl
variable {r:N}
def abA (h:r.lP=true):cu c r=.ok (false,r):=by unfold cu jg;rw[h];rfl
def af1 (h:r.lP=true):fW r=.ok (false,r):=by unfold fW jg;rw[h];rfl
def WQ:sC (cv p)=.ok (match Jq (cv p) with|some d=>(d,true)|none=>(0,false)):=ú (Jw (P:=λc=>okB (sC c) (λy=>decide (y=match Jq c with|some d=>(d,true)|none=>(0,false)))=true) abz _ Cu.1 Cu.2)
def Nz:si (cv p)=.ok ((Jq (cv p)).getD (-1)):=ú (Jw (P:=λc=>okB (si c) (λy=>decide (y=(Jq c).getD (-1)))=true) ajv _ Cu.1 Cu.2)
def Sp (lo:Int) (p:L):Option Int:=match Jq (cv p),Jq (cv (up p 1)) with|some d,some e=>if lo<=d*16+e then some (d*16+e) else none|_,_=>none
def af3 (h0:0<=p.bB):OX (iU n lo p) ((Sp lo (up p 1)).map λv=>(v,up p 3)):=by
 unfold iU;have u12:up (up p 1) 1=up p 2:=by unfold up;rw[show p.bB+1+1=p.bB+2 by omega]
 refine OX.un λ_=>OX.br (λ_=>OX.gd λ_=>OX.gd λ_=>OX.bc (yk (p:=up p 1) (by show 0<=p.bB+1;omega)) (OX.bc WQ (OX.gd λ_=>?_))) λh=>by cases h
 unfold Sp;rw[u12];cases h1:Jq (cv (up p 1)) with
 | none=>exact OX.jn (λv=>v=true) (λv hv=>by subst hv;exact OX.br (λ_=>OX.fail rfl) λh=>by cases h) λj hj=>OX.br (λ_=>hj _ rfl) λh=>by cases h
 | some d=>
  have dr:=FX h1
  have e0:Cy .u8 (xx .u8 0 4) d=d:=by have:=Un (d:=0) (e:=d) (by omega) dr;rw[this];omega
  have ef:Cy .u8 (xx .u8 d 4) 15=d*16+15:=Un dr (by omega)
  dsimp only
  rw[e0]
  refine OX.jn (λv=>v=decide (d*16+15<lo)) (λv hv=>?_) λj hj=>OX.br (λh=>by cases h) λ_=>OX.br (λ_=>OX.gd λ_=>?_) λh=>by cases h
  rotate_left
  ·show OX (br (decide (Cy .u8 (xx .u8 d 4) 15<lo)) _ _) _;rw[ef];exact OX.br (λh=>hj _ h.symm) λh=>OX.br (λh=>by cases h) λ_=>hj _ h.symm
  subst hv
  refine OX.br (λh=>OX.fail ?_) λh=>OX.gd λ_=>OX.un λ_=>OX.br (λ_=>OX.gd λ_=>OX.gd λ_=>OX.bc (yk (p:=up (up p 1) 1) (by show 0<=p.bB+1+1;omega)) (OX.bc WQ (OX.gd λ_=>?_))) λh=>by cases h
  ·have h:=of_decide_eq_true h;cases h2:Jq (cv (up p 2)) with
   | none=>rfl
   | some e=>have:=FX h2;dsimp only;rw[if_neg (by omega)];rfl
  rw[u12]
  cases h2:Jq (cv (up p 2)) with
  | none=>exact OX.jn (λv=>v=true) (λv hv=>by subst hv;exact OX.br (λ_=>OX.fail rfl) λh=>by cases h) λj hj=>OX.br (λ_=>hj _ rfl) λh=>by cases h
  | some e=>
   have er:=FX h2
   have ee:Cy .u8 (xx .u8 d 4) e=d*16+e:=Un dr er
   dsimp only
   rw[ee]
   refine OX.jn (λv=>v=decide (d*16+e<lo)) (λv hv=>?_) λj hj=>OX.br (λh=>by cases h) λ_=>OX.br (λh=>by cases h) λ_=>OX.br (λ_=>hj _ rfl) λh=>by cases h
   subst hv
   refine OX.br (λh=>OX.fail ?_) λh=>OX.gd λ_=>OX.un λ_=>OX.br (λh=>by cases h) λ_=>OX.gd λ_=>OX.ok ?_
   ·rw[if_neg (by have:=of_decide_eq_true h;omega)];rfl
   ·rw[if_pos (by have:=of_decide_eq_false h;omega)];show some (_,L.mk _ (p.bB+3))=some (_,L.mk _ (p.bB+2+1));rw[show p.bB+3=p.bB+2+1 by omega]
end
end
section
variable {p:L} {m:Nat->Nat}
def Pm (lo:Int) (p:L):Option (Int×Int):=
 if p.bB+1<p.bM.length then (if cv (up p 1)=120 then (Sp lo (up p 2)).map λv=>(v,4) else match IB (cv (up p 1)) with|some v=>if lo<=v then some (v,2) else none|none=>none) else none
def toP (p:L) (z:Int×Int):Int×L:=(z.1,up p z.2)
def Ln {j k l:Int} (h:j+k=l):up (up p j) k=up p l:=by subst h;unfold up;rw[Int.add_assoc]
def ady (h0:0<=p.bB):OX (gI n lo p) ((Pm lo p).map (toP p)):=by
 unfold gI jg;refine Pj λ_=>Jr (yk (p:=up p 1) YU) ?_;unfold Pm;by_cases gR:p.bB+1<p.bM.length
 ·rw[aL gR];by_cases hx:cv (up p 1)=120
  ·rw[aL hx,hx];refine Bw (λ_=>False) (λ_ h=>h.elim) λj _=>pV (λh=>aw Bx ach) λ_=>pV (λ_=>OX.bind (af3 (p:=up p 1) YU) (λa ha=>OX.ok ?_) λhn=>?_) dC
   ·rw[Ln (j:=1) (k:=1) (l:=2) rfl] at ha;cases h:Sp lo (up p 2) with
    | none=>rw[h] at ha;cases ha
    | some v=>rw[h] at ha;cases ha;show some (_,up p 4)=some (_,up (up p 1) 3);rw[Ln (l:=4) rfl]
   rw[Ln (j:=1) (k:=1) (l:=2) rfl] at hn;cases h:Sp lo (up p 2) with
   | none=>rfl
   | some v=>rw[h] at hn;cases hn
  rw[aC hx];have fin:∀ {v:Int},IB (cv (up p 1))=some v->OX (jn (λ(v9:L)=>gd (cD (v9.bB+1)) (.ok (v,(L.mk v9.bM (v9.bB+1))))) λj10=>br (decide (v<lo)) (ag (eF (up p 1).bB (up p 1)) λy17=>j10 (y17)) (j10 (up p 1))) (Option.map (toP p) (match IB (cv (up p 1)) with|some v=>if lo<=v then some (v,2) else none|none=>none)):=λ{v} hv=>by
   rw[hv];refine Bw (λw=>w=up p 1/\lo<=v) (λw hw=>?_) λj hj=>pV (λh=>Ct ?_) λh=>hj _ ⟨rfl,ML⟩
   ·obtain ⟨rfl,hw⟩:=hw;refine Pj λ_=>OX.ok ?_;dsimp only;rw[aL hw];show some (_,up p 2)=some (_,up (up p 1) 1);rw[Ln (l:=2) rfl]
   dsimp only;rw[aC Zv];rfl
  refine Bw (λw=>w.1=up p 1/\IB (cv (up p 1))=some w.2) (λw hw=>?_) λj hj=>pV (λh=>aw Bx ach) λ_=>pV (λh=>aw jk hx) λ_=>pV (λh=>hj _ ⟨rfl,?_⟩) λh1=>pV (λh=>hj _ ⟨rfl,?_⟩) λh2=>pV (λh=>hj _ ⟨rfl,?_⟩) λh3=>?_
  ·obtain ⟨w1,w2⟩:=w;obtain ⟨hw,hv⟩:=hw;dsimp only at hw hv ⊢;subst hw;exact fin hv
  ·unfold IB;rw[aL jk]
  ·unfold IB;rw[aC Fz,aL jk]
  ·unfold IB;rw[aC Fz,aC wZ,aL jk]
  obtain ⟨y,hy,hd⟩:=Ny (Jw (P:=λc=>okB (strings_IndexByte [40,41,91,93,123,125,124,42,43,63,46,92,45,94] c) (λy=>decide (y<0)==decide (c ∉ ([40,41,91,93,123,125,124,42,43,63,46,92,45,94]:List Int)))=true) ajw _ (Cu (p:=up p 1)).1 Cu.2);have hd:=cn.1 hd;refine Jr hy (pV (λh=>Ct ?_) λh=>hj _ ⟨rfl,?_⟩)
  ·rw[h] at hd;unfold IB;rw[aC Fz,aC wZ,aC MP,aC (bg hd.symm)];rfl
  rw[h] at hd;unfold IB;rw[aC Fz,aC wZ,aC MP,aL (Decidable.not_not.1 (aU hd.symm))]
 rw[aC gR];exact Bw (λ_=>False) (λ_ h=>h.elim) λj _=>pV (λ_=>Ct rfl) λh=>aw qk (by show ¬ ¬ p.bB+1>=(p.bM.length:Int);omega)
def ŉ (lo:Int) (p:L):Option (Int×Int):=
 if p.bB<p.bM.length then (if cv p=92 then Pm lo p else if cv p<32\/cv p>126\/cv p<lo\/cv p∈ň then none else some (cv p,1)) else none
def ü (h0:0<=p.bB):OX (gN n lo p) ((ŉ lo p).map (toP p)):=by
 unfold gN ŉ jg;refine Jr (yk h0) ?_;by_cases gR:p.bB<p.bM.length
 ·rw[aL gR];by_cases hx:cv p=92
  ·rw[aL hx];refine Bw (λ_=>False) (λ_ h=>h.elim) λj _=>pV JP λ_=>pV (λ_=>OX.bind (ady h0) (λa ha=>OX.ok ha) λhn=>hn) λh=>aw hx jk
  rw[aC hx];obtain ⟨y,hy,hd⟩:=Ny (Jw (P:=λc=>okB (strings_IndexByte [40,41,91,93,123,125,124,42,43,63,46,94,45] c) (λy=>decide (y>=0)==decide (c∈ň))=true) ajx _ (Cu (p:=p)).1 Cu.2);have hd:=cn.1 hd;refine Bw (λw=>w=p/\¬ (cv p<32\/cv p>126\/cv p<lo\/cv p∈ň)) (λw hw=>?_) λj hj=>pV JP λ_=>pV (λh=>aw jk hx) λ_=>Bw (λw=>w=decide (cv p<32\/cv p>126\/cv p<lo\/cv p∈ň)) (λw hw=>?_) λk hk=>pV (λh=>hk _ ?_) λh1=>pV (λh=>hk _ ?_) λh2=>pV (λh=>hk _ ?_) λh3=>Jr hy (hk _ ?_)
  ·obtain ⟨rfl,hw⟩:=hw;exact Pj λ_=>OX.ok (by rw[aC hw];rfl)
  ·subst hw;refine pV (λh=>Ct ?_) λh=>hj _ ⟨rfl,aU h⟩;rw[aL Bx];rfl
  ·rw[aV (.inl Bx)]
  ·rw[aV (.inr (.inl Bx))]
  ·rw[aV (.inr (.inr (.inl Bx)))]
  rw[hd];have q1:=aU h1;have q2:=aU h2;have q3:=aU h3;exact decide_eq_decide.2 ⟨λh=>.inr (.inr (.inr h)),λh=>h.resolve_left q1 |>.resolve_left q2 |>.resolve_left q3⟩
 rw[aC gR];exact Bw (λ_=>False) (λ_ h=>h.elim) λj _=>pV (λ_=>Ct rfl) λh=>aw qk (by show ¬ ¬ p.bB>=(p.bM.length:Int);omega)
end
section
variable {p:L} {m:Nat->Nat}
def abB (h0:0<=p.bB) (h:¬ p.bB<p.bM.length):cv p=0:=by
 unfold cv;rw[gY aD]
def RW (p:L) (o:Option (Int×Int)) (z:Int×N):Prop:=match o with|some w=>z=(w.1,RR (up p w.2))|none=>z.2.lP=true/\z.1=0
def ý (hp:RQ p) (hlo:lo<=255):Ev (λ_=>lT lo (RR p)) (RW p ((Sp lo p).map λv=>(v,2))) dt:=by
 have hp0:=hp.h0;have EY:=hp.h1;have TD:=hp.h2;unfold lT uD jg;have ŕ:∀ {x:Int},-5000<=x->x<=5000->cD x:=λh h'=>by unfold cD;omega
 refine bD (λv=>v=(RR p,true)/\(Jq (cv p)=none\/∃ d,Jq (cv p)=some d/\d*16+15<lo)\/v=(RR p,false)/\p.bB<p.bM.length/\∃ d,Jq (cv p)=some d/\lo<=d*16+15) (λv hv=>?_) λj hj=>bI Gm ?_
 ·rcases hv with ⟨rfl,hv⟩|⟨rfl,gR,d,hd,hv⟩
  ·have:Sp lo p=none:=by
    unfold Sp;rcases hv with h|⟨d,h,hv⟩
    ·rw[h]
    rw[h];cases h2:Jq (cv (up p 1)) with
    | none=>rfl
    | some e=>have:=FX h2;dsimp only;rw[aC aD]
   rw[this];exact ba (aj uA)
  obtain ⟨b,hb,IC⟩:=EM hp gR;have dr:=FX hd;refine aH (cR hp0 hb ?_);rw[<- IC];refine bI Nz (dB adP ?_);rw[hd];have hu:RQ (up p 1):=hp.up aD aD;have ew:IntKind.wrap .i64 ((some d).getD (-1)*16)=d*16:=wrap_i64 (by show _<=d*16;omega) (by show d*16<=_;omega);rw[ew];refine bD (λv=>v=(RR (up p 1),true)/\(Jq (cv (up p 1))=none\/∃ e,Jq (cv (up p 1))=some e/\d*16+e<lo)\/v=(RR (up p 1),false)/\p.bB+1<p.bM.length/\∃ e,Jq (cv (up p 1))=some e/\lo<=d*16+e) (λv hv=>?_) λj hj=>bI (Gm (p:=up p 1)) ?_
  ·rcases hv with ⟨rfl,hv⟩|⟨rfl,gR,e,he,hv⟩
   ·refine ba (aj ?_);have:Sp lo p=none:=by
     unfold Sp;rw[hd];rcases hv with h|⟨e,h,hv⟩
     ·rw[h]
     rw[h];dsimp only;rw[aC aD]
    rw[this];exact uA
   obtain ⟨b,hb,IC⟩:=EM hu gR;have er:=FX he;have ix:∀ {K:Nat->UInt8->aG (Int×N)} {Q:Int×N->Prop},Ev (λi=>K i b) Q dt->Ev (λi=>aG.el p.bM (p.bB+1+1 - 1) (K i)) Q dt:=λh=>by
    rw[show p.bB+1+1 - 1=p.bB+1 by omega];exact cR aD hb h
   refine aH (dB (ŕ (by show -5000<=p.bB+1+1;omega) (by show p.bB+1+1<=5000;omega)) (dB (ŕ (by show -5000<=p.bB+1+1 - 1;omega) (by show p.bB+1+1 - 1<=5000;omega)) (ix ?_)));rw[<- IC];refine bI Nz ?_;rw[he];refine dB ab_ (aj ?_);have:Sp lo p=some (d*16+e):=by
    unfold Sp;rw[hd,he];exact aL hv
   rw[this];show (d*16+e,(⟨p.bM,p.bB+1+1,false⟩:N))=(d*16+e,⟨p.bM,p.bB+2,false⟩);rw[show p.bB+1+1=p.bB+2 by omega]
  refine df (λh=>hj _ (.inl ⟨rfl,.inl ?_⟩)) λh=>?_
  ·rw[abB YU qk];rfl
  have gR:p.bB+1<p.bM.length:=bg h;obtain ⟨b,hb,IC⟩:=EM hu gR;refine cR hu.h0 hb ?_;rw[<- IC];refine bI Nz ?_;cases he:Jq (cv (up p 1)) with
  | none=>exact ba (hj _ (.inl ⟨rfl,.inl he⟩))
  | some e=>
   have er:=FX he
   refine aS (λh=>aw h (by show ¬ e<0;omega)) λ_=>cR hu.h0 hb ?_
   rw[<- IC]
   refine bI Nz ?_
   rw[he]
   refine dB ab_ (hj _ ?_)
   by_cases q:d*16+e<lo
   ·exact .inl ⟨Prod.ext rfl (aV q),.inr ⟨e,he,q⟩⟩
   ·exact .inr ⟨Prod.ext rfl (bA q),gR,e,he,by omega⟩
 refine df (λh=>hj _ (.inl ⟨rfl,.inl ?_⟩)) λh=>?_
 ·rw[abB hp0 qk];rfl
 have gR:p.bB<p.bM.length:=bg h;obtain ⟨b,hb,IC⟩:=EM hp gR;refine cR hp0 hb ?_;rw[<- IC];refine bI Nz ?_;cases hd:Jq (cv p) with
 | none=>exact ba (hj _ (.inl ⟨rfl,.inl hd⟩))
 | some d=>
  have dr:=FX hd
  refine aS (λh=>aw h (by show ¬ d<0;omega)) λ_=>cR hp0 hb ?_
  rw[<- IC]
  refine bI Nz ?_
  rw[hd]
  have ew:IntKind.wrap .i64 ((some d).getD (-1)*16)=d*16:=wrap_i64 (by show _<=d*16;omega) (by show d*16<=_;omega)
  rw[ew]
  refine dB (ŕ aD aD) (hj _ ?_)
  by_cases q:d*16+15<lo
  ·rw[aV q];exact .inl ⟨rfl,.inr ⟨d,hd,q⟩⟩
  ·rw[bA q];exact .inr ⟨rfl,gR,d,hd,by omega⟩
def E4 (hm:bN m):Ev (λi=>ln (m i) (cv p)) (λy=>y=decide (cv p∈Py)) dt:=by
 have key:∀ k:Fin 256,okB (ln 14 k.val) (λy=>decide (y=decide ((k.val:Int)∈Py)))=true:=by decide +kernel
 have k1:=ú (Jw (P:=λc=>okB (ln 14 c) (λy=>decide (y=decide (c∈Py)))=true) key _ (Cu (p:=p)).1 Cu.2);have lk:LK (ln 14 (cv p)) (λi=>ln (m i) (cv p)) (λy z=>z=y) (λ_ _=>False):=by
  unfold ln;exact ud (λv w=>w=v) (λv w e next next' hn=>by subst e;exact dx rfl (λ_=>jc λz h0 hz=>eI h0 hz (dx rfl (λ_=>bZ rfl) λ_=>bK λhg=>bW hg (hn _ _ rfl))) λ_=>bZ rfl) 14 hm _ _ rfl
 exact lk.1 _ k1
def adz {b:UInt8} {c:Int} (hc:(b.toNat:Int)=c) (h:c=cv p):∃ y,qc (b.toNat:Int)=.ok y/\(if cv p∈Py\/cv p=94\/cv p=45 then some (cv p) else if 0<=y then some y else none)=IB (cv p):=by
 subst h;rw[hc];have key:∀ k:Fin 256,okB (qc k.val) (λy=>decide ((if (k.val:Int)∈Py\/(k.val:Int)=94\/(k.val:Int)=45 then some (k.val:Int) else if 0<=y then some y else none)=IB k.val))=true:=by decide +kernel
 obtain ⟨y,h1,h2⟩:=Ny (Jw (P:=λc=>okB (qc c) (λy=>decide ((if c∈Py\/c=94\/c=45 then some c else if 0<=y then some y else none)=IB c))=true) key _ (Cu (p:=p)).1 Cu.2);exact ⟨y,h1,bg h2⟩
end
section
variable {p:L} {m:Nat->Nat}
def EN (hm:bN m) {a b:Int} (ha:0<=a) (hb:b<=255):Ev (λi=>lK (m i) a b) (λ_=>True) dt:=by
 unfold lK jg;refine bR hm (λ(x:eb×Int)=>0<=x.2) (λx=>(256 - x.2).toNat) ha λx hx next hn=>aS (λh=>?_) λ_=>aj trivial;have hw:=Wl hx (by omega:x.2<256);have ht:0<=Int.tmod x.2 64:=by
  have:Int.tmod x.2 64=x.2 % 64:=iD hx;rw[this];omega
 exact dB dN (dB dN (dB hw (dB dN (dB ht (dB hw (aF (hn _ eZ eZ)))))))
variable {a:eb}
def Ib (hm:bN m) {b:eb}:Ev (λi=>sj (m i) a b) (λ_=>True) dt:=by
 unfold sj jg;exact bR hm (λ(x:eb×Int)=>0<=x.2) (λx=>(4 - x.2).toNat) E6 λx hx next hn=>aS (λh=>dB ⟨hx,h⟩ (dB ⟨hx,h⟩ (dB ⟨hx,h⟩ (aF (hn _ eZ eZ))))) λ_=>aj trivial
def WR (hm:bN m):Ev (λi=>z7 (m i) a) (λ_=>True) dt:=by
 unfold z7;exact bR hm (λ(x:eb×Int)=>0<=x.2) (λx=>(4 - x.2).toNat) E6 λx hx next hn=>aS (λh=>dB ⟨hx,h⟩ (dB ⟨hx,h⟩ (aF (hn _ eZ eZ)))) λ_=>aj trivial
def þ (hp:RQ p) (hlo:lo<=255) (h:cv (up p 1)=120):Ev (λ_=>lT lo (RR (up p 2))) (RW p (Pm lo p)) dt:=by
 have h0:=hp.h0;have EY:=hp.h1;have hu:RQ (up p 1):=hp.up aD (by
  rcases oA p.bB p.bM.length with q|q
  ·omega
  have:cv (up p 1)=0:=abB YU (by show ¬ p.bB+1<p.bM.length;omega);omega)
 have gR:p.bB+1<p.bM.length:=yj hu h dN;refine (ý (p:=up p 2) (hp.up aD aD) hlo).oB λz hz=>?_;unfold Pm;rw[aL gR,aL h];cases hh:Sp lo (up p 2) with
 | none=>rw[hh] at hz;exact hz
 | some v=>
  rw[hh] at hz
  have hz:z=(v,RR (up (up p 2) 2)):=hz
  rw[Ln (l:=4) dN] at hz
  exact hz
def wcv:IntKind.wrap .i64 (cv p)=cv p:=by have:=@Cu p;exact wrap_i64 aD aD
def ŕ {x:Int} (h:-5000<=x) (h':x<=5000):cD x:=by unfold cD;omega
def Pn (hm:bN m) (hp:RQ p) (GD:0<=lo) (S8:lo<=255):Ev (λi=>me (m i) lo (RR p)) (RW p (ŉ lo p)) dt:=by
 have hp0:=hp.h0;have EY:=hp.h1;have TD:=hp.h2;unfold me ŉ jg;refine bI (yl hp dN) ?_;by_cases Dm:cv p=92
 ·have gR:=yj hp Dm dN;have hu:RQ (up p 1):=hp.up aD aD;rw[aL gR,aL Dm,aL Dm,aV Dm];refine ba (bI (yl hu dN) ?_);by_cases hx:cv (up p 1)=120
  ·rw[aL hx,aV hx,Ln (l:=2) dN];exact ba (ai (þ hp S8 hx) λz hz=>aj hz)
  rw[aC hx,bA hx];refine aH (bI Gm (ay (λh=>?_) λh=>aj ?_))
  rotate_left
  ·unfold Pm;rw[aC qk];exact uA
  have KU:p.bB+1<p.bM.length:=bg h;obtain ⟨b,hb,IC⟩:=EM hu KU;obtain ⟨y,hy,hc⟩:=adz IC.symm rfl;refine cR hu.h0 hb (bI hy ?_);rw[<- IC,wcv];have e:Pm lo p=match IB (cv (up p 1)) with|some v=>if lo<=v then some (v,2) else none|none=>none:=by unfold Pm;rw[aL KU,aC hx]<;>rfl
  rw[e,<- hc];refine bD (λv=>(match (if cv (up p 1)∈Py\/cv (up p 1)=94\/cv (up p 1)=45 then some (cv (up p 1)) else if 0<=y then some y else none) with|some w=>v=w|none=>v<0)) (λv hv=>?_) λj hj=>ai (E4 hm) ?_
  ·have fin:∀ {o:Option (Int×Int)},(lo<=v->o=some (v,2))->(¬ lo<=v->o=none)->Ev (λ_=>br (decide (v>=lo)) (gd (cD (p.bB+1+1)) (.ok (v,(N.mk p.bM (p.bB+1+1) false)))) (.ok (0,(N.mk p.bM (p.bB+1) true)))) (RW p o) dt:=λh1 h2=>by
    refine aS (λh=>dB (ŕ aD aD) (aj ?_)) λh=>aj (by rw[h2 h];exact uA);rw[h1 h];show (v,(⟨p.bM,p.bB+1+1,false⟩:N))=(v,⟨p.bM,p.bB+2,false⟩);rw[show p.bB+1+1=p.bB+2 by omega]
   split at hv
   ·rename_i w hw;subst hv;exact fin (λh=>aL h) λh=>aC h
   rename_i hw;exact fin (λh=>by omega) λ_=>rfl
  rintro _ rfl;refine ay (λh=>hj _ ?_) λh=>ay (λh2=>hj _ ?_) λh2=>ay (λh3=>hj _ ?_) λh3=>hj _ ?_
  ·rw[aL (.inl Bx)]
  ·rw[aL (.inr (.inl wZ))]
  ·rw[aL (.inr (.inr MP))]
  rw[aC (λq=>by
   rcases q with q|q|q
   ·exact aU h q
   ·rw[q] at h2;cases h2
   rw[q] at h3;cases h3)]
  by_cases q:0<=y
  ·rw[aL q]
  rw[aC q];show y<0;omega
 rw[aC Dm,aC Dm,bA Dm];refine aH (bI Gm (df (λh=>aj ?_) λh=>?_))
 ·rw[aC qk];exact uA
 have gR:p.bB<p.bM.length:=bg h;obtain ⟨b,hb,IC⟩:=EM hp gR;rw[aL gR];refine cR hp0 hb ?_;rw[<- IC,wcv];refine bD (λw=>w=decide (cv p<32\/cv p>126\/cv p<lo\/cv p∈ň)) (λw hw=>?_) λj hj=>ay (λh=>hj _ ?_) λh1=>ay (λh=>hj _ ?_) λh2=>ai (E4 hm) ?_
 ·subst hw;refine ay (λh=>aj ?_) λh=>dB adP (aj ?_)
  ·rw[aL Bx];exact uA
  rw[aC qk];rfl
 ·rw[aV (.inl Bx)]
 ·rw[aV (.inr (.inl Bx))]
 rintro _ rfl;have q1:=aU h1;have q2:=aU h2;have s13:cv p∈ň↔cv p∈Py\/cv p=94\/cv p=45:=by
  have key:∀ k:Fin 256,k.val≠92->((k.val:Int)∈ň↔(k.val:Int)∈Py\/(k.val:Int)=94\/(k.val:Int)=45):=by decide +kernel
  exact Jw (P:=λc=>c≠92->(c∈ň↔c∈Py\/c=94\/c=45)) (λk h=>key k (λe=>h (by rw[e];rfl))) _ Cu.1 Cu.2 Dm
 have t:cv p∈Py\/cv p=94\/cv p=45->true=decide (cv p<32\/cv p>126\/cv p<lo\/cv p∈ň):=λh=>(aV (.inr (.inr (.inr (s13.2 h))))).symm;refine ay (λh=>hj _ (t (.inl Bx))) λh=>ay (λh2=>hj _ (t (.inr (.inl wZ)))) λh2=>ay (λh3=>hj _ (t (.inr (.inr MP)))) λh3=>hj _ (decide_eq_decide.2 ⟨λh=>.inr (.inr (.inl h)),λq=>?_⟩);rcases q with q|q|q|q
 ·exact aw q q1
 ·exact aw q q2
 ·exact q
 rcases s13.1 q with q|q|q
 ·exact aw q qk
 ·rw[q] at h2;cases h2
 rw[q] at h3;cases h3
end
inductive I3:bh->bh->Prop
 | nothing:I3 (.mk 0 0 0 0 0 []) (.mk 0 0 0 0 0 [])
 | empty:I3 (.mk 1 0 0 0 0 []) (.mk 1 0 0 0 0 [])
 | one {a b c d a' b' c' d':Int}:I3 (.mk 2 a b c d []) (.mk 2 a' b' c' d' [])
 | many {k:Int} {l l':List bh} (hk:k=3\/k=4) (h2:2<=l.length) (hl:l.length=l'.length) (h:∀ (i:Nat) (x y:bh),l[i]?=some x->l'[i]?=some y->I3 x y):I3 (.mk k 0 0 0 0 l) (.mk k 0 0 0 0 l')
 | star {x y:bh} (h:I3 x y):I3 (.mk 5 0 0 0 0 [x]) (.mk 5 0 0 0 0 [y])
def lsB (n:Nat) (neg:Bool) (next21:L×eb×Bool->aG (bh×L)) (v20:L×eb×Bool):aG (bh×L):=
 jn (λ(v23:L)=>ag (gN n 0 v23) λy28=>ag (dj y28.2) λy32=>br (y32.1==45) (gd (cD (y32.2.bB+1)) (ag (gN n y28.1 (L.mk y32.2.bM (y32.2.bB+1))) λy36=>ag (iz n y28.1 y36.1) λy37=>ag (kj n v20.2.1 y37) λy38=>next21 (y36.2,y38,false))) (ag (iz n y28.1 y28.1) λy39=>ag (kj n v20.2.1 y39) λy40=>next21 (y32.2,y40,false))) λj24=>br v20.2.2 (j24 (v20.1)) (ag (dj v20.1) λy43=>br (y43.1 !=93) (j24 (y43.2)) (gd (cD (y43.2.bB+1)) (br neg (ag (sD n v20.2.1) λy50=>.ok ((bh.mk 2 y50.x0 y50.x1 y50.x2 y50.x3 []),(L.mk y43.2.bM (y43.2.bB+1)))) (.ok ((bh.mk 2 v20.2.1.x0 v20.2.1.x1 v20.2.1.x2 v20.2.1.x3 []),(L.mk y43.2.bM (y43.2.bB+1)))))))
def ÿ (n:Nat) (neg:Bool) (v10:N×eb):aG (bh×N):=br neg (ag (z7 n v10.2) λy16=>.ok ((bh.mk 2 y16.x0 y16.x1 y16.x2 y16.x3 []),v10.1)) (.ok ((bh.mk 2 v10.2.x0 v10.2.x1 v10.2.x2 v10.2.x3 []),v10.1))
def rsB (n:Nat) (neg:Bool) (next20:N×eb->aG (bh×N)) (v19:N×eb):aG (bh×N):=
 br (!v19.1.lP) (ag (me n 0 v19.1) λy26=>jn (λ(v28:N×Int)=>br (!v28.1.lP) (ag (lK n y26.1 v28.2) λy34=>ag (sj n v19.2 y34) λy35=>ag (cu 93 v28.1) λy37=>br y37.1 (ÿ n neg (y37.2,y35)) (next20 (y37.2,y35))) (ag (cu 93 v28.1) λy40=>br y40.1 (ÿ n neg (y40.2,v19.2)) (next20 (y40.2,v19.2)))) λj29=>ag (cu 45 y26.2) λy43=>br y43.1 (ag (me n y26.1 y43.2) λy45=>j29 (y45.2,y45.1)) (j29 (y43.2,y26.1))) (ÿ n neg (v19.1,v19.2))
def rsM (n:Nat) (neg:Bool) (next:N×eb->aG (bh×N)) (y:Bool×N×eb):aG (bh×N):=
 br y.1 (next y.2) (ag (cu 93 y.2.1) λy37=>br y37.1 (ÿ n neg (y37.2,y.2.2)) (next (y37.2,y.2.2)))
section
variable {p:L} {m:Nat->Nat}
abbrev PGt (p q:L):Prop:=q.bM=p.bM/\p.bB<q.bB
abbrev Js (p:L) (a:bh×L) (s:bh×N):Prop:=s.2=RR a.2/\I3 a.1 s.1/\RQ a.2/\PGt p a.2
abbrev Hr (q:sT) (z:bh×N):Prop:=(∃ v,q=Uo v)/\z.2.lP=true
def ajz {v:Int} (hp:0<=p.bB) (h:Sp lo p=some v):lo<=v/\0<=v/\v<=255/\p.bB+2<=p.bM.length:=by
 unfold Sp at h;cases h1:Jq (cv p) with
 | none=>rw[h1] at h;cases h
 | some d=>
  cases h2:Jq (cv (up p 1)) with
  | none=>rw[h1,h2] at h;cases h
  | some e=>
   rw[h1,h2] at h
   have d1:=FX h1
   have e1:=FX h2
   have h:(if lo<=d*16+e then some (d*16+e) else none)=some v:=h
   split at h
   ·cases h;refine ⟨uX,aD,aD,?_⟩;rcases oA (p.bB+1) p.bM.length with q|q
    ·omega
    rw[abB (p:=up p 1) YU (by show ¬ p.bB+1<p.bM.length;omega)] at h2;cases h2
   ·cases h
variable {w:Int×Int}
def Ā (hp:0<=p.bB) (h:Pm lo p=some w):lo<=w.1/\0<=w.1/\w.1<=255/\0<=w.2/\p.bB+w.2<=p.bM.length:=by
 unfold Pm at h;split at h
 ·split at h
  ·cases h2:Sp lo (up p 2) with
   | none=>rw[h2] at h;cases h
   | some v=>
    rw[h2] at h;cases h
    have:=ajz (p:=up p 2) (by show 0<=p.bB+2;omega) h2
    have l:p.bB+2+2<=p.bM.length:=this.2.2.2
    exact ⟨this.1,this.2.1,this.2.2.1,by show (0:Int)<=4;decide,eZ⟩
  cases h2:IB (cv (up p 1)) with
  | none=>rw[h2] at h;cases h
  | some v=>
   rw[h2] at h
   have h:(if lo<=v then some (v,(2:Int)) else none)=some w:=h
   have key:∀ k:Fin 256,∀ v,IB k.val=some v->0<=v/\v<=255:=λk v h=>by
    unfold IB at h;have:=k.isLt;split at h
    ·cases h;omega
    exact ś
   have:=Jw (P:=λc=>∀ v,IB c=some v->0<=v/\v<=255) key _ Cu.1 Cu.2 v h2
   split at h
   ·cases h;exact ⟨uX,this.1,this.2,by show (0:Int)<=2;decide,eZ⟩
   ·cases h
 cases h
def adA (hp:0<=p.bB) (h:ŉ lo p=some w):lo<=w.1/\0<=w.1/\w.1<=255/\0<=w.2/\p.bB+w.2<=p.bM.length:=by
 unfold ŉ at h;split at h
 ·split at h
  ·exact Ā hp h
  split at h
  ·cases h
  rename_i q;cases h;have:=@Cu p;exact ⟨eZ,eZ,eZ,by show (0:Int)<=1;decide,eZ⟩
 cases h
variable {neg:Bool}
def af4 (hm:bN m) {w:N×eb}:Ev (λi=>ÿ (m i) neg w) (λz=>z.2=w.1/\∃ a b c d,z.1=.mk 2 a b c d []) dt:=by
 unfold ÿ;exact ay (λ_=>ai (WR hm) λ_ _=>aj ⟨rfl,_,_,_,_,rfl⟩) λ_=>aj ⟨rfl,_,_,_,_,rfl⟩
def FY {a b:Int}:Np (iz n a b):=by
 unfold iz jg;have A:∀ {α:Type} {p q r t u w p':Prop} [Decidable p] [Decidable q] [Decidable r] [Decidable t] [Decidable u] [Decidable w] [Decidable p'] {b:Bool} {x y:aG α},Np x->Np y->Np (br b (gd p (gd q (gd r (gd t (gd u (gd w x)))))) (gd p' y)):=λhx hy=>Bq (rF (rF (rF (rF (rF (rF hx)))))) (rF hy);exact z8 (λnext v hn=>Bq (Np.jn (Bq (A (hn _) (hn _)) (A (hn _) (hn _)))) Da) _ _
variable {a:eb}
def NA {b:eb}:Np (kj n a b):=by
 unfold kj jg;exact z8 (λnext v hn=>Bq (rF (rF (rF (rF (hn _))))) Da) _ _
def af5:Np (sD n a):=by
 unfold sD;exact z8 (λnext v hn=>Bq (rF (rF (rF (hn _)))) Da) _ _
def LK.bcR {α β δ:Type} {V:α->β->Prop} {W:sT->β->Prop} {y:aG α} {x:aG δ} {c:δ} {K:Nat->δ->aG β} (h:x=.ok c) (hk:LK y (λi=>K i c) V W):LK y (λi=>ag x (K i)) V W:=bn ⟨.ok c,rfl,0,λ_ _=>h⟩ hk
def nS:=@LK.bcR
def ā (hm:bN m) (hp:RQ p) {q:L} (hq:RQ q) (ht:PGt p q) {s ws:eb} {next:L×eb×Bool->aG (bh×L)} {next':Nat->N×eb->aG (bh×N)} (hn:∀ q s ws,RQ q->PGt p q->LK (next (q,s,false)) (λi=>rsM (m i) neg (next' i) (false,RR q,ws)) (Js p) Hr) (hf:∀ v w,w.1.lP=true->Ev (λi=>next' i w) (Hr (Uo v)) dt) :
  LK (ag (gN n 0 q) λy28=>ag (dj y28.2) λy32=>br (y32.1==45) (gd (cD (y32.2.bB+1)) (ag (gN n y28.1 (L.mk y32.2.bM (y32.2.bB+1))) λy36=>ag (iz n y28.1 y36.1) λy37=>ag (kj n s y37) λy38=>next (y36.2,y38,false))) (ag (iz n y28.1 y28.1) λy39=>ag (kj n s y39) λy40=>next (y32.2,y40,false)))
   (λi=>rsB (m i) neg (next' i) (RR q,ws)) (Js p) Hr:=by
 unfold rsB
 have bad:∀ {v:Int} {z:N} {c:Int} {w:Int},z.lP=true->Ev (λi=>br (!z.lP) (ag (lK (m i) c w) λy34=>ag (sj (m i) ws y34) λy35=>ag (cu 93 z) λy37=>br y37.1 (ÿ (m i) neg (y37.2,y35)) (next' i (y37.2,y35))) (ag (cu 93 z) λy40=>br y40.1 (ÿ (m i) neg (y40.2,ws)) (next' i (y40.2,ws)))) (Hr (Uo v)) dt:=λ{v z c w} h=>by
  rw[h]
  exact aH (bI (abA h) (aH (hf _ _ h)))
 have good:∀ {q:L} {c w:Int} {s:eb},RQ q->PGt p q->0<=c->w<=255->LK (ag (iz n c w) λy37=>ag (kj n s y37) λy38=>next (q,y38,false)) (λi=>br (!(RR q).lP) (ag (lK (m i) c w) λy34=>ag (sj (m i) ws y34) λy35=>ag (cu 93 (RR q)) λy37=>br y37.1 (ÿ (m i) neg (y37.2,y35)) (next' i (y37.2,y35))) (ag (cu 93 (RR q)) λy40=>br y40.1 (ÿ (m i) neg (y40.2,ws)) (next' i (y40.2,ws)))) (Js p) Hr:=λ{q c w s} hq ht hc hw=>
  Db FY λ_ _=>Db NA λ_ _=>aJ (λ_=>wK (EN hm hc hw) λ_ _=>wK (Ib hm) λ_ _=>hn _ _ _ hq ht) dC
 refine aJ (λ_=>û (ü hq.h0) (λa ha=>?_) λGO v=>?_) dC
 ·cases hi:ŉ 0 q with
  | none=>rw[hi] at ha;cases ha
  | some w=>
   rw[hi] at ha;cases ha
   obtain ⟨_,r1,r2,r3,r4⟩:=adA hq.h0 hi
   have Gs:RQ (up q w.2):=hq.up (by have:=hq.h0;omega) r4
   have hb:=Pn hm hq E6 dN
   rw[hi] at hb
   refine nH (yk Gs.h0) (bn hb (mr (nS (yl Gs dN) ?_)))
   dsimp only [toP]
   by_cases h45:cv (up q w.2)=45
   ·have l2:=yj Gs h45 dN
    have Ds:RQ (up (up q w.2) 1):=Gs.up (by have:=Gs.h0;omega) aD
    rw[aL h45,aV h45,h45]
    refine aI (λ_=>bK λ_=>aJ (λ_=>û (ü Ds.h0) (λa ha=>?_) λGO v=>?_) dC) dC
    ·cases hi2:ŉ w.1 (up (up q w.2) 1) with
     | none=>rw[hi2] at ha;cases ha
     | some w2=>
      rw[hi2] at ha;cases ha
      obtain ⟨_,s1,s2,s3,s4⟩:=adA Ds.h0 hi2
      have hb2:=Pn hm Ds r1 r2
      rw[hi2] at hb2
      exact bn hb2 (good (Ds.up (by have:=Ds.h0;omega) s4) ⟨ht.1,by have:=ht.2;show p.bB<q.bB+w.2+1+w2.2;omega⟩ r1 s2)
    ·have hb2:=Pn hm Ds r1 r2
     cases hi2:ŉ w.1 (up (up q w.2) 1) with
     | some w2=>rw[hi2] at GO;cases GO
     | none=>rw[hi2] at hb2;exact hb2.gZ λz hz=>bad hz.1
   ·rw[aC h45,bA h45]
    exact aI (λh=>aw jk h45) λ_=>aJ dC λ_=>good Gs ⟨ht.1,by have:=ht.2;show p.bB<q.bB+w.2;omega⟩ r1 r2
 ·have hb:=Pn hm hq E6 dN
  cases hi:ŉ 0 q with
  | some w=>rw[hi] at GO;cases GO
  | none=>
   rw[hi] at hb
   exact hb.gZ λz hz=>bI (abA hz.1) (aH (bad hz.1))
end
def NQ {α:Type} (x:aG α) (Q:α->Prop):Prop:=Np x/\∀ a,x=.ok a->Q a
section
variable {Q:α->Prop}
def NQ.ok {a:α} (h:Q a):NQ (.ok a) Q:=⟨Da,λ_ e=>by cases e;exact h⟩
def iF:=@NQ.ok
def NQ.bind {x:aG β} {f:β->aG α} (h:Np x) (hf:∀ b,NQ (f b) Q):NQ (ag x f) Q:=by
 cases x with
 | stuck=>exact acf
 | qH p=>exact aw rfl (h p)
 | ok b=>exact hf b
def qj:=@NQ.bind
def NQ.br {b:Bool} {x y:aG α} (ht:b=true->NQ x Q) (hf:b=false->NQ y Q):NQ (aG.br b x y) Q:=by cases b<;>simp_all [aG.br]
def cP:=@NQ.br
end
section
variable {p:L} {m:Nat->Nat}
def af6 (hm:bN m) (hp:RQ p) (hx:cv p=91):LK (n7 n p) (λi=>so (m i) (RR (up p 1))) (Js p) Hr:=by
 have gR:=yj hp hx dN;have h0:=hp.h0;have EY:RQ (up p 1):=hp.up aD aD;have loop:∀ (q:L) (neg:Bool),RQ q->PGt p q->LK (aG.iter (lsB n neg) n (q,eb.mk 0 0 0 0,true)) (λi=>aG.iter (rsB (m i) neg) (m i) (RR q,eb.mk 0 0 0 0)) (Js p) Hr:=λq neg hq ht=>
  LK.rot (λv y=>y.1=v.2.2/\y.2.1=RR v.1/\RQ v.1/\PGt p v.1) (λp w=>(∃ v,p=Uo v)/\w.1.lP=true) (λi=>rsM (m i) neg)
   (λq z hj next'=>by
    unfold rsB;rw[hj.2];exact aH ((af4 hm).oB λw hw=>⟨hj.1,by rw[hw.1];exact hj.2⟩))
   (by
    rintro ⟨q,s,f0⟩ ⟨f,r,ws⟩ ⟨e1,e2,hq,ht⟩ next next' hn hf;dsimp only at e1 e2 hq ht;subst e1 e2;have core:=ā (n:=n) (s:=s) (ws:=ws) (neg:=neg) hm hp hq ht (λq s ws hq ht=>hn (q,s,false) (false,RR q,ws) ⟨rfl,rfl,hq,ht⟩) λv w hw=>hf _ w ⟨⟨v,rfl⟩,hw⟩;unfold lsB rsM;cases f with
    | true=>exact oK (λv=>v=q) (λv hv=>by subst hv;exact core) λj hj=>aI (λ_=>hj _ rfl) λh=>by cases h
    | false=>
     refine aJ dC λ_=>nS (yl hq dN) ?_
     dsimp only
     by_cases Tc:cv q=93
     ·have l1:=yj hq Tc dN;have hq1:RQ (up q 1):=hq.up (by have:=hq.h0;omega) aD;rw[aL Tc,aV Tc];refine fP (aI dC λ_=>nH (yk hq.h0) (aI (λh=>aw Tc jk) λ_=>bK λ_=>aJ (λ_=>?_) dC));unfold ÿ;refine dx rfl (λ_=>Db af5 λ_ _=>wK (WR hm) λ_ _=>bZ acb) λ_=>bZ acb
     ·rw[aC Tc,bA Tc];exact aJ dC λ_=>oK (λv=>v=q) (λv hv=>by subst hv;exact core) λj hj=>aI dC λ_=>nH (yk hq.h0) (aI (λ_=>hj _ rfl) λh=>aw jk Tc))
   n hm (q,eb.mk 0 0 0 0,true) (true,RR q,eb.mk 0 0 0 0) ⟨rfl,rfl,hq,ht⟩
 unfold n7 so jg;refine bK λ_=>nH (yk EY.h0) (nS (yl EY dN) ?_);dsimp only;by_cases Tc:cv (up p 1)=93
 ·have l1:=yj EY Tc dN;have TD:RQ (up (up p 1) 1):=EY.up (by have:=EY.h0;omega) aD;rw[aL Tc,aV Tc,Tc];refine fP (aI dC λ_=>fP (aI (λ_=>nH (yk EY.h0) ?_) dC));rw[Tc];exact aI (λ_=>bK λ_=>aJ (λ_=>bZ ⟨rfl,.nothing,TD,rfl,Za⟩) dC) dC
 rw[aC Tc,bA Tc];refine aJ dC λ_=>nS (yl EY dN) ?_;dsimp only;by_cases h94:cv (up p 1)=94
 ·have l1:=yj EY h94 dN;have TD:RQ (up (up p 1) 1):=EY.up (by have:=EY.h0;omega) aD;rw[aL h94,aV h94,h94];exact fP (aI (λ_=>bK λ_=>fP (aI dC λ_=>aI dC λ_=>loop (up (up p 1) 1) true TD ⟨rfl,Za⟩)) dC)
 rw[aC h94,bA h94];have e94:(cv (up p 1)==94)=false:=by simpa using h94
 have e93:(cv (up p 1)==93)=false:=by simpa using Tc
 rw[e94];refine fP (aI dC λ_=>fP (aI (λ_=>nH (yk EY.h0) ?_) dC));rw[e93];exact aI dC λ_=>loop (up p 1) false EY ⟨rfl,by show p.bB<p.bB+1;omega⟩
def cls (c:Int):Prop:=c=100\/c=119\/c=115
instance {c:Int}:Decidable (cls c):=inferInstanceAs (Decidable (_\/_))
variable {c:Int}
def abD:NQ (tH n c) (λy=>y.2=decide (cls c)):=by
 unfold tH;refine qj FY λ_=>cP (λh=>iF ?_) λh1=>cP (λh=>qj FY λ_=>qj FY λ_=>qj NA λ_=>qj NA λ_=>qj FY λ_=>qj NA λ_=>iF ?_) λh2=>cP (λh=>qj FY λ_=>qj FY λ_=>qj NA λ_=>qj FY λ_=>qj NA λ_=>iF ?_) λh3=>iF ?_
 ·exact (aV (.inl jk)).symm
 ·exact (aV (.inr (.inl jk))).symm
 ·exact (aV (.inr (.inr jk))).symm
 exact ahS
def abE (hm:bN m):Ev (λi=>yb (m i) c) (λy=>y.2=decide (cls c)) dt:=by
 unfold yb;have O:∀ {a b:Int},0<=a->b<=255->Ev (λi=>lK (m i) a b) (λ_=>True) dt:=λh h'=>EN hm h h';refine ay (λh=>ai (O dN dN) λ_ _=>aj ?_) λh1=>ay (λh=>ai (O dN dN) λ_ _=>ai (O dN dN) λ_ _=>ai (Ib hm) λ_ _=>ai (O dN dN) λ_ _=>ai (O dN dN) λ_ _=>ai (Ib hm) λ_ _=>ai (Ib hm) λ_ _=>aj ?_) λh2=>ay (λh=>ai (O dN dN) λ_ _=>ai (O dN dN) λ_ _=>ai (Ib hm) λ_ _=>ai (O dN dN) λ_ _=>ai (Ib hm) λ_ _=>aj ?_) λh3=>aj ?_
 ·exact (aV (.inl jk)).symm
 ·exact (aV (.inr (.inl jk))).symm
 ·exact (aV (.inr (.inr jk))).symm
 exact ahS
def Sq (p:L):Option Int:=if p.bB+1<p.bM.length/\cls (cv (up p 1)) then some 2 else (Pm 0 p).map (·.2)
def Ă (hm:bN m) (hp:RQ p) (gR:p.bB<p.bM.length):Ev (λi=>lU (m i) (RR (up p 1))) (λz=>match Sq p with|some k=>z.2=RR (up p k)/\∃ a b c d,z.1=.mk 2 a b c d []|none=>z.2.lP=true) dt:=by
 have h0:=hp.h0;have hu:RQ (up p 1):=hp.up aD aD;have hh2:=hp.h2;unfold lU jg;refine bI (yl hu dN) ?_;dsimp only;by_cases hx:cv (up p 1)=120
 ·have nc:¬ cls (cv (up p 1)):=by rw[hx];decide
  have e:Sq p=(Pm 0 p).map (·.2):=by unfold Sq;rw[aC (λq=>nc q.2)]
  rw[aL hx,aV hx,Ln (l:=2) dN,e];refine ba (ai (þ hp dN hx) λz hz=>?_);cases hh:Pm 0 p with
  | none=>
   rw[hh] at hz
   obtain ⟨z1,z2⟩:=hz
   rw[z2]
   exact ai (EN hm dN dN) λ_ _=>aj z1
  | some w=>
   rw[hh] at hz
   have hz:z=(w.1,RR (up p w.2)):=hz
   subst hz
   obtain ⟨_,r1,r2,_⟩:=Ā h0 hh
   exact ai (EN hm r1 r2) λ_ _=>aj ⟨rfl,_,_,_,_,rfl⟩
 rw[aC hx,bA hx];refine aH (bI Gm (ay (λh=>?_) λh=>aj ?_))
 rotate_left
 ·have h:¬ p.bB+1<p.bM.length:=aU h;have:Sq p=none:=by unfold Sq Pm;rw[aC (λq=>h q.1),aC h];rfl
  rw[this]
 have KU:p.bB+1<p.bM.length:=bg h;obtain ⟨b,hb,IC⟩:=EM hu KU;obtain ⟨y,hy,hc⟩:=adz IC.symm rfl;refine cR hu.h0 hb ?_;rw[IC.symm] at hy ⊢;refine ai (abE hm) λt ht=>?_;have cr:=@Cu (up p 1);rw[wcv];have e:Sq p=if cls (cv (up p 1)) then some 2 else (IB (cv (up p 1))).map λ_=>2:=by
  unfold Sq;by_cases q:cls (cv (up p 1))
  ·rw[aL ⟨KU,q⟩,aL q]
  rw[aC (λw=>q w.2),aC q];unfold Pm;rw[aL KU,aC hx];cases hh:IB (cv (up p 1)) with
  | none=>rfl
  | some v=>
   have key:∀ k:Fin 256,∀ v,IB k.val=some v->0<=v:=λk v h=>by
    unfold IB at h;split at h
    ·cases h;omega
    exact ś
   have:=Jw (P:=λc=>∀ v,IB c=some v->0<=v) key _ cr.1 cr.2 v hh
   show Option.map _ (if 0<=v then some (v,(2:Int)) else none)=_
   rw[aL this];rfl
 have fin:∀ {t:eb×Bool},t.2=decide ((Sq p).isSome)->Ev (λ_=>br t.2 (gd (cD (p.bB+1+1)) (.ok ((bh.mk 2 t.1.x0 t.1.x1 t.1.x2 t.1.x3 []),(N.mk p.bM (p.bB+1+1) false)))) (.ok ((bh.mk 0 0 0 0 0 []),(N.mk p.bM (p.bB+1) true)))) (λz=>match Sq p with|some k=>z.2=RR (up p k)/\∃ a b c d,z.1=.mk 2 a b c d []|none=>z.2.lP=true) dt:=λ{t} ht=>by
  have e2:Sq p=none\/Sq p=some 2:=by
   rw[e];split
   ·exact .inr rfl
   cases IB (cv (up p 1)) with
   | none=>exact .inl rfl
   | some v=>exact .inr rfl
  rcases e2 with e2|e2
  ·rw[e2] at ht ⊢;rw[ht];exact aH uY
  rw[e2] at ht ⊢;rw[ht];refine ba (dB (ŕ aD aD) (aj ⟨?_,_,_,_,_,rfl⟩));show (⟨p.bM,p.bB+1+1,false⟩:N)=⟨p.bM,p.bB+2,false⟩;rw[show p.bB+1+1=p.bB+2 by omega]
 have i1:∀ {o:Option Int},o=IB (cv (up p 1))->(Sq p).isSome=(decide (cls (cv (up p 1)))||o.isSome):=λh=>by
  rw[e,h];by_cases q:cls (cv (up p 1))
  ·rw[aL q,aV q];rfl
  rw[aC q,bA q];cases IB (cv (up p 1))<;>rfl
 have i2:=i1 hc;refine bD (λv=>v.2=(decide (cls (cv (up p 1)))||decide (0<=y))) (λv hv=>?_) λj hj=>bI hy (aS (λh=>ai (EN hm h ?_) λ_ _=>hj _ ?_) λh=>hj _ ?_)
 ·refine bD (λw=>w.2=decide ((Sq p).isSome)) (λw hw=>fin hw) λj hj=>bD (λw=>w=decide (cv (up p 1)∈Py\/cv (up p 1)=94\/cv (up p 1)=45)) (λw hw=>?_) λk hk=>ai (E4 hm) ?_
  ·subst hw;refine ay (λh=>ai (EN hm aD aD) λ_ _=>hj _ ?_) λh=>hj _ ?_
   ·rw[aL Bx] at i2;rw[i2];simp
   rw[aC qk] at i2;rw[hv,i2];by_cases q:0<=y<;>simp[q]
  rintro _ rfl;refine ay (λh=>hk _ ?_) λh=>ay (λh2=>hk _ ?_) λh2=>hk _ ?_
  ·exact (aV (.inl Bx)).symm
  ·exact (aV (.inr (.inl wZ))).symm
  refine cV.2 ?_;simp only[cn,decide_eq_true_eq];exact ⟨λq=>.inr (.inr q),λq=>by
   rcases q with q|q|q
   ·exact aw q qk
   ·rw[q] at h2;cases h2
   exact q⟩
 ·have:y<=255:=by
   obtain ⟨w,h1,h2⟩:=Ny (Jw (P:=λc=>okB (qc c) (λy=>decide (y<=255))=true) (by decide +kernel) _ cr.1 cr.2);rw[h1] at hy;cases hy;exact bg h2
  exact this
 ·rw[aV h];simp
 rw[ht,bA h];simp
end
section
variable {V:α->β->Prop} {W:sT->β->Prop} {F:Nat->aG β}
def WS {x:aG γ} {Q:γ->Prop} {f:γ->aG α} (h:NQ x Q) (hk:∀ a,Q a->LK (f a) F V W):LK (ag x f) F V W:=Db h.1 λa e=>hk a (h.2 a e)
def ă {a:α} (h:Ev F (V a) dt):LK (.ok a) F V W:=⟨λ_ e=>by cases e;exact h,λ_ e=>by cases e⟩
def WT {v:Int} {q:L} {f:L->aG α} (h:Ev F (W (Uo v)) dt):LK (ag (eF v q) f) F V W:=sw (p:=Uo v) h
def adB {c:Int} {n:Nat}:NQ (sY n c) (λt=>∃ a b d e,t=.mk 2 a b d e []):=by
 unfold sY;exact qj FY λ_=>iF Qo
end
section
variable {p:L} {m:Nat->Nat}
def grR (n:Nat) (T:dL) (r:N):aG (bh×N):=
 ag (cu 41 r) λy23=>br y23.1 (.ok ((bh.mk 1 0 0 0 0 []),y23.2)) (ag (T.eK y23.2) λy27=>ag (cu 41 y27.2) λy30=>br (!y30.1) (.ok (y27.1,(N.mk y30.2.S y30.2.At true))) (.ok (y27.1,y30.2)))
abbrev rT (n:Nat):=ct n
structure XQ (n:Nat):Prop where
 alt:∀ {p:L} {m:Nat->Nat},RQ p->bN m->LK (dZ n p) (λi=>eK (m i) (RR p)) (Js p) Hr
 Ã:∀ {p:L} {m:Nat->Nat},RQ p->bN m->LK (ez n p) (λi=>fC (m i) (RR p)) (Js p) Hr
 RS:∀ {l:List bh} {p:L} {m:Nat->Nat},RQ p->bN m->LK (dP n l p) (λi=>fJ (m i) (RR p)) (λa z=>∃ r,a.1=l++[r]/\Js p (r,a.2) z) Hr
 piece:∀ {p:L} {m:Nat->Nat},RQ p->bN m->LK (iW n p) (λi=>fJ (m i) (RR p)) (Js p) Hr
 atom:∀ {p:L} {m:Nat->Nat},RQ p->bN m->LK (jA n p) (λi=>kA (m i) (RR p)) (Js p) Hr
 group:∀ {p:L} {m:Nat->Nat},RQ p->cv p=40->bN m->LK (iV n p) (λi=>grR (m i) (rT (m i)) (RR (up p 1))) (Js p) Hr
def Ą (ih:XQ n) (hp:RQ p) (hx:cv p=40) (hm:bN m):LK (iV (n+1) p) (λi=>grR (m i) (rT (m i)) (RR (up p 1))) (Js p) Hr:=by
 have gR:=yj hp hx dN;have h0:=hp.h0;have EY:RQ (up p 1):=hp.up aD aD;show LK (kQ n (bG n) p) _ _ _;unfold kQ grR;refine bK λ_=>nH (yk EY.h0) (nS (yl EY dN) ?_);dsimp only;by_cases OF:cv (up p 1)=41
 ·have S8:=yj EY OF dN;rw[aL OF,aV OF,OF];exact aI (λ_=>bK λ_=>aJ (λ_=>bZ ⟨rfl,.empty,EY.up (by have:=EY.h0;omega) aD,rfl,Za⟩) dC) dC
 rw[aC OF,bA OF];refine aI (λh=>aw jk OF) λ_=>aJ dC λ_=>cq (ih.alt EY hm) ?_ ?_
 ·rintro ⟨t,q⟩ ⟨t',r⟩ ⟨rfl,hX,hq,hg,hg2⟩;have hg2:p.bB+1<q.bB:=hg2;refine fP (nH (yk hq.h0) (nS (yl hq dN) ?_));dsimp only;by_cases hc:cv q=41
  ·have S8:=yj hq hc dN;rw[aL hc,aV hc,hc];exact aI dC λ_=>bK λ_=>aJ dC λ_=>bZ ⟨rfl,hX,hq.up (by have:=hq.h0;omega) aD,hg,by show p.bB<q.bB+1;omega⟩
  rw[aC hc,bA hc];exact aI (λ_=>WT (ba (aj ⟨⟨_,rfl⟩,rfl⟩))) λh=>aw jk hc
 rintro _ ⟨t',r⟩ ⟨hv,hf⟩;exact bI (abA hf) (ba (aj ⟨hv,rfl⟩))
def abF (ih:XQ n) (hp:RQ p) (hm:bN m):LK (jA (n+1) p) (λi=>kA (m i) (RR p)) (Js p) Hr:=by
 have h0:=hp.h0;have TD:=hp.h2;have cr:=@Cu p;refine jG (F:=λn=>kA n (RR p)) hm λm hm=>?_;show LK (lQ n (bG n) p) (λi=>pH (m i) (ct (m i)) (RR p)) _ _;unfold lQ pH uD jg;have vx:∀ {k:Int} {t t':bh} {r:N},(∃ a b c d,t=.mk 2 a b c d [])->(∃ a b c d,t'=.mk 2 a b c d [])->r=RR (up p k)->0<k->p.bB+k<=p.bM.length->Js p (t,up p k) (t',r):=λ{k t t' r} ⟨_,_,_,_,h1⟩ ⟨_,_,_,_,h2⟩ h3 h4 h5=>⟨h3,by rw[h1,h2];exact .one,hp.up aD h5,rfl,by show p.bB<p.bB+_;omega⟩;refine nH (yk h0) (nS (yl hp dN) (fP ?_));dsimp only;by_cases Dm:cv p=92
 ·have gR:=yj hp Dm dN;rw[aL Dm,aV Dm];have he:=Ă hm hp gR;have R:∀ {o:Option Int},Sq p=o->Ev (λi=>ag (lU (m i) (RR (up p 1))) λy7=>.ok (y7.1,y7.2)) (λz=>match o with|some k=>z.2=RR (up p k)/\∃ a b c d,z.1=.mk 2 a b c d []|none=>z.2.lP=true) dt:=λh=>h▸he.gZ λz hz=>aj hz;have Dc:¬ (p.bB+1<p.bM.length/\cls (cv (up p 1)))->LK (ag (gI n 0 p) λy47=>ag (sY n y47.1) λy48=>.ok (y48,y47.2)) (λi=>ag (lU (m i) (RR (up p 1))) λy7=>.ok (y7.1,y7.2)) (Js p) Hr:=λhn=>by
   have e:Sq p=(Pm 0 p).map (·.2):=by unfold Sq;rw[aC hn]
   refine û (ady h0) (λa ha=>?_) λGO v=>?_
   ·cases hh:Pm 0 p with
    | none=>rw[hh] at ha;cases ha
    | some w=>
     rw[hh] at ha e;cases ha
     obtain ⟨_,_,_,r3,r4⟩:=Ā h0 hh
     have r5:0<w.2:=by
      unfold Pm at hh;split at hh
      ·split at hh
       ·cases h2:Sp 0 (up p 2) with
        | none=>rw[h2] at hh;cases hh
        | some v=>rw[h2] at hh;cases hh;show (0:Int)<4;decide
       cases h2:IB (cv (up p 1)) with
       | none=>rw[h2] at hh;cases hh
       | some v=>
        rw[h2] at hh
        have hh:(if 0<=v then some (v,(2:Int)) else none)=some w:=hh
        split at hh
        ·cases hh;show (0:Int)<2;decide
        ·cases hh
      cases hh
     exact WS adB λt ht=>ă ((R e).oB λz hz=>vx ht hz.2 hz.1 r5 r4)
   cases hh:Pm 0 p with
   | some w=>rw[hh] at GO;cases GO
   | none=>rw[hh] at e;exact (R e).oB λz hz=>⟨⟨v,rfl⟩,hz⟩
  rw[Dm];refine aI JP λ_=>aI dC λ_=>aI dC λ_=>aI dC λ_=>aI (λ_=>bK λ_=>aJ (λ_=>aI (λhl=>bK λ_=>jc λb _ hb=>?_) λhl=>Dc λq=>aw q.1 (aU hl)) dC) dC;have hl:p.bB+1<p.bM.length:=bg hl;have ec:cv (up p 1)=b.toNat:=by unfold cv;rw[show (up p 1).bM[(up p 1).bB.toNat]?=some b from hb]
  rw[<- ec];refine WS abD λt ht=>?_;rw[ht];by_cases hc:cls (cv (up p 1))
  ·rw[aV hc];refine aI (λ_=>bK λ_=>ă ((R (o:=some 2) (by unfold Sq;rw[aL ⟨hl,hc⟩])).oB λz hz=>vx (k:=2) Qo hz.2 hz.1 dN aD)) dC
  rw[bA hc];exact aI dC λ_=>Dc λq=>hc q.2
 rw[aC Dm,bA Dm];refine aJ dC λ_=>nS (yl hp dN) ?_;dsimp only;by_cases LH:cv p=46
 ·have gR:=yj hp LH dN;rw[aL LH,aV LH,LH];refine aI JP λ_=>aI dC λ_=>aI dC λ_=>aI (λ_=>bK λ_=>Db FY λ_ _=>aJ (λ_=>wK (EN hm dN dN) λ_ _=>bZ (vx Qo Qo rfl dN aD)) dC) dC
 rw[aC LH,bA LH];refine aJ dC λ_=>nS (yl hp dN) ?_;dsimp only;by_cases Tb:cv p=91
 ·have gR:=yj hp Tb dN;rw[aL Tb,aV Tb];have st:=af6 (n:=n) hm hp Tb;rw[Tb];refine aI JP λ_=>aI dC λ_=>aI (λ_=>aJ (λ_=>cq st (λa z h=>bZ h) λq z h=>aj h) dC) dC
 rw[aC Tb,bA Tb];refine aJ dC λ_=>nS (yl hp dN) ?_;dsimp only;by_cases G3:cv p=40
 ·have gR:=yj hp G3 dN;rw[aL G3,aV G3];have gr:=ih.group hp G3 hm;rw[G3];exact aI JP λ_=>aI (λ_=>aJ (λ_=>sQ gr (λa b h=>bZ h) λ_ _ h=>h) dC) dC
 rw[aC G3,bA G3];refine aJ dC λ_=>LK.jnT (λv=>v=(RR p,decide (¬ p.bB<p.bM.length\/cv p<32\/cv p>126\/cv p∈Py))) (λv hv=>?_) λj hj=>nS Gm ?_
 ·subst hv;by_cases Po:¬ p.bB<p.bM.length\/cv p<32\/cv p>126\/cv p∈Py
  ·rw[aV Po];refine aJ (λ_=>?_) dC;have fl:∀ {v:Int} {q:L} {f:L->aG (bh×L)},LK (ag (eF v q) f) (λ_=>.ok ((bh.mk 0 0 0 0 0 []),(N.mk (RR p).S (RR p).At true))) (Js p) Hr:=WT (aj ⟨⟨_,rfl⟩,rfl⟩);refine aI (λ_=>fl) λgR=>aI (λh=>aw jk G3) λ_=>aI (λh=>aw jk Tb) λ_=>aI (λh=>aw jk LH) λ_=>aI (λh=>aw jk Dm) λ_=>?_;have gR:p.bB<p.bM.length:=by have h:¬ p.bB>=(p.bM.length:Int):=aU gR;omega
   have Po:=Po.resolve_left (λq=>q gR);obtain ⟨y,hy,hd⟩:=Ny agH;have hd:=cn.1 hd;refine oK (λv=>v=true) (λv hv=>by subst hv;exact aI (λ_=>fl) λh=>by cases h) λj hj=>aI (λ_=>hj _ rfl) λh1=>aI (λ_=>hj _ rfl) λh2=>nH hy (hj _ ?_);rw[hd];exact aV (Po.resolve_left (aU h1) |>.resolve_left (aU h2))
  rw[bA Po];have gR:p.bB<p.bM.length:=Decidable.not_not.1 λq=>Po (.inl q);obtain ⟨b,hb,IC⟩:=EM hp gR;refine aJ dC λ_=>bW adP (bW (ŕ (by show -5000<=p.bB+1 - 1;omega) (by show p.bB+1 - 1<=5000;omega)) ?_);show LK _ (λi=>aG.el p.bM (p.bB+1 - 1) _) _ _;rw[show p.bB+1 - 1=p.bB by omega];refine eI h0 hb ?_;rw[<- IC,wcv];refine wK (EN hm cr.1 aD) λt _=>?_;obtain ⟨y,hy,hd⟩:=Ny agH;have hd:=cn.1 hd;refine aI JP λ_=>aI (λh=>aw jk G3) λ_=>aI (λh=>aw jk Tb) λ_=>aI (λh=>aw jk LH) λ_=>aI (λh=>aw jk Dm) λ_=>?_;refine oK (λv=>v=false) (λv hv=>?_) λj hj=>aI (λh=>aw (.inr (.inl Bx)) Po) λ_=>aI (λh=>aw (.inr (.inr (.inl Bx))) Po) λ_=>nH hy (hj _ ?_)
  ·subst hv;exact aI dC λ_=>bK λ_=>WS adB λt ht=>bZ (vx ht Qo rfl dN aD)
  rw[hd];exact bA λq=>Po (.inr (.inr (.inr q)))
 
 have t:(¬ p.bB<p.bM.length\/cv p<32\/cv p>126\/cv p∈Py)->∀ {X:aG (bh×L)},(∀ w,w=(RR p,decide (¬ p.bB<p.bM.length\/cv p<32\/cv p>126\/cv p∈Py))->LK X (λi=>j i w) (Js p) Hr)->LK X (λi=>j i (RR p,true)) (Js p) Hr:=λh {X} hj=>hj _ (by rw[aV h]);refine aJ (λh=>t (.inl (aU jk)) hj) λh=>?_;have gR:p.bB<p.bM.length:=bg jk;obtain ⟨b,hb,IC⟩:=EM hp gR;refine eI h0 hb ?_;rw[<- IC];refine aJ (λh=>t (.inr (.inl Bx)) hj) λh1=>eI h0 hb ?_;rw[<- IC];refine aJ (λh=>t (.inr (.inr (.inl Bx))) hj) λh2=>eI h0 hb ?_;rw[<- IC];refine bn (E4 hm) (hj _ (Prod.ext rfl (decide_eq_decide.2 ⟨λq=>.inr (.inr (.inr q)),λq=>?_⟩)));exact q.resolve_left (λq=>q gR) |>.resolve_left (aU h1) |>.resolve_left (aU h2)
end
section
structure Tp (l l':List bh):Prop where
 n:l.length=l'.length
 h:∀ (i:Nat) (x y:bh),l[i]?=some x->l'[i]?=some y->I3 x y
variable {l l':List bh} {x y:bh}
def Tp.snoc (h:Tp l l') (hx:I3 x y):Tp (l++[x]) (l'++[y]):=⟨by simp[h.n],λi a b ha hb=>by
 rcases tS ha with q|⟨q,rfl⟩
 ·rcases tS hb with q2|⟨q2,_⟩
  ·exact h.h i a b q q2
  have:=(ao.1 q).1;have:=h.n;omega
 rcases tS hb with q2|⟨_,rfl⟩
 ·have:=(ao.1 q2).1;have:=h.n;omega
 exact hx⟩
def Tp.nil:Tp [] []:=⟨rfl,λi a b h=>by cases h⟩
def Tp.one (h:I3 x y):Tp [x] [y]:=Tp.nil.snoc h
def I3.two {a a' b b':bh} (hk:k=3\/k=4) (h:I3 a a') (h':I3 b b'):I3 (.mk k 0 0 0 0 [a,b]) (.mk k 0 0 0 0 [a',b']):=.many hk (ik 2) rfl ((Tp.one h).snoc h').h
def WU (hk:k=3\/k=4) (h:Tp l l') (h1:1<=l.length):LK (qq k l) (λ_=>jP k l') I3 (λ_ _=>False):=by
 have e:=h.n;unfold qq jP;refine dx (by rw[e]) (λhe=>jc λx _ hx=>?_) λhe=>bZ ?_
 ·have he:(l.length:Int)=1:=by simpa using he
  have hl:l'.length=1:=by omega
  have hy:=aA (show (0:Int).toNat<l'.length by rw[hl];decide);exact eI E6 hy (bZ (h.h 0 _ _ hx hy))
 have he:¬ (l.length:Int)=1:=by simpa using he
 exact .many hk aD e h.h
def Sr {r:N} {v:Int} (h1:1<=l'.length) (hr:r.lP=true):Ev (λ_=>ag (jP k l') λy=>.ok (y,r)) (Hr (Uo v)) dt:=by
 unfold jP;cases l' with
 | nil=>cases h1
 | cons a l=>
  by_cases h:(((a::l).length:Int)==1)=true
  ·rw[h];exact aj ⟨⟨v,rfl⟩,hr⟩
  ·rw[eq_false_of_ne_true h];exact aj ⟨⟨v,rfl⟩,hr⟩
section
variable {p:L} {m:Nat->Nat}
def ZF {k:Nat} (h:k<=70000):ob 64 k 1:=⟨aD,by unfold maxLen;omega⟩
def ą (ih:XQ n) (hp:RQ p) (hm:bN m):LK (dP (n+1) l p) (λi=>fJ (m i) (RR p)) (λa z=>∃ r,a.1=l++[r]/\Js p (r,a.2) z) Hr:=by
 show LK (fI n (bG n) l p) _ _ _;unfold fI YE jU;exact sQ (ih.piece hp hm) (λa b h=>bK λ_=>bZ ⟨_,rfl,h⟩) λ_ _ h=>h
def Ć (ih:XQ n) (hp:RQ p) (hm:bN m):LK (iW (n+1) p) (λi=>fJ (m i) (RR p)) (Js p) Hr:=by
 refine jG (F:=λn=>fJ n (RR p)) hm λm hm=>?_;show LK (kR n (bG n) p) (λi=>oJ (m i) (ct (m i)) (RR p)) _ _;unfold kR oJ;refine cq (ih.atom hp hm) ?_ λq z hz=>qY hm λ_=>by
  obtain ⟨hv,hf⟩:=hz;rw[hf];exact aH (aj ⟨hv,hf⟩)
 rintro ⟨t,q⟩ ⟨t',r⟩ ⟨rfl,hX,hq,hg⟩;refine ud (λv w=>w.1=RR v.1/\I3 v.2 w.2/\RQ v.1/\PGt p v.1) ?_ n hm _ _ ⟨rfl,hX,hq,hg⟩;rintro ⟨q,t⟩ ⟨r,t'⟩ ⟨e,hX,hq,hg⟩ next next' hn;dsimp only at e hX hq hg;subst e;have h0:=hq.h0;refine aJ (λ_=>fP (nH (yk h0) (nS (yl hq dN) ?_))) dC;dsimp only;have go:∀ {c:Int} {t t':bh},cv q=c->c≠0->I3 t t'->LK (gd (cD (q.bB+1)) (next ((L.mk q.bM (q.bB+1)),t))) (λi=>next' i (RR (up q 1),t')) (Js p) Hr:=λhc h0 hX=>by
  have:=yj hq hc h0;exact bK λ_=>hn _ _ ⟨rfl,hX,hq.up aD aD,hg.1,by have:=hg.2;show p.bB<q.bB+1;omega⟩
 by_cases h42:cv q=42
 ·rw[aL h42,aV h42];have g:=go h42 dN (.star hX);rw[h42];exact adQ
 rw[aC h42,bA h42];refine aI (λh=>aw jk h42) λ_=>aJ dC λ_=>nS (yl hq dN) ?_;dsimp only;by_cases h43:cv q=43
 ·rw[aL h43,aV h43];have g:=go h43 dN (I3.two (.inl rfl) hX (.star hX));rw[h43];exact adQ
 rw[aC h43,bA h43];refine aI (λh=>aw jk h43) λ_=>aJ dC λ_=>nS (yl hq dN) ?_;dsimp only;by_cases h63:cv q=63
 ·rw[aL h63,aV h63];have g:=go h63 dN (I3.two (.inr rfl) hX .empty);rw[h63];exact adQ
 rw[aC h63,bA h63];exact aI (λh=>aw jk h63) λ_=>aJ dC λ_=>bZ ⟨rfl,hX,hq,hg⟩
def abG (ih:XQ n) (hp:RQ p) (hm:bN m):LK (ez (n+1) p) (λi=>fC (m i) (RR p)) (Js p) Hr:=by
 refine jG (F:=λn=>fC n (RR p)) hm λm hm=>?_;show LK (gb n (bG n) p) (λi=>mW (m i) (ct (m i)) (RR p)) _ _;unfold gb mW jg oz jU;have stop:∀ {v:Int} (w:N×List bh),w.1.lP=true->1<=w.2.length->∀ next:Nat->N×List bh->aG (bh×N),Ev (λi=>ag (fW w.1) λy10=>br y10.1 (el y10.2.S y10.2.At λb12=>br ((b12.toNat:Int) !=124) (el y10.2.S y10.2.At λb17=>br ((b17.toNat:Int) !=41) (ag ((ct (m i)).fJ y10.2) λy22=>gd (ob 64 w.2.length (List.length [y22.1])) (next i (y22.2,w.2++[y22.1]))) (ag (jP 3 w.2) λy25=>.ok (y25,y10.2))) (ag (jP 3 w.2) λy27=>.ok (y27,y10.2))) (ag (jP 3 w.2) λy29=>.ok (y29,y10.2))) (Hr (Uo v)) dt:=λw hw hl next=>bI (af1 hw) (aH (Sr hl hw));refine cq (ih.RS hp hm) ?_ ?_
 rotate_left
 ·exact acU
 rintro ⟨l,q⟩ ⟨t',r⟩ ⟨t,rfl,rfl,hX,hq,hg⟩;refine vq (λv w=>w.1=RR v.1/\Tp v.2 w.2/\1<=v.2.length/\(v.2.length:Int)<=v.1.bB/\RQ v.1/\PGt p v.1) (λp w=>(∃ v,p=Uo v)/\w.1.lP=true/\1<=w.2.length) ab9 ?_ n hm _ _ ⟨rfl,Tp.one hX,ik 1,by have:=hg.2;have:=hp.h0;show (1:Int)<=q.bB;have:p.bB<q.bB:=hg.2;omega,hq,hg⟩;rintro ⟨q,l⟩ ⟨r,l'⟩ ⟨e,hX,hl,hla,hq,hg⟩ next next' hn hf;dsimp only at e hX hl hla hq hg;subst e;have h0:=hq.h0;have h1:=hq.h1;have h2:=hq.h2;have el:=hX.n;have close:LK (ag (qq 3 l) λy=>.ok (y,q)) (λ_=>ag (jP 3 l') λy=>.ok (y,RR q)) (Js p) Hr:=cq (WU (.inl rfl) hX hl) (λa b h=>bZ ⟨rfl,h,hq,hg⟩) λ_ _ h=>h.elim;refine nS Gm (dx rfl (λgR=>nH (yk h0) ?_) λ_=>close);have gR:q.bB<q.bM.length:=bg gR;obtain ⟨b,hb,IC⟩:=EM hq gR;refine eI h0 hb (dx (by rw[IC]) (λ_=>nH (yk h0) (eI h0 hb (dx (by rw[IC]) (λ_=>cq (ih.RS hq hm) ?_ ?_) λ_=>close))) λ_=>close)
 ·rintro ⟨w,q2⟩ ⟨t',r⟩ ⟨t,rfl,rfl,hX2,Gs,hg2⟩;have hg2':q.bB<q2.bB:=hg2.2;exact bW (ZF (by show l'.length<=70000;omega)) acz
 exact acE
def af7 (ih:XQ n) (hp:RQ p) (hm:bN m):LK (dZ (n+1) p) (λi=>eK (m i) (RR p)) (Js p) Hr:=by
 refine jG (F:=λn=>eK n (RR p)) hm λm hm=>?_;show LK (gx n (bG n) p) (λi=>kB (m i) (ct (m i)) (RR p)) _ _;unfold gx kB oz jU;have stop:∀ {v:Int} (w:N×List bh),w.1.lP=true->1<=w.2.length->∀ next:Nat->N×List bh->aG (bh×N),Ev (λi=>ag (cu 124 w.1) λy10=>br y10.1 (ag ((ct (m i)).fC y10.2) λy12=>gd (ob 64 w.2.length (List.length [y12.1])) (next i (y12.2,w.2++[y12.1]))) (ag (jP 4 w.2) λy15=>.ok (y15,y10.2))) (Hr (Uo v)) dt:=λw hw hl next=>bI (abA hw) (aH (Sr hl hw));refine cq (ih.Ã hp hm) ?_ ?_
 rotate_left
 ·exact acU
 rintro ⟨t,q⟩ ⟨t',r⟩ ⟨rfl,hX,hq,hg⟩;refine vq (λv w=>w.1=RR v.1/\Tp v.2 w.2/\1<=v.2.length/\(v.2.length:Int)<=v.1.bB/\RQ v.1/\PGt p v.1) (λp w=>(∃ v,p=Uo v)/\w.1.lP=true/\1<=w.2.length) ab9 ?_ n hm _ _ ⟨rfl,Tp.one hX,ik 1,by have:=hp.h0;show (1:Int)<=q.bB;have:p.bB<q.bB:=hg.2;omega,hq,hg⟩;rintro ⟨q,l⟩ ⟨r,l'⟩ ⟨e,hX,hl,hla,hq,hg⟩ next next' hn hf;dsimp only at e hX hl hla hq hg;subst e;have h0:=hq.h0;have h1:=hq.h1;have h2:=hq.h2;have el:=hX.n;refine nH (yk h0) (nS (yl hq dN) ?_);dsimp only;by_cases hc:cv q=124
 ·have gR:=yj hq hc dN;have hq1:RQ (up q 1):=hq.up aD aD;rw[aL hc,aV hc,hc];refine aI (λ_=>bK λ_=>aJ (λ_=>cq (ih.Ã hq1 hm) ?_ ?_) dC) dC
  ·rintro ⟨t,q2⟩ ⟨t',r⟩ ⟨rfl,hX2,Gs,hg2⟩;have hg2':q.bB+1<q2.bB:=hg2.2;exact bK λ_=>bW (ZF (by show l'.length<=70000;omega)) acz
  exact acE
 rw[aC hc,bA hc];exact aI (λh=>aw jk hc) λ_=>aJ dC λ_=>cq (WU (.inr rfl) hX hl) (λa b h=>bZ ⟨rfl,h,hq,hg⟩) λ_ _ h=>h.elim
def ć:∀ n,XQ n
 | 0=>⟨λ_ _=>dc,λ_ _=>dc,λ_ _=>dc,λ_ _=>dc,λ_ _=>dc,λ_ _ _=>dc⟩
 | n+1=>
  have ih:=ć n
  ⟨af7 ih,abG ih,ą ih,Ć ih,abF ih,Ą ih⟩
end
end
section
structure RXo (a b:bh):Prop where
 k0:0<=a.an
 k5:a.an<=5
 z:a.an≠2->a.Rh=0/\a.Ri=0/\a.Rj=0/\a.Rk=0
 z':a.an≠2->b.Rh=0/\b.Ri=0/\b.Rj=0/\b.Rk=0
 k:b.an=a.an
 n:b.bF.length=a.bF.length
 c:a.an<3/\a.bF.length=0\/(a.an=3\/a.an=4)/\2<=a.bF.length\/a.an=5/\a.bF.length=1
 s:∀ (i:Nat) (x y:bh),a.bF[i]?=some x->b.bF[i]?=some y->I3 x y
variable {a b:bh}
def I3.o (h:I3 a b):RXo a b:=by
 cases h with
 | nothing=>exact acj
 | empty=>exact acj
 | one=>exact ag5
 | many hk h2 hl h=>
  refine ⟨?_,?_,λ_=>Tf,λ_=>Tf,rfl,hl.symm,.inr (.inl ⟨hk,h2⟩),h⟩
  ·rcases hk with rfl|rfl
   ·exact (by decide:(0:Int)<=3)
   exact (by decide:(0:Int)<=4)
  ·rcases hk with rfl|rfl
   ·exact (by decide:(3:Int)<=5)
   exact (by decide:(4:Int)<=5)
 | star h=>exact ag7
def af8 (h:RXo a b):AJ b=.ok 0:=by
 obtain ⟨h0,h5,_,hz,hk,hn,hc,_⟩:=h;unfold AJ;rw[hk,hn];have e1:decide (a.an<0)=false:=by simpa using h0
 have e2:decide (a.an>5)=false:=by simpa using h5
 have e3:br (a.an !=2) (br (!([b.Rh,b.Ri,b.Rj,b.Rk]==[0,0,0,0])) (.ok 11) (.ok 0)) (.ok 0)=(.ok 0:aG Int):=by
  cases hb:a.an !=2 with
  | false=>rfl
  | true=>
   obtain ⟨z0,z1,z2,z3⟩:=hz (by simpa using hb)
   rw[z0,z1,z2,z3];rfl
 simp only[aG.jn];rcases hc with ⟨hc,hl⟩|⟨hc,hl⟩|⟨hc,hl⟩
 ·have a1:decide (a.an<3)=true:=by simpa using hc
  have a2:decide ((a.bF.length:Int)>0)=false:=by simp[hl]
  have a3:(a.an==3)=false:=by simp;omega
  have a4:(a.an==4)=false:=by simp;omega
  have a5:(a.an==5)=false:=by simp;omega
  rw[e1,e2,a1,a2,a3,a4,a5];exact e3
 ·have a1:decide (a.an<3)=false:=by simp;omega
  have a2:decide ((a.bF.length:Int)<2)=false:=by simp;omega
  have a5:(a.an==5)=false:=by simp;omega
  rw[e1,e2,a1,a2,a5];cases (a.an==3)<;>cases (a.an==4)<;>exact e3
 have a1:decide (a.an<3)=false:=by simp;omega
 have a3:(a.an==3)=false:=by simp;omega
 have a4:(a.an==4)=false:=by simp;omega
 have a5:(a.an==5)=true:=by simpa using hc
 have a6:((a.bF.length:Int) !=1)=false:=by simp[hl]
 rw[e1,e2,a1,a3,a4,a5,a6];exact e3
def Ss:∀ (n:Nat) {m:Nat->Nat} {a b:bh} {l:Int},bN m->I3 a b->LK (mL n a l) (λi=>oI (m i) b l) (λy z=>z=y/\(y=9\/y=0)) (λ_ _=>False)
 | 0,_,_,_,_,_,_=>dc
 | n+1,m,a,b,l,hm,h=>by
  have ho:=h.o;have ih:∀ {m:Nat->Nat} {a b:bh} {l:Int},bN m->I3 a b->LK ((nZ n).mL a l) (λi=>(sg (m i)).oI b l) (λy z=>z=y/\(y=9\/y=0)) (λ_ _=>False):=λhm h=>Ss n hm h;refine jG (F:=λn=>oI n b l) hm λm hm=>?_;show LK (ot n (nZ n) a l) (λi=>uN (m i) (sg (m i)) b l) _ _;unfold ot uN;have k0:=ho.k0;have k5:=ho.k5;have hc:=ho.c;have hbn:=ho.n;refine dx rfl (λ_=>bZ ⟨rfl,.inl rfl⟩) λ_=>nS (af8 ho) (aJ dC λ_=>?_);refine oK (λ_=>True) (λ_ _=>?_) λj7 hj=>aI (λq=>aw k0 FZ) λ_=>aI (λq=>aw k5 FZ) λ_=>aI (λh2=>?_) λ_=>hj _ trivial
  ·refine oK (λ_=>True) (λ_ _=>?_) λj11 hj=>oK (λv=>v=true↔a.an=3\/a.an=4) (λv hv=>aI (λh=>aI (λq=>?_) λ_=>hj _ trivial) λh=>aI (λh5=>aI (λq=>?_) λ_=>hj _ trivial) λh5=>aI (λq=>?_) λ_=>hj _ trivial) λk hk=>aI (λq=>hk _ ⟨λ_=>.inl FZ,λ_=>q⟩) λq=>hk _ ⟨λr=>.inr (by simpa using r),λr=>by simp at q ⊢;omega⟩
   ·refine ud (λv w=>w=v) (λv w e next next' hn=>?_) n hm _ _ rfl;subst e;refine dx (by rw[hbn]) (λ_=>jc λx h0 hx=>?_) λ_=>bZ ⟨rfl,.inr rfl⟩;have hvl:=(ao.1 hx).1;have hy:=aA (show w.toNat<b.bF.length by omega);refine eI h0 hy (bK λhg=>bW hg (cq (ih hm (ho.s _ _ _ hx hy)) (λy z hz=>?_) λ_ _ h=>h.elim));obtain ⟨rfl,hz⟩:=hz;exact dx rfl (λ_=>bZ ⟨rfl,hz⟩) λ_=>bK λhg=>bW hg (hn _ _ rfl)
   ·have:=hv.1 h;simp at q;omega
   ·have q:=bne_iff_ne.1 q;simp at h5;omega
   have:¬(a.an=3\/a.an=4):=λr=>by rw[hv.2 r] at h;cases h
   have q:=bne_iff_ne.1 q;simp at h5;omega
  obtain ⟨z0,z1,z2,z3⟩:=ho.z wZ;rw[z0,z1,z2,z3];exact aI dC λ_=>hj _ trivial
def Su {α β:Type} {V:α->β->Prop} {W W':sT->β->Prop} {x:aG α} {H:sT->aG α} {F:Nat->aG β} (h:LK x F V W') (hw:∀ p,(∀ b,W' p b->LK (H p) (λ_=>.ok b) V W)):LK (Ar x H) F V W:=by
 cases x with
 | stuck=>exact dc
 | ok a=>exact ⟨λ_ e=>by cases e;exact h.1 a rfl,λ_ e=>by cases e⟩
 | qH p=>
  obtain ⟨b,hb,N,hN⟩:=(h.2 p rfl).get
  have e:∀ {Q:β->Prop},Ev (λ_=>.ok b) Q dt->Ev F Q dt:=λhq=>by
   obtain ⟨b',hq,M,hM⟩:=hq.get;have:=hM M (ik M);cases this;exact ⟨.ok b,hq,N,hN⟩
  exact ⟨λa ha=>e ((hw p b hb).1 a ha),λq hq=>e ((hw p b hb).2 q hq)⟩
def Sv:afL:=by
 intro n m s hm;unfold oG la jg;refine dx rfl (λ_=>bZ (by constructor<;>intro h<;>cases h)) λhlen=>?_;have hl:s.length<=1000:=by have:=aU hlen;omega
 have hp:RQ ⟨s,0⟩:=⟨eL 0,eZ,hl⟩;refine Su (W':=λp z=>(∃ v,p=Uo v)/\z.2.dX≠0) (cq ((ć n).alt hp hm) ?_ ?_) ?_
 ·rintro ⟨t,q⟩ ⟨t',r⟩ ⟨rfl,hX,hq,hg⟩;refine aJ dC λ_=>fP ?_;refine dx rfl (λ_=>sw (p:=Uo _) (aj ⟨⟨_,rfl⟩,Zj⟩)) λ_=>?_;unfold xS Bm;have ck:LK (ag (mL n t 1) λy3=>.ok (y3)) (λi=>ag (oI (m i) t' 1) λy3=>.ok (y3)) (λy z=>z=y/\(y=9\/y=0)) (λ_ _=>False):=cq (Ss n hm hX) (λa b h=>bZ h) λ_ _ h=>h.elim;refine cq ck ?_ λ_ _ h=>h.elim;rintro y _ ⟨rfl,hy⟩;exact dx rfl (λ_=>bZ (by constructor<;>intro h<;>cases h)) λ_=>bZ Y3
 ·rintro _ ⟨t',r⟩ ⟨⟨v,rfl⟩,hf⟩;rw[hf];exact ba (aj ⟨⟨v,rfl⟩,Zj⟩)
 rintro _ z ⟨⟨v,rfl⟩,hz⟩;show LK (ag (rq v) λy26=>.ok (y26.1,y26.2)) _ _ _;unfold rq;exact bZ ⟨λh=>aw h hz,λh=>by cases h⟩
end
section
variable {X:Type} {Q:α->Prop} {P:β->Prop}
def NQ.nil:NQ (.stuck:aG α) Q:=acf
def ym:=@NQ.nil
def NQ.ajA {x:aG β} {f:β->aG α} (h:NQ x P) (hf:∀ b,P b->NQ (f b) Q):NQ (ag x f) Q:=by
 cases x with
 | stuck=>exact ym
 | qH p=>exact aw rfl (h.1 p)
 | ok b=>exact hf b (h.2 b rfl)
def dV:=@NQ.ajA
variable {x:aG α} {l:List X}
def NQ.gd {p:Prop} [Decidable p] (h:p->NQ x Q):NQ (aG.gd p x) Q:=by
 unfold aG.gd;split
 ·exact h ‹_›
 exact ym
def zP:=@NQ.gd
def NQ.el {j:Int} {K:X->aG α} (h:∀ z,0<=j->l[j.toNat]?=some z->NQ (K z) Q):NQ (aG.el l j K) Q:=by
 unfold aG.el;split
 ·split
  ·exact Ql
  exact ym
 exact ym
def NQ.jn {j:X->aG α} {p:(X->aG α)->aG α} (J:X->Prop) (hj:∀ v,J v->NQ (j v) Q) (hp:∀ j:X->aG α,(∀ v,J v->NQ (j v) Q)->NQ (p j) Q):NQ (aG.jn j p) Q:=hp j hj
def nJ:=@NQ.jn
def NQ.iter {body:(X->aG α)->X->aG α} (I:X->Prop) (hb:∀ x,I x->∀ next:X->aG α,(∀ y,I y->NQ (next y) Q)->NQ (body next x) Q):∀ (n:Nat) {x:X},I x->NQ (aG.iter body n x) Q
 | 0,_,_=>ym
 | n+1,x,h=>hb x h _ λy hy=>NQ.iter I hb n hy
def NQ.mono {Q':α->Prop} (h:NQ x Q') (hq:∀ a,Q' a->Q a):NQ x Q:=⟨h.1,λa e=>hq a (h.2 a e)⟩
variable {f:X->Bool}
def Ĉ {F:X->aG Bool} (hF:∀ x,NQ (F x) λy=>y=f x) {n:Nat}:NQ (aG.iter (λnext (v:Int)=>br (decide (v<(List.length l:Int))) (el l v λx=>ag (F x) λy=>br y (.ok v) (gd (cD (v+1)) (next (v+1)))) (.ok (-1))) n 0) (λy=>decide (y>=0)=l.any f):=by
 refine NQ.iter (λv:Int=>0<=v/\(l.drop v.toNat).any f=l.any f) (λv hv next hn=>?_) n ⟨eL 0,rfl⟩;obtain ⟨v0,v1⟩:=hv;refine cP (λh=>NQ.el λx _ hx=>dV (hF x) ?_) λh=>iF ?_
 ·obtain ⟨q1,q2⟩:=ao.1 hx;rw[cb q1,q2,qT] at v1;rintro _ rfl;refine cP (λh=>iF ?_) λh=>zP λ_=>hn _ ⟨aD,?_⟩
  ·rw[<- v1,h,aV v0];rfl
  rw[<- v1,h,show (v+1).toNat=v.toNat+1 by omega];rfl
 rw[<- v1,dR ML];rfl
def ajB {m:Nat->Nat} (hm:bN m) (hl:l.length<=70000):Ev (λi=>aG.iter (λnext (v:Int)=>br (decide (v<(List.length l:Int))) (el l v λx=>br (f x) (.ok true) (gd (cD (v+1)) (next (v+1)))) (.ok false)) (m i) 0) (λy=>y=l.any f) dt:=by
 refine bR hm (λv:Int=>0<=v/\v<=l.length/\(l.drop v.toNat).any f=l.any f) (λv=>(l.length - v).toNat) MM ?_;rintro v ⟨v0,v1,v2⟩ next hn;refine aS (λh=>gL v0 h λx hx=>?_) λh=>aj ?_
 ·obtain ⟨q1,q2⟩:=ao.1 hx;rw[cb q1,q2,qT] at v2;refine ay (λh=>aj ?_) λh=>aF (hn _ ⟨aD,aD,?_⟩ aD)
  ·rw[<- v2,h];rfl
  rw[<- v2,h,show (v+1).toNat=v.toNat+1 by omega];rfl
 rw[<- v2,dR aD];rfl
end
def Wr (c:V) (b:Bool):V:=⟨c.uf||!b,c.deep⟩
def xj {c:V} {a b:Bool}:Wr (Wr c a) b=Wr c (a&&b):=by unfold Wr;cases c.uf<;>cases a<;>cases b<;>rfl
section
variable {m:Nat->Nat} {c:V}
def af9 {l:List Bool}:NQ (aQ n l c) (λy=>y=Wr c (l.all id)):=by
 unfold aQ;refine cP (λh=>iF (by unfold Wr;rw[h];rfl)) λh=>?_;unfold mP rz;refine dV (P:=λy=>y=l.any λx=>false==x) (dV (Ĉ (F:=λx=>.ok (false==x)) (f:=λx=>false==x) λx=>iF rfl) λy hy=>iF hy) λy hy=>iF ?_;unfold Wr;rw[hy,h];show V.mk _ _=⟨!(l.all id),_⟩;congr 1
 induction l with
 | nil=>rfl
 | cons a l ih=>rw[qT,List.all_cons];cases a<;>simp_all
def qJ {α:Type} {Q:α->Prop} {l:List Bool} {f:V->aG α} (h:NQ (f (Wr c (l.all id))) Q):NQ (ag (aQ n l c) f) Q:=dV af9 λy hy=>by subst hy;exact h
def ĉ (l:List ByS):Bool:=l.any λx=>x.contains 10
def Hi {l:List ByS}:NQ (ls n l) (λy=>y = !ĉ l):=by
 unfold ls k8 mR;refine dV (P:=λy=>y=ĉ l) (dV (P:=λy:Int=>decide (y>=0)=ĉ l) (Ĉ (F:=sf) (f:=λx=>x.contains 10) λx=>?_) λy hy=>iF hy) λy hy=>iF (by rw[hy]);unfold sf strings_Contains;exact dV (P:=λy=>y=x.contains 10) (zP λ_=>iF Ub) λy hy=>iF hy
def Hj (hm:bN m) {l:List ByS} (hl:l.length<=70000) (hs:∀ x,x∈l->x.length<=65536):Ev (λi=>sF (m i) l) (λy=>y=ĉ l) dt:=by
 unfold sF;refine bR hm (λv:Int=>0<=v/\v<=l.length/\ĉ (l.drop v.toNat)=ĉ l) (λv=>(l.length - v).toNat) MM ?_;rintro v ⟨v0,v1,v2⟩ next hn;refine aS (λh=>gL v0 h λx hx=>?_) λh=>aj ?_
 ·obtain ⟨q1,q2⟩:=ao.1 hx;have xl:=hs x (aP hx);rw[cb q1,q2,ĉ,qT] at v2;refine bR hm (λw:Int=>0<=w/\w<=x.length/\(x.drop w.toNat).contains 10=x.contains 10) (λw=>(x.length - w).toNat) MM ?_;rintro w ⟨w0,w1,w2⟩ Nl IN;refine aS (λh=>gL w0 h λb hb=>?_) λh=>aF (hn _ ⟨aD,aD,?_⟩ aD)
  ·obtain ⟨q3,q4⟩:=ao.1 hb;rw[cb q3,q4,List.contains_cons] at w2;rw[mz 10 10 rfl];refine ay (λh=>aj ?_) λh=>aF (IN _ ⟨aD,aD,?_⟩ aD)
   ·rw[<- v2,<- w2,show ((10:UInt8)==b)=true by rw[cn] at h ⊢;exact h.symm];rfl
   rw[<- w2,show ((10:UInt8)==b)=false by rw[beq_eq_false_iff_ne] at h ⊢;exact λq=>h q.symm,show (w+1).toNat=w.toNat+1 by omega];rfl
  rw[dR aD] at w2;rw[<- v2,<- w2,show (v+1).toNat=v.toNat+1 by omega];rfl
 rw[<- v2,dR aD];rfl
variable {t:ByS}
def af_ {a:ByS} {W:List ByS} (hW:yx [32] (a.length+1) a=W) (h0:W.any (λx=>([]:ByS)==x)=false):NQ (jZ n t a) (λy=>y=W.any λx=>t==x):=by
 unfold jZ strings_Split;refine cP (λ_=>dV (P:=λy=>y=W) (zP λ_=>iF hW) λy hy=>?_) λh=>iF ?_
 ·subst hy;unfold slices_Contains_string slices_Index_string;exact dV (P:=λz=>z=y.any λx=>t==x) (dV (P:=λz:Int=>decide (z>=0)=y.any λx=>t==x) (Ĉ (F:=λx=>.ok (t==x)) (f:=λx=>t==x) λx=>iF rfl) λz hz=>iF hz) λz hz=>iF hz
 have:t=[]:=by simpa using h
 rw[this,h0]
def ajC (hm:bN m) {l:List ByS} (hl:l.length<=70000):Ev (λi=>wz (m i) t l) (λy=>y=l.any λx=>t==x) dt:=ajB hm hl
def NB (s:ByS):∃ b:Bool,(∀ n,NQ (dT n s) λy=>y=b)/\∀ m,bN m->Ev (λi=>fu (m i) s) (λy=>y=b) dt:=by
 obtain ⟨b,hb,_⟩:=(zO mf (s:=s)).get;refine ⟨b,λn=>⟨AQ,λy hy=>?_⟩,λm hm=>(zO hm).oB λz hz=>?_⟩
 ·show y=b;rw[cV,hb];exact K6 y hy
 show z=b;rw[cV,hb];exact hz
end
section
abbrev W8:List ByS:=[[110,117,108,108],[98,111,111,108],[105,110,116],[110,117,109,98,101,114],[115,116,114,105,110,103]]
abbrev W9:List ByS:=[[60],[60,61],[62],[62,61],[33,61],[61,126],[33,126]]
abbrev W19:List ByS:=[[45],[33]]
abbrev W20:List ByS:=[[43],[45],[42],[47],[37],[61,61],[33,61],[60],[60,61],[62],[62,61],[38,38],[124,124]]
abbrev Ċ (t:ByS) (l:List ByS):Bool:=l.any λx=>t==x
def Ŋ (e:ak):Bool:=
 if e.an=10\/e.an=21 then true else if e.an=5 then decide ((e.bF.length:Int)>=1) else if e.an=9\/e.an=11\/e.an=18\/e.an=19 then (e.bF.length:Int)==1 else if e.an=12\/e.an=16\/e.an=20 then (e.bF.length:Int)==2
 else if e.an=15 then (e.bF.length:Int)==2||(e.bF.length:Int)==3 else if e.an=17 then decide ((e.bF.length:Int)>=2) else if e.an=14 then decide ((e.bF.length:Int)>=Xx .i64 e.U 1) else (e.bF.length:Int)==0
def txB (bt:Bool) (e:ak):Bool:=
 if e.an=10\/e.an=4\/e.an=11 then true else if e.an=8 then Ċ e.bJ W8 else if e.an=9 then Ċ e.bJ W9 else if e.an=19 then Ċ e.bJ W19 else if e.an=20 then Ċ e.bJ W20 else if e.an=21 then bt else e.bJ==[]
def ZE (e:ak):Bool:=(if e.an=13\/e.an=22 then true else (e.fS.length:Int)+(e.J.length:Int)==0)&&!ĉ e.J
def WV (e:ak):Bool:=if e.an=2\/e.an=14 then e.U==0||e.U==1 else if e.an=3 then decide (e.U>=0)&&(decide (e.U>=-1000000000000000)&&decide (e.U<=1000000000000000)) else e.U==0
def Io (K:Int) (b0 b1:Bool) (n0 n1:ByS) (k:Int):Bool:=if K=k then b0&&(b1&&(n0 !=n1)) else n0==[]&&n1==[]
def ŋ (K:Int) (q:cm):Bool:=((q.TF||K !=18)&&(q.El||K !=15))&&((q.xP||K !=13)&&(!q.xP||K !=22))
abbrev aga:ByS:=[108,101,116]
abbrev W10:List ByS:=[[102,105,101,108,100],[108,111,111,112],[112,97,99,107,97,103,101],[117,110,107,110,111,119,110]]
def rfB (e:ak):Bool:=if e.B=[] then (e.B==[]&&e.bE==[])&&(e.U==0&&(e.bF.length:Int)==0) else if e.B=aga then (e.bF.length:Int)==1&&(e.bE==[]&&decide (e.U>=0)) else if Ċ e.B W10=true then (e.bF.length:Int)==0&&(e.bE==[]&&decide (e.U>=0)) else false
def NL (bt b0 b1:Bool) (e:ak) (q:cm):Bool:=(((decide (e.an>=1)&&decide (e.an<=22))&&Ŋ e)&&txB bt e)&&ZE e&&(if e.an=10 then bt&&rfB e else (WV e&&Io e.an b0 b1 e.B e.bE 15)&&ŋ e.an q)
variable {a b:Bool}
def JM:[a].all id=a:=by simp
def YQ:[a,b].all id=(a&&b):=by simp
def al3 {c:Bool}:[a,b,c].all id=(a&&(b&&c)):=by simp
section
variable {c:V}
def ajD:Wr c true=c:=by unfold Wr;cases c;simp
def mQ {l:List Bool} (h:l.all id=b):NQ (ag (aQ n l c) λy=>.ok y) (λy=>y=Wr c b):=qJ (iF (by rw[h]))
def agb:NQ (lR n e c) (λy=>y=Wr c (Ŋ e)):=by
 unfold lR Ŋ;refine nJ (λv=>v=decide (e.an=10\/e.an=21)) (λv hv=>?_) λj hj=>cP (λh=>hj _ ?_) λh=>hj _ ?_
 ·subst hv;refine cP (λh=>iF (by rw[aL Bx,ajD])) λh=>?_;rw[aC qk];refine cP (λh=>?_) λh=>?_
  ·rw[aL jk];exact mQ JM
  rw[aC jk];refine nJ (λv=>v=decide (e.an=9\/e.an=11\/e.an=18\/e.an=19)) (λv hv=>?_) λj hj=>cP (λh=>hj _ ?_) λh1=>cP (λh=>hj _ ?_) λh2=>cP (λh=>hj _ ?_) λh3=>hj _ ?_
  ·subst hv;refine cP (λh=>?_) λh=>?_
   ·rw[aL Bx];exact mQ JM
   rw[aC qk];refine nJ (λv=>v=decide (e.an=12\/e.an=16\/e.an=20)) (λv hv=>?_) λj hj=>cP (λh=>hj _ ?_) λh1=>cP (λh=>hj _ ?_) λh2=>hj _ ?_
   ·subst hv;refine cP (λh=>?_) λh=>?_
    ·rw[aL Bx];exact mQ JM
    rw[aC qk];refine cP (λh=>?_) λh=>?_
    ·rw[aL jk];refine cP (λh=>?_) λh=>?_
     ·rw[h];exact mQ JM
     rw[h];exact mQ JM
    rw[aC jk];refine cP (λh=>?_) λh=>?_
    ·rw[aL jk];exact mQ JM
    rw[aC jk];refine cP (λh=>?_) λh=>?_
    ·rw[aL jk];exact mQ JM
    rw[aC jk];exact mQ JM
   all_goals (clear hj;simp_all;try rfl)
  all_goals (clear hj;simp_all;try rfl)
 all_goals (clear hj;simp_all;try rfl)
def agc (ht:∀ n,NQ (dT n e.bJ) λy=>y=bt):NQ (lS n e c) (λy=>y=Wr c (txB bt e)):=by
 unfold lS txB;have O:∀ {W:List ByS} {a:ByS},yx [32] (a.length+1) a=W->(W.any λx=>([]:ByS)==x)=false->NQ (ag (jZ n e.bJ a) λy9=>ag (aQ n [y9] c) λy10=>.ok (y10)) (λy=>y=Wr c (Ċ e.bJ W)):=λhW h0=>dV (af_ hW h0) λy hy=>mQ (hy▸JM);refine nJ (λv=>v=decide (e.an=10\/e.an=4\/e.an=11)) (λv hv=>?_) λj hj=>cP (λh=>hj _ ?_) λh1=>cP (λh=>hj _ ?_) λh2=>hj _ ?_
 ·subst hv;refine cP (λh=>iF (by rw[aL Bx,ajD])) λh=>?_;rw[aC qk];refine cP (λh=>?_) λh=>?_
  ·exact Ţ
  rw[aC jk];refine cP (λh=>?_) λh=>?_
  ·exact Ţ
  rw[aC jk];refine cP (λh=>?_) λh=>?_
  ·exact Ţ
  rw[aC jk];refine cP (λh=>?_) λh=>?_
  ·exact Ţ
  rw[aC jk];refine cP (λh=>?_) λh=>?_
  ·rw[aL jk];exact dV (ht n) λy hy=>mQ (hy▸JM)
  rw[aC jk];exact mQ JM
 all_goals (clear hj O;simp_all;try rfl)
def ajE (ht:∀ n,NQ (dT n e.bJ) λy=>y=bt):NQ (iZ n e c) (λy=>y=Wr c (bt&&rfB e)):=by
 unfold iZ rfB uD;refine dV (ht n) λy hy=>qJ ?_;subst hy;rw[JM];have fin:∀ {l:List Bool} {b:Bool},l.all id=b->NQ (ag (aQ n l (Wr c y)) λz=>.ok z) (λz=>z=Wr c (y&&b)):=λh=>(mQ h).mono λz hz=>by rw[hz,xj]
 refine cP (λh=>?_) λh=>?_
 ·rw[aL jk];exact dV (P:=λz=>z=(e.B==[]&&e.bE==[])) (iF rfl) λz hz=>fin (hz▸al3)
 rw[aC jk];refine cP (λh=>?_) λh=>?_
 ·rw[aL jk];exact fin al3
 rw[aC jk];refine nJ (λv=>v=Ċ e.B W10) (λv hv=>?_) λj hj=>cP (λh=>hj _ ?_) λh1=>cP (λh=>hj _ ?_) λh2=>cP (λh=>hj _ ?_) λh3=>hj _ ?_
 ·subst hv;refine cP (λh=>?_) λh=>?_
  ·rw[aL h];exact fin al3
  rw[aC (by rw[h];decide)];exact fin rfl
 all_goals (clear hj fin;simp only[Ċ,qT,List.any_nil];simp only[*,ll,Bool.or_false,Bool.true_or,Bool.or_true])
def ajF {q:cm} {b0 b1:Bool} (ht:∀ n,NQ (dT n e.bJ) λy=>y=bt) (h0:∀ n,NQ (dT n e.B) λy=>y=b0) (h1:∀ n,NQ (dT n e.bE) λy=>y=b1):NQ (mE n e q c) (λy=>y=Wr c (NL bt b0 b1 e q)):=by
 unfold mE NL jg;refine nJ (λv=>v=Wr c (decide (e.an>=1)&&decide (e.an<=22))) (λv hv=>?_) λj hj=>cP (λh=>qJ (hj _ (by rw[h,JM];rfl))) λh=>qJ (hj _ BV);subst hv;refine dV agb λv hv=>dV (agc ht) λw hw=>?_;subst hv hw;rw[xj,xj,<- xu (decide (e.an>=1)&&decide (e.an<=22)) (Ŋ e) (txB bt e)];generalize (((decide (e.an>=1)&&decide (e.an<=22))&&Ŋ e)&&txB bt e)=A;refine nJ (λv=>v=decide (e.an=13\/e.an=22)) (λv hv=>?_) λj hj=>cP (λh=>hj _ ?_) λh=>hj _ ?_
 ·subst hv;refine nJ (λv=>v=Wr c (A&&ZE e)) (λv hv=>?_) λj hj=>cP (λh=>dV Hi λy hy=>qJ (hj _ ?_)) λh=>zP λ_=>dV Hi λy hy=>qJ (hj _ ?_)
  ·subst hv;generalize (A&&ZE e)=A;refine nJ (λv=>e.an≠10/\v=Wr c (A&&WV e)) (λv hv=>?_) λj hj=>cP (λh=>?_) λh=>nJ (λv=>v=decide (e.an=2\/e.an=14)) (λv hv=>?_) λk hk=>cP (λh=>hk _ ?_) λh=>hk _ ?_
   ·obtain ⟨hk,rfl⟩:=hv;rw[aC hk];refine nJ (λv=>v=Wr c (A&&WV e&&Io e.an b0 b1 e.B e.bE 15)) (λv hv=>?_) λj hj=>cP (λh=>?_) λh=>?_
    ·subst hv;refine nJ (λv=>v=Wr c (A&&WV e&&Io e.an b0 b1 e.B e.bE 15&&((q.TF||e.an !=18)&&(q.El||e.an !=15)))) (λv hv=>?_) λj hj=>cP (λh=>cP (λh2=>qJ (hj _ ?_)) λh2=>qJ (hj _ ?_)) λh=>cP (λh2=>qJ (hj _ ?_)) λh2=>qJ (hj _ ?_)
     ·subst hv;unfold ŋ;have e3:∀ x,(A&&WV e&&Io e.an b0 b1 e.B e.bE 15&&((q.TF||e.an !=18)&&(q.El||e.an !=15))&&x)=(A&&((WV e&&Io e.an b0 b1 e.B e.bE 15)&&(((q.TF||e.an !=18)&&(q.El||e.an !=15))&&x))):=λx=>by simp only[xu]
      rw[<- e3];refine cP (λh=>cP (λh2=>?_) λh2=>?_) λh=>cP (λh2=>?_) λh2=>?_
      ·rw[h] at h2;cases h2
      ·rw[h];exact (mQ YQ).mono λz hz=>by rw[hz,xj];rfl
      ·rw[h];exact (mQ YQ).mono λz hz=>by rw[hz,xj];rfl
      rw[h] at h2;cases h2
     ·rw[xj,YQ,h,h2];rfl
     ·rw[xj,YQ,h,h2];rfl
     ·rw[xj,YQ,h,h2];rfl
     rw[xj,YQ,h,h2];rfl
    ·unfold qb;have h:e.an=15:=by simpa using h
     refine dV (P:=λy=>y=Io e.an b0 b1 e.B e.bE 15) ?_ λy hy=>qJ UQ;exact ahu
    have h:e.an≠15:=by simpa using h
    refine dV (P:=λy=>y=Io e.an b0 b1 e.B e.bE 15) (iF (by unfold Io;rw[aC h])) λy hy=>qJ UQ
   ·have h:e.an=10:=by simpa using h
    rw[aL h];exact dV (ajE ht) λy hy=>iF (by rw[hy,xj])
   ·have hk:e.an≠10:=by simpa using h
    subst hv;refine cP (λh=>cP (λh2=>qJ (hj _ ⟨hk,?_⟩)) λh2=>qJ (hj _ ⟨hk,?_⟩)) λh=>cP (λh3=>dV (P:=λy=>y=(decide (e.U>=-1000000000000000)&&decide (e.U<=1000000000000000))) ?_ λy hy=>qJ (hj _ ⟨hk,?_⟩)) λh3=>qJ (hj _ ⟨hk,?_⟩)
    ·rw[xj,JM];unfold WV;rw[aL Bx,h2];rfl
    ·rw[xj,JM];unfold WV;rw[aL Bx,h2];rfl
    ·unfold mc;exact cP (λh=>iF BV) λh=>iF BV
    ·rw[xj,YQ,hy];unfold WV;rw[aC qk,aL MP]
    rw[xj,JM];unfold WV;rw[aC qk,aC MP]
   all_goals (clear hj hk;simp_all;try rfl)
  ·rw[xj,YQ,hy];unfold ZE;rw[aL Bx]
  rw[xj,YQ,hy];unfold ZE;rw[aC qk]
 all_goals (clear hj;simp_all;try rfl)
end
end
def cnt (K:Int):Int×Int:=if K=9\/K=11\/K=18\/K=19 then (1,1) else if K=12\/K=16\/K=20 then (2,2) else if K=15 then (2,3) else if K=5 then (1,1000000) else if K=17 then (2,1000000) else if K=14 then (0,1000000) else if K=21 then (0,1000000) else (0,0)
def nuB (e:ak):Bool:=if e.an=2 then e.U==0||e.U==1 else if e.an=14 then e.U==0||(e.U==1&&decide ((e.bF.length:Int)>0)) else if e.an=3 then decide (e.U>=0)&&decide (e.U<=1000000000000000) else e.U==0
def abI {K:Int}:Ev (λ_=>x9 K) (λy=>y=cnt K) dt:=by
 unfold x9 cnt;refine bD (λv=>v=decide (K=9\/K=11\/K=18\/K=19)) (λv hv=>?_) λj hj=>ay (λh=>hj _ ?_) λh1=>ay (λh=>hj _ ?_) λh2=>ay (λh=>hj _ ?_) λh3=>hj _ ?_
 ·subst hv;refine ay (λh=>aj (by rw[aL Bx])) λh=>?_;rw[aC qk];refine bD (λv=>v=decide (K=12\/K=16\/K=20)) (λv hv=>?_) λj hj=>ay (λh=>hj _ ?_) λh1=>ay (λh=>hj _ ?_) λh2=>hj _ ?_
  ·subst hv;refine ay (λh=>aj (by rw[aL Bx])) λh=>?_;rw[aC qk];refine ay Ii λh=>?_;rw[aC jk];refine ay Ii λh=>?_;rw[aC jk];refine ay Ii λh=>?_;rw[aC jk];refine ay Ii λh=>?_;rw[aC jk];exact ay Ii λh=>aj Qv
  all_goals (clear hj;simp_all;try rfl)
 all_goals (clear hj;simp_all;try rfl)
def ċ:Ev (λ_=>wy e) (λy=>y=nuB e) dt:=by
 unfold wy nuB;refine ay (λh=>?_) λh=>?_
 ·exact acL
 rw[aC jk];refine ay (λh=>?_) λh=>?_
 ·rw[aL jk];exact ay (λh=>aj BV) λh=>ay (λh2=>aj (by rw[h,h2];rfl)) λh2=>aj (by rw[h,h2];rfl)
 rw[aC jk];refine ay (λh=>?_) λh=>aj Qv;exact acL
def ajH (hl:e.bF.length<=70000) (yM:e.an≠10) (h1:1<=e.an) (h2:e.an<=22):(Ŋ e&&WV e)=(!decide ((e.bF.length:Int)<(cnt e.an).1)&&(!decide ((e.bF.length:Int)>(cnt e.an).2)&&nuB e)):=by
 unfold Ŋ WV cnt nuB;generalize e.an=K at *;generalize e.U=N at *;generalize e.bF.length=L at *;by_cases S7:K=14
 ·subst S7;by_cases hz:N=0
  ·subst hz;rw[cV];simp[show Xx .i64 0 1=0 by decide];omega
  by_cases ho:N=1
  ·subst ho;rw[cV];simp[show Xx .i64 1 1=1 by decide];omega
  rw[cV];simp[hz,ho]
 have hk:K=1\/K=2\/K=3\/K=4\/K=5\/K=6\/K=7\/K=8\/K=9\/K=11\/K=12\/K=13\/K=15\/K=16\/K=17\/K=18\/K=19\/K=20\/K=21\/K=22:=by omega
 clear yM h1 h2 S7;rcases hk with rfl|rfl|rfl|rfl|rfl|rfl|rfl|rfl|rfl|rfl|rfl|rfl|rfl|rfl|rfl|rfl|rfl|rfl|rfl|rfl<;>rw[cV]<;>simp<;>omega
section
variable {m:Nat->Nat}
def ajI (hm:bN m) {bt:Bool} (ht:∀ m,bN m->Ev (λi=>fu (m i) e.bJ) (λy=>y=bt) dt):Ev (λi=>AI (m i) e) (λy=>y=(txB bt e&&(bt||e.an !=10))) dt:=by
 unfold AI txB;have I:∀ {l:List ByS},l.length<=70000->Ev (λi=>ag (wz (m i) e.bJ l) λy=>.ok y) (λy=>y=Ċ e.bJ l) dt:=λh=>(ajC hm h).gZ λy hy=>aj hy;have kn:∀ {k:Int},(e.an==k)=true->k≠10->(bt||e.an !=10)=true:=λh h2=>by
  have:e.an≠10:=λq=>h2 (by rw[cn] at h;omega);simp[this]
 refine bD (λv=>v=decide (e.an=4\/e.an=11)) (λv hv=>?_) λj hj=>ay (λh=>hj _ ?_) λh1=>hj _ ?_
 ·subst hv;refine ay (λh=>aj ?_) λh=>?_
  ·have h:=bg h;rw[aL (.inr h)];have:e.an≠10:=by omega
   simp[this]
  have h4:=aU h;by_cases yM:e.an=10
  ·rw[aL (.inl yM),yM];refine ay dC λ_=>ay dC λ_=>ay dC λ_=>ay dC λ_=>ay (λ_=>(ht m hm).gZ λy hy=>aj (by rw[hy];simp)) dC
  rw[aC aD];refine ay (λh=>?_) λh=>?_
  ·exact Ŝ
  rw[aC jk];refine ay (λh=>?_) λh=>?_
  ·exact Ŝ
  rw[aC jk];refine ay (λh=>?_) λh=>?_
  ·exact Ŝ
  rw[aC jk];refine ay (λh=>?_) λh=>?_
  ·exact Ŝ
  rw[aC jk];refine ay (λh=>aw jk yM) λ_=>ay (λh=>?_) λh=>aj ?_
  ·rw[aL jk,kn h dN,qQ];exact (ht m hm).gZ λy hy=>aj hy
  rw[aC jk];simp[yM]
 all_goals (clear hj;simp_all;try rfl)
def agd (hm:bN m):Ev (λi=>sV (m i) e) (λy=>y=rfB e) dt:=by
 unfold sV rfB;refine ay (λh=>?_) λh=>?_
 ·have h:e.B=[]:=by simpa using h
  rw[aL h,h];refine ay (λh2=>ay (λh3=>aj ?_) λh3=>aj ?_) λh2=>aj ?_
  ·rw[h2,h3];rfl
  ·rw[h2,h3];rfl
  rw[h2];rfl
 have uv:e.B≠[]:=by simpa using h
 rw[aC uv];refine bD (λv=>v=if e.B=aga then (1:Int) else 0) (λv hv=>(ajC hm dN).gZ λy hy=>?_) λj hj=>ay (λh=>hj _ (by rw[aL jk])) λh=>hj _ Qv;subst hy hv;have fin:∀ {k:Int} {R:Bool},R=((e.bF.length:Int)==k&&(e.bE==[]&&decide (e.U>=0)))->Ev (λ_=>br (e.bE==([]:ByS)) (br (decide (e.U>=0)) (.ok ((e.bF.length:Int)==k)) (.ok false)) (.ok false)) (λy=>y=R) dt:=λ{k R} hR=>by
  subst hR;refine ay (λh=>ay (λh2=>aj ?_) λh2=>aj ?_) λh=>aj ?_
  ·rw[h,h2];simp
  ·rw[h,h2];simp
  rw[h];simp
 by_cases hl:e.B=aga
 ·rw[aL hl,aL hl];exact ay (λ_=>fin rfl) λh=>by rw[hl] at h;exact JR
 rw[aC hl,aC hl];have e4:(List.any [([102,105,101,108,100]:ByS),[108,101,116],[108,111,111,112],[112,97,99,107,97,103,101],[117,110,107,110,111,119,110]] λx=>e.B==x)=Ċ e.B W10:=by
  simp only[Ċ,qT,List.any_nil];rw[beq_eq_false_iff_ne.2 (show e.B≠[108,101,116] from hl),ll]
 rw[e4];refine ay (λh=>?_) λh=>aj ?_
 ·rw[aL h];exact fin rfl
 rw[aC (by rw[h];decide)]
end
def age {q:cm}:ŋ 10 q=true:=by unfold ŋ;cases q.TF<;>cases q.El<;>cases q.xP<;>rfl
section
variable {m:Nat->Nat}
def Sw (hm:bN m) {n0 n1:ByS} (h0:∀ m,bN m->Ev (λi=>fu (m i) n0) (λy=>y=b0) dt) (h1:∀ m,bN m->Ev (λi=>fu (m i) n1) (λy=>y=b1) dt):Ev (λi=>vH (m i) (ma.mk n0 n1)) (λy=>y=(b0&&(b1&&(n0 !=n1)))) dt:=by
 unfold vH;refine (h0 m hm).gZ λy hy=>ay (λh=>(h1 m hm).gZ λz hz=>ay (λh2=>aj ?_) λh2=>aj ?_) λh=>aj ?_
 ·rw[<- hy,h,<- hz,h2];rfl
 ·rw[<- hy,h,<- hz,h2];rfl
 rw[<- hy,h];rfl
def Č (hm:bN m) (he:ij e) (ht:∀ m,bN m->Ev (λi=>fu (m i) e.bJ) (λy=>y=bt) dt) (h0:∀ m,bN m->Ev (λi=>fu (m i) e.B) (λy=>y=b0) dt) (h1:∀ m,bN m->Ev (λi=>fu (m i) e.bE) (λy=>y=b1) dt) :
  Ev (λi=>wA (m i) e) (λy=>∀ q,NL bt b0 b1 e q=(y&&ŋ e.an q)) dt:=by
 have l1:=he.l1
 have l2:=he.l2
 have l3:=he.l3
 unfold wA
 refine aS (λh=>aj λq=>?_) λg1=>aS (λh=>aj λq=>?_) λg2=>(ajI hm ht).gZ λy hy=>df (λh=>aj λq=>?_) λg3=>(Hj hm l3 he.l4).gZ λz hz=>ay (λh=>aj λq=>?_) λg4=>?_
 ·unfold NL;rw[bA (show ¬ e.an>=1 by omega)];rfl
 ·unfold NL;rw[bA (show ¬ e.an<=22 by omega),qg];rfl
 ·rw[hy] at h
  unfold NL
  cases ht:txB bt e with
  | false=>simp
  | true=>
   rw[ht] at h
   have:bt=false/\e.an=10:=by simpa using h
   rw[this.1,aL this.2];simp
 ·rw[hz] at h
  unfold NL ZE
  rw[h];simp
 rw[hy] at g3
 rw[hz] at g4
 have g3':txB bt e=true/\(bt=true\/e.an≠10):=by simpa using g3
 have ow:∀ q,ZE e=true->NL bt b0 b1 e q=(Ŋ e&&(if e.an=10 then bt&&rfB e else (WV e&&Io e.an b0 b1 e.B e.bE 15)&&ŋ e.an q)):=λq hd=>by
  unfold NL
  rw[aV (show e.an>=1 by omega),aV (show e.an<=22 by omega),g3'.1,hd];simp
 refine bD (λv=>v=decide (e.an=13\/e.an=22)) (λv hv=>?_) λj hj=>ay (λh=>hj _ ?_) λh=>hj _ ?_
 ·subst hv
  refine bD (λ_=>ZE e=true) (λ_ hd=>?_) λj hj=>df (λh=>aS (λh2=>aj λq=>?_) λh2=>aS (λh3=>aj λq=>?_) λh3=>hj _ ?_) λh=>hj _ ?_
  ·refine ay (λh=>(agd hm).gZ λy hy=>aj λq=>?_) λh=>?_
   ·have h:e.an=10:=by simpa using h
    rw[ow q hd,aL h,hy,h,age,qQ,g3'.2.resolve_right (λw=>w h)]
    unfold Ŋ;rw[aL (.inl h)];simp
   have yM:e.an≠10:=by simpa using h
   have sn:=ajH l1 yM aD aD
   have ow2:∀ q,NL bt b0 b1 e q=((Ŋ e&&WV e)&&Io e.an b0 b1 e.B e.bE 15&&ŋ e.an q):=λq=>by
    rw[ow q hd,aC yM]
    simp only[xu]
   refine ai abI λc hc=>?_
   subst hc
   refine ay (λh=>aj λq=>?_) λh=>ay (λh2=>aj λq=>?_) λh2=>ċ.gZ λy hy=>df (λh3=>aj λq=>?_) λh3=>?_
   ·rw[ow2,sn,h];rfl
   ·rw[ow2,sn,h2];simp
   ·rw[ow2,sn,<- hy,h3];simp
   rw[h,h2,<- hy,h3] at sn
   have ow3:∀ q,NL bt b0 b1 e q=(Io e.an b0 b1 e.B e.bE 15&&ŋ e.an q):=λq=>by rw[ow2,sn];rfl
   unfold Io at ow3
   refine ay (λh=>(Sw hm h0 h1).gZ λz hz=>aj λq=>?_) λh=>ay (λh4=>aj λq=>?_) λh4=>aj λq=>?_
   ·rw[ow3,aL jk,hz]
   ·rw[ow3,aC jk,h4,pa]
   ·rw[ow3,aC jk,h4,xv]
  ·exact ahO
  ·exact ahO
  ·unfold ZE;rw[aC qk,cn.2 (show (e.fS.length:Int)+(e.J.length:Int)=0 by omega),g4];rfl
  ·unfold ZE;rw[aL Bx,g4];rfl
 all_goals (clear hj;simp_all;try rfl)
end
def ajJ (s:ByS):∃ b:Bool,(∀ n,NQ (oG n s) λy=>(y.2.dX==0)=b)/\∀ m,bN m->Ev (λi=>la (m i) s) (λz=>(z.2.dX==0)=b) dt:=by
 obtain ⟨y,_,N,hN⟩:=(wJ (s:=s) mf).get;have hy:=hN N JN;have e:∀ {a b:Int},(a=0↔b=0)->(a==0)=(b==0):=λh=>by rw[cV,cn,cn];exact h
 refine ⟨y.2.dX==0,λn=>⟨λp hp=>?_,λw hw=>?_⟩,λm hm=>((Sv (n:=N) hm).1 y hy).oB λz hz=>e hz⟩
 ·exact ((Sv (n:=n) mf).2 p hp).get.elim λ_ h=>h.1
 obtain ⟨z,⟨h1,h2⟩,_⟩:=(((Sv (n:=N) mf).1 y hy).both ((Sv (n:=n) mf).1 w hw)).get;exact e (h2.symm.trans h1)
def WW (d:aK):Bool:=if d.an=1 then decide (d.cS>=1)&&decide (d.cS<=3) else d.cS==0
def WY (rb ib:Bool) (d:aK) (p:Bool):Bool:=if d.an=1 then true else if d.an=2 then rb else if d.an=4 then p&&ib else d.jb==[]&&(p||d.an !=8)
def WZ (d:aK):Bool:=!ĉ d.oO&&(!ĉ d.J&&(!ĉ [d.iG]&&(if d.an=5\/d.an=6 then true else (d.jf.length:Int)+(d.J.length:Int)==0)))
def Ym (K:Int):Int:=if K=7 then 2 else if K=8 then 0 else 1
def LM (rb ib b0 b1:Bool) (d:aK) (p:Bool):Bool:=(decide (d.an>=1)&&decide (d.an<=8))&&WZ d&&WW d&&WY rb ib d p&&Io d.an b0 b1 d.B d.bE 6&&(d.bF.length:Int)==Ym d.an
def Sx (K:Int) (p:Bool):Bool:=p||(K !=4&&K !=8)
section
variable {m:Nat->Nat} {rb ib:Bool}
def abJ (hm:bN m) (hd:g d) (hr:∀ m,bN m->Ev (λi=>la (m i) d.jb) (λz=>(z.2.dX==0)=rb) dt) (hi:∀ m,bN m->Ev (λi=>fu (m i) d.jb) (λy=>y=ib) dt) (h0:∀ m,bN m->Ev (λi=>fu (m i) d.B) (λy=>y=b0) dt) (h1:∀ m,bN m->Ev (λi=>fu (m i) d.bE) (λy=>y=b1) dt) :
  Ev (λi=>vJ (m i) d) (λy=>∀ p,LM rb ib b0 b1 d p=(y&&Sx d.an p)) dt:=by
 unfold vJ
 refine aS (λh=>aj λq=>?_) λg1=>aS (λh=>aj λq=>?_) λg2=>(Hj hm hd.l5 hd.l6).gZ λy1 P3=>ay (λh=>aj λq=>?_) λg3=>(Hj hm (by show 1<=70000;decide) (by simpa using hd.l7)).gZ λy2 KV=>ay (λh=>aj λq=>?_) λg4=>(Hj hm hd.l3 hd.l4).gZ λy3 hy3=>ay (λh=>aj λq=>?_) λg5=>?_
 ·unfold LM;rw[bA (show ¬ d.an>=1 by omega)];rfl
 ·unfold LM;rw[bA (show ¬ d.an<=8 by omega),qg];rfl
 ·unfold LM WZ;rw[<- P3,h];simp
 ·unfold LM WZ;rw[<- KV,h];simp
 ·unfold LM WZ;rw[<- hy3,h];simp
 have ok:(decide (d.an>=1)&&decide (d.an<=8))=true:=by rw[aV (show d.an>=1 by omega),aV (show d.an<=8 by omega)];rfl
 have li:WZ d=if d.an=5\/d.an=6 then true else (d.jf.length:Int)+(d.J.length:Int)==0:=by unfold WZ;rw[<- P3,<- KV,<- hy3,g3,g4,g5];rfl
 refine bD (λv=>v=if d.an=7 then (2:Int) else 1) (λv hv=>?_) λj hj=>ay (λh=>hj _ (by rw[aL jk])) λh=>hj _ Qv
 refine bD (λw=>w=Ym d.an) (λw hw=>?_) λj hj=>ay (λh=>hj _ ?_) λh=>hj _ ?_
 rotate_left
 ·have h:d.an=8:=by simpa using h
  unfold Ym;rw[aC aD,aL h]
 ·have h:d.an≠8:=by simpa using h
  unfold Ym;rw[hv]
  by_cases h7:d.an=7
  ·rw[aL h7,aL h7]
  ·rw[aC h7,aC h7,aC h]
 subst hw
 refine bD (λ_=>WW d=true/\(d.bF.length:Int)==Ym d.an) (λ_ hp=>?_) λj hj=>ay (λh=>aj λq=>?_) λh=>?_
 rotate_left
 ·unfold LM
  rw[show ((d.bF.length:Int)==Ym d.an)=false by simpa using h];simp
 ·have hn:((d.bF.length:Int)==Ym d.an)=true:=by simpa using h
  have bad:WW d=false->∀ q,LM rb ib b0 b1 d q=(false&&Sx d.an q):=λh q=>by unfold LM;rw[h];simp
  refine ay (λh=>aS (λh2=>aj (bad ?_)) λh2=>aS (λh3=>aj (bad ?_)) λh3=>ay (λh4=>?_) λ_=>hj _ ⟨?_,hn⟩) λh=>ay (λ_=>ay (λh2=>aj (bad ?_)) λh2=>hj _ ⟨?_,hn⟩) λh4=>?_
  ·unfold WW;rw[aL jk,bA aD];rfl
  ·unfold WW;rw[aL jk,bA (show ¬ d.cS<=3 by omega),qg]
  ·have:d.an=1:=by simpa using h
   rw[this] at h4;cases h4
  ·unfold WW;rw[aL jk,aV (show d.cS>=1 by omega),aV (show d.cS<=3 by omega)];rfl
  ·unfold WW;rw[aC jk];simpa using h2
  ·unfold WW;rw[aC jk];simpa using h2
  ·have:d.an≠1:=by simpa using h
   have h4:d.an=1:=by simpa using h4
   exact aw h4 this
 obtain ⟨hp,hn⟩:=hp
 refine bD (λ_=>WZ d=true) (λ_ hl=>?_) λj hj=>?_
 rotate_left
 ·rw[li] at hj
  have bad:WZ d=false->∀ q,LM rb ib b0 b1 d q=(false&&Sx d.an q):=λh q=>by unfold LM;rw[h];simp
  rw[li] at bad
  refine ay (λh5=>ay (λh6=>aS (λh=>aj (bad ?_)) λh=>aS (λh2=>aj (bad ?_)) λh2=>hj _ ?_) λh6=>hj _ ?_) λh5=>hj _ ?_
  ·exact adZ
  ·exact adZ
  ·exact adZ
  ·rw[aL (.inr (by simpa using h6))]
  ·rw[aL (.inl MQ)]
 have dw:∀ q,LM rb ib b0 b1 d q=(WY rb ib d q&&Io d.an b0 b1 d.B d.bE 6):=λq=>by
  unfold LM;rw[ok,hl,hp,hn];simp
 refine bD (λ_=>Io d.an b0 b1 d.B d.bE 6=true) (λ_ hna=>?_) λj hj=>?_
 ·have fin:∀ {y:Bool},(∀ q,WY rb ib d q=(y&&Sx d.an q))->∀ q,LM rb ib b0 b1 d q=(y&&Sx d.an q):=λh q=>by rw[dw,hna,h];simp
  refine ay (λh=>aj (fin λq=>?_)) λh1=>ay (λh=>(hr m hm).gZ λz hz=>aj (fin λq=>?_)) λh2=>ay (λh=>(hi m hm).gZ λz hz=>aj (fin λq=>?_)) λh4=>aj (fin λq=>?_)
  ·unfold WY Sx;rw[aL jk,show d.an=1 by simpa using h];cases q<;>rfl
  ·unfold WY Sx;rw[aC Fz,aL jk,hz,show d.an=2 by simpa using h];cases q<;>simp
  ·unfold WY Sx;rw[aC Fz,aC wZ,aL jk,hz,show d.an=4 by simpa using h];cases q<;>simp
  ·have k4:(d.an !=4)=true:=by simpa using h4
   unfold WY Sx;rw[aC Fz,aC wZ,aC (by simpa using h4),k4];rfl
 ·have bad:Io d.an b0 b1 d.B d.bE 6=false->∀ q,LM rb ib b0 b1 d q=(false&&Sx d.an q):=λh q=>by rw[dw,h];simp
  have tail:d.an≠6->Ev (λi=>br (d.B !=([]:ByS)) (.ok (false)) (br (d.bE !=([]:ByS)) (.ok (false)) (j i ()))) (λy=>∀ p,LM rb ib b0 b1 d p=(y&&Sx d.an p)) dt:=λhk=>by
   refine ay (λh=>aj (bad ?_)) λh=>ay (λh2=>aj (bad ?_)) λh2=>hj _ ?_
   ·unfold Io;rw[aC hk,show (d.B==[])=false by simpa using h];rfl
   ·unfold Io;rw[aC hk,show (d.bE==[])=false by simpa using h2,qg]
   ·unfold Io;rw[aC hk,show (d.B==[])=true by simpa using h,show (d.bE==[])=true by simpa using h2];rfl
  refine ay (λh=>(Sw hm h0 h1).gZ λz hz=>df (λh2=>aj (bad ?_)) λh2=>ay (λh3=>?_) λ_=>hj _ ?_) λh=>ay (λ_=>tail jk) λh3=>?_
  ·unfold Io;rw[aL jk,<- hz,h2]
  ·rw[show d.an=6 by simpa using h] at h3;cases h3
  ·unfold Io;rw[aL jk,<- hz,h2]
  ·have:d.an≠6:=by simpa using h
   have h3:d.an=6:=by simpa using h3
   exact aw h3 this
end
section
def pick {β:Type} [Inhabited β] {l:List α} {P:Nat->α->β->Prop} (h:∀ i x,l[i]?=some x->∃ y,P i x y):∃ f:Nat->β,∀ i x,l[i]?=some x->P i x (f i):=by
 refine Classical.axiomOfChoice (r:=λi y=>∀ x,l[i]?=some x->P i x y) λi=>?_;cases e:l[i]? with
 | none=>exact ⟨default,λx hx=>by cases hx⟩
 | some x=>
  obtain ⟨y,hy⟩:=h i x e
  exact ⟨y,λx' hx=>by cases hx;exact hy⟩
def wO:Nat->(ak->Prop)×(aK->Prop)
 | 0=>(λ_=>False,λ_=>False)
 | K+1=>(λe=>(∀ x,x∈e.bF->(wO K).1 x)/\∀ d,d∈e.fS->(wO K).2 d,λd=>(∀ x,x∈d.bF->(wO K).1 x)/\∀ b,b∈d.jf->(wO K).2 b)
def mx (f:Nat->Int) (a:Int):Nat->Int
 | 0=>a
 | v+1=>if f v>mx f a v then f v else mx f a v
variable {f:Nat->Int} {v:Nat}
def LU:mx f a (v+1)=if f v>mx f a v then f v else mx f a v:=rfl
def č {f:Nat->Int} {a:Int} (h:0<=a):∀ {v:Nat},0<=mx f 0 v/\mx f a v=if a>mx f 0 v then a else mx f 0 v
 | 0=>⟨Int.le_refl 0,by
  show a=if a>0 then a else 0
  rcases Int.lt_or_le 0 a with q|q
  ·rw[if_pos q]
  rw[if_neg (by omega)];omega⟩
 | v+1=>by
  have ih:=@č f a h v;rw[LU,LU];refine ⟨by split<;>omega,?_⟩;rw[ih.2];repeat' split
  all_goals omega
def xJ (Z:Nat->Bool):Nat->Bool
 | 0=>true
 | v+1=>xJ Z v&&Z v
def Jt {Z:Nat->Bool} (h:Z v=false):∀ {w:Nat},v<w->xJ Z w=false
 | w+1,hw=>by
  show (xJ Z w&&Z w)=false;by_cases q:v=w
  ·rw[<- q,h,qg]
  rw[Jt h aD,xv]
def Fl (c:V) (z:Bool) (lv k:Int):V:=⟨c.uf||!z,c.deep||decide (lv+k>17)⟩
def VEx (K:Nat) (e:ak):Prop:=∃ k:Int,1<=k/\k<=K/\(∀ m,bN m->Ev (λi=>jv (m i) e) (λy=>y=k) dt)/\∀ cj io il,∃ z:Bool,(∀ m,bN m->Ev (λi=>mG (m i) e cj io il) (λy=>y=z) dt)/\
 ∀ (n:Nat) (lv:Int) c,0<=lv->lv+K<=4000000000000000000->NQ (bS n e ⟨cj,io,il,lv⟩ c) (λy=>y=Fl c z lv k)
def VLs (K:Nat) (l:List aK):Prop:=∃ k:Int,0<=k/\k<=K/\(∀ m,bN m->Ev (λi=>rR (m i) l) (λy=>y=k) dt)/\∀ p,∃ z:Bool,(∀ m,bN m->Ev (λi=>mX (m i) l p) (λy=>y=z) dt)/\
 ∀ (n:Nat) (lv:Int) c,0<=lv->lv+K<=4000000000000000000->NQ (fq n l p lv c) (λy=>y=⟨c.uf||!z,c.deep||decide (0<k/\lv+k>17)⟩)
def Yn (K:Int) (cj:Bool):Bool:=if K=16/\cj=true then true else K==10
def YR (e:ak) (v:Int):Bool:=if e.an=14 then (e.U==0||decide (v+1<(e.bF.length:Int))) else false
variable {K:Int} {cj:Bool} {Q:α->Prop}
def ajK {y ow io il:Bool} (h:ow=(y&&ŋ K ⟨cj,io,il,0⟩)) {j:Nat->Bool->aG α} (t:∀ b,b = !ow->Ev (λi=>j i b) Q dt) :
  Ev (λi=>br (!y) (j i true) (br (K==18) (br (!io) (j i true) (br (K==15) (br (!il) (j i true) (br (K==13) (br (!cj) (j i true) (br (K==22) (j i cj) (j i false))) (br (K==22) (j i cj) (j i false)))) (br (K==13) (br (!cj) (j i true) (br (K==22) (j i cj) (j i false))) (br (K==22) (j i cj) (j i false))))) (br (K==15) (br (!il) (j i true) (br (K==13) (br (!cj) (j i true) (br (K==22) (j i cj) (j i false))) (br (K==22) (j i cj) (j i false)))) (br (K==13) (br (!cj) (j i true) (br (K==22) (j i cj) (j i false))) (br (K==22) (j i cj) (j i false)))))) Q dt:=by
 unfold ŋ at h
 dsimp only at h
 subst h
 unfold bne at t
 cases y with
 | false=>exact ba (t _ rfl)
 | true=>
  refine aH ?_
  generalize e18:(K==18)=k18 at *
  generalize e15:(K==15)=k15 at *
  generalize e13:(K==13)=k13 at *
  generalize e22:(K==22)=k22 at *
  have d1:(k13&&k22)=false:=by rw[<- e13,<- e22];by_cases q:K=13<;>simp[q]
  cases k18<;>cases k15<;>cases k13<;>cases k22<;>first|(cases d1;done)|(cases io<;>cases il<;>cases cj<;>exact t _ rfl)
def agf {e:ak} {v:Int} {f:Bool->Bool->aG α} (hK:e.an=K) (t:∀ a b,a=Yn K cj->b=YR e v->NQ (f a b) Q) :
  NQ (br (K==16) (br cj (br (K==14) (br (e.U==0) (f true true) (gd (cD (v+1)) (f true (decide (v+1<(e.bF.length:Int)))))) (f true false)) (br (K==14) (br (e.U==0) (f (K==10) true) (gd (cD (v+1)) (f (K==10) (decide (v+1<(e.bF.length:Int)))))) (f (K==10) false))) (br (K==14) (br (e.U==0) (f (K==10) true) (gd (cD (v+1)) (f (K==10) (decide (v+1<(e.bF.length:Int)))))) (f (K==10) false))) Q:=by
 have il:∀ {a:Bool},a=Yn K cj->NQ (br (K==14) (br (e.U==0) (f a true) (gd (cD (v+1)) (f a (decide (v+1<(e.bF.length:Int)))))) (f a false)) Q:=λha=>by
  refine cP (λh=>cP (λh2=>t _ _ ha ?_) λh2=>zP λ_=>t _ _ ha ?_) λh=>t _ _ ha ?_
  ·unfold YR;rw[hK,aL jk,h2];rfl
  ·unfold YR;rw[hK,aL jk,h2];rfl
  ·unfold YR;rw[hK,aC jk]
 refine cP (λh=>cP (λh2=>il ?_) λh2=>il ?_) λh=>il ?_
 ·unfold Yn;rw[aL ⟨jk,h2⟩]
 ·unfold Yn;rw[aC (λq=>by rw[q.2] at h2;cases h2)]
 ·unfold Yn;rw[aC (λq=>by rw[q.1] at h;cases h)]
section
variable {K:Nat}
def Ď (he:ij e) (hK:K<=2000000000000000000) (hs:∀ x,x∈e.bF->VEx K x) (hd:VLs K e.fS):VEx (K+1) e:=by
 obtain ⟨kd,kd0,kd1,kdr,hdz⟩:=hd;obtain ⟨D,hD⟩:=pick (l:=e.bF) (P:=λ_ x (k:Int)=>1<=k/\k<=K/\(∀ m,bN m->Ev (λi=>jv (m i) x) (λy=>y=k) dt)/\∀ cj io il,∃ z:Bool,(∀ m,bN m->Ev (λi=>mG (m i) x cj io il) (λy=>y=z) dt)/\∀ (n:Nat) (lv:Int) c,0<=lv->lv+K<=4000000000000000000->NQ (bS n x ⟨cj,io,il,lv⟩ c) (λy=>y=Fl c z lv k)) λi x hx=>hs x (aP hx);have l1:=he.l1;have mb:∀ {a:Int} {v:Nat},0<=a->a<=K->v<=e.bF.length->mx D a v<=K:=λ{a v} h0 h1=>by
  induction v with
  | zero=>exact λ_=>h1
  | succ v ih=>
   intro hv
   have:=ih aD
   have:=(hD v _ (aA (show v<e.bF.length by omega))).2.1
   rw[LU];split<;>omega
 have m0:∀ {v:Nat},0<=mx D 0 v:=(č (f:=D) E6).1;have mk:=č (f:=D) kd0 (v:=e.bF.length);have mkb:=mb kd0 kd1 BU;refine ⟨mx D kd e.bF.length+1,by have:=mk.1;rw[mk.2];split<;>omega,aD,λm hm=>?_,λcj io il=>?_⟩
 ·refine bV (F:=λn=>jv n e) hm λm hm=>?_;show Ev (λi=>sq (m i) (my (m i)) e) _ _;unfold sq;refine (kdr m hm).gZ λy hy=>?_;have hy:y=kd:=hy;subst hy;refine bR hm (λw:Int×Int=>0<=w.2/\w.2<=e.bF.length/\w.1=mx D y w.2.toNat) (λw=>(e.bF.length - w.2).toNat) ⟨eL 0,eZ,rfl⟩ ?_;rintro ⟨a,v⟩ ⟨v0,v1,v2⟩ next hn;dsimp only at v0 v1 v2 hn ⊢;refine aS (λh=>gL v0 h λx hx=>((hD _ x hx).2.2.1 m hm).gZ λz hz=>aF (hn _ ⟨eZ,eZ,?_⟩ eZ)) λh=>?_
  ·have hz:z=D v.toNat:=hz;dsimp only;rw[show (v+1).toNat=v.toNat+1 by omega,LU,<- v2,<- hz]
  have:v.toNat=e.bF.length:=by omega
  rw[v2,this];exact dB (by unfold cD;have:=mk.1;have:=mk.2;omega) uY
 obtain ⟨bt,tl,tr⟩:=NB e.bJ;obtain ⟨b0,l0,r0⟩:=NB e.B;obtain ⟨b1,l1',r1⟩:=NB e.bE;obtain ⟨zd,zdr,zdl⟩:=hdz (e.an==13);obtain ⟨Z,hZ⟩:=pick (l:=e.bF) (P:=λu x (z:Bool)=>(∀ m,bN m->Ev (λi=>mG (m i) x (Yn e.an cj) (e.an==17) (YR e u)) (λy=>y=z) dt)/\∀ (n:Nat) (lv:Int) c,0<=lv->lv+K<=4000000000000000000->NQ (bS n x ⟨Yn e.an cj,e.an==17,YR e u,lv⟩ c) (λy=>y=Fl c z lv (D u))) λi x hx=>(hD i x hx).2.2.2 (Yn e.an cj) (e.an==17) (YR e i);refine ⟨NL bt b0 b1 e ⟨cj,io,il,0⟩&&(xJ Z e.bF.length&&zd),λm hm=>?_,λn lv c h0 h1=>?_⟩
 ·refine bV (F:=λn=>mG n e cj io il) hm λm hm=>?_;show Ev (λi=>wC (m i) (ju (m i)) e cj io il) _ _;unfold wC;refine bD (λv=>v = !NL bt b0 b1 e ⟨cj,io,il,0⟩) (λv hv=>?_) λj hj=>(Č hm he tr r0 r1).gZ λy hy=>?_
  ·subst hv;refine ay (λh=>aj (by rw[show NL bt b0 b1 e ⟨cj,io,il,0⟩=false by simpa using h];rfl)) λh=>?_;rw[show NL bt b0 b1 e ⟨cj,io,il,0⟩=true by simpa using h,pa];refine bR hm (λv:Int=>0<=v/\v<=e.bF.length/\xJ Z v.toNat=true) (λv=>(e.bF.length - v).toNat) MM ?_;rintro v ⟨v0,v1,v2⟩ next hn;refine aS (λh=>gL v0 h λx hx=>?_) λh=>?_
   ·refine bD (λw=>w=Yn e.an cj) (λw hw=>?_) λj hj=>ay (λh=>ay (λh2=>hj _ ?_) λh2=>hj _ ?_) λh=>hj _ ?_
    ·subst hw;refine bD (λw=>w=YR e v) (λw hw=>?_) λj hj=>ay (λh=>ay (λh2=>hj _ ?_) λh2=>aF (hj _ ?_)) λh=>hj _ ?_
     ·subst hw;have q:=(hZ _ x hx).1 m hm;rw[show ((v.toNat:Nat):Int)=v by omega] at q;refine q.gZ λy hy=>?_;have hy:y=Z v.toNat:=hy;refine df (λh=>aj ?_) λh=>aF (hn _ ⟨aD,aD,?_⟩ aD)
      ·rw[Jt (by rw[<- hy];exact h) (show v.toNat<e.bF.length by omega)];rfl
      exact acJ
     ·unfold YR;rw[aL jk,h2];rfl
     ·unfold YR;rw[aL jk,h2];rfl
     unfold YR;rw[aC jk]
    ·unfold Yn;rw[aL ⟨jk,h2⟩]
    ·unfold Yn;rw[aC (λq=>by rw[q.2] at h2;cases h2)]
    unfold Yn;rw[aC (λq=>by rw[q.1] at h;cases h)]
   rw[show e.bF.length=v.toNat by omega,v2];exact (zdr m hm).gZ λy hy=>aj (by rw[hy];rfl)
  exact ajK (hy ⟨cj,io,il,0⟩) λb hb=>hj b hb
 cases n with
 | zero=>exact ym
 | succ n=>
 show NQ (kq n (cI n) e ⟨cj,io,il,lv⟩ c) _;unfold kq;refine nJ (λv=>v=⟨c.uf,c.deep||decide (lv>16)⟩) (λv hv=>?_) λj hj=>cP (λh=>hj _ (by rw[h];simp)) λh=>hj _ (by rw[h];simp);subst hv;refine dV (ajF tl l0 l1') λw hw=>?_;have ew:NL bt b0 b1 e ⟨cj,io,il,lv⟩=NL bt b0 b1 e ⟨cj,io,il,0⟩:=rfl;rw[ew] at hw;subst hw;generalize NL bt b0 b1 e ⟨cj,io,il,0⟩=ow;refine NQ.iter (λs:V×Int=>0<=s.2/\s.2<=e.bF.length/\s.1=⟨c.uf||!(ow&&xJ Z s.2.toNat),c.deep||decide (lv+1+mx D 0 s.2.toNat>17)⟩) ?_ n ⟨eL 0,eZ,?_⟩
 rotate_left
 ·exact acM
 rintro ⟨s,v⟩ ⟨v0,v1,v2⟩ next hn;dsimp only at v0 v1 v2 ⊢;have wl:IntKind.wrap .i64 (lv+1)=lv+1:=wrap_i64 aD aD;rw[wl];refine cP (λh=>?_) λh=>?_
 ·have h:=bg h;refine nJ (λw=>w=Fl s (Z v.toNat) (lv+1) (D v.toNat)) (λw hw=>zP λ_=>hn _ ⟨eZ,eZ,?_⟩) λj hj=>NQ.el λx _ hx=>?_
  ·rw[hw,v2];exact ahl
  have lf:∀ {a b:Bool},a=Yn e.an cj->b=YR e v->NQ (ag ((cI n).bS x (cm.mk a (e.an==17) b (lv+1)) s) λy=>j y) (λy=>y=Fl c (ow&&(xJ Z e.bF.length&&zd)) lv (mx D kd e.bF.length+1)):=λha hb=>by
   subst ha hb;have q:=(hZ _ x hx).2 n (lv+1) s aD aD;rw[show ((v.toNat:Nat):Int)=v by omega] at q;exact dV q λy hy=>hj _ hy
  exact agf (f:=λa b=>ag ((cI n).bS x (cm.mk a (e.an==17) b (lv+1)) s) λy=>j y) rfl λa b=>lf
 have h:=aU h;have ev:v.toNat=e.bF.length:=by omega
 rw[ev] at v2;refine dV (zdl n (lv+1) s aD aD) λy hy=>iF ?_;rw[hy,v2];unfold Fl;dsimp only;congr 1
 ·cases c.uf<;>cases ow<;>cases xJ Z e.bF.length<;>cases zd<;>rfl
 exact acI
end
end
def itm (n:Nat) (T:ph) (p1:Bool) (ď:aK) (k:aG Bool):aG Bool:=
 jn (λ(v16:Unit)=>jn (λ(v19:Bool)=>iter (λnext24 (v23:Int)=>br (decide (v23<(List.length ď.bF:Int))) (el ď.bF v23 λMg=>ag (T.mG Mg v19 false false) λy36=>br (!y36) (.ok (false)) (gd (cD (v23+1)) (next24 (v23+1)))) k) n (0)) λj20=>br p1 (br (ď.an==1) (j20 (true)) (br (ď.an==2) (j20 (true)) (br (ď.an==3) (j20 (true)) (j20 ((ď.an==4)))))) (j20 (false))) λj17=>ag (vJ n ď) λy46=>br (!y46) (.ok (false)) (br (!p1) (br (ď.an==4) (.ok (false)) (br (ď.an==8) (.ok (false)) (ag (T.mX ď.jf false) λy54=>br (!y54) (.ok (false)) (j17 ())))) (ag (T.mX ď.jf false) λy57=>br (!y57) (.ok (false)) (j17 ())))
def Ō (K:Int):Bool:=decide (K=1\/K=2\/K=3\/K=4)
section
variable {K:Nat}
def abK {n:Nat} {p rb ib b0 b1:Bool} {c:V} {Q:V->Prop} {T:fV} {lv:Int} (hr:∀ n,NQ (oG n d.jb) λy=>(y.2.dX==0)=rb) (hi:∀ n,NQ (dT n d.jb) λy=>y=ib) (h0:∀ n,NQ (dT n d.B) λy=>y=b0) (h1:∀ n,NQ (dT n d.bE) λy=>y=b1)
  (hk:NQ (jn (λ(v29:Bool)=>iter (λUp (Yo:V×Int)=>br (decide (Yo.2<(List.length d.bF:Int))) (el d.bF Yo.2 λx42=>br p (br v29 (ag (T.bS x42 (cm.mk (Yo.2==0) false false (IntKind.wrap .i64 (lv+1))) Yo.1) λy48=>gd (cD (Yo.2+1)) (Up (y48,Yo.2+1))) (ag (T.bS x42 (cm.mk false false false (IntKind.wrap .i64 (lv+1))) Yo.1) λy50=>gd (cD (Yo.2+1)) (Up (y50,Yo.2+1)))) (ag (T.bS x42 (cm.mk false false false (IntKind.wrap .i64 (lv+1))) Yo.1) λy52=>gd (cD (Yo.2+1)) (Up (y52,Yo.2+1)))) (ag (T.fq d.jf false (IntKind.wrap .i64 (lv+1)) Yo.1) λy54=>.ok (y54))) n (Wr ⟨c.uf,c.deep||decide (lv>16)⟩ (LM rb ib b0 b1 d p),0)) λj30=>br (d.an==1) (j30 (true)) (br (d.an==2) (j30 (true)) (br (d.an==3) (j30 (true)) (j30 ((d.an==4)))))) Q):NQ (je n T d p lv c) Q:=by
 unfold je uD
 refine nJ (λv=>v=⟨c.uf,c.deep||decide (lv>16)⟩) (λv hv=>?_) λj hj=>cP (λh=>hj _ (by rw[h];simp)) λh=>hj _ (by rw[h];simp)
 subst hv
 generalize (V.mk c.uf (c.deep||decide (lv>16)))=c at hk ⊢
 unfold LM at hk
 refine nJ (λv=>v=decide (d.an=5\/d.an=6)) (λv hv=>?_) λj hj=>cP (λh=>hj _ ?_) λh=>hj _ ?_
 ·subst hv
  refine nJ (λv=>v=Wr c (decide (d.an>=1)&&decide (d.an<=8))) (λv hv=>?_) λj hj=>cP (λh=>qJ (hj _ (by rw[h,JM];rfl))) λh=>qJ (hj _ BV)
  subst hv
  generalize (decide (d.an>=1)&&decide (d.an<=8))=A at hk ⊢
  refine nJ (λv=>v=Wr c (A&&WZ d)) (λv hv=>?_) λj hj=>dV Hi λy1 P3=>dV Hi λy2 KV=>dV Hi λy3 hy3=>cP (λh=>qJ (hj _ ?_)) λh=>zP λ_=>qJ (hj _ ?_)
  ·subst hv
   refine nJ (λv=>v=Wr c (A&&WZ d&&WW d)) (λv hv=>?_) λj hj=>cP (λh=>cP (λh2=>qJ (hj _ ?_)) λh2=>qJ (hj _ ?_)) λh=>qJ (hj _ ?_)
   ·subst hv
    refine nJ (λv=>v=Wr c (A&&WZ d&&WW d&&WY rb ib d p)) (λv hv=>?_) λj hj=>cP (λh=>hj _ ?_) λg1=>cP (λh=>dV (hr n) λy hy=>qJ (hj _ ?_)) λg2=>cP (λh=>dV (hi n) λy hy=>qJ (hj _ ?_)) λg4=>cP (λh=>qJ (hj _ ?_)) λh=>qJ (hj _ ?_)
    ·subst hv
     refine nJ (λv=>v=Wr c (A&&WZ d&&WW d&&WY rb ib d p&&Io d.an b0 b1 d.B d.bE 6)) (λv hv=>?_) λj hj=>cP (λh=>?_) λh=>?_
     ·subst hv
      refine nJ (λv=>v=Ym d.an) (λv hv=>?_) λj hj=>cP (λh=>hj _ ?_) λh=>cP (λh2=>hj _ ?_) λh2=>hj _ ?_
      ·subst hv
       refine qJ ?_
       rw[xj,JM]
       exact hk
      ·unfold Ym;rw[aL jk]
      ·unfold Ym;rw[aC jk,aL wZ]
      ·unfold Ym;rw[aC jk,aC wZ]
     ·unfold qb
      have h:d.an=6:=by simpa using h
      refine dV (P:=λy=>y=Io d.an b0 b1 d.B d.bE 6) ?_ λy hy=>qJ UQ
      exact ahu
     ·have h:d.an≠6:=by simpa using h
      refine dV (P:=λy=>y=Io d.an b0 b1 d.B d.bE 6) (iF (by unfold Io;rw[aC h])) λy hy=>qJ UQ
    ·unfold WY;rw[aL jk,qQ]
    ·rw[xj,JM,hy];unfold WY;rw[aC (by simpa using g1),aL jk]
    ·rw[xj,YQ,hy];unfold WY;rw[aC (by simpa using g1),aC (by simpa using g2),aL jk]
    ·rw[xj,YQ,h];unfold WY;rw[aC (by simpa using g1),aC (by simpa using g2),aC (by simpa using g4),Bool.true_or]
    ·rw[xj,YQ,h];unfold WY;rw[aC (by simpa using g1),aC (by simpa using g2),aC (by simpa using g4),ll]
   ·rw[xj,JM];unfold WW;rw[aL jk,h2,pa]
   ·rw[xj,JM];unfold WW;rw[aL jk,h2,xv]
   ·rw[xj,JM];unfold WW;rw[aC jk]
  ·rw[xj,show [y1,y2,y3,true].all id=(y1&&(y2&&(y3&&true))) by simp,P3,KV,hy3];unfold WZ;rw[aL Bx]
  ·rw[xj,show ∀ b,[y1,y2,y3,b].all id=(y1&&(y2&&(y3&&b))) by simp,P3,KV,hy3];unfold WZ;rw[aC qk]
 all_goals (clear hj hk;simp_all;try rfl)
end
def dit (n:Nat) (T:qA) (x13:aK) (a v:Int) (WB:Int×Int->aG Int):aG Int:=
 ag (T.rR x13.jf) λy18=>iter (λnext22 (v21:Int×Int)=>br (decide (v21.2<(List.length x13.bF:Int))) (el x13.bF v21.2 λx29=>ag (T.jv x29) λy33=>gd (cD (v21.2+1)) (next22 (if y33>v21.1 then y33 else v21.1,v21.2+1))) (gd (cD (v21.1+1)) (gd (cD (v+1)) (WB (if v21.1+1>a then v21.1+1 else a,v+1))))) n (y18,0)
def VDx (K:Nat) (d:aK):Prop:=∃ k:Int,1<=k/\k<=K/\
 (∀ m,bN m->∀ {next:Nat->Int×Int->aG Int} {a v:Int} {Q:Int->Prop},0<=v->v<=100000->Ev (λi=>next i (if k>a then k else a,v+1)) Q dt->Ev (λi=>dit (m i) (my (m i)) d a v (next i)) Q dt)/\
 ∀ p,∃ z:Bool,(∀ m,bN m->∀ {k:Nat->aG Bool} {Q:Bool->Prop},(z=true->Ev k Q dt)->(z=false->Q false)->Ev (λi=>itm (m i) (ju (m i)) p d (k i)) Q dt)/\
  ∀ (n:Nat) (lv:Int) c,0<=lv->lv+K<=4000000000000000000->NQ (gm n d p lv c) (λy=>y=Fl c z lv k)
section
variable {K:Nat}
def Đ (hd:g d) (hK:K<=2000000000000000000) (hb:VLs K d.jf) (hs:∀ x,x∈d.bF->VEx K x):VDx (K+1) d:=by
 obtain ⟨kb,kb0,kb1,kbr,hbz⟩:=hb;obtain ⟨D,hD⟩:=pick (l:=d.bF) (P:=λ_ x (k:Int)=>1<=k/\k<=K/\(∀ m,bN m->Ev (λi=>jv (m i) x) (λy=>y=k) dt)/\∀ cj io il,∃ z:Bool,(∀ m,bN m->Ev (λi=>mG (m i) x cj io il) (λy=>y=z) dt)/\∀ (n:Nat) (lv:Int) c,0<=lv->lv+K<=4000000000000000000->NQ (bS n x ⟨cj,io,il,lv⟩ c) (λy=>y=Fl c z lv k)) λi x hx=>hs x (aP hx);have l1:=hd.l1;have mb:∀ {a:Int} {v:Nat},0<=a->a<=K->v<=d.bF.length->mx D a v<=K:=λ{a v} h0 h1=>by
  induction v with
  | zero=>exact λ_=>h1
  | succ v ih=>
   intro hv
   have:=ih aD
   have:=(hD v _ (aA (show v<d.bF.length by omega))).2.1
   rw[LU];split<;>omega
 have mk:=č (f:=D) kb0 (v:=d.bF.length);have mkb:=mb kb0 kb1 BU;refine ⟨mx D kb d.bF.length+1,by have:=mk.1;rw[mk.2];split<;>omega,aD,λm hm {next a v Q} hv0 hv1 hn=>?_,λp=>?_⟩
 ·unfold dit;refine (kbr m hm).gZ λy hy=>?_;have hy:y=kb:=hy;subst hy;refine bR hm (λw:Int×Int=>0<=w.2/\w.2<=d.bF.length/\w.1=mx D y w.2.toNat) (λw=>(d.bF.length - w.2).toNat) ⟨eL 0,eZ,rfl⟩ ?_;rintro ⟨b,w⟩ ⟨v0,v1,v2⟩ next IN;dsimp only at v0 v1 v2 IN ⊢;refine aS (λh=>gL v0 h λx hx=>((hD _ x hx).2.2.1 m hm).gZ λz hz=>aF (IN _ ⟨eZ,eZ,?_⟩ eZ)) λh=>?_
  ·have hz:z=D w.toNat:=hz;dsimp only;rw[show (w+1).toNat=w.toNat+1 by omega,LU,<- v2,<- hz]
  have:w.toNat=d.bF.length:=by omega
  rw[v2,this];exact dB (by unfold cD;have:=mk.1;have:=mk.2;omega) (aF hn)
 obtain ⟨rb,rl,rr⟩:=ajJ d.jb;obtain ⟨ib,il,ir⟩:=NB d.jb;obtain ⟨b0,l0,r0⟩:=NB d.B;obtain ⟨b1,l1',r1⟩:=NB d.bE;obtain ⟨zb,zbr,zbl⟩:=hbz false;obtain ⟨Z,hZ⟩:=pick (l:=d.bF) (P:=λu x (z:Bool)=>(∀ m,bN m->Ev (λi=>mG (m i) x (p&&Ō d.an&&((u:Int)==0)) false false) (λy=>y=z) dt)/\∀ (n:Nat) (lv:Int) c,0<=lv->lv+K<=4000000000000000000->NQ (bS n x ⟨p&&Ō d.an&&((u:Int)==0),false,false,lv⟩ c) (λy=>y=Fl c z lv (D u))) λi x hx=>(hD i x hx).2.2.2 _ _ _;refine ⟨LM rb ib b0 b1 d p&&(xJ Z d.bF.length&&zb),λm hm {k Q} ht hf=>?_,λn lv c h0 h1=>?_⟩
 ·unfold itm;refine bD (λ_=>LM rb ib b0 b1 d p=true/\zb=true) (λ_ hw=>?_) λj hj=>(abJ hm hd rr ir r0 r1).gZ λy hy=>?_
  ·obtain ⟨hw,hzb⟩:=hw;rw[hw,hzb,pa,qQ] at ht hf;refine bD (λw=>w=(p&&Ō d.an)) (λw Gf=>?_) λj hj=>ay (λhp=>ay (λh=>hj _ ?_) λg1=>ay (λh=>hj _ ?_) λg2=>ay (λh=>hj _ ?_) λg3=>hj _ ?_) λhp=>hj _ (by rw[hp];rfl)
   ·subst Gf;refine bR hm (λv:Int=>0<=v/\v<=d.bF.length/\xJ Z v.toNat=true) (λv=>(d.bF.length - v).toNat) MM ?_;rintro v ⟨v0,v1,v2⟩ next hn;refine aS (λh=>gL v0 h λx hx=>?_) λh=>ht (by rw[show d.bF.length=v.toNat by omega];exact v2);have q:=(hZ _ x hx).1 m hm;rw[show ((v.toNat:Nat):Int)=v by omega] at q;have ef:(p&&Ō d.an&&(v==0))=(p&&Ō d.an):=by
     cases hk:Ō d.an with
     | false=>simp
     | true=>
      have hk:d.an=1\/d.an=2\/d.an=3\/d.an=4:=bg hk
      have:(d.bF.length:Int)=Ym d.an:=by
       unfold LM at hw;have:=(bk _ _▸hw).2;simpa using this
      unfold Ym at this
      rw[aC aD,aC aD] at this
      have:v=0:=by omega
      rw[this];simp
    rw[ef] at q;refine q.gZ λy hy=>?_;have hy:y=Z v.toNat:=hy;refine df (λh=>aj (hf ?_)) λh=>aF (hn _ ⟨aD,aD,?_⟩ aD)
    ·exact Jt (by rw[<- hy];exact h) (show v.toNat<d.bF.length by omega)
    exact acJ
   ·rw[hp,show d.an=1 by simpa using h];rfl
   ·rw[hp,show d.an=2 by simpa using h];rfl
   ·rw[hp,show d.an=3 by simpa using h];rfl
   have g1:d.an≠1:=by simpa using g1
   have g2:d.an≠2:=by simpa using g2
   have g3:d.an≠3:=by simpa using g3
   rw[hp,pa,cV];unfold Ō;simp[g1,g2,g3]
  have hy:=hy p;have bad:(y&&Sx d.an p)=false->Q false:=λh=>hf (by rw[hy,h];rfl);have rest:(y&&Sx d.an p)=true->Ev (λi=>ag ((ju (m i)).mX d.jf false) λy54=>br (!y54) (.ok (false)) (j i ())) Q dt:=λh=>(zbr m hm).gZ λw hw=>by
   have hw:w=zb:=hw;exact df (λh2=>aj (hf (by rw[<- hw,h2];simp))) λh2=>hj () ⟨hy.trans h,by rw[<- hw,h2]⟩
  refine df (λh=>aj (bad BV)) λh=>df (λhp=>ay (λh4=>aj (bad ?_)) λh4=>ay (λh8=>aj (bad ?_)) λh8=>rest ?_) λhp=>rest ?_
  ·unfold Sx;rw[hp,show d.an=4 by simpa using h4];simp
  ·unfold Sx;rw[hp,show d.an=8 by simpa using h8];simp
  ·unfold Sx;rw[h,hp,show (d.an !=4)=true by simpa using h4,show (d.an !=8)=true by simpa using h8];rfl
  unfold Sx;rw[h,hp];rfl
 cases n with
 | zero=>exact ym
 | succ n=>
 show NQ (je n (cI n) d p lv c) _;refine abK rl il l0 l1' ?_;generalize LM rb ib b0 b1 d p=ow;refine nJ (λw=>w=Ō d.an) (λw hw=>?_) λj hj=>cP (λh=>hj _ ?_) λg1=>cP (λh=>hj _ ?_) λg2=>cP (λh=>hj _ ?_) λg3=>hj _ ?_
 ·subst hw;refine NQ.iter (λs:V×Int=>0<=s.2/\s.2<=d.bF.length/\s.1=⟨c.uf||!(ow&&xJ Z s.2.toNat),c.deep||decide (lv+1+mx D 0 s.2.toNat>17)⟩) ?_ n ⟨eL 0,eZ,?_⟩
  rotate_left
  ·exact acM
  rintro ⟨s,v⟩ ⟨v0,v1,v2⟩ next hn;dsimp only at v0 v1 v2 ⊢;have wl:IntKind.wrap .i64 (lv+1)=lv+1:=wrap_i64 aD aD;rw[wl];refine cP (λh=>NQ.el λx _ hx=>?_) λh=>?_
  ·have h:=bg h;have lf:∀ {a:Bool},a=(p&&Ō d.an&&(v==0))->NQ (ag ((cI n).bS x (cm.mk a false false (lv+1)) s) λy=>gd (cD (v+1)) (next (y,v+1))) (λy=>y=Fl c (ow&&(xJ Z d.bF.length&&zb)) lv (mx D kb d.bF.length+1)):=λha=>by
    subst ha;have q:=(hZ _ x hx).2 n (lv+1) s aD aD;rw[show ((v.toNat:Nat):Int)=v by omega] at q;refine dV q λy hy=>zP λ_=>hn _ ⟨eZ,eZ,?_⟩;dsimp only;rw[hy,v2];exact ahl
   refine cP (λhp=>cP (λhk=>lf ?_) λhk=>lf ?_) λhp=>lf ?_
   ·rw[hp,hk];rfl
   ·rw[hp,hk];rfl
   rw[hp];rfl
  have h:=aU h;have ev:v.toNat=d.bF.length:=by omega
  rw[ev] at v2;refine dV (zbl n (lv+1) s aD aD) λy hy=>iF ?_;rw[hy,v2];unfold Fl;dsimp only;congr 1
  ·cases c.uf<;>cases ow<;>cases xJ Z d.bF.length<;>cases zb<;>rfl
  exact acI
 ·rw[show d.an=1 by simpa using h];rfl
 ·rw[show d.an=2 by simpa using h];rfl
 ·rw[show d.an=3 by simpa using h];rfl
 have g1:d.an≠1:=by simpa using g1
 have g2:d.an≠2:=by simpa using g2
 have g3:d.an≠3:=by simpa using g3
 rw[cV];unfold Ō;simp[g1,g2,g3]
end
section
variable {K:Nat}
def Sy {l:List aK} (hl:l.length<=70000) (h:∀ d,d∈l->VDx K d):VLs K l:=by
 obtain ⟨D,hD⟩:=pick (l:=l) (P:=λ_ d (k:Int)=>1<=k/\k<=K/\(∀ m,bN m->∀ {next:Nat->Int×Int->aG Int} {a v:Int} {Q:Int->Prop},0<=v->v<=100000->Ev (λi=>next i (if k>a then k else a,v+1)) Q dt->Ev (λi=>dit (m i) (my (m i)) d a v (next i)) Q dt)/\
  ∀ p,∃ z:Bool,(∀ m,bN m->∀ {k:Nat->aG Bool} {Q:Bool->Prop},(z=true->Ev k Q dt)->(z=false->Q false)->Ev (λi=>itm (m i) (ju (m i)) p d (k i)) Q dt)/\∀ (n:Nat) (lv:Int) c,0<=lv->lv+K<=4000000000000000000->NQ (gm n d p lv c) (λy=>y=Fl c z lv k)) λi d hd=>h d (aP hd)
 have m0:∀ {v:Nat},0<=mx D 0 v:=(č (f:=D) E6).1;have mb:∀ {v:Nat},v<=l.length->mx D 0 v<=K:=λ{v}=>by
  induction v with
  | zero=>exact λ_=>by show (0:Int)<=_;omega
  | succ v ih=>
   intro hv
   have:=ih aD
   have:=(hD v _ (aA (show v<l.length by omega))).2.1
   rw[LU];split<;>omega
 refine ⟨mx D 0 l.length,m0,mb BU,λm hm=>?_,λp=>?_⟩
 ·refine bV (F:=λn=>rR n l) hm λm hm=>?_;show Ev (λi=>wD (m i) (my (m i)) l) _ _;unfold wD;refine bR hm (λw:Int×Int=>0<=w.2/\w.2<=l.length/\w.1=mx D 0 w.2.toNat) (λw=>(l.length - w.2).toNat) ⟨eL 0,eZ,rfl⟩ ?_;rintro ⟨a,v⟩ ⟨v0,v1,v2⟩ next hn;dsimp only at v0 v1 v2 hn ⊢;refine aS (λh=>gL v0 h λx hx=>(hD _ x hx).2.2.1 m hm v0 aD (hn _ ⟨eZ,eZ,?_⟩ eZ)) λh=>aj (by rw[v2,show v.toNat=l.length by omega]);dsimp only;rw[show (v+1).toNat=v.toNat+1 by omega,LU,<- v2]
 obtain ⟨Z,hZ⟩:=pick (l:=l) (P:=λu d (z:Bool)=>(∀ m,bN m->∀ {k:Nat->aG Bool} {Q:Bool->Prop},(z=true->Ev k Q dt)->(z=false->Q false)->Ev (λi=>itm (m i) (ju (m i)) p d (k i)) Q dt)/\∀ (n:Nat) (lv:Int) c,0<=lv->lv+K<=4000000000000000000->NQ (gm n d p lv c) (λy=>y=Fl c z lv (D u))) λi d hd=>(hD i d hd).2.2.2 p;refine ⟨xJ Z l.length,λm hm=>?_,λn lv c h0 h1=>?_⟩
 ·refine bV (F:=λn=>mX n l p) hm λm hm=>?_;show Ev (λi=>uO (m i) (ju (m i)) l p) _ _;unfold uO;refine bR hm (λv:Int=>0<=v/\v<=l.length/\xJ Z v.toNat=true) (λv=>(l.length - v).toNat) MM ?_;rintro v ⟨v0,v1,v2⟩ next hn;refine aS (λh=>gL v0 h λx hx=>(hZ _ x hx).1 m hm (k:=λi=>gd (cD (v+1)) (next i (v+1))) (λhz=>aF (hn _ ⟨aD,aD,?_⟩ aD)) λhz=>?_) λh=>aj (by rw[show l.length=v.toNat by omega,v2])
  ·rw[show (v+1).toNat=v.toNat+1 by omega];show (xJ Z v.toNat&&Z v.toNat)=true;rw[v2,hz];rfl
  exact (Jt hz (show v.toNat<l.length by omega)).symm
 cases n with
 | zero=>exact ym
 | succ n=>
 show NQ (jO n (cI n) l p lv c) _;unfold jO;refine NQ.iter (λs:V×Int=>0<=s.2/\s.2<=l.length/\s.1=⟨c.uf||!xJ Z s.2.toNat,c.deep||decide (0<mx D 0 s.2.toNat/\lv+mx D 0 s.2.toNat>17)⟩) ?_ n ⟨eL 0,eZ,?_⟩
 rotate_left
 ·dsimp only [xJ,mx,Int.toNat];simp
 rintro ⟨s,v⟩ ⟨v0,v1,v2⟩ next hn;dsimp only at v0 v1 v2 ⊢;refine cP (λh=>NQ.el λx _ hx=>dV ((hZ _ x hx).2 n lv s h0 h1) λy hy=>zP λ_=>hn _ ⟨eZ,by have:=bg h;dsimp only;omega,?_⟩) λh=>iF (by rw[v2,show v.toNat=l.length by have:=aU h;omega]);have d1:=(hD _ x hx).1;have hm:=@m0 v.toNat;dsimp only;rw[hy,v2];unfold Fl;dsimp only;rw[show (v+1).toNat=v.toNat+1 by omega,LU];have ea:xJ Z (v.toNat+1)=(xJ Z v.toNat&&Z v.toNat):=rfl;rw[ea];congr 1
 ·cases c.uf<;>cases xJ Z v.toNat<;>cases Z v.toNat<;>rfl
 exact akv
def đ:∀ K:Nat,K<=2000000000000000000->(∀ e,(wO K).1 e->ij e->VEx K e)/\∀ d,(wO K).2 d->g d->VDx K d
 | 0,_=>⟨λ_ h=>h.elim,λ_ h=>h.elim⟩
 | K+1,h=>by
  obtain ⟨i1,i2⟩:=đ K aD;exact ⟨λe hx he=>Ď he aD (λx tn=>i1 x (hx.1 x tn) (he.s x tn)) (Sy he.l2 λd hd=>i2 d (hx.2 d hd) (he.d d hd)),λd hx hd=>Đ hd aD (Sy hd.l2 λb hb=>i2 b (hx.2 b hb) (hd.d b hb)) λx tn=>i1 x (hx.1 x tn) (hd.s x tn)⟩
def Pp {n:Nat} {m:Nat->Nat} {e:ak} (hm:bN m) (hK:K<=2000000000000000000) (hx:(wO K).1 e) (he:ij e):LK (n8 n e) (λi=>pk (m i) e) (λy z=>z=y) (λ_ _=>False):=by
 obtain ⟨k,k0,k1,kr,hz⟩:=(đ K hK).1 e hx he;obtain ⟨z,zr,zl⟩:=hz true false false;unfold n8 pk uD;refine WS (zl n 1 _ dN aD) λy hy=>wK (zr m hm) λw hw=>wK (kr m hm) λu hu=>?_;subst hy hw hu;unfold kZ xE Fl;dsimp only;cases w with
 | false=>exact bZ rfl
 | true=>
  by_cases q:u>16
  ·rw[aV (show (1:Int)+u>17 by omega),aV q];exact bZ rfl
  ·rw[bA (show ¬ (1:Int)+u>17 by omega),bA q];exact bZ rfl
end
section
variable {m:Nat->Nat}
def lp {X:Type} (hm:bN m) {l:List X} (hl:l.length<=70000) {G:Nat->X->X->aG Bool} {k:Nat->aG Bool} {Q:Bool->Prop} (hG:∀ x,x∈l->Ev (λi=>G i x x) (λy=>y=true) dt) (hk:Ev k Q dt) :
  Ev (λi=>aG.iter (λnext (v:Int)=>br (decide (v<(List.length l:Int))) (el l v λx=>el l v λy=>ag (G i x y) λb=>br (!b) (.ok false) (gd (cD (v+1)) (next (v+1)))) (k i)) (m i) 0) Q dt:=by
 refine bR hm (λv:Int=>0<=v) (λv=>(l.length - v).toNat) E6 λv v0 next hn=>aS (λh=>gL v0 h λx hx=>cR v0 hx ((hG x (aP hx)).gZ λy hy=>?_)) λ_=>hk
 rw[hy]
 exact aH Qw
def Cv {α:Type} [BEq α] [LawfulBEq α] {a:α}:(a !=a)=false:=by simp
def Uq (hm:bN m) {l:List ByS} (hl:l.length<=70000):Ev (λi=>pf (m i) l l) (λy=>y=true) dt:=by
 unfold pf jg;rw[Cv];refine aH (bR hm (λv:Int=>0<=v) (λv=>(l.length - v).toNat) E6 λv v0 next hn=>aS (λh=>gL v0 h λx hx=>cR v0 hx ?_) λ_=>aj rfl);rw[Cv];exact aH Qw
def EQe (e:ak):Prop:=∀ m,bN m->Ev (λi=>ji (m i) e e) (λy=>y=true) dt/\Ev (λi=>jt (m i) e e) (λy=>y=true) dt
def EQl (l:List aK):Prop:=∀ m,bN m->Ev (λi=>lx (m i) l l) (λy=>y=true) dt/\Ev (λi=>kz (m i) l l) (λy=>y=true) dt
def Ē (he:ij e) (hs:∀ x,x∈e.bF->EQe x) (hd:EQl e.fS):EQe e:=λm hm=>by
 have l1:=he.l1;refine ⟨?_,?_⟩
 ·refine bV (F:=λn=>ji n e e) hm λm hm=>?_;show Ev (λi=>rA (m i) (gX (m i)) e e) _ _;unfold rA jg;rw[Cv,Cv,Cv,Cv,show (!((e.B==e.B)&&(e.bE==e.bE)))=false by simp];refine aH (aH (aH (aH (aH ((Uq hm he.l3).gZ λy hy=>?_)))));rw[hy];exact aH (lp hm l1 (G:=λi=>(gX (m i)).ji) (λx hx=>(hs x hx m hm).1) ((hd m hm).1.gZ λy hy=>aj hy))
 refine bV (F:=λn=>jt n e e) hm λm hm=>?_;show Ev (λi=>qz (m i) (iM (m i)) e e) _ _;unfold qz jg;exact lp hm l1 (G:=λi=>(iM (m i)).jt) (λx hx=>(hs x hx m hm).2) (ay (λ_=>(hd m hm).2.gZ λy hy=>aj hy) λh=>by simp at h)
def SA {l:List aK} (hl:l.length<=70000) (hd:∀ d,d∈l->g d) (hb:∀ d,d∈l->EQl d.jf) (hs:∀ d,d∈l->∀ x,x∈d.bF->EQe x):EQl l:=λm hm=>by
 refine ⟨?_,?_⟩
 ·refine bV (F:=λn=>lx n l l) hm λm hm=>?_;show Ev (λi=>qw (m i) (gX (m i)) l l) _ _;unfold qw jg;rw[Cv];refine aH (bR hm (λv:Int=>0<=v) (λv=>(l.length - v).toNat) E6 λv v0 next hn=>aS (λh=>gL v0 h λd hx=>cR v0 hx ?_) λ_=>aj rfl);have dm:=aP hx;have sm:=hd d dm;rw[Cv,Cv,Cv,Cv,Cv,show (!((d.B==d.B)&&(d.bE==d.bE)))=false by simp];refine aH (aH (aH (aH (aH (aH ((Uq hm sm.l5).gZ λy hy=>?_))))));rw[hy];refine aH ((Uq hm sm.l3).gZ λy hy=>?_);rw[hy];refine aH ((hb d dm m hm).1.gZ λy hy=>?_);rw[hy];exact aH (lp hm sm.l1 (G:=λi=>(gX (m i)).ji) (λx hx=>(hs d dm x hx m hm).1) Qw)
 refine bV (F:=λn=>kz n l l) hm λm hm=>?_;show Ev (λi=>pG (m i) (iM (m i)) l l) _ _;unfold pG jg;refine bR hm (λv:Int=>0<=v) (λv=>(l.length - v).toNat) E6 λv v0 next hn=>aS (λh=>gL v0 h λd hx=>cR v0 hx ?_) λ_=>aj rfl;have dm:=aP hx;have l1:=(hd d dm).l1;rw[Cv];refine aH (cR v0 hx (cR v0 hx ((hb d dm m hm).2.gZ λy hy=>?_)));rw[hy];refine aH (cR v0 hx (bR hm (λw:Int=>0<=w) (λw=>(d.bF.length - w).toNat) E6 λw w0 Nl IN=>aS (λh2=>cR v0 hx (gL w0 h2 λx uz=>cR v0 hx (cR w0 uz ((hs d dm x (aP uz) m hm).2.gZ λy hy=>?_)))) λ_=>aF (hn _ aD aD)));rw[hy];exact aH (aF (IN _ aD aD))
def ē:∀ K:Nat,(∀ e,(wO K).1 e->ij e->EQe e)/\∀ d,(wO K).2 d->g d->EQl d.jf/\∀ x,x∈d.bF->EQe x
 | 0=>⟨λ_ h=>h.elim,λ_ h=>h.elim⟩
 | K+1=>by
  obtain ⟨i1,i2⟩:=ē K;exact ⟨λe hx he=>Ē he (λx tn=>i1 x (hx.1 x tn) (he.s x tn)) (SA he.l2 he.d (λd hd=>(i2 d (hx.2 d hd) (he.d d hd)).1) λd hd=>(i2 d (hx.2 d hd) (he.d d hd)).2),
   λd hx hd=>⟨SA hd.l2 hd.d (λb hb=>(i2 b (hx.2 b hb) (hd.d b hb)).1) λb hb=>(i2 b (hx.2 b hb) (hd.d b hb)).2,λx tn=>i1 x (hx.1 x tn) (hd.s x tn)⟩⟩
def Hk {K:Nat} (hm:bN m) (hx:(wO K).1 e) (he:ij e):Ev (λi=>qi (m i) e e) (λy=>y=true) dt:=by
 obtain ⟨h1,h2⟩:=(ē K).1 e hx he m hm;unfold qi;refine h1.gZ λy hy=>?_;rw[hy];exact ba (h2.gZ λy hy=>aj hy)
end
def agh:Prop:=∀ {n:Nat} {s:ByS} {T:List aB} {e:ak} {p:D},PC s T 0->Lx s T->aW n true (H s T 0 0 false none)=.ok (e,p)->∃ K:Nat,K<=2000000000000000000/\(wO K).1 e
def adC {T:List aB}:T.map (oL 0)=T:=by
 have:(oL 0)=id:=by funext t;cases t;simp[oL]
 rw[this,List.map_id]
def gg (n:Nat):GG n:=afN Um Ll adx Sv n
section
variable {m:Nat->Nat}
def abL (hD:agh) (hm:bN m):LK (tJ n s) (λi=>AM (m i) s) (λy z=>z=y/\(y.2.dX=0->ij y.1/\∃ K,(wO K).1 y.1)) (λ_ _=>False):=by
 unfold tJ AM jg tG;refine LK.ø (Um hm) ?_;rintro ⟨T,E⟩ _ hsc ⟨rfl,hLx⟩;refine dx rfl (λh=>bZ ⟨rfl,λh2=>aw h2 jk⟩) λhe=>?_;have he:E.dX=0:=by simpa using he
 obtain ⟨hT,hL⟩:=Nv Um hsc he;have hC:PC s T 0:=⟨hT,dN,by have:=hT.big;omega⟩;have hp:=hC.pos;have hx:=(gg n).expr hC hL (c:=true) hm E6 aD (In.no (s:=s) (T:=T) (b:=0) (c:=true) (a:=0) (k:=false));have nl:List.length ([]:ByS)=0:=rfl;dsimp only;refine Su (W':=λp z=>∃ v,p=PF v/\z=(X5,cZ.mk 8 v)) ?_ ?_
 rotate_left
 ·rintro _ z ⟨v,rfl,rfl⟩;show LK (ag (rp v) λy38=>.ok (y38.1,y38.2)) _ _ _;unfold rp p9;exact bZ Te
 rw[show ah.mk s 0 T 0 false 0 0=RX s T 0 0 false by show _=X7 s 0 (T.map (oL 0)) 0 false 0 0;rw[adC]];have ft:∀ {v:Int} {e:ak} {y:ah},FS s T 0 v y->Ev (λi=>ag (cL y) λy19=>br (!y19.1) (.ok ((ak.mk 0 [] 0 [] [] [] [] [] 0),(cZ.mk y19.2.iR y19.2.qW))) (ag (pk (m i) e) λy24=>br (y24==9) (.ok ((ak.mk 0 [] 0 [] [] [] [] [] 0),(cZ.mk 9 0))) (.ok (e,(cZ.mk 0 0))))) (λz=>z=(X5,cZ.mk 8 v)) dt:=λ{v e y} hy=>by
  refine bI (AU hy) (ba (aj ?_));obtain ⟨_,_,rfl,_⟩:=hy;rfl
 have tn:LK (aW n true (H s T 0 0 false none)) (λi=>ax (m i) true (RX s T 0 0 false)) (λa b=>aW n true (H s T 0 0 false none)=.ok a/\VX s T 0 false 0 a b) (WX s T 0):=⟨λa e=>(hx.1 a e).oB λb q=>⟨e,q⟩,hx.2⟩;refine cq tn ?_ ?_
 ·rintro _ _ ⟨hr,e,a1,rfl,rfl,pg,hz,hes⟩;obtain ⟨K,hK,hdx⟩:=hD hC hL hr;obtain ⟨a2,t,nx⟩:=pZ hC false (a:=a1) (by have:=pg.le;omega) pg.lt;refine LK.jn2 (λv w=>∃ a,v=H s T a 0 false none/\w=RX s T 0 a false/\0<=a/\a<T.length) (λ_ _=>False) ?_ (λ_ _ h=>h.elim) λj j' hj _=>gQ nx (bn Ju (dx rfl (λh7=>bK λ_=>bn (qK hm hC nx.self ?_) (hj _ _ ⟨a2+1,rfl,rfl,?_,?_⟩)) λh7=>hj _ _ ⟨a2,rfl,rfl,nx.ge,nx.lt⟩))
  ·rintro _ _ ⟨a,rfl,rfl,h0,h1⟩;obtain ⟨a3,t3,nx3⟩:=pZ hC false h0 h1;refine fP (mr (gQ nx3 (bn (kF hm hC nx3) (dx rfl (λhk=>nI nx3.self ?_) λhk=>?_))))
   ·refine bI (a:=RF s T 0 a3 false (t3.cG+0)) rfl ((ft nx3.fs).oB λz hz=>⟨_,rfl,hz⟩)
   refine nS (c:=(true,RX s T 0 a3 false)) rfl (aJ dC λ_=>cq (Pp hm hK hdx hes) ?_ λ_ _ h=>h.elim);rintro y _ rfl;exact dx rfl (λ_=>bZ Te) λ_=>bZ ⟨rfl,λ_=>⟨hes,K,hdx⟩⟩
  ·have h7:t.an=7:=by simpa using h7
   omega
  ·have:=nx.ge;omega
  have h7:t.an=7:=by simpa using h7
  exact nx.DP hC aD
 rintro p ⟨e,y⟩ ⟨v,rfl,hf,hes⟩;have second:∀ {y:ah},FS s T 0 v y->Ev (λi=>jn (λ(v14:ah)=>ag (cL v14) λy19=>br (!y19.1) (.ok ((ak.mk 0 [] 0 [] [] [] [] [] 0),(cZ.mk y19.2.iR y19.2.qW))) (ag (pk (m i) e) λy24=>br (y24==9) (.ok ((ak.mk 0 [] 0 [] [] [] [] [] 0),(cZ.mk 9 0))) (.ok (e,(cZ.mk 0 0))))) λj15=>ag (aY (m i) y) λy29=>br (y29.1.an !=0) (ag (bO y29.1.cG y29.2) λy32=>j15 (y32)) (j15 (y29.2))) (λz=>∃ u,PF v=PF u/\z=(X5,cZ.mk 8 u)) dt:=λ{y} hy=>by
  refine bD (λy=>FS s T 0 v y) (λy hy=>(ft hy).oB λz hz=>⟨v,rfl,hz⟩) λj hj=>ai (Q:=λw=>FS s T 0 v w.2) (Aa hm hC hy) λw hw=>ay (λ_=>bI (Ab hw) (hj _ hw)) λ_=>hj _ hw
 exact bD (λy=>FS s T 0 v y) (λy hy=>second hy) λj hj=>ai (Q:=λw=>FS s T 0 v w.2) (Aa hm hC hf) λw hw=>ay (λ_=>ai (Q:=λw=>FS s T 0 v w.2) (yI hm hC hw) λu hu=>hj _ hu) λ_=>hj _ hw
def agi:ij X5:=ij.of dN dC λx h=>by cases h
def agj:(wO 1).1 X5:=show (∀ x,x∈([]:List ak)->(wO 0).1 x)/\∀ d,d∈([]:List aK)->(wO 0).2 d from ⟨λx h=>(cw h).elim,λd h=>(cw h).elim⟩
def abM:Bj 64=.ok true:=by kernel_rfl
def SB (hD:agh):Ev (λi=>oV i s) (λy=>y=true) dt:=by
 unfold oV;rw[abM];refine ay (λ_=>bI rfl uY) λ_=>?_;obtain ⟨y,⟨_,_,h0,h1⟩,N,hN⟩:=(K2 mf (s:=s)).get;have hy:=hN N JN;have hl:=(abL (n:=N) (s:=s) hD mf).1 y hy;refine ai (Q:=λz=>z=y) ⟨.ok y,rfl,N,hN⟩ λz hz=>?_;subst hz;refine hl.gZ λw hw=>?_;obtain ⟨rfl,hw⟩:=hw;rw[show ((w.2.dX==w.2.dX)&&(w.2.At==w.2.At))=true by simp];have pl:Ev (λi=>qi i w.1 w.1) (λy=>y=true) dt:=by
  by_cases he:w.2.dX=0
  ·obtain ⟨hs,K,hK⟩:=hw he;exact Hk mf hK hs
  rw[h1 he];exact Hk mf agj agi
 refine ba (pl.gZ λy hy=>?_);rw[hy];exact ba (bI rfl uY)
end
section
def Tl (L:Nat) (l:List aB):Prop:=∀ (i:Nat) t,l[i]?=some t->(t.an≠0->i+1<l.length)/\(t.an=4->t.bJ.length<L)
def Pl (r:ah) (k:Int) (r':ah):Prop:=r'.l=r.l/\r.bB+k<=r'.bB
variable {r':ah}
def Pl.tr {r'':ah} {j l:Int} (h:Pl r j r') (h':Pl r' k r'') (hl:l<=j+k):Pl r l r'':=⟨h'.1.trans h.1,by have:=h.2;have:=h'.2;omega⟩
def Pl.re:Pl r 0 r:=⟨rfl,aD⟩
def De:=@Pl.re
section
variable {L:Nat} {V:α->Prop}
def lX:PO (λy=>Pl r 0 y.2/\0<=y.2.bB/\r.l[y.2.bB.toNat]?=some y.1) (aY n r):=by
 unfold aY jg;refine jR (λv=>Pl r 0 v) (λv hv=>P λx h0 hx=>bH ⟨hv,h0,by rw[<- hv.1];exact hx⟩) λj hj=>ig (λv=>Pl r 0 v) De λnext v hn hv=>A (λ_=>P λx _ _=>A acu λ_=>hj _ hv) λ_=>hj _ hv
def ux (hT:Tl L r.l):PO (λy=>Pl r 0 y.2/\∀ t,0<=r.bB->r.l[r.bB.toNat]?=some t->t.an≠0->Pl r 1 y.2) (bu n r):=by
 unfold bu jg;refine aE lX λy hy=>b8 λ_=>A (λh=>b8 λ_=>bH ?_) λh=>bH ?_
 ·obtain ⟨⟨h1,h2⟩,_⟩:=hy;exact ⟨⟨h1,eZ⟩,λt _ _ _=>⟨h1,eZ⟩⟩
 obtain ⟨⟨h1,h2⟩,h3,h4⟩:=hy;refine ⟨⟨h1,h2⟩,λt h0 ht hk=>⟨h1,?_⟩⟩;have:=(hT _ t ht).1 hk;rw[h1] at h;have:=aU h;show r.bB+1<=y.2.bB;omega
def uu {v:Int}:PO (λy=>Pl r 0 y) (bO v r):=by
 unfold bO;exact A (λ_=>bH ⟨rfl,eZ⟩) λ_=>bH De
def LR (hT:Tl L r.l):PO (λy=>Pl r 0 y) (cF n x r):=by
 unfold cF;refine aE lX λy hy=>dE λ_ _=>A (λ_=>aE uu λz hz=>bH (hy.1.tr hz aD)) λ_=>aE (ux (L:=L) (by rw[hy.1.1];exact hT)) λz hz=>bH (hy.1.tr hz.1 aD)
def Cw {b:Bool} (hT:Tl L r.l):PO (λy=>Pl r 0 y) (ca n x b r):=by
 unfold ca;exact aE (LR hT) λy hy=>bH ⟨hy.1,hy.2⟩
def Yp (hT:Tl L r.l):PO (λy=>Pl r 0 y) (iN n x r):=by
 unfold iN;refine aE lX λy hy=>dE λ_ _=>A (λ_=>aE uu λz hz=>bH (hy.1.tr hz aD)) λ_=>aE (ux (L:=L) (by rw[hy.1.1];exact hT)) λz hz=>bH (hy.1.tr hz.1 aD)
def Ur (hT:Tl L r.l):PO (λy=>Pl r 0 y.2) (iO n r):=by
 unfold iO;refine aE lX λy hy=>dE λ_ _=>A (λ_=>aE uu λz hz=>bH (hy.1.tr hz aD)) λ_=>aE (ux (L:=L) (by rw[hy.1.1];exact hT)) λz hz=>bH (hy.1.tr hz.1 aD)
def Tl.of (hT:Tl L r.l) (h:Pl r k r'):Tl L r'.l:=by rw[h.1];exact hT
def W1 (hT:Tl L r.l):PO (λy=>Pl r 0 y.2) (lg n r):=by
 unfold lg;refine aE (Ur hT) λa ha=>aE (LR (hT.of ha)) λb hb=>?_;have hb:=ha.tr hb (l:=0) aD;refine aE lX λc hc=>?_;have hc:=hb.tr hc.1 (l:=0) aD;refine aE (Ur (hT.of hc)) λd hd=>?_;have hd:=hc.tr hd (l:=0) aD;refine jR (λv=>Pl r 0 v) (λv hv=>aE (Yp (hT.of hv)) λe he=>bH (hv.tr he aD)) λj hj=>aE (W:=λy=>y=(d.2.iR==0,d.2)) (bH rfl) λy hy=>?_;subst hy;exact A (λ_=>A (λ_=>aE uu λz hz=>hj _ (hd.tr hz aD)) λ_=>hj _ hd) λ_=>hj _ hd
def Lo (hT:Tl L r.l) {t:aB} (h0:0<=r.bB) (ht:r.l[r.bB.toNat]?=some t) (hk:t.an≠0):PO (λy=>Pl r 1 y.2) (eH n r):=by
 unfold eH;refine aE (ux hT) λy hy=>bH ?_;have:=hy.2 t h0 ht hk;exact ⟨this.1,this.2⟩
def wO.up:∀ {K K':Nat},K<=K'->(∀ e,(wO K).1 e->(wO K').1 e)/\∀ d,(wO K).2 d->(wO K').2 d
 | 0,_,_=>⟨λ_ h=>h.elim,λ_ h=>h.elim⟩
 | K+1,0,h=>by omega
 | K+1,K'+1,h=>by
  obtain ⟨i1,i2⟩:=@wO.up K K' aD;exact ⟨λe he=>⟨λx hx=>i1 x (he.1 x hx),λd hd=>i2 d (he.2 d hd)⟩,λd hd=>⟨λx hx=>i1 x (hd.1 x hx),λb hb=>i2 b (hd.2 b hb)⟩⟩
def m:=@wO.up
end
end
section
variable {K:Nat} {t:ByS} {n:Int} {a:ByS} {wY:List ak}
def Ĕ (h:∀ x,x∈wY->(wO K).1 x):(wO (K+1)).1 (ak.mk k t n a b wY [] tl pos):=
 show (∀ x,x∈wY->(wO K).1 x)/\∀ d,d∈([]:List aK)->(wO K).2 d from ⟨h,λd hd=>(cw hd).elim⟩
def Lp:(wO (K+1)).1 (ak.mk k t n a b [] [] tl pos):=Ĕ λx h=>(cw h).elim
def DE (g:Nat) (r:ah) (y:ak×ah):Prop:=Pl r 0 y.2/\(wO (g+4*(y.2.bB - r.bB).toNat+1)).1 y.1
section
variable {g L n:Nat} {e1 e2:ak}
def DE.fr (h1:Pl r 0 r1) (h:DE g r1 (e,r2)):DE g r (e,r2):=⟨h1.tr h.1 aD,(m (by have:=h1.2;have:=h.1.2;dsimp only at *;omega)).1 _ h.2⟩
def DE.to (h:DE g r (e,r1)) (h1:Pl r1 0 r2):DE g r (e,r2):=⟨h.1.tr h1 aD,(m (by have:=h1.2;have:=h.1.2;dsimp only at *;omega)).1 _ h.2⟩
def DE.lf {n:Int} (h:Pl r 0 r1):DE g r (ak.mk k t n a b [] [] tl pos,r1):=⟨h,Lp⟩
def tj:=@DE.lf
def DE.nd {n:Int} (h:Pl r 1 r1) (hs:∀ x,x∈wY->(wO (g+4*(r1.bB - r.bB).toNat)).1 x):DE g r (ak.mk k t n a b wY [] tl pos,r1):=⟨⟨h.1,by have:=h.2;dsimp only;omega⟩,Ĕ hs⟩
def zR:=@DE.nd
def Yq {t:aB} {x:ByS}:PO (λy=>y=true->t.an≠0) (cg t x):=by
 unfold cg;refine A (λh=>bH λ_=>?_) λ_=>bH dC;have:t.an=5:=by simpa using h
 omega
def E5 {t:aB} {l:List ByS}:PO (λy=>y=true->t.an≠0) (jC n t l):=by
 unfold jC jg;exact ig (λ_=>True) trivial λnext v hn _=>A (λ_=>P λx _ _=>aE Yq λy hy=>A (λh=>bH λ_=>hy h) λ_=>b8 λ_=>hn _ trivial) λ_=>bH λh=>by cases h
def Pr:∀ (n:Nat) {K:Nat} {e:ak},(wO K).1 e->PO (λy=>(wO K).1 y) (jD n e)
 | 0,_,_,_=>AP
 | n+1,0,_,h=>h.elim
 | n+1,K+1,e,h=>by
  show PO _ (ov n (lA n) e);have ih:∀ {K:Nat} {e:ak},(wO K).1 e->PO (λy=>(wO K).1 y) ((lA n).jD e):=λh=>Pr n h;obtain ⟨h1,h2⟩:=h;unfold ov uD oz jU;refine A (λ_=>P λx _ hx=>P λy _ hy=>aE (ih (h1 x (aP hx))) λa ha=>aE (ih (h1 y (aP hy))) λb hb=>bH ⟨λz hz=>?_,h2⟩) λ_=>A (λ_=>bH ⟨h1,h2⟩) λ_=>?_
  ·have hz:z∈[a,b]:=hz;simp only[cf,cw,or_false] at hz;rcases hz with rfl|rfl
   ·exact ha
   exact hb
  refine ig (λv=>∀ d,d∈v.1->(wO K).2 d) (λd hd=>(cw hd).elim) λnext v hn hv=>A (λ_=>P λd _ hd=>dE λc _=>A (λ_=>P λx _ hx=>?_) λ_=>b8 λ_=>b8 λ_=>hn _ λd' BZ=>?_) λ_=>bH ⟨h1,hv⟩
  ·have GW:=h2 d (aP hd);cases K with
   | zero=>exact GW.elim
   | succ K=>
   refine aE (ih (GW.1 x (aP hx))) λy hy=>b8 λ_=>b8 λ_=>hn _ λd' BZ=>?_;rcases bL.1 BZ with q|q
   ·exact hv d' q
   rw[cM.1 q];exact ⟨λz hz=>by rw[cM.1 (show z∈[y] from hz)];exact hy,GW.2⟩
  rcases bL.1 BZ with q|q
  ·exact hv d' q
  rw[cM.1 q];exact h2 d (aP hd)
def Lq {t:aB} (h:(wO (K+1)).1 e):PO (λy=>Pl r 0 y.2/\(wO (K+1)).1 y.1) (eo n e t r):=by
 unfold eo;exact dE λ_ _=>A (λ_=>aE uu λz hz=>bH ⟨hz,Lp⟩) λ_=>aE (Pr n h) λz hz=>bH ⟨De,hz⟩
end
end
section
variable {g L:Nat} {T:aN} {V:α->Prop}
abbrev Pk1 (r:ah) (y:aB×ah):Prop:=Pl r 0 y.2/\0<=y.2.bB/\r.l[y.2.bB.toNat]?=some y.1
def Mx {f:Bool×ah->aG α} (h:PO V (f (r.iR==0,r))):PO V (ag (cL r) f):=h
def Ps {y:aB×ah} {f:aB×ah->aG α} (hT:Tl L r.l) (hy:Pk1 r y) (hk:y.1.an≠0) (h:∀ z,Pl r 1 z.2->PO V (f z)):PO V (ag (bu n y.2) f):=
 aE (ux (hT.of hy.1)) λz hz=>h z (hy.1.tr (hz.2 y.1 hy.2.1 (by rw[hy.1.1];exact hy.2.2) hk) aD)
def DF (g L:Nat) (f:ah->aG (ak×ah)):Prop:=∀ r,Tl L r.l->PO (DE g r) (f r)
def ĕ (hT:Tl L r.l) (ihU:DF g L (T.dD false)) (ihP:DF g L (T.eT c)):PO (DE g r) (fO n T c r):=by
 unfold fO uD;refine aE lX λy hy=>Mx (A (λ_=>bH (tj hy.1)) λ_=>?_);refine jR (λv=>v≠0->y.1.an≠0) (λv hv=>?_) λj hj=>aE E5 λz hz=>A (λh=>hj _ λ_=>hz h) λ_=>hj _ λh=>aw rfl h;refine jR (λv=>v≠0->y.1.an≠0) (λv hv=>?_) λj hj=>aE E5 λz hz=>A (λh=>hj _ λ_=>hz h) λ_=>hj _ hv;refine A (λ_=>aE (ihP _ (hT.of hy.1)) λz hz=>bH (hz.fr hy.1)) λh=>Ps hT hy (hv jk) λz hz=>aE (ihU _ (hT.of hz)) λw hw=>bH ?_;have h1:=hz.2;have h2:=hw.1.2;exact zR (hz.tr hw.1 aD) λx hx=>by rw[cM.1 hx];exact (m (by first|omega|(dsimp only;omega))).1 _ hw.2
variable {l:Int}
def abN {t:aB}:PO (λy=>y=true->t.an≠0) (tN n t l):=by
 unfold tN;exact A (λ_=>aE Yq λy hy=>bH hy) λ_=>A (λ_=>aE Yq λy hy=>bH hy) λ_=>A (λ_=>aE E5 λy hy=>bH hy) λ_=>A (λ_=>aE E5 λy hy=>bH hy) λ_=>aE E5 λy hy=>bH hy
def Yr (hT:Tl L r.l) (ihU:DF g L (T.dD c)) (ihB:∀ l c,DF g L (T.cH l c)):PO (DE g r) (eE n T l c r):=by
 unfold eE uD;refine A (λ_=>aE (ihU r hT) λz hz=>bH hz) λ_=>b8 λ_=>aE (ihB _ _ r hT) λz hz=>?_;refine ig (λv=>DE g r (v.2,v.1)) hz λnext v hn hv=>Mx (A (λ_=>?_) λ_=>bH hv);have hTv:=hT.of hv.1;refine aE lX λy hy=>aE abN λw hw=>A (λh=>?_) λ_=>bH (hv.to hy.1);refine Ps hTv hy (hw h) λu hu=>aE (Lq hv.2) λd hd=>b8 λ_=>?_;have hTd:=(hTv.of hu).of hd.1;refine aE (ihB _ _ _ hTd) λb hb=>hn _ ?_;have p1:=hv.1.2;have p2:=hu.2;have p3:=hd.1.2;have p4:=hb.1.2;dsimp only at p1 p2 p3 p4;refine zR ((hv.1.tr hu (l:=1) aD).tr (hd.1.tr hb.1 (l:=0) aD) aD) λx hx=>?_;simp only[cf,cw,or_false] at hx;rcases hx with rfl|rfl
 ·exact (m (by first|omega|(dsimp only;omega))).1 _ hd.2
 exact (m (by first|omega|(dsimp only;omega))).1 _ hb.2
def abO (hT:Tl L r.l) (ihB:∀ l c,DF g L (T.cH l c)):PO (DE g r) (eD n T c r):=by
 unfold eD uD;refine aE (ihB _ _ r hT) λz hz=>?_;refine ig (λv=>DE g r (v.2,v.1)) hz λnext v hn hv=>Mx (A (λ_=>?_) λ_=>bH hv);have hTv:=hT.of hv.1;refine aE lX λy hy=>aE Yq λw hw=>A (λh=>?_) λ_=>bH (hv.to hy.1);refine Ps hTv hy (hw h) λu hu=>aE (ihB _ _ _ (hTv.of hu)) λb hb=>hn _ ?_;have p1:=hv.1.2;have p2:=hu.2;have p4:=hb.1.2;dsimp only at p1 p2 p4;refine zR ((hv.1.tr hu (l:=1) aD).tr hb.1 aD) λx hx=>?_;simp only[cf,cw,or_false] at hx;rcases hx with rfl|rfl
 ·exact (m (by first|omega|(dsimp only;omega))).1 _ hv.2
 exact (m (by first|omega|(dsimp only;omega))).1 _ hb.2
def agk (hT:Tl L r.l) (ihC:∀ c,DF g L (T.cU c)):PO (DE g r) (eC n T c r):=by
 unfold eC uD;refine aE lX λy hy=>aE Yq λw hw=>A (λ_=>aE (ihC _ _ (hT.of hy.1)) λz hz=>bH (hz.fr hy.1)) λh=>Ps hT hy (hw jk) λz hz=>aE (ihC _ _ (hT.of hz)) λb hb=>bH ?_;have h1:=hz.2;have h2:=hb.1.2;exact zR (hz.tr hb.1 aD) λx hx=>by rw[cM.1 hx];exact (m (by first|omega|(dsimp only;omega))).1 _ hb.2
end
section
variable {g L:Nat} {T:aN} {V:α->Prop}
def My (hT:Tl L r.l) (ihA:∀ c,DF g L (T.cJ c)):PO (DE (g+1) r) (dy n T c r):=by
 unfold dy jg Cz oz jU;have up:∀ {y:ak×ah},DE g r y->DE (g+1) r y:=λh=>⟨h.1,(m aD).1 _ h.2⟩;refine aE lX λy hy=>dE λs _=>jR (λv=>DE g r (v.2,v.1)) (λv hv=>?_) λj hj=>A (λ_=>aE (ihA _ _ (hT.of hy.1)) λz hz=>hj _ (hz.fr hy.1)) λ_=>aE (ihA _ _ (hT.of hy.1)) λz hz=>hj _ (hz.fr hy.1);have hTv:=hT.of hv.1;refine aE lX λw hw=>dE λs2 _=>A (λ_=>A (λ_=>aE uu λz hz=>bH (up ((hv.to hw.1).to hz))) λ_=>bH (up (hv.to hw.1))) λ_=>?_;refine aE lX λu hu=>aE (Lq hv.2) λd hd=>?_;have p0:=hv.1.2;have p1:=hw.1.2;have p2:=hu.1.2;have p3:=hd.1.2;dsimp only at p0 p1 p2 p3;refine ig (λv=>Pl r 0 v.1/\∀ x,x∈v.2.bF->(wO (g+4*(v.1.bB - r.bB).toNat+1)).1 x) ⟨((hv.1.tr hw.1 (l:=0) aD).tr hu.1 (l:=0) aD).tr hd.1 aD,λx hx=>?_⟩ λnext v hn hv=>?_
 ·rw[cM.1 (show x∈[d.1] from hx)];exact (m eZ).1 _ hd.2
 have q0:=hv.1.2;have hTv:=hT.of hv.1;have fin:∀ {r':ah},Pl v.1 0 r'->DE (g+1) r (ak.mk v.2.an v.2.bJ v.2.U v.2.B v.2.bE v.2.bF [] [] v.2.cG,r'):=λ{r'} h=>by
  have h2:=h.2;exact ⟨hv.1.tr h aD,(m (show g+4*(v.1.bB - r.bB).toNat+1+1<=g+1+4*(r'.bB - r.bB).toNat+1 by omega)).1 _ (Ĕ hv.2)⟩
 refine Mx (A (λ_=>aE lX λw hw=>aE Yq λb hb=>A (λh=>?_) λ_=>bH (fin hw.1)) λ_=>bH (fin De));refine Ps hTv hw (hb h) λz hz=>aE (ihA _ _ (hTv.of hz)) λa ha=>b8 λ_=>hn _ ⟨(hv.1.tr hz (l:=1) aD).tr ha.1 aD,λx hx=>?_⟩;have q1:=hz.2;have q2:=ha.1.2;rcases bL.1 (show x∈v.2.bF++[a.1] from hx) with q|q
 ·exact (m eZ).1 _ (hv.2 x q)
 rw[cM.1 q];exact (m eZ).1 _ ha.2
def agl:PO (λy=>Pk1 r y/\(y.2.skip=true->y.1.an≠7)) (aY n r):=by
 unfold aY jg;refine jR (λv=>Pl r 0 v/\(v.skip=true->∀ t,v.l[v.bB.toNat]?=some t->t.an≠7)) (λv hv=>P λx h0 hx=>bH ⟨⟨hv.1,h0,by rw[<- hv.1.1];exact hx⟩,λh=>hv.2 h x hx⟩) λj hj=>ig (λv=>Pl r 0 v) De λnext v hn hv=>A (λ_=>P λx _ hx=>A acu λh=>hj _ ⟨hv,λ_ t ht=>by rw[hx] at ht;cases ht;simpa using h⟩) λh=>hj _ ⟨hv,λq=>by rw[h] at q;cases q⟩
def Ė (ht:r.l[r.bB.toNat]?=some t) (hk:r.skip=true->t.an≠7):PO (λy=>y=(t,r)) (aY n r):=by
 unfold aY jg;refine jR (λv=>v=r) (λv hv=>P λx h0 hx=>bH (by subst hv;rw[ht] at hx;cases hx;rfl)) λj hj=>ig (λv=>v=r) rfl λnext v hn hv=>?_;subst hv;refine A (λhs=>P λx _ hx=>A (λh=>?_) λ_=>hj _ rfl) λ_=>hj _ rfl;rw[ht] at hx;cases hx;exact aw jk (hk hs)
def ė {K:Nat} {e:ak} (h:(wO (K+1)).1 e):PO (λy=>y.2.l=r.l/\y.2.bB=r.bB/\(wO (K+1)).1 y.1) (eo n e t r):=by
 unfold eo bO;exact dE λ_ _=>A (λ_=>aE (W:=λz=>z.l=r.l/\z.bB=r.bB) (A (λ_=>bH uA) λ_=>bH uA) λz hz=>bH ⟨hz.1,hz.2,Lp⟩) λ_=>aE (Pr n h) λz hz=>bH ⟨rfl,rfl,hz⟩
def Us (hT:Tl L r.l) (ihP:DF g L (T.dM c)) (s9:∀ c,DF (g+1) L (T.ax c)):PO (DE g r) (gD n T c r):=by
 unfold gD;refine aE (ihP r hT) λz hz=>ig (λv=>DE g r (v.2,v.1)) hz λnext v hn hv=>Mx (A (λ_=>?_) λ_=>bH hv);have hTv:=hT.of hv.1;refine aE agl λy hy=>aE E5 λw hw=>A (λh=>?_) λ_=>bH (hv.to hy.1.1);obtain ⟨⟨P3,KV,hy3⟩,hy4⟩:=hy;have hk:=hw h;refine aE (Ė (r:=y.2) (by rw[P3.1];exact hy3) hy4) λu hu=>?_;subst hu;refine aE (ė hv.2) λd hd=>?_;obtain ⟨d1,d2,d3⟩:=hd;have y2:v.1.bB+0<=y.2.bB:=P3.2;have y0:0<=y.2.bB:=KV;have d2:d.2.bB=y.2.bB:=d2;have pd:Pl v.1 0 d.2:=⟨d1.trans P3.1,aD⟩;have hTd:=hTv.of pd;have tk:d.2.l[d.2.bB.toNat]?=some y.1:=by rw[d1,P3.1,d2];exact hy3
 have p0:=hv.1.2;have p1:=pd.2;dsimp only at p0;refine dE λs _=>A (λ_=>aE (ux hTd) λa ha=>aE lX λb hb=>?_) λ_=>aE (Lo hTd aD tk hk) λa ha=>aE (s9 _ _ (hTd.of ha)) λb hb=>aE (Cw ((hTd.of ha).of hb.1)) λf hf=>hn _ ?_
 ·have ha:=ha.2 y.1 aD tk hk;refine jR (λq=>Pl v.1 1 q) (λq hq=>aE (ux (hTv.of hq)) λf hf=>hn _ ?_) λj hj=>dE λs2 _=>A (λ_=>aE uu λq hq=>hj _ (((pd.tr ha (l:=1) aD).tr hb.1 (l:=1) aD).tr hq aD)) λ_=>hj _ ((pd.tr ha (l:=1) aD).tr hb.1 aD);have q1:=hq.2;have q2:=hf.1.2;exact zR ((hv.1.tr hq (l:=1) aD).tr hf.1 aD) λx hx=>by rw[cM.1 hx];exact (m eZ).1 _ d3
 have q1:=ha.2;have q2:=hb.1.2;have q3:=hf.2;refine zR ((hv.1.tr (pd.tr ha (l:=1) aD) (l:=1) aD).tr (hb.1.tr hf (l:=0) aD) aD) λx hx=>?_;simp only[cf,cw,or_false] at hx;rcases hx with rfl|rfl
 ·exact (m eZ).1 _ d3
 exact (m eZ).1 _ hb.2
end
section
variable {g L:Nat} {T:aN} {V:α->Prop}
def DT (g L:Nat) (k:Int) (f:aB->ah->aG (ak×ah)):Prop:=∀ t r,Tl L r.l->0<=r.bB->r.l[r.bB.toNat]?=some t->t.an=k->PO (DE g r) (f t r)
def DB (g L:Nat) (f:ah->aG (List aK×List ByS×ah)):Prop:=∀ t r,Tl L r.l->0<=r.bB->r.l[r.bB.toNat]?=some t->t.an=5->t.bJ=[123]->PO (λy=>Pl r 1 y.2.2/\∀ d,d∈y.1->(wO (g+4*(y.2.2.bB - r.bB).toNat)).2 d) (f r)
def abP:PO (λy=>y=true->t.an=5) (cg t x):=by
 unfold cg;exact A (λh=>bH λ_=>by simpa using h) λ_=>bH λh=>by cases h
def ajM:PO (λy=>y=true->t.an=5/\t.bJ=x) (cg t x):=by
 unfold cg;exact A (λh=>bH λh2=>⟨by simpa using h,by simpa using h2⟩) λ_=>bH λh=>by cases h
def Pu:PO (λy=>y=true->t.an≠0) (kt t x):=by
 unfold kt;refine A (λh=>bH λ_=>?_) λ_=>bH dC;have:t.an=1:=by simpa using h
 omega
def Ut (hT:Tl L r.l) (ihI:DT g L 1 T.ja) (ihS:DT g L 4 T.fK) (ihL:DT g L 5 T.jB) (s9:∀ c,DF (g+1) L (T.ax c)) (ihB:∀ c,DB g L (T.dq c)):PO (DE g r) (fh n T c r):=by
 unfold fh;refine aE lX λy hy=>?_;have Lr:=hT.of hy.1;have ty:y.2.l[y.2.bB.toNat]?=some y.1:=by rw[hy.1.1];exact hy.2.2
 have nx:∀ {f:aB×ah->aG (ak×ah)},(∀ z,Pl r 0 z.2->PO (DE g r) (f z))->PO (DE g r) (ag (bu n y.2) f):=λh=>aE (ux Lr) λz hz=>h z (hy.1.tr hz.1 aD);refine A (λh=>aE (ihI _ _ Lr hy.2.1 ty jk) λz hz=>bH (hz.fr hy.1)) λ_=>A (λ_=>nx λz hz=>dE λv _=>bH (tj hz)) λ_=>A (λ_=>nx λz hz=>bH (tj hz)) λ_=>A (λh=>aE (ihS _ _ Lr hy.2.1 ty jk) λz hz=>bH (hz.fr hy.1)) λ_=>?_;refine dE λ_ _=>A (λ_=>nx λz hz=>bH (tj hz)) λ_=>dE λ_ _=>A (λ_=>nx λz hz=>bH (tj hz)) λ_=>aE abP λw hw=>A (λh=>?_) λ_=>aE ajM λw2 Gf=>A (λh=>?_) λ_=>aE abP λw3 hw3=>A (λh=>aE (ihL _ _ Lr hy.2.1 ty (hw3 h)) λz hz=>bH (hz.fr hy.1)) λ_=>aE uu λz hz=>bH (tj (hy.1.tr hz aD))
 ·refine aE (Lo Lr hy.2.1 ty (by have:=hw h;omega)) λa ha=>aE (s9 _ _ (Lr.of ha)) λb hb=>aE (Cw ((Lr.of ha).of hb.1)) λf hf=>bH ?_;have q0:=hy.1.2;have q1:=ha.2;have q2:=hb.1.2;have q3:=hf.2;exact ⟨((hy.1.tr ha (l:=1) aD).tr hb.1 (l:=1) aD).tr hf aD,(m eZ).1 _ hb.2⟩
 refine jR (λ_=>True) (λv _=>aE (ihB _ _ _ Lr hy.2.1 ty (Gf h).1 (Gf h).2) λz hz=>bH ?_) λj hj=>A (λ_=>hj _ trivial) λ_=>hj _ trivial;have q0:=hy.1.2;have q1:=hz.1.2;exact ⟨(hy.1.tr hz.1 (l:=1) aD).tr De aD,show (∀ x,x∈([]:List ak)->(wO _).1 x)/\∀ d,d∈z.1->(wO (g+4*(z.2.2.bB - r.bB).toNat)).2 d from ⟨λx hx=>(cw hx).elim,λd hd=>(m aD).2 _ (hz.2 d hd)⟩⟩
def abQ (hT:Tl L r.l) (s9:∀ c,DF (g+1) L (T.ax c)):PO (DE (g+1) r) (lV n T r):=by
 unfold lV uD Cz oz jU tG;refine aE lX λy hy=>aE Pu λw hw=>A (λ_=>aE (s9 _ _ (hT.of hy.1)) λz hz=>bH (hz.fr hy.1)) λh=>Ps hT hy (hw jk) λa ha=>aE (W1 (hT.of ha)) λb hb=>?_;have ab:=ha.tr hb (l:=1) aD;refine aE (s9 _ _ (hT.of ab)) λe he=>b8 λ_=>?_;have ae:=ab.tr he.1 (l:=1) aD;have q0:=ab.2;have q1:=he.1.2;refine jR (λv=>Pl r 1 v.1/\∀ x,x∈v.2.bF->(wO (g+1+4*(v.1.bB - r.bB).toNat)).1 x) (λv hv=>aE (LR (hT.of hv.1)) λf hf=>aE (s9 _ _ ((hT.of hv.1).of hf)) λk hk=>b8 λ_=>bH ?_) λj hj=>aE lX λf hf=>aE Pu λu hu=>A (λh=>Ps (hT.of ae) hf (hu h) λk hk=>aE (s9 _ _ ((hT.of ae).of hk)) λo ho=>b8 λ_=>hj _ ?_) λ_=>hj _ ?_
 ·have p0:=hv.1.2;have p1:=hf.2;have p2:=hk.1.2;refine zR ((hv.1.tr hf (l:=1) aD).tr hk.1 aD) λx hx=>?_;rcases bL.1 hx with q|q
  ·exact (m aD).1 _ (hv.2 x q)
  rw[cM.1 q];exact (m aD).1 _ hk.2
 ·have p1:=hk.2;have p2:=ho.1.2;refine ⟨(ae.tr hk (l:=1) aD).tr ho.1 aD,λx hx=>?_⟩;have hx:x∈([]++[e.1])++[o.1]:=hx;simp only[tc,mC,cf,cw,or_false] at hx;rcases hx with rfl|rfl
  ·exact (m eZ).1 _ he.2
  exact (m eZ).1 _ ho.2
 have p1:=hf.1.2;refine ⟨ae.tr hf.1 aD,λx hx=>?_⟩;have hx:x∈[]++[e.1]:=hx;simp only[tc,cf,cw,or_false] at hx;subst hx;exact (m eZ).1 _ he.2
end
def SI (g:Nat) (r:ah) (v:ah×List ak):Prop:=Pl r 1 v.1/\∀ x,x∈v.2->(wO (g+4*(v.1.bB - r.bB).toNat)).1 x
section
variable {g L:Nat} {r3:ah} {T:aN} {l:List ak}
def SI.mv (h:SI g r (r1,l)) (h1:Pl r1 0 r2):SI g r (r2,l):=⟨h.1.tr h1 aD,λx hx=>(m (by have:=h.1.2;have:=h1.2;dsimp only at *;omega)).1 _ (h.2 x hx)⟩
def SI.add (h:SI g r (r1,l)) (h1:DE (g+1) r1 (e,r2)):SI g r (r2,l++[e]):=⟨h.1.tr h1.1 aD,λx hx=>by
 have p0:=h.1.2;have p1:=h1.1.2;dsimp only at p0 p1;rcases bL.1 hx with q|q
 ·exact (m eZ).1 _ (h.2 x q)
 rw[cM.1 q];exact (m eZ).1 _ h1.2⟩
variable {t:ByS} {nu:Int} {a:ByS}
def SI.leaf (h:SI g r (r1,l)):SI g r (r1,l++[ak.mk k t nu a b [] [] tl pos]):=⟨h.1,λx hx=>by
 have p0:=h.1.2;rcases bL.1 hx with q|q
 ·exact h.2 x q
 rw[cM.1 q];exact (m (show 0+1<=_ by dsimp only at *;omega)).1 _ Lp⟩
def SI.nd (h:SI g r (r1,l)) (h1:Pl r1 0 r2):DE g r (ak.mk k t nu a b l [] tl pos,r2):=zR (h.mv h1).1 (h.mv h1).2
def Ę {t:aB} (hT:Tl L r.l) (h0:0<=r.bB) (ht:r.l[r.bB.toNat]?=some t) (hk:t.an=1) (s9:∀ c,DF (g+1) L (T.ax c)):PO (DE g r) (lh n T t r):=by
 unfold lh Cz oz jU tG;refine aE (ux hT) λy hy=>?_;have P3:=hy.2 t h0 ht aD;have Lr:=hT.of hy.1;refine A (λ_=>bH (tj hy.1)) λ_=>A (λ_=>bH (tj hy.1)) λ_=>A (λ_=>bH (tj hy.1)) λ_=>jR (λ_=>True) (λv _=>A (λ_=>bH (tj hy.1)) λ_=>dE λ_ _=>A (λ_=>aE uu λz hz=>bH (tj (hy.1.tr hz aD))) λ_=>aE lX λz hz=>aE abP λw hw=>A (λ_=>bH (tj (hy.1.tr hz.1 aD))) λh=>?_) λj hj=>A (λ_=>hj _ trivial) λ_=>A (λ_=>hj _ trivial) λ_=>A (λ_=>hj _ trivial) λ_=>hj _ trivial;have yz:=P3.tr hz.1 (l:=1) aD;refine aE (Lo (Lr.of hz.1) hz.2.1 (by rw[hz.1.1];exact hz.2.2) (by have:=hw jk;omega)) λa ha=>?_;have ya:=yz.tr ha (l:=1) aD;refine jR (λv=>SI g r (v.1,v.2.bF)) (λv hv=>aE (Cw (hT.of hv.1)) λf hf=>bH (hv.nd hf)) λj hj=>ig (λv=>SI g r (v.1,v.2.bF)) ⟨ya,λx hx=>(cw (show x∈([]:List ak) from hx)).elim⟩ λnext v hn hv=>Mx (A (λ_=>aE lX λb hb=>dE λ_ _=>A (λ_=>?_) λ_=>hj _ (hv.mv hb.1)) λ_=>hj _ hv);have hb:=hv.mv hb.1;refine aE (s9 _ _ (hT.of hb.1)) λd hd=>b8 λ_=>?_;have hd:=hb.add hd;refine aE lX λf hf=>dE λ_ _=>A (λ_=>hj _ (hd.mv hf.1)) λ_=>aE (LR ((hT.of hd.1).of hf.1)) λu hu=>aE lX λk hk=>dE λ_ _=>A (λ_=>aE uu λo ho=>hn _ ((((hd.mv hf.1).mv hu).mv hk.1).mv ho)) λ_=>hn _ (((hd.mv hf.1).mv hu).mv hk.1)
def abR {t:aB} (hT:Tl L r.l) (h0:0<=r.bB) (ht:r.l[r.bB.toNat]?=some t) (hk:t.an=5) (s9:∀ c,DF (g+1) L (T.ax c)) (ihI:DF (g+1) L T.eS):PO (DE g r) (lW n T t r):=by
 unfold lW Cz oz jU tG;refine aE (Lo hT h0 ht aD) λa ha=>?_;refine jR (λv=>SI g r (v.1,v.2.bF)) (λv hv=>aE (Cw (hT.of hv.1)) λf hf=>bH (hv.nd hf)) λj hj=>ig (λv=>SI g r (v.1,v.2.bF)) ⟨ha,λx hx=>(cw (show x∈([]:List ak) from hx)).elim⟩ λnext v hn hv=>Mx (A (λ_=>aE lX λb hb=>dE λ_ _=>A (λ_=>?_) λ_=>hj _ (hv.mv hb.1)) λ_=>hj _ hv);have hb:=hv.mv hb.1;refine aE lX λd hd=>?_;have hd:=hb.mv hd.1;have hTd:=hT.of hd.1;refine dE λ_ _=>A (λ_=>aE (ux hTd) λf hf=>aE lX λu hu=>?_) λ_=>aE (ihI _ hTd) λf hf=>b8 λ_=>?_
 ·have hu:=(hd.mv hf.1).mv hu.1;refine dE λ_ _=>A (λ_=>b8 λ_=>hj _ hu.leaf) λ_=>aE (s9 _ _ (hT.of hu.1)) λk hk=>b8 λ_=>hj _ (hu.add hk)
 have hf:=hd.add hf;refine aE lX λu hu=>dE λ_ _=>A (λ_=>hj _ (hf.mv hu.1)) λ_=>aE (LR ((hT.of hf.1).of hu.1)) λk hk=>aE lX λo ho=>dE λ_ _=>A (λ_=>aE uu λq hq=>hn _ ((((hf.mv hu.1).mv hk).mv ho.1).mv hq)) λ_=>hn _ (((hf.mv hu.1).mv hk).mv ho.1)
end
def sub_lt {i j:Int} (h0:0<=a) (h1:a<s.length) (hi:a<i):(sub s i j).length<s.length:=by
 unfold sub;rw[iT,gP];omega
def agm {e:Int} {c:Bool} (h0:0<=a) (h1:a<s.length):PO (λy=>y.1.an≠0/\(y.1.an=4->y.1.bJ.length<s.length)) (vn n s a e c):=by
 unfold vn jg;refine A (λ_=>b8 λ_=>b8 λ_=>dE λ_ _=>b8 λ_=>b8 λ_=>b8 λ_=>bH ⟨by show (4:Int)≠0;decide,λ_=>sub_lt h0 h1 aD⟩) λ_=>b8 λ_=>b8 λ_=>dE λ_ _=>b8 λ_=>bH ⟨by show (3:Int)≠0;decide,λh=>aw h (by show ¬ (3:Int)=4;decide)⟩
def agn:PO (λy=>y.2=true->y.1.an≠0/\(y.1.an=4->y.1.bJ.length<s.length)) (tM n s a):=by
 have K:∀ {k:Int} {t:ByS} {p e:Int} {b:Bool},k≠0->k≠4->PO (λy:aB×Bool=>y.2=true->y.1.an≠0/\(y.1.an=4->y.1.bJ.length<s.length)) (.ok (aB.mk k t p e,b)):=λh0 h4=>bH λ_=>⟨h0,λh=>aw h h4⟩;unfold tM;refine P λb h0 hb=>A (λ_=>dE λy _=>A (λ_=>bH dC) λ_=>aE (agm h0 (by have:=(ao.1 hb).1;omega)) λz hz=>bH λ_=>hz) λ_=>jR (λ_=>True) (λv _=>A (λ_=>?_) λ_=>dE λy _=>A (λ_=>b8 λ_=>dE λ_ _=>b8 λ_=>K dN dN) λ_=>dE λo _=>dE λw _=>?_) λj hj=>b8 λ_=>A (λ_=>b8 λ_=>b8 λ_=>hj _ trivial) λ_=>hj _ trivial
 ·refine jR (λ_=>True) (λv _=>b8 λ_=>b8 λ_=>K dN dN) λj hj=>ig (λ_=>True) trivial λnext v hn _=>A (λ_=>P λ_ _ _=>A (λ_=>b8 λ_=>hn _ trivial) λ_=>hj _ trivial) λ_=>hj _ trivial
 refine jR (λ_=>True) (λv _=>A (λ_=>b8 λ_=>K dN dN) λ_=>b8 λ_=>K dN dN) λj hj=>A (λ_=>b8 λ_=>hj _ trivial) λ_=>hj _ trivial
def ago:PO (λy=>y.2.dX=0->Tl s.length y.1/\y.1.length<=4000000000000) (sP n s):=by
 unfold sP oz jU tG;refine A (λ_=>bH dC) λ_=>ig (λv:List aB×Int=>v.1.length<=4000000000000/\∀ t,t∈v.1->t.an≠0/\(t.an=4->t.bJ.length<s.length)) ⟨Nat.zero_le _,λt ht=>(cw ht).elim⟩ λnext v hn hv=>?_;have sp:PO (λy:List aB×cZ=>y.2.dX=0->Tl s.length y.1/\y.1.length<=4000000000000) (gd (cD (v.2+1)) (next (v.1,v.2+1))):=b8 λ_=>hn _ hv;have ad:∀ {t:aB} {e:Int},ob 40 v.1.length 1->t.an≠0/\(t.an=4->t.bJ.length<s.length)->PO (λy:List aB×cZ=>y.2.dX=0->Tl s.length y.1/\y.1.length<=4000000000000) (next (v.1++[t],e)):=λhA ht=>hn _ ⟨by have:=hA.1;rw[dS,fQ];omega,λu hu=>by
  rcases bL.1 hu with q|q
  ·exact hv.2 u q
  rw[cM.1 q];exact ht⟩
 refine A (λ_=>P λ_ _ _=>A (λ_=>sp) λ_=>P λ_ _ _=>A (λ_=>sp) λ_=>P λ_ _ _=>A (λ_=>sp) λ_=>P λ_ _ _=>A (λ_=>dE λy _=>A (λ_=>b8 λ_=>b8 λhA=>b8 λ_=>ad hA ⟨by show (7:Int)≠0;decide,λh=>aw h (by show ¬ (7:Int)=4;decide)⟩) λ_=>sp) λ_=>aE agn λy hy=>A (λ_=>bH dC) λh=>b8 λhA=>ad hA (hy jk)) λ_=>b8 λhA=>bH λ_=>⟨λi t ht=>?_,by have:=hA.1;rw[dS,fQ];simp only[fQ] at this;omega⟩;rcases tS ht with q|⟨q,rfl⟩
 ·have:=(ao.1 q).1;exact ⟨λ_=>by simp;omega,(hv.2 t (aP q)).2⟩
 exact ⟨λh=>aw rfl h,λh=>by cases h⟩
def ę:PO (λy=>∀ x,x∈y.1->x.Code=true->x.bJ.length<=s.length) (jh n s):=by
 unfold jh oz jU tG;have nl:∀ {t:cZ},PO (λy:List cy×cZ=>∀ x,x∈y.1->x.Code=true->x.bJ.length<=s.length) (.ok ([],t)):=bH λx hx=>(cw hx).elim;refine ig (λv:List cy×ByS×Int×Int=>∀ x,x∈v.1->x.Code=true->x.bJ.length<=s.length) (λx hx=>(cw hx).elim) λnext v hn hv=>?_;have ad:∀ {l:List cy} {t:ByS} {c:Bool} {p:Int},(∀ x,x∈l->x.Code=true->x.bJ.length<=s.length)->(c=true->t.length<=s.length)->∀ x,x∈l++[cy.mk t c p]->x.Code=true->x.bJ.length<=s.length:=λhl h x hx hc=>by
  rcases bL.1 hx with q|q
  ·exact hl x q hc
  rw[cM.1 q] at hc ⊢;exact h hc
 have sl:∀ {i j:Int},(sub s i j).length<=s.length:=λ{i j}=>by unfold sub;rw[iT,gP];omega
 refine A (λ_=>jR (λ_=>True) (λw _=>A (λ_=>b8 λ_=>dE λy _=>A (λ_=>nl) λ_=>jR (λl=>∀ x,x∈l->x.Code=true->x.bJ.length<=s.length) (λl hl=>b8 λ_=>b8 λ_=>b8 λ_=>b8 λ_=>b8 λ_=>b8 λ_=>hn _ (ad hl λ_=>sl)) λj hj=>A (λ_=>b8 λ_=>hj _ (ad hv dC)) λ_=>hj _ hv) λ_=>dE λy _=>A (λ_=>nl) λ_=>b8 λ_=>b8 λ_=>b8 λ_=>b8 λ_=>dE λz _=>b8 λ_=>b8 λ_=>hn _ hv) λj hj=>P λ_ _ _=>A (λ_=>b8 λ_=>A (λ_=>b8 λ_=>P λ_ _ _=>hj _ trivial) λ_=>hj _ trivial) λ_=>hj _ trivial) λ_=>A (λ_=>b8 λ_=>bH (ad hv dC)) λ_=>bH hv
def DC (g L:Nat) (f:ByS->Int->aG (ak×Bool)):Prop:=∀ x v,x.length<L->PO (λy=>(wO (g+1)).1 y.1) (f x v)
section
variable {g L:Nat} {T:aN}
def Ys (hT:Tl L r.l) (h0:0<=r.bB) (ht:r.l[r.bB.toNat]?=some t) (hk:t.an=4) (ihC:DC g L T.pj):PO (DE g r) (kv n T t r):=by
 unfold kv jg Cz oz jU tG;have tl:=(hT _ t ht).2 hk;refine aE (ux hT) λy hy=>aE ę λz hz=>A (λ_=>aE uu λw hw=>bH (tj (hy.1.tr hw aD))) λ_=>?_;have P3:=hy.2 t h0 ht aD;have p1:=P3.2;refine ig (λv:ak×Int=>∀ x,x∈v.1.bF->(wO (g+1)).1 x) (λx hx=>(cw (show x∈([]:List ak) from hx)).elim) λnext v hn hv=>A (λ_=>b8 λ_=>P λx hx0 hx=>b8 λ_=>P λx2 _ uz=>?_) λ_=>bH (zR P3 λx hx=>(m aD).1 _ (hv x hx));have ad:∀ {e:ak},(wO (g+1)).1 e->∀ x,x∈v.1.bF++[e]->(wO (g+1)).1 x:=λhe x hx=>by
  rcases bL.1 hx with q|q
  ·exact hv x q
  rw[cM.1 q];exact he
 refine A (λ_=>P λx3 _ _=>b8 λ_=>b8 λ_=>hn _ (ad Lp)) λhc=>P λx3 _ Wm=>?_;rw[uz] at Wm;cases Wm;refine aE (ihC _ _ (Nat.lt_of_le_of_lt (hz x2 (aP uz) (by simpa using hc)) tl)) λw hw=>A (λ_=>aE uu λu hu=>bH (tj (hy.1.tr hu aD))) λ_=>b8 λ_=>b8 λ_=>hn _ (ad hw)
def Ě {l:List aB} {i:Nat} {u:aB} (h:Tl L l) (ht:l[i]?=some t) (hk:u.an=t.an) (hx:u.bJ=t.bJ):Tl L (l.set i u):=λj w hw=>by
 rw[ra];by_cases q:i=j
 ·subst q;have:=(ao.1 ht).1;rw[uE this] at hw;cases hw;rw[hk,hx];exact h i t ht
 rw[List.getElem?_set_ne q] at hw;exact h j w hw
def abS {x:ByS} {p:Int} {B:Nat} (hB:B=16000000000008) (s9:DF (g+1) x.length (T.ax false)):PO (λy=>(wO (g+B+1)).1 y.1) (ub n T x p):=by
 unfold ub;refine aE (W:=λy:List aB×cZ=>y.2.dX=0->Tl x.length y.1/\y.1.length<=4000000000000) ago λy hy=>A (λ_=>bH Lp) λhe=>?_;obtain ⟨hT,hl⟩:=hy Dh;refine ig (λv:List aB×Int=>Tl x.length v.1/\v.1.length<=4000000000000) ⟨hT,hl⟩ λnext v hn hv=>A (λ_=>P λa _ ha=>A (λ_=>bH Lp) λ_=>P λb _ hb=>b8 λ_=>P λc _ hc=>P λd _ hd=>b8 λ_=>P λe _ he=>b8 λ_=>hn _ ?_) λ_=>?_
 ·have h1:=Ě (u:=aB.mk c.an c.bJ (b.cG+p) c.oZ) hv.1 hc rfl rfl;exact ⟨Ě h1 he rfl rfl,by rw[ra,ra];exact hv.2⟩
 refine aE (s9 _ hv.1) λa ha=>aE lX λb hb=>?_;have fin:(wO (g+B+1)).1 a.1:=by
  have p0:=ha.1.2;have p1:=hb.1.2;have p2:=(ao.1 hb.2.2).1;have p3:a.2.l=v.1:=ha.1.1;rw[p3] at p2;have hv2:=hv.2;have p0:(0:Int)+0<=a.2.bB:=p0;exact (m (show g+1+4*(a.2.bB - 0).toNat+1<=_ by omega)).1 _ ha.2
 exact A (λ_=>dE λ_ _=>Mx (bH fin)) λ_=>Mx (bH fin)
end
def ě:PO (λy=>y.2=r) (kf n r):=by
 unfold kf;refine ig (λ_=>True) trivial λnext v hn _=>A (λ_=>jR (λ_=>True) (λw _=>P λ_ _ _=>dE λ_ _=>A (λ_=>b8 λ_=>A Qq λ_=>b8 λ_=>hn _ trivial) λ_=>A Qq λ_=>b8 λ_=>hn _ trivial) λj hj=>P λ_ _ _=>dE λ_ _=>A (λ_=>b8 λ_=>hj _ trivial) λ_=>hj _ trivial) λ_=>bH rfl
def Ĝ {a b:Int}:PO (λy=>y.2=r) (kC n a b r):=by
 unfold kC jg;exact ig (λ_=>True) trivial λnext v hn _=>A (λ_=>b8 λ_=>P λ_ _ _=>A Qq λ_=>b8 λ_=>hn _ trivial) λ_=>bH rfl
def ajN:PO (λy=>y.2=r) (mY n r):=by
 unfold mY jg;exact A Qq λ_=>b8 λ_=>P λ_ _ _=>A Qq λ_=>b8 λ_=>P λ_ _ _=>P λ_ _ _=>aE Ĝ λy hy=>bH hy
def xG:PO (λy=>y.2=r) (cK k r):=by
 unfold cK jg;exact b8 λ_=>A (λ_=>b8 λ_=>P λ_ _ _=>bH rfl) λ_=>b8 λ_=>P λ_ _ _=>bH rfl
def Uu:PO (λy=>k<=y.1/\y.2=r) (fX n k r):=by
 unfold fX;refine ig (λv=>k<=v.2/\v.1=r) ⟨eL k,rfl⟩ λnext v hn hv=>aE xG λy hy=>A (λ_=>b8 λ_=>hn _ ⟨by dsimp only;have:=hv.1;omega,hy.trans hv.2⟩) λ_=>bH ⟨hv.1,hy.trans hv.2⟩
def Yt:PO (λy=>0<=y.2.2.1/\y.2.2.2=r) (jE n r):=by
 unfold jE;have no:∀ {r':ah},r'=r->PO (λy:ByS×Int×Int×ah=>0<=y.2.2.1/\y.2.2.2=r) (.ok (([]:ByS),0,0,r')):=λh=>bH ⟨eL 0,h⟩;refine aE xG λy hy=>dE λ_ _=>A (λ_=>no hy) λ_=>aE Uu λz hz=>?_;have KX:=hz.2.trans hy;refine jR (λv=>v.1=r/\0<=v.2.1) (λv hv=>b8 λ_=>aE Uu λa ha=>aE xG λb hb=>dE λ_ _=>?_) λj hj=>aE xG λa ha=>dE λ_ _=>A (λ_=>b8 λ_=>aE Uu λb hb=>aE xG λc hc=>A (λ_=>no ?_) λ_=>aE xG λd hd=>aE xG λe he=>hj _ ⟨?_,?_⟩) λ_=>aE xG λb hb=>dE λ_ _=>A (λ_=>no ?_) λ_=>hj _ ⟨?_,?_⟩
 ·have hb2:=hb.trans (ha.2.trans hv.1);refine A (λ_=>no hb2) λ_=>b8 λ_=>aE xG λd hd=>dE λ_ _=>A (λ_=>no (hd.trans hb2)) λ_=>b8 λ_=>bH ⟨?_,hd.trans hb2⟩;have:=ha.1;have:=hv.2;show 0<=a.1+2;omega
 ·exact hc.trans (hb.2.trans (ha.trans KX))
 ·exact he.trans (hd.trans (hc.trans (hb.2.trans (ha.trans KX))))
 ·have:=hz.1;have:=hb.1;dsimp only;omega
 ·exact hb.trans (ha.trans KX)
 ·exact hb.trans (ha.trans KX)
 have:=hz.1;dsimp only;omega
def DD (g:Nat) (r:ah) (y:aK×ah):Prop:=Pl r 0 y.2/\(wO (g+4*(y.2.bB - r.bB).toNat+3)).2 y.1
def DS (g:Nat) (r:ah) (y:List aK×List ByS×ah):Prop:=Pl r 0 y.2.2/\∀ d,d∈y.1->(wO (g+4*(y.2.2.bB - r.bB).toNat+3)).2 d
def Ic {K:Nat} {k p:Int} {lb a b:ByS} {wY:List ak} {body:List aK} {tl ld:List ByS} {tr:ByS} {pos:Int} (h:∀ x,x∈wY->(wO K).1 x) (hb:∀ d,d∈body->(wO K).2 d):(wO (K+1)).2 (aK.mk k p lb a b wY body tl ld tr pos):=⟨h,hb⟩
section
variable {g L:Nat} {T:aN}
def aln {x:ByS} (hT:Tl L r.l) (h0:0<=r.bB) (ht:r.l[r.bB.toNat]?=some t) (hk:t.an=5) (hx:t.bJ=x):PO (λy=>Pl r 1 y) (cF n x r):=by
 unfold cF;refine aE (Ė ht λ_=>by omega) λy hy=>?_;subst hy;refine aE (W:=λz=>z=true) (by unfold cg;exact A (λ_=>bH DY) λh=>aw jk (by simp[hk])) λz hz=>?_;subst hz;exact A dC λ_=>aE (ux hT) λz hz=>bH (hz.2 t h0 ht aD)
def Yu (hT:Tl L r.l) (ihD:∀ c x r,Tl L r.l->PO (DS g r) (T.de c x r)):PO (DS g r) (fD n T c r):=by
 unfold fD;refine aE (LR hT) λy hy=>aE agM λz hz=>aE agL λw hw=>bH ?_;have p0:=hy.2;have p1:y.bB+0<=z.2.2.bB:=hz.1.2;have p2:=hw.2;exact ⟨⟨hw.1.trans (hz.1.1.trans hy.1),by show r.bB+0<=w.bB;omega⟩,λd hd=>(m (show g+4*(z.2.2.bB - y.bB).toNat+3<=g+4*(w.bB - r.bB).toNat+3 by omega)).2 _ (hz.2 d hd)⟩
def Yv (hT:Tl L r.l) (h0:0<=r.bB) (ht:r.l[r.bB.toNat]?=some t) (hk:t.an=5) (hx:t.bJ=[123]) (ihD:∀ c x r,Tl L r.l->PO (DS g r) (T.de c x r)):PO (λy=>Pl r 1 y.2.2/\∀ d,d∈y.1->(wO (g+4*(y.2.2.bB - r.bB).toNat)).2 d) (fD n T c r):=by
 unfold fD;refine aE (aln hT h0 ht hk hx) λy hy=>aE agM λz hz=>aE agL λw hw=>bH ?_;have p0:=hy.2;have p1:y.bB+0<=z.2.2.bB:=hz.1.2;have p2:=hw.2;exact ⟨⟨hw.1.trans (hz.1.1.trans hy.1),by show r.bB+1<=w.bB;omega⟩,λd hd=>(m (show g+4*(z.2.2.bB - y.bB).toNat+3<=g+4*(w.bB - r.bB).toNat by omega)).2 _ (hz.2 d hd)⟩
end
section
variable {g L:Nat} {T:aN}
def DD.nd {r1 r2:ah} {e:ak} {k p:Int} {lb a b:ByS} {tl ld:List ByS} {tr:ByS} {pos:Int} {body:List aK} (h1:Pl r 0 r1) (h:DE (g+1) r1 (e,r2)) (hb:body=[]):DD g r (aK.mk k p lb a b [e] body tl ld tr pos,r2):=by
 subst hb;have p0:=h1.2;have p1:=h.1.2;dsimp only at p1;refine ⟨h1.tr h.1 aD,Ic (λx hx=>?_) λd hd=>(cw hd).elim⟩;rw[cM.1 hx];exact (m eZ).1 _ h.2
def Em (d:aK):Prop:=d.jf=[]/\(wO 1).2 d
def Uv (hd:Em d) (hT:Tl L r.l) (s9:∀ c,DF (g+1) L (T.ax c)) (ihM:∀ d c r,Em d->Tl L r.l->PO (DD g r) (T.eP d c r)):PO (DD g r) (jQ n T d c r):=by
 unfold jQ;refine aE Yt λy hy=>?_;obtain ⟨hw,hr⟩:=hy;rw[hr];refine A (λ_=>aE (ihM _ _ _ hd hT) λz hz=>bH hz) λ_=>jR (λ_=>True) (λ_ _=>b8 λ_=>aE (s9 _ _ hT) λz hz=>bH (DD.nd (r1:=⟨r.s,r.shift,r.l,r.bB+y.2.2.1,r.skip,r.iR,r.qW⟩) ⟨rfl,eZ⟩ hz hd.1)) λj hj=>dE λ_ _=>A (λ_=>A (λ_=>aE uu λz hz=>bH ⟨hz,(m aD).2 _ hd.2⟩) λ_=>hj _ trivial) λ_=>hj _ trivial
def ĝ (hd:Em d) (hT:Tl L r.l) (s9:∀ c,DF (g+1) L (T.ax c)):PO (DD g r) (iP n T d c r):=by
 unfold iP jg;refine jR (λv=>Pl r 0 v) (λv hv=>aE (s9 _ _ (hT.of hv)) λz hz=>bH (DD.nd hv hz hd.1)) λj hj=>aE lX λy hy=>aE abP λw hw=>A (λh=>aE ě λz hz=>?_) λ_=>hj _ hy.1;rw[hz];have Lr:=hT.of hy.1;refine jR (λ_=>True) (λv _=>A (λ_=>aE (Lo Lr hy.2.1 (by rw[hy.1.1];exact hy.2.2) (by have:=hw h;omega)) λa ha=>aE (s9 _ _ (Lr.of ha)) λb hb=>aE (Cw ((Lr.of ha).of hb.1)) λf hf=>aE lX λk hk=>aE (Lq hb.2) λo ho=>aE (LR ((((Lr.of ha).of hb.1).of hf).of hk.1 |>.of ho.1)) λq hq=>aE (s9 _ _ (((((Lr.of ha).of hb.1).of hf).of hk.1 |>.of ho.1).of hq)) λu hu=>bH ?_) λ_=>hj _ hy.1) λj2 xI=>A (λ_=>P λ_ _ _=>dE λ_ _=>A (λ_=>b8 λ_=>A (λ_=>b8 λ_=>P λ_ _ _=>dE λ_ _=>xI _ trivial) λ_=>xI _ trivial) λ_=>xI _ trivial) λ_=>xI _ trivial;have p0:=hy.1.2;have p1:=ha.2;have p2:=hb.1.2;have p3:=hf.2;have p4:=hk.1.2;have p5:=ho.1.2;have p6:=hq.2;have p7:=hu.1.2;refine ⟨⟨by rw[hu.1.1,hq.1,ho.1.1,hk.1.1,hf.1,hb.1.1,ha.1,hy.1.1],eZ⟩,Ic (λx hx=>?_) λe he=>by rw[hd.1] at he;exact (cw he).elim⟩;simp only[cf,cw,or_false] at hx;rcases hx with rfl|rfl
 ·exact (m eZ).1 _ ho.2
 exact (m eZ).1 _ hu.2
end
section
variable {g L:Nat} {T:aN}
variable {p:Int} {lb a:ByS} {ld:List ByS} {tr:ByS}
def ŗ:Em (aK.mk k p lb a b [] [] tl ld tr pos):=⟨rfl,Ic (λx h=>(cw h).elim) λd h=>(cw h).elim⟩
def DD.lf {d:aK} (h:Pl r 0 r1) (hd:Em d):DD g r (d,r1):=⟨h,(m aD).2 _ hd.2⟩
def DD.bd {r2 r3:ah} {e:ak} {ds:List aK} {tl2:List ByS} (h1:Pl r 1 r1) (h:DE (g+1) r1 (e,r2)) (hb:DS g r2 (ds,tl,r3)):DD g r (aK.mk k p lb a b [e] ds tl2 ld tr pos,r3):=by
 have p0:=h1.2;have p1:=h.1.2;have p2:=hb.1.2;dsimp only at p1 p2;refine ⟨(h1.tr h.1 (l:=1) aD).tr hb.1 aD,Ic (λx hx=>?_) λd hd=>(m eZ).2 _ (hb.2 d hd)⟩;rw[cM.1 hx];exact (m eZ).1 _ h.2
def Ls (hT:Tl L r.l) (s9:∀ c,DF (g+1) L (T.ax c)) (ihK:∀ d c r,Em d->Tl L r.l->PO (DD g r) (T.gJ d c r)) (ihM:∀ d c r,Em d->Tl L r.l->PO (DD g r) (T.eP d c r)) (ihB:∀ c r,Tl L r.l->PO (DS g r) (T.dq c r)):PO (DD g r) (fg n T c r):=by
 unfold fg;refine aE lX λy hy=>?_;refine jR (λv=>v.1=y.2) (λv hv=>?_) λj hj=>dE λ_ _=>A (λ_=>aE xG λz hz=>dE λ_ _=>hj _ hz) λ_=>hj _ rfl;obtain ⟨v1,v2⟩:=v;have hv:v1=y.2:=hv;subst hv;have Lr:=hT.of hy.1;have nd:∀ {z:DD g y.2=DD g y.2},True:=trivial;have fr:∀ {z:aK×ah},DD g y.2 z->DD g r z:=λ{z} h=>by
  have q0:=hy.1.2;have q1:=h.1.2;exact ⟨hy.1.tr h.1 aD,(m aD).2 _ h.2⟩
 have nx0:∀ {f:aB×ah->aG (aK×ah)},(∀ z,Pl r 0 z.2->PO (DD g r) (f z))->PO (DD g r) (ag (bu n y.2) f):=λh=>aE (ux Lr) λz hz=>h z (hy.1.tr hz.1 aD);refine A (λ_=>nx0 λz hz=>?_) λ_=>dE λ_ _=>A (λ_=>aE (ihK _ _ _ ŗ Lr) λz hz=>bH (fr hz)) λ_=>dE λ_ _=>A (λ_=>A acs λ_=>nx0 λz hz=>aE (Ur (hT.of hz)) λa ha=>?_) λ_=>aE Pu λw hw=>A (λh=>Ps hT hy (hw h) λz hz=>aE (s9 _ _ (hT.of hz)) λa ha=>aE (ihB _ _ ((hT.of hz).of ha.1)) λb hb=>bH (DD.bd hz ha hb)) λ_=>aE Pu λw2 Gf=>A (λh=>Ps hT hy (Gf h) λz hz=>aE (W1 (hT.of hz)) λk hk=>?_) λ_=>dE λ_ _=>A (λ_=>A acs λ_=>nx0 λz hz=>bH (DD.lf hz ŗ)) λ_=>aE (ihM _ _ _ ŗ Lr) λz hz=>bH (fr hz)
 ·refine jR (λv=>Pl r 0 v.1) (λv hv=>aE (LR (hT.of hv)) λa ha=>aE (s9 _ _ ((hT.of hv).of ha)) λb hb=>bH (DD.nd (hv.tr ha aD) hb rfl)) λj hj=>aE lX λa ha=>?_;have za:=hz.tr ha.1 (l:=0) aD;refine dE λ_ _=>A (λ_=>aE (ux (hT.of za)) λb hb=>hj _ (za.tr hb.1 aD)) λ_=>aE lX λb hb=>?_;have zb:=za.tr hb.1 (l:=0) aD;exact dE λ_ _=>A (λ_=>aE (ux (hT.of zb)) λf hf=>hj _ (zb.tr hf.1 aD)) λ_=>hj _ zb
 ·have za:=hz.tr ha (l:=0) aD;exact aE (LR (hT.of za)) λb hb=>aE (s9 _ _ ((hT.of za).of hb)) λf hf=>bH (DD.nd (za.tr hb aD) hf rfl)
 have zk:=hz.tr hk (l:=1) aD;exact aE (s9 _ _ (hT.of zk)) λa ha=>aE (ihB _ _ ((hT.of zk).of ha.1)) λb hb=>bH (DD.bd zk ha hb)
end
section
variable {g L:Nat} {T:aN}
def Ğ {x:ByS} (hT:Tl L r.l) (ihD:∀ c r,Tl L r.l->PO (DD g r) (T.cE c r)):PO (DS g r) (jw n T c x r):=by
 unfold jw Cz oz jU tG;refine ig (λv:ah×List ByS×List aK×Bool×Int=>Pl r 0 v.1/\∀ d,d∈v.2.2.1->(wO (g+4*(v.1.bB - r.bB).toNat+3)).2 d) ⟨De,λd h=>(cw h).elim⟩ λnext v hn hv=>Mx (A (λ_=>aE lX λy hy=>?_) λ_=>bH ⟨hv.1,λd h=>(cw h).elim⟩);have p0:=hv.1.2;have py:=hv.1.tr hy.1 (l:=0) aD;have Lr:=hT.of py;have st:∀ {r':ah} {a:List ByS} {b:Bool} {i:Int},Pl r 0 r'->v.1.bB<=r'.bB->PO (DS g r) (next (r',a,v.2.2.1,b,i)):=λ{r' a b i} h h2=>hn _ ⟨h,λd hd=>(m eZ).2 _ (hv.2 d hd)⟩;have q0:v.1.bB+0<=y.2.bB:=hy.1.2;have p1:r.bB+0<=v.1.bB:=p0;have nx:∀ {f:aB×ah->aG (List aK×List ByS×ah)},(∀ z,Pl r 0 z.2->v.1.bB<=z.2.bB->PO (DS g r) (f z))->PO (DS g r) (ag (bu n y.2) f):=λh=>aE (ux Lr) λz hz=>h z (py.tr hz.1 aD) (by have:=hz.1.2;omega);have fl:∀ {p:Int} {f:ah->aG (List aK×List ByS×ah)},(∀ z,Pl r 0 z->v.1.bB<=z.bB->PO (DS g r) (f z))->PO (DS g r) (ag (bO p y.2) f):=λh=>aE uu λz hz=>h z (py.tr hz aD) (by have:=hz.2;omega);refine jR (λ_=>True) (λb _=>A (λ_=>nx λz hz h=>st hz h) λ_=>?_) λj hj=>A (λ_=>hj _ trivial) λ_=>dE λ_ _=>hj _ trivial;refine jR (λw=>w.1=y.2) (λw hw=>?_) λj hj=>A (λ_=>aE ajN λz hz=>hj _ hz) λ_=>hj _ rfl;obtain ⟨w1,w2⟩:=w;have hw:w1=y.2:=hw;subst hw;refine A (λ_=>nx λz hz h=>b8 λ_=>st hz h) λ_=>A (λ_=>A (λ_=>fl λz hz h=>st hz h) λ_=>aE Ĝ λa ha=>?_) λ_=>?_
 ·rw[ha];refine A (λ_=>fl λz hz h=>st hz h) λ_=>nx λz hz h=>b8 λ_=>P λd _ hd=>hn _ ⟨hz,λe he=>?_⟩;have GW:=hv.2 d (aP hd);rcases pR (show e∈List.set _ _ _ from he) with q|q
  ·exact (m eZ).2 _ (hv.2 e q)
  rw[q];exact (m (show g+4*(v.1.bB - r.bB).toNat+2+1<=_ by dsimp only;omega)).2 _ (Ic GW.1 GW.2)
 refine jR (λ_=>True) (λb _=>A (λ_=>bH ⟨py,λd hd=>(m eZ).2 _ (hv.2 d hd)⟩) λ_=>A (λ_=>fl λz hz h=>st hz h) λ_=>aE (ihD _ _ Lr) λz hz=>b8 λ_=>b8 λ_=>P λ_ _ _=>hn _ ?_) λj hj=>A (λ_=>A (λ_=>hj _ trivial) λ_=>A (λ_=>dE λ_ _=>hj _ trivial) λ_=>hj _ trivial) λ_=>A (λ_=>dE λ_ _=>hj _ trivial) λ_=>hj _ trivial;have q1:y.2.bB+0<=z.2.bB:=hz.1.2;have KX:=hz.2;refine ⟨py.tr hz.1 aD,λd hd=>?_⟩;rcases bL.1 (show d∈v.2.2.1++[_] from hd) with q|q
 ·exact (m eZ).2 _ (hv.2 d q)
 rw[cM.1 q];exact (m (show g+4*(z.2.bB - y.2.bB).toNat+2+1<=_ by dsimp only;omega)).2 _ (Ic KX.1 KX.2)
end
def gB (B L:Nat):Nat:=L*(B+1)
structure DG (B n:Nat):Prop where
 expr:∀ L c,DF (gB B L+1) L (ax n c)
 alt:∀ L c,DF (gB B L) L (cJ n c)
 Mo:∀ L c,DF (gB B L) L (cU n c)
 bin:∀ L l c,DF (gB B L) L (cH n l c)
 unary:∀ L c,DF (gB B L) L (dD n c)
 post:∀ L c,DF (gB B L) L (eT n c)
 RY:∀ L c,DF (gB B L) L (dM n c)
 item:∀ L,DF (gB B L+1) L (eS n)
 ident:∀ L,DT (gB B L) L 1 (ja n)
 K0:∀ L,DT (gB B L) L 4 (fK n)
 list:∀ L,DT (gB B L) L 5 (jB n)
 adD:∀ L c r,Tl L r.l->PO (DS (gB B L) r) (dq n c r)
 ğ:∀ L c,DB (gB B L) L (dq n c)
 decls:∀ L c x r,Tl L r.l->PO (DS (gB B L) r) (de n c x r)
 decl:∀ L c r,Tl L r.l->PO (DD (gB B L) r) (cE n c r)
 adE:∀ L d c r,Em d->Tl L r.l->PO (DD (gB B L) r) (gJ n d c r)
 Ġ:∀ L d c r,Em d->Tl L r.l->PO (DD (gB B L) r) (eP n d c r)
 code:∀ L,DC (gB B L) L (pj n)
def ġ {B:Nat} (hB:B=16000000000008):∀ n,DG B n
 | 0=>by constructor<;>(intros;first|exact AP|(intro;intros;exact AP))
 | n+1=>by
  have h:=ġ hB n;exact
   {
    expr:=λL c r hT=>My hT (h.alt L)
    alt:=λL c r hT=>agk hT (h.Mo L)
    Mo:=λL c r hT=>abO hT (h.bin L)
    bin:=λL l c r hT=>Yr hT (h.unary L c) (h.bin L)
    unary:=λL c r hT=>ĕ hT (h.unary L false) (h.post L c)
    post:=λL c r hT=>Us hT (h.RY L c) (h.expr L)
    RY:=λL c r hT=>Ut hT (h.ident L) (h.K0 L) (h.list L) (h.expr L) (h.ğ L)
    item:=λL r hT=>abQ hT (h.expr L)
    ident:=λL t r hT h0 ht hk=>Ę hT h0 ht hk (h.expr L)
    K0:=λL t r hT h0 ht hk=>Ys hT h0 ht hk (h.code L)
    list:=λL t r hT h0 ht hk=>abR hT h0 ht hk (h.expr L) (h.item L)
    adD:=λL c r hT=>Yu hT (h.decls L)
    ğ:=λL c t r hT h0 ht hk hx=>Yv hT h0 ht hk hx (h.decls L)
    decls:=λL c x r hT=>Ğ hT (h.decl L)
    decl:=λL c r hT=>Ls hT (h.expr L) (h.adE L) (h.Ġ L) (h.adD L)
    adE:=λL d c r hd hT=>Uv hd hT (h.expr L) (h.Ġ L)
    Ġ:=λL d c r hd hT=>ĝ hd hT (h.expr L)
    code:=λL x v hx=>(abS hB (h.expr x.length false)).mono λy hy=>(m (by
     have:(x.length+1)*(B+1)<=L*(B+1):=gq _ hx;rw[j6,xC] at this;unfold gB;omega)).1 _ hy }
def ajO {T:List aB} (hC:PC s T 0):Tl 65537 (T.map (oL 0)):=λi t ht=>by
 rw[adC] at ht ⊢;obtain ⟨_,_,_,h4,_,h6⟩:=hC.tok ht;exact ⟨λhk=>(h6 hk).1,λ_=>by omega⟩
def ajP:agh:=by
 intro n s T e p hC hL he;obtain ⟨B,hB⟩:∃ B:Nat,B=16000000000008:=⟨_,rfl⟩;have hp:=hC.pos;have hlen:=hC.pJ;have hx:=(gg n).expr hC hL (c:=true) mf E6 aD (In.no (s:=s) (T:=T) (b:=0) (c:=true) (a:=0) (k:=false));obtain ⟨z,⟨e',a',h1,h2,pg,_⟩,N,hN⟩:=(hx.1 _ he).get;have hd:=(ġ hB N).expr 65537 true (RX s T 0 0 false) (ajO hC) z (hN N JN);have h3:=pg.lt;rw[h2] at hd;have e1:e=e':=iy Prod.fst h1;subst e1;have q:(wO (gB B 65537+1+4*(a' - 0).toNat+1)).1 e:=hd.2;exact ⟨_,by unfold gB;omega,q⟩
def Yw:Ev (λi=>oV i s) (λy=>y=true) dt:=SB ajP
end Go.Abs
namespace Go.Abs
def Hl (s:ByS):∃ n,oV n s=.ok true:=by
 obtain ⟨a,ha,N,hN⟩:=(Yw (s:=s)).get;exact ⟨N,by rw[hN N JN,ha]⟩
end Go.Abs
