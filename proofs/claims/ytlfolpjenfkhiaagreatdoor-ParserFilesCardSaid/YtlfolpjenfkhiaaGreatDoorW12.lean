/- PROVED: lemmas for ParserFiles. CONDITIONS: as stated. -/
import Derived.Test.YtlfolpjenfkhiaaGreatDoorW11
set_option linter.all false
namespace Go.Abs
open aI
variable {n:Nat} {r r1 r2:ah} {e:ak} {c bt b0 b1:Bool} {α:Type} {k pos:Int} {d:aK} {s x a b:ByS} {t:aC} {tl:List ByS}
section
structure RXo (a b:bu):Prop where
 k0:0<=a.aq
 k5:a.aq<=5
 z:a.aq≠2->a.Rx=0/\a.Ry=0/\a.Rz=0/\a.RA=0
 z':a.aq≠2->b.Rx=0/\b.Ry=0/\b.Rz=0/\b.RA=0
 k:b.aq=a.aq
 n:b.bK.length=a.bK.length
 c:a.aq<3/\a.bK.length=0\/(a.aq=3\/a.aq=4)/\2<=a.bK.length\/a.aq=5/\a.bK.length=1
 s:∀ (i:Nat) (x y:bu),a.bK[i]?=some x->b.bK[i]?=some y->Jq x y
variable {a b:bu}
def Jq.o (h:Jq a b):RXo a b:=by
 cases h with
 | nothing=>exact acM
 | empty=>exact acM
 | one=>exact ahC
 | many hk h2 hl h=>
  refine ⟨?_,?_,λ_=>TA,λ_=>TA,rfl,hl.symm,.inr (.inl ⟨hk,h2⟩),h⟩
  ·obtain rfl|rfl:=hk
   ·exact (by decide:(0:Int)<=3)
   exact (by decide:(0:Int)<=4)
  ·obtain rfl|rfl:=hk
   ·exact (by decide:(3:Int)<=5)
   exact (by decide:(4:Int)<=5)
 | star h=>exact ahF
def agE (h:RXo a b):Bc b=.ok 0:=by
 obtain ⟨h0,h5,_,hz,hk,hn,hc,_⟩:=h;unfold Bc;rw[hk,hn];have e1:decide (a.aq<0)=false:=by simpa using h0
 have e2:decide (a.aq>5)=false:=by simpa using h5
 have e3:br (a.aq !=2) (br (!([b.Rx,b.Ry,b.Rz,b.RA]==[0,0,0,0])) (.ok 11) (.ok 0)) (.ok 0)=(.ok 0:aI Int):=by
  cases hb:a.aq !=2 with
  | false=>rfl
  | true=>
   obtain ⟨z0,z1,z2,z3⟩:=hz (by simpa using hb)
   rw[z0,z1,z2,z3];rfl
 simp only[aI.jn];obtain ⟨hc,hl⟩|⟨hc,hl⟩|⟨hc,hl⟩:=hc
 ·have a1:decide (a.aq<3)=true:=by simpa using hc
  have a2:decide ((a.bK.length:Int)>0)=false:=by simp[hl]
  have a3:(a.aq==3)=false:=by simp;omega
  have a4:(a.aq==4)=false:=by simp;omega
  have a5:(a.aq==5)=false:=by simp;omega
  rw[e1,e2,a1,a2,a3,a4,a5];exact e3
 ·have a1:decide (a.aq<3)=false:=by simp;omega
  have a2:decide ((a.bK.length:Int)<2)=false:=by simp;omega
  have a5:(a.aq==5)=false:=by simp;omega
  rw[e1,e2,a1,a2,a5];cases (a.aq==3)<;>cases (a.aq==4)<;>exact e3
 have a1:decide (a.aq<3)=false:=by simp;omega
 have a3:(a.aq==3)=false:=by simp;omega
 have a4:(a.aq==4)=false:=by simp;omega
 have a5:(a.aq==5)=true:=by simpa using hc
 have a6:((a.bK.length:Int) !=1)=false:=by simp[hl]
 rw[e1,e2,a1,a3,a4,a5,a6];exact e3
def SU:∀ (n:Nat) {m:Nat->Nat} {a b:bu} {l:Int},bL m->Jq a b->LK (nq n a l) (λi=>ph (m i) b l) (λy z=>z=y/\(y=9\/y=0)) (λ_ _=>False)
 | 0,_,_,_,_,_,_=>da
 | n+1,m,a,b,l,hm,h=>by
  have ho:=h.o;have ih:∀ {m:Nat->Nat} {a b:bu} {l:Int},bL m->Jq a b->LK ((oP n).nq a l) (λi=>(sM (m i)).ph b l) (λy z=>z=y/\(y=9\/y=0)) (λ_ _=>False):=λhm h=>SU n hm h;refine jZ (F:=λn=>ph n b l) hm λm hm=>?_;show LK (oX n (oP n) a l) (λi=>vu (m i) (sM (m i)) b l) _ _;unfold oX vu;have k0:=ho.k0;have k5:=ho.k5;have hc:=ho.c;have hbn:=ho.n;refine dG rfl (λ_=>b9 ⟨rfl,.inl rfl⟩) λ_=>oH (agE ho) (aJ du λ_=>?_);refine oG (λ_=>True) (λ_ _=>?_) λj7 hj=>aF (λq=>ao k0 Gn) λ_=>aF (λq=>ao k5 Gn) λ_=>aF (λh2=>?_) λ_=>hj _ trivial
  ·refine oG (λ_=>True) (λ_ _=>?_) λj11 hj=>oG (λv=>v=true↔a.aq=3\/a.aq=4) (λv hv=>aF (λh=>aF (λq=>?_) λ_=>hj _ trivial) λh=>aF (λh5=>aF (λq=>?_) λ_=>hj _ trivial) λh5=>aF (λq=>?_) λ_=>hj _ trivial) λk hk=>aF (λq=>hk _ ⟨λ_=>.inl Gn,λ_=>q⟩) λq=>hk _ ⟨λr=>.inr (by simpa using r),λr=>by simp at q ⊢;omega⟩
   ·refine uL (λv w=>w=v) (λv w e next next' hn=>?_) n hm _ _ rfl;subst e;refine dG (by rw[hbn]) (λ_=>je λx h0 hx=>?_) λ_=>b9 ⟨rfl,.inr rfl⟩;have hvl:=(an.1 hx).1;have hy:=az (show w.toNat<b.bK.length by omega);refine eV h0 hy (bG λhg=>bV hg (cm (ih hm (ho.s _ _ _ hx hy)) (λy z hz=>?_) λ_ _ h=>h.elim));obtain ⟨rfl,hz⟩:=hz;exact dG rfl (λ_=>b9 ⟨rfl,hz⟩) λ_=>bG λhg=>bV hg (hn _ _ rfl)
   ·have:=hv.1 h;simp at q;omega
   ·have q:=bne_iff_ne.1 q;simp at h5;omega
   have:¬(a.aq=3\/a.aq=4):=λr=>by rw[hv.2 r] at h;cases h
   have q:=bne_iff_ne.1 q;simp at h5;omega
  obtain ⟨z0,z1,z2,z3⟩:=ho.z xq;rw[z0,z1,z2,z3];exact aF du λ_=>hj _ trivial
def SV {α β:Type} {V:α->β->Prop} {W W':sX->β->Prop} {x:aI α} {H:sX->aI α} {F:Nat->aI β} (h:LK x F V W') (hw:∀ p,(∀ b,W' p b->LK (H p) (λ_=>.ok b) V W)):LK (AX x H) F V W:=by
 cases x with
 | stuck=>exact da
 | ok a=>exact ⟨λ_ e=>by cases e;exact h.1 a rfl,λ_ e=>by cases e⟩
 | ry p=>
  obtain ⟨b,hb,N,hN⟩:=(h.2 p rfl).get
  have e:∀ {Q:β->Prop},Ev (λ_=>.ok b) Q di->Ev F Q di:=λhq=>by
   obtain ⟨b',hq,M,hM⟩:=hq.get;have:=hM M (iJ M);cases this;exact ⟨.ok b,hq,N,hN⟩
  exact ⟨λa ha=>e ((hw p b hb).1 a ha),λq hq=>e ((hw p b hb).2 q hq)⟩
def SX:agi:=by
 intro n m s hm;unfold pa lL ji rK;refine dG rfl (λ_=>b9 (by constructor<;>intro h<;>cases h)) λhlen=>?_;have hl:s.length<=1000:=by have:=aW hlen;omega
 have hp:RQ ⟨s,0⟩:=⟨dR 0,eX,hl⟩;refine SV (W':=λp z=>(∃ v,p=UI v)/\z.2.eU≠0) (cm ((Ė n).alt hp hm) ?_ ?_) ?_
 ·rintro ⟨t,q⟩ ⟨t',r⟩ ⟨rfl,hX,hq,hg⟩;refine aJ du λ_=>fI ?_;refine dG rfl (λ_=>sW (p:=UI _) (aj ⟨⟨_,rfl⟩,Zt⟩)) λ_=>?_;unfold yl BP;have ck:LK (ag (nq n t 1) λy3=>.ok (y3)) (λi=>ag (ph (m i) t' 1) λy3=>.ok (y3)) (λy z=>z=y/\(y=9\/y=0)) (λ_ _=>False):=cm (SU n hm hX) (λa b h=>b9 h) λ_ _ h=>h.elim;refine cm ck ?_ λ_ _ h=>h.elim;rintro y _ ⟨rfl,hy⟩;exact dG rfl (λ_=>b9 (by constructor<;>intro h<;>cases h)) λ_=>b9 Zf
 ·rintro _ ⟨t',r⟩ ⟨⟨v,rfl⟩,hf⟩;rw[hf];exact aY (aj ⟨⟨v,rfl⟩,Zt⟩)
 rintro _ z ⟨⟨v,rfl⟩,hz⟩;show LK (ag (rY v) λy26=>.ok (y26.1,y26.2)) _ _ _;unfold rY;exact b9 ⟨λh=>ao h hz,λh=>by cases h⟩
end
section
variable {β X:Type} {Q:α->Prop} {P:β->Prop}
def NQ.nil:NQ (.stuck:aI α) Q:=acI
def yP:=@NQ.nil
def NQ.aj9 {x:aI β} {f:β->aI α} (h:NQ x P) (hf:∀ b,P b->NQ (f b) Q):NQ (ag x f) Q:=by
 cases x with
 | stuck=>exact yP
 | ry p=>exact ao rfl (h.1 p)
 | ok b=>exact hf b (h.2 b rfl)
def dB:=@NQ.aj9
variable {x:aI α} {l:List X}
def NQ.gd {p:Prop} [Decidable p] (h:p->NQ x Q):NQ (aI.gd p x) Q:=by
 unfold aI.gd;split
 ·exact h ‹_›
 exact yP
def x5:=@NQ.gd
def NQ.el {j:Int} {K:X->aI α} (h:∀ z,0<=j->l[j.toNat]?=some z->NQ (K z) Q):NQ (aI.el l j K) Q:=by
 unfold aI.el;split
 ·split
  ·exact QC
  exact yP
 exact yP
def NQ.jn {j:X->aI α} {p:(X->aI α)->aI α} (J:X->Prop) (hj:∀ v,J v->NQ (j v) Q) (hp:∀ j:X->aI α,(∀ v,J v->NQ (j v) Q)->NQ (p j) Q):NQ (aI.jn j p) Q:=hp j hj
def nN:=@NQ.jn
def NQ.iter {body:(X->aI α)->X->aI α} (I:X->Prop) (hb:∀ x,I x->∀ next:X->aI α,(∀ y,I y->NQ (next y) Q)->NQ (body next x) Q):∀ (n:Nat) {x:X},I x->NQ (aI.iter body n x) Q
 | 0,_,_=>yP
 | n+1,x,h=>hb x h _ λy hy=>NQ.iter I hb n hy
def NQ.mono {Q':α->Prop} (h:NQ x Q') (hq:∀ a,Q' a->Q a):NQ x Q:=⟨h.1,λa e=>hq a (h.2 a e)⟩
def NQ.lk {γ:Type} {V:α->γ->Prop} {W:sX->γ->Prop} {F:Nat->aI γ} (h:NQ x Q) (hf:∀ a,Q a->Ev F (V a) di):LK x F V W:=⟨λa e=>hf a (h.2 a e),λp e=>ao e (h.1 p)⟩
variable {f:X->Bool}
def ė {F:X->aI Bool} (hF:∀ x,NQ (F x) λy=>y=f x) {n:Nat}:NQ (aI.iter (λnext (v:Int)=>br (decide (v<(List.length l:Int))) (el l v λx=>ag (F x) λy=>br y (.ok v) (gd (cD (v+1)) (next (v+1)))) (.ok (-1))) n 0) (λy=>decide (y>=0)=l.any f):=by
 refine NQ.iter (λv:Int=>0<=v/\(l.drop v.toNat).any f=l.any f) (λv hv next hn=>?_) n ⟨dR 0,rfl⟩;obtain ⟨v0,v1⟩:=hv;refine cQ (λh=>NQ.el λx _ hx=>dB (hF x) ?_) λh=>gN ?_
 ·obtain ⟨q1,q2⟩:=an.1 hx;rw[bZ q1,q2,rJ] at v1;rintro _ rfl;refine cQ (λh=>gN ?_) λh=>x5 λ_=>hn _ ⟨aB,?_⟩
  ·rw[<- v1,h,aX v0];rfl
  rw[<- v1,h,show (v+1).toNat=v.toNat+1 by omega];rfl
 rw[<- v1,dY Nd];rfl
def aj_ {m:Nat->Nat} (hm:bL m) (hl:l.length<=70000):Ev (λi=>aI.iter (λnext (v:Int)=>br (decide (v<(List.length l:Int))) (el l v λx=>br (f x) (.ok true) (gd (cD (v+1)) (next (v+1)))) (.ok false)) (m i) 0) (λy=>y=l.any f) di:=by
 refine bN hm (λv:Int=>0<=v/\v<=l.length/\(l.drop v.toNat).any f=l.any f) (λv=>(l.length - v).toNat) Nh ?_;rintro v ⟨v0,v1,v2⟩ next hn;refine aR (λh=>gm v0 h λx hx=>?_) λh=>aj ?_
 ·obtain ⟨q1,q2⟩:=an.1 hx;rw[bZ q1,q2,rJ] at v2;refine aw (λh=>aj ?_) λh=>aH (hn _ ⟨aB,aB,?_⟩ aB)
  ·rw[<- v2,h];rfl
  rw[<- v2,h,show (v+1).toNat=v.toNat+1 by omega];rfl
 rw[<- v2,dY aB];rfl
end
def Wr (c:Y) (b:Bool):Y:=⟨c.uO||!b,c.deep⟩
def xH {c:Y} {a b:Bool}:Wr (Wr c a) b=Wr c (a&&b):=by unfold Wr;cases c.uO<;>cases a<;>cases b<;>rfl
section
variable {m:Nat->Nat} {c:Y}
def agF {l:List Bool}:NQ (aP n l c) (λy=>y=Wr c (l.all id)):=by
 unfold aP;refine cQ (λh=>gN (by unfold Wr;rw[h];rfl)) λh=>?_;unfold nC r7;refine dB (P:=λy=>y=l.any λx=>false==x) (dB (ė (F:=λx=>.ok (false==x)) (f:=λx=>false==x) λx=>gN rfl) λy hy=>gN hy) λy hy=>gN ?_;unfold Wr;rw[hy,h];show Y.mk _ _=⟨!(l.all id),_⟩;congr 1
 induction l with
 | nil=>rfl
 | cons a l ih=>rw[rJ,List.all_cons];cases a<;>simp_all
def ql {α:Type} {Q:α->Prop} {l:List Bool} {f:Y->aI α} (h:NQ (f (Wr c (l.all id))) Q):NQ (ag (aP n l c) f) Q:=dB agF λy hy=>by subst hy;exact h
def Y6 (l:List ByS):Bool:=l.any λx=>x.contains 10
def DL {l:List ByS}:NQ (kg n l) (λy=>y = !Y6 l):=by
 unfold kg lJ nD;refine dB (P:=λy=>y=Y6 l) (dB (P:=λy:Int=>decide (y>=0)=Y6 l) (ė (F:=sL) (f:=λx=>x.contains 10) λx=>?_) λy hy=>gN hy) λy hy=>gN (by rw[hy]);unfold sL strings_Contains;exact dB (P:=λy=>y=x.contains 10) (x5 λ_=>gN Ut) λy hy=>gN hy
def E9 (hm:bL m) {l:List ByS} (hl:l.length<=70000) (hs:∀ x,x∈l->x.length<=65536):Ev (λi=>nI (m i) l) (λy=>y=Y6 l) di:=by
 unfold nI;refine bN hm (λv:Int=>0<=v/\v<=l.length/\Y6 (l.drop v.toNat)=Y6 l) (λv=>(l.length - v).toNat) Nh ?_;rintro v ⟨v0,v1,v2⟩ next hn;refine aR (λh=>gm v0 h λx hx=>?_) λh=>aj ?_
 ·obtain ⟨q1,q2⟩:=an.1 hx;have xl:=hs x (aQ hx);rw[bZ q1,q2,Y6,rJ] at v2;refine bN hm (λw:Int=>0<=w/\w<=x.length/\(x.drop w.toNat).contains 10=x.contains 10) (λw=>(x.length - w).toNat) Nh ?_;rintro w ⟨w0,w1,w2⟩ NT Jg;refine aR (λh=>gm w0 h λb hb=>?_) λh=>aH (hn _ ⟨aB,aB,?_⟩ aB)
  ·obtain ⟨q3,q4⟩:=an.1 hb;rw[bZ q3,q4,List.contains_cons] at w2;rw[mO 10 10 rfl];refine aw (λh=>aj ?_) λh=>aH (Jg _ ⟨aB,aB,?_⟩ aB)
   ·rw[<- v2,<- w2,show ((10:UInt8)==b)=true by rw[cg] at h ⊢;exact h.symm];rfl
   rw[<- w2,show ((10:UInt8)==b)=false by rw[beq_eq_false_iff_ne] at h ⊢;exact λq=>h q.symm,show (w+1).toNat=w.toNat+1 by omega];rfl
  rw[dY aB] at w2;rw[<- v2,<- w2,show (v+1).toNat=v.toNat+1 by omega];rfl
 rw[<- v2,dY aB];rfl
variable {t:ByS}
def agG {a:ByS} {W:List ByS} (hW:zi [32] (a.length+1) a=W) (h0:W.any (λx=>([]:ByS)==x)=false):NQ (kz n t a) (λy=>y=W.any λx=>t==x):=by
 unfold kz strings_Split;refine cQ (λ_=>dB (P:=λy=>y=W) (x5 λ_=>gN hW) λy hy=>?_) λh=>gN ?_
 ·subst hy;unfold slices_Contains_string slices_Index_string;exact dB (P:=λz=>z=y.any λx=>t==x) (dB (P:=λz:Int=>decide (z>=0)=y.any λx=>t==x) (ė (F:=λx=>.ok (t==x)) (f:=λx=>t==x) λx=>gN rfl) λz hz=>gN hz) λz hz=>gN hz
 have:t=[]:=by simpa using h
 rw[this,h0]
def aka (hm:bL m) {l:List ByS} (hl:l.length<=70000):Ev (λi=>wW (m i) t l) (λy=>y=l.any λx=>t==x) di:=aj_ hm hl
def I5 (s:ByS):∃ b:Bool,(∀ n,NQ (dO n s) λy=>y=b)/\∀ m,bL m->Ev (λi=>eJ (m i) s) (λy=>y=b) di:=by
 obtain ⟨b,hb,_⟩:=(Ag mG (s:=s)).get;refine ⟨b,λn=>⟨yK,λy hy=>?_⟩,λm hm=>(Ag hm).qh λz hz=>?_⟩
 ·show y=b;rw[cY,hb];exact Hx y hy
 show z=b;rw[cY,hb];exact hz
end
section
abbrev W8:List ByS:=[[110,117,108,108],[98,111,111,108],[105,110,116],[110,117,109,98,101,114],[115,116,114,105,110,103]]
abbrev W9:List ByS:=[[60],[60,61],[62],[62,61],[33,61],[61,126],[33,126]]
abbrev W19:List ByS:=[[45],[33]]
abbrev W20:List ByS:=[[43],[45],[42],[47],[37],[61,61],[33,61],[60],[60,61],[62],[62,61],[38,38],[124,124]]
abbrev Ę (t:ByS) (l:List ByS):Bool:=l.any λx=>t==x
def Ş (e:ak):Bool:=
 if e.aq=10\/e.aq=21 then true else if e.aq=5 then decide ((e.bK.length:Int)>=1) else if e.aq=9\/e.aq=11\/e.aq=18\/e.aq=19 then (e.bK.length:Int)==1 else if e.aq=12\/e.aq=16\/e.aq=20 then (e.bK.length:Int)==2
 else if e.aq=15 then (e.bK.length:Int)==2||(e.bK.length:Int)==3 else if e.aq=17 then decide ((e.bK.length:Int)>=2) else if e.aq=14 then decide ((e.bK.length:Int)>=XT .i64 e.U 1) else (e.bK.length:Int)==0
def txB (bt:Bool) (e:ak):Bool:=
 if e.aq=10\/e.aq=4\/e.aq=11 then true else if e.aq=8 then Ę e.bM W8 else if e.aq=9 then Ę e.bM W9 else if e.aq=19 then Ę e.bM W19 else if e.aq=20 then Ę e.bM W20 else if e.aq=21 then bt else e.bM==[]
def ZP (e:ak):Bool:=(if e.aq=13\/e.aq=22 then true else (e.fi.length:Int)+(e.J.length:Int)==0)&&!Y6 e.J
def Xg (e:ak):Bool:=if e.aq=2\/e.aq=14 then e.U==0||e.U==1 else if e.aq=3 then decide (e.U>=0)&&(decide (e.U>=-1000000000000000)&&decide (e.U<=1000000000000000)) else e.U==0
def IJ (K:Int) (b0 b1:Bool) (n0 n1:ByS) (k:Int):Bool:=if K=k then b0&&(b1&&(n0 !=n1)) else n0==[]&&n1==[]
def ş (K:Int) (q:cu):Bool:=((q.TY||K !=18)&&(q.EM||K !=15))&&((q.yh||K !=13)&&(!q.yh||K !=22))
abbrev agH:ByS:=[108,101,116]
abbrev W10:List ByS:=[[102,105,101,108,100],[108,111,111,112],[112,97,99,107,97,103,101],[117,110,107,110,111,119,110]]
def rfB (e:ak):Bool:=if e.B=[] then (e.B==[]&&e.bT==[])&&(e.U==0&&(e.bK.length:Int)==0) else if e.B=agH then (e.bK.length:Int)==1&&(e.bT==[]&&decide (e.U>=0)) else if Ę e.B W10=true then (e.bK.length:Int)==0&&(e.bT==[]&&decide (e.U>=0)) else false
def Oj (bt b0 b1:Bool) (e:ak) (q:cu):Bool:=(((decide (e.aq>=1)&&decide (e.aq<=22))&&Ş e)&&txB bt e)&&ZP e&&(if e.aq=10 then bt&&rfB e else (Xg e&&IJ e.aq b0 b1 e.B e.bT 15)&&ş e.aq q)
variable {a b:Bool}
def Jt:[a].all id=a:=by simp
def Xh:[a,b].all id=(a&&b):=by simp
def al3 {c:Bool}:[a,b,c].all id=(a&&(b&&c)):=by simp
section
variable {c:Y}
def akb:Wr c true=c:=by unfold Wr;cases c;simp
def mQ {l:List Bool} (h:l.all id=b):NQ (ag (aP n l c) λy=>.ok y) (λy=>y=Wr c b):=ql (gN (by rw[h]))
def agI:NQ (mj n e c) (λy=>y=Wr c (Ş e)):=by
 unfold mj Ş;refine nN (λv=>v=decide (e.aq=10\/e.aq=21)) (λv hv=>?_) λj hj=>cQ (λh=>hj _ ?_) λh=>hj _ ?_
 ·subst hv;refine cQ (λh=>gN (by rw[aL B2,akb])) λh=>?_;rw[aE qO];refine cQ (λh=>?_) λh=>?_
  ·rw[aL jg];exact mQ Jt
  rw[aE jg];refine nN (λv=>v=decide (e.aq=9\/e.aq=11\/e.aq=18\/e.aq=19)) (λv hv=>?_) λj hj=>cQ (λh=>hj _ ?_) λh1=>cQ (λh=>hj _ ?_) λh2=>cQ (λh=>hj _ ?_) λh3=>hj _ ?_
  ·subst hv;refine cQ (λh=>?_) λh=>?_
   ·rw[aL B2];exact mQ Jt
   rw[aE qO];refine nN (λv=>v=decide (e.aq=12\/e.aq=16\/e.aq=20)) (λv hv=>?_) λj hj=>cQ (λh=>hj _ ?_) λh1=>cQ (λh=>hj _ ?_) λh2=>hj _ ?_
   ·subst hv;refine cQ (λh=>?_) λh=>?_
    ·rw[aL B2];exact mQ Jt
    rw[aE qO];refine cQ (λh=>?_) λh=>?_
    ·rw[aL jg];refine cQ (λh=>?_) λh=>?_
     ·rw[h];exact mQ Jt
     rw[h];exact mQ Jt
    rw[aE jg];refine cQ (λh=>?_) λh=>?_
    ·rw[aL jg];exact mQ Jt
    rw[aE jg];refine cQ (λh=>?_) λh=>?_
    ·rw[aL jg];exact mQ Jt
    rw[aE jg];exact mQ Jt
   all_goals (clear hj;simp_all;try rfl)
  all_goals (clear hj;simp_all;try rfl)
 all_goals (clear hj;simp_all;try rfl)
def agJ (ht:∀ n,NQ (dO n e.bM) λy=>y=bt):NQ (ml n e c) (λy=>y=Wr c (txB bt e)):=by
 unfold ml txB;have O:∀ {W:List ByS} {a:ByS},zi [32] (a.length+1) a=W->(W.any λx=>([]:ByS)==x)=false->NQ (ag (kz n e.bM a) λy9=>ag (aP n [y9] c) λy10=>.ok (y10)) (λy=>y=Wr c (Ę e.bM W)):=λhW h0=>dB (agG hW h0) λy hy=>mQ (hy▸Jt);refine nN (λv=>v=decide (e.aq=10\/e.aq=4\/e.aq=11)) (λv hv=>?_) λj hj=>cQ (λh=>hj _ ?_) λh1=>cQ (λh=>hj _ ?_) λh2=>hj _ ?_
 ·subst hv;refine cQ (λh=>gN (by rw[aL B2,akb])) λh=>?_;rw[aE qO];refine cQ (λh=>?_) λh=>?_
  ·exact Ŵ
  rw[aE jg];refine cQ (λh=>?_) λh=>?_
  ·exact Ŵ
  rw[aE jg];refine cQ (λh=>?_) λh=>?_
  ·exact Ŵ
  rw[aE jg];refine cQ (λh=>?_) λh=>?_
  ·exact Ŵ
  rw[aE jg];refine cQ (λh=>?_) λh=>?_
  ·rw[aL jg];exact dB (ht n) λy hy=>mQ (hy▸Jt)
  rw[aE jg];exact mQ Jt
 all_goals (clear hj O;simp_all;try rfl)
def akc (ht:∀ n,NQ (dO n e.bM) λy=>y=bt):NQ (jv n e c) (λy=>y=Wr c (bt&&rfB e)):=by
 unfold jv rfB vi;refine dB (ht n) λy hy=>ql ?_;subst hy;rw[Jt];have fin:∀ {l:List Bool} {b:Bool},l.all id=b->NQ (ag (aP n l (Wr c y)) λz=>.ok z) (λz=>z=Wr c (y&&b)):=λh=>(mQ h).mono λz hz=>by rw[hz,xH]
 refine cQ (λh=>?_) λh=>?_
 ·rw[aL jg];exact dB (P:=λz=>z=(e.B==[]&&e.bT==[])) (gN rfl) λz hz=>fin (hz▸al3)
 rw[aE jg];refine cQ (λh=>?_) λh=>?_
 ·rw[aL jg];exact fin al3
 rw[aE jg];refine nN (λv=>v=Ę e.B W10) (λv hv=>?_) λj hj=>cQ (λh=>hj _ ?_) λh1=>cQ (λh=>hj _ ?_) λh2=>cQ (λh=>hj _ ?_) λh3=>hj _ ?_
 ·subst hv;refine cQ (λh=>?_) λh=>?_
  ·rw[aL h];exact fin al3
  rw[aE (by rw[h];decide)];exact fin rfl
 all_goals (clear hj fin;simp only[Ę,rJ,List.any_nil];simp only[*,lP,Bool.or_false,Bool.true_or,Bool.or_true])
def akd {q:cu} {b0 b1:Bool} (ht:∀ n,NQ (dO n e.bM) λy=>y=bt) (h0:∀ n,NQ (dO n e.B) λy=>y=b0) (h1:∀ n,NQ (dO n e.bT) λy=>y=b1):NQ (qX n e q c) (λy=>y=Wr c (Oj bt b0 b1 e q)):=by
 unfold qX Oj ji;refine nN (λv=>v=Wr c (decide (e.aq>=1)&&decide (e.aq<=22))) (λv hv=>?_) λj hj=>cQ (λh=>ql (hj _ (by rw[h,Jt];rfl))) λh=>ql (hj _ Cu);subst hv;refine dB agI λv hv=>dB (agJ ht) λw hw=>?_;subst hv hw;rw[xH,xH,<- qK (decide (e.aq>=1)&&decide (e.aq<=22)) (Ş e) (txB bt e)];generalize (((decide (e.aq>=1)&&decide (e.aq<=22))&&Ş e)&&txB bt e)=A;refine nN (λv=>v=decide (e.aq=13\/e.aq=22)) (λv hv=>?_) λj hj=>cQ (λh=>hj _ ?_) λh=>hj _ ?_
 ·subst hv;refine nN (λv=>v=Wr c (A&&ZP e)) (λv hv=>?_) λj hj=>cQ (λh=>dB DL λy hy=>ql (hj _ ?_)) λh=>x5 λ_=>dB DL λy hy=>ql (hj _ ?_)
  ·subst hv;generalize (A&&ZP e)=A;refine nN (λv=>e.aq≠10/\v=Wr c (A&&Xg e)) (λv hv=>?_) λj hj=>cQ (λh=>?_) λh=>nN (λv=>v=decide (e.aq=2\/e.aq=14)) (λv hv=>?_) λk hk=>cQ (λh=>hk _ ?_) λh=>hk _ ?_
   ·obtain ⟨hk,rfl⟩:=hv;rw[aE hk];refine nN (λv=>v=Wr c (A&&Xg e&&IJ e.aq b0 b1 e.B e.bT 15)) (λv hv=>?_) λj hj=>cQ (λh=>?_) λh=>?_
    ·subst hv;refine nN (λv=>v=Wr c (A&&Xg e&&IJ e.aq b0 b1 e.B e.bT 15&&((q.TY||e.aq !=18)&&(q.EM||e.aq !=15)))) (λv hv=>?_) λj hj=>cQ (λh=>cQ (λh2=>ql (hj _ ?_)) λh2=>ql (hj _ ?_)) λh=>cQ (λh2=>ql (hj _ ?_)) λh2=>ql (hj _ ?_)
     ·subst hv;unfold ş;have e3:∀ x,(A&&Xg e&&IJ e.aq b0 b1 e.B e.bT 15&&((q.TY||e.aq !=18)&&(q.EM||e.aq !=15))&&x)=(A&&((Xg e&&IJ e.aq b0 b1 e.B e.bT 15)&&(((q.TY||e.aq !=18)&&(q.EM||e.aq !=15))&&x))):=λx=>by simp only[qK]
      rw[<- e3];refine cQ (λh=>cQ (λh2=>?_) λh2=>?_) λh=>cQ (λh2=>?_) λh2=>?_
      ·rw[h] at h2;cases h2
      ·rw[h];exact (mQ Xh).mono λz hz=>by rw[hz,xH];rfl
      ·rw[h];exact (mQ Xh).mono λz hz=>by rw[hz,xH];rfl
      rw[h] at h2;cases h2
     ·rw[xH,Xh,h,h2];rfl
     ·rw[xH,Xh,h,h2];rfl
     ·rw[xH,Xh,h,h2];rfl
     rw[xH,Xh,h,h2];rfl
    ·unfold qD;have h:e.aq=15:=by simpa using h
     refine dB (P:=λy=>y=IJ e.aq b0 b1 e.B e.bT 15) ?_ λy hy=>ql Va;exact ah2
    have h:e.aq≠15:=by simpa using h
    refine dB (P:=λy=>y=IJ e.aq b0 b1 e.B e.bT 15) (gN (by unfold IJ;rw[aE h])) λy hy=>ql Va
   ·have h:e.aq=10:=by simpa using h
    rw[aL h];exact dB (akc ht) λy hy=>gN (by rw[hy,xH])
   ·have hk:e.aq≠10:=by simpa using h
    subst hv;refine cQ (λh=>cQ (λh2=>ql (hj _ ⟨hk,?_⟩)) λh2=>ql (hj _ ⟨hk,?_⟩)) λh=>cQ (λh3=>dB (P:=λy=>y=(decide (e.U>=-1000000000000000)&&decide (e.U<=1000000000000000))) ?_ λy hy=>ql (hj _ ⟨hk,?_⟩)) λh3=>ql (hj _ ⟨hk,?_⟩)
    ·rw[xH,Jt];unfold Xg;rw[aL B2,h2];rfl
    ·rw[xH,Jt];unfold Xg;rw[aL B2,h2];rfl
    ·unfold mB;exact cQ (λh=>gN Cu) λh=>gN Cu
    ·rw[xH,Xh,hy];unfold Xg;rw[aE qO,aL Nk]
    rw[xH,Jt];unfold Xg;rw[aE qO,aE Nk]
   all_goals (clear hj hk;simp_all;try rfl)
  ·rw[xH,Xh,hy];unfold ZP;rw[aL B2]
  rw[xH,Xh,hy];unfold ZP;rw[aE qO]
 all_goals (clear hj;simp_all;try rfl)
end
end
def cnt (K:Int):Int×Int:=if K=9\/K=11\/K=18\/K=19 then (1,1) else if K=12\/K=16\/K=20 then (2,2) else if K=15 then (2,3) else if K=5 then (1,1000000) else if K=17 then (2,1000000) else if K=14 then (0,1000000) else if K=21 then (0,1000000) else (0,0)
def nuB (e:ak):Bool:=if e.aq=2 then e.U==0||e.U==1 else if e.aq=14 then e.U==0||(e.U==1&&decide ((e.bK.length:Int)>0)) else if e.aq=3 then decide (e.U>=0)&&decide (e.U<=1000000000000000) else e.U==0
def ab7 {K:Int}:Ev (λ_=>yA K) (λy=>y=cnt K) di:=by
 unfold yA cnt;refine bz (λv=>v=decide (K=9\/K=11\/K=18\/K=19)) (λv hv=>?_) λj hj=>aw (λh=>hj _ ?_) λh1=>aw (λh=>hj _ ?_) λh2=>aw (λh=>hj _ ?_) λh3=>hj _ ?_
 ·subst hv;refine aw (λh=>aj (by rw[aL B2])) λh=>?_;rw[aE qO];refine bz (λv=>v=decide (K=12\/K=16\/K=20)) (λv hv=>?_) λj hj=>aw (λh=>hj _ ?_) λh1=>aw (λh=>hj _ ?_) λh2=>hj _ ?_
  ·subst hv;refine aw (λh=>aj (by rw[aL B2])) λh=>?_;rw[aE qO];refine aw ID λh=>?_;rw[aE jg];refine aw ID λh=>?_;rw[aE jg];refine aw ID λh=>?_;rw[aE jg];refine aw ID λh=>?_;rw[aE jg];exact aw ID λh=>aj QL
  all_goals (clear hj;simp_all;try rfl)
 all_goals (clear hj;simp_all;try rfl)
def ę:Ev (λ_=>wV e) (λy=>y=nuB e) di:=by
 unfold wV nuB;refine aw (λh=>?_) λh=>?_
 ·exact ada
 rw[aE jg];refine aw (λh=>?_) λh=>?_
 ·rw[aL jg];exact aw (λh=>aj Cu) λh=>aw (λh2=>aj (by rw[h,h2];rfl)) λh2=>aj (by rw[h,h2];rfl)
 rw[aE jg];refine aw (λh=>?_) λh=>aj QL;exact ada
def akf (hl:e.bK.length<=70000) (xd:e.aq≠10) (h1:1<=e.aq) (h2:e.aq<=22):(Ş e&&Xg e)=(!decide ((e.bK.length:Int)<(cnt e.aq).1)&&(!decide ((e.bK.length:Int)>(cnt e.aq).2)&&nuB e)):=by
 unfold Ş Xg cnt nuB;generalize e.aq=K at *;generalize e.U=N at *;generalize e.bK.length=L at *;by_cases Lu:K=14
 ·subst Lu;by_cases hz:N=0
  ·subst hz;rw[cY];simp[show XT .i64 0 1=0 by decide];omega
  by_cases ho:N=1
  ·subst ho;rw[cY];simp[show XT .i64 1 1=1 by decide];omega
  rw[cY];simp[hz,ho]
 have hk:K=1\/K=2\/K=3\/K=4\/K=5\/K=6\/K=7\/K=8\/K=9\/K=11\/K=12\/K=13\/K=15\/K=16\/K=17\/K=18\/K=19\/K=20\/K=21\/K=22:=by omega
 clear xd h1 h2 Lu;obtain rfl|rfl|rfl|rfl|rfl|rfl|rfl|rfl|rfl|rfl|rfl|rfl|rfl|rfl|rfl|rfl|rfl|rfl|rfl|rfl:=hk<;>rw[cY]<;>simp<;>omega
section
variable {m:Nat->Nat}
def akg (hm:bL m) {bt:Bool} (ht:∀ m,bL m->Ev (λi=>eJ (m i) e.bM) (λy=>y=bt) di):Ev (λi=>Bb (m i) e) (λy=>y=(txB bt e&&(bt||e.aq !=10))) di:=by
 unfold Bb txB;have I:∀ {l:List ByS},l.length<=70000->Ev (λi=>ag (wW (m i) e.bM l) λy=>.ok y) (λy=>y=Ę e.bM l) di:=λh=>(aka hm h).gw λy hy=>aj hy;have kn:∀ {k:Int},(e.aq==k)=true->k≠10->(bt||e.aq !=10)=true:=λh h2=>by
  have:e.aq≠10:=λq=>h2 (by rw[cg] at h;omega);simp[this]
 refine bz (λv=>v=decide (e.aq=4\/e.aq=11)) (λv hv=>?_) λj hj=>aw (λh=>hj _ ?_) λh1=>hj _ ?_
 ·subst hv;refine aw (λh=>aj ?_) λh=>?_
  ·have h:=bh h;rw[aL (.inr h)];have:e.aq≠10:=by omega
   simp[this]
  have h4:=aW h;by_cases xd:e.aq=10
  ·rw[aL (.inl xd),xd];refine aw du λ_=>aw du λ_=>aw du λ_=>aw du λ_=>aw (λ_=>(ht m hm).gw λy hy=>aj (by rw[hy];simp)) du
  rw[aE aB];refine aw (λh=>?_) λh=>?_
  ·exact Ů
  rw[aE jg];refine aw (λh=>?_) λh=>?_
  ·exact Ů
  rw[aE jg];refine aw (λh=>?_) λh=>?_
  ·exact Ů
  rw[aE jg];refine aw (λh=>?_) λh=>?_
  ·exact Ů
  rw[aE jg];refine aw (λh=>ao jg xd) λ_=>aw (λh=>?_) λh=>aj ?_
  ·rw[aL jg,kn h dN,pR];exact (ht m hm).gw λy hy=>aj hy
  rw[aE jg];simp[xd]
 all_goals (clear hj;simp_all;try rfl)
def agK (hm:bL m):Ev (λi=>tD (m i) e) (λy=>y=rfB e) di:=by
 unfold tD rfB;refine aw (λh=>?_) λh=>?_
 ·have h:e.B=[]:=by simpa using h
  rw[aL h,h];refine aw (λh2=>aw (λh3=>aj ?_) λh3=>aj ?_) λh2=>aj ?_
  ·rw[h2,h3];rfl
  ·rw[h2,h3];rfl
  rw[h2];rfl
 have uB:e.B≠[]:=by simpa using h
 rw[aE uB];refine bz (λv=>v=if e.B=agH then (1:Int) else 0) (λv hv=>(aka hm dN).gw λy hy=>?_) λj hj=>aw (λh=>hj _ (by rw[aL jg])) λh=>hj _ QL;subst hy hv;have fin:∀ {k:Int} {R:Bool},R=((e.bK.length:Int)==k&&(e.bT==[]&&decide (e.U>=0)))->Ev (λ_=>br (e.bT==([]:ByS)) (br (decide (e.U>=0)) (.ok ((e.bK.length:Int)==k)) (.ok false)) (.ok false)) (λy=>y=R) di:=λ{k R} hR=>by
  subst hR;refine aw (λh=>aw (λh2=>aj ?_) λh2=>aj ?_) λh=>aj ?_
  ·rw[h,h2];simp
  ·rw[h,h2];simp
  rw[h];simp
 by_cases hl:e.B=agH
 ·rw[aL hl,aL hl];exact aw (λ_=>fin rfl) λh=>by rw[hl] at h;exact Ki
 rw[aE hl,aE hl];have e4:(List.any [([102,105,101,108,100]:ByS),[108,101,116],[108,111,111,112],[112,97,99,107,97,103,101],[117,110,107,110,111,119,110]] λx=>e.B==x)=Ę e.B W10:=by
  simp only[Ę,rJ,List.any_nil];rw[beq_eq_false_iff_ne.2 (show e.B≠[108,101,116] from hl),lP]
 rw[e4];refine aw (λh=>?_) λh=>aj ?_
 ·rw[aL h];exact fin rfl
 rw[aE (by rw[h];decide)]
end
def agL {q:cu}:ş 10 q=true:=by unfold ş;cases q.TY<;>cases q.EM<;>cases q.yh<;>rfl
section
variable {m:Nat->Nat}
def SY (hm:bL m) {n0 n1:ByS} (h0:∀ m,bL m->Ev (λi=>eJ (m i) n0) (λy=>y=b0) di) (h1:∀ m,bL m->Ev (λi=>eJ (m i) n1) (λy=>y=b1) di):Ev (λi=>wi (m i) (mz.mk n0 n1)) (λy=>y=(b0&&(b1&&(n0 !=n1)))) di:=by
 unfold wi;refine (h0 m hm).gw λy hy=>aw (λh=>(h1 m hm).gw λz hz=>aw (λh2=>aj ?_) λh2=>aj ?_) λh=>aj ?_
 ·rw[<- hy,h,<- hz,h2];rfl
 ·rw[<- hy,h,<- hz,h2];rfl
 rw[<- hy,h];rfl
def Ě (hm:bL m) (he:jd e) (ht:∀ m,bL m->Ev (λi=>eJ (m i) e.bM) (λy=>y=bt) di) (h0:∀ m,bL m->Ev (λi=>eJ (m i) e.B) (λy=>y=b0) di) (h1:∀ m,bL m->Ev (λi=>eJ (m i) e.bT) (λy=>y=b1) di) :
  Ev (λi=>wX (m i) e) (λy=>∀ q,Oj bt b0 b1 e q=(y&&ş e.aq q)) di:=by
 have l1:=he.l1
 have l2:=he.l2
 have l3:=he.l3
 unfold wX
 refine aR (λh=>aj λq=>?_) λg1=>aR (λh=>aj λq=>?_) λg2=>(akg hm ht).gw λy hy=>cZ (λh=>aj λq=>?_) λg3=>(E9 hm l3 he.l4).gw λz hz=>aw (λh=>aj λq=>?_) λg4=>?_
 ·unfold Oj;rw[bw (show ¬ e.aq>=1 by omega)];rfl
 ·unfold Oj;rw[bw (show ¬ e.aq<=22 by omega),qJ];rfl
 ·rw[hy] at h
  unfold Oj
  cases ht:txB bt e with
  | false=>simp
  | true=>
   rw[ht] at h
   have:bt=false/\e.aq=10:=by simpa using h
   rw[this.1,aL this.2];simp
 ·rw[hz] at h
  unfold Oj ZP
  rw[h];simp
 rw[hy] at g3
 rw[hz] at g4
 have g3':txB bt e=true/\(bt=true\/e.aq≠10):=by simpa using g3
 have ow:∀ q,ZP e=true->Oj bt b0 b1 e q=(Ş e&&(if e.aq=10 then bt&&rfB e else (Xg e&&IJ e.aq b0 b1 e.B e.bT 15)&&ş e.aq q)):=λq hd=>by
  unfold Oj
  rw[aX (show e.aq>=1 by omega),aX (show e.aq<=22 by omega),g3'.1,hd];simp
 refine bz (λv=>v=decide (e.aq=13\/e.aq=22)) (λv hv=>?_) λj hj=>aw (λh=>hj _ ?_) λh=>hj _ ?_
 ·subst hv
  refine bz (λ_=>ZP e=true) (λ_ hd=>?_) λj hj=>cZ (λh=>aR (λh2=>aj λq=>?_) λh2=>aR (λh3=>aj λq=>?_) λh3=>hj _ ?_) λh=>hj _ ?_
  ·refine aw (λh=>(agK hm).gw λy hy=>aj λq=>?_) λh=>?_
   ·have h:e.aq=10:=by simpa using h
    rw[ow q hd,aL h,hy,h,agL,pR,g3'.2.resolve_right (λw=>w h)]
    unfold Ş;rw[aL (.inl h)];simp
   have xd:e.aq≠10:=by simpa using h
   have sn:=akf l1 xd aB aB
   have ow2:∀ q,Oj bt b0 b1 e q=((Ş e&&Xg e)&&IJ e.aq b0 b1 e.B e.bT 15&&ş e.aq q):=λq=>by
    rw[ow q hd,aE xd]
    simp only[qK]
   refine ai ab7 λc hc=>?_
   subst hc
   refine aw (λh=>aj λq=>?_) λh=>aw (λh2=>aj λq=>?_) λh2=>ę.gw λy hy=>cZ (λh3=>aj λq=>?_) λh3=>?_
   ·rw[ow2,sn,h];rfl
   ·rw[ow2,sn,h2];simp
   ·rw[ow2,sn,<- hy,h3];simp
   rw[h,h2,<- hy,h3] at sn
   have ow3:∀ q,Oj bt b0 b1 e q=(IJ e.aq b0 b1 e.B e.bT 15&&ş e.aq q):=λq=>by rw[ow2,sn];rfl
   unfold IJ at ow3
   refine aw (λh=>(SY hm h0 h1).gw λz hz=>aj λq=>?_) λh=>aw (λh4=>aj λq=>?_) λh4=>aj λq=>?_
   ·rw[ow3,aL jg,hz]
   ·rw[ow3,aE jg,h4,pU]
   ·rw[ow3,aE jg,h4,xP]
  ·exact aim
  ·exact aim
  ·unfold ZP;rw[aE qO,cg.2 (show (e.fi.length:Int)+(e.J.length:Int)=0 by omega),g4];rfl
  ·unfold ZP;rw[aL B2,g4];rfl
 all_goals (clear hj;simp_all;try rfl)
end
def akh (s:ByS):∃ b:Bool,(∀ n,NQ (pa n s) λy=>(y.2.eU==0)=b)/\∀ m,bL m->Ev (λi=>lL (m i) s) (λz=>(z.2.eU==0)=b) di:=by
 obtain ⟨y,_,N,hN⟩:=(xa (s:=s) mG).get;have hy:=hN N J6;have e:∀ {a b:Int},(a=0↔b=0)->(a==0)=(b==0):=λh=>by rw[cY,cg,cg];exact h
 refine ⟨y.2.eU==0,λn=>⟨λp hp=>?_,λw hw=>?_⟩,λm hm=>((SX (n:=N) hm).1 y hy).qh λz hz=>e hz⟩
 ·exact ((SX (n:=n) mG).2 p hp).get.elim λ_ h=>h.1
 obtain ⟨z,⟨h1,h2⟩,_⟩:=(((SX (n:=N) mG).1 y hy).both ((SX (n:=n) mG).1 w hw)).get;exact e (h2.symm.trans h1)
def Xi (d:aK):Bool:=if d.aq=1 then decide (d.eo>=1)&&decide (d.eo<=3) else d.eo==0
def Xj (rb ib:Bool) (d:aK) (p:Bool):Bool:=if d.aq=1 then true else if d.aq=2 then rb else if d.aq=4 then p&&ib else d.ni==[]&&(p||d.aq !=8)
def Xk (d:aK):Bool:=!Y6 d.so&&(!Y6 d.J&&(!Y6 [d.lR]&&(if d.aq=5\/d.aq=6 then true else (d.lZ.length:Int)+(d.J.length:Int)==0)))
def YC (K:Int):Int:=if K=7 then 2 else if K=8 then 0 else 1
def Mk (rb ib b0 b1:Bool) (d:aK) (p:Bool):Bool:=(decide (d.aq>=1)&&decide (d.aq<=8))&&Xk d&&Xi d&&Xj rb ib d p&&IJ d.aq b0 b1 d.B d.bT 6&&(d.bK.length:Int)==YC d.aq
def SZ (K:Int) (p:Bool):Bool:=p||(K !=4&&K !=8)
section
variable {m:Nat->Nat} {rb ib:Bool}
def ab8 (hm:bL m) (hd:V d) (hr:∀ m,bL m->Ev (λi=>lL (m i) d.ni) (λz=>(z.2.eU==0)=rb) di) (hi:∀ m,bL m->Ev (λi=>eJ (m i) d.ni) (λy=>y=ib) di) (h0:∀ m,bL m->Ev (λi=>eJ (m i) d.B) (λy=>y=b0) di) (h1:∀ m,bL m->Ev (λi=>eJ (m i) d.bT) (λy=>y=b1) di) :
  Ev (λi=>BQ (m i) d) (λy=>∀ p,Mk rb ib b0 b1 d p=(y&&SZ d.aq p)) di:=by
 unfold BQ
 refine aR (λh=>aj λq=>?_) λg1=>aR (λh=>aj λq=>?_) λg2=>(E9 hm hd.l5 hd.l6).gw λy1 Qk=>aw (λh=>aj λq=>?_) λg3=>(E9 hm (by show 1<=70000;decide) (by simpa using hd.l7)).gw λy2 Lp=>aw (λh=>aj λq=>?_) λg4=>(E9 hm hd.l3 hd.l4).gw λy3 hy3=>aw (λh=>aj λq=>?_) λg5=>?_
 ·unfold Mk;rw[bw (show ¬ d.aq>=1 by omega)];rfl
 ·unfold Mk;rw[bw (show ¬ d.aq<=8 by omega),qJ];rfl
 ·unfold Mk Xk;rw[<- Qk,h];simp
 ·unfold Mk Xk;rw[<- Lp,h];simp
 ·unfold Mk Xk;rw[<- hy3,h];simp
 have ok:(decide (d.aq>=1)&&decide (d.aq<=8))=true:=by rw[aX (show d.aq>=1 by omega),aX (show d.aq<=8 by omega)];rfl
 have li:Xk d=if d.aq=5\/d.aq=6 then true else (d.lZ.length:Int)+(d.J.length:Int)==0:=by unfold Xk;rw[<- Qk,<- Lp,<- hy3,g3,g4,g5];rfl
 refine bz (λv=>v=if d.aq=7 then (2:Int) else 1) (λv hv=>?_) λj hj=>aw (λh=>hj _ (by rw[aL jg])) λh=>hj _ QL
 refine bz (λw=>w=YC d.aq) (λw hw=>?_) λj hj=>aw (λh=>hj _ ?_) λh=>hj _ ?_
 rotate_left
 ·have h:d.aq=8:=by simpa using h
  unfold YC;rw[aE aB,aL h]
 ·have h:d.aq≠8:=by simpa using h
  unfold YC;rw[hv]
  by_cases h7:d.aq=7
  ·rw[aL h7,aL h7]
  ·rw[aE h7,aE h7,aE h]
 subst hw
 refine bz (λ_=>Xi d=true/\(d.bK.length:Int)==YC d.aq) (λ_ hp=>?_) λj hj=>aw (λh=>aj λq=>?_) λh=>?_
 rotate_left
 ·unfold Mk
  rw[show ((d.bK.length:Int)==YC d.aq)=false by simpa using h];simp
 ·have hn:((d.bK.length:Int)==YC d.aq)=true:=by simpa using h
  have bad:Xi d=false->∀ q,Mk rb ib b0 b1 d q=(false&&SZ d.aq q):=λh q=>by unfold Mk;rw[h];simp
  refine aw (λh=>aR (λh2=>aj (bad ?_)) λh2=>aR (λh3=>aj (bad ?_)) λh3=>aw (λh4=>?_) λ_=>hj _ ⟨?_,hn⟩) λh=>aw (λ_=>aw (λh2=>aj (bad ?_)) λh2=>hj _ ⟨?_,hn⟩) λh4=>?_
  ·unfold Xi;rw[aL jg,bw aB];rfl
  ·unfold Xi;rw[aL jg,bw (show ¬ d.eo<=3 by omega),qJ]
  ·have:d.aq=1:=by simpa using h
   rw[this] at h4;cases h4
  ·unfold Xi;rw[aL jg,aX (show d.eo>=1 by omega),aX (show d.eo<=3 by omega)];rfl
  ·unfold Xi;rw[aE jg];simpa using h2
  ·unfold Xi;rw[aE jg];simpa using h2
  ·have:d.aq≠1:=by simpa using h
   have h4:d.aq=1:=by simpa using h4
   exact ao h4 this
 obtain ⟨hp,hn⟩:=hp
 refine bz (λ_=>Xk d=true) (λ_ hl=>?_) λj hj=>?_
 rotate_left
 ·rw[li] at hj
  have bad:Xk d=false->∀ q,Mk rb ib b0 b1 d q=(false&&SZ d.aq q):=λh q=>by unfold Mk;rw[h];simp
  rw[li] at bad
  refine aw (λh5=>aw (λh6=>aR (λh=>aj (bad ?_)) λh=>aR (λh2=>aj (bad ?_)) λh2=>hj _ ?_) λh6=>hj _ ?_) λh5=>hj _ ?_
  ·exact aer
  ·exact aer
  ·exact aer
  ·rw[aL (.inr (by simpa using h6))]
  ·rw[aL (.inl Nl)]
 have dw:∀ q,Mk rb ib b0 b1 d q=(Xj rb ib d q&&IJ d.aq b0 b1 d.B d.bT 6):=λq=>by
  unfold Mk;rw[ok,hl,hp,hn];simp
 refine bz (λ_=>IJ d.aq b0 b1 d.B d.bT 6=true) (λ_ hna=>?_) λj hj=>?_
 ·have fin:∀ {y:Bool},(∀ q,Xj rb ib d q=(y&&SZ d.aq q))->∀ q,Mk rb ib b0 b1 d q=(y&&SZ d.aq q):=λh q=>by rw[dw,hna,h];simp
  refine aw (λh=>aj (fin λq=>?_)) λh1=>aw (λh=>(hr m hm).gw λz hz=>aj (fin λq=>?_)) λh2=>aw (λh=>(hi m hm).gw λz hz=>aj (fin λq=>?_)) λh4=>aj (fin λq=>?_)
  ·unfold Xj SZ;rw[aL jg,show d.aq=1 by simpa using h];cases q<;>rfl
  ·unfold Xj SZ;rw[aE FY,aL jg,hz,show d.aq=2 by simpa using h];cases q<;>simp
  ·unfold Xj SZ;rw[aE FY,aE xq,aL jg,hz,show d.aq=4 by simpa using h];cases q<;>simp
  ·have k4:(d.aq !=4)=true:=by simpa using h4
   unfold Xj SZ;rw[aE FY,aE xq,aE (by simpa using h4),k4];rfl
 ·have bad:IJ d.aq b0 b1 d.B d.bT 6=false->∀ q,Mk rb ib b0 b1 d q=(false&&SZ d.aq q):=λh q=>by rw[dw,h];simp
  have tail:d.aq≠6->Ev (λi=>br (d.B !=([]:ByS)) (.ok (false)) (br (d.bT !=([]:ByS)) (.ok (false)) (j i ()))) (λy=>∀ p,Mk rb ib b0 b1 d p=(y&&SZ d.aq p)) di:=λhk=>by
   refine aw (λh=>aj (bad ?_)) λh=>aw (λh2=>aj (bad ?_)) λh2=>hj _ ?_
   ·unfold IJ;rw[aE hk,show (d.B==[])=false by simpa using h];rfl
   ·unfold IJ;rw[aE hk,show (d.bT==[])=false by simpa using h2,qJ]
   ·unfold IJ;rw[aE hk,show (d.B==[])=true by simpa using h,show (d.bT==[])=true by simpa using h2];rfl
  refine aw (λh=>(SY hm h0 h1).gw λz hz=>cZ (λh2=>aj (bad ?_)) λh2=>aw (λh3=>?_) λ_=>hj _ ?_) λh=>aw (λ_=>tail jg) λh3=>?_
  ·unfold IJ;rw[aL jg,<- hz,h2]
  ·rw[show d.aq=6 by simpa using h] at h3;cases h3
  ·unfold IJ;rw[aL jg,<- hz,h2]
  ·have:d.aq≠6:=by simpa using h
   have h3:d.aq=6:=by simpa using h3
   exact ao h3 this
end
section
def pick {β:Type} [Inhabited β] {l:List α} {P:Nat->α->β->Prop} (h:∀ i x,l[i]?=some x->∃ y,P i x y):∃ f:Nat->β,∀ i x,l[i]?=some x->P i x (f i):=by
 refine Classical.axiomOfChoice (r:=λi y=>∀ x,l[i]?=some x->P i x y) λi=>?_;cases e:l[i]? with
 | none=>exact ⟨default,λx hx=>by cases hx⟩
 | some x=>
  obtain ⟨y,hy⟩:=h i x e
  exact ⟨y,λx' hx=>by cases hx;exact hy⟩
def xG:Nat->(ak->Prop)×(aK->Prop)
 | 0=>(λ_=>False,λ_=>False)
 | K+1=>(λe=>(∀ x,x∈e.bK->(xG K).1 x)/\∀ d,d∈e.fi->(xG K).2 d,λd=>(∀ x,x∈d.bK->(xG K).1 x)/\∀ b,b∈d.lZ->(xG K).2 b)
def mx (f:Nat->Int) (a:Int):Nat->Int
 | 0=>a
 | v+1=>if f v>mx f a v then f v else mx f a v
variable {f:Nat->Int} {a:Int} {v:Nat}
def Mq:mx f a (v+1)=if f v>mx f a v then f v else mx f a v:=rfl
def ě {f:Nat->Int} {a:Int} (h:0<=a):∀ {v:Nat},0<=mx f 0 v/\mx f a v=if a>mx f 0 v then a else mx f 0 v
 | 0=>⟨Int.le_refl 0,by
  show a=if a>0 then a else 0
  obtain q|q:=Int.lt_or_le 0 a
  ·rw[if_pos q]
  rw[if_neg (by omega)];omega⟩
 | v+1=>by
  have ih:=@ě f a h v;rw[Mq,Mq];refine ⟨by split<;>omega,?_⟩;rw[ih.2];repeat' split
  all_goals omega
def sY (Z:Nat->Bool):Nat->Bool
 | 0=>true
 | v+1=>sY Z v&&Z v
def JT {Z:Nat->Bool} (h:Z v=false):∀ {w:Nat},v<w->sY Z w=false
 | w+1,hw=>by
  show (sY Z w&&Z w)=false;by_cases q:v=w
  ·rw[<- q,h,qJ]
  rw[JT h aB,xP]
def Fl (c:Y) (z:Bool) (lv k:Int):Y:=⟨c.uO||!z,c.deep||decide (lv+k>17)⟩
def VEx (K:Nat) (e:ak):Prop:=∃ k:Int,1<=k/\k<=K/\(∀ m,bL m->Ev (λi=>kB (m i) e) (λy=>y=k) di)/\∀ cj io il,∃ z:Bool,(∀ m,bL m->Ev (λi=>oa (m i) e cj io il) (λy=>y=z) di)/\
 ∀ (n:Nat) (lv:Int) c,0<=lv->lv+K<=4000000000000000000->NQ (bS n e ⟨cj,io,il,lv⟩ c) (λy=>y=Fl c z lv k)
def VLs (K:Nat) (l:List aK):Prop:=∃ k:Int,0<=k/\k<=K/\(∀ m,bL m->Ev (λi=>rf (m i) l) (λy=>y=k) di)/\∀ p,∃ z:Bool,(∀ m,bL m->Ev (λi=>jB (m i) l p) (λy=>y=z) di)/\
 ∀ (n:Nat) (lv:Int) c,0<=lv->lv+K<=4000000000000000000->NQ (fH n l p lv c) (λy=>y=⟨c.uO||!z,c.deep||decide (0<k/\lv+k>17)⟩)
def YD (K:Int) (cj:Bool):Bool:=if K=16/\cj=true then true else K==10
def Y7 (e:ak) (v:Int):Bool:=if e.aq=14 then (e.U==0||decide (v+1<(e.bK.length:Int))) else false
variable {K:Int} {cj:Bool} {Q:α->Prop}
def aki {y ow io il:Bool} (h:ow=(y&&ş K ⟨cj,io,il,0⟩)) {j:Nat->Bool->aI α} (t:∀ b,b = !ow->Ev (λi=>j i b) Q di) :
  Ev (λi=>br (!y) (j i true) (br (K==18) (br (!io) (j i true) (br (K==15) (br (!il) (j i true) (br (K==13) (br (!cj) (j i true) (br (K==22) (j i cj) (j i false))) (br (K==22) (j i cj) (j i false)))) (br (K==13) (br (!cj) (j i true) (br (K==22) (j i cj) (j i false))) (br (K==22) (j i cj) (j i false))))) (br (K==15) (br (!il) (j i true) (br (K==13) (br (!cj) (j i true) (br (K==22) (j i cj) (j i false))) (br (K==22) (j i cj) (j i false)))) (br (K==13) (br (!cj) (j i true) (br (K==22) (j i cj) (j i false))) (br (K==22) (j i cj) (j i false)))))) Q di:=by
 unfold ş at h
 dsimp only at h
 subst h
 unfold bne at t
 cases y with
 | false=>exact aY (t _ rfl)
 | true=>
  refine aG ?_
  generalize e18:(K==18)=k18 at *
  generalize e15:(K==15)=k15 at *
  generalize e13:(K==13)=k13 at *
  generalize e22:(K==22)=k22 at *
  have d1:(k13&&k22)=false:=by rw[<- e13,<- e22];by_cases q:K=13<;>simp[q]
  cases k18<;>cases k15<;>cases k13<;>cases k22<;>first|(cases d1;done)|(cases io<;>cases il<;>cases cj<;>exact t _ rfl)
def agM {e:ak} {v:Int} {f:Bool->Bool->aI α} (hK:e.aq=K) (t:∀ a b,a=YD K cj->b=Y7 e v->NQ (f a b) Q) :
  NQ (br (K==16) (br cj (br (K==14) (br (e.U==0) (f true true) (gd (cD (v+1)) (f true (decide (v+1<(e.bK.length:Int)))))) (f true false)) (br (K==14) (br (e.U==0) (f (K==10) true) (gd (cD (v+1)) (f (K==10) (decide (v+1<(e.bK.length:Int)))))) (f (K==10) false))) (br (K==14) (br (e.U==0) (f (K==10) true) (gd (cD (v+1)) (f (K==10) (decide (v+1<(e.bK.length:Int)))))) (f (K==10) false))) Q:=by
 have il:∀ {a:Bool},a=YD K cj->NQ (br (K==14) (br (e.U==0) (f a true) (gd (cD (v+1)) (f a (decide (v+1<(e.bK.length:Int)))))) (f a false)) Q:=λha=>by
  refine cQ (λh=>cQ (λh2=>t _ _ ha ?_) λh2=>x5 λ_=>t _ _ ha ?_) λh=>t _ _ ha ?_
  ·unfold Y7;rw[hK,aL jg,h2];rfl
  ·unfold Y7;rw[hK,aL jg,h2];rfl
  ·unfold Y7;rw[hK,aE jg]
 refine cQ (λh=>cQ (λh2=>il ?_) λh2=>il ?_) λh=>il ?_
 ·unfold YD;rw[aL ⟨jg,h2⟩]
 ·unfold YD;rw[aE (λq=>by rw[q.2] at h2;cases h2)]
 ·unfold YD;rw[aE (λq=>by rw[q.1] at h;cases h)]
section
variable {K:Nat}
def Ĝ (he:jd e) (hK:K<=2000000000000000000) (hs:∀ x,x∈e.bK->VEx K x) (hd:VLs K e.fi):VEx (K+1) e:=by
 obtain ⟨kd,kd0,kd1,kdr,hdz⟩:=hd;obtain ⟨D,hD⟩:=pick (l:=e.bK) (P:=λ_ x (k:Int)=>1<=k/\k<=K/\(∀ m,bL m->Ev (λi=>kB (m i) x) (λy=>y=k) di)/\∀ cj io il,∃ z:Bool,(∀ m,bL m->Ev (λi=>oa (m i) x cj io il) (λy=>y=z) di)/\∀ (n:Nat) (lv:Int) c,0<=lv->lv+K<=4000000000000000000->NQ (bS n x ⟨cj,io,il,lv⟩ c) (λy=>y=Fl c z lv k)) λi x hx=>hs x (aQ hx);have l1:=he.l1;have mb:∀ {a:Int} {v:Nat},0<=a->a<=K->v<=e.bK.length->mx D a v<=K:=λ{a v} h0 h1=>by
  induction v with
  | zero=>exact λ_=>h1
  | succ v ih=>
   intro hv
   have:=ih aB
   have:=(hD v _ (az (show v<e.bK.length by omega))).2.1
   rw[Mq];split<;>omega
 have m0:∀ {v:Nat},0<=mx D 0 v:=(ě (f:=D) Cq).1;have mk:=ě (f:=D) kd0 (v:=e.bK.length);have mkb:=mb kd0 kd1 HN;refine ⟨mx D kd e.bK.length+1,by have:=mk.1;rw[mk.2];split<;>omega,aB,λm hm=>?_,λcj io il=>?_⟩
 ·refine bX (F:=λn=>kB n e) hm λm hm=>?_;show Ev (λi=>sQ (m i) (mV (m i)) e) _ _;unfold sQ;refine (kdr m hm).gw λy hy=>?_;have hy:y=kd:=hy;subst hy;refine bN hm (λw:Int×Int=>0<=w.2/\w.2<=e.bK.length/\w.1=mx D y w.2.toNat) (λw=>(e.bK.length - w.2).toNat) ⟨dR 0,eX,rfl⟩ ?_;rintro ⟨a,v⟩ ⟨v0,v1,v2⟩ next hn;dsimp only at v0 v1 v2 hn ⊢;refine aR (λh=>gm v0 h λx hx=>((hD _ x hx).2.2.1 m hm).gw λz hz=>aH (hn _ ⟨eX,eX,?_⟩ eX)) λh=>?_
  ·have hz:z=D v.toNat:=hz;dsimp only;rw[show (v+1).toNat=v.toNat+1 by omega,Mq,<- v2,<- hz]
  have:v.toNat=e.bK.length:=by omega
  rw[v2,this];exact dy (by unfold cD;have:=mk.1;have:=mk.2;omega) uY
 obtain ⟨bt,tl,tr⟩:=I5 e.bM;obtain ⟨b0,l0,r0⟩:=I5 e.B;obtain ⟨b1,l1',r1⟩:=I5 e.bT;obtain ⟨zd,zdr,zdl⟩:=hdz (e.aq==13);obtain ⟨Z,hZ⟩:=pick (l:=e.bK) (P:=λu x (z:Bool)=>(∀ m,bL m->Ev (λi=>oa (m i) x (YD e.aq cj) (e.aq==17) (Y7 e u)) (λy=>y=z) di)/\∀ (n:Nat) (lv:Int) c,0<=lv->lv+K<=4000000000000000000->NQ (bS n x ⟨YD e.aq cj,e.aq==17,Y7 e u,lv⟩ c) (λy=>y=Fl c z lv (D u))) λi x hx=>(hD i x hx).2.2.2 (YD e.aq cj) (e.aq==17) (Y7 e i);refine ⟨Oj bt b0 b1 e ⟨cj,io,il,0⟩&&(sY Z e.bK.length&&zd),λm hm=>?_,λn lv c h0 h1=>?_⟩
 ·refine bX (F:=λn=>oa n e cj io il) hm λm hm=>?_;show Ev (λi=>wZ (m i) (jN (m i)) e cj io il) _ _;unfold wZ;refine bz (λv=>v = !Oj bt b0 b1 e ⟨cj,io,il,0⟩) (λv hv=>?_) λj hj=>(Ě hm he tr r0 r1).gw λy hy=>?_
  ·subst hv;refine aw (λh=>aj (by rw[show Oj bt b0 b1 e ⟨cj,io,il,0⟩=false by simpa using h];rfl)) λh=>?_;rw[show Oj bt b0 b1 e ⟨cj,io,il,0⟩=true by simpa using h,pU];refine bN hm (λv:Int=>0<=v/\v<=e.bK.length/\sY Z v.toNat=true) (λv=>(e.bK.length - v).toNat) Nh ?_;rintro v ⟨v0,v1,v2⟩ next hn;refine aR (λh=>gm v0 h λx hx=>?_) λh=>?_
   ·refine bz (λw=>w=YD e.aq cj) (λw hw=>?_) λj hj=>aw (λh=>aw (λh2=>hj _ ?_) λh2=>hj _ ?_) λh=>hj _ ?_
    ·subst hw;refine bz (λw=>w=Y7 e v) (λw hw=>?_) λj hj=>aw (λh=>aw (λh2=>hj _ ?_) λh2=>aH (hj _ ?_)) λh=>hj _ ?_
     ·subst hw;have q:=(hZ _ x hx).1 m hm;rw[show ((v.toNat:Nat):Int)=v by omega] at q;refine q.gw λy hy=>?_;have hy:y=Z v.toNat:=hy;refine cZ (λh=>aj ?_) λh=>aH (hn _ ⟨aB,aB,?_⟩ aB)
      ·rw[JT (by rw[<- hy];exact h) (show v.toNat<e.bK.length by omega)];rfl
      exact ac9
     ·unfold Y7;rw[aL jg,h2];rfl
     ·unfold Y7;rw[aL jg,h2];rfl
     unfold Y7;rw[aE jg]
    ·unfold YD;rw[aL ⟨jg,h2⟩]
    ·unfold YD;rw[aE (λq=>by rw[q.2] at h2;cases h2)]
    unfold YD;rw[aE (λq=>by rw[q.1] at h;cases h)]
   rw[show e.bK.length=v.toNat by omega,v2];exact (zdr m hm).gw λy hy=>aj (by rw[hy];rfl)
  exact aki (hy ⟨cj,io,il,0⟩) λb hb=>hj b hb
 cases n with
 | zero=>exact yP
 | succ n=>
 show NQ (kT n (cK n) e ⟨cj,io,il,lv⟩ c) _;unfold kT;refine nN (λv=>v=⟨c.uO,c.deep||decide (lv>16)⟩) (λv hv=>?_) λj hj=>cQ (λh=>hj _ (by rw[h];simp)) λh=>hj _ (by rw[h];simp);subst hv;refine dB (akd tl l0 l1') λw hw=>?_;have ew:Oj bt b0 b1 e ⟨cj,io,il,lv⟩=Oj bt b0 b1 e ⟨cj,io,il,0⟩:=rfl;rw[ew] at hw;subst hw;generalize Oj bt b0 b1 e ⟨cj,io,il,0⟩=ow;refine NQ.iter (λs:Y×Int=>0<=s.2/\s.2<=e.bK.length/\s.1=⟨c.uO||!(ow&&sY Z s.2.toNat),c.deep||decide (lv+1+mx D 0 s.2.toNat>17)⟩) ?_ n ⟨dR 0,eX,?_⟩
 rotate_left
 ·exact adb
 rintro ⟨s,v⟩ ⟨v0,v1,v2⟩ next hn;dsimp only at v0 v1 v2 ⊢;have wl:IntKind.wrap .i64 (lv+1)=lv+1:=wrap_i64 aB aB;rw[wl];refine cQ (λh=>?_) λh=>?_
 ·have h:=bh h;refine nN (λw=>w=Fl s (Z v.toNat) (lv+1) (D v.toNat)) (λw hw=>x5 λ_=>hn _ ⟨eX,eX,?_⟩) λj hj=>NQ.el λx _ hx=>?_
  ·rw[hw,v2];exact ahT
  have lf:∀ {a b:Bool},a=YD e.aq cj->b=Y7 e v->NQ (ag ((cK n).bS x (cu.mk a (e.aq==17) b (lv+1)) s) λy=>j y) (λy=>y=Fl c (ow&&(sY Z e.bK.length&&zd)) lv (mx D kd e.bK.length+1)):=λha hb=>by
   subst ha hb;have q:=(hZ _ x hx).2 n (lv+1) s aB aB;rw[show ((v.toNat:Nat):Int)=v by omega] at q;exact dB q λy hy=>hj _ hy
  exact agM (f:=λa b=>ag ((cK n).bS x (cu.mk a (e.aq==17) b (lv+1)) s) λy=>j y) rfl λa b=>lf
 have h:=aW h;have ev:v.toNat=e.bK.length:=by omega
 rw[ev] at v2;refine dB (zdl n (lv+1) s aB aB) λy hy=>gN ?_;rw[hy,v2];unfold Fl;dsimp only;congr 1
 ·cases c.uO<;>cases ow<;>cases sY Z e.bK.length<;>cases zd<;>rfl
 exact ac8
end
end
def itm (n:Nat) (T:pY) (p1:Bool) (ĝ:aK) (k:aI Bool):aI Bool:=
 jn (λ(v16:Unit)=>jn (λ(v19:Bool)=>iter (λnext24 (v23:Int)=>br (decide (v23<(List.length ĝ.bK:Int))) (el ĝ.bK v23 λMI=>ag (T.oa MI v19 false false) λy36=>br (!y36) (.ok (false)) (gd (cD (v23+1)) (next24 (v23+1)))) k) n (0)) λj20=>br p1 (br (ĝ.aq==1) (j20 (true)) (br (ĝ.aq==2) (j20 (true)) (br (ĝ.aq==3) (j20 (true)) (j20 ((ĝ.aq==4)))))) (j20 (false))) λj17=>ag (BQ n ĝ) λy46=>br (!y46) (.ok (false)) (br (!p1) (br (ĝ.aq==4) (.ok (false)) (br (ĝ.aq==8) (.ok (false)) (ag (T.jB ĝ.lZ false) λy54=>br (!y54) (.ok (false)) (j17 ())))) (ag (T.jB ĝ.lZ false) λy57=>br (!y57) (.ok (false)) (j17 ())))
def Š (K:Int):Bool:=decide (K=1\/K=2\/K=3\/K=4)
section
variable {K:Nat}
def ab9 {n:Nat} {p rb ib b0 b1:Bool} {c:Y} {Q:Y->Prop} {T:gz} {lv:Int} (hr:∀ n,NQ (pa n d.ni) λy=>(y.2.eU==0)=rb) (hi:∀ n,NQ (dO n d.ni) λy=>y=ib) (h0:∀ n,NQ (dO n d.B) λy=>y=b0) (h1:∀ n,NQ (dO n d.bT) λy=>y=b1)
  (hk:NQ (jn (λ(v29:Bool)=>iter (λUJ (YE:Y×Int)=>br (decide (YE.2<(List.length d.bK:Int))) (el d.bK YE.2 λx42=>br p (br v29 (ag (T.bS x42 (cu.mk (YE.2==0) false false (IntKind.wrap .i64 (lv+1))) YE.1) λy48=>gd (cD (YE.2+1)) (UJ (y48,YE.2+1))) (ag (T.bS x42 (cu.mk false false false (IntKind.wrap .i64 (lv+1))) YE.1) λy50=>gd (cD (YE.2+1)) (UJ (y50,YE.2+1)))) (ag (T.bS x42 (cu.mk false false false (IntKind.wrap .i64 (lv+1))) YE.1) λy52=>gd (cD (YE.2+1)) (UJ (y52,YE.2+1)))) (ag (T.fH d.lZ false (IntKind.wrap .i64 (lv+1)) YE.1) λy54=>.ok (y54))) n (Wr ⟨c.uO,c.deep||decide (lv>16)⟩ (Mk rb ib b0 b1 d p),0)) λj30=>br (d.aq==1) (j30 (true)) (br (d.aq==2) (j30 (true)) (br (d.aq==3) (j30 (true)) (j30 ((d.aq==4)))))) Q):NQ (jA n T d p lv c) Q:=by
 unfold jA vi
 refine nN (λv=>v=⟨c.uO,c.deep||decide (lv>16)⟩) (λv hv=>?_) λj hj=>cQ (λh=>hj _ (by rw[h];simp)) λh=>hj _ (by rw[h];simp)
 subst hv
 generalize (Y.mk c.uO (c.deep||decide (lv>16)))=c at hk ⊢
 unfold Mk at hk
 refine nN (λv=>v=decide (d.aq=5\/d.aq=6)) (λv hv=>?_) λj hj=>cQ (λh=>hj _ ?_) λh=>hj _ ?_
 ·subst hv
  refine nN (λv=>v=Wr c (decide (d.aq>=1)&&decide (d.aq<=8))) (λv hv=>?_) λj hj=>cQ (λh=>ql (hj _ (by rw[h,Jt];rfl))) λh=>ql (hj _ Cu)
  subst hv
  generalize (decide (d.aq>=1)&&decide (d.aq<=8))=A at hk ⊢
  refine nN (λv=>v=Wr c (A&&Xk d)) (λv hv=>?_) λj hj=>dB DL λy1 Qk=>dB DL λy2 Lp=>dB DL λy3 hy3=>cQ (λh=>ql (hj _ ?_)) λh=>x5 λ_=>ql (hj _ ?_)
  ·subst hv
   refine nN (λv=>v=Wr c (A&&Xk d&&Xi d)) (λv hv=>?_) λj hj=>cQ (λh=>cQ (λh2=>ql (hj _ ?_)) λh2=>ql (hj _ ?_)) λh=>ql (hj _ ?_)
   ·subst hv
    refine nN (λv=>v=Wr c (A&&Xk d&&Xi d&&Xj rb ib d p)) (λv hv=>?_) λj hj=>cQ (λh=>hj _ ?_) λg1=>cQ (λh=>dB (hr n) λy hy=>ql (hj _ ?_)) λg2=>cQ (λh=>dB (hi n) λy hy=>ql (hj _ ?_)) λg4=>cQ (λh=>ql (hj _ ?_)) λh=>ql (hj _ ?_)
    ·subst hv
     refine nN (λv=>v=Wr c (A&&Xk d&&Xi d&&Xj rb ib d p&&IJ d.aq b0 b1 d.B d.bT 6)) (λv hv=>?_) λj hj=>cQ (λh=>?_) λh=>?_
     ·subst hv
      refine nN (λv=>v=YC d.aq) (λv hv=>?_) λj hj=>cQ (λh=>hj _ ?_) λh=>cQ (λh2=>hj _ ?_) λh2=>hj _ ?_
      ·subst hv
       refine ql ?_
       rw[xH,Jt]
       exact hk
      ·unfold YC;rw[aL jg]
      ·unfold YC;rw[aE jg,aL xq]
      ·unfold YC;rw[aE jg,aE xq]
     ·unfold qD
      have h:d.aq=6:=by simpa using h
      refine dB (P:=λy=>y=IJ d.aq b0 b1 d.B d.bT 6) ?_ λy hy=>ql Va
      exact ah2
     ·have h:d.aq≠6:=by simpa using h
      refine dB (P:=λy=>y=IJ d.aq b0 b1 d.B d.bT 6) (gN (by unfold IJ;rw[aE h])) λy hy=>ql Va
    ·unfold Xj;rw[aL jg,pR]
    ·rw[xH,Jt,hy];unfold Xj;rw[aE (by simpa using g1),aL jg]
    ·rw[xH,Xh,hy];unfold Xj;rw[aE (by simpa using g1),aE (by simpa using g2),aL jg]
    ·rw[xH,Xh,h];unfold Xj;rw[aE (by simpa using g1),aE (by simpa using g2),aE (by simpa using g4),Bool.true_or]
    ·rw[xH,Xh,h];unfold Xj;rw[aE (by simpa using g1),aE (by simpa using g2),aE (by simpa using g4),lP]
   ·rw[xH,Jt];unfold Xi;rw[aL jg,h2,pU]
   ·rw[xH,Jt];unfold Xi;rw[aL jg,h2,xP]
   ·rw[xH,Jt];unfold Xi;rw[aE jg]
  ·rw[xH,show [y1,y2,y3,true].all id=(y1&&(y2&&(y3&&true))) by simp,Qk,Lp,hy3];unfold Xk;rw[aL B2]
  ·rw[xH,show ∀ b,[y1,y2,y3,b].all id=(y1&&(y2&&(y3&&b))) by simp,Qk,Lp,hy3];unfold Xk;rw[aE qO]
 all_goals (clear hj hk;simp_all;try rfl)
end
def dit (n:Nat) (T:ra) (x13:aK) (a v:Int) (WW:Int×Int->aI Int):aI Int:=
 ag (T.rf x13.lZ) λy18=>iter (λnext22 (v21:Int×Int)=>br (decide (v21.2<(List.length x13.bK:Int))) (el x13.bK v21.2 λx29=>ag (T.kB x29) λy33=>gd (cD (v21.2+1)) (next22 (if y33>v21.1 then y33 else v21.1,v21.2+1))) (gd (cD (v21.1+1)) (gd (cD (v+1)) (WW (if v21.1+1>a then v21.1+1 else a,v+1))))) n (y18,0)
def VDx (K:Nat) (d:aK):Prop:=∃ k:Int,1<=k/\k<=K/\
 (∀ m,bL m->∀ {next:Nat->Int×Int->aI Int} {a v:Int} {Q:Int->Prop},0<=v->v<=100000->Ev (λi=>next i (if k>a then k else a,v+1)) Q di->Ev (λi=>dit (m i) (mV (m i)) d a v (next i)) Q di)/\
 ∀ p,∃ z:Bool,(∀ m,bL m->∀ {k:Nat->aI Bool} {Q:Bool->Prop},(z=true->Ev k Q di)->(z=false->Q false)->Ev (λi=>itm (m i) (jN (m i)) p d (k i)) Q di)/\
  ∀ (n:Nat) (lv:Int) c,0<=lv->lv+K<=4000000000000000000->NQ (gP n d p lv c) (λy=>y=Fl c z lv k)
section
variable {K:Nat}
def Ğ (hd:V d) (hK:K<=2000000000000000000) (hb:VLs K d.lZ) (hs:∀ x,x∈d.bK->VEx K x):VDx (K+1) d:=by
 obtain ⟨kb,kb0,kb1,kbr,hbz⟩:=hb;obtain ⟨D,hD⟩:=pick (l:=d.bK) (P:=λ_ x (k:Int)=>1<=k/\k<=K/\(∀ m,bL m->Ev (λi=>kB (m i) x) (λy=>y=k) di)/\∀ cj io il,∃ z:Bool,(∀ m,bL m->Ev (λi=>oa (m i) x cj io il) (λy=>y=z) di)/\∀ (n:Nat) (lv:Int) c,0<=lv->lv+K<=4000000000000000000->NQ (bS n x ⟨cj,io,il,lv⟩ c) (λy=>y=Fl c z lv k)) λi x hx=>hs x (aQ hx);have l1:=hd.l1;have mb:∀ {a:Int} {v:Nat},0<=a->a<=K->v<=d.bK.length->mx D a v<=K:=λ{a v} h0 h1=>by
  induction v with
  | zero=>exact λ_=>h1
  | succ v ih=>
   intro hv
   have:=ih aB
   have:=(hD v _ (az (show v<d.bK.length by omega))).2.1
   rw[Mq];split<;>omega
 have mk:=ě (f:=D) kb0 (v:=d.bK.length);have mkb:=mb kb0 kb1 HN;refine ⟨mx D kb d.bK.length+1,by have:=mk.1;rw[mk.2];split<;>omega,aB,λm hm {next a v Q} hv0 hv1 hn=>?_,λp=>?_⟩
 ·unfold dit;refine (kbr m hm).gw λy hy=>?_;have hy:y=kb:=hy;subst hy;refine bN hm (λw:Int×Int=>0<=w.2/\w.2<=d.bK.length/\w.1=mx D y w.2.toNat) (λw=>(d.bK.length - w.2).toNat) ⟨dR 0,eX,rfl⟩ ?_;rintro ⟨b,w⟩ ⟨v0,v1,v2⟩ next Jg;dsimp only at v0 v1 v2 Jg ⊢;refine aR (λh=>gm v0 h λx hx=>((hD _ x hx).2.2.1 m hm).gw λz hz=>aH (Jg _ ⟨eX,eX,?_⟩ eX)) λh=>?_
  ·have hz:z=D w.toNat:=hz;dsimp only;rw[show (w+1).toNat=w.toNat+1 by omega,Mq,<- v2,<- hz]
  have:w.toNat=d.bK.length:=by omega
  rw[v2,this];exact dy (by unfold cD;have:=mk.1;have:=mk.2;omega) (aH hn)
 obtain ⟨rb,rl,rr⟩:=akh d.ni;obtain ⟨ib,il,ir⟩:=I5 d.ni;obtain ⟨b0,l0,r0⟩:=I5 d.B;obtain ⟨b1,l1',r1⟩:=I5 d.bT;obtain ⟨zb,zbr,zbl⟩:=hbz false;obtain ⟨Z,hZ⟩:=pick (l:=d.bK) (P:=λu x (z:Bool)=>(∀ m,bL m->Ev (λi=>oa (m i) x (p&&Š d.aq&&((u:Int)==0)) false false) (λy=>y=z) di)/\∀ (n:Nat) (lv:Int) c,0<=lv->lv+K<=4000000000000000000->NQ (bS n x ⟨p&&Š d.aq&&((u:Int)==0),false,false,lv⟩ c) (λy=>y=Fl c z lv (D u))) λi x hx=>(hD i x hx).2.2.2 _ _ _;refine ⟨Mk rb ib b0 b1 d p&&(sY Z d.bK.length&&zb),λm hm {k Q} ht hf=>?_,λn lv c h0 h1=>?_⟩
 ·unfold itm;refine bz (λ_=>Mk rb ib b0 b1 d p=true/\zb=true) (λ_ hw=>?_) λj hj=>(ab8 hm hd rr ir r0 r1).gw λy hy=>?_
  ·obtain ⟨hw,hzb⟩:=hw;rw[hw,hzb,pU,pR] at ht hf;refine bz (λw=>w=(p&&Š d.aq)) (λw GA=>?_) λj hj=>aw (λhp=>aw (λh=>hj _ ?_) λg1=>aw (λh=>hj _ ?_) λg2=>aw (λh=>hj _ ?_) λg3=>hj _ ?_) λhp=>hj _ (by rw[hp];rfl)
   ·subst GA;refine bN hm (λv:Int=>0<=v/\v<=d.bK.length/\sY Z v.toNat=true) (λv=>(d.bK.length - v).toNat) Nh ?_;rintro v ⟨v0,v1,v2⟩ next hn;refine aR (λh=>gm v0 h λx hx=>?_) λh=>ht (by rw[show d.bK.length=v.toNat by omega];exact v2);have q:=(hZ _ x hx).1 m hm;rw[show ((v.toNat:Nat):Int)=v by omega] at q;have ef:(p&&Š d.aq&&(v==0))=(p&&Š d.aq):=by
     cases hk:Š d.aq with
     | false=>simp
     | true=>
      have hk:d.aq=1\/d.aq=2\/d.aq=3\/d.aq=4:=bh hk
      have:(d.bK.length:Int)=YC d.aq:=by
       unfold Mk at hw;have:=(bm _ _▸hw).2;simpa using this
      unfold YC at this
      rw[aE aB,aE aB] at this
      have:v=0:=by omega
      rw[this];simp
    rw[ef] at q;refine q.gw λy hy=>?_;have hy:y=Z v.toNat:=hy;refine cZ (λh=>aj (hf ?_)) λh=>aH (hn _ ⟨aB,aB,?_⟩ aB)
    ·exact JT (by rw[<- hy];exact h) (show v.toNat<d.bK.length by omega)
    exact ac9
   ·rw[hp,show d.aq=1 by simpa using h];rfl
   ·rw[hp,show d.aq=2 by simpa using h];rfl
   ·rw[hp,show d.aq=3 by simpa using h];rfl
   have g1:d.aq≠1:=by simpa using g1
   have g2:d.aq≠2:=by simpa using g2
   have g3:d.aq≠3:=by simpa using g3
   rw[hp,pU,cY];unfold Š;simp[g1,g2,g3]
  have hy:=hy p;have bad:(y&&SZ d.aq p)=false->Q false:=λh=>hf (by rw[hy,h];rfl);have rest:(y&&SZ d.aq p)=true->Ev (λi=>ag ((jN (m i)).jB d.lZ false) λy54=>br (!y54) (.ok (false)) (j i ())) Q di:=λh=>(zbr m hm).gw λw hw=>by
   have hw:w=zb:=hw;exact cZ (λh2=>aj (hf (by rw[<- hw,h2];simp))) λh2=>hj () ⟨hy.trans h,by rw[<- hw,h2]⟩
  refine cZ (λh=>aj (bad Cu)) λh=>cZ (λhp=>aw (λh4=>aj (bad ?_)) λh4=>aw (λh8=>aj (bad ?_)) λh8=>rest ?_) λhp=>rest ?_
  ·unfold SZ;rw[hp,show d.aq=4 by simpa using h4];simp
  ·unfold SZ;rw[hp,show d.aq=8 by simpa using h8];simp
  ·unfold SZ;rw[h,hp,show (d.aq !=4)=true by simpa using h4,show (d.aq !=8)=true by simpa using h8];rfl
  unfold SZ;rw[h,hp];rfl
 cases n with
 | zero=>exact yP
 | succ n=>
 show NQ (jA n (cK n) d p lv c) _;refine ab9 rl il l0 l1' ?_;generalize Mk rb ib b0 b1 d p=ow;refine nN (λw=>w=Š d.aq) (λw hw=>?_) λj hj=>cQ (λh=>hj _ ?_) λg1=>cQ (λh=>hj _ ?_) λg2=>cQ (λh=>hj _ ?_) λg3=>hj _ ?_
 ·subst hw;refine NQ.iter (λs:Y×Int=>0<=s.2/\s.2<=d.bK.length/\s.1=⟨c.uO||!(ow&&sY Z s.2.toNat),c.deep||decide (lv+1+mx D 0 s.2.toNat>17)⟩) ?_ n ⟨dR 0,eX,?_⟩
  rotate_left
  ·exact adb
  rintro ⟨s,v⟩ ⟨v0,v1,v2⟩ next hn;dsimp only at v0 v1 v2 ⊢;have wl:IntKind.wrap .i64 (lv+1)=lv+1:=wrap_i64 aB aB;rw[wl];refine cQ (λh=>NQ.el λx _ hx=>?_) λh=>?_
  ·have h:=bh h;have lf:∀ {a:Bool},a=(p&&Š d.aq&&(v==0))->NQ (ag ((cK n).bS x (cu.mk a false false (lv+1)) s) λy=>gd (cD (v+1)) (next (y,v+1))) (λy=>y=Fl c (ow&&(sY Z d.bK.length&&zb)) lv (mx D kb d.bK.length+1)):=λha=>by
    subst ha;have q:=(hZ _ x hx).2 n (lv+1) s aB aB;rw[show ((v.toNat:Nat):Int)=v by omega] at q;refine dB q λy hy=>x5 λ_=>hn _ ⟨eX,eX,?_⟩;dsimp only;rw[hy,v2];exact ahT
   refine cQ (λhp=>cQ (λhk=>lf ?_) λhk=>lf ?_) λhp=>lf ?_
   ·rw[hp,hk];rfl
   ·rw[hp,hk];rfl
   rw[hp];rfl
  have h:=aW h;have ev:v.toNat=d.bK.length:=by omega
  rw[ev] at v2;refine dB (zbl n (lv+1) s aB aB) λy hy=>gN ?_;rw[hy,v2];unfold Fl;dsimp only;congr 1
  ·cases c.uO<;>cases ow<;>cases sY Z d.bK.length<;>cases zb<;>rfl
  exact ac8
 ·rw[show d.aq=1 by simpa using h];rfl
 ·rw[show d.aq=2 by simpa using h];rfl
 ·rw[show d.aq=3 by simpa using h];rfl
 have g1:d.aq≠1:=by simpa using g1
 have g2:d.aq≠2:=by simpa using g2
 have g3:d.aq≠3:=by simpa using g3
 rw[cY];unfold Š;simp[g1,g2,g3]
end
section
variable {K:Nat}
def LY {l:List aK} (hl:l.length<=70000) (h:∀ d,d∈l->VDx K d):VLs K l:=by
 obtain ⟨D,hD⟩:=pick (l:=l) (P:=λ_ d (k:Int)=>1<=k/\k<=K/\(∀ m,bL m->∀ {next:Nat->Int×Int->aI Int} {a v:Int} {Q:Int->Prop},0<=v->v<=100000->Ev (λi=>next i (if k>a then k else a,v+1)) Q di->Ev (λi=>dit (m i) (mV (m i)) d a v (next i)) Q di)/\
  ∀ p,∃ z:Bool,(∀ m,bL m->∀ {k:Nat->aI Bool} {Q:Bool->Prop},(z=true->Ev k Q di)->(z=false->Q false)->Ev (λi=>itm (m i) (jN (m i)) p d (k i)) Q di)/\∀ (n:Nat) (lv:Int) c,0<=lv->lv+K<=4000000000000000000->NQ (gP n d p lv c) (λy=>y=Fl c z lv k)) λi d hd=>h d (aQ hd)
 have m0:∀ {v:Nat},0<=mx D 0 v:=(ě (f:=D) Cq).1;have mb:∀ {v:Nat},v<=l.length->mx D 0 v<=K:=λ{v}=>by
  induction v with
  | zero=>exact λ_=>by show (0:Int)<=_;omega
  | succ v ih=>
   intro hv
   have:=ih aB
   have:=(hD v _ (az (show v<l.length by omega))).2.1
   rw[Mq];split<;>omega
 refine ⟨mx D 0 l.length,m0,mb HN,λm hm=>?_,λp=>?_⟩
 ·refine bX (F:=λn=>rf n l) hm λm hm=>?_;show Ev (λi=>w4 (m i) (mV (m i)) l) _ _;unfold w4;refine bN hm (λw:Int×Int=>0<=w.2/\w.2<=l.length/\w.1=mx D 0 w.2.toNat) (λw=>(l.length - w.2).toNat) ⟨dR 0,eX,rfl⟩ ?_;rintro ⟨a,v⟩ ⟨v0,v1,v2⟩ next hn;dsimp only at v0 v1 v2 hn ⊢;refine aR (λh=>gm v0 h λx hx=>(hD _ x hx).2.2.1 m hm v0 aB (hn _ ⟨eX,eX,?_⟩ eX)) λh=>aj (by rw[v2,show v.toNat=l.length by omega]);dsimp only;rw[show (v+1).toNat=v.toNat+1 by omega,Mq,<- v2]
 obtain ⟨Z,hZ⟩:=pick (l:=l) (P:=λu d (z:Bool)=>(∀ m,bL m->∀ {k:Nat->aI Bool} {Q:Bool->Prop},(z=true->Ev k Q di)->(z=false->Q false)->Ev (λi=>itm (m i) (jN (m i)) p d (k i)) Q di)/\∀ (n:Nat) (lv:Int) c,0<=lv->lv+K<=4000000000000000000->NQ (gP n d p lv c) (λy=>y=Fl c z lv (D u))) λi d hd=>(hD i d hd).2.2.2 p;refine ⟨sY Z l.length,λm hm=>?_,λn lv c h0 h1=>?_⟩
 ·refine bX (F:=λn=>jB n l p) hm λm hm=>?_;show Ev (λi=>vw (m i) (jN (m i)) l p) _ _;unfold vw;refine bN hm (λv:Int=>0<=v/\v<=l.length/\sY Z v.toNat=true) (λv=>(l.length - v).toNat) Nh ?_;rintro v ⟨v0,v1,v2⟩ next hn;refine aR (λh=>gm v0 h λx hx=>(hZ _ x hx).1 m hm (k:=λi=>gd (cD (v+1)) (next i (v+1))) (λhz=>aH (hn _ ⟨aB,aB,?_⟩ aB)) λhz=>?_) λh=>aj (by rw[show l.length=v.toNat by omega,v2])
  ·rw[show (v+1).toNat=v.toNat+1 by omega];show (sY Z v.toNat&&Z v.toNat)=true;rw[v2,hz];rfl
  exact (JT hz (show v.toNat<l.length by omega)).symm
 cases n with
 | zero=>exact yP
 | succ n=>
 show NQ (kh n (cK n) l p lv c) _;unfold kh;refine NQ.iter (λs:Y×Int=>0<=s.2/\s.2<=l.length/\s.1=⟨c.uO||!sY Z s.2.toNat,c.deep||decide (0<mx D 0 s.2.toNat/\lv+mx D 0 s.2.toNat>17)⟩) ?_ n ⟨dR 0,eX,?_⟩
 rotate_left
 ·dsimp only [sY,mx,Int.toNat];simp
 rintro ⟨s,v⟩ ⟨v0,v1,v2⟩ next hn;dsimp only at v0 v1 v2 ⊢;refine cQ (λh=>NQ.el λx _ hx=>dB ((hZ _ x hx).2 n lv s h0 h1) λy hy=>x5 λ_=>hn _ ⟨eX,by have:=bh h;dsimp only;omega,?_⟩) λh=>gN (by rw[v2,show v.toNat=l.length by have:=aW h;omega]);have d1:=(hD _ x hx).1;have hm:=@m0 v.toNat;dsimp only;rw[hy,v2];unfold Fl;dsimp only;rw[show (v+1).toNat=v.toNat+1 by omega,Mq];have ea:sY Z (v.toNat+1)=(sY Z v.toNat&&Z v.toNat):=rfl;rw[ea];congr 1
 ·cases c.uO<;>cases sY Z v.toNat<;>cases Z v.toNat<;>rfl
 exact ak4
def ğ:∀ K:Nat,K<=2000000000000000000->(∀ e,(xG K).1 e->jd e->VEx K e)/\∀ d,(xG K).2 d->V d->VDx K d
 | 0,_=>⟨λ_ h=>h.elim,λ_ h=>h.elim⟩
 | K+1,h=>by
  obtain ⟨i1,i2⟩:=ğ K aB;exact ⟨λe hx he=>Ĝ he aB (λx tw=>i1 x (hx.1 x tw) (he.s x tw)) (LY he.l2 λd hd=>i2 d (hx.2 d hd) (he.d d hd)),λd hx hd=>Ğ hd aB (LY hd.l2 λb hb=>i2 b (hx.2 b hb) (hd.d b hb)) λx tw=>i1 x (hx.1 x tw) (hd.s x tw)⟩
end
section
variable {m:Nat->Nat}
def lp {X:Type} (hm:bL m) {l:List X} (hl:l.length<=70000) {G:Nat->X->X->aI Bool} {k:Nat->aI Bool} {Q:Bool->Prop} (hG:∀ x,x∈l->Ev (λi=>G i x x) (λy=>y=true) di) (hk:Ev k Q di) :
  Ev (λi=>aI.iter (λnext (v:Int)=>br (decide (v<(List.length l:Int))) (el l v λx=>el l v λy=>ag (G i x y) λb=>br (!b) (.ok false) (gd (cD (v+1)) (next (v+1)))) (k i)) (m i) 0) Q di:=by
 refine bN hm (λv:Int=>0<=v) (λv=>(l.length - v).toNat) Cq λv v0 next hn=>aR (λh=>gm v0 h λx hx=>g v0 hx ((hG x (aQ hx)).gw λy hy=>?_)) λ_=>hk
 rw[hy]
 exact aG Kh
def yQ {α:Type} [BEq α] [LawfulBEq α] {a:α}:(a !=a)=false:=by simp
def PL (hm:bL m) {l:List ByS} (hl:l.length<=70000):Ev (λi=>ot (m i) l l) (λy=>y=true) di:=by
 unfold ot ji;rw[yQ];refine aG (bN hm (λv:Int=>0<=v) (λv=>(l.length - v).toNat) Cq λv v0 next hn=>aR (λh=>gm v0 h λx hx=>g v0 hx ?_) λ_=>aj rfl);rw[yQ];exact aG Kh
def EQe (e:ak):Prop:=∀ m,bL m->Ev (λi=>kA (m i) e e) (λy=>y=true) di/\Ev (λi=>kH (m i) e e) (λy=>y=true) di
def EQl (l:List aK):Prop:=∀ m,bL m->Ev (λi=>kG (m i) l l) (λy=>y=true) di/\Ev (λi=>jS (m i) l l) (λy=>y=true) di
def Ġ (he:jd e) (hs:∀ x,x∈e.bK->EQe x) (hd:EQl e.fi):EQe e:=λm hm=>by
 have l1:=he.l1;refine ⟨?_,?_⟩
 ·refine bX (F:=λn=>kA n e e) hm λm hm=>?_;show Ev (λi=>sa (m i) (iC (m i)) e e) _ _;unfold sa ji;rw[yQ,yQ,yQ,yQ,show (!((e.B==e.B)&&(e.bT==e.bT)))=false by simp];refine aG (aG (aG (aG (aG ((PL hm he.l3).gw λy hy=>?_)))));rw[hy];exact aG (lp hm l1 (G:=λi=>(iC (m i)).kA) (λx hx=>(hs x hx m hm).1) ((hd m hm).1.gw λy hy=>aj hy))
 refine bX (F:=λn=>kH n e e) hm λm hm=>?_;show Ev (λi=>qZ (m i) (ja (m i)) e e) _ _;unfold qZ ji;exact lp hm l1 (G:=λi=>(ja (m i)).kH) (λx hx=>(hs x hx m hm).2) (aw (λ_=>(hd m hm).2.gw λy hy=>aj hy) λh=>by simp at h)
def LZ {l:List aK} (hl:l.length<=70000) (hd:∀ d,d∈l->V d) (hb:∀ d,d∈l->EQl d.lZ) (hs:∀ d,d∈l->∀ x,x∈d.bK->EQe x):EQl l:=λm hm=>by
 refine ⟨?_,?_⟩
 ·refine bX (F:=λn=>kG n l l) hm λm hm=>?_;show Ev (λi=>qY (m i) (iC (m i)) l l) _ _;unfold qY ji;rw[yQ];refine aG (bN hm (λv:Int=>0<=v) (λv=>(l.length - v).toNat) Cq λv v0 next hn=>aR (λh=>gm v0 h λd hx=>g v0 hx ?_) λ_=>aj rfl);have dm:=aQ hx;have sm:=hd d dm;rw[yQ,yQ,yQ,yQ,yQ,show (!((d.B==d.B)&&(d.bT==d.bT)))=false by simp];refine aG (aG (aG (aG (aG (aG ((PL hm sm.l5).gw λy hy=>?_))))));rw[hy];refine aG ((PL hm sm.l3).gw λy hy=>?_);rw[hy];refine aG ((hb d dm m hm).1.gw λy hy=>?_);rw[hy];exact aG (lp hm sm.l1 (G:=λi=>(iC (m i)).kA) (λx hx=>(hs d dm x hx m hm).1) Kh)
 refine bX (F:=λn=>jS n l l) hm λm hm=>?_;show Ev (λi=>qi (m i) (ja (m i)) l l) _ _;unfold qi ji;refine bN hm (λv:Int=>0<=v) (λv=>(l.length - v).toNat) Cq λv v0 next hn=>aR (λh=>gm v0 h λd hx=>g v0 hx ?_) λ_=>aj rfl;have dm:=aQ hx;have l1:=(hd d dm).l1;rw[yQ];refine aG (g v0 hx (g v0 hx ((hb d dm m hm).2.gw λy hy=>?_)));rw[hy];refine aG (g v0 hx (bN hm (λw:Int=>0<=w) (λw=>(d.bK.length - w).toNat) Cq λw w0 NT Jg=>aR (λh2=>g v0 hx (gm w0 h2 λx ve=>g v0 hx (g w0 ve ((hs d dm x (aQ ve) m hm).2.gw λy hy=>?_)))) λ_=>aH (hn _ aB aB)));rw[hy];exact aG (aH (Jg _ aB aB))
def UK:∀ K:Nat,(∀ e,(xG K).1 e->jd e->EQe e)/\∀ d,(xG K).2 d->V d->EQl d.lZ/\∀ x,x∈d.bK->EQe x
 | 0=>⟨λ_ h=>h.elim,λ_ h=>h.elim⟩
 | K+1=>by
  obtain ⟨i1,i2⟩:=UK K;exact ⟨λe hx he=>Ġ he (λx tw=>i1 x (hx.1 x tw) (he.s x tw)) (LZ he.l2 he.d (λd hd=>(i2 d (hx.2 d hd) (he.d d hd)).1) λd hd=>(i2 d (hx.2 d hd) (he.d d hd)).2),
   λd hx hd=>⟨LZ hd.l2 hd.d (λb hb=>(i2 b (hx.2 b hb) (hd.d b hb)).1) λb hb=>(i2 b (hx.2 b hb) (hd.d b hb)).2,λx tw=>i1 x (hx.1 x tw) (hd.s x tw)⟩⟩
end
def ad2 {T:List aC}:T.map (om 0)=T:=by
 have:(om 0)=id:=by funext t;cases t;simp[om]
 rw[this,List.map_id]
def gg (n:Nat):GG n:=agk UG LV adX SX n
section
variable {m:Nat->Nat}
def ab_:yw 64=.ok true:=by kernel_rfl
end
def ġ:Prop:=∀ {n:Nat} {s:ByS} {T:List aC} {f:fX} {p:D},PC s T 0->Lx s T->jw n (H s T 0 0 false none)=.ok (f,p)->∃ K:Nat,K<=2000000000000000000/\∀ d,d∈f.fi->(xG K).2 d
section
variable {m:Nat->Nat} {K:Nat} {f:fX}
def Ģ (hm:bL m) (hK:K<=2000000000000000000) (hx:∀ d,d∈f.fi->(xG K).2 d) (hf:Ś f):LK (r9 n f) (λi=>yD (m i) f) (λy z=>z=y) (λ_ _=>False):=by
 obtain ⟨k,k0,k1,kr,hz⟩:VLs K f.fi:=LY hf.dl λd hd=>(ğ K hK).2 d (hx d hd) (hf.ds d hd);obtain ⟨z,zr,zl⟩:=hz true;obtain ⟨bp,pl,pr⟩:=I5 f.jD;obtain ⟨Z,hZ⟩:=pick (l:=f.eB) (P:=λ_ x (b:Bool)=>(∀ n,NQ (dO n x.Name) λy=>y=b)/\∀ m,bL m->Ev (λi=>eJ (m i) x.Name) (λy=>y=b) di) λi x _=>I5 x.Name;have im:=hf.im;have hA:∃ A:Bool,(∀ {α:Type} {Q:α->Prop} {j:Y->aI α},NQ (j ⟨!A,false⟩) Q->NQ (br (f.jD==([]:ByS)) (ag (kg n f.J) λy28=>ag (aP n [true,y28] (Y.mk false false)) λy29=>j (y29)) (ag (dO n f.jD) λy30=>ag (kg n f.J) λy31=>ag (aP n [y30,y31] (Y.mk false false)) λy32=>j (y32))) Q)/\
   ∀ {α:Type} {Q:α->Prop} {j:Nat->Bool->aI α},Ev (λi=>j i (A&&z)) Q di->Ev (λi=>br (f.jD==([]:ByS)) (ag (nI (m i) f.J) λy27=>br (!y27) (ag (jB (m i) f.fi true) λy29=>j i (y29)) (j i (false))) (ag (eJ (m i) f.jD) λy30=>br y30 (ag (nI (m i) f.J) λy32=>br (!y32) (ag (jB (m i) f.fi true) λy34=>j i (y34)) (j i (false))) (j i (false)))) Q di:=by
  refine ⟨(f.jD==[]||bp)&&!Y6 f.J,λ{α Q j} h=>?_,λ{α Q j} h=>?_⟩
  ·refine cQ (λh1=>dB DL λy hy=>ql ?_) λh1=>dB (pl n) λy hy=>dB DL λw hw=>ql ?_
   ·rw[h1] at h
    rw[Xh,hy];exact h
   ·rw[h1] at h
    rw[Xh,hy,hw];exact h
  ·have tl:∀ {b:Bool},(f.jD==[]||bp)=true->Ev (λi=>ag (nI (m i) f.J) λy27=>br (!y27) (ag (jB (m i) f.fi true) λy29=>j i (y29)) (j i (false))) Q di:=λ{_} hb=>by
    rw[hb] at h
    refine (E9 hm hf.tl hf.ts).gw λy hy=>?_
    rw[<- hy] at h
    refine aw (λh1=>(zr m hm).gw λw hw=>?_) λh1=>?_
    ·rw[h1] at h;rw[hw];exact h
    ·rw[h1] at h;exact h
   refine aw (λh1=>tl (b:=true) QG) λh1=>(pr m hm).gw λy hy=>aw (λh2=>tl (b:=true) (by rw[<- hy,h2,Bool.or_true])) λh2=>?_
   rw[h1,<- hy,h2] at h;exact h
 obtain ⟨A,hAl,hAr⟩:=hA;have L:NQ (r9 n f) (λy=>y=if (A&&(sY Z f.eB.length&&z))=false then 11 else if k>16 then 9 else 0):=by
  unfold r9 vi;refine nN (λv=>v=⟨!A,false⟩) (λv hv=>?_) λj hj=>hAl (hj _ rfl);subst hv;refine NQ.iter (λs:Y×Int=>0<=s.2/\s.2<=f.eB.length/\s.1=⟨!(A&&sY Z s.2.toNat),false⟩) ?_ n ⟨dR 0,eX,by simp[sY]⟩;rintro ⟨s,v⟩ ⟨v0,v1,v2⟩ next hn;dsimp only at v0 v1 v2 ⊢;refine cQ (λh=>NQ.el λx _ tw=>dB ((hZ _ x tw).1 n) λy hy=>ql (x5 λ_=>hn _ ⟨eX,by have:=bh h;dsimp only;omega,?_⟩)) λh=>dB (zl n 1 s dN aB) λy hy=>dB (P:=λw=>w.1=if (A&&(sY Z f.eB.length&&z))=false then 11 else if k>16 then 9 else 0) ?_ λw hw=>gN hw
  ·dsimp only;rw[Jt,hy,v2,show (v+1).toNat=v.toNat+1 by omega];have ea:sY Z (v.toNat+1)=(sY Z v.toNat&&Z v.toNat):=rfl;rw[ea];unfold Wr;cases A<;>cases sY Z v.toNat<;>cases Z v.toNat<;>rfl
  rw[show v.toNat=f.eB.length by have:=aW h;omega] at v2;rw[hy,v2];unfold lI;dsimp only;rw[<- qK];cases A&&sY Z f.eB.length with
  | false=>exact gN rfl
  | true=>
   cases z with
   | false=>exact gN rfl
   | true=>
    by_cases q:k>16
    ·rw[aX (show (0<k/\1+k>17) by omega)];exact gN (by rw[aL q];rfl)
    ·rw[bw (show ¬ (0<k/\1+k>17) by omega)];exact gN (by rw[aE q];rfl)
 refine L.lk λy hy=>?_;subst hy;unfold yD;refine bz (λv=>v=(A&&z)) (λv hv=>?_) λj hj=>hAr (hj _ rfl);subst hv;refine bN hm (λs:Bool×Int=>0<=s.2/\s.2<=f.eB.length/\s.1=((A&&z)&&sY Z s.2.toNat)) (λs=>(f.eB.length - s.2).toNat) ⟨dR 0,eX,by simp[sY]⟩ ?_;rintro ⟨b,v⟩ ⟨v0,v1,v2⟩ next hn;dsimp only at v0 v1 v2 hn ⊢;have ea:sY Z (v.toNat+1)=(sY Z v.toNat&&Z v.toNat):=rfl;refine aR (λh=>gm v0 h λx tw=>aw (λhb=>((hZ _ x tw).2 m hm).gw λy hy=>aH (hn _ ⟨eX,eX,?_⟩ eX)) λhb=>aH (hn _ ⟨eX,eX,?_⟩ eX)) λh=>(kr m hm).gw λy hy=>?_
 ·dsimp only;rw[hb] at v2;rw[show (v+1).toNat=v.toNat+1 by omega,ea,<- qK,<- v2,hy];rfl
 ·dsimp only;rw[hb] at v2;rw[show (v+1).toNat=v.toNat+1 by omega,ea,<- qK,<- v2];rfl
 have hy:y=k:=hy;subst hy;rw[show v.toNat=f.eB.length by omega] at v2;unfold xY;have e:(A&&(sY Z f.eB.length&&z))=b:=by rw[v2];cases A<;>cases z<;>cases sY Z f.eB.length<;>rfl
 rw[e];cases b with
 | false=>exact aj rfl
 | true=>
  by_cases q:y>16
  ·rw[aX q,aE dN,aL q];exact aj rfl
  ·rw[bw q,aE dN,aE q];exact aj rfl
def S0 (hm:bL m) (hx:∀ d,d∈f.fi->(xG K).2 d) (hf:Ś f):Ev (λi=>uI (m i) f f) (λy=>y=true) di:=by
 have im:=hf.im;have eq:EQl f.fi:=LZ hf.dl hf.ds (λd hd=>((UK K).2 d (hx d hd) (hf.ds d hd)).1) λd hd=>((UK K).2 d (hx d hd) (hf.ds d hd)).2;have e1:Ev (λi=>yx (m i) f f) (λy=>y=true) di:=by
  unfold yx ji;rw[yQ,yQ];refine aG (aG ((PL hm hf.tl).gw λy hy=>?_));rw[hy];refine aG (bN hm (λv:Int=>0<=v) (λv=>(f.eB.length - v).toNat) Cq λv v0 next hn=>aR (λh=>gm v0 h λx hx=>g v0 hx ?_) λ_=>(eq m hm).1.gw λy hy=>aj hy);rw[yQ];refine aG (g v0 hx (g v0 hx ?_));rw[yQ];exact aG Kh
 unfold uI ji;refine e1.gw λy hy=>?_;rw[hy];refine aG (bN hm (λv:Int=>0<=v) (λv=>(f.eB.length - v).toNat) Cq λv v0 next hn=>aR (λh=>gm v0 h λx hx=>g v0 hx ?_) λ_=>(eq m hm).2.gw λy hy=>aj hy);rw[show (!((x.Name==x.Name)&&(x.Path==x.Path)&&(x.cN==x.cN)))=false by simp];exact aG Kh
def aca (hD:ġ) (hm:bL m):LK (qE n s) (λi=>Bf (m i) s) (λy z=>z=y/\(y.2.eU=0->Ś y.1/\∃ K,∀ d,d∈y.1.fi->(xG K).2 d)) (λ_ _=>False):=by
 unfold qE Bf ji s6;refine LK.Ć (UG hm) ?_;rintro ⟨T,E⟩ _ hsc ⟨rfl,hLx⟩;refine dG rfl (λh=>b9 ⟨rfl,λh2=>ao h2 jg⟩) λhe=>?_;have he:E.eU=0:=by simpa using he
 obtain ⟨hT,hL⟩:=N4 UG hsc he;have hC:PC s T 0:=⟨hT,dN,acC⟩;dsimp only;refine SV (W':=λp z=>∃ v,p=PF v/\z=(af7,dH.mk 8 v)) ?_ ?_
 rotate_left
 ·rintro _ z ⟨v,rfl,rfl⟩;show LK (ag (r8 v) λy22=>.ok (y22.1,y22.2)) _ _ _;unfold r8 qC;exact b9 Tz
 rw[show ah.mk s 0 T 0 false 0 0=RX s T 0 0 false by show _=Yn s 0 (T.map (om 0)) 0 false 0 0;rw[ad2]];have hx:=W1 (n:=n) hC hL ((gg n).decl hC hL) hm;have tw:LK (jw n (H s T 0 0 false none)) (λi=>mD (m i) (RX s T 0 0 false)) (λa b=>jw n (H s T 0 0 false none)=.ok a/\VFl s T 0 a b) (WFl s T 0):=⟨λa e=>(hx.1 a e).qh λb q=>⟨e,q⟩,hx.2⟩;refine cm tw ?_ ?_
 ·rintro _ _ ⟨hr,f,a1,rfl,rfl,hes⟩;obtain ⟨K,hK,hdx⟩:=hD hC hL hr;refine oH (c:=(true,RX s T 0 a1 false)) rfl (aJ du λ_=>cm (Ģ hm hK hdx hes) ?_ λ_ _ h=>h.elim);exact ak7
 rintro p ⟨f,y⟩ ⟨v,rfl,hf⟩;refine bC (yW hf) (aY (aj ⟨v,rfl,?_⟩));obtain ⟨_,_,rfl,_⟩:=hf;rfl
def agN:Ś af7:=⟨dN,dN,λd h=>(cn (show d∈([]:List aK) from h)).elim,dN,λd h=>(cn (show d∈([]:List ByS) from h)).elim⟩
def S1 (hD:ġ):Ev (λi=>pJ i s) (λy=>y=true) di:=by
 unfold pJ;rw[ab_];refine aw (λ_=>bC rfl uY) λ_=>?_;obtain ⟨y,⟨_,_,h0,h1⟩,N,hN⟩:=(Lv mG (s:=s)).get;have hy:=hN N J6;have hl:=(aca (n:=N) (s:=s) hD mG).1 y hy;refine ai (Q:=λz=>z=y) ⟨.ok y,rfl,N,hN⟩ λz hz=>?_;subst hz;refine hl.gw λw hw=>?_;obtain ⟨rfl,hw⟩:=hw;rw[show ((w.2.eU==w.2.eU)&&(w.2.At==w.2.At))=true by simp];have pl:Ev (λi=>uI i w.1 w.1) (λy=>y=true) di:=by
  by_cases he:w.2.eU=0
  ·obtain ⟨hs,K,hK⟩:=hw he;exact S0 mG hK hs
  rw[h1 he];exact S0 (K:=0) mG (λd h=>(cn (show d∈([]:List aK) from h)).elim) agN
 refine aY (pl.gw λy hy=>?_);rw[hy];exact aY (bC rfl uY)
end
section
def Tl (L:Nat) (l:List aC):Prop:=∀ (i:Nat) t,l[i]?=some t->(t.aq≠0->i+1<l.length)/\(t.aq=4->t.bM.length<L)
def Pl (r:ah) (k:Int) (r':ah):Prop:=r'.l=r.l/\r.bO+k<=r'.bO
variable {r':ah}
def Pl.tr {r'':ah} {j l:Int} (h:Pl r j r') (h':Pl r' k r'') (hl:l<=j+k):Pl r l r'':=⟨h'.1.trans h.1,by have:=h.2;have:=h'.2;omega⟩
def Pl.re:Pl r 0 r:=⟨rfl,aB⟩
def B1:=@Pl.re
section
variable {L:Nat} {V:α->Prop}
def m:PO (λy=>Pl r 0 y.2/\0<=y.2.bO/\r.l[y.2.bO.toNat]?=some y.1) (aS n r):=by
 unfold aS ji;refine jf (λv=>Pl r 0 v) (λv hv=>dU λx h0 hx=>bD ⟨hv,h0,by rw[<- hv.1];exact hx⟩) λj hj=>gQ (λv=>Pl r 0 v) B1 λnext v hn hv=>A (λ_=>dU λx _ _=>A acU λ_=>hj _ hv) λ_=>hj _ hv
def su (hT:Tl L r.l):PO (λy=>Pl r 0 y.2/\∀ t,0<=r.bO->r.l[r.bO.toNat]?=some t->t.aq≠0->Pl r 1 y.2) (P n r):=by
 unfold P ji;refine aD m λy hy=>bY λ_=>A (λh=>bY λ_=>bD ?_) λh=>bD ?_
 ·obtain ⟨⟨h1,h2⟩,_⟩:=hy;exact ⟨⟨h1,eX⟩,λt _ _ _=>⟨h1,eX⟩⟩
 obtain ⟨⟨h1,h2⟩,h3,h4⟩:=hy;refine ⟨⟨h1,h2⟩,λt h0 ht hk=>⟨h1,?_⟩⟩;have:=(hT _ t ht).1 hk;rw[h1] at h;have:=aW h;show r.bO+1<=y.2.bO;omega
def sB {v:Int}:PO (λy=>Pl r 0 y) (bJ v r):=by
 unfold bJ;exact A (λ_=>bD ⟨rfl,eX⟩) λ_=>bD B1
def Mo (hT:Tl L r.l):PO (λy=>Pl r 0 y) (cH n x r):=by
 unfold cH;refine aD m λy hy=>dh λ_ _=>A (λ_=>aD sB λz hz=>bD (hy.1.tr hz aB)) λ_=>aD (su (L:=L) (by rw[hy.1.1];exact hT)) λz hz=>bD (hy.1.tr hz.1 aB)
def C3 {b:Bool} (hT:Tl L r.l):PO (λy=>Pl r 0 y) (cy n x b r):=by
 unfold cy;exact aD (Mo hT) λy hy=>bD ⟨hy.1,hy.2⟩
def YF (hT:Tl L r.l):PO (λy=>Pl r 0 y) (jb n x r):=by
 unfold jb;refine aD m λy hy=>dh λ_ _=>A (λ_=>aD sB λz hz=>bD (hy.1.tr hz aB)) λ_=>aD (su (L:=L) (by rw[hy.1.1];exact hT)) λz hz=>bD (hy.1.tr hz.1 aB)
def L0 (hT:Tl L r.l):PO (λy=>Pl r 0 y.2) (fU n r):=by
 unfold fU;refine aD m λy hy=>dh λ_ _=>A (λ_=>aD sB λz hz=>bD (hy.1.tr hz aB)) λ_=>aD (su (L:=L) (by rw[hy.1.1];exact hT)) λz hz=>bD (hy.1.tr hz.1 aB)
def Tl.of (hT:Tl L r.l) (h:Pl r k r'):Tl L r'.l:=by rw[h.1];exact hT
def Xl (hT:Tl L r.l):PO (λy=>Pl r 0 y.2) (lM n r):=by
 unfold lM;refine aD (L0 hT) λa ha=>aD (Mo (hT.of ha)) λb hb=>?_;have hb:=ha.tr hb (l:=0) aB;refine aD m λc hc=>?_;have hc:=hb.tr hc.1 (l:=0) aB;refine aD (L0 (hT.of hc)) λd hd=>?_;have hd:=hc.tr hd (l:=0) aB;refine jf (λv=>Pl r 0 v) (λv hv=>aD (YF (hT.of hv)) λe he=>bD (hv.tr he aB)) λj hj=>aD (W:=λy=>y=(d.2.jF==0,d.2)) (bD rfl) λy hy=>?_;subst hy;exact A (λ_=>A (λ_=>aD sB λz hz=>hj _ (hd.tr hz aB)) λ_=>hj _ hd) λ_=>hj _ hd
def L1 (hT:Tl L r.l) {t:aC} (h0:0<=r.bO) (ht:r.l[r.bO.toNat]?=some t) (hk:t.aq≠0):PO (λy=>Pl r 1 y.2) (eR n r):=by
 unfold eR;refine aD (su hT) λy hy=>bD ?_;have:=hy.2 t h0 ht hk;exact ⟨this.1,this.2⟩
def xG.up:∀ {K K':Nat},K<=K'->(∀ e,(xG K).1 e->(xG K').1 e)/\∀ d,(xG K).2 d->(xG K').2 d
 | 0,_,_=>⟨λ_ h=>h.elim,λ_ h=>h.elim⟩
 | K+1,0,h=>by omega
 | K+1,K'+1,h=>by
  obtain ⟨i1,i2⟩:=@xG.up K K' aB;exact ⟨λe he=>⟨λx hx=>i1 x (he.1 x hx),λd hd=>i2 d (he.2 d hd)⟩,λd hd=>⟨λx hx=>i1 x (hd.1 x hx),λb hb=>i2 b (hd.2 b hb)⟩⟩
def ey:=@xG.up
end
end
section
variable {K:Nat} {t:ByS} {n:Int} {xo:List ak}
def ģ (h:∀ x,x∈xo->(xG K).1 x):(xG (K+1)).1 (ak.mk k t n a b xo [] tl pos):=
 show (∀ x,x∈xo->(xG K).1 x)/\∀ d,d∈([]:List aK)->(xG K).2 d from ⟨h,λd hd=>(cn hd).elim⟩
def L2:(xG (K+1)).1 (ak.mk k t n a b [] [] tl pos):=ģ λx h=>(cn h).elim
def DE (g:Nat) (r:ah) (y:ak×ah):Prop:=Pl r 0 y.2/\(xG (g+4*(y.2.bO - r.bO).toNat+1)).1 y.1
section
variable {g L n:Nat} {e1 e2:ak}
def DE.fr (h1:Pl r 0 r1) (h:DE g r1 (e,r2)):DE g r (e,r2):=⟨h1.tr h.1 aB,(ey (by have:=h1.2;have:=h.1.2;dsimp only at *;omega)).1 _ h.2⟩
def DE.to (h:DE g r (e,r1)) (h1:Pl r1 0 r2):DE g r (e,r2):=⟨h.1.tr h1 aB,(ey (by have:=h1.2;have:=h.1.2;dsimp only at *;omega)).1 _ h.2⟩
def DE.lf {n:Int} (h:Pl r 0 r1):DE g r (ak.mk k t n a b [] [] tl pos,r1):=⟨h,L2⟩
def tV:=@DE.lf
def DE.nd {n:Int} (h:Pl r 1 r1) (hs:∀ x,x∈xo->(xG (g+4*(r1.bO - r.bO).toNat)).1 x):DE g r (ak.mk k t n a b xo [] tl pos,r1):=⟨⟨h.1,by have:=h.2;dsimp only;omega⟩,ģ hs⟩
def Aw:=@DE.nd
def YG {t:aC} {x:ByS}:PO (λy=>y=true->t.aq≠0) (ch t x):=by
 unfold ch;refine A (λh=>bD λ_=>?_) λ_=>bD du;have:t.aq=5:=by simpa using h
 omega
def Fv {t:aC} {l:List ByS}:PO (λy=>y=true->t.aq≠0) (jU n t l):=by
 unfold jU ji;exact gQ (λ_=>True) trivial λnext v hn _=>A (λ_=>dU λx _ _=>aD YG λy hy=>A (λh=>bD λ_=>hy h) λ_=>bY λ_=>hn _ trivial) λ_=>bD λh=>by cases h
def PM:∀ (n:Nat) {K:Nat} {e:ak},(xG K).1 e->PO (λy=>(xG K).1 y) (jV n e)
 | 0,_,_,_=>Bj
 | n+1,0,_,h=>h.elim
 | n+1,K+1,e,h=>by
  show PO _ (oY n (lW n) e);have ih:∀ {K:Nat} {e:ak},(xG K).1 e->PO (λy=>(xG K).1 y) ((lW n).jV e):=λh=>PM n h;obtain ⟨h1,h2⟩:=h;unfold oY vi oj jk dS;refine A (λ_=>dU λx _ hx=>dU λy _ hy=>aD (ih (h1 x (aQ hx))) λa ha=>aD (ih (h1 y (aQ hy))) λb hb=>bD ⟨λz hz=>?_,h2⟩) λ_=>A (λ_=>bD ⟨h1,h2⟩) λ_=>?_
  ·have hz:z∈[a,b]:=hz;simp only[cb,cn,or_false] at hz;obtain rfl|rfl:=hz
   ·exact ha
   exact hb
  refine gQ (λv=>∀ d,d∈v.1->(xG K).2 d) (λd hd=>(cn hd).elim) λnext v hn hv=>A (λ_=>dU λd _ hd=>dh λc _=>A (λ_=>dU λx _ hx=>?_) λ_=>bY λ_=>bY λ_=>hn _ λd' Cz=>?_) λ_=>bD ⟨h1,hv⟩
  ·have Hg:=h2 d (aQ hd);cases K with
   | zero=>exact Hg.elim
   | succ K=>
   refine aD (ih (Hg.1 x (aQ hx))) λy hy=>bY λ_=>bY λ_=>hn _ λd' Cz=>?_;obtain q|q:=bH.1 Cz
   ·exact hv d' q
   rw[cO.1 q];exact ⟨λz hz=>by rw[cO.1 (show z∈[y] from hz)];exact hy,Hg.2⟩
  obtain q|q:=bH.1 Cz
  ·exact hv d' q
  rw[cO.1 q];exact h2 d (aQ hd)
def L3 {t:aC} (h:(xG (K+1)).1 e):PO (λy=>Pl r 0 y.2/\(xG (K+1)).1 y.1) (eE n e t r):=by
 unfold eE eS;exact dh λ_ _=>A (λ_=>aD sB λz hz=>bD ⟨hz,L2⟩) λ_=>aD (PM n h) λz hz=>bD ⟨B1,hz⟩
end
end
section
variable {g L:Nat} {T:aO} {V:α->Prop}
abbrev Pk1 (r:ah) (y:aC×ah):Prop:=Pl r 0 y.2/\0<=y.2.bO/\r.l[y.2.bO.toNat]?=some y.1
def Jr {f:Bool×ah->aI α} (h:PO V (f (r.jF==0,r))):PO V (ag (cG r) f):=h
def PN {y:aC×ah} {f:aC×ah->aI α} (hT:Tl L r.l) (hy:Pk1 r y) (hk:y.1.aq≠0) (h:∀ z,Pl r 1 z.2->PO V (f z)):PO V (ag (P n y.2) f):=
 aD (su (hT.of hy.1)) λz hz=>h z (hy.1.tr (hz.2 y.1 hy.2.1 (by rw[hy.1.1];exact hy.2.2) hk) aB)
def DF (g L:Nat) (f:ah->aI (ak×ah)):Prop:=∀ r,Tl L r.l->PO (DE g r) (f r)
def Ĥ (hT:Tl L r.l) (ihU:DF g L (T.dI false)) (ihP:DF g L (T.fc c)):PO (DE g r) (gk n T c r):=by
 unfold gk vi eS;refine aD m λy hy=>Jr (A (λ_=>bD (tV hy.1)) λ_=>?_);refine jf (λv=>v≠0->y.1.aq≠0) (λv hv=>?_) λj hj=>aD Fv λz hz=>A (λh=>hj _ λ_=>hz h) λ_=>hj _ λh=>ao rfl h;refine jf (λv=>v≠0->y.1.aq≠0) (λv hv=>?_) λj hj=>aD Fv λz hz=>A (λh=>hj _ λ_=>hz h) λ_=>hj _ hv;refine A (λ_=>aD (ihP _ (hT.of hy.1)) λz hz=>bD (hz.fr hy.1)) λh=>PN hT hy (hv jg) λz hz=>aD (ihU _ (hT.of hz)) λw hw=>bD ?_;have h1:=hz.2;have h2:=hw.1.2;exact Aw (hz.tr hw.1 aB) λx hx=>by rw[cO.1 hx];exact (ey (by first|omega|(dsimp only;omega))).1 _ hw.2
variable {l:Int}
def acb {t:aC}:PO (λy=>y=true->t.aq≠0) (ur n t l):=by
 unfold ur;exact A (λ_=>aD YG λy hy=>bD hy) λ_=>A (λ_=>aD YG λy hy=>bD hy) λ_=>A (λ_=>aD Fv λy hy=>bD hy) λ_=>A (λ_=>aD Fv λy hy=>bD hy) λ_=>aD Fv λy hy=>bD hy
def YH (hT:Tl L r.l) (ihU:DF g L (T.dI c)) (ihB:∀ l c,DF g L (T.cI l c)):PO (DE g r) (eN n T l c r):=by
 unfold eN vi eS;refine A (λ_=>aD (ihU r hT) λz hz=>bD hz) λ_=>bY λ_=>aD (ihB _ _ r hT) λz hz=>?_;refine gQ (λv=>DE g r (v.2,v.1)) hz λnext v hn hv=>Jr (A (λ_=>?_) λ_=>bD hv);have hTv:=hT.of hv.1;refine aD m λy hy=>aD acb λw hw=>A (λh=>?_) λ_=>bD (hv.to hy.1);refine PN hTv hy (hw h) λu hu=>aD (L3 hv.2) λd hd=>bY λ_=>?_;have hTd:=(hTv.of hu).of hd.1;refine aD (ihB _ _ _ hTd) λb hb=>hn _ ?_;have p1:=hv.1.2;have p2:=hu.2;have p3:=hd.1.2;have p4:=hb.1.2;dsimp only at p1 p2 p3 p4;refine Aw ((hv.1.tr hu (l:=1) aB).tr (hd.1.tr hb.1 (l:=0) aB) aB) λx hx=>?_;simp only[cb,cn,or_false] at hx;obtain rfl|rfl:=hx
 ·exact (ey (by first|omega|(dsimp only;omega))).1 _ hd.2
 exact (ey (by first|omega|(dsimp only;omega))).1 _ hb.2
def acd (hT:Tl L r.l) (ihB:∀ l c,DF g L (T.cI l c)):PO (DE g r) (eL n T c r):=by
 unfold eL vi eS;refine aD (ihB _ _ r hT) λz hz=>?_;refine gQ (λv=>DE g r (v.2,v.1)) hz λnext v hn hv=>Jr (A (λ_=>?_) λ_=>bD hv);have hTv:=hT.of hv.1;refine aD m λy hy=>aD YG λw hw=>A (λh=>?_) λ_=>bD (hv.to hy.1);refine PN hTv hy (hw h) λu hu=>aD (ihB _ _ _ (hTv.of hu)) λb hb=>hn _ ?_;have p1:=hv.1.2;have p2:=hu.2;have p4:=hb.1.2;dsimp only at p1 p2 p4;refine Aw ((hv.1.tr hu (l:=1) aB).tr hb.1 aB) λx hx=>?_;simp only[cb,cn,or_false] at hx;obtain rfl|rfl:=hx
 ·exact (ey (by first|omega|(dsimp only;omega))).1 _ hv.2
 exact (ey (by first|omega|(dsimp only;omega))).1 _ hb.2
def agO (hT:Tl L r.l) (ihC:∀ c,DF g L (T.cX c)):PO (DE g r) (eK n T c r):=by
 unfold eK vi eS;refine aD m λy hy=>aD YG λw hw=>A (λ_=>aD (ihC _ _ (hT.of hy.1)) λz hz=>bD (hz.fr hy.1)) λh=>PN hT hy (hw jg) λz hz=>aD (ihC _ _ (hT.of hz)) λb hb=>bD ?_;have h1:=hz.2;have h2:=hb.1.2;exact Aw (hz.tr hb.1 aB) λx hx=>by rw[cO.1 hx];exact (ey (by first|omega|(dsimp only;omega))).1 _ hb.2
end
section
variable {g L:Nat} {T:aO} {V:α->Prop}
def MZ (hT:Tl L r.l) (ihA:∀ c,DF g L (T.cL c)):PO (DE (g+1) r) (dC n T c r):=by
 unfold dC ji Bn oj jk eA eS;have up:∀ {y:ak×ah},DE g r y->DE (g+1) r y:=λh=>⟨h.1,(ey aB).1 _ h.2⟩;refine aD m λy hy=>dh λs _=>jf (λv=>DE g r (v.2,v.1)) (λv hv=>?_) λj hj=>A (λ_=>aD (ihA _ _ (hT.of hy.1)) λz hz=>hj _ (hz.fr hy.1)) λ_=>aD (ihA _ _ (hT.of hy.1)) λz hz=>hj _ (hz.fr hy.1);have hTv:=hT.of hv.1;refine aD m λw hw=>dh λs2 _=>A (λ_=>A (λ_=>aD sB λz hz=>bD (up ((hv.to hw.1).to hz))) λ_=>bD (up (hv.to hw.1))) λ_=>?_;refine aD m λu hu=>aD (L3 hv.2) λd hd=>?_;have p0:=hv.1.2;have p1:=hw.1.2;have p2:=hu.1.2;have p3:=hd.1.2;dsimp only at p0 p1 p2 p3;refine gQ (λv=>Pl r 0 v.1/\∀ x,x∈v.2.bK->(xG (g+4*(v.1.bO - r.bO).toNat+1)).1 x) ⟨((hv.1.tr hw.1 (l:=0) aB).tr hu.1 (l:=0) aB).tr hd.1 aB,λx hx=>?_⟩ λnext v hn hv=>?_
 ·rw[cO.1 (show x∈[d.1] from hx)];exact (ey eX).1 _ hd.2
 have q0:=hv.1.2;have hTv:=hT.of hv.1;have fin:∀ {r':ah},Pl v.1 0 r'->DE (g+1) r (ak.mk v.2.aq v.2.bM v.2.U v.2.B v.2.bT v.2.bK [] [] v.2.cN,r'):=λ{r'} h=>by
  have h2:=h.2;exact ⟨hv.1.tr h aB,(ey (show g+4*(v.1.bO - r.bO).toNat+1+1<=g+1+4*(r'.bO - r.bO).toNat+1 by omega)).1 _ (ģ hv.2)⟩
 refine Jr (A (λ_=>aD m λw hw=>aD YG λb hb=>A (λh=>?_) λ_=>bD (fin hw.1)) λ_=>bD (fin B1));refine PN hTv hw (hb h) λz hz=>aD (ihA _ _ (hTv.of hz)) λa ha=>bY λ_=>hn _ ⟨(hv.1.tr hz (l:=1) aB).tr ha.1 aB,λx hx=>?_⟩;have q1:=hz.2;have q2:=ha.1.2;obtain q|q:=bH.1 (show x∈v.2.bK++[a.1] from hx)
 ·exact (ey eX).1 _ (hv.2 x q)
 rw[cO.1 q];exact (ey eX).1 _ ha.2
def agP:PO (λy=>Pk1 r y/\(y.2.skip=true->y.1.aq≠7)) (aS n r):=by
 unfold aS ji;refine jf (λv=>Pl r 0 v/\(v.skip=true->∀ t,v.l[v.bO.toNat]?=some t->t.aq≠7)) (λv hv=>dU λx h0 hx=>bD ⟨⟨hv.1,h0,by rw[<- hv.1.1];exact hx⟩,λh=>hv.2 h x hx⟩) λj hj=>gQ (λv=>Pl r 0 v) B1 λnext v hn hv=>A (λ_=>dU λx _ hx=>A acU λh=>hj _ ⟨hv,λ_ t ht=>by rw[hx] at ht;cases ht;simpa using h⟩) λh=>hj _ ⟨hv,λq=>by rw[h] at q;cases q⟩
def ĥ (ht:r.l[r.bO.toNat]?=some t) (hk:r.skip=true->t.aq≠7):PO (λy=>y=(t,r)) (aS n r):=by
 unfold aS ji;refine jf (λv=>v=r) (λv hv=>dU λx h0 hx=>bD (by subst hv;rw[ht] at hx;cases hx;rfl)) λj hj=>gQ (λv=>v=r) rfl λnext v hn hv=>?_;subst hv;refine A (λhs=>dU λx _ hx=>A (λh=>?_) λ_=>hj _ rfl) λ_=>hj _ rfl;rw[ht] at hx;cases hx;exact ao jg (hk hs)
def Ħ {K:Nat} {e:ak} (h:(xG (K+1)).1 e):PO (λy=>y.2.l=r.l/\y.2.bO=r.bO/\(xG (K+1)).1 y.1) (eE n e t r):=by
 unfold eE bJ eS;exact dh λ_ _=>A (λ_=>aD (W:=λz=>z.l=r.l/\z.bO=r.bO) (A (λ_=>bD vf) λ_=>bD vf) λz hz=>bD ⟨hz.1,hz.2,L2⟩) λ_=>aD (PM n h) λz hz=>bD ⟨rfl,rfl,hz⟩
def UL (hT:Tl L r.l) (ihP:DF g L (T.dQ c)) (tL:∀ c,DF (g+1) L (T.ax c)):PO (DE g r) (hO n T c r):=by
 unfold hO eS;refine aD (ihP r hT) λz hz=>gQ (λv=>DE g r (v.2,v.1)) hz λnext v hn hv=>Jr (A (λ_=>?_) λ_=>bD hv);have hTv:=hT.of hv.1;refine aD agP λy hy=>aD Fv λw hw=>A (λh=>?_) λ_=>bD (hv.to hy.1.1);obtain ⟨⟨Qk,Lp,hy3⟩,hy4⟩:=hy;have hk:=hw h;refine aD (ĥ (r:=y.2) (by rw[Qk.1];exact hy3) hy4) λu hu=>?_;subst hu;refine aD (Ħ hv.2) λd hd=>?_;obtain ⟨d1,d2,d3⟩:=hd;have y2:v.1.bO+0<=y.2.bO:=Qk.2;have y0:0<=y.2.bO:=Lp;have d2:d.2.bO=y.2.bO:=d2;have pd:Pl v.1 0 d.2:=⟨d1.trans Qk.1,aB⟩;have hTd:=hTv.of pd;have tk:d.2.l[d.2.bO.toNat]?=some y.1:=by rw[d1,Qk.1,d2];exact hy3
 have p0:=hv.1.2;have p1:=pd.2;dsimp only at p0;refine dh λs _=>A (λ_=>aD (su hTd) λa ha=>aD m λb hb=>?_) λ_=>aD (L1 hTd aB tk hk) λa ha=>aD (tL _ _ (hTd.of ha)) λb hb=>aD (C3 ((hTd.of ha).of hb.1)) λf hf=>hn _ ?_
 ·have ha:=ha.2 y.1 aB tk hk;refine jf (λq=>Pl v.1 1 q) (λq hq=>aD (su (hTv.of hq)) λf hf=>hn _ ?_) λj hj=>dh λs2 _=>A (λ_=>aD sB λq hq=>hj _ (((pd.tr ha (l:=1) aB).tr hb.1 (l:=1) aB).tr hq aB)) λ_=>hj _ ((pd.tr ha (l:=1) aB).tr hb.1 aB);have q1:=hq.2;have q2:=hf.1.2;exact Aw ((hv.1.tr hq (l:=1) aB).tr hf.1 aB) λx hx=>by rw[cO.1 hx];exact (ey eX).1 _ d3
 have q1:=ha.2;have q2:=hb.1.2;have q3:=hf.2;refine Aw ((hv.1.tr (pd.tr ha (l:=1) aB) (l:=1) aB).tr (hb.1.tr hf (l:=0) aB) aB) λx hx=>?_;simp only[cb,cn,or_false] at hx;obtain rfl|rfl:=hx
 ·exact (ey eX).1 _ d3
 exact (ey eX).1 _ hb.2
end
section
variable {g L:Nat} {T:aO} {V:α->Prop}
def DT (g L:Nat) (k:Int) (f:aC->ah->aI (ak×ah)):Prop:=∀ t r,Tl L r.l->0<=r.bO->r.l[r.bO.toNat]?=some t->t.aq=k->PO (DE g r) (f t r)
def DB (g L:Nat) (f:ah->aI (List aK×List ByS×ah)):Prop:=∀ t r,Tl L r.l->0<=r.bO->r.l[r.bO.toNat]?=some t->t.aq=5->t.bM=[123]->PO (λy=>Pl r 1 y.2.2/\∀ d,d∈y.1->(xG (g+4*(y.2.2.bO - r.bO).toNat)).2 d) (f r)
def ace:PO (λy=>y=true->t.aq=5) (ch t x):=by
 unfold ch;exact A (λh=>bD λ_=>by simpa using h) λ_=>bD λh=>by cases h
def akl:PO (λy=>y=true->t.aq=5/\t.bM=x) (ch t x):=by
 unfold ch;exact A (λh=>bD λh2=>⟨by simpa using h,by simpa using h2⟩) λ_=>bD λh=>by cases h
def PQ:PO (λy=>y=true->t.aq≠0) (jO t x):=by
 unfold jO;refine A (λh=>bD λ_=>?_) λ_=>bD du;have:t.aq=1:=by simpa using h
 omega
def UM (hT:Tl L r.l) (ihI:DT g L 1 T.jy) (ihS:DT g L 4 T.fZ) (ihL:DT g L 5 T.jT) (tL:∀ c,DF (g+1) L (T.ax c)) (ihB:∀ c,DB g L (T.dx c)):PO (DE g r) (fB n T c r):=by
 unfold fB eS;refine aD m λy hy=>?_;have L4:=hT.of hy.1;have ty:y.2.l[y.2.bO.toNat]?=some y.1:=by rw[hy.1.1];exact hy.2.2
 have nx:∀ {f:aC×ah->aI (ak×ah)},(∀ z,Pl r 0 z.2->PO (DE g r) (f z))->PO (DE g r) (ag (P n y.2) f):=λh=>aD (su L4) λz hz=>h z (hy.1.tr hz.1 aB);refine A (λh=>aD (ihI _ _ L4 hy.2.1 ty jg) λz hz=>bD (hz.fr hy.1)) λ_=>A (λ_=>nx λz hz=>dh λv _=>bD (tV hz)) λ_=>A (λ_=>nx λz hz=>bD (tV hz)) λ_=>A (λh=>aD (ihS _ _ L4 hy.2.1 ty jg) λz hz=>bD (hz.fr hy.1)) λ_=>?_;refine dh λ_ _=>A (λ_=>nx λz hz=>bD (tV hz)) λ_=>dh λ_ _=>A (λ_=>nx λz hz=>bD (tV hz)) λ_=>aD ace λw hw=>A (λh=>?_) λ_=>aD akl λw2 GA=>A (λh=>?_) λ_=>aD ace λw3 hw3=>A (λh=>aD (ihL _ _ L4 hy.2.1 ty (hw3 h)) λz hz=>bD (hz.fr hy.1)) λ_=>aD sB λz hz=>bD (tV (hy.1.tr hz aB))
 ·refine aD (L1 L4 hy.2.1 ty (by have:=hw h;omega)) λa ha=>aD (tL _ _ (L4.of ha)) λb hb=>aD (C3 ((L4.of ha).of hb.1)) λf hf=>bD ?_;have q0:=hy.1.2;have q1:=ha.2;have q2:=hb.1.2;have q3:=hf.2;exact ⟨((hy.1.tr ha (l:=1) aB).tr hb.1 (l:=1) aB).tr hf aB,(ey eX).1 _ hb.2⟩
 refine jf (λ_=>True) (λv _=>aD (ihB _ _ _ L4 hy.2.1 ty (GA h).1 (GA h).2) λz hz=>bD ?_) λj hj=>A (λ_=>hj _ trivial) λ_=>hj _ trivial;have q0:=hy.1.2;have q1:=hz.1.2;exact ⟨(hy.1.tr hz.1 (l:=1) aB).tr B1 aB,show (∀ x,x∈([]:List ak)->(xG _).1 x)/\∀ d,d∈z.1->(xG (g+4*(z.2.2.bO - r.bO).toNat)).2 d from ⟨λx hx=>(cn hx).elim,λd hd=>(ey aB).2 _ (hz.2 d hd)⟩⟩
def acf (hT:Tl L r.l) (tL:∀ c,DF (g+1) L (T.ax c)):PO (DE (g+1) r) (mr n T r):=by
 unfold mr vi Bn oj jk s6 eA;refine aD m λy hy=>aD PQ λw hw=>A (λ_=>aD (tL _ _ (hT.of hy.1)) λz hz=>bD (hz.fr hy.1)) λh=>PN hT hy (hw jg) λa ha=>aD (Xl (hT.of ha)) λb hb=>?_;have ab:=ha.tr hb (l:=1) aB;refine aD (tL _ _ (hT.of ab)) λe he=>bY λ_=>?_;have ae:=ab.tr he.1 (l:=1) aB;have q0:=ab.2;have q1:=he.1.2;refine jf (λv=>Pl r 1 v.1/\∀ x,x∈v.2.bK->(xG (g+1+4*(v.1.bO - r.bO).toNat)).1 x) (λv hv=>aD (Mo (hT.of hv.1)) λf hf=>aD (tL _ _ ((hT.of hv.1).of hf)) λk hk=>bY λ_=>bD ?_) λj hj=>aD m λf hf=>aD PQ λu hu=>A (λh=>PN (hT.of ae) hf (hu h) λk hk=>aD (tL _ _ ((hT.of ae).of hk)) λo ho=>bY λ_=>hj _ ?_) λ_=>hj _ ?_
 ·have p0:=hv.1.2;have p1:=hf.2;have p2:=hk.1.2;refine Aw ((hv.1.tr hf (l:=1) aB).tr hk.1 aB) λx hx=>?_;obtain q|q:=bH.1 hx
  ·exact (ey aB).1 _ (hv.2 x q)
  rw[cO.1 q];exact (ey aB).1 _ hk.2
 ·have p1:=hk.2;have p2:=ho.1.2;refine ⟨(ae.tr hk (l:=1) aB).tr ho.1 aB,λx hx=>?_⟩;have hx:x∈([]++[e.1])++[o.1]:=hx;simp only[tN,mY,cb,cn,or_false] at hx;obtain rfl|rfl:=hx
  ·exact (ey eX).1 _ he.2
  exact (ey eX).1 _ ho.2
 have p1:=hf.1.2;refine ⟨ae.tr hf.1 aB,λx hx=>?_⟩;have hx:x∈[]++[e.1]:=hx;simp only[tN,cb,cn,or_false] at hx;subst hx;exact (ey eX).1 _ he.2
end
def SI (g:Nat) (r:ah) (v:ah×List ak):Prop:=Pl r 1 v.1/\∀ x,x∈v.2->(xG (g+4*(v.1.bO - r.bO).toNat)).1 x
section
variable {g L:Nat} {r3:ah} {T:aO} {l:List ak}
def SI.mv (h:SI g r (r1,l)) (h1:Pl r1 0 r2):SI g r (r2,l):=⟨h.1.tr h1 aB,λx hx=>(ey (by have:=h.1.2;have:=h1.2;dsimp only at *;omega)).1 _ (h.2 x hx)⟩
def SI.add (h:SI g r (r1,l)) (h1:DE (g+1) r1 (e,r2)):SI g r (r2,l++[e]):=⟨h.1.tr h1.1 aB,λx hx=>by
 have p0:=h.1.2;have p1:=h1.1.2;dsimp only at p0 p1;obtain q|q:=bH.1 hx
 ·exact (ey eX).1 _ (h.2 x q)
 rw[cO.1 q];exact (ey eX).1 _ h1.2⟩
variable {t:ByS} {nu:Int}
def SI.leaf (h:SI g r (r1,l)):SI g r (r1,l++[ak.mk k t nu a b [] [] tl pos]):=⟨h.1,λx hx=>by
 have p0:=h.1.2;obtain q|q:=bH.1 hx
 ·exact h.2 x q
 rw[cO.1 q];exact (ey (show 0+1<=_ by dsimp only at *;omega)).1 _ L2⟩
def SI.nd (h:SI g r (r1,l)) (h1:Pl r1 0 r2):DE g r (ak.mk k t nu a b l [] tl pos,r2):=Aw (h.mv h1).1 (h.mv h1).2
def ħ {t:aC} (hT:Tl L r.l) (h0:0<=r.bO) (ht:r.l[r.bO.toNat]?=some t) (hk:t.aq=1) (tL:∀ c,DF (g+1) L (T.ax c)):PO (DE g r) (lN n T t r):=by
 unfold lN Bn oj jk s6 eA eS;refine aD (su hT) λy hy=>?_;have Qk:=hy.2 t h0 ht aB;have L4:=hT.of hy.1;refine A (λ_=>bD (tV hy.1)) λ_=>A (λ_=>bD (tV hy.1)) λ_=>A (λ_=>bD (tV hy.1)) λ_=>jf (λ_=>True) (λv _=>A (λ_=>bD (tV hy.1)) λ_=>dh λ_ _=>A (λ_=>aD sB λz hz=>bD (tV (hy.1.tr hz aB))) λ_=>aD m λz hz=>aD ace λw hw=>A (λ_=>bD (tV (hy.1.tr hz.1 aB))) λh=>?_) λj hj=>A (λ_=>hj _ trivial) λ_=>A (λ_=>hj _ trivial) λ_=>A (λ_=>hj _ trivial) λ_=>hj _ trivial;have yz:=Qk.tr hz.1 (l:=1) aB;refine aD (L1 (L4.of hz.1) hz.2.1 (by rw[hz.1.1];exact hz.2.2) (by have:=hw jg;omega)) λa ha=>?_;have ya:=yz.tr ha (l:=1) aB;refine jf (λv=>SI g r (v.1,v.2.bK)) (λv hv=>aD (C3 (hT.of hv.1)) λf hf=>bD (hv.nd hf)) λj hj=>gQ (λv=>SI g r (v.1,v.2.bK)) ⟨ya,λx hx=>(cn (show x∈([]:List ak) from hx)).elim⟩ λnext v hn hv=>Jr (A (λ_=>aD m λb hb=>dh λ_ _=>A (λ_=>?_) λ_=>hj _ (hv.mv hb.1)) λ_=>hj _ hv);have hb:=hv.mv hb.1;refine aD (tL _ _ (hT.of hb.1)) λd hd=>bY λ_=>?_;have hd:=hb.add hd;refine aD m λf hf=>dh λ_ _=>A (λ_=>hj _ (hd.mv hf.1)) λ_=>aD (Mo ((hT.of hd.1).of hf.1)) λu hu=>aD m λk hk=>dh λ_ _=>A (λ_=>aD sB λo ho=>hn _ ((((hd.mv hf.1).mv hu).mv hk.1).mv ho)) λ_=>hn _ (((hd.mv hf.1).mv hu).mv hk.1)
def acg {t:aC} (hT:Tl L r.l) (h0:0<=r.bO) (ht:r.l[r.bO.toNat]?=some t) (hk:t.aq=5) (tL:∀ c,DF (g+1) L (T.ax c)) (ihI:DF (g+1) L T.fb):PO (DE g r) (mu n T t r):=by
 unfold mu Bn oj jk s6 eA eS;refine aD (L1 hT h0 ht aB) λa ha=>?_;refine jf (λv=>SI g r (v.1,v.2.bK)) (λv hv=>aD (C3 (hT.of hv.1)) λf hf=>bD (hv.nd hf)) λj hj=>gQ (λv=>SI g r (v.1,v.2.bK)) ⟨ha,λx hx=>(cn (show x∈([]:List ak) from hx)).elim⟩ λnext v hn hv=>Jr (A (λ_=>aD m λb hb=>dh λ_ _=>A (λ_=>?_) λ_=>hj _ (hv.mv hb.1)) λ_=>hj _ hv);have hb:=hv.mv hb.1;refine aD m λd hd=>?_;have hd:=hb.mv hd.1;have hTd:=hT.of hd.1;refine dh λ_ _=>A (λ_=>aD (su hTd) λf hf=>aD m λu hu=>?_) λ_=>aD (ihI _ hTd) λf hf=>bY λ_=>?_
 ·have hu:=(hd.mv hf.1).mv hu.1;refine dh λ_ _=>A (λ_=>bY λ_=>hj _ hu.leaf) λ_=>aD (tL _ _ (hT.of hu.1)) λk hk=>bY λ_=>hj _ (hu.add hk)
 have hf:=hd.add hf;refine aD m λu hu=>dh λ_ _=>A (λ_=>hj _ (hf.mv hu.1)) λ_=>aD (Mo ((hT.of hf.1).of hu.1)) λk hk=>aD m λo ho=>dh λ_ _=>A (λ_=>aD sB λq hq=>hn _ ((((hf.mv hu.1).mv hk).mv ho.1).mv hq)) λ_=>hn _ (((hf.mv hu.1).mv hk).mv ho.1)
end
section
variable {a:Int}
def sub_lt {i j:Int} (h0:0<=a) (h1:a<s.length) (hi:a<i):(sub s i j).length<s.length:=by
 unfold sub;rw[jo,iw];omega
def agQ {e:Int} {c:Bool} (h0:0<=a) (h1:a<s.length):PO (λy=>y.1.aq≠0/\(y.1.aq=4->y.1.bM.length<s.length)) (vS n s a e c):=by
 unfold vS ji;refine A (λ_=>bY λ_=>bY λ_=>dh λ_ _=>bY λ_=>bY λ_=>bY λ_=>bD ⟨by show (4:Int)≠0;decide,λ_=>sub_lt h0 h1 aB⟩) λ_=>bY λ_=>bY λ_=>dh λ_ _=>bY λ_=>bD ⟨by show (3:Int)≠0;decide,λh=>ao h (by show ¬ (3:Int)=4;decide)⟩
def agR:PO (λy=>y.2=true->y.1.aq≠0/\(y.1.aq=4->y.1.bM.length<s.length)) (uq n s a):=by
 have K:∀ {k:Int} {t:ByS} {p e:Int} {b:Bool},k≠0->k≠4->PO (λy:aC×Bool=>y.2=true->y.1.aq≠0/\(y.1.aq=4->y.1.bM.length<s.length)) (.ok (aC.mk k t p e,b)):=λh0 h4=>bD λ_=>⟨h0,λh=>ao h h4⟩;unfold uq;refine dU λb h0 hb=>A (λ_=>dh λy _=>A (λ_=>bD du) λ_=>aD (agQ h0 (by have:=(an.1 hb).1;omega)) λz hz=>bD λ_=>hz) λ_=>jf (λ_=>True) (λv _=>A (λ_=>?_) λ_=>dh λy _=>A (λ_=>bY λ_=>dh λ_ _=>bY λ_=>K dN dN) λ_=>dh λo _=>dh λw _=>?_) λj hj=>bY λ_=>A (λ_=>bY λ_=>bY λ_=>hj _ trivial) λ_=>hj _ trivial
 ·refine jf (λ_=>True) (λv _=>bY λ_=>bY λ_=>K dN dN) λj hj=>gQ (λ_=>True) trivial λnext v hn _=>A (λ_=>dU λ_ _ _=>A (λ_=>bY λ_=>hn _ trivial) λ_=>hj _ trivial) λ_=>hj _ trivial
 refine jf (λ_=>True) (λv _=>A (λ_=>bY λ_=>K dN dN) λ_=>bY λ_=>K dN dN) λj hj=>A (λ_=>bY λ_=>hj _ trivial) λ_=>hj _ trivial
def agS:PO (λy=>y.2.eU=0->Tl s.length y.1/\y.1.length<=4000000000000) (tp n s):=by
 unfold tp oj jk s6;refine A (λ_=>bD du) λ_=>gQ (λv:List aC×Int=>v.1.length<=4000000000000/\∀ t,t∈v.1->t.aq≠0/\(t.aq=4->t.bM.length<s.length)) ⟨Nat.zero_le _,λt ht=>(cn ht).elim⟩ λnext v hn hv=>?_;have sp:PO (λy:List aC×dH=>y.2.eU=0->Tl s.length y.1/\y.1.length<=4000000000000) (gd (cD (v.2+1)) (next (v.1,v.2+1))):=bY λ_=>hn _ hv;have ad:∀ {t:aC} {e:Int},nP 40 v.1.length 1->t.aq≠0/\(t.aq=4->t.bM.length<s.length)->PO (λy:List aC×dH=>y.2.eU=0->Tl s.length y.1/\y.1.length<=4000000000000) (next (v.1++[t],e)):=λhA ht=>hn _ ⟨by have:=hA.1;rw[eb,gp];omega,λu hu=>by
  obtain q|q:=bH.1 hu
  ·exact hv.2 u q
  rw[cO.1 q];exact ht⟩
 refine A (λ_=>dU λ_ _ _=>A (λ_=>sp) λ_=>dU λ_ _ _=>A (λ_=>sp) λ_=>dU λ_ _ _=>A (λ_=>sp) λ_=>dU λ_ _ _=>A (λ_=>dh λy _=>A (λ_=>bY λ_=>bY λhA=>bY λ_=>ad hA ⟨by show (7:Int)≠0;decide,λh=>ao h (by show ¬ (7:Int)=4;decide)⟩) λ_=>sp) λ_=>aD agR λy hy=>A (λ_=>bD du) λh=>bY λhA=>ad hA (hy jg)) λ_=>bY λhA=>bD λ_=>⟨λi t ht=>?_,by have:=hA.1;rw[eb,gp];simp only[gp] at this;omega⟩;obtain q|⟨q,rfl⟩:=uz ht
 ·have:=(an.1 q).1;exact ⟨λ_=>by simp;omega,(hv.2 t (aQ q)).2⟩
 exact ⟨λh=>ao rfl h,λh=>by cases h⟩
def Ĩ:PO (λy=>∀ x,x∈y.1->x.Code=true->x.bM.length<=s.length) (jE n s):=by
 unfold jE oj jk s6;have nl:∀ {t:dH},PO (λy:List cB×dH=>∀ x,x∈y.1->x.Code=true->x.bM.length<=s.length) (.ok ([],t)):=bD λx hx=>(cn hx).elim;refine gQ (λv:List cB×ByS×Int×Int=>∀ x,x∈v.1->x.Code=true->x.bM.length<=s.length) (λx hx=>(cn hx).elim) λnext v hn hv=>?_;have ad:∀ {l:List cB} {t:ByS} {c:Bool} {p:Int},(∀ x,x∈l->x.Code=true->x.bM.length<=s.length)->(c=true->t.length<=s.length)->∀ x,x∈l++[cB.mk t c p]->x.Code=true->x.bM.length<=s.length:=λhl h x hx hc=>by
  obtain q|q:=bH.1 hx
  ·exact hl x q hc
  rw[cO.1 q] at hc ⊢;exact h hc
 have sl:∀ {i j:Int},(sub s i j).length<=s.length:=λ{i j}=>by unfold sub;rw[jo,iw];omega
 refine A (λ_=>jf (λ_=>True) (λw _=>A (λ_=>bY λ_=>dh λy _=>A (λ_=>nl) λ_=>jf (λl=>∀ x,x∈l->x.Code=true->x.bM.length<=s.length) (λl hl=>bY λ_=>bY λ_=>bY λ_=>bY λ_=>bY λ_=>bY λ_=>hn _ (ad hl λ_=>sl)) λj hj=>A (λ_=>bY λ_=>hj _ (ad hv du)) λ_=>hj _ hv) λ_=>dh λy _=>A (λ_=>nl) λ_=>bY λ_=>bY λ_=>bY λ_=>bY λ_=>dh λz _=>bY λ_=>bY λ_=>hn _ hv) λj hj=>dU λ_ _ _=>A (λ_=>bY λ_=>A (λ_=>bY λ_=>dU λ_ _ _=>hj _ trivial) λ_=>hj _ trivial) λ_=>hj _ trivial) λ_=>A (λ_=>bY λ_=>bD (ad hv du)) λ_=>bD hv
end
def DC (g L:Nat) (f:ByS->Int->aI (ak×Bool)):Prop:=∀ x v,x.length<L->PO (λy=>(xG (g+1)).1 y.1) (f x v)
section
variable {g L:Nat} {T:aO}
def YI (hT:Tl L r.l) (h0:0<=r.bO) (ht:r.l[r.bO.toNat]?=some t) (hk:t.aq=4) (ihC:DC g L T.pZ):PO (DE g r) (kU n T t r):=by
 unfold kU ji Bn oj jk s6 eA eS;have tl:=(hT _ t ht).2 hk;refine aD (su hT) λy hy=>aD Ĩ λz hz=>A (λ_=>aD sB λw hw=>bD (tV (hy.1.tr hw aB))) λ_=>?_;have Qk:=hy.2 t h0 ht aB;have p1:=Qk.2;refine gQ (λv:ak×Int=>∀ x,x∈v.1.bK->(xG (g+1)).1 x) (λx hx=>(cn (show x∈([]:List ak) from hx)).elim) λnext v hn hv=>A (λ_=>bY λ_=>dU λx hx0 hx=>bY λ_=>dU λx2 _ ve=>?_) λ_=>bD (Aw Qk λx hx=>(ey aB).1 _ (hv x hx));have ad:∀ {e:ak},(xG (g+1)).1 e->∀ x,x∈v.1.bK++[e]->(xG (g+1)).1 x:=λhe x hx=>by
  obtain q|q:=bH.1 hx
  ·exact hv x q
  rw[cO.1 q];exact he
 refine A (λ_=>dU λx3 _ _=>bY λ_=>bY λ_=>hn _ (ad L2)) λhc=>dU λx3 _ WI=>?_;rw[ve] at WI;cases WI;refine aD (ihC _ _ (Nat.lt_of_le_of_lt (hz x2 (aQ ve) (by simpa using hc)) tl)) λw hw=>A (λ_=>aD sB λu hu=>bD (tV (hy.1.tr hu aB))) λ_=>bY λ_=>bY λ_=>hn _ (ad hw)
def ĩ {l:List aC} {i:Nat} {u:aC} (h:Tl L l) (ht:l[i]?=some t) (hk:u.aq=t.aq) (hx:u.bM=t.bM):Tl L (l.set i u):=λj w hw=>by
 rw[rR];by_cases q:i=j
 ·subst q;have:=(an.1 ht).1;rw[vj this] at hw;cases hw;rw[hk,hx];exact h i t ht
 rw[List.getElem?_set_ne q] at hw;exact h j w hw
def ach {x:ByS} {p:Int} {B:Nat} (hB:B=16000000000008) (tL:DF (g+1) x.length (T.ax false)):PO (λy=>(xG (g+B+1)).1 y.1) (uJ n T x p):=by
 unfold uJ;refine aD (W:=λy:List aC×dH=>y.2.eU=0->Tl x.length y.1/\y.1.length<=4000000000000) agS λy hy=>A (λ_=>bD L2) λhe=>?_;obtain ⟨hT,hl⟩:=hy DN;refine gQ (λv:List aC×Int=>Tl x.length v.1/\v.1.length<=4000000000000) ⟨hT,hl⟩ λnext v hn hv=>A (λ_=>dU λa _ ha=>A (λ_=>bD L2) λ_=>dU λb _ hb=>bY λ_=>dU λc _ hc=>dU λd _ hd=>bY λ_=>dU λe _ he=>bY λ_=>hn _ ?_) λ_=>?_
 ·have h1:=ĩ (u:=aC.mk c.aq c.bM (b.cN+p) c.pO) hv.1 hc rfl rfl;exact ⟨ĩ h1 he rfl rfl,by rw[rR,rR];exact hv.2⟩
 refine aD (tL _ hv.1) λa ha=>aD m λb hb=>?_;have fin:(xG (g+B+1)).1 a.1:=by
  have p0:=ha.1.2;have p1:=hb.1.2;have p2:=(an.1 hb.2.2).1;have p3:a.2.l=v.1:=ha.1.1;rw[p3] at p2;have hv2:=hv.2;have p0:(0:Int)+0<=a.2.bO:=p0;exact (ey (show g+1+4*(a.2.bO - 0).toNat+1<=_ by omega)).1 _ ha.2
 exact A (λ_=>dh λ_ _=>Jr (bD fin)) λ_=>Jr (bD fin)
end
def Ī:PO (λy=>y.2=r) (kM n r):=by
 unfold kM;refine gQ (λ_=>True) trivial λnext v hn _=>A (λ_=>jf (λ_=>True) (λw _=>dU λ_ _ _=>dh λ_ _=>A (λ_=>bY λ_=>A QI λ_=>bY λ_=>hn _ trivial) λ_=>A QI λ_=>bY λ_=>hn _ trivial) λj hj=>dU λ_ _ _=>dh λ_ _=>A (λ_=>bY λ_=>hj _ trivial) λ_=>hj _ trivial) λ_=>bD rfl
def ī {a b:Int}:PO (λy=>y.2=r) (kZ n a b r):=by
 unfold kZ ji;exact gQ (λ_=>True) trivial λnext v hn _=>A (λ_=>bY λ_=>dU λ_ _ _=>A QI λ_=>bY λ_=>hn _ trivial) λ_=>bD rfl
def ad3:PO (λy=>y.2=r) (kI n r):=by
 unfold kI ji;exact A QI λ_=>bY λ_=>dU λ_ _ _=>A QI λ_=>bY λ_=>dU λ_ _ _=>dU λ_ _ _=>aD ī λy hy=>bD hy
def x7:PO (λy=>y.2=r) (cM k r):=by
 unfold cM ji;exact bY λ_=>A (λ_=>bY λ_=>dU λ_ _ _=>bD rfl) λ_=>bY λ_=>dU λ_ _ _=>bD rfl
def UN:PO (λy=>k<=y.1/\y.2=r) (gD n k r):=by
 unfold gD;refine gQ (λv=>k<=v.2/\v.1=r) ⟨dR k,rfl⟩ λnext v hn hv=>aD x7 λy hy=>A (λ_=>bY λ_=>hn _ ⟨by dsimp only;have:=hv.1;omega,hy.trans hv.2⟩) λ_=>bD ⟨hv.1,hy.trans hv.2⟩
def YJ:PO (λy=>0<=y.2.2.1/\y.2.2.2=r) (nK n r):=by
 unfold nK;have no:∀ {r':ah},r'=r->PO (λy:ByS×Int×Int×ah=>0<=y.2.2.1/\y.2.2.2=r) (.ok (([]:ByS),0,0,r')):=λh=>bD ⟨dR 0,h⟩;refine aD x7 λy hy=>dh λ_ _=>A (λ_=>no hy) λ_=>aD UN λz hz=>?_;have Lq:=hz.2.trans hy;refine jf (λv=>v.1=r/\0<=v.2.1) (λv hv=>bY λ_=>aD UN λa ha=>aD x7 λb hb=>dh λ_ _=>?_) λj hj=>aD x7 λa ha=>dh λ_ _=>A (λ_=>bY λ_=>aD UN λb hb=>aD x7 λc hc=>A (λ_=>no ?_) λ_=>aD x7 λd hd=>aD x7 λe he=>hj _ ⟨?_,?_⟩) λ_=>aD x7 λb hb=>dh λ_ _=>A (λ_=>no ?_) λ_=>hj _ ⟨?_,?_⟩
 ·have hb2:=hb.trans (ha.2.trans hv.1);refine A (λ_=>no hb2) λ_=>bY λ_=>aD x7 λd hd=>dh λ_ _=>A (λ_=>no (hd.trans hb2)) λ_=>bY λ_=>bD ⟨?_,hd.trans hb2⟩;have:=ha.1;have:=hv.2;show 0<=a.1+2;omega
 ·exact hc.trans (hb.2.trans (ha.trans Lq))
 ·exact he.trans (hd.trans (hc.trans (hb.2.trans (ha.trans Lq))))
 ·have:=hz.1;have:=hb.1;dsimp only;omega
 ·exact hb.trans (ha.trans Lq)
 ·exact hb.trans (ha.trans Lq)
 have:=hz.1;dsimp only;omega
def DD (g:Nat) (r:ah) (y:aK×ah):Prop:=Pl r 0 y.2/\(xG (g+4*(y.2.bO - r.bO).toNat+3)).2 y.1
def DS (g:Nat) (r:ah) (y:List aK×List ByS×ah):Prop:=Pl r 0 y.2.2/\∀ d,d∈y.1->(xG (g+4*(y.2.2.bO - r.bO).toNat+3)).2 d
def Iz {K:Nat} {k p:Int} {lb a b:ByS} {xo:List ak} {body:List aK} {tl ld:List ByS} {tr:ByS} {pos:Int} (h:∀ x,x∈xo->(xG K).1 x) (hb:∀ d,d∈body->(xG K).2 d):(xG (K+1)).2 (aK.mk k p lb a b xo body tl ld tr pos):=⟨h,hb⟩
section
variable {g L:Nat} {T:aO}
def al0 {x:ByS} (hT:Tl L r.l) (h0:0<=r.bO) (ht:r.l[r.bO.toNat]?=some t) (hk:t.aq=5) (hx:t.bM=x):PO (λy=>Pl r 1 y) (cH n x r):=by
 unfold cH;refine aD (ĥ ht λ_=>by omega) λy hy=>?_;subst hy;refine aD (W:=λz=>z=true) (by unfold ch;exact A (λ_=>bD Es) λh=>ao jg (by simp[hk])) λz hz=>?_;subst hz;exact A du λ_=>aD (su hT) λz hz=>bD (hz.2 t h0 ht aB)
def YK (hT:Tl L r.l) (ihD:∀ c x r,Tl L r.l->PO (DS g r) (T.dj c x r)):PO (DS g r) (fQ n T c r):=by
 unfold fQ;refine aD (Mo hT) λy hy=>aD ahg λz hz=>aD ahf λw hw=>bD ?_;have p0:=hy.2;have p1:y.bO+0<=z.2.2.bO:=hz.1.2;have p2:=hw.2;exact ⟨⟨hw.1.trans (hz.1.1.trans hy.1),by show r.bO+0<=w.bO;omega⟩,λd hd=>(ey (show g+4*(z.2.2.bO - y.bO).toNat+3<=g+4*(w.bO - r.bO).toNat+3 by omega)).2 _ (hz.2 d hd)⟩
def YL (hT:Tl L r.l) (h0:0<=r.bO) (ht:r.l[r.bO.toNat]?=some t) (hk:t.aq=5) (hx:t.bM=[123]) (ihD:∀ c x r,Tl L r.l->PO (DS g r) (T.dj c x r)):PO (λy=>Pl r 1 y.2.2/\∀ d,d∈y.1->(xG (g+4*(y.2.2.bO - r.bO).toNat)).2 d) (fQ n T c r):=by
 unfold fQ;refine aD (al0 hT h0 ht hk hx) λy hy=>aD ahg λz hz=>aD ahf λw hw=>bD ?_;have p0:=hy.2;have p1:y.bO+0<=z.2.2.bO:=hz.1.2;have p2:=hw.2;exact ⟨⟨hw.1.trans (hz.1.1.trans hy.1),by show r.bO+1<=w.bO;omega⟩,λd hd=>(ey (show g+4*(z.2.2.bO - y.bO).toNat+3<=g+4*(w.bO - r.bO).toNat by omega)).2 _ (hz.2 d hd)⟩
end
section
variable {g L:Nat} {T:aO}
def DD.nd {r1 r2:ah} {e:ak} {k p:Int} {lb a b:ByS} {tl ld:List ByS} {tr:ByS} {pos:Int} {body:List aK} (h1:Pl r 0 r1) (h:DE (g+1) r1 (e,r2)) (hb:body=[]):DD g r (aK.mk k p lb a b [e] body tl ld tr pos,r2):=by
 subst hb;have p0:=h1.2;have p1:=h.1.2;dsimp only at p1;refine ⟨h1.tr h.1 aB,Iz (λx hx=>?_) λd hd=>(cn hd).elim⟩;rw[cO.1 hx];exact (ey eX).1 _ h.2
def Em (d:aK):Prop:=d.lZ=[]/\(xG 1).2 d
def UO (hd:Em d) (hT:Tl L r.l) (tL:∀ c,DF (g+1) L (T.ax c)) (ihM:∀ d c r,Em d->Tl L r.l->PO (DD g r) (T.eZ d c r)):PO (DD g r) (kj n T d c r):=by
 unfold kj;refine aD YJ λy hy=>?_;obtain ⟨hw,hr⟩:=hy;rw[hr];refine A (λ_=>aD (ihM _ _ _ hd hT) λz hz=>bD hz) λ_=>jf (λ_=>True) (λ_ _=>bY λ_=>aD (tL _ _ hT) λz hz=>bD (DD.nd (r1:=⟨r.s,r.shift,r.l,r.bO+y.2.2.1,r.skip,r.jF,r.td⟩) ⟨rfl,eX⟩ hz hd.1)) λj hj=>dh λ_ _=>A (λ_=>A (λ_=>aD sB λz hz=>bD ⟨hz,(ey aB).2 _ hd.2⟩) λ_=>hj _ trivial) λ_=>hj _ trivial
def Ĭ (hd:Em d) (hT:Tl L r.l) (tL:∀ c,DF (g+1) L (T.ax c)):PO (DD g r) (jc n T d c r):=by
 unfold jc ji dS;refine jf (λv=>Pl r 0 v) (λv hv=>aD (tL _ _ (hT.of hv)) λz hz=>bD (DD.nd hv hz hd.1)) λj hj=>aD m λy hy=>aD ace λw hw=>A (λh=>aD Ī λz hz=>?_) λ_=>hj _ hy.1;rw[hz];have L4:=hT.of hy.1;refine jf (λ_=>True) (λv _=>A (λ_=>aD (L1 L4 hy.2.1 (by rw[hy.1.1];exact hy.2.2) (by have:=hw h;omega)) λa ha=>aD (tL _ _ (L4.of ha)) λb hb=>aD (C3 ((L4.of ha).of hb.1)) λf hf=>aD m λk hk=>aD (L3 hb.2) λo ho=>aD (Mo ((((L4.of ha).of hb.1).of hf).of hk.1 |>.of ho.1)) λq hq=>aD (tL _ _ (((((L4.of ha).of hb.1).of hf).of hk.1 |>.of ho.1).of hq)) λu hu=>bD ?_) λ_=>hj _ hy.1) λj2 x9=>A (λ_=>dU λ_ _ _=>dh λ_ _=>A (λ_=>bY λ_=>A (λ_=>bY λ_=>dU λ_ _ _=>dh λ_ _=>x9 _ trivial) λ_=>x9 _ trivial) λ_=>x9 _ trivial) λ_=>x9 _ trivial;have p0:=hy.1.2;have p1:=ha.2;have p2:=hb.1.2;have p3:=hf.2;have p4:=hk.1.2;have p5:=ho.1.2;have p6:=hq.2;have p7:=hu.1.2;refine ⟨⟨by rw[hu.1.1,hq.1,ho.1.1,hk.1.1,hf.1,hb.1.1,ha.1,hy.1.1],eX⟩,Iz (λx hx=>?_) λe he=>by rw[hd.1] at he;exact (cn he).elim⟩;simp only[cb,cn,or_false] at hx;obtain rfl|rfl:=hx
 ·exact (ey eX).1 _ ho.2
 exact (ey eX).1 _ hu.2
end
section
variable {g L:Nat} {T:aO}
variable {p:Int} {lb:ByS} {ld:List ByS} {tr:ByS}
def ĭ:Em (aK.mk k p lb a b [] [] tl ld tr pos):=⟨rfl,Iz (λx h=>(cn h).elim) λd h=>(cn h).elim⟩
def DD.lf {d:aK} (h:Pl r 0 r1) (hd:Em d):DD g r (d,r1):=⟨h,(ey aB).2 _ hd.2⟩
def DD.bd {r2 r3:ah} {e:ak} {ds:List aK} {tl2:List ByS} (h1:Pl r 1 r1) (h:DE (g+1) r1 (e,r2)) (hb:DS g r2 (ds,tl,r3)):DD g r (aK.mk k p lb a b [e] ds tl2 ld tr pos,r3):=by
 have p0:=h1.2;have p1:=h.1.2;have p2:=hb.1.2;dsimp only at p1 p2;refine ⟨(h1.tr h.1 (l:=1) aB).tr hb.1 aB,Iz (λx hx=>?_) λd hd=>(ey eX).2 _ (hb.2 d hd)⟩;rw[cO.1 hx];exact (ey eX).1 _ h.2
def L5 (hT:Tl L r.l) (tL:∀ c,DF (g+1) L (T.ax c)) (ihK:∀ d c r,Em d->Tl L r.l->PO (DD g r) (T.ic d c r)) (ihM:∀ d c r,Em d->Tl L r.l->PO (DD g r) (T.eZ d c r)) (ihB:∀ c r,Tl L r.l->PO (DS g r) (T.dx c r)):PO (DD g r) (fA n T c r):=by
 unfold fA dZ;refine aD m λy hy=>?_;refine jf (λv=>v.1=y.2) (λv hv=>?_) λj hj=>dh λ_ _=>A (λ_=>aD x7 λz hz=>dh λ_ _=>hj _ hz) λ_=>hj _ rfl;obtain ⟨v1,v2⟩:=v;have hv:v1=y.2:=hv;subst hv;have L4:=hT.of hy.1;have nd:∀ {z:DD g y.2=DD g y.2},True:=trivial;have fr:∀ {z:aK×ah},DD g y.2 z->DD g r z:=λ{z} h=>by
  have q0:=hy.1.2;have q1:=h.1.2;exact ⟨hy.1.tr h.1 aB,(ey aB).2 _ h.2⟩
 have nx0:∀ {f:aC×ah->aI (aK×ah)},(∀ z,Pl r 0 z.2->PO (DD g r) (f z))->PO (DD g r) (ag (P n y.2) f):=λh=>aD (su L4) λz hz=>h z (hy.1.tr hz.1 aB);refine A (λ_=>nx0 λz hz=>?_) λ_=>dh λ_ _=>A (λ_=>aD (ihK _ _ _ ĭ L4) λz hz=>bD (fr hz)) λ_=>dh λ_ _=>A (λ_=>A (λ_=>aD sB λz hz=>bD (DD.lf (hy.1.tr hz aB) ĭ)) λ_=>nx0 λz hz=>aD (L0 (hT.of hz)) λa ha=>?_) λ_=>aD PQ λw hw=>A (λh=>PN hT hy (hw h) λz hz=>aD (tL _ _ (hT.of hz)) λa ha=>aD (ihB _ _ ((hT.of hz).of ha.1)) λb hb=>bD (DD.bd hz ha hb)) λ_=>aD PQ λw2 GA=>A (λh=>PN hT hy (GA h) λz hz=>aD (Xl (hT.of hz)) λk hk=>?_) λ_=>dh λ_ _=>A (λ_=>A (λ_=>aD sB λz hz=>bD (DD.lf (hy.1.tr hz aB) ĭ)) λ_=>nx0 λz hz=>bD (DD.lf hz ĭ)) λ_=>aD (ihM _ _ _ ĭ L4) λz hz=>bD (fr hz)
 ·refine jf (λv=>Pl r 0 v.1) (λv hv=>aD (Mo (hT.of hv)) λa ha=>aD (tL _ _ ((hT.of hv).of ha)) λb hb=>bD (DD.nd (hv.tr ha aB) hb rfl)) λj hj=>aD m λa ha=>?_;have za:=hz.tr ha.1 (l:=0) aB;refine dh λ_ _=>A (λ_=>aD (su (hT.of za)) λb hb=>hj _ (za.tr hb.1 aB)) λ_=>aD m λb hb=>?_;have zb:=za.tr hb.1 (l:=0) aB;exact dh λ_ _=>A (λ_=>aD (su (hT.of zb)) λf hf=>hj _ (zb.tr hf.1 aB)) λ_=>hj _ zb
 ·have za:=hz.tr ha (l:=0) aB;exact aD (Mo (hT.of za)) λb hb=>aD (tL _ _ ((hT.of za).of hb)) λf hf=>bD (DD.nd (za.tr hb aB) hf rfl)
 have zk:=hz.tr hk (l:=1) aB;exact aD (tL _ _ (hT.of zk)) λa ha=>aD (ihB _ _ ((hT.of zk).of ha.1)) λb hb=>bD (DD.bd zk ha hb)
end
section
variable {g L:Nat} {T:aO}
def S2 (ihD:∀ c r,Tl L r.l->PO (DD g r) (T.cd c r)):∃ B,(∀ r,ig n T c x r=iter B n (r,[],([]:List aK),true,(0:Int)))/\(T.cd=cd n->∀ l r,et n c l x r=iter B n (r,l,([]:List aK),true,(0:Int)))/\∀ l r,Tl L r.l->PO (λy=>DS g r y/\(y.1=[]\/y.2.2.bO<r.l.length)) (iter B n (r,l,([]:List aK),true,(0:Int))):=by
 refine ⟨_,λr=>by unfold ig Bn oj jk s6 dL dT;exact rfl,λe l r=>by unfold et Bn oj jk s6 dL dT;rw[<- e],λl r hT=>?_⟩;refine gQ (λv:ah×List ByS×List aK×Bool×Int=>Pl r 0 v.1/\∀ d,d∈v.2.2.1->(xG (g+4*(v.1.bO - r.bO).toNat+3)).2 d) ⟨B1,λd h=>(cn h).elim⟩ λnext v hn hv=>Jr (A (λ_=>aD m λy hy=>?_) λ_=>bD ⟨⟨hv.1,λd h=>(cn h).elim⟩,.inl rfl⟩);have p0:=hv.1.2;have py:=hv.1.tr hy.1 (l:=0) aB;have L4:=hT.of py;have lt:y.2.bO<r.l.length:=by
  have h:=(an.1 hy.2.2).1;rw[show (v.1.jF==0,v.1).2.l=r.l from hv.1.1] at h;have:=hy.2.1;omega
 have st:∀ {r':ah} {a:List ByS} {b:Bool} {i:Int},Pl r 0 r'->v.1.bO<=r'.bO->PO (λy=>DS g r y/\(y.1=[]\/y.2.2.bO<r.l.length)) (next (r',a,v.2.2.1,b,i)):=λ{r' a b i} h h2=>hn _ ⟨h,λd hd=>(ey eX).2 _ (hv.2 d hd)⟩;have q0:v.1.bO+0<=y.2.bO:=hy.1.2;have p1:r.bO+0<=v.1.bO:=p0;have nx:∀ {f:aC×ah->aI (List aK×List ByS×ah)},(∀ z,Pl r 0 z.2->v.1.bO<=z.2.bO->PO (λy=>DS g r y/\(y.1=[]\/y.2.2.bO<r.l.length)) (f z))->PO (λy=>DS g r y/\(y.1=[]\/y.2.2.bO<r.l.length)) (ag (P n y.2) f):=λh=>aD (su L4) λz hz=>h z (py.tr hz.1 aB) (by have:=hz.1.2;omega);have fl:∀ {p:Int} {f:ah->aI (List aK×List ByS×ah)},(∀ z,Pl r 0 z->v.1.bO<=z.bO->PO (λy=>DS g r y/\(y.1=[]\/y.2.2.bO<r.l.length)) (f z))->PO (λy=>DS g r y/\(y.1=[]\/y.2.2.bO<r.l.length)) (ag (bJ p y.2) f):=λh=>aD sB λz hz=>h z (py.tr hz aB) (by have:=hz.2;omega);refine jf (λ_=>True) (λb _=>A (λ_=>nx λz hz h=>st hz h) λ_=>?_) λj hj=>A (λ_=>hj _ trivial) λ_=>dh λ_ _=>hj _ trivial;refine jf (λw=>w.1=y.2) (λw hw=>?_) λj hj=>A (λ_=>aD ad3 λz hz=>hj _ hz) λ_=>hj _ rfl;obtain ⟨w1,w2⟩:=w;have hw:w1=y.2:=hw;subst hw;refine A (λ_=>nx λz hz h=>bY λ_=>st hz h) λ_=>A (λ_=>A (λ_=>fl λz hz h=>st hz h) λ_=>aD ī λa ha=>?_) λ_=>?_
 ·rw[ha];refine A (λ_=>fl λz hz h=>st hz h) λ_=>nx λz hz h=>bY λ_=>dU λd _ hd=>hn _ ⟨hz,λe he=>?_⟩;have Hg:=hv.2 d (aQ hd);obtain q|q:=qu (show e∈List.set _ _ _ from he)
  ·exact (ey eX).2 _ (hv.2 e q)
  rw[q];exact (ey (show g+4*(v.1.bO - r.bO).toNat+2+1<=_ by dsimp only;omega)).2 _ (Iz Hg.1 Hg.2)
 refine jf (λ_=>True) (λb _=>A (λ_=>bD ⟨⟨py,λd hd=>(ey eX).2 _ (hv.2 d hd)⟩,.inr lt⟩) λ_=>A (λ_=>fl λz hz h=>st hz h) λ_=>aD (ihD _ _ L4) λz hz=>bY λ_=>bY λ_=>dU λ_ _ _=>hn _ ?_) λj hj=>A (λ_=>A (λ_=>hj _ trivial) λ_=>A (λ_=>dh λ_ _=>hj _ trivial) λ_=>hj _ trivial) λ_=>A (λ_=>dh λ_ _=>hj _ trivial) λ_=>hj _ trivial;have q1:y.2.bO+0<=z.2.bO:=hz.1.2;have Lq:=hz.2;refine ⟨py.tr hz.1 aB,λd hd=>?_⟩;obtain q|q:=bH.1 (show d∈v.2.2.1++[_] from hd)
 ·exact (ey eX).2 _ (hv.2 d q)
 rw[cO.1 q];exact (ey (show g+4*(z.2.bO - y.2.bO).toNat+2+1<=_ by dsimp only;omega)).2 _ (Iz Lq.1 Lq.2)
def Į (hT:Tl L r.l) (ihD:∀ c r,Tl L r.l->PO (DD g r) (T.cd c r)):PO (DS g r) (ig n T c x r):=by
 obtain ⟨B,h,_,hB⟩:=S2 (n:=n) (c:=c) (x:=x) ihD;rw[h];exact (hB _ _ hT).mono λy hy=>hy.1
end
def gB (B L:Nat):Nat:=L*(B+1)
structure DG (B n:Nat):Prop where
 expr:∀ L c,DF (gB B L+1) L (ax n c)
 alt:∀ L c,DF (gB B L) L (cL n c)
 MS:∀ L c,DF (gB B L) L (cX n c)
 bin:∀ L l c,DF (gB B L) L (cI n l c)
 unary:∀ L c,DF (gB B L) L (dI n c)
 post:∀ L c,DF (gB B L) L (fc n c)
 Sg:∀ L c,DF (gB B L) L (dQ n c)
 item:∀ L,DF (gB B L+1) L (fb n)
 ident:∀ L,DT (gB B L) L 1 (jy n)
 Lt:∀ L,DT (gB B L) L 4 (fZ n)
 list:∀ L,DT (gB B L) L 5 (jT n)
 ad4:∀ L c r,Tl L r.l->PO (DS (gB B L) r) (dx n c r)
 į:∀ L c,DB (gB B L) L (dx n c)
 decls:∀ L c x r,Tl L r.l->PO (DS (gB B L) r) (dj n c x r)
 decl:∀ L c r,Tl L r.l->PO (DD (gB B L) r) (cd n c r)
 ad5:∀ L d c r,Em d->Tl L r.l->PO (DD (gB B L) r) (ic n d c r)
 İ:∀ L d c r,Em d->Tl L r.l->PO (DD (gB B L) r) (eZ n d c r)
 code:∀ L,DC (gB B L) L (pZ n)
def ı {B:Nat} (hB:B=16000000000008):∀ n,DG B n
 | 0=>by constructor<;>(intros;first|exact Bj|(intro;intros;exact Bj))
 | n+1=>by
  have h:=ı hB n;exact
   {
    expr:=λL c r hT=>MZ hT (h.alt L)
    alt:=λL c r hT=>agO hT (h.MS L)
    MS:=λL c r hT=>acd hT (h.bin L)
    bin:=λL l c r hT=>YH hT (h.unary L c) (h.bin L)
    unary:=λL c r hT=>Ĥ hT (h.unary L false) (h.post L c)
    post:=λL c r hT=>UL hT (h.Sg L c) (h.expr L)
    Sg:=λL c r hT=>UM hT (h.ident L) (h.Lt L) (h.list L) (h.expr L) (h.į L)
    item:=λL r hT=>acf hT (h.expr L)
    ident:=λL t r hT h0 ht hk=>ħ hT h0 ht hk (h.expr L)
    Lt:=λL t r hT h0 ht hk=>YI hT h0 ht hk (h.code L)
    list:=λL t r hT h0 ht hk=>acg hT h0 ht hk (h.expr L) (h.item L)
    ad4:=λL c r hT=>YK hT (h.decls L)
    į:=λL c t r hT h0 ht hk hx=>YL hT h0 ht hk hx (h.decls L)
    decls:=λL c x r hT=>Į hT (h.decl L)
    decl:=λL c r hT=>L5 hT (h.expr L) (h.ad5 L) (h.İ L) (h.ad4 L)
    ad5:=λL d c r hd hT=>UO hd hT (h.expr L) (h.İ L)
    İ:=λL d c r hd hT=>Ĭ hd hT (h.expr L)
    code:=λL x v hx=>(ach hB (h.expr x.length false)).mono λy hy=>(ey (by
     have:(x.length+1)*(B+1)<=L*(B+1):=gT _ hx;rw[kD,xX] at this;unfold gB;omega)).1 _ hy }
def akm {T:List aC} (hC:PC s T 0):Tl 65537 (T.map (om 0)):=λi t ht=>by
 rw[ad2] at ht ⊢;obtain ⟨_,_,_,h4,_,h6⟩:=hC.tok ht;exact ⟨λhk=>(h6 hk).1,λ_=>by omega⟩
section
variable {L:Nat} {B:Nat}
def L6 (hT:Tl L r.l):PO (λy=>Pl r 0 y.2) (iD n r):=by
 unfold iD jk s6;refine gQ (λv:ah×List ByS=>Pl r 0 v.1) B1 λnext v hn hv=>aD m λy hy=>?_;have py:=hv.tr hy.1 (l:=0) aB;refine A (λ_=>aD ad3 λz hz=>?_) λ_=>bD py;rw[hz];exact A (λ_=>aD (su (hT.of py)) λw hw=>bY λ_=>hn _ (py.tr hw.1 aB)) λ_=>bD py
def I6 (hT:Tl L r.l):PO (λy=>Pl r 0 y.2) (jx n r):=L6 (n:=n) hT
def Fa (hT:Tl L r.l):PO (λy=>Pl r 0 y) (eW n r):=by
 unfold eW;refine aD m λy hy=>?_;have hn:PO (λy=>Pl r 0 y) (ag (P n y.2) λz=>.ok z.2):=aD (su (hT.of hy.1)) λz hz=>bD (hy.1.tr hz.1 aB);exact dh λ_ _=>A (λ_=>A ahD λ_=>hn) λ_=>hn
def YM (hT:Tl L r.l):PO (λy=>Pl r 0 y.2) (jW n r):=by
 unfold jW;refine aD (su hT) λa ha=>jf (λv=>Pl r 0 v.1) (λv hv=>aD m λy hy=>?_) λj hj=>aD m λy hy=>?_
 ·have py:=hv.tr hy.1 (l:=0) aB;refine A (λ_=>aD sB λz hz=>bD (py.tr hz aB)) λ_=>aD (su (hT.of py)) λz hz=>?_;have pz:=py.tr hz.1 (l:=0) aB;refine jf (λ_=>True) (λw _=>dh λ_ _=>A (λ_=>aD sB λb hb=>?_) λ_=>aD (Fa (hT.of pz)) λb hb=>bD (pz.tr hb aB)) λj hj=>A ahw λ_=>hj _ trivial;have pb:=pz.tr hb (l:=0) aB;exact aD (Fa (hT.of pb)) λc hc=>bD (pb.tr hc aB)
 have py:=ha.1.tr hy.1 (l:=0) aB;exact A (λ_=>aD (L0 (hT.of py)) λz hz=>hj _ (py.tr hz aB)) λ_=>hj _ py
def aci (h:DG B n) (hT:Tl L r.l) (h0:0<=r.bO):PO (λy=>∀ d,d∈y.1.fi->(xG (gB B L+4*r.l.length+3)).2 d) (mD n r):=by
 unfold mD Bn oj jk ghK;refine aD (L6 hT) λa ha=>jf (λv=>Pl r 0 v.1) (λv hv=>Jr (jf (λv=>Pl r 0 v.1) (λw hw=>?_) λj hj=>gQ (λv=>Pl r 0 v.1) hv λnext w hn hw=>A (λ_=>Jr (A (λ_=>aD m λy hy=>dh λ_ _=>?_) λ_=>hj _ hw)) λ_=>hj _ hw)) λj hj=>aD m λy hy=>dh λ_ _=>?_
 ·obtain ⟨B',_,h2,h3⟩:=S2 (n:=n) (c:=true) (x:=[]) (T:=ar n) (h.decl L);rw[h2 rfl];refine aD (h3 _ _ (hT.of hw)) λy hy=>bD λd hd=>?_;obtain q|q:=hy.2
  ·rw[show y.1=[] from q] at hd;cases hd
  have:=hw.2;rw[hw.1] at q;exact (ey aB).2 _ (hy.1.2 d hd)
 ·have py:=hw.tr hy.1 (l:=0) aB;refine A (λ_=>aD (YM (hT.of py)) λz hz=>bY λ_=>?_) λ_=>hj _ py;have pz:=py.tr hz (l:=0) aB;exact aD (I6 (hT.of pz)) λb hb=>bY λ_=>hn _ (pz.tr hb aB)
 have py:=ha.tr hy.1 (l:=0) aB;refine A (λ_=>aD (su (hT.of py)) λz hz=>?_) λ_=>hj _ py;have pz:=py.tr hz.1 (l:=0) aB;refine aD (L0 (hT.of pz)) λb hb=>?_;have pb:=pz.tr hb (l:=0) aB;refine aD (Fa (hT.of pb)) λc hc=>?_;have pc:=pb.tr hc (l:=0) aB;exact aD (I6 (hT.of pc)) λe he=>bY λ_=>hj _ (pc.tr he aB)
def akn:ġ:=by
 intro n s T f p hC hL he;obtain ⟨B,hB⟩:∃ B:Nat,B=16000000000008:=⟨_,rfl⟩;have hlen:=hC.oF;have hx:=W1 (n:=n) hC hL ((gg n).decl hC hL) mG;obtain ⟨z,⟨f',a',h1,h2,_⟩,N,hN⟩:=(hx.1 _ he).get;have hd:=aci (ı hB N) (akm hC) (show 0<=(RX s T 0 0 false).bO from dR 0) z (hN N J6);rw[h2] at hd;have e1:f=f':=iP Prod.fst h1;subst e1;refine ⟨_,?_,hd⟩;rw[show (RX s T 0 0 false).l.length=T.length from ik ..];unfold gB;omega
end
def YN {s:ByS}:Ev (λi=>pJ i s) (λy=>y=true) di:=S1 akn
end Go.Abs
namespace Go.Abs
def HE (s:ByS):∃ n,pJ n s=.ok true:=by
 obtain ⟨a,ha,N,hN⟩:=(YN (s:=s)).get;exact ⟨N,by rw[hN N J6,ha]⟩
end Go.Abs
