/- PROVED: lemmas of the proof of: configlanglaw26.ParserExprs returns true for every input. CONDITIONS: as each lemma states. -/
import Derived.Test.YtlfolpjenfkhiaaGreatDoorX10
set_option linter.all false
namespace Go.Abs
open aG
variable {n:Nat} {s x u r:ByS} {b a a' v j en ea l p e:Int} {t:aB} {k c:Bool} {α β:Type}
section
def AY (t:aB) (l:List ByS):Bool:=t.an==5&&l.contains t.bJ
variable {l:List ByS}
def Hf (h:AY t l=true):t.an=5/\t.bJ∈l:=by simpa[AY] using h
def adm {x:ByS}:AY t [x]=kx t x:=by rw[cV];simp[AY,kx]
def opsL (c:Int):List ByS:=if c=0 then [[124,124]] else if c=1 then [[38,38]] else if c=2 then [[61,61],[33,61],[60],[60,61],[62],[62,61]] else if c=3 then [[43],[45]] else [[42],[47],[37]]
section
variable {T:List aB} {γ:Type} {V:α->β->Prop} {W:sT->β->Prop} {F:Nat->aG β} {m:Nat->Nat} {k0:Bool} {q:Option ak}
def LK.K9 (hm:bN m) (h0:0<=a) (h1:a<T.length) {e:ak} (he:ij e) {p:D} {f:ak×D->aG α} {K:Nat->ak×ah->aG β}
  (hk:∀ e',ij e'->LK (f (e',p)) (λi=>K i (e',RX s T b a k)) V W) (hw:∀ v r,FS s T b v r.2->ij r.1->Ev (λi=>K i r) (W (PF v)) dt) :
  LK (ag (cB n e (t.cG+b) p) f) (λi=>ag (eo (m i) e (oL b t) (RX s T b a k)) (K i)) V W:=by
 refine cq (U:=λr y=>∃ e',ij e'/\r=(e',p)/\y=(e',RX s T b a k)) (W0:=λp y=>∃ v,p=PF v/\FS s T b v y.2/\ij y.1) ?_ ?_ ?_
 ·have hl:=R4 (p:=p) (v:=t.cG+b) n (e:=e) hm
  unfold eo
  refine ⟨λr hr=>(hl.1 r hr).gZ ?_,λr hr=>(hl.2 r hr).gZ ?_⟩
  ·rintro _ ⟨rfl,hp⟩
   refine aH (ai (((R5 n hm) r hr).both (R6 _ hm ND he)) ?_)
   rintro _ ⟨rfl,h2⟩
   exact aj ⟨r.1,h2,by rw[hp],rfl⟩
  ·rintro _ ⟨rfl,rfl⟩
   exact ba (aj ⟨_,rfl,⟨a,k,rfl,h0,h1⟩,.leaf dN⟩)
 ·rintro _ _ ⟨e',h2,rfl,rfl⟩
  exact hk e' h2
 ·rintro _ y ⟨v,rfl,h2,h3⟩
  exact hw v y h2 h3
def NH (hm:bN m) (hl:l.length<=1000):Ev (λi=>jC (m i) (oL b t) l) (λy=>y=AY t l) dt:=by
 unfold jC jg;refine bR hm (λ(v:Int)=>0<=v/\v<=l.length/\∀ (i:Nat) z,i<v->l[i]?=some z->kx t z=false) (λv=>(l.length - v).toNat) ⟨aD,aD,λ_ _ h=>by omega⟩ ?_;rintro v ⟨h0,h1,h2⟩ next hn;refine aS (λq=>gL h0 q λz hz=>bI (R8 b t z) (ay (λh=>aj ?_) λh=>aF (hn _ ⟨aD,aD,λi y hi hy=>?_⟩ aD))) λq=>aj ?_
 ·obtain ⟨h3,h4⟩:=lC h;simp[AY,h3,h4];exact aP hz
 ·by_cases e:(i:Int)=v
  ·have:v.toNat=i:=by omega
   rw[this,hy] at hz;cases hz;exact h
  exact h2 i y aD hy
 symm;rw[lN];intro h;obtain ⟨h3,h4⟩:=Hf h;obtain ⟨i,hi,hz⟩:=qC h4;have:=h2 i _ aD (aA hi);rw[hz] at this;simp[kx,h3] at this
def E2 (hx:strings_Split x [32]=.ok l):Tk (nB n t x) (AY t l):=by
 unfold nB AY uD;cases h5:t.an==5 with
 | false=>exact .inr rfl
 | true=>
  refine nG hx ?_
  have h:=R7 (n:=n) (s:=t.bJ) (l:=l)
  have h':=Br (n:=n) (x:=t.bJ) (l:=l)
  cases e:slices_Contains_string n l t.bJ with
  | stuck=>exact .inl rfl
  | qH p=>exact aw e (h' p)
  | ok y=>
   refine iw ?_
   have:=h y e
   rw[cV]
   simpa using this
variable {c:Int}
def ai4 (h0:0<=c) (h4:c<=4):∃ x,qh c=.ok x/\Tk (nB n t x) (AY t (opsL c)):=by
 have:c=0\/c=1\/c=2\/c=3\/c=4:=by omega
 rcases this with rfl|rfl|rfl|rfl|rfl<;>exact ⟨_,rfl,E2 rfl⟩
def ai5 (hm:bN m) (h0:0<=c) (h4:c<=4):Ev (λi=>tN (m i) (oL b t) c) (λy=>y=AY t (opsL c)) dt:=by
 have:c=0\/c=1\/c=2\/c=3\/c=4:=by omega
 unfold tN;rcases this with rfl|rfl|rfl|rfl|rfl
 ·exact bI (R8 b t _) (aj adm.symm)
 ·exact bI (R8 b t _) (aj adm.symm)
 ·exact ZH
 ·exact ZH
 exact ZH
def T6 (hm:bN m) {y:Bool} (h:t.an=1->dT n t.bJ=.ok y) (h':t.an≠1->y=false):Ev (λi=>oa (m i) (oL b t)) (λz=>z=y) dt:=by
 by_cases h1:t.an=1
 ·exact He hm h1 (h h1)
 rw[h' h1];exact nU (r:=.ok false) (N:=0) (λi _=>Wz h1) rfl
def LK.label (hm:bN m) {f:Bool->aG α} {K:Nat->Bool->aG β} (hk:∀ y,(y=true->t.an=3\/t.an=1)->LK (f y) (λi=>K i y) V W):LK (ag (oF n t) f) (λi=>ag (qd (m i) (oL b t)) (K i)) V W:=by
 refine cq (U:=λy z=>z=y/\(y=true->t.an=3\/t.an=1)) (W0:=λ_ _=>False) ?_ (λy z h=>by obtain ⟨rfl,h⟩:=h;exact hk _ h) λ_ _ h=>h.elim;unfold oF qd;refine aI (λh3=>?_) λh3=>aI (λh1=>?_) λh1=>?_
 ·have h3':t.an=3:=by simpa using h3
  refine bn (T6 (n:=0) (y:=false) hm (λq=>by omega) λ_=>rfl) ?_;have e:((oL b t).an==3)=true:=h3;dsimp only [aG.br];rw[e];exact bZ ⟨rfl,λ_=>.inl h3'⟩
 ·have h1':t.an=1:=by simpa using h1
  refine Db AQ λy hy=>bn (He hm h1' hy) ?_;cases y with
  | true=>exact bZ ⟨rfl,λ_=>.inr h1'⟩
  | false=>
   exact acK
 have h1':t.an≠1:=by simpa using h1
 refine bn (T6 (n:=0) (y:=false) hm (λq=>aw q h1') λ_=>rfl) ?_;exact acK
end
end
def LK.grow {α β:Type} {x:aG α} {F:Nat->aG β} {V:α->β->Prop} {W:sT->β->Prop} {m:Nat->Nat} (hm:bN m) (h:∀ m',bN m'->LK x (λi=>F (m' i+1)) V W):LK x (λi=>F (m i)) V W:=⟨λa e=>bV (F:=F) hm λm hm=>(h m hm).1 a e,λa e=>bV (F:=F) hm λm hm=>(h m hm).2 a e⟩
def jG:=@LK.grow
def dl (t:aB):Int:=if t.an=5 then (if t.bJ=[40]\/t.bJ=[91]\/t.bJ=[123] then 1 else if t.bJ=[41]\/t.bJ=[93]\/t.bJ=[125] then -1 else 0) else 0
inductive X9 (T:List aB):Int->Int->Prop where
 | nil {a:Int}:X9 T a a
 | one {a:Int} {t:aB} (h0:0<=a) (h:T[a.toNat]?=some t) (hd:dl t=0):X9 T a (a+1)
 | app {a c d:Int} (h1:X9 T a c) (h2:X9 T c d):X9 T a d
 | pair {a c:Int} {t u:aB} (h0:0<=a) (h:T[a.toNat]?=some t) (hd:dl t=1) (hb:X9 T (a+1) c) (hu:T[c.toNat]?=some u) (GW:dl u = -1):X9 T a (c+1)
structure Pg (T:List aB) (a a':Int):Prop where
 le:a<=a'
 lt:a'<T.length
 bal:X9 T a a'
def Lz (T:List aB) (k:Bool) (a:Int):Prop:=k=false->∃ u,T[(a - 1).toNat]?=some u/\u.an≠7
section
variable {T:List aB} {a2:Int}
def Pg.refl (h:a<T.length):Pg T a a:=⟨eL _,h,.nil⟩
def Pg.trans (h:Pg T a a') (h':Pg T a' a2):Pg T a a2:=⟨by have:=h.le;have:=h'.le;omega,h'.lt,.app h.bal h'.bal⟩
def Nx.pg (h:Nx T k a a' t):Pg T a a':=by
 refine ⟨h.le,h.lt,?_⟩;have h0:=h.a0;have key:∀ (d:Nat) (c:Int),a<=c->c+d=a'->X9 T c a':=by
  intro d
  induction d with
  | zero=>intro c _ e;rw[show a'=c by omega];exact .nil
  | succ d ih=>
   intro c hc e
   have hl:=h.lt
   obtain ⟨u,hu⟩:∃ u,T[c.toNat]?=some u:=⟨_,aA aD⟩
   refine .app (.one aD hu ?_) (ih (c+1) aD aD)
   have:=h.bt c.toNat u aD aD hu
   simp[dl,this]
 have hle:=h.le;exact key (a' - a).toNat a JF aD
def Pg.one (hC:PC s T b) (h0:0<=a) (h:T[a.toNat]?=some t) (hk:t.an≠0) (hd:dl t=0):Pg T a (a+1):=⟨aD,hC.next h0 h hk,.one h0 h hd⟩
def Nx.read (hC:PC s T b) (h:Nx T k a a' t) (hk:t.an≠0) (hd:dl t=0):Pg T a (a'+1):=h.pg.trans (.one hC h.ge h.tk hk hd)
def Nx.lz (h:Nx T k a a' t) (hk:t.an≠7):Lz T k (a'+1):=λ_=>⟨t,by rw[Int.add_sub_cancel];exact h.tk,hk⟩
def Nx.lzs (h:Nx T k a a' t) (hz:Lz T k a):Lz T k a':=λq=>by rw[h.st q];exact hz q
def Hu (h:t.an≠5):dl t=0:=by simp[dl,h]
def CJ {x:ByS} (h:kx t x=true) (hx:x≠[40]/\x≠[91]/\x≠[123]/\x≠[41]/\x≠[93]/\x≠[125]):dl t=0:=by
 obtain ⟨h1,h2⟩:=lC h;simp[dl,h1,h2,hx]
end
def VX (s:ByS) (T:List aB) (b:Int) (k:Bool) (a:Int) (r:ak×D) (y:ak×ah):Prop:=∃ e a',r=(e,H s T a' b k none)/\y=(e,RX s T b a' k)/\Pg T a a'/\Lz T k a'/\ij e
def WX (s:ByS) (T:List aB) (b:Int) (p:sT) (y:ak×ah):Prop:=∃ v,p=PF v/\FS s T b v y.2/\ij y.1
def In (s:ByS) (T:List aB) (b:Int) (c:Bool) (a:Int) (k:Bool) (q:Option ak) (x:ah):Prop:=
 (q=none/\x=RX s T b a k)\/∃ e a0 t0,q=some e/\ij e/\k=false/\Lz T k a/\0<=a0/\a0<a/\x=RX s T b a0 k/\T[a0.toNat]?=some t0/\kx t0 [40]=true/\∀ {m:Nat->Nat},bN m->Ev (λi=>dM (m i) c x) (λy=>y=(e,RX s T b a k)) dt
def XF (s:ByS) (T:List aB) (b:Int) (f:Bool->D->aG (ak×D)) (g:Nat->Bool->ah->aG (ak×ah)):Prop:=
 ∀ {m:Nat->Nat} {c k:Bool} {a:Int} {q:Option ak} {x:ah},bN m->0<=a->a<T.length->In s T b c a k q x->LK (f c (H s T a b k q)) (λi=>g (m i) c x) (VX s T b k a) (WX s T b)
section
variable {T:List aB}
def In.no:In s T b c a k none (RX s T b a k):=.inl uA
def In.afC (hC:PC s T b) {q:Option ak} {x:ah} (h0:0<=a) (h1:a<T.length) (h:In s T b c a k q x) :
  ∃ t x',(q=none->∃ a',Nx T k a a' t/\x'=RX s T b a' k)/\(q≠none->x'=x/\kx t [40]=true)/\∀ {m:Nat->Nat},bN m->Ev (λi=>aY (m i) x) (λr=>r=(oL b t,x')) dt:=by
 rcases h with ⟨rfl,rfl⟩|⟨e,a0,t0,rfl,he,rfl,hz,g0,g1,rfl,ht,ho,_⟩
 ·obtain ⟨a',t,h⟩:=pZ hC k h0 h1
  exact ⟨t,_,λ_=>⟨a',h,rfl⟩,λq=>aw rfl q,λhm=>kF hm hC h⟩
 ·have h:Nx T false a0 a0 t0:=⟨g0,eL _,ht,λq=>DQ,λ_=>rfl,λ_ _ _ _=>by omega⟩
  exact ⟨t0,_,λq=>DQ,λ_=>⟨rfl,ho⟩,λhm=>kF hm hC h⟩
def La (hC:PC s T b) (ih:XF s T b (da n) cU):XF s T b (c8 (n+1)) cJ:=by
 intro m c k a q x hm h0 h1 hI;refine jG (F:=λi=>cJ i c x) hm λm hm=>?_;show LK (fb n (R n) c (H s T a b k q)) (λi=>eC (m i) (ar (m i)) c x) _ _;unfold fb eC uD;have fin:∀ {v:Int} {y:ak×ah},FS s T b v y.2->ij y.1->Ev (λ_=>aG.ok (y.1,y.2)) (WX s T b (PF v)) dt:=λh1 h2=>aj ⟨_,rfl,h1,h2⟩;obtain ⟨t,x',hn,hp,hpk⟩:=hI.afC hC h0 h1;refine bn (hpk hm) (bn (nU (r:=.ok (kx t [42])) (N:=0) (λ_ _=>R8 b t [42]) rfl) ?_);cases q with
 | none=>
  obtain ⟨a',nx,rfl⟩:=hn rfl
  refine aI (λ_=>rH nx (rG nx.self (λht=>?_) λht=>?_)) dC
  ·rw[ht];refine aJ dC λ_=>bn (qK hm hC nx.self Xa) ?_;refine cq (ih hm (by have:=nx.ge;omega) (nx.DP hC Xa) .no) ?_ ?_
   ·rintro _ _ ⟨e,a2,rfl,rfl,AR,hz,he⟩;exact bZ ⟨_,a2,rfl,rfl,(nx.read hC Xa (CJ ht dN)).trans AR,hz,.one dN he⟩
   rintro _ y ⟨v,rfl,h1,h2⟩;exact aj ⟨v,rfl,h1,.one dN h2⟩
  ·rw[ht];refine aJ (λ_=>?_) dC;refine cq (ih hm nx.ge nx.lt .no) ?_ ?_
   ·rintro _ _ ⟨e,a2,rfl,rfl,AR,hz,he⟩;exact bZ ⟨_,a2,rfl,rfl,nx.pg.trans AR,hz,he⟩
   rintro _ y ⟨v,rfl,h1,h2⟩;exact fin h1 h2
 | some e=>
  obtain ⟨rfl,ho⟩:=hp bm
  have ht:kx t [42]=false:=by
   obtain ⟨_,h2⟩:=lC ho;simp[kx,h2]
  rw[ht]
  refine aI dC λ_=>aJ (λ_=>?_) dC
  refine cq (ih hm h0 h1 hI) ?_ ?_
  ·rintro _ _ ⟨e,a2,rfl,rfl,AR,hz,he⟩;exact bZ ⟨_,a2,rfl,rfl,AR,hz,he⟩
  ·rintro _ y ⟨v,rfl,h1,h2⟩;exact fin h1 h2
end
section
variable {X Y:Type} {V:α->β->Prop} {W:sT->β->Prop}
def qY {m:Nat->Nat} (hm:bN m) {body:Nat->(Y->aG β)->Y->aG β} {w:Y} {Q:β->Prop} (h:∀ next:Nat->Y->aG β,Ev (λi=>body i (next i) w) Q dt):Ev (λi=>aG.iter (body i) (m i) w) Q dt:=kh hm (h _)
def LK.Ni (I:X->Y->Prop) (J:sT->Y->Prop) {body:(X->aG α)->X->aG α} {wL:Nat->(Y->aG β)->Y->aG β}
  (hj:∀ p w,J p w->∀ next':Nat->Y->aG β,Ev (λi=>wL i (next' i) w) (W p) dt)
  (hb:∀ v w,I v w->∀ (next:X->aG α) (next':Nat->Y->aG β),(∀ v w,I v w->LK (next v) (λi=>next' i w) V W)->(∀ p w,J p w->Ev (λi=>next' i w) (W p) dt)->LK (body next v) (λi=>wL i (next' i) w) V W) :
  ∀ (n:Nat) {m:Nat->Nat},bN m->∀ v w,I v w->LK (aG.iter body n v) (λi=>aG.iter (wL i) (m i) w) V W
 | 0,_,_,_,_,_=>dc
 | n+1,_,hm,v,w,hI=>LK.H9 hm (hb v w hI _ _ (λv w h=>LK.Ni I J hj hb n hm.pred v w h) λp w h=>qY hm.pred λnext=>hj p w h next)
def vq:=@LK.Ni
end
section
variable {T:List aB} {m:Nat->Nat} {y:ah}
def abk (hm:bN m) (hC:PC s T b) (h:FS s T b v y):Ev (λi=>dD (m i) c y) (λr=>FS s T b v r.2/\ij r.1) dt:=by
 refine bV (F:=λi=>dD i c y) hm λm hm=>?_;show Ev (λi=>fO (m i) (ar (m i)) c y) _ _;unfold fO uD;exact ai Gy λr hr=>bI (AU hr) (ba (aj ⟨hr,.leaf dN⟩))
def R9 (hm:bN m) (hC:PC s T b) (h0:0<=l) (hl:l<=5) (h:FS s T b v y):Ev (λi=>cH (m i) l c y) (λr=>FS s T b v r.2/\ij r.1) dt:=by
 obtain ⟨d,hd⟩:∃ d:Nat,(5 - l).toNat=d:=⟨_,rfl⟩
 induction d generalizing l m with
 | zero=>
  have:l=5:=by omega
  subst this
  refine bV (F:=λi=>cH i 5 c y) hm λm hm=>?_
  show Ev (λi=>eE (m i) (ar (m i)) 5 c y) _ _
  unfold eE uD
  exact ba (ai (abk hm hC h) λr hr=>aj hr)
 | succ d ih=>
  refine bV (F:=λi=>cH i l c y) hm λm hm=>?_
  show Ev (λi=>eE (m i) (ar (m i)) l c y) _ _
  exact ahB
def FT (hm:bN m) (hC:PC s T b) (h:FS s T b v y):Ev (λi=>cU (m i) c y) (λr=>FS s T b v r.2/\ij r.1) dt:=by
 refine bV (F:=λi=>cU i c y) hm λm hm=>?_;show Ev (λi=>eD (m i) (ar (m i)) c y) _ _;unfold eD uD;exact ai (R9 hm hC dN dN h) λr hr=>qY hm λ_=>bI (AU hr.1) (aH (aj hr))
def FU (hm:bN m) (hC:PC s T b) (h:FS s T b v y):Ev (λi=>cJ (m i) c y) (λr=>FS s T b v r.2/\ij r.1) dt:=by
 refine bV (F:=λi=>cJ i c y) hm λm hm=>?_;show Ev (λi=>eC (m i) (ar (m i)) c y) _ _;unfold eC uD;exact ai Gy λr hr=>ai DV λ_ _=>ay (λ_=>ai (FT hm hC hr) λz hz=>aj hz) λ_=>ai (yI hm hC hr) λr hr=>ai (FT hm hC hr) λz hz=>aj ⟨hz.1,.one dN hz.2⟩
def od (hm:bN m) (hC:PC s T b) (h:FS s T b v y):Ev (λi=>ax (m i) c y) (λr=>FS s T b v r.2/\ij r.1) dt:=by
 refine bV (F:=λi=>ax i c y) hm λm hm=>?_;show Ev (λi=>dy (m i) (ar (m i)) c y) _ _;unfold dy jg Cz oz jU;refine ai Gy λr hr=>ai DV λk _=>bD (λw=>FS s T b v w.1/\ij w.2) (λw hw=>?_) λj hj=>ay (λ_=>ai (FU hm hC hr) λz hz=>hj _ hz) λ_=>ai (FU hm hC hr) λz hz=>hj _ hz;exact ahg
end
section
variable {T:List aB}
def Lb (hC:PC s T b) (ih:XF s T b (dA n 0) (λi=>cH i 0)):XF s T b (da (n+1)) cU:=by
 intro m c k a q x hm h0 h1 hI;refine jG (F:=λi=>cU i c x) hm λm hm=>?_;show LK (fG n (R n) c (H s T a b k q)) (λi=>eD (m i) (ar (m i)) c x) _ _;unfold fG eD uD;have fin:∀ (p:sT) (w:ah×ak),(∃ v,p=PF v/\FS s T b v w.1/\ij w.2)->∀ {F:Nat->Bool×ah->aG (ak×ah)},Ev (λi=>ag (cL w.1) λy=>aG.br y.1 (F i y) (.ok (w.2,y.2))) (WX s T b p) dt:=by
  exact aku
 refine cq (ih hm h0 h1 hI) ?_ ?_
 ·rintro _ _ ⟨e,a1,rfl,rfl,AR,hz,he⟩;refine vq (λv w=>∃ e a',v=(H s T a' b k none,e)/\w=(RX s T b a' k,e)/\Pg T a a'/\Lz T k a'/\ij e) (λp w=>∃ v,p=PF v/\FS s T b v w.1/\ij w.2) (λp w h _=>fin p w h) ?_ n hm _ _ ⟨e,a1,rfl,rfl,AR,hz,he⟩;rintro _ _ ⟨e,a1,rfl,rfl,AR,hz,he⟩ next next' hn hf;obtain ⟨a2,t,nx⟩:=pZ hC k (a:=a1) Qm AR.lt;refine bn uY (aJ (λ_=>?_) dC);refine bn Ju (bn (nU (r:=.ok (kx t [38])) (N:=0) (λ_ _=>R8 b t [38]) rfl) ?_);refine rG nx (λht=>?_) λht=>?_
  ·have hk:=(lC ht).1;rw[ht];refine aI (λ_=>aJ (λ_=>?_) dC) dC;refine bn Qr ?_;refine cq (ih hm (by have:=nx.ge;omega) (nx.DP hC aD) .no) ?_ ?_
   ·rintro _ _ ⟨e2,a3,rfl,rfl,hpg2,KX,SJ⟩;exact hn _ _ ⟨_,a3,rfl,rfl,(AR.trans (nx.read hC aD (CJ ht dN))).trans hpg2,KX,.two he SJ⟩
   rintro _ y ⟨v,rfl,h1,h2⟩;exact hf _ _ ⟨v,rfl,h1,.two he h2⟩
  rw[ht];exact ake
 exact akx
def Ya (hC:PC s T b) (GD:0<=l) (hl:l<=5) (hu:l=5->XF s T b (ei n) dD) (ih:l<5->XF s T b (dA n (l+1)) (λi=>cH i (l+1))) :
  XF s T b (dA (n+1) l) (λi=>cH i l):=by
 intro m c k a q x hm h0 h1 hI
 refine jG (F:=λi=>cH i l c x) hm λm hm=>?_
 show LK (gz n (R n) l c (H s T a b k q)) (λi=>eE (m i) (ar (m i)) l c x) _ _
 unfold gz eE uD jg
 have fin:∀ (p:sT) (w:ah×ak),(∃ v,p=PF v/\FS s T b v w.1/\ij w.2)->∀ {F:Nat->Bool×ah->aG (ak×ah)},Ev (λi=>ag (cL w.1) λy=>aG.br y.1 (F i y) (.ok (w.2,y.2))) (WX s T b p) dt:=by
  rintro p w ⟨v,rfl,h1,h2⟩ F
  exact bI (AU h1) (aH (aj ⟨v,rfl,h1,h2⟩))
 refine aI (λe5=>?_) λe5=>?_
 ·have e5:l=5:=by simp at e5;omega
  subst e5
  refine aJ (λ_=>?_) dC
  refine cq (hu rfl hm h0 h1 hI) ?_ ?_
  ·rintro _ _ ⟨e,a1,rfl,rfl,h⟩
   exact bZ ⟨e,a1,rfl,rfl,h⟩
  ·rintro _ y ⟨v,rfl,h1,h2⟩
   exact aj ⟨v,rfl,h1,h2⟩
 have hl4:l<=4:=by simp at e5;omega
 have ih':XF s T b (dA n (l+1)) (λi=>cH i (l+1)):=ih aD
 refine aJ (λh=>aw h rI) λ_=>bK λhg=>bW hg ?_
 refine cq (ih' hm h0 h1 hI) ?_ ?_
 ·rintro _ _ ⟨e,a1,rfl,rfl,AR,hz,he⟩
  refine vq (λv w=>∃ e a',v=(H s T a' b k none,e)/\w=(RX s T b a' k,e)/\Pg T a a'/\Lz T k a'/\ij e) (λp w=>∃ v,p=PF v/\FS s T b v w.1/\ij w.2) (λp w h _=>fin p w h) ?_ n hm _ _ ⟨e,a1,rfl,rfl,AR,hz,he⟩
  rintro _ _ ⟨e,a1,rfl,rfl,AR,hz,he⟩ next next' hn hf
  obtain ⟨a2,t,nx⟩:=pZ hC k (a:=a1) Qm AR.lt
  refine bn (aj rfl) (aJ (λ_=>?_) dC)
  refine bn (kF hm hC nx) (bn (ai5 hm GD hl4) ?_)
  obtain ⟨ops,e1,e2⟩:=ai4 (n:=n) (t:=t) GD hl4
  refine gQ nx (nH e1 (gU e2 ?_))
  cases ht:AY t (opsL l) with
  | false=>exact aI dC λ_=>aJ dC λ_=>bZ ⟨_,a2,rfl,rfl,AR.trans nx.pg,nx.lzs hz,he⟩
  | true=>
   have hk:=Hf ht
   have hd:dl t=0:=by
    have h2:=hk.2
    have:l=0\/l=1\/l=2\/l=3\/l=4:=by omega
    rcases this with rfl|rfl|rfl|rfl|rfl<;>simp[opsL] at h2<;>(try rcases h2 with h2|h2|h2|h2|h2|h2)<;>(try rcases h2 with h2|h2|h2)<;>(try rcases h2 with h2|h2)<;>simp[dl,h2]
   refine aI (λ_=>aJ (λ_=>?_) dC) dC
   have gR:=nx.DP hC aD
   have Ff:=nx.ge
   refine bn (qK hm hC nx.self aD) ?_
   refine rH nx.self (LK.K9 hm aD gR he (λe' Ly=>?_) λv r yG Hq=>?_)
   ·refine gQ nx.self (bK λ_=>bK λ_=>bW hg ?_)
    dsimp only
    refine cq (ih' hm aD gR .no) ?_ ?_
    ·rintro _ _ ⟨e2,a3,rfl,rfl,hpg2,KX,SJ⟩
     exact hn _ _ ⟨_,a3,rfl,rfl,(AR.trans (nx.read hC aD hd)).trans hpg2,KX,.two Ly SJ⟩
    ·rintro _ y ⟨v,rfl,h1,h2⟩
     exact hf _ _ ⟨v,rfl,h1,.two Ly h2⟩
   ·exact dB hg (ai (R9 hm hC aD aD yG) λy hy=>hf _ _ ⟨v,rfl,hy.1,.two Hq hy.2⟩)
 ·rintro _ y ⟨v,rfl,h1,h2⟩
  exact qY hm λ_=>fin _ _ ⟨v,rfl,h1,h2⟩
end
section
variable {X Y:Type} {V:α->β->Prop} {W:sT->β->Prop} {F:Nat->aG β}
variable {j:X->aG α} {p:(X->aG α)->aG α}
def LK.jnS (J:X->Prop) (hj:∀ v,J v->LK (j v) F V W) (hp:∀ j:X->aG α,(∀ v,J v->LK (j v) F V W)->LK (p j) F V W):LK (aG.jn j p) F V W:=hp j hj
def oK:=@LK.jnS
def LK.jn2 (I:X->Y->Prop) (J:sT->Y->Prop) {j':Nat->Y->aG β} {p':Nat->(Y->aG β)->aG β} (hj:∀ v w,I v w->LK (j v) (λi=>j' i w) V W) (hf:∀ p w,J p w->Ev (λi=>j' i w) (W p) dt) (hp:∀ (j:X->aG α) (j':Nat->Y->aG β),(∀ v w,I v w->LK (j v) (λi=>j' i w) V W)->(∀ p w,J p w->Ev (λi=>j' i w) (W p) dt)->LK (p j) (λi=>p' i (j' i)) V W):LK (aG.jn j p) (λi=>aG.jn (j' i) (p' i)) V W:=hp _ _ hj hf
end
section
variable {T:List aB}
def AT (b:Int) (t:aB) (x:ByS):Ev (λ_=>cg (oL b t) x) (λr=>r=kx t x) dt:=nU (r:=.ok (kx t x)) (N:=0) (λ_ _=>R8 b t x) rfl
def Mu (hC:PC s T b) (ih:XF s T b (c8 n) cJ):XF s T b (aW (n+1)) ax:=by
 intro m c k a q x hm h0 h1 hI;refine jG (F:=λi=>ax i c x) hm λm hm=>?_;show LK (iK n (R n) c (H s T a b k q)) (λi=>dy (m i) (ar (m i)) c x) _ _;unfold iK dy jg Cz oz jU tG;have hlen:=hC.pJ;obtain ⟨t,x',hn,hp,hpk⟩:=hI.afC hC h0 h1;refine bn (hpk hm) (bn (AT b t [42]) ?_);obtain ⟨a1,hpg1,hI1,hq⟩:∃ a1,Pg T a a1/\(∀ d,d=(c&&!kx t [42])->In s T b d a1 k q x')/\(q=none->Nx T k a a1 t)/\(q≠none->a1=a/\kx t [42]=false):=by
  cases q with
  | none=>
   obtain ⟨a',nx,rfl⟩:=hn rfl
   exact ⟨a',nx.pg,λ_ _=>.no,λ_=>nx,λq=>aw rfl q⟩
  | some e=>
   obtain ⟨rfl,ho⟩:=hp bm
   have ht:kx t [42]=false:=by
    obtain ⟨_,h2⟩:=lC ho;simp[kx,h2]
   exact ⟨a,.refl h1,λd hd=>by subst hd;rw[ht];simpa using hI,λq=>DQ,λ_=>⟨rfl,ht⟩⟩
 obtain ⟨mk,hmk⟩:∃ mk,kx t [42]=mk:=⟨_,rfl⟩;rw[hmk] at hI1 hq ⊢;refine oK (λv=>v=(H s T a1 b k q,mk)) (λv hv=>?_) λj hj=>?_
 rotate_left
 ·cases q with
  | none=>exact aI (λ_=>gQ (hq.1 rfl) (lB (by rw[hmk];exact hj _ rfl))) λh=>by cases h
  | some e=>
   obtain ⟨rfl,rfl⟩:=hq.2 bm
   exact aI dC λ_=>hj _ rfl
 subst hv;refine LK.jn2 (λv w=>∃ e a',v=(H s T a' b k none,e)/\w=(RX s T b a' k,e)/\Pg T a a'/\Lz T k a'/\ij e) (λp w=>∃ v,p=PF v/\FS s T b v w.1/\ij w.2) ?_ ?_ λj j' hj hf=>?_
 ·rintro _ _ ⟨e,a',rfl,rfl,AR,hz,he⟩;obtain ⟨a2,t2,n2⟩:=pZ hC k (a:=a') Qm AR.lt;refine bn (kF hm hC n2) (bn (AT b t2 [124]) ?_);cases h2:kx t2 [124] with
  | false=>
   refine aJ (λ_=>?_) dC
   cases mk with
   | true=>
    refine aJ (λ_=>?_) dC
    refine fP (aI dC λ_=>fP (gQ n2 (lB ?_)))
    rw[h2]
    exact aI (λ_=>nI n2.self (aj ⟨_,rfl,n2.fs,he⟩)) λh=>by cases h
   | false=>
    refine aJ dC λ_=>?_
    refine fP (aI (λ_=>gQ n2 (lB ?_)) dC)
    rw[h2]
    exact aI (λ_=>bZ ⟨e,a2,rfl,rfl,AR.trans n2.pg,n2.lzs hz,he⟩) λh=>by cases h
  | true=>
   refine aJ dC λ_=>?_
   refine oK (λv=>∃ a',v=H s T a' b k none/\Nx T k a' a2 t2) ?_ λj9 hj9=>?_
   rotate_left
   ·refine aI (λ_=>gQ n2 (lB ?_)) λ_=>hj9 _ ⟨a',rfl,n2⟩;rw[h2];exact aI dC λ_=>hj9 _ ⟨a2,rfl,n2.self⟩
   ·rintro _ ⟨a',rfl,n3⟩;refine fP (gQ n3 (lB ?_));rw[h2];refine aI dC λ_=>rH n2.self (bn (kF hm hC n2.self) (LK.K9 hm n2.ge n2.lt he (λe' Ly=>?_) λv r yG Hq=>?_))
    ·refine vq (λv w=>∃ l e0 a',v=(H s T a' b k none,e0::l)/\w=(RX s T b a' k,ak.mk 17 [] 0 [] [] (e0::l) [] [] e0.cG)/\Pg T a a'/\Lz T k a'/\((l.length:Int)<=a' - a)/\∀ x,x∈e0::l->ij x) (λp w=>∃ v,p=PF v/\FS s T b v w.1/\ij (ak.mk w.2.an w.2.bJ w.2.U w.2.B w.2.bE w.2.bF [] [] w.2.cG)) ?_ ?_ n hm _ _ ⟨[],e',a2,rfl,rfl,AR.trans n2.pg,n2.lzs hz,by have:=(AR.trans n2.pg).le;simp;omega,by simpa using Ly⟩
     ·rintro _ w ⟨v,rfl,f1,f2⟩ next';exact bI (AU f1) (aH (aj ⟨v,rfl,f1,f2⟩))
     rintro _ _ ⟨l,e0,a3,rfl,rfl,Ia,z3,l3,m3⟩ next next' hn hf;obtain ⟨a4,t4,n4⟩:=pZ hC k (a:=a3) (by have:=Ia.le;omega) Ia.lt;refine bn uY (aJ (λ_=>?_) dC);refine bn (kF hm hC n4) (bn (AT b t4 [124]) ?_);have hle:=Ia.le;have gR:=Ia.lt;have he3:ij (ak.mk 17 [] 0 [] [] (e0::l) [] [] e0.cG):=.of rI (λq=>aw q dN) m3;refine rG n4 (λht=>?_) λht=>?_
     ·rw[ht];have hk:=(lC ht).1;have g4:=n4.le;have l4:=n4.DP hC aD;refine aI (λ_=>aJ (λ_=>?_) dC) dC;refine bn (qK hm hC n4.self aD) ?_;refine cq (ih hm aD l4 .no) ?_ ?_
      ·rintro _ _ ⟨e5,a5,rfl,rfl,pg5,z5,m5⟩;have:=pg5.le;exact bK λhg=>bW hg (hn _ _ ⟨l++[e5],e0,a5,rfl,rfl,(Ia.trans (n4.read hC aD (CJ ht dN))).trans pg5,z5,rI,λx hx=>by
        rcases bL.1 (show x∈(e0::l)++[e5] from hx) with q|q
        ·exact m3 x q
        simp at q;subst q;exact m5⟩)
      rintro _ y ⟨v,rfl,f1,f2⟩;refine dB adN (hf _ _ ⟨v,rfl,f1,.of (by simp[ak.bF];omega) (by simp[ak.an]) λx hx=>?_⟩);rcases bL.1 hx with q|q
      ·exact m3 x q
      simp at q;subst q;exact f2
     rw[ht];refine aI dC λ_=>aJ dC λ_=>jc λz _ hz=>?_;cases hz;exact bZ ⟨_,a4,rfl,rfl,Ia.trans n4.pg,n4.lzs z3,he3⟩
    exact qY hm λ_=>bI (AU yG) (aH (aj ⟨v,rfl,yG,.one (k:=17) dN Hq⟩))
 ·rintro _ w ⟨v,rfl,f1,f2⟩;refine ai (Aa hm hC f1) λr hr=>ai DV λ_ _=>ay (λ_=>ay (λ_=>bI (Ab hr) (aj ⟨v,rfl,hr,f2⟩)) λ_=>aj ⟨v,rfl,hr,f2⟩) λ_=>?_;exact ai MR λr hr=>ai (JU hm hr f2) λz hz=>qY hm λ_=>bI (AU hz.1) (aH (aj ⟨v,rfl,hz.1,.one (k:=17) dN hz.2⟩))
 have hA:=hpg1.le;refine dx rfl (λhc=>cq (ih hm aD hpg1.lt (hI1 _ MH)) ?_ ?_) λhc=>cq (ih hm aD hpg1.lt (hI1 _ MH)) ?_ ?_;all_goals first
  | (rintro _ _ ⟨e,a',rfl,rfl,AR,hz,he⟩;exact hj _ _ ⟨e,a',rfl,rfl,hpg1.trans AR,hz,he⟩)
  | (rintro _ y ⟨v,rfl,f1,f2⟩;exact hf _ _ ⟨v,rfl,f1,f2⟩)
end
def ZB {α β γ:Type} {x:aG α} {f:α->aG β} {g:β->aG γ}:ag (ag x f) g=ag x λy=>ag (f y) g:=by cases x<;>rfl
section
variable {T:List aB}
def Lc:List ByS:=[[60],[60,61],[62],[62,61],[33,61],[61,126],[33,126]]
def afD (h:AY t [[45],[33]]=true):dl t=0/\AY t Lc=false:=by
 obtain ⟨h1,h2⟩:=Hf h;simp at h2;rcases h2 with h2|h2<;>simp[dl,AY,Lc,h1,h2]
def afE (h:AY t Lc=true):dl t=0:=by
 obtain ⟨h1,h2⟩:=Hf h;simp[Lc] at h2;rcases h2 with h2|h2|h2|h2|h2|h2|h2<;>simp[dl,h2]
def ai8 (h:kx t [40]=true):AY t [[45],[33]]=false/\AY t Lc=false/\AY t [[46],[91]]=false:=by
 obtain ⟨h1,h2⟩:=lC h;simp[AY,Lc,h2]
def Ø (hC:PC s T b) (ihU:XF s T b (ei n) dD) (ihP:XF s T b (eG n) eT):XF s T b (ei (n+1)) dD:=by
 intro m c k a q x hm h0 h1 hI;refine jG (F:=λi=>dD i c x) hm λm hm=>?_;show LK (gW n (R n) c (H s T a b k q)) (λi=>fO (m i) (ar (m i)) c x) _ _;unfold gW fO uD;obtain ⟨t,x',hn,hp,hpk⟩:=hI.afC hC h0 h1;refine bn (hpk hm) ?_;cases q with
 | some e=>
  obtain ⟨rfl,ho⟩:=hp bm
  have PK:cL x'=.ok (true,x'):=by
   rcases hI with ⟨h,_⟩|⟨_,_,_,_,_,_,_,_,_,rfl,_⟩
   ·cases h
   rfl
  obtain ⟨m1,m2,_⟩:=ai8 ho
  refine bn (nU (r:=.ok (true,x')) (N:=0) (λ_ _=>PK) rfl) (aJ dC λ_=>?_)
  refine mr (bn Fy ?_)
  rw[m1]
  refine aJ dC λ_=>mr (bn Fy ?_)
  rw[show AY t [[60],[60,61],[62],[62,61],[33,61],[61,126],[33,126]]=false from m2]
  refine aJ dC λ_=>aJ (λ_=>?_) dC
  refine aI (λ_=>?_) dC
  refine cq (ihP hm h0 h1 hI) ?_ ?_
  ·rintro _ _ ⟨e,a2,rfl,rfl,h⟩;exact bZ ⟨_,a2,rfl,rfl,h⟩
  ·rintro _ y ⟨v,rfl,h1,h2⟩;exact aj ⟨v,rfl,h1,h2⟩
 | none=>
  obtain ⟨a',nx,rfl⟩:=hn rfl
  refine bn uY (aJ dC λ_=>?_)
  refine aI dC λ_=>gQ nx (rH nx.self ?_)
  have nge:=nx.ge
  have un:∀ (v:Int),t.an=5->dl t=0->v≠16->LK (aG.gd (cD (a'+1)) (ag (ei n false (H s T (a'+1) b k none)) λy17=>.ok (ak.mk v t.bJ 0 [] [] [y17.1] [] [] (t.cG+b),y17.2))) (λi=>ag (bu (m i) (RX s T b a' k)) λy22=>ag (dD (m i) false y22.2) λy24=>.ok (ak.mk v t.bJ 0 [] [] [y24.1] [] [] (t.cG+b),y24.2)) (VX s T b k a) (WX s T b):=by
   intro v hk hd hv;refine bK λ_=>bn Qr (cq (ihU hm aD (nx.DP hC aD) .no) ?_ ?_)
   ·rintro _ _ ⟨e,a2,rfl,rfl,AR,hz,he⟩;exact bZ ⟨_,a2,rfl,rfl,(nx.read hC aD hd).trans AR,hz,.one hv he⟩
   rintro _ y ⟨w,rfl,h1,h2⟩;exact aj ⟨w,rfl,h1,.one hv h2⟩
  refine mr (bn Fy (fP (gU (E2 (l:=[[45],[33]]) rfl) ?_)))
  cases hA:AY t [[45],[33]] with
  | true=>
   obtain ⟨hd,hB⟩:=afD hA
   refine aI (λ_=>aJ (λ_=>mr (bn Fy ?_)) dC) dC
   rw[show AY t [[60],[60,61],[62],[62,61],[33,61],[61,126],[33,126]]=false from hB]
   exact aJ dC λ_=>aJ dC λ_=>un 19 (Hf hA).1 hd dN
  | false=>
   refine aI dC λ_=>aJ dC λ_=>mr (bn Fy (gU (E2 (l:=Lc) rfl) ?_))
   rw[show [[60],[60,61],[62],[62,61],[33,61],[61,126],[33,126]]=Lc from rfl]
   cases hB:AY t Lc with
   | true=>exact aI (λ_=>aJ (λ_=>aJ dC λ_=>un 9 (Hf hB).1 (afE hB) dN) λh=>by cases h) λh=>by cases h
   | false=>
    refine aI dC λ_=>aJ dC λ_=>aJ (λ_=>?_) dC
    refine cq (ihP hm nx.ge nx.lt .no) ?_ ?_
    ·rintro _ _ ⟨e,a2,rfl,rfl,AR,h⟩;exact bZ ⟨_,a2,rfl,rfl,nx.pg.trans AR,h⟩
    ·rintro _ y ⟨v,rfl,h1,h2⟩;exact aj ⟨v,rfl,h1,h2⟩
end
section
variable {T:List aB} {m:Nat->Nat}
def Sa (hm:bN m) (t:aB):Ev (λi=>qd (m i) t) (λ_=>True) dt:=by
 unfold qd;exact ai (Wy hm t) λ_ _=>ay pL λ_=>aj trivial
def ai9 {α β:Type} {V:α->β->Prop} {W:sT->β->Prop} (hm:bN m) (hC:PC s T b) (s9:∀ j,j<n->XF s T b (aW j) ax) {e:ak} {f:D×ak->aG α} {K:Nat->ak×ah->aG β} (h0:0<=a) (h1:a<T.length) (hk:∀ x a' u,Pg T a a'->T[a'.toNat]?=some u->kx u [93]=true->ij x->LK (f (H s T a' b k none,ak.mk 12 [] 0 [] [] [e,x] [] [] e.cG)) (λi=>K i (x,RX s T b (a'+1) k)) V W) (hw:∀ v r,FS s T b v r.2->ij r.1->Ev (λi=>K i r) (W (PF v)) dt) :
  LK (ag (fT n true (H s T a b k none) e) f) (λi=>ag (ax (m i) false (RX s T b a true)) λy=>ag (ca (m i) [93] k y.2) λz=>K i (y.1,z)) V W:=by
 rcases n with _|_|j
 ·exact dc
 ·exact dc
 ·show LK (ag (ag (ag (aW j false (H s T a b true none)) λy2=>ag (cz j [93] y2.2) λy3=>.ok (ak.mk 12 [] 0 [] [] [e,y2.1] [] [] e.cG,y3)) λy4=>.ok (H y4.2.bM y4.2.M y4.2.bB y4.2.base k y4.2.Z,y4.1)) f) _ V W
  exact ahd
def Bs (h:kx t [40]=true\/kx t [91]=true\/kx t [123]=true):dl t=1:=by
 rcases h with h|h|h<;>obtain ⟨h1,h2⟩:=lC h<;>simp[dl,h1,h2]
def Bt (h:kx t [41]=true\/kx t [93]=true\/kx t [125]=true):dl t = -1:=by
 rcases h with h|h|h<;>obtain ⟨h1,h2⟩:=lC h<;>simp[dl,h1,h2]
def Nx.pair (hC:PC s T b) {a1 a2:Int} {u:aB} (h:Nx T k a a1 t) (ho:dl t=1) (hp:Pg T (a1+1) a2) (hu:T[a2.toNat]?=some u) (hc:dl u = -1):Pg T a (a2+1)/\Lz T k (a2+1):=by
 have hk:u.an=5:=by
  unfold dl at hc;split at hc
  ·assumption
  omega
 have hle:=hp.le;have Ff:=h.ge;have hle2:=h.le;exact ⟨⟨aD,hC.next aD hu aD,.app h.pg.bal (.pair Ff h.tk ho hp.bal hu hc)⟩,λ_=>⟨u,by rw[Int.add_sub_cancel];exact hu,by omega⟩⟩
def O5 (hm:bN m) (hC:PC s T b) {a':Int} (h:Nx T k a a' t) (h0:t.an≠0):Ev (λi=>eH (m i) (RX s T b a k)) (λr=>r=(k,RX s T b (a'+1) true)) dt:=by
 unfold eH;exact ai (qK hm hC h h0) λr e=>by subst e;exact aj rfl
def T7 (hC:PC s T b) (ihP:XF s T b (eU n) dM) (s9:∀ j,j<n->XF s T b (aW j) ax):XF s T b (eG (n+1)) eT:=by
 intro m c k a q x hm h0 h1 hI;refine jG (F:=λi=>eT i c x) hm λm hm=>?_;show LK (ic n (R n) c (H s T a b k q)) (λi=>gD (m i) (ar (m i)) c x) _ _;unfold ic gD uD;have fin:∀ (p:sT) (w:ah×ak),(∃ v,p=PF v/\FS s T b v w.1/\ij w.2)->∀ {F:Nat->Bool×ah->aG (ak×ah)},Ev (λi=>ag (cL w.1) λy=>aG.br y.1 (F i y) (.ok (w.2,y.2))) (WX s T b p) dt:=by
  rintro p w ⟨v,rfl,h1,h2⟩ F;exact bI (AU h1) (aH (aj ⟨v,rfl,h1,h2⟩))
 refine cq (ihP hm h0 h1 hI) ?_ ?_
 rotate_left
 ·rintro _ y ⟨v,rfl,h1,h2⟩;exact qY hm λ_=>fin _ _ ⟨v,rfl,h1,h2⟩
 rintro _ _ ⟨e,a1,rfl,rfl,AR,hz,he⟩;refine vq (λv w=>∃ e a',v=(H s T a' b k none,e)/\w=(RX s T b a' k,e)/\Pg T a a'/\Lz T k a'/\ij e) (λp w=>∃ v,p=PF v/\FS s T b v w.1/\ij w.2) (λp w h _=>fin p w h) ?_ n hm _ _ ⟨e,a1,rfl,rfl,AR,hz,he⟩;rintro _ _ ⟨e,a1,rfl,rfl,AR,hz,he⟩ next next' hn hf;obtain ⟨a2,t,nx⟩:=pZ hC k (a:=a1) Qm AR.lt;have Ff:=nx.ge;refine bn (aj rfl) (aJ (λ_=>?_) dC);refine bn (kF hm hC nx) (bn (NH hm dN) ?_);refine gQ nx (rH nx.self (lB ?_));cases hd:kx t [46] with
 | true=>
  have hk:=(lC hd).1
  have hA:AY t [[46],[91]]=true:=by simp[AY,lC hd]
  rw[hA]
  have gR:=nx.DP hC aD
  refine aI (λ_=>aJ (λ_=>?_) dC) dC
  refine bn (kF hm hC nx.self) (LK.K9 hm Ff nx.lt he (λe' Ly=>?_) λv r yG Hq=>?_)
  ·refine bK λ_=>bn (AT b t [46]) ?_;rw[hd];refine aJ (λ_=>bn (qK hm hC nx.self aD) ?_) dC;obtain ⟨a3,u,ny⟩:=pZ hC k (a:=a2+1) aD gR;refine bn (kF hm hC ny) (gQ ny ?_);refine fP (mr (LK.label (t:=u) hm λy hy=>?_));cases y with
   | true=>
    have hu:u.an=3\/u.an=1:=hy rfl
    refine aI dC λ_=>aJ dC λ_=>bK λ_=>bn (qK hm hC ny.self aD) (hn _ _ ⟨_,a3+1,rfl,rfl,?_,?_,.one dN Ly⟩)
    ·exact (AR.trans (nx.read hC aD (CJ hd dN))).trans (ny.read hC aD (Hu aD))
    ·exact ny.lz aD
   | false=>
    refine aI (λ_=>aJ (λ_=>nI ny.self ?_) dC) dC
    refine bI (a:=RF s T b a3 k (u.cG+b)) rfl (ai (yI hm hC ny.fs) λr hr=>hf _ _ ⟨_,rfl,hr,.one dN Ly⟩)
  ·refine ai (UC _ _) λ_ _=>ay (λ_=>ai (yI hm hC yG) λr hr=>ai (Aa hm hC hr) λr hr=>bD (FS s T b v) (λw hw=>ai (yI hm hC hw) λr hr=>hf _ _ ⟨_,rfl,hr,.one dN Hq⟩) λj hj=>ai (Sa hm _) λ_ _=>ay (λ_=>bI (Ab hr) (hj _ hr)) λ_=>hj _ hr) λ_=>?_;exact ai (Õ hm hC yG) λr hr=>ai (od hm hC hr) λr hr=>ai (xn hm hC hr.1) λz hz=>hf _ _ ⟨_,rfl,hz,.two Hq hr.2⟩
 | false=>
  refine aI dC λ_=>lB ?_
  cases hb:kx t [91] with
  | false=>
   have hA:AY t [[46],[91]]=false:=by
    simp only[kx] at hd hb;rw[lN];intro hA;obtain ⟨q1,q2⟩:=Hf hA;simp at q2;rcases q2 with q2|q2<;>simp[q1,q2] at hd hb
   rw[hA]
   exact aI dC λ_=>aJ dC λ_=>bZ ⟨_,a2,rfl,rfl,AR.trans nx.pg,nx.lzs hz,he⟩
  | true=>
   have hk:=(lC hb).1
   have hA:AY t [[46],[91]]=true:=by simp[AY,lC hb]
   rw[hA]
   have gR:=nx.DP hC aD
   refine aI (λ_=>aJ (λ_=>?_) dC) dC
   refine bn (kF hm hC nx.self) (LK.K9 hm Ff nx.lt he (λe' Ly=>?_) λv r yG Hq=>?_)
   ·refine bK λ_=>bn (AT b t [46]) ?_;rw[hd];refine aJ dC λ_=>bn (O5 hm hC nx.self aD) ?_;refine ai9 (K:=λi y=>next' i (y.2,ak.mk 12 [] 0 [] [] [e',y.1] [] [] e'.cG)) hm hC s9 eZ gR (λx a3 u Ia hu ho hx=>?_) λv r yG Hq=>hf _ _ ⟨_,rfl,yG,.two Ly Hq⟩;obtain ⟨p1,p2⟩:=nx.pair hC (Bs (.inr (.inl hb))) Ia hu (Bt (.inr (.inl ho)));exact bK λ_=>hn _ _ ⟨_,a3+1,rfl,rfl,AR.trans p1,p2,.two Ly hx⟩
   ·refine ai (UC _ _) λ_ _=>ay (λ_=>ai (yI hm hC yG) λr hr=>ai (Aa hm hC hr) λr hr=>bD (FS s T b v) (λw hw=>ai (yI hm hC hw) λr hr=>hf _ _ ⟨_,rfl,hr,.one dN Hq⟩) λj hj=>ai (Sa hm _) λ_ _=>ay (λ_=>bI (Ab hr) (hj _ hr)) λ_=>hj _ hr) λ_=>?_;exact ai (Õ hm hC yG) λr hr=>ai (od hm hC hr) λr hr=>ai (xn hm hC hr.1) λz hz=>hf _ _ ⟨_,rfl,hz,.two Hq hr.2⟩
end
section
variable {T:List aB} {m:Nat->Nat}
variable {q:Option ak}
def Sb {x:ByS} (h:Nx T k a a' t) (ht:kx t x=true):Tk (cT n x (H s T a b k q)) (H s T (a'+1) b k q):=by
 unfold cT di;rcases xi (n:=n) (s:=s) (b:=b) (q:=q) h with e|e
 ·rw[e];exact .inl rfl
 rw[e,zU];dsimp only;rw[Gk,zU,ht];by_cases hg:cD (a'+1)
 ·simp only[iC,aG.br,aG.gd,hg,if_true,zU];exact kJ
 simp only[iC,aG.br,aG.gd,hg,if_false];exact .inl rfl
variable {V:α->β->Prop} {W:sT->β->Prop}
def ai_ (hm:bN m) (hC:PC s T b) (s9:∀ j,j<n->XF s T b (aW j) ax) {e:ak} {f:D×Bool×ak->aG α} {K:Nat->ak×ah->aG β} (h0:0<=a) (h1:a<T.length) (hk:∀ x a' u,Pg T a a'->T[a'.toNat]?=some u->kx u [41]=true->ij x->LK (f (H s T a' b k none,c,x)) (λi=>K i (x,RX s T b (a'+1) k)) V W) (hw:∀ v r,FS s T b v r.2->ij r.1->Ev (λi=>K i r) (W (PF v)) dt) :
  LK (ag (hU n true (H s T a b k none) c e) f) (λi=>ag (ax (m i) c (RX s T b a true)) λy=>ag (ca (m i) [41] k y.2) λz=>K i (y.1,z)) V W:=by
 rcases n with _|_|j
 ·exact dc
 ·exact dc
 ·show LK (ag (ag (ag (aW j c (H s T a b true none)) λy2=>ag (cz j [41] y2.2) λz=>.ok (c,y2.1,z)) λy4=>.ok (H y4.2.2.bM y4.2.2.M y4.2.2.bB y4.2.2.base k y4.2.2.Z,y4.1,y4.2.1)) f) _ V W
  exact ahd
def VB (s:ByS) (T:List aB) (b:Int) (k:Bool) (a':Int) (r:ak×D) (y:ak×ah):Prop:=∃ x a3 u,r=(x,H s T (a3+1) b k none)/\y=(x,RX s T b (a3+1) k)/\Pg T (a'+1) a3/\T[a3.toNat]?=some u/\kx u [41]=true/\ij x
def Ld (hm:bN m) (hC:PC s T b) (s9:∀ j,j<n->XF s T b (aW j) ax) (nx:Nx T k a a' t) (ht:kx t [40]=true) :
  LK (dU n c (H s T a b k none)) (λi=>ag (eH (m i) (RX s T b a k)) λy43=>ag (ax (m i) c y43.2) λy45=>ag (ca (m i) [41] y43.1 y45.2) λy47=>.ok (y45.1,y47)) (VB s T b k a') (WX s T b):=by
 rcases n with _|n
 ·exact dc
 ·show LK (jN n (R n) c (H s T a b k none)) _ _ _
  unfold jN
  have hk:=(lC ht).1
  have Ff:=nx.ge
  have gR:=nx.DP hC aD
  refine gU (Sb nx ht) (bn (O5 hm hC nx aD) ?_)
  refine ai_ (K:=λi y=>.ok (y.1,y.2)) hm hC (λj hj=>s9 j aD) aD gR (λx a3 u Ia hu ho hx=>?_) λv r yG Hq=>aj ⟨v,rfl,yG,Hq⟩
  exact bK λ_=>bZ ⟨x,a3,u,rfl,rfl,Ia,hu,ho,hx⟩
def Yb (hm:bN m) (hC:PC s T b) (s9:∀ j,j<n->XF s T b (aW j) ax) (nx:Nx T k a a' t) (ht:kx t [40]=true) :
  LK (dU n c (H s T a b k none)) (λi=>ag (eH (m i) (RX s T b a k)) λy43=>ag (ax (m i) c y43.2) λy45=>ag (ca (m i) [41] y43.1 y45.2) λy47=>.ok (y45.1,y47)) (VX s T b k a) (WX s T b):=(Ld hm hC s9 nx ht).mono (by
 rintro _ _ ⟨x,a3,u,rfl,rfl,Ia,hu,ho,hx⟩
 obtain ⟨p1,p2⟩:=nx.pair hC (Bs (.inl ht)) Ia hu (Bt (.inl ho))
 exact ⟨x,a3+1,rfl,rfl,p1,p2,hx⟩) λ_ _ h=>h
def LK.names (hm:bN m) (hC:PC s T b) (h0:0<=a) (h1:a<T.length) {g:ma×D->D->aG α} {K:Nat->ma×ah->aG β} (hk:∀ a' y p0,Pg T a a'->Lz T k a'->LK (g (y,p0) (H s T a' b k q)) (λi=>K i (y,RX s T b a' k)) V W) (hw:∀ v r,FS s T b v r.2->Ev (λi=>K i r) (W (PF v)) dt) :
  LK (ag (ke n (H s T a b k q)) λy=>ag (dW n [105,110] y.2) λp=>g y p) (λi=>ag (lg (m i) (RX s T b a k)) (K i)) V W:=by
 unfold ke lg
 have asB:∀ {α β:Type} (b:Bool) (x y:aG α) (f:α->aG β),ag (aG.br b x y) f=aG.br b (ag x f) (ag y f):=λb x y f=>by cases b<;>rfl
 simp only[aG.jn,ZB,asB,zU]
 obtain ⟨a1,t1,n1⟩:=pZ hC k h0 h1
 have fin:∀ {v:Int} {r:ma×ah},FS s T b v r.2->Ev (λi=>K i r) (W (PF v)) dt:=λh=>hw _ _ h
 refine LK.name hm hC n1 (λk1 _=>?_) λv r hr=>?_
 ·have l1:=n1.DP hC aD
  have g1:=n1.le
  obtain ⟨a2,t2,n2⟩:=pZ hC k (a:=a1+1) aD l1
  refine LK.expect hm hC n2 (λk2=>?_) λv r hr=>?_
  ·have l2:=n2.DP hC (by have:=(lC k2).1;omega)
   have g2:=n2.le
   obtain ⟨a3,t3,n3⟩:=pZ hC k (a:=a2+1) aD l2
   refine rH n3 (bn (kF hm hC n3) ?_)
   refine LK.name hm hC n3.self (λk3 _=>?_) λv r hr=>?_
   ·have l3:=n3.DP hC aD
    have g3:=n3.le
    refine bn uY ?_
    dsimp only
    refine aI (λe=>?_) λe=>?_
    ·rw[e]
     refine LK.fail ?_
     refine ba (ba (bI (a:=RF s T b (a3+1) k (t3.cG+b)) rfl ?_))
     exact ai (MC hm hC ⟨_,_,rfl,by omega,by omega⟩) λr hr=>hw _ _ hr
    ·rw[e]
     obtain ⟨a4,t4,n4⟩:=pZ hC k (a:=a3+1) aD l3
     refine LK.keyword hm hC n4 (λk4=>hk _ _ _ ?_ (n4.lz Zo)) λv r hr=>hw _ _ hr
     have p3:=((n1.read hC aD Il).trans (n2.read hC (by have:=(lC k2).1;omega) (CJ k2 dN))).trans (n3.read hC aD Il)
     exact p3.trans (n4.read hC Zo (Hu Zo))
   ·have e:=AU hr
    refine bI e (aH ?_)
    exact Y6
  ·refine ai MR λr hr=>ai (Ô hm hC hr) λr hr=>bI (AU hr) (aH ?_)
   exact Y6
 ·refine ai (Jv hm hC hr) λr hr=>ai MR λr hr=>ai (Ô hm hC hr) λr hr=>bI (AU hr) (aH ?_)
  exact Y6
def abl (hC:PC s T b) (s9:XF s T b (aW n) ax) (hm:bN m) (h0:0<=a) (h1:a<T.length) :
  LK (eB (n+1) (H s T a b k none)) (λi=>eS (m i) (RX s T b a k)) (VX s T b k a) (WX s T b):=by
 refine jG (F:=λi=>eS i (RX s T b a k)) hm λm hm=>?_
 show LK (iL n (R n) (H s T a b k none)) (λi=>lV (m i) (ar (m i)) (RX s T b a k)) _ _
 unfold iL lV uD Cz oz jU tG
 obtain ⟨a1,t,nx⟩:=pZ hC k h0 h1
 have g1:=nx.ge
 refine bn (kF hm hC nx) (bn (nU (r:=.ok (E1 t [102,111,114])) (N:=0) (λ_ _=>K8 b t _) rfl) ?_)
 refine rH nx (gQ nx.self (s5 ?_))
 cases hw:E1 t [102,111,114] with
 | false=>
  refine aI (λ_=>aJ (λ_=>?_) dC) dC
  refine cq (s9 hm g1 nx.lt .no) ?_ ?_
  ·rintro _ _ ⟨e,a2,rfl,rfl,AR,h⟩
   exact bZ ⟨_,a2,rfl,rfl,nx.pg.trans AR,h⟩
  ·rintro _ y ⟨v,rfl,f1,f2⟩
   exact aj ⟨v,rfl,f1,f2⟩
 | true=>
  have hk:=Gx hw
  refine aI dC λ_=>aJ dC λ_=>?_
  have gR:=nx.DP hC aD
  have kw:Tk (dW n [102,111,114] (H s T a1 b k none)) (H s T (a1+1) b k none):=by
   unfold dW
   rcases xi (n:=n) (s:=s) (b:=b) (q:=none) nx.self with e|e
   ·rw[e];exact .inl rfl
   ·rw[e,zU]
    dsimp only
    rw[K7,zU,hw]
    exact dY λ_=>kJ
  refine gU kw (bn (qK hm hC nx.self aD) ?_)
  have hlen:=hC.pJ
  have J0:∀ {v:Int} {r:ah} {E:ak},FS s T b v r->ij E->E.bF.length<=2->Ev (λi=>ag (cF (m i) [58] r) λy21=>ag (ax (m i) false y21) λy23=>gd (ob 144 E.bF.length (List.length [y23.1])) (.ok ((ak.mk 15 E.bJ E.U E.B E.bE (E.bF++[y23.1]) [] [] E.cG),y23.2))) (WX s T b (PF v)) dt:=by
   intro v r E hr hE hl
   refine ai (Jv hm hC hr) λr hr=>ai (od hm hC hr) λr hr=>aF (aj ⟨v,rfl,hr.1,.of rI (λe=>aw e dN) λx hx=>?_⟩)
   rcases bL.1 hx with e|e
   ·exact hE.s x e
   ·simp at e;subst e;exact hr.2
  have one15:∀ {e:ak} {x y:ByS} {p:Int},ij e->ij (ak.mk 15 [] 0 x y ([]++[e]) [] [] p):=λh=>.one dN h
  have two15:∀ {e e2:ak} {x y:ByS} {p:Int},ij e->ij e2->ij (ak.mk 15 [] 0 x y (([]++[e])++[e2]) [] [] p):=λh h2=>.two h h2
  have ff:∀ {v:Int} {r:ma×ah} {e:ak} {z:ah},FS s T b v z->ij e->Ev (λi=>gd (ob 144 (List.length ([]:List ak)) (List.length [e])) (jn (λ(v17:ah×ak)=>ag (cF (m i) [58] v17.1) λy21=>ag (ax (m i) false y21) λy23=>gd (ob 144 v17.2.bF.length (List.length [y23.1])) (.ok ((ak.mk v17.2.an v17.2.bJ v17.2.U v17.2.B v17.2.bE (v17.2.bF++[y23.1]) [] [] v17.2.cG),y23.2))) λj18=>ag (aY (m i) z) λy27=>ag (kt y27.1 [105,102]) λy28=>br y28 (ag (bu (m i) y27.2) λy31=>ag (ax (m i) false y31.2) λy32=>gd (ob 144 (List.length ([]++[e])) (List.length [y32.1])) (j18 (y32.2,(ak.mk 15 [] 0 r.1.x0 r.1.x1 (([]++[e])++[y32.1]) [] [] (oL b t).cG)))) (j18 (y27.2,(ak.mk 15 [] 0 r.1.x0 r.1.x1 ([]++[e]) [] [] (oL b t).cG))))) (WX s T b (PF v)) dt:=by
   intro v r e z hz he
   refine aF (ai (Aa hm hC hz) λr2 Hq=>ai (Wx _ _) λ_ _=>ay (λ_=>ai (yI hm hC Hq) λr3 hr3=>ai (od hm hC hr3) λr4 hr4=>aF (J0 hr4.1 (two15 he hr4.2) Qj)) λ_=>J0 Hq (one15 he) Qj)
  refine LK.names hm hC aD gR (λa2 y p0 T8 z2=>?_) λv r hr=>ai (od hm hC hr) λz hz=>ff hz.1 hz.2
  have g2:=T8.le
  refine cq (s9 hm aD T8.lt .no) ?_ ?_
  rotate_left
  ·rintro _ z ⟨v,rfl,f1,f2⟩
   exact ff (r:=(y,z.2)) f1 f2
  rintro _ _ ⟨e,a3,rfl,rfl,Ia,z3,he⟩
  have g3:=Ia.le
  have pgA:Pg T a a3:=((nx.read hC aD (Hu aD)).trans T8).trans Ia
  refine bK λhg=>bW hg ?_
  have fin:∀ {E:ak} {a4:Int},Pg T a a4->ij E->E.bF.length<=2->E.an=15->LK (ag (cT n [58] (H s T a4 b k none)) λy24=>ag (aW n false y24) λy26=>gd (ob 144 E.bF.length (List.length [y26.1])) (.ok ((ak.mk E.an E.bJ E.U E.B E.bE (E.bF++[y26.1]) [] [] E.cG),y26.2))) (λi=>ag (cF (m i) [58] (RX s T b a4 k)) λy21=>ag (ax (m i) false y21) λy23=>gd (ob 144 E.bF.length (List.length [y23.1])) (.ok ((ak.mk E.an E.bJ E.U E.B E.bE (E.bF++[y23.1]) [] [] E.cG),y23.2))) (VX s T b k a) (WX s T b):=by
   intro E a4 Lf hE hl hK
   have g4:=Lf.le
   obtain ⟨a5,u,n5⟩:=pZ hC k (a:=a4) aD Lf.lt
   have g5:=n5.ge
   have em:∀ {x:ak},ij x->ij (ak.mk E.an E.bJ E.U E.B E.bE (E.bF++[x]) [] [] E.cG):=λhx=>.of rI (λe=>aw (hK.symm.trans e) dN) λy hy=>by
    rcases bL.1 hy with e|e
    ·exact hE.s y e
    ·simp at e;subst e;exact hx
   refine LK.expect hm hC n5 (λht=>?_) λv r hr=>ai (od hm hC hr) λr hr=>aF (aj ⟨v,rfl,hr.1,em hr.2⟩)
   have hk5:=(lC ht).1
   refine cq (s9 hm aD (n5.DP hC aD) .no) ?_ ?_
   ·rintro _ _ ⟨e,a6,rfl,rfl,pg6,z6,he⟩
    exact bK λhg=>bW hg (bZ ⟨_,a6,rfl,rfl,(Lf.trans (n5.read hC aD (CJ ht dN))).trans pg6,z6,em he⟩)
   ·rintro _ z ⟨v,rfl,f1,f2⟩
    exact aF (aj ⟨v,rfl,f1,em f2⟩)
  obtain ⟨a4,u,n4⟩:=pZ hC k (a:=a3) aD Ia.lt
  have g4:=n4.ge
  refine fP (mr (bn (kF hm hC n4) (bn (nU (r:=.ok (E1 u [105,102])) (N:=0) (λ_ _=>K8 b u _) rfl) (gQ n4 (s5 ?_)))))
  cases hi:E1 u [105,102] with
  | false=>exact aI dC λ_=>aJ dC λ_=>fin (E:=ak.mk 15 [] 0 y.x0 y.x1 ([]++[e]) [] [] (t.cG+b)) (pgA.trans n4.pg) (one15 he) Qj rfl
  | true=>
   have hk4:=(Gx hi).1
   refine aI (λ_=>aJ (λ_=>?_) dC) dC
   have kw2:Tk (dW n [105,102] (H s T a4 b k none)) (H s T (a4+1) b k none):=by
    unfold dW
    rcases xi (n:=n) (s:=s) (b:=b) (q:=none) n4.self with e|e
    ·rw[e];exact .inl rfl
    ·rw[e,zU]
     dsimp only
     rw[K7,zU,hi]
     exact dY λ_=>kJ
   refine gU kw2 (bn (qK hm hC n4.self aD) (cq (s9 hm aD (n4.DP hC aD) .no) ?_ ?_))
   ·rintro _ _ ⟨e2,a6,rfl,rfl,pg6,z6,SJ⟩
    exact bK λhg=>bW hg (fin (E:=ak.mk 15 [] 0 y.x0 y.x1 (([]++[e])++[e2]) [] [] (t.cG+b)) ((pgA.trans (n4.read hC aD (Hu aD))).trans pg6) (two15 he SJ) Qj rfl)
   ·rintro _ z ⟨v,rfl,f1,f2⟩
    exact aF (J0 f1 (two15 he f2) Qj)
end
def Ex {α:Type} (x:aG α) (v:Int):Prop:=x=.stuck\/x=.qH (PF v)
section
variable {x y:aG α}
variable {f:α->aG β}
def Ex.bind (h:Ex x v):Ex (ag x f) v:=by
 rcases h with rfl|rfl
 ·exact .inl rfl
 exact .inr rfl
def sx:=@Ex.bind
def Ex.tk {c:α} (h:Tk x c) (hf:Ex (f c) v):Ex (ag x f) v:=by
 rcases h with rfl|rfl
 ·exact .inl rfl
 exact hf
def rZ:=@Ex.tk
def Ex.br {b:Bool} (ht:b=true->Ex x v) (hf:b=false->Ex y v):Ex (aG.br b x y) v:=by
 cases b with
 | true=>exact ht rfl
 | false=>exact hf rfl
def oX:=@Ex.br
def Ex.gd {p:Prop} [Decidable p] (h:Ex x v):Ex (aG.gd p x) v:=by
 unfold aG.gd;split
 ·exact h
 exact .inl rfl
end
def Ex.jn {α X:Type} {v:Int} {j:X->aG α} {p:(X->aG α)->aG α} (h:Ex (p j) v):Ex (aG.jn j p) v:=h
def Cl (t:aB):Prop:=t.an=5/\(t.bJ=[41]\/t.bJ=[93]\/t.bJ=[125])
def Cl.of (h:kx t [41]=true\/kx t [93]=true\/kx t [125]=true):Cl t:=by
 rcases h with h|h|h<;>obtain ⟨h1,h2⟩:=lC h
 ·exact ⟨h1,.inl h2⟩
 ·exact ⟨h1,.inr (.inl h2)⟩
 exact ⟨h1,.inr (.inr h2)⟩
def Cl.no (h:Cl t) (hx:x≠[41]/\x≠[93]/\x≠[125]):kx t x=false:=by
 obtain ⟨_,h2⟩:=h;rw[lN];intro q;obtain ⟨_,q2⟩:=lC q;rw[q2] at h2;rcases h2 with h2|h2|h2
 ·exact hx.1 h2
 ·exact hx.2.1 h2
 exact hx.2.2 h2
def Cl.am (h:Cl t) {l:List ByS} (hx:[41] ∉ l/\[93] ∉ l/\[125] ∉ l):AY t l=false:=by
 obtain ⟨_,h2⟩:=h;rw[lN];intro q;obtain ⟨_,q2⟩:=Hf q;rcases h2 with h2|h2|h2<;>rw[h2] at q2
 ·exact hx.1 q2
 ·exact hx.2.1 q2
 exact hx.2.2 q2
section
variable {T:List aB}
variable {q:Option ak}
def O6 (h:Nx T k a a' t) {γ:Type} {f:D->aG γ}:Ex (ag (bY n (H s T a b k q)) f) (t.cG+b):=by
 unfold bY;rcases Iz (n:=n) (s:=s) (b:=b) (q:=q) h with e|e
 ·rw[e];exact .inl rfl
 rw[e,zU];exact .inr rfl
def Yc (h:Nx T k a a' t) (hc:Cl t):Ex (eU n c (H s T a b k none)) (t.cG+b):=by
 rcases n with _|n
 ·exact .inl rfl
 show Ex (fU n (R n) c (H s T a b k none)) _;unfold fU jg tG;have h5:=hc.1;have nk:∀ {j:Int},j≠5->(t.an==j)=true->False:=λhj e=>hj (by rw[<- h5];exact (by simpa using e:t.an=_).symm);have op:∀ {x:ByS} {γ:Type} {f:Bool->aG γ} {v:Int},x≠[41]/\x≠[93]/\x≠[125]->Ex (f false) v->Ex (ag (eg t x) f) v:=λhx hf=>rZ (.inr (by rw[Gk,hc.no hx])) hf;refine oX dC λ_=>rZ (xi h) (rZ (Iz h.self) ?_);refine oX (λe=>(nk dN e).elim) λ_=>oX (λe=>(nk dN e).elim) λ_=>oX (λe=>(nk dN e).elim) λ_=>oX (λe=>(nk dN e).elim) λ_=>?_;refine op dN (oX dC λ_=>op dN (oX dC λ_=>op dN (oX dC λ_=>op dN (oX dC λ_=>op dN (oX dC λ_=>?_)))));exact O6 h.self
def Yd (h:Nx T k a a' t) (hc:Cl t):Ex (eG n c (H s T a b k none)) (t.cG+b):=by
 rcases n with _|n
 ·exact .inl rfl
 show Ex (ic n (R n) c (H s T a b k none)) _;exact sx (Yc h hc)
def abm (h:Nx T k a a' t) (hc:Cl t):Ex (ei n c (H s T a b k none)) (t.cG+b):=by
 rcases n with _|n
 ·exact .inl rfl
 show Ex (gW n (R n) c (H s T a b k none)) _;unfold gW uD;refine oX dC λ_=>rZ (xi h) (rZ (Iz h.self) ?_);refine rZ (E2 (l:=[[45],[33]]) rfl) ?_;rw[hc.am dN];refine oX dC λ_=>rZ (E2 (l:=Lc) rfl) ?_;rw[hc.am dN];exact oX dC λ_=>sx (Yd h.self hc)
def Sd (h:Nx T k a a' t) (hc:Cl t):∀ (n:Nat) {l:Int},Ex (dA n l c (H s T a b k none)) (t.cG+b)
 | 0,_=>.inl rfl
 | n+1,l=>by
  show Ex (gz n (R n) l c (H s T a b k none)) _;unfold gz uD jg;exact oX (λ_=>sx (abm h hc)) λ_=>Ex.gd (sx (Sd h hc n))
def Mv (h:Nx T k a a' t) (hc:Cl t):Ex (da n c (H s T a b k none)) (t.cG+b):=by
 rcases n with _|n
 ·exact .inl rfl
 show Ex (fG n (R n) c (H s T a b k none)) _;exact sx (Sd h hc _)
def Ù (h:Nx T k a a' t) (ht:kx t x=false):Tk (di n x (H s T a b k q)) (false,H s T a' b k q):=by
 unfold di;rcases xi (n:=n) (s:=s) (b:=b) (q:=q) h with e|e
 ·rw[e];exact .inl rfl
 rw[e,zU];dsimp only;rw[Gk,zU,ht];exact .inr rfl
def FV (h:Nx T k a a' t) (hc:Cl t):Ex (c8 n c (H s T a b k none)) (t.cG+b):=by
 rcases n with _|n
 ·exact .inl rfl
 show Ex (fb n (R n) c (H s T a b k none)) _;unfold fb;refine oX (λ_=>rZ (Iz h) (rZ (Ù h.self (hc.no dN)) (oX dC λ_=>sx (Mv h.self hc)))) dC
def Ú (h:Nx T k a a' t) (hc:Cl t):Ex (aW n c (H s T a b k none)) (t.cG+b):=by
 rcases n with _|n
 ·exact .inl rfl
 show Ex (iK n (R n) c (H s T a b k none)) _;unfold iK Cz oz jU tG;refine Ex.jn (oX (λ_=>rZ (xi h) ?_) dC);refine rZ (c:=false) (.inr (by rw[Gk,hc.no dN])) ?_;exact Ex.jn (oX (λ_=>sx (FV h.self hc)) λ_=>sx (FV h.self hc))
def afF (h:Nx T k a a' t) (hc:Cl t):Ex (eB n (H s T a b k none)) (t.cG+b):=by
 rcases n with _|n
 ·exact .inl rfl
 show Ex (iL n (R n) (H s T a b k none)) _;unfold iL Cz oz jU tG;refine rZ (Iz h) (rZ (xi h.self) (rZ (c:=false) (.inr (by rw[K7];simp[E1,hc.1])) (oX (λ_=>sx (Ú h.self hc)) dC)))
end
section
variable {X Y Z:Type} {V:α->β->Prop} {W:sT->β->Prop}
def LK.rot (I:X->Y->Prop) (J:sT->Z->Prop) (M:Nat->(Z->aG β)->Y->aG β) {body:(X->aG α)->X->aG α} {wL:Nat->(Z->aG β)->Z->aG β}
  (hj:∀ p z,J p z->∀ next':Nat->Z->aG β,Ev (λi=>wL i (next' i) z) (W p) dt)
  (hb:∀ v y,I v y->∀ (next:X->aG α) (next':Nat->Z->aG β),(∀ v y,I v y->LK (next v) (λi=>M i (next' i) y) V W)->(∀ p z,J p z->Ev (λi=>next' i z) (W p) dt)->LK (body next v) (λi=>M i (λz=>wL i (next' i) z) y) V W) :
  ∀ (n:Nat) {m:Nat->Nat},bN m->∀ v y,I v y->LK (aG.iter body n v) (λi=>M i (λz=>aG.iter (wL i) (m i) z) y) V W
 | 0,_,_,_,_,_=>dc
 | n+1,m,hm,v,y,hI=>by
  have h:=hb v y hI _ _ (λv y h=>LK.rot I J M hj hb n hm.pred v y h) λp z h=>qY hm.pred λnext=>hj p z h next
  have e:∀ {Q:β->Prop},Ev (λi=>M i (λz=>wL i (λz=>aG.iter (wL i) (m i - 1) z) z) y) Q dt->Ev (λi=>M i (λz=>aG.iter (wL i) (m i) z) y) Q dt:=by
   rintro Q ⟨r,h1,N,hN⟩
   obtain ⟨L,hL⟩:=hm 1
   refine ⟨r,h1,N+L,λi hi=>?_⟩
   have h2:=hL i aD
   rw[<- hN i aD]
   obtain ⟨q,hq⟩:∃ q,m i=q+1:=⟨m i - 1,aD⟩
   simp only[hq];rfl
  exact ⟨λa ha=>e (h.1 a ha),λp hp=>e (h.2 p hp)⟩
end
def Lg (m:Nat) (k:Bool) (next:ah×ak->aG (ak×ah)) (w:ah×ak):aG (ak×ah):=
 ag (aY m w.1) λy43=>ag (cg y43.1 [93]) λy44=>br y44 (ag (ca m [93] k y43.2) λy9=>.ok (ak.mk w.2.an w.2.bJ w.2.U w.2.B w.2.bE w.2.bF [] [] w.2.cG,y9))
  (ag (cF m [44] y43.2) λy47=>ag (aY m y47) λy49=>ag (cg y49.1 [93]) λy51=>br y51 (ag (bO y49.1.cG y49.2) λy53=>next (y53,w.2)) (next (y49.2,w.2)))
section
variable {T:List aB} {m:Nat->Nat}
def abn (hm:bN m) (hC:PC s T b) {k:Bool} {v:Int} {y:ah} {E:ak} {next:Nat->ah×ak->aG (ak×ah)} (h:FS s T b v y) (hE:ij (ak.mk E.an E.bJ E.U E.B E.bE E.bF [] [] E.cG))
  (hn:∀ y,FS s T b v y->Ev (λi=>next i (y,E)) (WX s T b (PF v)) dt):Ev (λi=>Lg (m i) k (next i) (y,E)) (WX s T b (PF v)) dt:=by
 unfold Lg
 refine ai Gy λr hr=>ai DV λ_ _=>ay (λ_=>ai (xn hm hC hr) λz hz=>aj ⟨v,rfl,hz,hE⟩) λ_=>?_
 exact agG
end
section
variable {T:List aB} {m:Nat->Nat}
abbrev LE (l:List ak) (nm p:Int):ak:=ak.mk 14 [] nm [] [] l [] [] p
def VL (s:ByS) (T:List aB) (b:Int) (k:Bool) (a:Int) (r:ak×D) (y:ak×ah):Prop:=∃ e a' u,r=(e,H s T a' b true none)/\y=(e,RX s T b (a'+1) k)/\Pg T a a'/\T[a'.toNat]?=some u/\kx u [93]=true/\ij e
variable {l:List ak} {F:Nat->aG β} {V:α->β->Prop} {W:sT->β->Prop}
def LE.sm {nm:Int} (hl:(l.length:Int)<=70000) (h:∀ x,x∈l->ij x):ij (LE l nm p):=.of aD (λe=>aw e dN) h
def Bu {x:ak} (h:∀ x,x∈l->ij x) (hx:ij x):∀ y,y∈l++[x]->ij y:=λy hy=>by
 rcases bL.1 hy with e|e
 ·exact h y e
 simp at e;subst e;exact hx
def Nt (hm:bN m) (hC:PC s T b) (s9:XF s T b (aW n) ax) (ihI:∀ {m:Nat->Nat} {a:Int} {k:Bool},bN m->0<=a->a<T.length->LK (eB n (H s T a b k none)) (λi=>eS (m i) (RX s T b a k)) (VX s T b k a) (WX s T b)) {a0 a':Int} {t:aB} (nx:Nx T true a a' t) (AR:Pg T a0 a) (h00:0<=a0) (hl:(l.length:Int)<=a) (hs:∀ x,x∈l->ij x) {next:ak×D×Bool->aG (ak×D)} {next':Nat->ah×ak->aG (ak×ah)} (hn:∀ l a',Pg T a0 a'->(l.length:Int)<=a'+1->(∀ x,x∈l->ij x)->LK (next (LE l 0 p,H s T a' b true none,false)) (λi=>Lg (m i) k (next' i) (RX s T b a' true,LE l 0 p)) (VL s T b k a0) (WX s T b)) (hf:∀ v y l,FS s T b v y->(l.length:Int)<=70000->(∀ x,x∈l->ij x)->Ev (λi=>next' i (y,LE l 0 p)) (WX s T b (PF v)) dt) :
  LK (ag (cY n (H s T a b true none)) λy16=>ag (di n [46,46,46] y16.2) λy19=>br y19.1 (jn (λ(v23:D×ak)=>gd (ob 144 l.length (List.length [(ak.mk 0 ([]:ByS) 0 ([]:ByS) ([]:ByS) [] [] [] 0)])) (ag (cz n [93] v23.1) λy28=>.ok (LE (l++[v23.2]) 1 p,y28))) λj24=>ag (bq n y19.2) λy31=>ag (eg y31.1 [93]) λy32=>br (!y32) (ag (aW n false (D.mk y31.2.bM y31.2.M y31.2.bB y19.2.base y31.2.skip y31.2.Z)) λy34=>j24 (y34.2,y34.1)) (j24 ((D.mk y31.2.bM y31.2.M y31.2.bB y19.2.base y31.2.skip y31.2.Z),(ak.mk 6 [] 0 [] [] [] [] [] y16.1)))) (ag (eB n y19.2) λy35=>gd (ob 144 l.length (List.length [(ak.mk 0 ([]:ByS) 0 ([]:ByS) ([]:ByS) [] [] [] 0)])) (next (LE (l++[y35.1]) 0 p,y35.2,false))))
   (λi=>ag (aY (m i) (RX s T b a' true)) λy23=>ag (cg y23.1 [46,46,46]) λy25=>br y25 (ag (bu (m i) y23.2) λy28=>ag (aY (m i) y28.2) λy32=>ag (cg y32.1 [93]) λy33=>br y33 (gd (ob 144 l.length (List.length [(ak.mk 6 [] 0 [] [] [] [] [] y23.1.cG)])) (ag (ca (m i) [93] k y32.2) λy9=>.ok (LE (l++[(ak.mk 6 [] 0 [] [] [] [] [] y23.1.cG)]) 1 p,y9))) (ag (ax (m i) false y32.2) λy36=>gd (ob 144 l.length (List.length [y36.1])) (ag (ca (m i) [93] k y36.2) λy9=>.ok (LE (l++[y36.1]) 1 p,y9)))) (ag (eS (m i) y23.2) λy39=>gd (ob 144 l.length (List.length [y39.1])) (Lg (m i) k (next' i) (y39.2,LE (l++[y39.1]) 0 p))))
   (VL s T b k a0) (WX s T b):=by
 have hlen:=hC.pJ
 have h0:=AR.le
 have gR:=AR.lt
 have g1:=nx.le
 have g2:=nx.lt
 refine rH nx (bn (kF hm hC nx.self) (bn (AT b t [46,46,46]) ?_))
 refine rG nx.self (λht=>?_) λht=>?_
 ·rw[ht]
  have hk:=(lC ht).1
  have l1:=nx.DP hC aD
  refine aI (λ_=>aJ (λ_=>bn Qr ?_) dC) dC
  obtain ⟨a2,u,n2⟩:=pZ hC true (a:=a'+1) aD l1
  have g3:=n2.le
  have T8:Pg T a0 a2:=(AR.trans (nx.read hC aD (CJ ht dN))).trans n2.pg
  refine bn (kF hm hC n2) (bn (AT b u [93]) (fP (gQ n2 (lB ?_))))
  have clo:∀ {a3:Int} {x:ak},Pg T a0 a3->ij x->LK (gd (ob 144 l.length (List.length [(ak.mk 0 ([]:ByS) 0 ([]:ByS) ([]:ByS) [] [] [] 0)])) (ag (cz n [93] (H s T a3 b true none)) λy28=>.ok (LE (l++[x]) 1 p,y28))) (λi=>gd (ob 144 l.length (List.length [x])) (ag (ca (m i) [93] k (RX s T b a3 true)) λy9=>.ok (LE (l++[x]) 1 p,y9))) (VL s T b k a0) (WX s T b):=by
   intro a3 x Ia hx
   have:=Ia.le
   obtain ⟨a4,w,n4⟩:=pZ hC true (a:=a3) aD Ia.lt
   have sm:ij (LE (l++[x]) 1 p):=LE.sm rI (Bu hs hx)
   exact bK λhg=>bW hg (LK.closing hm hC n4 (λhw=>bZ ⟨_,a4,w,rfl,rfl,Ia.trans n4.pg,n4.tk,hw,sm⟩) λv r hr=>aj ⟨v,rfl,hr,sm⟩)
  cases hu:kx u [93] with
  | true=>exact aI dC λ_=>aJ (λ_=>clo (x:=ak.mk 6 [] 0 [] [] [] [] [] (t.cG+b)) T8 (.leaf dN)) λh=>by cases h
  | false=>
   refine aI (λ_=>aJ dC λ_=>?_) dC
   dsimp only
   refine cq (s9 hm aD n2.lt .no) ?_ ?_
   ·rintro _ _ ⟨e,a3,rfl,rfl,Ia,z3,he⟩
    exact clo (T8.trans Ia) he
   ·rintro _ y ⟨v,rfl,f1,f2⟩
    exact aF (ai (xn hm hC f1) λr hr=>aj ⟨v,rfl,hr,LE.sm rI (Bu hs f2)⟩)
 ·rw[ht]
  refine aI dC λ_=>aJ dC λ_=>?_
  refine cq (ihI hm aD nx.lt) ?_ ?_
  ·rintro _ _ ⟨e,a3,rfl,rfl,Ia,z3,he⟩
   have:=Ia.le
   exact bK λhg=>bW hg (hn (l++[e]) a3 ((AR.trans nx.pg).trans Ia) rI (Bu hs he))
  ·rintro _ y ⟨v,rfl,f1,f2⟩
   exact aF (abn (E:=LE (l++[y.1]) 0 p) hm hC f1 (LE.sm (l:=l++[y.1]) rI (Bu hs f2)) λz hz=>hf v z (l++[y.1]) hz rI (Bu hs f2))
variable {W':sT->β->Prop}
def LK.ajb {γ:Type} {x:aG γ} {f:γ->aG α} {V':γ->β->Prop} (h:LK x F V' W') (hk:∀ a b,V' a b->LK (f a) (λ_=>.ok b) V W) (hw:∀ p b,W' p b->W p b):LK (ag x f) F V W:=by
 cases x with
 | stuck=>exact dc
 | qH p=>exact sw ((h.2 p rfl).oB λb hb=>hw p b hb)
 | ok c=>
  obtain ⟨b,hb,N,hN⟩:=(h.1 c rfl).get
  have e:Ev F (λz=>z=b) dt:=nU (r:=.ok b) hN rfl
  refine ⟨λa ha=>?_,λp hp=>?_⟩
  ·have h1:=(hk c b hb).1 a ha;exact acN
  ·have h1:=(hk c b hb).2 p hp;exact acN
def sQ:=@LK.ajb
def LK.ex {x:aG α} {v:Int} (h:Ex x v) (hw:Ev F (W (PF v)) dt):LK x F V W:=by
 rcases h with rfl|rfl
 ·exact dc
 exact sw hw
def ajc {V':ak×D->β->Prop} {E:ak} {f:D×ak->aG α} (h:∀ j,j+2=n->LK (gC j (R j) E (H s T a b true none)) F V' W') (hk:∀ e z,V' e z->LK (f (H e.2.bM e.2.M e.2.bB e.2.base k e.2.Z,e.1)) (λ_=>.ok z) V W) (hw:∀ p z,W' p z->W p z) :
  LK (ag (hY n true (H s T a b k none) E) f) F V W:=by
 rcases n with _|_|j
 ·exact dc
 ·exact dc
 ·show LK (ag (ag (gC j (R j) E (H s T a b true none)) λy4=>.ok (H y4.2.bM y4.2.M y4.2.bB y4.2.base k y4.2.Z,y4.1)) f) F V W
  simp only[ZB,zU]
  exact sQ (h j rfl) hk hw
end
def IA (m:Nat) (k:Bool) (v5:ah×ak):aG (ak×ah):=ag (ca m [93] k v5.1) λy9=>.ok ((ak.mk v5.2.an v5.2.bJ v5.2.U v5.2.B v5.2.bE v5.2.bF [] [] v5.2.cG),y9)
def Nu (m:Nat) (k:Bool) (next:ah×ak->aG (ak×ah)) (v11:ah×ak):aG (ak×ah):=
 ag (cL v11.1) λy16=>br y16.1 (ag (aY m y16.2) λy18=>ag (cg y18.1 ([93]:ByS)) λy19=>br (!y19) (ag (aY m y18.2) λy23=>ag (cg y23.1 ([46,46,46]:ByS)) λy25=>br y25 (ag (bu m y23.2) λy28=>ag (aY m y28.2) λy32=>ag (cg y32.1 ([93]:ByS)) λy33=>br y33 (gd (ob 144 v11.2.bF.length (List.length [(ak.mk 6 [] 0 [] [] [] [] [] y23.1.cG)])) (IA m k (y32.2,(ak.mk v11.2.an v11.2.bJ 1 v11.2.B v11.2.bE (v11.2.bF++[(ak.mk 6 [] 0 [] [] [] [] [] y23.1.cG)]) [] [] v11.2.cG)))) (ag (ax m false y32.2) λy36=>gd (ob 144 v11.2.bF.length (List.length [y36.1])) (IA m k (y36.2,(ak.mk v11.2.an v11.2.bJ 1 v11.2.B v11.2.bE (v11.2.bF++[y36.1]) [] [] v11.2.cG))))) (ag (eS m y23.2) λy39=>gd (ob 144 v11.2.bF.length (List.length [y39.1])) (Lg m k next (y39.2,(ak.mk v11.2.an v11.2.bJ v11.2.U v11.2.B v11.2.bE (v11.2.bF++[y39.1]) [] [] v11.2.cG))))) (IA m k (y18.2,(ak.mk v11.2.an v11.2.bJ v11.2.U v11.2.B v11.2.bE v11.2.bF [] [] v11.2.cG)))) (IA m k (y16.2,(ak.mk v11.2.an v11.2.bJ v11.2.U v11.2.B v11.2.bE v11.2.bF [] [] v11.2.cG)))
section
variable {T:List aB} {m:Nat->Nat}
def abo (hm:bN m) (hC:PC s T b) {v:Int} {w:ah×ak} (h:FS s T b v w.1) (hE:ij (ak.mk w.2.an w.2.bJ w.2.U w.2.B w.2.bE w.2.bF [] [] w.2.cG)):Ev (λi=>IA (m i) k w) (WX s T b (PF v)) dt:=by
 unfold IA;exact ai (xn hm hC h) λz hz=>aj ⟨v,rfl,hz,hE⟩
def JC {q:Option ak} (h:Nx T k a a' t) (ht:kx t x=true):Tk (cz n x (H s T a b k q)) (H s T a' b k q):=by
 unfold cz;rcases xi (n:=n) (s:=s) (b:=b) (q:=q) h with e|e
 ·rw[e];exact .inl rfl
 rw[e,zU];dsimp only;rw[Gk,zU,ht];exact kJ
def Tn (hm:bN m) (hC:PC s T b) {k0:Bool} (h:Nx T k a a' t) (ht:kx t x=true):Ev (λi=>ca (m i) x k0 (RX s T b a k)) (λr=>r=RX s T b (a'+1) k0) dt:=by
 unfold ca;exact ai (Ns hm hC h ht) λr e=>by subst e;exact aj rfl
def Û (hm:bN m) (hC:PC s T b) (s9:XF s T b (aW n) ax) (ihI:∀ {m:Nat->Nat} {a:Int} {k:Bool},bN m->0<=a->a<T.length->LK (eB n (H s T a b k none)) (λi=>eS (m i) (RX s T b a k)) (VX s T b k a) (WX s T b)) {p:Int} (h0:0<=a) (h1:a<T.length) :
  LK (gC n (R n) (LE [] 0 p) (H s T a b true none)) (λi=>aG.iter (Nu (m i) k) (m i) (RX s T b a true,LE [] 0 p)) (VL s T b k a) (WX s T b):=by
 unfold gC YE jU
 have hlen:=hC.pJ
 have smL:∀ {l:List ak},(l.length:Int)<=70000->(∀ x,x∈l->ij x)->ij (LE l 0 p):=λh1 h2=>LE.sm h1 h2
 have hj:∀ (q:sT) (z:ah×ak),(∃ v l,q=PF v/\FS s T b v z.1/\z.2=LE l 0 p/\(l.length:Int)<=70000/\∀ x,x∈l->ij x)->∀ next':Nat->ah×ak->aG (ak×ah),Ev (λi=>Nu (m i) k (next' i) z) (WX s T b q) dt:=by
  rintro q ⟨z,_⟩ ⟨v,l,rfl,f1,rfl,f2,f3⟩ next'
  unfold Nu
  exact bI (AU f1) (aH (abo hm hC f1 (smL f2 f3)))
 rcases n with _|n
 ·exact dc
 refine LK.H9 hm ?_
 obtain ⟨a1,t,nx⟩:=pZ hC true h0 h1
 have fin:∀ {l:List ak} {a1 a2:Int} {t:aB} {nn:Nat},Pg T a a1->Nx T true a1 a2 t->kx t [93]=true->ij (LE l 0 p)->LK (ag (cz nn [93] (H s T a1 b true none)) λy40=>.ok (LE l 0 p,y40)) (λi=>IA (m i) k (RX s T b a1 true,LE l 0 p)) (VL s T b k a) (WX s T b):=by
  intro l a1 a2 t nn pg nx ht he
  unfold IA
  exact ab4
 refine gQ nx (bn uY (aJ (λ_=>?_) dC))
 refine bn Ju (bn (AT b t [93]) (lB ?_))
 have g1:=nx.ge
 cases ht:kx t [93] with
 | true=>exact aI dC λ_=>aJ dC λ_=>fin nx.pg nx.self ht (smL bm bm)
 | false=>
  refine aI (λ_=>aJ (λ_=>?_) dC) dC
  refine fP (aI dC λ_=>?_)
  refine Nt (a:=a1) (l:=[]) hm hC s9 ihI nx.self nx.pg h0 rI bm (λl a' pg hl hs=>?_) λv y l f1 f2 f3=>qY hm.pred λnx'=>hj _ _ ⟨v,l,rfl,f1,rfl,f2,f3⟩ nx'
  refine LK.rot (λv y=>∃ l a',v=(LE l 0 p,H s T a' b true none,false)/\y=(RX s T b a' true,LE l 0 p)/\Pg T a a'/\(l.length:Int)<=a'+1/\∀ x,x∈l->ij x) (λq z=>∃ v l,q=PF v/\FS s T b v z.1/\z.2=LE l 0 p/\(l.length:Int)<=70000/\∀ x,x∈l->ij x) (λi=>Lg (m i) k) hj ?_ n hm.pred _ _ ⟨l,a',rfl,rfl,pg,hl,hs⟩
  rintro _ _ ⟨l,a2,rfl,rfl,pg,hl,hs⟩ next next' hn hf
  have g2:=pg.le
  have l2:=pg.lt
  obtain ⟨a3,t3,n3⟩:=pZ hC true (a:=a2) aD pg.lt
  have g3:=n3.le
  have sml:=smL (l:=l) aD hs
  unfold Lg
  refine bn (kF hm hC n3) (bn (AT b t3 [93]) (gQ n3 (lB ?_)))
  cases h3:kx t3 [93] with
  | true=>exact aI dC λ_=>aJ (λ_=>fin (pg.trans n3.pg) n3.self h3 sml) λh=>by cases h
  | false=>
   refine aI (λ_=>aJ dC λ_=>?_) dC
   refine fP (aI (λ_=>?_) dC)
   refine LK.expect hm hC n3.self (λhc=>?_) λv r hr=>ai MR λr hr=>ai DV λ_ _=>ay (λ_=>bI (Ab hr) (hj _ _ ⟨v,l,rfl,hr,rfl,aD,hs⟩ _)) λ_=>hj _ _ ⟨v,l,rfl,hr,rfl,aD,hs⟩ _
   have hk:=(lC hc).1
   have l3:=n3.DP hC aD
   obtain ⟨a4,t4,n4⟩:=pZ hC true (a:=a3+1) aD l3
   have g4:=n4.le
   have Lf:Pg T a (a3+1):=pg.trans (n3.read hC aD (CJ hc dN))
   refine bn (kF hm hC n4) (bn (AT b t4 [93]) ?_)
   cases h4:kx t4 [93] with
   | true=>
    have cl:=Cl.of (t:=t4) (.inr (.inl h4))
    refine aJ (λ_=>LK.ex (v:=t4.cG+b) ?_ ?_) dC
    ·exact rZ (Iz n4) (rZ (Ù n4.self (cl.no dN)) (oX dC λ_=>sx (afF n4.self cl)))
    ·exact acn
   | false=>
    refine aJ dC λ_=>?_
    show LK _ (λi=>Nu (m i) k (next' i) (RX s T b a4 true,LE l 0 p)) _ _
    unfold Nu
    refine bn uY (aJ (λ_=>?_) dC)
    refine bn (kF hm hC n4.self) (bn (AT b t4 [93]) ?_)
    rw[h4]
    refine aJ (λ_=>?_) dC
    exact Nt hm hC s9 ihI n4 Lf h0 aD hs (λl a' pg hl hs=>hn _ _ ⟨l,a',rfl,rfl,pg,hl,hs⟩) λv y l f1 f2 f3=>hf _ _ ⟨v,l,rfl,f1,rfl,f2,f3⟩
def abp (hC:PC s T b) (hm:bN m) (s9:∀ j,j<n->XF s T b (aW j) ax) (ihI:∀ j,j<n->∀ {m:Nat->Nat} {a:Int} {k:Bool},bN m->0<=a->a<T.length->LK (eB j (H s T a b k none)) (λi=>eS (m i) (RX s T b a k)) (VX s T b k a) (WX s T b)) (nx:Nx T k a a' t) (ht:kx t [91]=true) :
  LK (iY n (H s T a b k none)) (λi=>jB (m i) (oL b t) (RX s T b a' k)) (VX s T b k a) (WX s T b):=by
 rcases n with _|n
 ·exact dc
 refine jG (F:=λi=>jB i (oL b t) (RX s T b a' k)) hm λm hm=>?_
 show LK (kY n (R n) (H s T a b k none)) (λi=>lW (m i) (ar (m i)) (oL b t) (RX s T b a' k)) _ _
 unfold kY lW Cz oz jU tG
 have hk:=(lC ht).1
 have Ff:=nx.ge
 have gR:=nx.DP hC aD
 refine rH nx (gU (Sb nx.self ht) (bn (O5 hm hC nx.self aD) (mr ?_)))
 show LK _ (λi=>aG.iter (Nu (m i) k) (m i) (RX s T b (a'+1) true,LE [] 0 (t.cG+b))) _ _
 refine ajc (V':=VL s T b k (a'+1)) (W':=WX s T b) (λj hj=>Û hm hC (s9 j aD) (λhm=>ihI j aD hm) aD gR) ?_ λ_ _ h=>h
 rintro _ _ ⟨e,a2,u,rfl,rfl,pg,hu,ho,he⟩
 obtain ⟨p1,p2⟩:=nx.pair hC (Bs (.inr (.inl ht))) pg hu (Bt (.inr (.inl ho)))
 exact bK λ_=>bZ ⟨e,a2+1,rfl,rfl,p1,p2,he⟩
end
def T9 (m:Nat) (k:Bool) (v36:ah×ak):aG (ak×ah):=ag (ca m [41] k v36.1) λy40=>.ok ((ak.mk v36.2.an v36.2.bJ v36.2.U v36.2.B v36.2.bE v36.2.bF [] [] v36.2.cG),y40)
def Ü (m:Nat) (k:Bool) (next:ah×ak->aG (ak×ah)) (w:ah×ak):aG (ak×ah):=
 ag (aY m w.1) λy57=>ag (cg y57.1 [41]) λy58=>br y58 (T9 m k (y57.2,w.2)) (ag (cF m [44] y57.2) λy61=>ag (aY m y61) λy63=>ag (cg y63.1 [41]) λy65=>br y65 (ag (bO y63.1.cG y63.2) λy67=>next (y67,w.2)) (next (y63.2,w.2)))
def Se (m:Nat) (k:Bool) (next:ah×ak->aG (ak×ah)) (Lh:ah×ak):aG (ak×ah):=
 ag (cL Lh.1) λy47=>br y47.1 (ag (aY m y47.2) λy49=>ag (cg y49.1 [41]) λy50=>br (!y50) (ag (ax m false y49.2) λy53=>gd (ob 144 Lh.2.bF.length (List.length [y53.1])) (Ü m k next (y53.2,(ak.mk Lh.2.an Lh.2.bJ Lh.2.U Lh.2.B Lh.2.bE (Lh.2.bF++[y53.1]) [] [] Lh.2.cG)))) (T9 m k (y49.2,(ak.mk Lh.2.an Lh.2.bJ Lh.2.U Lh.2.B Lh.2.bE Lh.2.bF [] [] Lh.2.cG)))) (T9 m k (y47.2,(ak.mk Lh.2.an Lh.2.bJ Lh.2.U Lh.2.B Lh.2.bE Lh.2.bF [] [] Lh.2.cG)))
section
variable {T:List aB} {m:Nat->Nat}
abbrev CE (x:ByS) (l:List ak) (p:Int):ak:=ak.mk 21 x 0 [] [] l [] [] p
def VA (s:ByS) (T:List aB) (b:Int) (k:Bool) (a:Int) (x:ByS) (p:Int) (r:List ak×D) (y:ak×ah):Prop:=∃ l a' u,r=(l,H s T a' b true none)/\y=(CE x l p,RX s T b (a'+1) k)/\Pg T a a'/\T[a'.toNat]?=some u/\kx u [41]=true/\ij (CE x l p)
def CE.sm {l:List ak} (hl:(l.length:Int)<=70000) (h:∀ x,x∈l->ij x):ij (CE x l p):=.of aD (λe=>aw e dN) h
def Li (hm:bN m) (hC:PC s T b) (nx:Nx T k a a' t) {Q:ak×ah->Prop} (h:Ev (λi=>ax (m i) c (RX s T b a k)) Q dt):Ev (λi=>ax (m i) c (RX s T b a' k)) Q dt:=by
 obtain ⟨r,h1,N,hN⟩:=h;obtain ⟨_,rfl,N1,h2⟩:=(kF (en:=0) (ea:=0) hm.pred hC nx).get;obtain ⟨_,rfl,N2,h3⟩:=(kF (en:=0) (ea:=0) hm.pred hC nx.self).get;obtain ⟨M,hM⟩:=hm 1;refine ⟨r,h1,N+N1+N2+M,λi hi=>?_⟩;have e1:=hN i aD;have e2:=h2 i aD;have e3:=h3 i aD;have:=hM i aD;obtain ⟨q,hq⟩:∃ q,m i=q+1:=⟨m i - 1,aD⟩;rw[<- e1];simp only[hq,Nat.add_sub_cancel] at e2 e3 ⊢;show dy q (ar q) c (RX s T b a' k)=dy q (ar q) c (RX s T b a k);unfold dy jg Cz oz jU;rw[e2,e3]
def LK.shift {α:Type} {x:aG α} {V:α->ak×ah->Prop} {W:sT->ak×ah->Prop} (hm:bN m) (hC:PC s T b) (nx:Nx T k a a' t) (h:LK x (λi=>ax (m i) c (RX s T b a k)) V W):LK x (λi=>ax (m i) c (RX s T b a' k)) V W:=
 ⟨λr hr=>Li hm hC nx (h.1 r hr),λr hr=>Li hm hC nx (h.2 r hr)⟩
def Ý (hm:bN m) (hC:PC s T b) (s9:XF s T b (aW n) ax) (h0:0<=a) (h1:a<T.length) :
  LK (gy n (R n) [] (H s T a b true none)) (λi=>aG.iter (Se (m i) k) (m i) (RX s T b a true,CE x [] p)) (VA s T b k a x p) (WX s T b):=by
 unfold gy YE jU
 have hlen:=hC.pJ
 have argJ_f:∀ {v:Int} {r:ah} {l:List ak},FS s T b v r->(l.length:Int)<=70000->(∀ x,x∈l->ij x)->Ev (λi=>T9 (m i) k (r,CE x l p)) (WX s T b (PF v)) dt:=λhr h1 h2=>by
  unfold T9
  exact ai (xn hm hC hr) λz hz=>aj ⟨_,rfl,hz,CE.sm h1 h2⟩
 have hj:∀ (q:sT) (z:ah×ak),(∃ v l,q=PF v/\FS s T b v z.1/\z.2=CE x l p/\(l.length:Int)<=70000/\∀ x,x∈l->ij x)->∀ next':Nat->ah×ak->aG (ak×ah),Ev (λi=>Se (m i) k (next' i) z) (WX s T b q) dt:=by
  rintro q ⟨z,_⟩ ⟨v,l,rfl,f1,rfl,f2,f3⟩ next'
  unfold Se
  exact bI (AU f1) (aH (argJ_f f1 f2 f3))
 have argM_f:∀ {v:Int} {r:ah} {l:List ak} {next':Nat->ah×ak->aG (ak×ah)},FS s T b v r->(l.length:Int)<=70000->(∀ x,x∈l->ij x)->(∀ y,FS s T b v y->Ev (λi=>next' i (y,CE x l p)) (WX s T b (PF v)) dt)->Ev (λi=>Ü (m i) k (next' i) (r,CE x l p)) (WX s T b (PF v)) dt:=λh h1 h2 hn=>by
  unfold Ü
  refine ai Gy λr hr=>ai DV λ_ _=>ay (λ_=>argJ_f hr h1 h2) λ_=>?_
  exact agG
 have fin:∀ {l:List ak} {a1 a2:Int} {t:aB} {nn:Nat},Pg T a a1->Nx T true a1 a2 t->kx t [41]=true->ij (CE x l p)->LK (ag (cz nn [41] (H s T a1 b true none)) λy40=>.ok (l,y40)) (λi=>T9 (m i) k (RX s T b a1 true,CE x l p)) (VA s T b k a x p) (WX s T b):=by
  intro l a1 a2 t nn pg nx ht he
  unfold T9
  exact ab4
 refine LK.H9 hm ?_
 obtain ⟨a1,t,nx⟩:=pZ hC true h0 h1
 have g1:=nx.le
 refine gQ nx (bn uY (aJ (λ_=>?_) dC))
 refine bn Ju (bn (AT b t [41]) (lB ?_))
 cases ht:kx t [41] with
 | true=>exact aI dC λ_=>aJ dC λ_=>fin nx.pg nx.self ht (CE.sm bm bm)
 | false=>
  refine aI (λ_=>aJ (λ_=>?_) dC) dC
  refine cq (s9 hm eZ nx.lt .no) ?_ ?_
  rotate_left
  ·rintro _ y ⟨v,rfl,f1,f2⟩
   exact dB adN (argM_f (l:=[]++[y.1]) f1 bm (by simpa using f2) λy hy=>qY hm.pred λ_=>hj _ _ ⟨v,_,rfl,hy,rfl,bm,by simpa using f2⟩ _)
  rintro _ _ ⟨e,a2,rfl,rfl,T8,z2,he⟩
  refine bK λhg=>bW hg ?_
  refine LK.rot (λv y=>∃ l a',v=(l,H s T a' b true none)/\y=(RX s T b a' true,CE x l p)/\Pg T a a'/\(l.length:Int)<=a'+1/\∀ x,x∈l->ij x) (λq z=>∃ v l,q=PF v/\FS s T b v z.1/\z.2=CE x l p/\(l.length:Int)<=70000/\∀ x,x∈l->ij x) (λi=>Ü (m i) k) hj ?_ n hm.pred _ _ ⟨[]++[e],a2,rfl,rfl,nx.pg.trans T8,by have g:=T8.le;dsimp only at g;simp;omega,Dh⟩
  rintro _ _ ⟨l,a2,rfl,rfl,pg,hl,hs⟩ next next' hn hf
  have g2:=pg.le
  have l2:=pg.lt
  obtain ⟨a3,t3,n3⟩:=pZ hC true (a:=a2) aD pg.lt
  have g3:=n3.le
  unfold Ü
  refine bn (kF hm hC n3) (bn (AT b t3 [41]) (rG n3 (λhc=>?_) λhc=>?_))
  ·have h3:kx t3 [41]=false:=by simp[kx,(lC hc).2]
   rw[h3]
   have hk:=(lC hc).1
   have l3:=n3.DP hC aD
   refine aI (λ_=>aJ dC λ_=>bn (Ns hm hC n3.self hc) ?_) dC
   obtain ⟨a4,t4,n4⟩:=pZ hC true (a:=a3+1) aD l3
   have g4:=n4.le
   have Lf:Pg T a (a3+1):=pg.trans (n3.read hC aD (CJ hc dN))
   refine bn (kF hm hC n4) (bn (AT b t4 [41]) ?_)
   cases h4:kx t4 [41] with
   | true=>
    have cl:=Cl.of (t:=t4) (.inl h4)
    refine aJ (λ_=>LK.ex (v:=t4.cG+b) (sx (Ú n4 cl)) ?_) dC
    exact acn
   | false=>
    refine aJ dC λ_=>?_
    show LK _ (λi=>Se (m i) k (next' i) (RX s T b a4 true,CE x l p)) _ _
    unfold Se
    refine bn uY (aJ (λ_=>?_) dC)
    refine bn (kF hm hC n4.self) (bn (AT b t4 [41]) ?_)
    rw[h4]
    refine aJ (λ_=>?_) dC
    refine cq (LK.shift hm hC n4 (s9 hm aD l3 .no)) ?_ ?_
    ·rintro _ _ ⟨e,a5,rfl,rfl,pg5,z5,he⟩
     have g5:=pg5.le
     exact bK λhg=>bW hg (hn _ _ ⟨l++[e],a5,rfl,rfl,Lf.trans pg5,rI,Bu hs he⟩)
    ·rintro _ y ⟨v,rfl,f1,f2⟩
     exact dB adN (argM_f (l:=l++[y.1]) f1 rI (Bu hs f2) λy hy=>hf _ _ ⟨v,_,rfl,hy,rfl,rI,Bu hs f2⟩)
  ·refine aI dC λ_=>?_
   cases h3:kx t3 [41] with
   | true=>exact aJ (λ_=>fin (pg.trans n3.pg) n3.self h3 (CE.sm (l:=l) aD hs)) λh=>by cases h
   | false=>
    refine aJ dC λ_=>bn (Ö hm hC n3.self hc) ?_
    unfold cz
    simp only[ZB]
    refine gQ n3.self (lB ?_)
    rw[h3]
    have hr:FS s T b (t3.cG+b) (RF s T b a3 true (t3.cG+b)):=n3.fs
    have e:Ev (λi=>ag (aY (m i) (RF s T b a3 true (t3.cG+b))) λy63=>ag (cg y63.1 [41]) λy65=>aG.br y65 (ag (bO y63.1.cG y63.2) λy67=>Se (m i) k (next' i) (y67,CE x l p)) (Se (m i) k (next' i) (y63.2,CE x l p))) (WX s T b (PF (t3.cG+b))) dt:=
     ai MR λr hr=>ai DV λ_ _=>ay (λ_=>bI (Ab hr) (hj _ _ ⟨_,l,rfl,hr,rfl,aD,hs⟩ _)) λ_=>hj _ _ ⟨_,l,rfl,hr,rfl,aD,hs⟩ _
    rcases O6 (n:=n) (q:=none) (s:=s) (b:=b) (f:=λy5=>aG.ok y5) n3.self with q|q
    ·simp only[r8,aG.br]
     rw[q];exact dc
    ·simp only[r8,aG.br]
     rw[q];exact sw e
end
section
variable {T:List aB} {m:Nat->Nat}
def ajd {α β:Type} {V:α->β->Prop} {W W':sT->β->Prop} {F:Nat->aG β} {V':List ak×D->β->Prop} {f:D×List ak->aG α} (h:∀ j,j+2=n->LK (gy j (R j) [] (H s T a b true none)) F V' W') (hk:∀ e z,V' e z->LK (f (H e.2.bM e.2.M e.2.bB e.2.base k e.2.Z,e.1)) (λ_=>.ok z) V W) (hw:∀ p z,W' p z->W p z) :
  LK (ag (ia n true (H s T a b k none) []) f) F V W:=by
 rcases n with _|_|j
 ·exact dc
 ·exact dc
 ·show LK (ag (ag (gy j (R j) [] (H s T a b true none)) λy4=>.ok (H y4.2.bM y4.2.M y4.2.bB y4.2.base k y4.2.Z,y4.1)) f) F V W
  simp only[ZB,zU]
  exact sQ (h j rfl) hk hw
def abq (hC:PC s T b) (hm:bN m) (s9:∀ j,j<n->XF s T b (aW j) ax) {x:ByS} {p:Int} (nx:Nx T k a a' t) (ht:kx t [40]=true) :
  LK (iX n (H s T a b k none)) (λi=>ag (eH (m i) (RX s T b a' k)) λy35=>aG.iter (Se (m i) y35.1) (m i) (y35.2,CE x [] p))
   (λr y=>∃ l a2,r=(l,H s T a2 b k none)/\y=(CE x l p,RX s T b a2 k)/\Pg T a a2/\Lz T k a2/\ij (CE x l p)) (WX s T b):=by
 rcases n with _|n
 ·exact dc
 show LK (kW n (R n) (H s T a b k none)) _ _ _
 unfold kW oz
 have hk:=(lC ht).1
 have Ff:=nx.ge
 have gR:=nx.DP hC aD
 refine gU (Sb nx ht) (bn (O5 hm hC nx.self aD) ?_)
 refine ajd (V':=VA s T b k (a'+1) x p) (W':=WX s T b) (λj hj=>Ý hm hC (s9 j aD) aD gR) ?_ λ_ _ h=>h
 rintro _ _ ⟨l,a2,u,rfl,rfl,pg,hu,ho,he⟩
 obtain ⟨p1,p2⟩:=nx.pair hC (Bs (.inl ht)) pg hu (Bt (.inl ho))
 exact bK λ_=>bZ ⟨l,a2+1,rfl,rfl,p1,p2,he⟩
def afG (nx:Nx T k a a' t) (hk:t.an=1):eN n (H s T a b k none)=.stuck\/(dT n t.bJ=.ok true/\eN n (H s T a b k none)=.ok (t.bJ,H s T (a'+1) b k none))\/(dT n t.bJ=.ok false/\eN n (H s T a b k none)=.qH (PF (t.cG+b))):=by
 unfold eN;have h1:(t.an !=1)=false:=by simp[hk]
 rcases xi (n:=n) (s:=s) (b:=b) (q:=none) nx with e|e
 ·rw[e];exact .inl rfl
 rw[e,zU];simp only[aG.jn,h1,aG.br];have hnp:=AQ (n:=n) (s:=t.bJ);cases hq:dT n t.bJ with
 | stuck=>exact .inl rfl
 | qH p=>exact aw hq (hnp p)
 | ok y=>
  simp only[zU]
  cases y with
  | true=>
   by_cases hg:cD (a'+1)
   ·exact .inr (.inl ⟨rfl,by simp[aG.gd,hg]⟩)
   ·exact .inl (by simp[aG.gd,hg])
  | false=>
   rcases O6 (n:=n) (q:=none) (s:=s) (b:=b) (f:=λy15=>aG.gd (cD (y15.bB+1)) (.ok (t.bJ,D.mk y15.bM y15.M (y15.bB+1) y15.base y15.skip y15.Z))) nx.self with q|q
   ·exact .inl q
   ·exact .inr (.inr ⟨rfl,q⟩)
end
section
variable {T:List aB} {m:Nat->Nat}
def Þ (hC:PC s T b) (hm:bN m) (s9:∀ j,j<n->XF s T b (aW j) ax) {a a':Int} {k:Bool} {t:aB} (nx:Nx T k a a' t) (hk:t.an=1) :
  LK (iu n (H s T a b k none)) (λi=>ja (m i) (oL b t) (RX s T b a' k)) (VX s T b k a) (WX s T b):=by
 rcases n with _|n
 ·exact dc
 refine jG (F:=λi=>ja i (oL b t) (RX s T b a' k)) hm λm hm=>?_
 show LK (kp n (R n) (H s T a b k none)) (λi=>lh (m i) (ar (m i)) (oL b t) (RX s T b a' k)) _ _
 unfold kp lh jg Cz oz jU tG
 have Ff:=nx.ge
 have gR:=nx.DP hC aD
 have rd:Pg T a (a'+1):=nx.read hC aD Il
 have lz:Lz T k (a'+1):=nx.lz aD
 refine gQ nx (rH nx.self (bn Qr ?_))
 have leaf:∀ {K:Int} {X:ByS} {N:Int},K≠16->LK (gd (cD (a'+1)) (.ok (ak.mk K X N [] [] [] [] [] (t.cG+b),H s T (a'+1) b k none))) (λ_=>.ok (ak.mk K X N [] [] [] [] [] (t.cG+b),RX s T b (a'+1) k)) (VX s T b k a) (WX s T b):=λhK=>bK λ_=>bZ ⟨_,a'+1,rfl,rfl,rd,lz,.leaf hK⟩
 refine fP (dx rfl (λe=>leaf (K:=1) dN) λe0=>?_)
 refine fP (dx rfl (λe=>?_) λe1=>?_)
 ·exact aI (λ_=>aI (λ_=>leaf (K:=2) dN) λe'=>aw (e.symm.trans e') dN) λe'=>aw (e.symm.trans e') dN
 ·refine dx rfl (λe=>aI (λe'=>aw (e'.symm.trans e1) dN) λ_=>leaf (K:=2) dN) λe2=>?_
  refine fP (mr ?_)
  refine dx rfl Zt λ_=>?_
  refine dx rfl Zt λ_=>?_
  refine dx rfl Zt λ_=>?_
  refine dx rfl (λe=>leaf (K:=8) dN) λ_=>?_
  rcases afG (n:=n) (s:=s) (b:=b) nx.self hk with q|⟨q1,q2⟩|⟨q1,q2⟩
  ·rw[q];exact dc
  ·rw[q2]
   refine bn (He hm hk q1) (aJ dC λ_=>?_)
   obtain ⟨a2,u,n2⟩:=pZ hC k (a:=a'+1) aD gR
   have g2:=n2.le
   refine bn (kF hm hC n2) (bn (AT b u [40]) (gQ (s:=s) (b:=b) (q:=none) n2 (lB ?_)))
   cases hu:kx u [40] with
   | false=>exact aI dC λ_=>aJ (λ_=>bZ ⟨_,a2,rfl,rfl,rd.trans n2.pg,n2.lzs lz,.leaf dN⟩) λh=>by cases h
   | true=>
    refine aI (λ_=>aJ dC λ_=>?_) dC
    refine sQ (abq (x:=t.bJ) (p:=t.cG+b) hC hm (λj hj=>s9 j aD) n2.self hu) ?_ λ_ _ h=>h
    rintro _ _ ⟨l,a3,rfl,rfl,Ia,z3,he⟩
    exact bZ ⟨_,a3,rfl,rfl,(rd.trans n2.pg).trans Ia,z3,he⟩
  ·rw[q2]
   exact sw (ai (He hm hk q1) λ_ e=>by subst e;exact ba (aj ⟨_,rfl,⟨a'+1,k,rfl,by omega,gR⟩,.leaf dN⟩))
end
section
variable {T:List aB}
def Ua (hC:PC s T b) (s9:∀ j,j<n->XF s T b (aW j) ax)
  (ihI:∀ j,j<n->∀ {m:Nat->Nat} {a:Int} {k:Bool},bN m->0<=a->a<T.length->LK (eB j (H s T a b k none)) (λi=>eS (m i) (RX s T b a k)) (VX s T b k a) (WX s T b))
  (hNum:∀ {m:Nat->Nat} {a:Int} {t:aB},bN m->T[a.toNat]?=some t->t.an=2->LK (mK n t.bJ) (λi=>nM (m i) t.bJ) (λy z=>z.1=y.1) (λ_ _=>False))
  (hIn:∀ {m:Nat->Nat} {a a':Int} {k:Bool} {t:aB},bN m->Nx T k a a' t->t.an=4->LK (ag (fo n t (t.cG+b) (H s T a' b k none)) λy=>gd (cD (y.2.bB+1)) (.ok (y.1,H y.2.bM y.2.M (y.2.bB+1) y.2.base y.2.skip y.2.Z))) (λi=>ag (fK (m i) (oL b t) (RX s T b a' k)) λy=>.ok (y.1,y.2)) (VX s T b k a) (WX s T b))
  (hB:∀ {m:Nat->Nat} {a a':Int} {k c:Bool} {t:aB},bN m->Nx T k a a' t->kx t [123]=true->LK (ag (fN n c (H s T a' b k none)) λy=>.ok (y.1,y.2)) (λi=>aG.jn (λ(v53:ak)=>ag (dq (m i) c (RX s T b a' k)) λy57=>.ok ((ak.mk v53.an v53.bJ v53.U v53.B v53.bE [] y57.1 y57.2.1 v53.cG),y57.2.2)) λj54=>aG.br c (j54 ((ak.mk 13 [] 0 [] [] [] [] [] (t.cG+b)))) (j54 ((ak.mk 22 [] 0 [] [] [] [] [] (t.cG+b))))) (VX s T b k a) (WX s T b)) :
  XF s T b (eU (n+1)) dM:=by
 intro m c k a q x hm h0 h1 hI
 rcases hI with ⟨rfl,rfl⟩|⟨e,a0,t0,rfl,he,hk,hz,g0,g1,rfl,ht,ho,hP⟩
 rotate_left
 ·refine ⟨λr hr=>(hP hm).oB λy hy=>?_,λr hr=>by cases hr⟩
  subst hy
  cases hr
  exact ⟨e,a,rfl,rfl,.refl h1,hz,he⟩
 refine jG (F:=λi=>dM i c (RX s T b a k)) hm λm hm=>?_
 show LK (fU n (R n) c (H s T a b k none)) (λi=>fh (m i) (ar (m i)) c (RX s T b a k)) _ _
 unfold fU fh jg tG
 obtain ⟨a',t,nx⟩:=pZ hC k h0 h1
 have Ff:=nx.ge
 refine aI dC λ_=>gQ nx (rH nx.self (bn (kF hm hC nx) (fP ?_)))
 have back:∀ {y:ak×ah} {p:sT},WX s T b p y->WX s T b p (y.1,y.2):=λh=>h
 have re:∀ {x:aG (ak×D)} {F:Nat->aG (ak×ah)},LK x F (VX s T b k a') (WX s T b)->LK (ag x λy=>.ok (y.1,y.2)) (λi=>ag (F i) λy=>.ok (y.1,y.2)) (VX s T b k a) (WX s T b):=λh=>cq h (by
   rintro _ _ ⟨e,a2,rfl,rfl,pg,h⟩
   exact bZ ⟨e,a2,rfl,rfl,nx.pg.trans pg,h⟩) λp y h=>aj h
 have lf:∀ {K:Int} {X:ByS} {N:Int},t.an≠0->t.an≠7->dl t=0->K≠16->LK (gd (cD (a'+1)) (.ok (ak.mk K X N [] [] [] [] [] (t.cG+b),H s T (a'+1) b k none))) (λi=>ag (bu (m i) (RX s T b a' k)) λy=>.ok (ak.mk K X N [] [] [] [] [] (t.cG+b),y.2)) (VX s T b k a) (WX s T b):=λk0 k7 hd hK=>bK λ_=>bn (qK hm hC nx.self k0) (bZ ⟨_,a'+1,rfl,rfl,nx.read hC k0 hd,nx.lz k7,.leaf hK⟩)
 refine dx rfl (λe=>?_) λ_=>dx rfl (λe=>?_) λ_=>dx rfl (λe=>?_) λ_=>dx rfl (λe=>?_) λ_=>?_
 ·exact re (Þ hC hm (λj hj=>s9 j hj) nx.self (by simpa using e))
 ·have hk:t.an=2:=by simpa using e
  refine bn (qK hm hC nx.self aD) (cq (hNum hm nx.tk hk) (λy z hz=>?_) λ_ _ h=>h.elim)
  rw[hz]
  exact bK λ_=>bZ ⟨_,a'+1,rfl,rfl,nx.read hC aD (Hu aD),nx.lz aD,.leaf dN⟩
 ·have hk:t.an=3:=by simpa using e
  exact lf (K:=4) (X:=t.bJ) (N:=0) aD aD (Hu aD) dN
 ·exact hIn hm nx (by simpa using e)
 refine lB (bn (AT b t [95]) (dx rfl (λe=>have e:kx t [95]=true:=e;lf (K:=6) (X:=[]) (N:=0) UN UN (CJ e dN) dN) λ_=>?_))
 refine lB (bn (AT b t [95,124,95]) (dx rfl (λe=>have e:kx t [95,124,95]=true:=e;lf (K:=7) (X:=[]) (N:=0) UN UN (CJ e dN) dN) λ_=>?_))
 refine lB (bn (AT b t [40]) (dx rfl (λe=>?_) λ_=>?_))
 ·refine sQ (Yb hm hC s9 nx.self e) ?_ λ_ _ h=>h
  rintro _ _ ⟨e,a2,rfl,rfl,pg,h⟩
  exact bZ ⟨e,a2,rfl,rfl,nx.pg.trans pg,h⟩
 refine lB (bn (AT b t [123]) (dx rfl (λe=>hB hm nx e) λ_=>?_))
 refine lB (bn (AT b t [91]) (dx rfl (λe=>re (abp hC hm s9 ihI nx.self e)) λ_=>?_))
 exact nI nx.self (aj ⟨_,rfl,nx.fs,.leaf dN⟩)
end
structure Dn (s:ByS) (T:List aB) (b v a:Int) (k c:Bool) (t:aB):Prop where
 nx:Nx T k a a t
 s1:AY t [[45],[33]]=false
 s2:AY t Lc=false
 s3:kx t [42]=false
 p:∀ {m:Nat->Nat},bN m->Ev (λi=>dM (m i) c (RX s T b a k)) (λr=>FS s T b v r.2/\ij r.1) dt
section
variable {T:List aB} {m:Nat->Nat}
def Ye (hm:bN m) (h:Dn s T b v a k c t):Ev (λi=>eT (m i) c (RX s T b a k)) (λr=>FS s T b v r.2/\ij r.1) dt:=by
 refine bV (F:=λi=>eT i c (RX s T b a k)) hm λm hm=>?_;show Ev (λi=>gD (m i) (ar (m i)) c (RX s T b a k)) _ _;unfold gD;exact ai (h.p hm) λr hr=>qY hm λ_=>bI (AU hr.1) (aH (aj hr))
def abr (hm:bN m) (hC:PC s T b) (h:Dn s T b v a k c t):Ev (λi=>dD (m i) c (RX s T b a k)) (λr=>FS s T b v r.2/\ij r.1) dt:=by
 refine bV (F:=λi=>dD i c (RX s T b a k)) hm λm hm=>?_;show Ev (λi=>fO (m i) (ar (m i)) c (RX s T b a k)) _ _;unfold fO uD;refine ai (kF hm hC h.nx) ?_;rintro _ rfl;refine bI (a:=(true,RX s T b a k)) rfl (aH (cW (ai Fy ?_)));rintro _ rfl;rw[h.s1];refine aH (cW (ai Fy ?_));rintro _ rfl;rw[show AY t [[60],[60,61],[62],[62,61],[33,61],[61,126],[33,126]]=false from h.s2];exact aH (ba (ai (Ye hm h) λr hr=>aj hr))
def ß (hm:bN m) (hC:PC s T b) (h:Dn s T b v a k c t) {l:Int} (h0:0<=l) (hl:l<=5):Ev (λi=>cH (m i) l c (RX s T b a k)) (λr=>FS s T b v r.2/\ij r.1) dt:=by
 obtain ⟨d,hd⟩:∃ d:Nat,(5 - l).toNat=d:=⟨_,rfl⟩
 induction d generalizing l m with
 | zero=>
  have:l=5:=by omega
  subst this
  refine bV (F:=λi=>cH i 5 c (RX s T b a k)) hm λm hm=>?_
  show Ev (λi=>eE (m i) (ar (m i)) 5 c (RX s T b a k)) _ _
  unfold eE uD
  exact ba (ai (abr hm hC h) λr hr=>aj hr)
 | succ d ih=>
  refine bV (F:=λi=>cH i l c (RX s T b a k)) hm λm hm=>?_
  show Ev (λi=>eE (m i) (ar (m i)) l c (RX s T b a k)) _ _
  exact ahB
def Mw (hm:bN m) (hC:PC s T b) (h:Dn s T b v a k c t):Ev (λi=>cU (m i) c (RX s T b a k)) (λr=>FS s T b v r.2/\ij r.1) dt:=by
 refine bV (F:=λi=>cU i c (RX s T b a k)) hm λm hm=>?_;show Ev (λi=>eD (m i) (ar (m i)) c (RX s T b a k)) _ _;unfold eD uD;exact ai (ß hm hC h dN dN) λr hr=>qY hm λ_=>bI (AU hr.1) (aH (aj hr))
def FW (hm:bN m) (hC:PC s T b) (h:Dn s T b v a k c t):Ev (λi=>cJ (m i) c (RX s T b a k)) (λr=>FS s T b v r.2/\ij r.1) dt:=by
 refine bV (F:=λi=>cJ i c (RX s T b a k)) hm λm hm=>?_;show Ev (λi=>eC (m i) (ar (m i)) c (RX s T b a k)) _ _;unfold eC uD;refine ai (kF hm hC h.nx) ?_;rintro _ rfl;refine ai (AT b t [42]) ?_;rintro _ rfl;rw[h.s3];exact ba (ai (Mw hm hC h) λz hz=>aj hz)
def Hg (hm:bN m) (hC:PC s T b) (h:Dn s T b v a k c t):Ev (λi=>ax (m i) c (RX s T b a k)) (λr=>FS s T b v r.2/\ij r.1) dt:=by
 refine bV (F:=λi=>ax i c (RX s T b a k)) hm λm hm=>?_;show Ev (λi=>dy (m i) (ar (m i)) c (RX s T b a k)) _ _;unfold dy jg Cz oz jU;refine ai (kF hm hC h.nx) ?_;rintro _ rfl;refine ai (AT b t [42]) ?_;rintro _ rfl;rw[h.s3];refine bD (λw=>FS s T b v w.1/\ij w.2) (λw hw=>?_) λj hj=>?_
 ·exact ahg
 cases c with
 | true=>exact ba (ai (FW hm hC h) λz hz=>hj _ hz)
 | false=>exact aH (ai (FW hm hC h) λz hz=>hj _ hz)
def Ed (t:aB):Prop:=t.an=0\/kx t [125]=true
def Ed.no (h:Ed t) {x:ByS} (hx:x≠[125]):kx t x=false:=by
 rcases h with h|h
 ·simp[kx,h]
 obtain ⟨h1,h2⟩:=lC h;simp[kx,h1,h2,Ne.symm hx]
def Ed.am (h:Ed t) {l:List ByS} (hl:[125] ∉ l):AY t l=false:=by
 rcases h with h|h
 ·simp[AY,h]
 obtain ⟨h1,h2⟩:=lC h;simp[AY,h1,h2,hl]
def Ed.ki (h:Ed t):t.an=0\/t.an=5:=by
 rcases h with h|h
 ·exact .inl h
 exact .inr (lC h).1
def Ed.dn (hC:PC s T b) (h:Ed t) (nx:Nx T k a a t):Dn s T b (t.cG+b) a k c t:=by
 refine ⟨nx,h.am dN,h.am dN,h.no dN,λ{m} hm=>?_⟩;refine bV (F:=λi=>dM i c (RX s T b a k)) hm λm hm=>?_;show Ev (λi=>fh (m i) (ar (m i)) c (RX s T b a k)) _ _;unfold fh;refine ai Ju ?_;rintro _ rfl;have hk:=h.ki;have kn:∀ x:Int,x≠0->x≠5->((oL b t).an==x)=false:=λx h0 h5=>by simp[oL];omega
 dsimp only;rw[kn 1 dN dN,kn 2 dN dN,kn 3 dN dN,kn 4 dN dN];have st:∀ {x:ByS} {F G:Nat->aG (ak×ah)} {Q:ak×ah->Prop},x≠[125]->Ev G Q dt->Ev (λi=>ag (cg (oL b t) x) λy=>aG.br y (F i) (G i)) Q dt:=λhx hG=>ai (AT b t _) λy hy=>by
  rw[h.no hx] at hy;subst hy;exact aH hG
 refine aH (aH (aH (aH (st dN (st dN (st dN (st dN (st dN ?_))))))));exact bI (a:=RF s T b a k (t.cG+b)) rfl (aj ⟨nx.fs,.leaf dN⟩)
end
section
def EH (s:ByS) (i j:Int):Bool:=(sub s i j).contains 10
variable {i:Int} {u:aB}
def ue (h0:0<=i):EH s i j=true↔∃ p:Nat,i<=p/\(p:Int)<j/\s[p]?=some 10:=by
 unfold EH sub;rw[List.contains_iff_mem,oR];constructor
 ·rintro ⟨p,hp⟩;rw[gG] at hp;split at hp
  ·rw[dz] at hp;exact ⟨_,by omega,by omega,hp⟩
  cases hp
 rintro ⟨p,h1,h2,h3⟩;refine ⟨p - i.toNat,?_⟩;rw[gG,aL aD,dz,show i.toNat+(p - i.toNat)=p by omega];exact h3
def E3 {i' j':Int} (h0:0<=i) (h1:i<=i') (h2:j'<=j) (h:EH s i' j'=true):EH s i j=true:=by
 obtain ⟨p,q1,q2,q3⟩:=(ue aD).1 h;exact (ue h0).2 ⟨p,by omega,by omega,q3⟩
def Ub:∀ {l:ByS} {c:UInt8},(vM l [c]).isSome=l.contains c
 | [],c=>by simp[vM]
 | b::l,c=>by
  have ih:=@Ub l c;unfold vM;by_cases h:c=b
  ·subst h;simp[List.isPrefixOf]
  have h':(([c]:ByS).isPrefixOf (b::l))=false:=by simp[List.isPrefixOf,h]
  rw[h'];have e:(b::l).contains c=l.contains c:=by
   rw[cV];simp[h]
  rw[e,<- ih];cases vM l [c]<;>rfl
def Sf (x:ByS):Prop:=EG x=x.length/\∃ c w,x=c::w/\xF c=true
structure Lx (s:ByS) (T:List aB):Prop where
 l7:∀ (i:Nat) t,T[i]?=some t->t.an=7->EH s t.cG t.oZ=true
 c6:∀ (i j:Nat) t u,i<j->T[i]?=some t->T[j]?=some u->t.an=6->u.an≠7->u.an≠0->EH s t.oZ u.cG=true
 br:∀ (i:Nat) t u,T[i]?=some t->T[i+1]?=some u->u.an=7->kx t [91]=false/\kx t [61,126]=false
 it:∀ t,t∈T->t.an=4->∀ {m:Nat->Nat},bN m->Ev (λi=>jh (m i) t.bJ) (λz=>z.2.dX=0) dt
 nm:∀ t,t∈T->t.an=2->Sf t.bJ
def EI (s:ByS) (T:List aB) (a:Int) (t:aB):Bool:=decide (a=0)||match T[(a - 1).toNat]? with|some u=>u.an==7||EH s u.oZ t.cG|none=>true
section
variable {T:List aB} {m:Nat->Nat} {q:Option ak}
def PC.ord (hC:PC s T b) {i j:Nat} (h:i<j) {t:aB} (ht:T[i]?=some t) (hu:T[j]?=some u):0<=t.cG/\t.cG<=t.oZ/\t.oZ<=u.cG/\u.cG<=s.length:=by
 have h1:=hC.tok ht;have h2:=hC.tok hu;have h3:=hC.sorted h ht hu;omega
def à (hC:PC s T b):strings_Contains (sub s i j) [10]=.ok (EH s i j):=by
 unfold strings_Contains aG.gd;have h1:=hC.bs;have h2:=hC.b0;have h3:(sub s i j).length<=s.length:=by simp[sub];omega
 rw[aL aD,Ub];rfl
def Uc (hm:bN m) (hC:PC s T b) (h0:0<=i) (hij:i<=j) (hj:j<=s.length):Ev (λx=>kC (m x) (i+b) (j+b) (X7 s b (T.map (oL b)) a k en ea)) (λr=>r=(EH s i j,X7 s b (T.map (oL b)) a k en ea)) dt:=by
 unfold kC jg;have h1:=hC.bs;have h2:=hC.b0;refine bR hm (λ(v:Int)=>i+b<=v/\v<=j+b/\∀ p:Nat,i<=p->(p:Int)<v - b->s[p]?≠some 10) (λv=>(j+b - v).toNat) ⟨aD,aD,λp _ _=>by omega⟩ ?_;rintro v ⟨q0,q1,q2⟩ next hn;refine aS (λh=>aF (gL eZ eZ λc hc=>?_)) λh=>aj ?_
 ·rw[mz 10 10 rfl];refine ay (λyM=>aj ?_) λyM=>aF (hn _ ⟨aD,aD,λp hp TD=>?_⟩ aD)
  ·rw[cn] at yM;subst yM;rw[show EH s i j=true from (ue h0).2 ⟨_,eZ,eZ,hc⟩]
  by_cases e:(p:Int)=v - b
  ·have hc':s[p]?=some c:=by rw[<- hc];congr 1;dsimp only;omega
   rw[hc'];intro w;cases w;simp at yM
  exact q2 p hp aD
 have:EH s i j=false:=by
  rw[lN];intro w;obtain ⟨p,p1,p2,p3⟩:=(ue h0).1 w;exact q2 p p1 aD p3
 rw[this]
def á (ht:T[a.toNat]?=some t) (h0:0<=a):Tk (kS n (H s T a b false q)) (t.an==0||kx t [125],H s T a b false q):=by
 have nx:Nx T false a a t:=acp;unfold kS;rcases xi (n:=n) (s:=s) (b:=b) (q:=q) nx with e|e
 ·rw[e];exact .inl rfl
 rw[e,zU];dsimp only;refine cA (λh=>iw ?_) λh=>?_
 ·rw[h];rfl
 rw[e,zU];dsimp only;rw[Gk,zU,h];exact kJ
def WA (hC:PC s T b) (hL:Lx s T) (h0:0<=a) (ht:T[a.toNat]?=some t):Tk (im n (H s T a b k q)) (EI s T a t,H s T a b k q):=by
 unfold im jg;refine dY λ_=>oW (λ(v:Int)=>v<=a - 1/\ -1<=v/\(v<a - 1->∃ u,T[(a - 1).toNat]?=some u/\u.an=7)) (λv hv next hn=>?_) n ⟨eZ,eZ,λh=>by dsimp only at h;omega⟩;obtain ⟨h1,h2,h3⟩:=hv;have own7:(∃ u,T[(a - 1).toNat]?=some u/\u.an=7)->EI s T a t=true:=by
  rintro ⟨u,q1,q2⟩;unfold EI;rw[q1];simp[q2]
 refine cA (λh=>kD λx _ hx=>cA (λhk=>kD λx' _ tn=>kD λt' _ P7=>dY λ_=>?_) λhk=>dY λ_=>hn _ ⟨aD,?_,λgR=>?_⟩) λh=>iw ?_
 ·rw[hx] at tn;cases tn;have P7:T[a.toNat]?=some t':=P7;rw[ht] at P7;cases P7;have Ff:=bg h;have Ff:v>=0:=Ff;dsimp only at hx;rw[à hC,zU];refine iw ?_;congr 1;by_cases e:v=a - 1
  ·subst e;unfold EI;rw[hx];have ha:decide (a=0)=false:=by simp;omega
   have FC:(x.an==7)=false:=by simpa[bne] using hk
   simp[ha,FC]
  obtain ⟨u,q1,q2⟩:=h3 aD;rw[own7 ⟨u,q1,q2⟩];have o1:=hC.ord (i:=v.toNat) (j:=(a - 1).toNat) aD hx q1;have o2:=hC.ord (i:=(a - 1).toNat) (j:=a.toNat) aD q1 ht;exact E3 aD aD aD (hL.l7 _ _ q1 q2)
 ·have Ff:v>=0:=bg h;omega
 ·by_cases e:v=a - 1
  ·subst e;exact ⟨x,hx,by simpa[bne] using hk⟩
  exact h3 aD
 have gR:¬ v>=0:=aU h;by_cases e:v=a - 1
 ·have:a=0:=by omega
  unfold EI;simp[this]
 rw[own7 (h3 aD)]
def aje (hm:bN m) (hC:PC s T b) (h0:0<=a) (ht:T[a.toNat]?=some t):Ev (λi=>mY (m i) (X7 s b (T.map (oL b)) a k en ea)) (λr=>r=(EI s T a t,X7 s b (T.map (oL b)) a k en ea)) dt:=by
 unfold mY jg;have hl:=hC.pJ;have gR:=(ao.1 ht).1;refine cd (λh=>aj ?_) λh=>aF ?_
 ·have h:a=0:=h;unfold EI;simp[h]
 have h:a≠0:=h;obtain ⟨u,hu⟩:∃ u,T[(a - 1).toNat]?=some u:=⟨_,aA aD⟩;have hu':(T.map (oL b))[(a - 1).toNat]?=some (oL b u):=by rw[eX,hu];rfl
 have P7:(T.map (oL b))[a.toNat]?=some (oL b t):=by rw[eX,ht];rfl
 have o:=hC.ord (i:=(a - 1).toNat) (j:=a.toNat) aD hu ht;have ow:EI s T a t=(u.an==7||EH s u.oZ t.cG):=by unfold EI;rw[hu,bA h];rfl
 refine cR eZ hu' (ay (λh7=>aj ?_) λh7=>aF (cR eZ hu' (cR eZ P7 (ai (Uc hm hC aD o.2.2.1 o.2.2.2) ?_))))
 ·have h7:(u.an==7)=true:=h7;rw[ow,h7];rfl
 have h7:(u.an==7)=false:=h7;rintro _ rfl;rw[ow,h7];exact aj rfl
def Mid (T:List aB) (e a:Int):Prop:=∀ (j:Nat) w,e<=j->(j:Int)<a->T[j]?=some w->kx w [44]=true\/w.an=7\/w.an=6
def Zu (hC:PC s T b) (hL:Lx s T) (ht:T[a.toNat]?=some t) (hk:t.an=6) (h1:1<=e) (h2:e<=a) (hu:T[(e - 1).toNat]?=some u) (hM:Mid T e a) :
  Tk (iH n e (H s T a b k q)) (!EH s u.oZ t.cG,H s T a b k q):=by
 unfold iH jg
 refine oW (λ(v:Int)=>e<=v/\v<=a) (λv hv next hn=>?_) n ⟨eL _,h2⟩
 refine cA (λh=>kD λx _ hx=>nG (Gk x [44]) (cA (λhc=>iw ?_) λhc=>dY λ_=>hn _ ⟨aD,?_⟩)) λh=>dY λ_=>kD λx _ hx=>kD λy _ hy=>dY λ_=>?_
 ·have gR:v<a:=bg h
  have hx:T[v.toNat]?=some x:=hx
  have o1:=hC.ord (i:=(e - 1).toNat) (j:=v.toNat) aD hu hx
  have o2:=hC.ord (i:=v.toNat) (j:=a.toNat) aD hx ht
  have:EH s u.oZ t.cG=true:=by
   rcases hM v.toNat x aD aD hx with w|w|w
   ·rw[w] at hc;cases hc
   ·exact E3 aD aD aD (hL.l7 _ _ hx w)
   ·exact E3 aD aD aD (hL.c6 _ _ _ _ aD hx ht w aD aD)
  rw[this];rfl
 ·have gR:v<a:=bg h
  omega
 ·have hx:T[(e - 1).toNat]?=some x:=hx
  have hy:T[a.toNat]?=some y:=hy
  rw[hu] at hx;cases hx
  rw[ht] at hy;cases hy
  dsimp only
  rw[à hC,zU]
  exact kJ
def adV (hC:PC s T b) (hL:Lx s T) (ht:T[a.toNat]?=some t) (h1:1<=e) (h2:e<=a) (hu:T[(e - 1).toNat]?=some u) (hk:u.an≠7) (h:EI s T a t=true):EH s u.oZ t.cG=true:=by
 have gR:=(ao.1 ht).1;obtain ⟨w,hw⟩:∃ w,T[(a - 1).toNat]?=some w:=⟨_,aA aD⟩;have ow:EI s T a t=(w.an==7||EH s w.oZ t.cG):=by
  unfold EI;have:a≠0:=by omega
  rw[hw,bA this];rfl
 rw[ow] at h;have o2:=hC.ord (i:=(a - 1).toNat) (j:=a.toNat) aD hw ht;by_cases e1:e=a
 ·subst e1;rw[hu] at hw;cases hw;simpa[hk] using h
 have o1:=hC.ord (i:=(e - 1).toNat) (j:=(a - 1).toNat) aD hu hw;simp at h;rcases h with h|h
 ·exact E3 aD aD aD (hL.l7 _ _ hw h)
 exact E3 aD aD aD h
end
end
def VC (s:ByS) (T:List aB) (b a:Int) (r:aK×D) (y:aK×ah):Prop:=∃ d a',r=(d,H s T a' b false none)/\y=(d,RX s T b a' false)/\Pg T a a'/\Lz T false a'/\g d
def WC (s:ByS) (T:List aB) (b:Int) (p:sT) (y:aK×ah):Prop:=∃ v,p=PF v/\FS s T b v y.2
def Mt (E:ByS) (t:aB):Bool:=if E=[] then t.an==0 else kx t E
def VD2 (s:ByS) (T:List aB) (b a:Int) (E:ByS) (r:List aK×List ByS×D) (y:List aK×List ByS×ah):Prop:=
 ∃ l tl a' t,r=(l,tl,H s T a' b false none)/\Pg T a a'/\T[a'.toNat]?=some t/\(l.length:Int)<=70000/\(∀ d,d∈l->g d)/\(tl.length:Int)<=70000/\(∀ x,x∈tl->x.length<=65536)/\
  ((Mt E t=true/\y=(l,tl,RX s T b a' false))\/(Mt E t=false/\y.1=[]/\y.2.1=[]/\FS s T b (t.cG+b) y.2.2))
def â (s:ByS) (T:List aB) (b:Int) (p:sT) (y:List aK×List ByS×ah):Prop:=∃ v,p=PF v/\y.1=[]/\y.2.1=[]/\FS s T b v y.2.2
section
variable {T:List aB} {m:Nat->Nat}
def EJ (h0:0<=a) (ht:T[a.toNat]?=some t):Nx T false a a t:=acp
inductive Le (T:List aB) (b:Int):List aK->Bool->Int->Int->Int->Prop
 | no {sep:Bool} {a l:Int}:Le T b [] sep (-1) a l
 | dec {out:List aK} {sep:Bool} {e a:Int} {u:aB} (ho:out≠[]) (h1:1<=e) (h2:e<=a) (hu:T[(e - 1).toNat]?=some u) (hk:u.an≠7) (hM:Mid T e a):Le T b out sep e a (u.oZ+b)
 | dead {out:List aK} {e a l:Int} {t:aB} (ht:T[a.toNat]?=some t) (hk:t.an≠6/\t.an≠7) (hc:kx t [44]=false):Le T b out false e a l
def Le.set {out:List aK} {sep:Bool} {l:Int} {i:Nat} {d:aK} (h:Le T b out sep e a l):Le T b (out.set i d) sep e a l:=by
 cases h with
 | no=>exact .no
 | dec ho q1 q2 hu hk hM=>exact .dec (by simpa using ho) q1 q2 hu hk hM
 | dead ht hk hc=>exact .dead ht hk hc
def Mid.up (h:Mid T e a) (h0:0<=a) (ht:T[a.toNat]?=some t) (hk:kx t [44]=true\/t.an=7\/t.an=6):Mid T e (a+1):=λj w h1 h2 hw=>by
 by_cases q:(j:Int)<a
 ·exact h j w h1 q hw
 rw[show j=a.toNat by omega,ht] at hw;cases hw;exact hk
def Sk {α:Type} (x y:aG α):Prop:=x=.stuck\/x=y
section
variable {X:Type} {x:aG β} {c:β} {y z w:aG α}
def Sk.tk {f:β->aG α} (h:Tk x c) (hf:Sk (f c) y):Sk (ag x f) y:=by
 rcases h with rfl|rfl
 ·exact .inl rfl
 exact hf
def Sk.bt {b:Bool} (h:b=true) (hz:Sk z y):Sk (aG.br b z w) y:=by subst h;exact hz
def Sk.bf {b:Bool} (h:b=false) (hw:Sk w y):Sk (aG.br b z w) y:=by subst h;exact hw
def Sk.gd {p:Prop} [Decidable p] (h:Sk z y):Sk (aG.gd p z) y:=by
 unfold aG.gd;split
 ·exact h
 exact .inl rfl
end
variable {E:ByS}
def ã (hC:PC s T b) (hL:Lx s T) (hE:E=[]\/E=[125]) (hD:∀ {m:Nat->Nat} {a:Int} {t:aB},bN m->0<=a->T[a.toNat]?=some t->t.an≠0->t.an≠6->t.an≠7->kx t [44]=false->kx t [125]=false->LK (fe n c (H s T a b false none)) (λi=>cE (m i) c (RX s T b a false)) (VC s T b a) (WC s T b)) (hX:∀ {m:Nat->Nat} {a:Int} {t:aB},bN m->0<=a->T[a.toNat]?=some t->Ed t->Ev (λi=>cE (m i) c (RX s T b a false)) (λr=>FS s T b (t.cG+b) r.2) dt) :
  ∃ body:(D×List ByS×List aK×Int×Bool->aG (List aK×List ByS×D))->D×List ByS×List aK×Int×Bool->aG (List aK×List ByS×D),
   (∀ lead p,iv n lead c p=aG.iter body n (p,lead,[],-1,true))/\
   (∀ {a:Int} {t:aB} {lead:List ByS} {next},0<=a->T[a.toNat]?=some t->t.an=6->EI s T a t=true->Sk (body next (H s T a b false none,lead,[],-1,true)) (next (H s T (a+1) b false none,lead++[t.bJ],[],-1,true)))/\
   ∀ (n2:Nat) {m:Nat->Nat} {a0:Int} {lead:List ByS},bN m->0<=a0->a0<T.length->(lead.length:Int)<=a0+1->(∀ x,x∈lead->x.length<=65536)->
    LK (aG.iter body n2 (H s T a0 b false none,lead,[],-1,true)) (λi=>lL (m i) c lead E (RX s T b a0 false)) (VD2 s T b a0 E) (â s T b):=by
 refine ⟨_,λlead p=>by unfold iv oz jU tG;rfl,?_,?_⟩
 ·intro a t lead next h0 ht h6 how
  have nx:=EJ h0 ht
  have h7:(t.an==7)=false:=by simp[h6]
  have Xc:(t.an==6)=true:=by simpa using h6
  have he:(t.an==0||kx t [125])=false:=by simp[h6,kx]
  refine Sk.tk (á ht h0) (Sk.bt Qp (Sk.tk (xi nx) ?_))
  refine Sk.bf h7 (Sk.tk (.inr (Gk t [44])) ?_)
  refine Sk.bf (by simp[kx,h6]) (Sk.bt Xc (Sk.bf (bA (show ¬ ((-1:Int)>0) by decide)) (Sk.bf rfl (Sk.bt Xc (Sk.tk (WA hC hL h0 ht) ?_)))))
  exact Sk.bt how (Sk.gd (Sk.gd (.inr rfl)))
 intro n2 m a0 lead hm h0 h1 S8 IQ
 unfold lL Cz oz jU tG
 have hlen:=hC.pJ
 have hj:∀ (p:sT) (w:ah×List ByS×List aK×Bool×Int),(∃ v,p=PF v/\FS s T b v w.1)->∀ {F:Nat->Bool×ah->aG (List aK×List ByS×ah)},Ev (λi=>ag (cL w.1) λy=>aG.br y.1 (F i y) (.ok ([],[],y.2))) (â s T b p) dt:=by
  rintro p w ⟨v,rfl,h⟩ F
  exact bI (AU h) (aH (aj ⟨v,rfl,rfl,rfl,h⟩))
 refine vq (λv w=>∃ lead out e sep a last,v=(H s T a b false none,lead,out,e,sep)/\w=(RX s T b a false,lead,out,sep,last)/\Pg T a0 a/\(lead.length:Int)<=a+1/\(∀ x,x∈lead->x.length<=65536)/\(out.length:Int)<=a+(if sep then 0 else 1)/\(∀ d,d∈out->g d)/\Le T b out sep e a last)
  (λp w=>∃ v,p=PF v/\FS s T b v w.1) (λp w h _=>hj p w h) ?_ n2 hm _ _ ⟨lead,[],-1,true,a0,0,rfl,rfl,.refl h1,S8,IQ,rI,bm,.no⟩
 rintro _ _ ⟨lead,out,e,sep,a,last,rfl,rfl,pg,i1,i2,i3,i4,i5⟩ next next' hn hf
 have g0:=pg.le
 have g1:=pg.lt
 have ho3:(out.length:Int)<=70000:=by cases sep<;>simp at i3<;>omega
 obtain ⟨t,ht⟩:∃ t,T[a.toNat]?=some t:=⟨_,aA aD⟩
 have nx:=EJ aD ht
 have ff:∀ {v:Int} {F:Nat->aG (List aK×List ByS×ah)},Ev F (â s T b (PF v)) dt->Ev F (λy=>y.1=[]/\y.2.1=[]/\FS s T b v y.2.2) dt:=λh=>h.oB λy hy=>by
  obtain ⟨w,hw,hy⟩:=hy
  cases hw;exact hy
 refine bn uY (aJ (λ_=>?_) dC)
 refine gU (á ht aD) (bn Ju (mr ?_))
 dsimp only
 cases he:(t.an==0||kx t [125]) with
 | true=>
  have hEd:Ed t:=by
   simp at he
   exact he
  have h7:t.an≠7:=by have:=hEd.ki;omega
  have h6:t.an≠6:=by have:=hEd.ki;omega
  refine aI dC λ_=>?_
  refine ⟨λr hr=>?_,λp hp=>by cases hp⟩
  cases hr
  refine ay (λh=>aw Ti h7) λ_=>ai (AT b t [44]) ?_
  rintro _ rfl
  rw[hEd.no dN]
  refine aH (cW (cW (ay (λh=>aw Ti h6) λ_=>aH (ay (λh=>aw Ti h6) λ_=>cW ?_))))
  have fin:∀ z:Bool,z=Mt E t->Ev (λi=>br z (.ok (out,lead,RX s T b a false)) (br (!sep) (ag (bO (oL b t).cG (RX s T b a false)) λy53=>next' i (y53,lead,out,sep,last)) (ag (cE (m i) c (RX s T b a false)) λy55=>gd (ob 184 out.length (List.length [(aK.mk y55.1.an y55.1.cS y55.1.jb y55.1.B y55.1.bE y55.1.bF y55.1.jf y55.1.J lead y55.1.iG y55.1.cG)])) (gd (cD (y55.2.bB - 1)) (el y55.2.l (if y55.2.bB - 1>0 then y55.2.bB - 1 else 0) λx62=>next' i (y55.2,[],out++[(aK.mk y55.1.an y55.1.cS y55.1.jb y55.1.B y55.1.bE y55.1.bF y55.1.jf y55.1.J lead y55.1.iG y55.1.cG)],false,x62.oZ)))))) (VD2 s T b a0 E (out,lead,H s T a b false none)) dt:=by
   intro z hz
   cases z with
   | true=>exact ba (aj ⟨out,lead,a,t,rfl,pg,ht,ho3,i4,by omega,i2,.inl ⟨hz.symm,rfl⟩⟩)
   | false=>
    have bad:∀ {F:Nat->aG (List aK×List ByS×ah)},Ev F (λy=>y.1=[]/\y.2.1=[]/\FS s T b (t.cG+b) y.2.2) dt->Ev F (VD2 s T b a0 E (out,lead,H s T a b false none)) dt:=λh=>h.oB λy hy=>⟨out,lead,a,t,rfl,pg,ht,ho3,i4,aD,i2,.inr ⟨hz.symm,hy⟩⟩
    refine aH (bad ?_)
    refine ay (λ_=>bI (a:=RF s T b a false (t.cG+b)) rfl (ff (hf _ _ ⟨_,rfl,nx.fs⟩))) λ_=>?_
    refine ai (hX hm aD ht hEd) λr hr=>?_
    have EU:=hr
    obtain ⟨a1,k1,e1,q0,q1⟩:=hr
    rw[e1] at EU ⊢
    exact aF (dB W3 (gL Zm (by dsimp only;simp;split<;>omega) λx _=>ff (hf _ _ ⟨_,rfl,EU⟩)))
  have kE:(oL b t).an=t.an:=rfl
  rw[kE]
  rcases hE with rfl|rfl
  ·cases hk:t.an==0 with
   | true=>exact ba (ba (fin true (by unfold Mt;rw[aL rfl,hk])))
   | false=>exact aH (aH (fin false (by unfold Mt;rw[aL rfl,hk])))
  ·have eM:Mt [125] t=kx t [125]:=by unfold Mt;rw[aC dN]
   refine ay (λ_=>aH (ba (ai (AT b t [125]) ?_))) λ_=>ba (ai (AT b t [125]) ?_)
   all_goals (rintro _ rfl;exact fin _ eM.symm)
 | false=>
  have F2:t.an≠0:=λh=>by simp[h] at he
  have hb:kx t [125]=false:=by
   simp at he
   exact he.2
  have lt:=hC.next aD ht F2
  have htt:=(hC.tok ht).2.2.2.1
  refine aI (λ_=>?_) dC
  refine gQ nx (fP ?_)
  dsimp only
  have sepr:dl t=0->(kx t [44]=true\/t.an=7)->LK (gd (cD (a+1)) (next (H s T (a+1) b false none,lead,out,e,true))) (λi=>ag (bu (m i) (RX s T b a false)) λy20=>next' i (y20.2,lead,out,true,last)) (VD2 s T b a0 E) (â s T b):=by
   intro hd hs
   refine bK λ_=>bn Y2 (hn _ _ ⟨lead,out,e,true,a+1,last,rfl,rfl,pg.trans (nx.read hC F2 hd),aD,i2,?_,i4,?_⟩)
   ·cases sep<;>simp at i3 ⊢<;>omega
   ·cases i5 with
    | no=>exact .no
    | dec ho q1 q2 hu hk hM=>exact .dec ho q1 aD hu hk (hM.up aD ht (by rcases hs with h|h;exact .inl h;exact .inr (.inl h)))
    | dead P7 hk hc=>
     rw[ht] at P7;cases P7
     rcases hs with h|h
     ·rw[h] at hc;cases hc
     ·exact aw h hk.2
  by_cases h7:t.an=7
  ·have h7':(t.an==7)=true:=by simpa using h7
   exact aI (λ_=>aI (λ_=>aJ (λ_=>aJ (λ_=>sepr Il (.inr h7)) dC) λh=>by rw[show (oL b t).an=t.an from rfl,h7'] at h;cases h) dC) λh=>by rw[h7'] at h;cases h
  have h7':(t.an==7)=false:=by simpa using h7
  refine aI (λh=>by rw[h7'] at h;cases h) λ_=>aJ (λh=>by rw[show (oL b t).an=t.an from rfl,h7'] at h;cases h) λ_=>?_
  refine lB (bn (AT b t [44]) ?_)
  cases hcm:kx t [44] with
  | true=>exact aI (λ_=>aJ (λ_=>sepr (CJ hcm dN) (.inl hcm)) λh=>by cases h) λh=>by cases h
  | false=>
   refine aI dC λ_=>aJ dC λ_=>mr ?_
   have wr:∀ {F:Nat->aG (List aK×List ByS×ah)} {f:D->aG (List aK×List ByS×D)},Ev F (â s T b (PF (t.cG+b))) dt->LK (ag (bY n (H s T a b false none)) f) F (VD2 s T b a0 E) (â s T b):=λh=>nI nx h
   have fl:∀ {l:List ByS} {o:List aK} {z:Bool} {x:Int},Ev (λi=>ag (bO (oL b t).cG (RX s T b a false)) λy=>next' i (y,l,o,z,x)) (â s T b (PF (t.cG+b))) dt:=λ{l o z x}=>bI (a:=RF s T b a false (t.cG+b)) rfl (hf _ _ ⟨_,rfl,nx.fs⟩)
   have kE:(oL b t).an=t.an:=rfl
   have pE:(oL b t).cG=t.cG+b:=rfl
   by_cases h6:t.an=6
   ·
    have Xc:(t.an==6)=true:=by simpa using h6
    have hd:dl t=0:=Hu aD
    have tk:=hC.tok ht
    refine aJ (λ_=>bn (aje hm hC aD ht) ?_) λh=>by rw[kE,Xc] at h;cases h
    dsimp only
    have le2:Le T b out sep e (a+1) last:=by
     cases i5 with
     | no=>exact .no
     | dec ho q1 q2 hu hk hM=>exact .dec ho q1 aD hu hk (hM.up aD ht (.inr (.inr h6)))
     | dead P7 hk hc=>
      rw[ht] at P7;cases P7
      exact aw h6 hk.1
    obtain ⟨tr,t1,t2⟩:∃ tr:Bool,((e>0/\Tk (iH n e (H s T a b false none)) (tr,H s T a b false none))\/(¬ e>0/\tr=false))/\((out=[]/\tr=false)\/∃ z,out≠[]/\last=z+b/\0<=z/\z<=t.cG/\tr = !EH s z t.cG/\(EI s T a t=true->EH s z t.cG=true)):=by
     cases i5 with
     | no=>exact ⟨false,.inr ⟨by decide,rfl⟩,.inl uA⟩
     | @dec out sep e a u ho q1 q2 hu hk hM=>
      have o:=hC.ord (i:=(e - 1).toNat) (j:=a.toNat) aD hu ht
      exact ag6
     | dead P7 hk hc=>
      rw[ht] at P7;cases P7
      exact aw h6 hk.1
    refine oK (λv=>v=(H s T a b false none,tr)) (λv hv=>?_) λj hj=>?_
    rotate_left
    ·refine aI (λ_=>?_) λh=>by rw[Xc] at h;cases h
     rcases t1 with ⟨q1,q2⟩|⟨q1,q2⟩
     ·exact aI (λ_=>gU q2 (hj _ rfl)) λh=>aw qk (by simpa using q1)
     ·exact aI (λh=>aw Bx q1) λ_=>hj _ (by rw[q2])
    subst hv
    cases tr with
    | true=>
     rcases t2 with ⟨_,w⟩|⟨z,ho,rfl,z0,z1,hz,hown⟩
     ·cases w
     have IG:EH s z t.cG=false:=by simpa using hz.symm
     have hof:EI s T a t=false:=by
      rw[lN]
      intro w
      rw[hown w] at IG;cases IG
     rw[hof]
     have hol:(out.length:Int)≠0:=by
      have:=s7.2 ho
      omega
     refine aI (λ_=>?_) dC
     refine aJ dC λ_=>aJ (λ_=>aJ (λh=>aw jk hol) λ_=>?_) λh=>by rw[kE,Xc] at h;cases h
     refine bn (Uc hm hC z0 z1 aD) ?_
     rw[IG]
     refine aJ dC λ_=>bn Y2 (bK λhg=>bW hg (jc λx hx0 hx=>eI hx0 hx (bK λ_=>?_)))
     have hxd:=i4 x (aP hx)
     refine hn _ _ ⟨lead,_,e,sep,a+1,z+b,rfl,rfl,pg.trans (nx.read hC F2 hd),aD,i2,?_,λd hdm=>?_,?_⟩
     ·rw[ra];cases sep<;>simp at i3 ⊢<;>omega
     ·rcases pR hdm with w|w
      ·exact i4 d w
      ·subst w;exact aca
     ·exact le2.set
    | false=>
     refine aI dC λ_=>?_
     refine oK (λv=>v=(H s T a b false none,EI s T a t)) (λv hv=>?_) λj hj=>?_
     rotate_left
     ·exact aI (λ_=>gU (WA hC hL aD ht) (hj _ rfl)) λh=>by rw[Xc] at h;cases h
     subst hv
     cases how:EI s T a t with
     | true=>
      refine aI (λ_=>aJ (λ_=>?_) dC) dC
      refine bK λhg=>bK λ_=>bn Y2 (bW hg (hn _ _ ⟨lead++[t.bJ],out,e,sep,a+1,last,rfl,rfl,pg.trans (nx.read hC F2 hd),rI,λx hx=>?_,?_,i4,le2⟩))
      ·rcases bL.1 hx with w|w
       ·exact i2 x w
       ·simp at w;subst w;exact htt
      ·cases sep<;>simp at i3 ⊢<;>omega
     | false=>
      refine aI dC λ_=>aJ dC λ_=>aJ (λ_=>?_) λh=>by rw[kE,Xc] at h;cases h
      refine oK (λv=>v=true) (λv hv=>?_) λj hj=>?_
      rotate_left
      ·exact aI (λ_=>hj _ rfl) λh=>by rw[Xc] at h;cases h
      subst hv
      refine aI (λ_=>wr ?_) dC
      rcases t2 with ⟨rfl,_⟩|⟨z,ho,rfl,z0,z1,hz,_⟩
      ·exact ba fl
      ·have IG:EH s z t.cG=true:=by simpa using hz.symm
       have hol:(out.length:Int)≠0:=by
        have:=s7.2 ho
        omega
       refine ay (λh=>aw jk hol) λ_=>ai (Uc hm hC z0 z1 aD) ?_
       rintro _ rfl
       rw[IG]
       exact ba fl
   ·
    have Xc:(t.an==6)=false:=by simpa using h6
    refine aJ (λh=>by rw[kE,Xc] at h;cases h) λ_=>aJ dC λ_=>aJ (λh=>by rw[kE,Xc] at h;cases h) λ_=>mr ?_
    have k0:(t.an==0)=false:=by simpa using F2
    have toR:∀ {x:aG (List aK×List ByS×D)} {F:Nat->Bool->aG (List aK×List ByS×ah)},LK x (λi=>F i false) (VD2 s T b a0 E) (â s T b)->LK x (λi=>br ((oL b t).an==0) (br (E==([]:ByS)) (F i true) (br (E !=([]:ByS)) (ag (cg (oL b t) E) λy69=>F i y69) (F i false))) (br (E !=([]:ByS)) (ag (cg (oL b t) E) λy71=>F i y71) (F i false))) (VD2 s T b a0 E) (â s T b):=by
     intro x F h
     refine aJ (λh=>by rw[kE,k0] at h;cases h) λ_=>?_
     rcases hE with rfl|rfl
     ·exact aJ dC λ_=>h
     ·refine aJ (λ_=>bn (AT b t [125]) ?_) dC
      rw[hb];exact h
    refine toR (F:=λi v=>br v (.ok (out,lead,RX s T b a false)) (br (!sep) (ag (bO (oL b t).cG (RX s T b a false)) λy53=>next' i (y53,lead,out,sep,last)) (ag (cE (m i) c (RX s T b a false)) λy55=>gd (ob 184 out.length (List.length [(aK.mk y55.1.an y55.1.cS y55.1.jb y55.1.B y55.1.bE y55.1.bF y55.1.jf y55.1.J lead y55.1.iG y55.1.cG)])) (gd (cD (y55.2.bB - 1)) (el y55.2.l (if y55.2.bB - 1>0 then y55.2.bB - 1 else 0) λx62=>next' i (y55.2,[],out++[(aK.mk y55.1.an y55.1.cS y55.1.jb y55.1.B y55.1.bE y55.1.bF y55.1.jf y55.1.J lead y55.1.iG y55.1.cG)],false,x62.oZ)))))) ?_
    refine aJ dC λ_=>?_
    refine oK (λv=>v=(H s T a b false none,false)) (λv hv=>?_) λj hj=>aI Zr λ_=>hj _ rfl
    subst hv
    refine aI dC λ_=>oK (λv=>v=(H s T a b false none,false)) (λv hv=>?_) λj hj=>aI Zr λ_=>hj _ rfl
    subst hv
    refine aI dC λ_=>oK (λv=>v = !sep) (λv hv=>?_) λj hj=>aI Zr λ_=>hj _ rfl
    subst hv
    cases sep with
    | false=>exact aI (λ_=>wr (ba fl)) λh=>by cases h
    | true=>
     refine aI dC λ_=>aJ dC λ_=>?_
     simp at i3
     refine cq (hD hm aD ht F2 h6 h7 hcm hb) ?_ ?_
     ·rintro _ _ ⟨d,a',rfl,rfl,T8,lz,hd⟩
      have p0:=T8.le
      have p1:=T8.lt
      refine bK λhg=>bW hg (bW W3 ?_)
      have ix:∃ u,(T.map (oL b))[(if a' - 1>0 then a' - 1 else 0).toNat]?=some (oL b u)/\(1<=a'->T[(a' - 1).toNat]?=some u):=by
       have gR:(if a' - 1>0 then a' - 1 else 0).toNat<T.length:=by split<;>omega
       refine ⟨T[(if a' - 1>0 then a' - 1 else 0).toNat],by rw[eX,aA gR];rfl,λh=>?_⟩
       rw[<- aA gR]
       congr 1
       split<;>omega
      obtain ⟨u,u1,u2⟩:=ix
      refine eI Zm u1 (hn _ _ ⟨[],_,a',false,a',(oL b u).oZ,rfl,rfl,pg.trans T8,rI,bm,rI,λz hz=>?_,?_⟩)
      ·exact ahP
      ·by_cases e:a'=a
       ·subst e
        exact .dead ht ⟨h6,h7⟩ hcm
       ·obtain ⟨w,w1,w2⟩:=lz rfl
        have:=u2 aD
        rw[w1] at this;cases this
        exact .dec bm aD JF w1 w2 λj w h1 h2=>by omega
     ·rintro _ y ⟨v,rfl,hy⟩
      have hy':=hy
      obtain ⟨y1,y2⟩:=y
      obtain ⟨a1,k1,e1,q0,q1⟩:=hy
      dsimp only at e1;subst e1
      exact aF (dB W3 (gL Zm (by dsimp only;simp;split<;>omega) λx _=>hf _ _ ⟨_,rfl,hy'⟩))
def ä (hC:PC s T b) (hL:Lx s T) (hE:E=[]\/E=[125]) {a0:Int} (hD:∀ {m:Nat->Nat} {a:Int} {t:aB},bN m->0<=a->T[a.toNat]?=some t->t.an≠0->t.an≠6->t.an≠7->kx t [44]=false->kx t [125]=false->LK (fe n c (H s T a b false none)) (λi=>cE (m i) c (RX s T b a false)) (VC s T b a) (WC s T b)) (hX:∀ {m:Nat->Nat} {a:Int} {t:aB},bN m->0<=a->T[a.toNat]?=some t->Ed t->Ev (λi=>cE (m i) c (RX s T b a false)) (λr=>FS s T b (t.cG+b) r.2) dt) (hm:bN m) (h0:0<=a0) (h1:a0<T.length) {lead:List ByS} (S8:(lead.length:Int)<=a0+1) (IQ:∀ x,x∈lead->x.length<=65536) :
  LK (iv n lead c (H s T a0 b false none)) (λi=>lL (m i) c lead E (RX s T b a0 false)) (VD2 s T b a0 E) (â s T b):=by
 obtain ⟨body,h1',_,h3⟩:=ã hC hL hE hD hX
 rw[h1']
 exact h3 n hm h0 h1 S8 IQ
end
def clB (n:Nat) (p0:ah) (WB:Int×Int->aG (Int×ah)) (v5:Int×Int):aG (Int×ah):=
 br (decide (v5.2<(List.length p0.l:Int))) (jn (λ(v12:Int)=>el p0.l v5.2 λx17=>ag (jC n x17 [([41]:ByS),([93]:ByS),([125]:ByS)]) λy21=>br y21 (gd (cD (v12 - 1)) (br ((v12 - 1)==0) (.ok (v5.2,p0)) (gd (cD (v5.2+1)) (WB (v12 - 1,v5.2+1))))) (br (v12==0) (.ok (v5.2,p0)) (gd (cD (v5.2+1)) (WB (v12,v5.2+1))))) λj13=>el p0.l v5.2 λx33=>ag (jC n x33 [([40]:ByS),([91]:ByS),([123]:ByS)]) λy37=>br y37 (gd (cD (v5.1+1)) (j13 (v5.1+1))) (j13 (v5.1))) (.ok ((-1),p0))
section
variable {T:List aB} {m:Nat->Nat} {x:ah}
variable {c:Int}
def adn:dl t=(if AY t [[40],[91],[123]]=true then 1 else if AY t [[41],[93],[125]]=true then -1 else 0):=by
 by_cases h5:t.an=5
 ·unfold dl AY;rw[aL h5];have h5':(t.an==5)=true:=by simpa using h5
  simp only[h5',pa,List.contains_iff_mem,cf,cw,or_false]
 rw[Hu h5];have h5':(t.an==5)=false:=by simpa using h5
 simp[AY,h5']
variable {Q:Int×ah->Prop}
def Cr (hm:bN m) (hC:PC s T b) {i v:Int} (h0:0<=i) (ht:T[i.toNat]?=some t) (hv:-100000<=v) (hv2:v<=100000) (hx:x.l=T.map (oL b)) {next:Nat->Int×Int->aG (Int×ah)} (hq:v+dl t=0->Q (i,x)) (hn:v+dl t≠0->Ev (λj=>next j (v+dl t,i+1)) Q dt):Ev (λj=>clB (m j) x (next j) (v,i)) Q dt:=by
 unfold clB;have hlen:=hC.pJ;have gR:=(ao.1 ht).1;have P7:x.l[i.toNat]?=some (oL b t):=by rw[hx,eX,ht];rfl
 have PD:(x.l.length:Int)=T.length:=by rw[hx];simp
 refine aS (λ_=>?_) λh=>aw eZ h;have nine:AY t [[40],[91],[123]]=true->AY t [[41],[93],[125]]=false:=λh=>by
  obtain ⟨h1,h2⟩:=Hf h;simp at h2;rcases h2 with h2|h2|h2<;>simp[AY,h2]
 have hd:=@adn t;refine bD (λw=>w=v+(if AY t [[40],[91],[123]]=true then 1 else 0)) (λw hw=>?_) λj hj=>?_
 ·refine cR h0 P7 (ai Fy ?_);rintro _ rfl;refine ay (λh=>?_) λh=>?_
  ·have h1:AY t [[40],[91],[123]]≠true:=λq=>by rw[nine q] at h;cases h
   rw[aC h1,aL h] at hd;rw[aC h1] at hw;have e:w - 1=v+dl t:=by omega
   rw[e];exact aF (cd (λq=>aj (hq q)) λq=>aF (hn q))
  have e:w=v+dl t:=by
   rw[hd,hw];by_cases h1:AY t [[40],[91],[123]]=true
   ·rw[aL h1,aL h1]
   rw[aC h1,aC h1,aC (by rw[h];decide)]
  rw[e];exact cd (λq=>aj (hq q)) λq=>aF (hn q)
 refine cR h0 P7 (ai Fy ?_);rintro _ rfl;exact ay (λh=>aF (hj _ (by rw[aL h]))) λh=>hj _ (by rw[aC (by rw[h];decide)];simp)
def X9.le (h:X9 T a c):a<=c:=by
 induction h with
 | nil=>exact JF
 | one=>omega
 | app _ _ h1 h2=>omega
 | pair _ _ _ _ _ _ ih=>omega
def afI (hm:bN m) (hC:PC s T b) (hx:x.l=T.map (oL b)) {d:Int} (h:X9 T c d):0<=c->∀ v:Int,1<=v->v<=c+1->(∀ {m':Nat->Nat},bN m'->Ev (λi=>iter (clB (m i) x) (m' i) (v,d)) Q dt)->∀ {m':Nat->Nat},bN m'->Ev (λi=>iter (clB (m i) x) (m' i) (v,c)) Q dt:=by
 have hlen:=hC.pJ
 induction h with
 | nil=>exact λ_ v _ _ hq=>hq
 | @one a t h0 ht hd=>
  intro _ v h1 h2 hq m' hm'
  have:=(ao.1 ht).1
  refine kh hm' (Cr hm hC h0 ht aD aD hx (λq=>by omega) λ_=>?_)
  rw[hd,Int.add_zero]
  exact hq hm'.pred
 | @app a c d h1 h2 ih1 ih2=>
  intro h0 v q1 q2 hq m' hm'
  have:=h1.le
  exact ih1 h0 v q1 q2 (λhm'=>ih2 aD v q1 aD hq hm') hm'
 | @pair a c t u h0 ht hd hb hu GW ih=>
  intro _ v q1 q2 hq m' hm'
  have:=(ao.1 ht).1
  have:=(ao.1 hu).1
  have:=hb.le
  refine kh hm' (Cr hm hC h0 ht aD aD hx (λq=>by omega) λ_=>?_)
  rw[hd]
  refine ih aD (v+1) aD aD (λ{m2} hm2=>?_) hm'.pred
  refine kh hm2 (Cr hm hC aD hu aD aD hx (λq=>by omega) λ_=>?_)
  rw[GW,show v+1 + -1=v by omega]
  exact hq hm2.pred
def å (hm:bN m) (hC:PC s T b) {u:aB} (h0:0<=a) (ht:T[a.toNat]?=some t) (ho:dl t=1) (hb:X9 T (a+1) c) (hu:T[c.toNat]?=some u) (hd:dl u = -1):Ev (λi=>kf (m i) (RX s T b a k)) (λr=>r=(c,RX s T b a k)) dt:=by
 show Ev (λi=>iter (clB (m i) (RX s T b a k)) (m i) (0,a)) _ _;have hlen:=hC.pJ;have:=(ao.1 hu).1;have:=hb.le;refine kh hm (Cr hm hC h0 ht aD aD rfl (λq=>by omega) λ_=>?_);rw[ho];refine afI hm hC rfl hb aD 1 aD aD (λ{m2} hm2=>?_) hm.pred;exact kh hm2 (Cr hm hC aD hu aD aD rfl (λ_=>rfl) λq=>aw (by rw[hd];rfl) q)
def Yf (hm:bN m) (hC:PC s T b) (h0:0<=a):Ev (λi=>kf (m i) (RX s T b a k)) (λr=>r.2=RX s T b a k/\r.1<T.length) dt:=by
 show Ev (λi=>iter (clB (m i) (RX s T b a k)) (m i) (0,a)) _ _;have hlen:=hC.pJ;have hp:=hC.pos;refine bR hm (λ(v:Int×Int)=>0<=v.2/\ -v.2<=v.1/\v.1<=v.2) (λv=>(T.length - v.2).toNat) ⟨h0,eZ,h0⟩ ?_;rintro ⟨v,i⟩ ⟨h1,h2,h3⟩ next hn;dsimp only at h1 h2 h3 hn ⊢;by_cases hi:i<T.length
 ·obtain ⟨t,ht⟩:∃ t,T[i.toNat]?=some t:=⟨_,aA aD⟩;have hd:-1<=dl t/\dl t<=1:=by
   rw[adn];split
   ·omega
   split<;>omega
  refine Cr hm hC h1 ht aD aD rfl (λ_=>⟨rfl,hi⟩) λ_=>hn _ ⟨aD,aD,aD⟩ eZ
 unfold clB;exact aS (λh=>aw h (by dsimp only;simp;omega)) λ_=>aj ⟨rfl,eZ⟩
end
section
variable {T:List aB} {m:Nat->Nat}
def VP (s:ByS) (T:List aB) (b a:Int) (r:D×aK) (y:aK×ah):Prop:=VC s T b a (r.2,r.1) y
def Ud (m:Nat) (d:aK) (c:Bool) (x:ah):aG (aK×ah):=ag (ax m c x) λy7=>.ok ((aK.mk 3 d.cS d.jb d.B d.bE [y7.1] d.jf d.J d.oO d.iG d.cG),y7.2)
def ajg (m:Nat) (d:aK) (c:Bool) (x:ah):aG (aK×ah):=ag (eH m x) λy20=>ag (ax m c y20.2) λy22=>ag (ca m ([41]:ByS) y20.1 y22.2) λy24=>ag (aY m y24) λy26=>ag (eo m y22.1 y26.1 y26.2) λy27=>ag (cF m ([58]:ByS) y27.2) λy29=>ag (ax m false y29) λy32=>.ok ((aK.mk 7 d.cS d.jb d.B d.bE [y27.1,y32.1] d.jf d.J d.oO d.iG d.cG),y32.2)
def Yg (m:Nat) (c:Bool) (x:ah):aG (ak×ah):=ag (eH m x) λy43=>ag (ax m c y43.2) λy45=>ag (ca m [41] y43.1 y45.2) λy47=>.ok (y45.1,y47)
def abu (m:Nat) (d:aK) (y:ak×ah):aG (aK×ah):=ag (aY m y.2) λy26=>ag (eo m y.1 y26.1 y26.2) λy27=>ag (cF m ([58]:ByS) y27.2) λy29=>ag (ax m false y29) λy32=>.ok ((aK.mk 7 d.cS d.jb d.B d.bE [y27.1,y32.1] d.jf d.J d.oO d.iG d.cG),y32.2)
def WD (m:Nat) (d:aK) (c:Bool) (x:ah):ajg m d c x=ag (Yg m c x) (abu m d):=by
 unfold Yg;simp only[ZB,zU];rfl
def Sg (hm:bN m) (hC:PC s T b) {k:Bool} (nx:Nx T k a a t) (ht:kx t [40]=true) {Q:ak×ah->Prop} (h:∀ {m:Nat->Nat},bN m->Ev (λi=>Yg (m i) c (RX s T b a k)) Q dt):Ev (λi=>dM (m i) c (RX s T b a k)) Q dt:=by
 refine bV (F:=λi=>dM i c (RX s T b a k)) hm λm hm=>?_;show Ev (λi=>fh (m i) (ar (m i)) c (RX s T b a k)) _ _;unfold fh;refine ai Ju ?_;rintro _ rfl;obtain ⟨h1,h2⟩:=lC ht;have kn:∀ x:Int,x≠5->((oL b t).an==x)=false:=λx h5=>by simp[oL];omega
 dsimp only;rw[kn 1 dN,kn 2 dN,kn 3 dN,kn 4 dN];have st:∀ {x:ByS} {F G:Nat->aG (ak×ah)},x≠[40]->Ev G Q dt->Ev (λi=>ag (cg (oL b t) x) λy=>aG.br y (F i) (G i)) Q dt:=λ{x F G} hx hG=>ai (AT b t _) λy hy=>by
  rw[show kx t x=false by simp[kx,h2,Ne.symm hx]] at hy;subst hy;exact aH hG
 refine aH (aH (aH (aH (st dN (st dN (ai (AT b t _) ?_))))));rintro _ rfl;rw[ht];exact ba (h hm)
variable {d:aK}
def afJ (hm:bN m) (hC:PC s T b) {v:Int} {y:ak×ah} (h:FS s T b v y.2) (he:ij y.1):Ev (λi=>abu (m i) d y) (WC s T b (PF v)) dt:=by
 unfold abu;exact ai Gy λr hr=>ai (JU hm hr he) λr hr=>ai (Jv hm hC hr.1) λr hr=>ai adO λr hr=>aj Zs
def DW7 {k p pos:Int} {x y:ak} (h:g d) (hx:ij x) (hy:ij y):g (aK.mk k p d.jb d.B d.bE [x,y] d.jf d.J d.oO d.iG pos):=.mk bm h.l2 h.l3 h.l4 h.l5 h.l6 h.l7 Gq (by simp;exact ⟨hx,hy⟩) h.d
def Ue (hC:PC s T b) (s9:∀ j,j<n->XF s T b (aW j) ax) (hm:bN m) (h0:0<=a) (Ta:T[a.toNat]?=some t) (ht:kx t [40]=true) (hd:g d) :
  LK (fY n c (H s T a b false none) d) (λi=>eP (m i) d c (RX s T b a false)) (VP s T b a) (WC s T b):=by
 rcases n with _|n
 ·exact dc
 refine jG (F:=λi=>eP i d c (RX s T b a false)) hm λm hm=>?_
 show LK (kI n (R n) c (H s T a b false none) d) (λi=>iP (m i) (ar (m i)) d c (RX s T b a false)) _ _
 unfold kI iP jg
 have nx:=EJ h0 Ta
 have hlen:=hC.pJ
 have gR:=(ao.1 Ta).1
 refine mr (bn Ju (bn (AT b t [40]) ?_))
 rw[ht]
 refine aJ (λ_=>?_) dC
 have P:∀ {m:Nat->Nat},bN m->LK (dU n c (H s T a b false none)) (λi=>Yg (m i) c (RX s T b a false)) (VB s T b false a) (WX s T b):=λhm=>Ld hm hC (λj hj=>s9 j aD) nx ht
 have mm:=ai8 ht
 have s3:kx t [42]=false:=by
  obtain ⟨_,h2⟩:=lC ht
  simp[kx,h2]
 show LK (ag (dU n c (H s T a b false none)) _) (λi=>ag (kf (m i) (RX s T b a false)) λy14=>jn (λ(Wc:Bool)=>br Wc (ajg (m i) d c y14.2) (Ud (m i) d c y14.2)) λj16=>br (decide (y14.1>=0)) (el y14.2.l y14.1 λx35=>ag (cg x35 ([41]:ByS)) λy39=>br y39 (gd (cD (y14.1+1)) (br (decide ((y14.1+1)<(List.length y14.2.l:Int))) (gd (cD (y14.1+1)) (el y14.2.l (y14.1+1) λx44=>ag (cg x44 ([58]:ByS)) λy48=>j16 (y48))) (j16 (false)))) (j16 (false))) (j16 (false))) _ _
 cases hq:dU n c (H s T a b false none) with
 | stuck=>exact dc
 | qH p=>
  refine sw (ai (Yf hm hC h0) ?_)
  rintro ⟨v,_⟩ ⟨rfl,hv⟩
  dsimp only at hv ⊢
  have hp:=λ{m:Nat->Nat} (hm:bN m)=>(P hm).2 p hq
  obtain ⟨_,⟨w,hw,_⟩,_⟩:=(hp hm).get
  subst hw
  have hp':∀ {m:Nat->Nat},bN m->Ev (λi=>Yg (m i) c (RX s T b a false)) (λr=>FS s T b w r.2/\ij r.1) dt:=λhm=>(hp hm).oB λy hy=>by
   obtain ⟨v',e,hy⟩:=hy
   cases e;exact hy
  refine bD (λ_=>True) (λWc _=>ay (λ_=>?_) λ_=>?_) λj hj=>?_
  ·simp only[WD]
   exact ai (hp' hm) λy hy=>afJ hm hC hy.1 hy.2
  ·unfold Ud
   exact ai (Hg hm hC ⟨nx,mm.1,mm.2.1,s3,λhm=>Sg hm hC nx ht hp'⟩) λr hr=>aj ⟨w,rfl,hr.1⟩
  ·refine aS (λh=>?_) λ_=>hj _ trivial
   have h:v>=0:=h
   refine gL h (by simpa using hv) λx35 _=>ai DV λ_ _=>ay (λ_=>aF (aS (λh=>aF (gL aD h λ_ _=>ai DV λ_ _=>hj _ trivial)) λ_=>hj _ trivial)) λ_=>hj _ trivial
 | ok r=>
  obtain ⟨_,⟨x,a3,u,rfl,rfl,pg,hu,ho,hx⟩,_⟩:=((P hm).1 r hq).get
  have hp':∀ {m:Nat->Nat},bN m->Ev (λi=>Yg (m i) c (RX s T b a false)) (λy=>y=(x,RX s T b (a3+1) false)) dt:=λhm=>((P hm).1 _ hq).oB λy hy=>by
   obtain ⟨x',a',u',e,rfl,_⟩:=hy
   simp only[qR,D.mk.injEq] at e
   obtain ⟨rfl,_,_,e,_⟩:=e
   rw[show a'=a3 by omega]
  obtain ⟨pp,lz⟩:=nx.pair hC (Bs (.inl ht)) pg hu (Bt (.inl ho))
  have p0:=pg.le
  have p1:=pp.lt
  obtain ⟨t2,ht2⟩:∃ t2,T[(a3+1).toNat]?=some t2:=⟨_,aA aD⟩
  have n2:=EJ aD ht2
  have hu':(T.map (oL b))[a3.toNat]?=some (oL b u):=by rw[eX,hu];rfl
  have ht2':(T.map (oL b))[(a3+1).toNat]?=some (oL b t2):=by rw[eX,ht2];rfl
  refine bn (å hm hC h0 Ta (Bs (.inl ht)) pg.bal hu (Bt (.inl ho))) (mr ?_)
  dsimp only
  refine aJ (λ_=>eI aD hu' (bn (AT b u [41]) ?_)) λh=>aw qk aD
  rw[ho]
  refine aJ (λ_=>bW yJ (aJ (λ_=>bW yJ (eI aD ht2' (bn (AT b t2 [58]) ?_))) λh=>aw qk rI)) dC
  rw[zU]
  refine gQ n2 (lB ?_)
  cases hc:kx t2 [58] with
  | true=>
   have k2:=(lC hc).1
   have l2:=n2.DP hC aD
   refine aI (λ_=>aJ (λ_=>?_) dC) dC
   simp only[WD]
   refine bn (hp' hm) ?_
   unfold abu
   refine rH n2 (bn (kF hm hC n2) (LK.K9 hm aD p1 hx (λe' Ly=>?_) λv r yG Hq=>?_))
   ·refine bK λ_=>bn (Ns hm hC n2 hc) (cq (s9 n aD hm eZ l2 .no) ?_ ?_)
    ·rintro _ _ ⟨e,a4,rfl,rfl,Lf,z4,he⟩
     exact bZ ⟨_,a4,rfl,rfl,(pp.trans (n2.read hC aD (CJ hc dN))).trans Lf,z4,DW7 hd Ly he⟩
    ·exact Š
   ·exact ai (Jv hm hC yG) λr hr=>ai adO λr hr=>aj Zs
  | false=>
   refine aI dC λ_=>aJ dC λ_=>?_
   unfold Ud
   refine cq (s9 n aD hm eZ p1 (.inr ⟨x,a,t,rfl,hx,rfl,lz,h0,eZ,rfl,Ta,ht,λhm=>Sg hm hC nx ht hp'⟩)) ?_ ?_
   ·rintro _ _ ⟨e,a4,rfl,rfl,Lf,z4,he⟩
    exact bZ ⟨_,a4,rfl,rfl,pp.trans Lf,z4,hd.w.one he⟩
   ·exact Š
end
section
variable {T:List aB} {m:Nat->Nat} {q:Option ak}
variable {w:aB}
def wN (hC:PC s T b) (hw:T[(a+j).toNat]?=some w) (h0:0<=a+j):Tk (cX j (H s T a b k q)) (w,H s T a b k q):=by
 unfold cX jg;have gR:=(ao.1 hw).1;refine dY λ_=>dY λ_=>kD λx _ hx=>?_;have e:(if (List.length (H s T a b k q).M:Int) - 1<(H s T a b k q).bB+j then (List.length (H s T a b k q).M:Int) - 1 else (H s T a b k q).bB+j)=a+j:=by
  dsimp only;rw[aC aD]
 rw[e] at hx;have hx:T[(a+j).toNat]?=some x:=hx;rw[hw] at hx;cases hx;exact kJ
def yZ (hC:PC s T b) (hw:T[(a+j).toNat]?=some w) (h0:0<=a+j):Ev (λ_=>cK j (RX s T b a k)) (λr=>r=(oL b w,RX s T b a k)) dt:=by
 unfold cK jg;have gR:=(ao.1 hw).1;have hlen:=hC.pJ;have Lw:(T.map (oL b))[(a+j).toNat]?=some (oL b w):=by rw[eX,hw];rfl
 exact dB W3 (aS (λ_=>dB W3 (cR h0 Lw uY)) λh=>aw (by dsimp only;simp;omega) h)
def O9 {a':Int} (hm:bN m) (hC:PC s T b) (h0:0<=a) (nx:Nx T true (a+j) a' w) (hj:0<=j:=by omega):Ev (λi=>fX (m i) j (RX s T b a k)) (λr=>r=(a' - a,RX s T b a k)) dt:=by
 unfold fX;have hlen:=hC.pJ;have g1:=nx.le;have g2:=nx.lt;have g0:=nx.a0;refine bR hm (λ(v:ah×Int)=>v.1=RX s T b a k/\j<=v.2/\v.2<=a' - a) (λv=>(a' - a - v.2).toNat) Ik ?_;rintro ⟨_,v⟩ ⟨rfl,h1,h2⟩ next hn;dsimp only at h1 h2 hn ⊢;by_cases e:v=a' - a
 ·subst e;refine ai (yZ hC (w:=w) (by rw[show a+(a' - a)=a' by omega];exact nx.tk) aD) ?_;rintro _ rfl;exact ay (λh=>aw Ti (nx.k7 rfl)) λ_=>aj rfl
 obtain ⟨u,hu⟩:∃ u,T[(a+v).toNat]?=some u:=⟨_,aA aD⟩;refine ai (yZ hC hu aD) ?_;rintro _ rfl;have h7:=nx.bt (a+v).toNat u aD aD hu;exact ay (λ_=>aF (hn _ Ik eZ)) λh=>aw h (by simp[oL,h7])
def Cb (T:List aB) (a j:Int) (z:Bool) (N:Int):Prop:=∃ w,Nx T true (a+j) (a+N) w/\((z=false/\kx w [93]=false)\/(kx w [93]=true/\∃ w2,T[(a+N+1).toNat]?=some w2/\kx w2 [58]=z))
def ado (hC:PC s T b) (h0:0<=a+j) (h1:a+j<T.length):∃ z N,Cb T a j z N:=by
 obtain ⟨a',w,nx⟩:=pZ hC true h0 h1;have e:a+(a' - a)=a':=by omega
 cases hw:kx w [93] with
 | false=>exact ⟨false,a' - a,w,by rw[e];exact nx,.inl ⟨rfl,hw⟩⟩
 | true=>
  have:=nx.DP hC (by have:=(lC hw).1;omega)
  have:=nx.ge
  obtain ⟨w2,h2⟩:∃ w2,T[(a'+1).toNat]?=some w2:=⟨_,aA aD⟩
  exact ⟨kx w2 [58],a' - a,w,by rw[e];exact nx,.inr ⟨hw,w2,by rw[e];exact h2,rfl⟩⟩
inductive Pk (T:List aB) (b a:Int):ByS->Int->Int->Prop
 | str {u:aB} (hu:T[(a+1).toNat]?=some u) (hw:E1 u [115,116,114,105,110,103]=true):Pk T b a [46,42] (-1) 2
 | re {u v:aB} (hu:T[(a+1).toNat]?=some u) (ho:kx u [61,126]=true) (hv:T[(a+2).toNat]?=some v) (hk:v.an=3):Pk T b a v.bJ (v.cG+b) 3
inductive Pt (T:List aB) (b a:Int):Option (ByS×Int×Int)->Prop
 | no:Pt T b a none
 | yes {l:ByS} {p j N:Int} (hk:Pk T b a l p j) (hc:Cb T a j true N):Pt T b a (some (l,p,N))
def æ (hC:PC s T b) {N:Int} {z:Bool} (h0:0<=a) (h:Cb T a j z N):Tk (iter (λUf (OD:D×Int)=>ag (cX OD.2 OD.1) λy18=>br (y18.1.an==7) (gd (cD (OD.2+1)) (Uf (y18.2,OD.2+1))) (ag (cX OD.2 y18.2) λy22=>ag (eg y22.1 ([93]:ByS)) λy23=>br y23 (gd (cD (OD.2+1)) (ag (cX (OD.2+1) y22.2) λy26=>ag (eg y26.1 ([58]:ByS)) λy27=>.ok (y27,y26.2))) (.ok (false,y22.2)))) n (H s T a b k q,j)) (z,H s T a b k q):=by
 obtain ⟨w,nx,hw⟩:=h;have g1:=nx.le;have g2:=nx.lt;have g0:=nx.a0;have tb:∀ {β γ:Type} {x:aG β} {c:β} {f:β->aG γ} {d:γ},Tk x c->Tk (f c) d->Tk (ag x f) d:=λh h'=>by
  rcases h with rfl|rfl
  ·exact .inl rfl
  exact h'
 refine oW (λ(v:D×Int)=>v.1=H s T a b k q/\j<=v.2/\v.2<=N) ?_ n Ik;rintro ⟨_,v⟩ ⟨rfl,h1,h2⟩ next hn;dsimp only at h1 h2 hn ⊢;by_cases e:v=N
 ·subst e;refine tb (wN hC nx.tk aD) (cA (λh=>aw jk (nx.k7 rfl)) λ_=>tb (wN hC nx.tk aD) ?_);rw[Gk,zU];rcases hw with ⟨rfl,hw⟩|⟨hw,w2,Gf,hz⟩
  ·rw[hw];exact kJ
  rw[hw];refine dY λ_=>tb (wN hC (w:=w2) (by rw[<- Gf];congr 2;omega) aD) ?_;rw[Gk,zU,hz];exact kJ
 obtain ⟨u,hu⟩:∃ u,T[(a+v).toNat]?=some u:=⟨_,aA aD⟩;refine tb (wN hC hu aD) (cA (λ_=>dY λ_=>hn _ Ik) λh=>?_);have h7:=nx.bt (a+v).toNat u aD aD hu;simp[h7] at h
def Sh (hC:PC s T b) (hL:Lx s T) {t:aB} (h0:0<=a) (Ta:T[a.toNat]?=some t) (ht:kx t [91]=true) :
  ∃ z,Pt T b a z/\(∀ {n:Nat} {q:Option ak},Tk (fw n (H s T a b false q)) (z.isSome,H s T a b false q))/\
   ∀ {m:Nat->Nat},bN m->Ev (λi=>jE (m i) (RX s T b a false)) (λr=>r=((z.map (·.1)).getD [],(z.map (·.2.1)).getD 0,(z.map (·.2.2+2)).getD 0,RX s T b a false)) dt:=by
 have nx:=EJ h0 Ta
 have hlen:=hC.pJ
 have l1:=nx.DP hC Xa
 obtain ⟨u,hu⟩:∃ u,T[(a+1).toNat]?=some u:=⟨_,aA aD⟩
 have hu7:u.an≠7:=λh=>by
  have:=(hL.br a.toNat t u Ta (by rw[<- hu];congr 1;omega) h).1
  rw[ht] at this;cases this
 have nu:Nx T true (a+1) (a+1) u:=⟨aD,eL _,hu,λ_=>hu7,λ_=>rfl,λ_ _ _ _=>by omega⟩
 have tb:∀ {β γ:Type} {x:aG β} {c:β} {f:β->aG γ} {d:γ},Tk x c->Tk (f c) d->Tk (ag x f) d:=λh h'=>by
  rcases h with rfl|rfl
  ·exact .inl rfl
  ·exact h'
 have L:∀ {z:Bool},(∀ {n:Nat} {q:Option ak},Tk (jn (λ(v9:D×Int)=>iter (λUf (OD:D×Int)=>ag (cX OD.2 OD.1) λy18=>br (y18.1.an==7) (gd (cD (OD.2+1)) (Uf (y18.2,OD.2+1))) (ag (cX OD.2 y18.2) λy22=>ag (eg y22.1 ([93]:ByS)) λy23=>br y23 (gd (cD (OD.2+1)) (ag (cX (OD.2+1) y22.2) λy26=>ag (eg y26.1 ([58]:ByS)) λy27=>.ok (y27,y26.2))) (.ok (false,y22.2)))) n (v9.1,v9.2)) λj10=>br (!E1 u [115,116,114,105,110,103]) (br (!kx u [61,126]) (.ok (false,H s T a b false q)) (ag (cX 2 (H s T a b false q)) λy38=>br (y38.1.an !=3) (.ok (false,y38.2)) (j10 (y38.2,3)))) (j10 (H s T a b false q,2))) (z,H s T a b false q))->∀ {n:Nat} {q:Option ak},Tk (fw n (H s T a b false q)) (z,H s T a b false q):=by
  intro z hz n q
  unfold fw
  rcases xi (n:=n) (s:=s) (b:=b) (q:=q) nx with e|e
  ·rw[e];exact .inl rfl
  rw[e,zU]
  dsimp only
  rw[Gk,zU,ht]
  refine tb (wN hC hu aD) ?_
  rw[K7,zU]
  have I7:=hz (n:=n) (q:=q)
  cases hw:E1 u [115,116,114,105,110,103] with
  | true=>rw[hw] at I7;exact I7
  | false=>
   rw[hw] at I7
   refine tb (wN hC hu aD) ?_
   rw[Gk,zU]
   exact I7
 have R:∀ {Q:ByS×Int×Int×ah->Prop},(∀ {m:Nat->Nat},bN m->Ev (λi=>br (kx u [61,126]) (gd (cD (a+1 - a+1)) (ag (fX (m i) (a+1 - a+1) (RX s T b a false)) λy37=>ag (cK y37.1 y37.2) λy40=>br (y40.1.an !=3) (.ok (([]:ByS),0,0,y40.2)) (ag (cK y37.1 y40.2) λy44=>ag (cK y37.1 y44.2) λy45=>(λ(v12:ah×Int×ByS×Int)=>gd (cD (v12.2.1+1)) (ag (fX (m i) (v12.2.1+1) v12.1) λy17=>ag (cK y17.1 y17.2) λy20=>ag (cg y20.1 ([93]:ByS)) λy21=>br (!y21) (.ok (([]:ByS),0,0,y20.2)) (gd (cD (y17.1+1)) (ag (cK (y17.1+1) y20.2) λy25=>ag (cg y25.1 ([58]:ByS)) λy26=>br (!y26) (.ok (([]:ByS),0,0,y25.2)) (gd (cD (y17.1+2)) (.ok (v12.2.2.1,v12.2.2.2,y17.1+2,y25.2))))))) (y45.2,y37.1,y44.1.bJ,y45.1.cG)))) (br (!E1 u [115,116,114,105,110,103]) (.ok (([]:ByS),0,0,RX s T b a false)) ((λ(v12:ah×Int×ByS×Int)=>gd (cD (v12.2.1+1)) (ag (fX (m i) (v12.2.1+1) v12.1) λy17=>ag (cK y17.1 y17.2) λy20=>ag (cg y20.1 ([93]:ByS)) λy21=>br (!y21) (.ok (([]:ByS),0,0,y20.2)) (gd (cD (y17.1+1)) (ag (cK (y17.1+1) y20.2) λy25=>ag (cg y25.1 ([58]:ByS)) λy26=>br (!y26) (.ok (([]:ByS),0,0,y25.2)) (gd (cD (y17.1+2)) (.ok (v12.2.2.1,v12.2.2.2,y17.1+2,y25.2))))))) (RX s T b a false,a+1 - a,([46,42]:ByS),(-1))))) Q dt)->∀ {m:Nat->Nat},bN m->Ev (λi=>jE (m i) (RX s T b a false)) Q dt:=by
  intro Q hQ m hm
  unfold jE
  refine ai (yZ hC (w:=t) (by rw[Int.add_zero];exact Ta) aD) ?_
  rintro _ rfl
  refine ai (AT b t [91]) ?_
  rintro _ rfl
  rw[ht]
  refine aH (ai (O9 hm hC h0 nu) ?_)
  rintro _ rfl
  have ea:a+(a+1 - a)=a+1:=by omega
  refine cW (ai (yZ hC (w:=u) (by dsimp only;rw[ea];exact hu) eZ) ?_)
  rintro _ rfl
  refine ai (AT b u [61,126]) ?_
  rintro _ rfl
  have hq:=hQ hm
  cases ho:kx u [61,126] with
  | true=>rw[ho] at hq;exact hq
  | false=>
   rw[ho] at hq
   refine aH (ai (yZ hC (w:=u) (by dsimp only;rw[ea];exact hu) eZ) ?_)
   rintro _ rfl
   refine ai (nU (r:=.ok (E1 u [115,116,114,105,110,103])) (N:=0) (λ_ _=>K8 b u _) (Q:=λr=>r=E1 u [115,116,114,105,110,103]) rfl) ?_
   rintro _ rfl
   exact hq
 have fin:∀ {m:Nat->Nat} {j N p:Int} {l:ByS} {z:Bool},bN m->1<=j->j<=3->Cb T a j z N->Ev (λi=>(λ(v12:ah×Int×ByS×Int)=>gd (cD (v12.2.1+1)) (ag (fX (m i) (v12.2.1+1) v12.1) λy17=>ag (cK y17.1 y17.2) λy20=>ag (cg y20.1 ([93]:ByS)) λy21=>br (!y21) (.ok (([]:ByS),0,0,y20.2)) (gd (cD (y17.1+1)) (ag (cK (y17.1+1) y20.2) λy25=>ag (cg y25.1 ([58]:ByS)) λy26=>br (!y26) (.ok (([]:ByS),0,0,y25.2)) (gd (cD (y17.1+2)) (.ok (v12.2.2.1,v12.2.2.2,y17.1+2,y25.2))))))) (RX s T b a false,j - 1,l,p)) (λr=>r=if z=true then (l,p,N+2,RX s T b a false) else (([]:ByS),0,0,RX s T b a false)) dt:=by
  rintro m j N p l z hm j1 j2 ⟨w,nw,hw⟩
  have g1:=nw.lt
  dsimp only
  refine aF (ai (O9 hm hC h0 (j:=j - 1+1) (by rw[show a+(j - 1+1)=a+j by omega];exact nw)) ?_)
  rintro _ rfl
  dsimp only
  rw[show a+N - a=N by omega]
  refine ai (yZ hC nw.tk nw.ge) ?_
  rintro _ rfl
  refine ai (AT b w [93]) ?_
  rintro _ rfl
  rcases hw with ⟨rfl,hw⟩|⟨hw,w2,Gf,hz⟩
  ·rw[hw]
   exact ba uY
  ·rw[hw]
   have:=nw.ge
   refine aH (aF (ai (yZ hC (w:=w2) (by rw[<- Gf];congr 2;omega) aD) ?_))
   rintro _ rfl
   refine ai (AT b w2 [58]) ?_
   rintro _ rfl
   rw[hz]
   cases z with
   | true=>exact aH (aF uY)
   | false=>exact ba uY
 cases hw:E1 u [115,116,114,105,110,103] with
 | true=>
  have k1:=(Gx hw).1
  have l2:=nu.DP hC aD
  have ho:kx u [61,126]=false:=by simp[kx,k1]
  obtain ⟨z,N,hc⟩:=ado hC (a:=a) (j:=2) aD aD
  refine ⟨if z=true then some ([46,42],-1,N) else none,?_,?_,?_⟩
  ·cases z with
   | true=>exact .yes (.str hu hw) hc
   | false=>exact .no
  ·refine L (z:=Option.isSome (if z=true then some ([46,42],-1,N) else none)) λ{n q}=>?_
   rw[hw,show Option.isSome (if z=true then some (([46,42]:ByS),(-1:Int),N) else none)=z by cases z<;>rfl]
   exact æ hC h0 hc
  ·refine R λ{m} hm=>?_
   rw[hw,ho,show a+1 - a=2 - 1 by omega]
   refine aH (aH ((fin hm dN dN hc).oB λr hr=>?_))
   rw[hr]
   cases z<;>rfl
 | false=>
  cases ho:kx u [61,126] with
  | false=>
   refine ⟨none,.no,L (z:=false) λ{n q}=>?_,R λ{m} hm=>?_⟩
   ·rw[hw,ho];exact kJ
   ·rw[hw,ho];exact aH (ba uY)
  | true=>
   have k1:=(lC ho).1
   have l2:=nu.DP hC aD
   obtain ⟨v,hv⟩:∃ v,T[(a+2).toNat]?=some v:=⟨_,aA aD⟩
   have hv7:v.an≠7:=λh=>by
    have:=(hL.br (a+1).toNat u v hu (by rw[<- hv];congr 1;omega) h).2
    rw[ho] at this;cases this
   have nv:Nx T true (a+2) (a+2) v:=⟨aD,eL _,hv,λ_=>hv7,λ_=>rfl,λ_ _ _ _=>by omega⟩
   by_cases h3:v.an=3
   ·have h3':(v.an !=3)=false:=by simp[h3]
    have l3:=nv.DP hC aD
    obtain ⟨z,N,hc⟩:=ado hC (a:=a) (j:=3) aD aD
    refine ⟨if z=true then some (v.bJ,v.cG+b,N) else none,?_,?_,?_⟩
    ·cases z with
     | true=>exact .yes (.re hu ho hv h3) hc
     | false=>exact .no
    ·refine L (z:=Option.isSome (if z=true then some (v.bJ,v.cG+b,N) else none)) λ{n q}=>?_
     rw[hw,ho,show Option.isSome (if z=true then some (v.bJ,v.cG+b,N) else none)=z by cases z<;>rfl]
     refine tb (wN hC hv aD) ?_
     dsimp only
     rw[h3']
     exact æ hC h0 hc
    ·refine R λ{m} hm=>?_
     rw[ho,show a+1 - a+1=2 by omega]
     refine ba (dB dN (ai (O9 hm hC h0 (j:=2) nv) ?_))
     rintro _ rfl
     have e2:a+(a+2 - a)=a+2:=by omega
     refine ai U5 ?_
     rintro _ rfl
     refine ay (λh=>aw h (by simp[oL,h3])) λ_=>ai U5 ?_
     rintro _ rfl
     refine ai U5 ?_
     rintro _ rfl
     dsimp only [oL]
     rw[show a+2 - a=3 - 1 by omega]
     refine (fin hm dN dN hc).oB λr hr=>?_
     rw[hr]
     cases z<;>rfl
   ·have h3':(v.an !=3)=true:=by simpa using h3
    refine ⟨none,.no,L (z:=false) λ{n q}=>?_,R λ{m} hm=>?_⟩
    ·rw[hw,ho]
     refine tb (wN hC hv aD) ?_
     dsimp only
     rw[h3']
     exact kJ
    ·rw[ho,show a+1 - a+1=2 by omega]
     refine ba (dB dN (ai (O9 hm hC h0 (j:=2) nv) ?_))
     rintro _ rfl
     have e2:a+(a+2 - a)=a+2:=by omega
     refine ai U5 ?_
     rintro _ rfl
     exact ay U9 λh=>aw Ti h3
end
def asB (b:Bool) (x y:aG α) (f:α->aG β):ag (aG.br b x y) f=aG.br b (ag x f) (ag y f):=by cases b<;>rfl
def asG (p:Prop) [Decidable p] (x:aG α) (f:α->aG β):ag (aG.gd p x) f=aG.gd p (ag x f):=by
 unfold aG.gd;split<;>rfl
section
variable {T:List aB} {m:Nat->Nat}
variable {N:Int}
def Cb.pg (hC:PC s T b) (h0:0<=a) (Ta:T[a.toNat]?=some t) (ht:kx t [91]=true) (hp:Pg T (a+1) (a+j)) (hc:Cb T a j true N) :
  Pg T a (a+N+2)/\Lz T false (a+N+2)/\∃ w w2,Nx T true (a+j) (a+N) w/\kx w [93]=true/\T[(a+N+1).toNat]?=some w2/\kx w2 [58]=true:=by
 obtain ⟨w,nw,hw⟩:=hc
 rcases hw with ⟨h,_⟩|⟨hw,w2,Gf,hz⟩
 ·cases h
 have g0:=nw.ge
 obtain ⟨p1,_⟩:=(EJ h0 Ta).pair hC (Bs (.inr (.inl ht))) (hp.trans nw.pg) nw.tk (Bt (.inr (.inl hw)))
 have n2:=EJ aD Gf
 have k2:=(lC hz).1
 refine ⟨?_,?_,w,w2,nw,hw,Gf,hz⟩
 ·rw[show a+N+2=a+N+1+1 by omega]
  exact p1.trans (n2.read hC aD (CJ hz dN))
 ·rw[show a+N+2=a+N+1+1 by omega]
  exact n2.lz aD
def Ug (hC:PC s T b) (hL:Lx s T) (s9:∀ j,j<n->XF s T b (aW j) ax) (hRe:∀ {n:Nat} {m:Nat->Nat} {x:ByS},bN m->LK (oG n x) (λi=>la (m i) x) (λy z=>(z.2.dX=0↔y.2.dX=0)) (λ_ _=>False)) (hT:∀ {m:Nat->Nat},bN m->Ev (λi=>la (m i) [46,42]) (λ_=>True) dt) {p:Int} {d:aK} {l:ByS} (hm:bN m) (h0:0<=a) (Ta:T[a.toNat]?=some t) (ht:kx t [91]=true) (hd:g d) (hk:Pk T b a l p j) (hc:Cb T a j true N) :
  LK (fZ n c (H s T a b false none) d) (λi=>jn (λ(v9:Unit)=>gd (cD (a+(N+2))) (ag (ax (m i) c (RX s T b (a+(N+2)) false)) λy17=>.ok ((aK.mk 2 d.cS l d.B d.bE [y17.1] d.jf d.J d.oO d.iG d.cG),y17.2))) λj10=>ag (la (m i) l) λy20=>br (decide (p>=0)) (br (y20.2.dX !=0) (ag (bO p (RX s T b a false)) λy25=>.ok (d,y25)) (j10 ())) (j10 ())) (VP s T b a) (WC s T b):=by
 rcases n with _|n
 ·exact dc
 show LK (js n (R n) c (H s T a b false none) d) _ _ _
 unfold js mN mM jg
 have nx:=EJ h0 Ta
 have hlen:=hC.pJ
 have l1:=nx.DP hC Xa
 refine gU (Sb nx ht) (mr ?_)
 simp only[aG.jn,ZB,asB,asG,zU]
 have go:∀ {F:Nat->aG (aK×ah)} {w w2:aB} (h:Pg T a (a+N+2)) (hz:Lz T false (a+N+2)) (nw:Nx T true (a+j) (a+N) w) (hw:kx w [93]=true) (Gf:T[(a+N+1).toNat]?=some w2) (ho:kx w2 [58]=true),
   LK (ag (cz n [93] (H s T (a+j) b true none)) λy6=>gd (cD (y6.bB+1)) (ag (cT n ([58]:ByS) (D.mk y6.bM y6.M (y6.bB+1) y6.base false y6.Z)) λy10=>ag (aW n c y10) λy11=>.ok (y11.2,(aK.mk 2 d.cS l d.B d.bE [y11.1] d.jf d.J d.oO d.iG d.cG))))
    (λi=>gd (cD (a+(N+2))) (ag (ax (m i) c (RX s T b (a+(N+2)) false)) λy17=>.ok ((aK.mk 2 d.cS l d.B d.bE [y17.1] d.jf d.J d.oO d.iG d.cG),y17.2))) (VP s T b a) (WC s T b):=by
  intro F w w2 h hz nw hw Gf ho
  have g0:=nw.ge
  have g1:=h.lt
  refine gU (JC nw hw) (bK λ_=>gU (Sb (EJ eZ Gf) ho) (bW yJ ?_))
  rw[show a+(N+2)=a+N+1+1 by omega]
  rw[show a+N+2=a+N+1+1 by omega] at h
  refine cq (s9 n aD hm eZ h.lt .no) ?_ ?_
  ·rintro _ _ ⟨e,a4,rfl,rfl,Lf,z4,he⟩
   exact bZ ⟨_,a4,rfl,rfl,h.trans Lf,z4,hd.w.one he⟩
  ·exact Š
 cases hk with
 | @str u hu hw=>
  have k1:=(Gx hw).1
  have nu:Nx T true (a+1) (a+1) u:=acB
  have pu:Pg T (a+1) (a+2):=by
   rw[show a+2=a+1+1 by omega]
   exact nu.read hC aD Il
  obtain ⟨h,hz,w,w2,nw,hw,Gf,ho⟩:=Cb.pg hC h0 Ta ht pu hc
  refine gU (Ù nu (by simp[kx,k1])) (aI dC λ_=>?_)
  refine wK (hT hm) λz _=>aJ dC λ_=>bK λ_=>?_
  have:=go (F:=λ_=>.stuck) h hz nw hw Gf ho
  rw[show a+2=a+1+1 by omega] at this
  exact this
 | @re u v hu hou hv hkv=>
  have k1:=(lC hou).1
  have nu:Nx T true (a+1) (a+1) u:=acB
  have Gw:T[(a+1+1).toNat]?=some v:=by rw[<- hv];congr 2;omega
  have nv:Nx T true (a+1+1) (a+1+1) v:=⟨aD,eL _,Gw,λ_=>by omega,λ_=>rfl,λ_ _ _ _=>by omega⟩
  have pu:Pg T (a+1) (a+3):=by
   rw[show a+3=a+1+1+1 by omega]
   exact (nu.read hC aD (CJ hou dN)).trans (nv.read hC aD Il)
  obtain ⟨h,hz,w,w2,nw,hw,Gf,ho⟩:=Cb.pg hC h0 Ta ht pu hc
  have vp:=(hC.tok hv).1
  have:=hC.b0
  refine rG nu (λ_=>aI (λ_=>?_) dC) λh=>by rw[hou] at h;cases h
  refine gQ nv (cq (hRe hm) (λy z hyz=>?_) λ_ _ h=>h.elim)
  refine aJ (λ_=>?_) λh=>aw qk aD
  refine aI (λhy=>nI nv ?_) λhy=>?_
  ·have hz:(z.2.dX !=0)=true:=by
    simp only[bne_iff_ne,ne_eq] at hy ⊢
    exact λh=>hy (hyz.1 h)
   rw[hz]
   exact ba (bI (a:=RF s T b a false (v.cG+b)) rfl (aj ⟨_,rfl,nx.fs⟩))
  ·have hz:(z.2.dX !=0)=false:=by
    simp only[bne_eq_false_iff_eq] at hy ⊢
    exact hyz.2 hy
   rw[hz]
   refine aJ dC λ_=>bK λ_=>?_
   have:=go (F:=λ_=>.stuck) h uX nw hw Gf ho
   rw[show a+3=a+1+1+1 by omega] at this
   exact this
def ç (hC:PC s T b) (s9:∀ j,j<n->XF s T b (aW j) ax) {pos:Int} (hm:bN m) (h0:0<=a) (Ta:T[a.toNat]?=some t) (hk:t.an=3\/t.an=1) :
  LK (iq n c (H s T a b false none) (aK.mk 0 0 [] [] [] [] [] [] [] [] pos)) (λi=>ag (bu (m i) (RX s T b a false)) λy14=>jn (λ(Wc:ah×aK)=>ag (cF (m i) ([58]:ByS) Wc.1) λy19=>ag (ax (m i) c y19) λy20=>.ok ((aK.mk Wc.2.an Wc.2.cS Wc.2.jb Wc.2.B Wc.2.bE [y20.1] [] [] [] Wc.2.iG Wc.2.cG),y20.2)) λj16=>ag (aY (m i) y14.2) λy23=>ag (cg y23.1 ([63]:ByS)) λy24=>br y24 (ag (bu (m i) y23.2) λy27=>j16 (y27.2,(aK.mk 1 3 t.bJ [] [] [] [] [] [] [] pos))) (ag (aY (m i) y23.2) λy29=>ag (cg y29.1 ([33]:ByS)) λy30=>br y30 (ag (bu (m i) y29.2) λy33=>j16 (y33.2,(aK.mk 1 2 t.bJ [] [] [] [] [] [] [] pos))) (j16 (y29.2,(aK.mk 1 1 t.bJ [] [] [] [] [] [] [] pos))))) (VP s T b a) (WC s T b):=by
 rcases n with _|n
 ·exact dc
 show LK (ko n (R n) c (H s T a b false none) _) _ _ _
 unfold ko
 have nx:=EJ h0 Ta
 have hlen:=hC.pJ
 have l1:=nx.DP hC aD
 have pr:=nx.read hC aD Il
 refine gQ nx (bK λ_=>bn (qK hm hC nx aD) ?_)
 obtain ⟨u,hu⟩:∃ u,T[(a+1).toNat]?=some u:=⟨_,aA aD⟩
 have nu:=EJ aD hu
 refine LK.jn2 (λv w=>∃ e a',v=(H s T a' b false none,e)/\w=(RX s T b a' false,e)/\Pg T a a'/\e.jf=[]/\e.J=[]/\e.oO=[]/\e.iG=[]) (λ_ _=>False) ?_ (λ_ _ h=>h.elim) λj j' hj _=>?_
 ·rintro _ _ ⟨e,a',rfl,rfl,pg,e1,e2,e3,e4⟩
  have g0:=pg.le
  obtain ⟨w,hw⟩:∃ w,T[a'.toNat]?=some w:=⟨_,aA (by have:=pg.lt;omega)⟩
  have nw:=EJ aD hw
  dsimp only
  refine LK.expect hm hC nw (λho=>?_) λv r hr=>ai adO λr hr=>aj Zs
  refine cq (s9 n aD hm aD (nw.DP hC (by have:=(lC ho).1;omega)) .no) ?_ ?_
  ·rintro _ _ ⟨x,a4,rfl,rfl,Lf,z4,hx⟩
   refine bZ ⟨_,a4,rfl,?_,(pg.trans (nw.read hC (by have:=(lC ho).1;omega) (CJ ho dN))).trans Lf,z4,?_⟩
   ·dsimp only;rw[e1,e2,e3]
   ·dsimp only;rw[e1,e2,e3,e4]
    exact .new bm bm bm bm Gq DY bm
  ·exact Š
 ·refine bn (kF hm hC nu) (bn (AT b u [63]) (rG nu (λho=>?_) λho=>?_))
  ·exact ahr
  ·rw[ho]
   refine aI dC λ_=>aJ dC λ_=>?_
   refine bn (kF hm hC nu) (bn (AT b u [33]) (rG nu (λho=>?_) λho=>?_))
   ·exact ahr
   ·rw[ho]
    exact aI dC λ_=>aJ dC λ_=>hj _ _ ⟨_,a+1,rfl,rfl,pr,rfl,rfl,rfl,rfl⟩
end
structure Sz (l:List aK) (tl:List ByS):Prop where
 l1:l.length<=70000
 l2:∀ d,d∈l->g d
 t1:tl.length<=70000
 t2:∀ x,x∈tl->x.length<=65536
def VK (s:ByS) (T:List aB) (b:Int) (k:Bool) (a:Int) (r:List aK×List ByS×D) (y:List aK×List ByS×ah):Prop:=∃ l tl a',r=(l,tl,H s T a' b k none)/\y=(l,tl,RX s T b a' k)/\Pg T a a'/\Lz T k a'/\Sz l tl
def WK (s:ByS) (T:List aB) (b:Int) (p:sT) (y:List aK×List ByS×ah):Prop:=∃ v,p=PF v/\FS s T b v y.2.2/\Sz y.1 y.2.1
def XD (s:ByS) (T:List aB) (b:Int) (n:Nat):Prop:=∀ {m:Nat->Nat} {c:Bool} {a:Int} {t:aB},bN m->0<=a->T[a.toNat]?=some t->t.an≠0->t.an≠6->t.an≠7->kx t [44]=false->kx t [125]=false->LK (fe n c (H s T a b false none)) (λi=>cE (m i) c (RX s T b a false)) (VC s T b a) (WC s T b)
def XX (s:ByS) (T:List aB) (b:Int):Prop:=∀ {m:Nat->Nat} {c:Bool} {a:Int} {t:aB},bN m->0<=a->T[a.toNat]?=some t->Ed t->Ev (λi=>cE (m i) c (RX s T b a false)) (λr=>FS s T b (t.cG+b) r.2) dt
section
variable {T:List aB} {m:Nat->Nat}
def Sz.nil:Sz [] []:=⟨bm,bm,bm,bm⟩
variable {y:ah}
def JX {l:List ByS} {E:ByS} (hm:bN m) (h:FS s T b v y):Ev (λi=>lL (m i) c l E y) (λr=>r.1=[]/\r.2.1=[]/\FS s T b v r.2.2) dt:=by
 unfold lL Cz oz jU tG;exact qY hm λ_=>bI (AU h) (aH (aj ⟨rfl,rfl,h⟩))
def FS.sk (h:FS s T b v y):FS s T b v (ah.mk y.s y.shift y.l y.bB k y.iR y.qW):=by
 obtain ⟨a,k',rfl,h⟩:=h;exact ⟨a,k,rfl,h⟩
def Si (hm:bN m) (hC:PC s T b) (h:FS s T b v y):Ev (λi=>dq (m i) c y) (λr=>r.1=[]/\r.2.1=[]/\FS s T b v r.2.2) dt:=by
 refine bV (F:=λi=>dq i c y) hm λm hm=>?_;show Ev (λi=>fD (m i) (ar (m i)) c y) _ _;unfold fD;refine ai (Jv hm hC h) λr hr=>?_;refine ai (Q:=λr=>r.1=[]/\r.2.1=[]/\FS s T b v r.2.2) ?_ λr hr=>ai (Jv hm hC hr.2.2) λz hz=>aj ⟨hr.1,hr.2.1,hz.sk⟩;exact ahE
def Sj (hC:PC s T b) (hL:Lx s T) (ihD:∀ j,j<n->XD s T b j) (hX:XX s T b) (hm:bN m) (h0:0<=a) (h1:a<T.length) :
  LK (eY n c (H s T a b k none)) (λi=>dq (m i) c (RX s T b a k)) (VK s T b k a) (WK s T b):=by
 rcases n with _|n
 ·exact dc
 refine jG (F:=λi=>dq i c (RX s T b a k)) hm λm hm=>?_
 show LK (km n (R n) c (H s T a b k none)) (λi=>fD (m i) (ar (m i)) c (RX s T b a k)) _ _
 unfold km fD jg oz
 obtain ⟨a',t,nx⟩:=pZ hC k h0 h1
 have g0:=nx.ge
 refine LK.expect hm hC nx (λho=>?_) λv r hr=>?_
 rotate_left
 ·refine ai (Q:=λr=>r.1=[]/\r.2.1=[]/\FS s T b v r.2.2) ?_ λr hr=>ai (Jv hm hC hr.2.2) λz hz=>aj ⟨v,rfl,hz.sk,by rw[hr.1,hr.2.1];exact .nil⟩
  exact ahE
 have hk:=(lC ho).1
 have l1:=nx.DP hC aD
 rcases n with _|_|_|n
 ·exact dc
 ·exact dc
 ·exact dc
 show LK (ag (ag (ag (iv n [] c (H s T (a'+1) b false none)) λy2=>ag (cz (n+1) ([125]:ByS) y2.2.2) λy3=>.ok (c,y2.1,y2.2.1,y3)) λy4=>.ok ((D.mk y4.2.2.2.bM y4.2.2.2.M y4.2.2.2.bB y4.2.2.2.base k y4.2.2.2.Z),y4.1,y4.2.1,y4.2.2.1)) λy7=>gd (cD (y7.1.bB+1)) (.ok (y7.2.2.1,y7.2.2.2,(D.mk y7.1.bM y7.1.M (y7.1.bB+1) y7.1.base y7.1.skip y7.1.Z)))) (λi=>ag (de (m i) c [125] (RX s T b (a'+1) false)) λy7=>ag (cF (m i) ([125]:ByS) y7.2.2) λy9=>.ok (y7.1,y7.2.1,(ah.mk y9.s y9.shift y9.l y9.bB k y9.iR y9.qW))) (VK s T b k a) (WK s T b)
 simp only[ZB,zU]
 have key:LK (iv n [] c (H s T (a'+1) b false none)) (λi=>de (m i) c [125] (RX s T b (a'+1) false)) (VD2 s T b (a'+1) [125]) (â s T b):=by
  refine jG (F:=λi=>de i c [125] (RX s T b (a'+1) false)) hm λm hm=>?_
  exact ä hC hL (.inr rfl) (λhm h0=>ihD n aD hm h0) (λhm h0=>hX hm h0) hm aD l1 rI bm
 refine cq key ?_ ?_
 ·rintro _ y ⟨l,tl,a2,t2,rfl,pg,ht2,q1,q2,q3,q4,hM⟩
  have p0:=pg.le
  have n2:=EJ aD ht2
  have eM:Mt [125] t2=kx t2 [125]:=by unfold Mt;rw[aC dN]
  rw[eM] at hM
  have sz:Sz l tl:=⟨aD,q2,aD,q4⟩
  rcases hM with ⟨ho2,rfl⟩|⟨ho2,e1,e2,hf⟩
  ·obtain ⟨pp,lz⟩:=nx.pair hC (Bs (.inr (.inr ho))) pg ht2 (Bt (.inr (.inr ho2)))
   refine gU (JC n2 ho2) (bK λ_=>bn (Ns hm hC n2 ho2) ?_)
   exact bZ ⟨l,tl,a2+1,rfl,rfl,pp,lz,sz⟩
  ·unfold cz
   simp only[ZB]
   refine gQ n2 (lB ?_)
   rw[ho2]
   simp only[asB,ZB]
   refine aI (λ_=>nI n2 ?_) dC
   exact acR
 ·rintro _ y ⟨v,rfl,e1,e2,hf⟩
  exact acR
def Yh (hC:PC s T b) (hL:Lx s T) (ihD:∀ j,j<n->XD s T b j) (hX:XX s T b) {a':Int} {t:aB} (hm:bN m) (nx:Nx T k a a' t) (ht:kx t [123]=true) :
  LK (ag (fN n c (H s T a' b k none)) λy=>.ok (y.1,y.2)) (λi=>aG.jn (λ(v53:ak)=>ag (dq (m i) c (RX s T b a' k)) λy57=>.ok ((ak.mk v53.an v53.bJ v53.U v53.B v53.bE [] y57.1 y57.2.1 v53.cG),y57.2.2)) λj54=>aG.br c (j54 ((ak.mk 13 [] 0 [] [] [] [] [] (t.cG+b)))) (j54 ((ak.mk 22 [] 0 [] [] [] [] [] (t.cG+b))))) (VX s T b k a) (WX s T b):=by
 rcases n with _|n
 ·exact dc
 show LK (ag (jL n (R n) c (H s T a' b k none)) _) _ _ _
 unfold jL
 simp only[ZB,asB,aG.jn]
 refine rH nx.self ?_
 have sm:∀ {K:Int} {l:List aK} {tl:List ByS},K≠16->Sz l tl->ij (ak.mk K [] 0 [] [] [] l tl (t.cG+b)):=λhK h=>.mk bm h.l1 h.t1 h.t2 (λe=>aw e hK) bm h.l2
 have go:∀ {K:Int},K≠16->LK (ag (eY n c (H s T a' b k none)) λy8=>.ok ((ak.mk K [] 0 [] [] [] y8.1 y8.2.1 (t.cG+b)),y8.2.2)) (λi=>ag (dq (m i) c (RX s T b a' k)) λy57=>.ok ((ak.mk K [] 0 [] [] [] y57.1 y57.2.1 (t.cG+b)),y57.2.2)) (VX s T b k a) (WX s T b):=by
  intro K hK
  refine cq (Sj hC hL (λj hj=>ihD j aD) hX hm nx.ge nx.lt) ?_ ?_
  ·rintro _ _ ⟨l,tl,a2,rfl,rfl,pg,lz,sz⟩
   exact bZ ⟨_,a2,rfl,rfl,nx.pg.trans pg,lz,sm hK sz⟩
  ·rintro _ y ⟨v,rfl,hf,sz⟩
   exact aj ⟨v,rfl,hf,sm hK sz⟩
 cases c with
 | true=>exact go (K:=13) dN
 | false=>exact go (K:=22) dN
end
section
variable {T:List aB} {m:Nat->Nat}
def Lj (b:Int) (t:aB) (x:ByS):Ev (λ_=>kt (oL b t) x) (λr=>r=E1 t x) dt:=nU (r:=.ok (E1 t x)) (N:=0) (λ_ _=>K8 b t x) rfl
def è (hm:bN m) (h1:t.an≠1) (h3:t.an≠3):Ev (λi=>qd (m i) (oL b t)) (λr=>r=false) dt:=by
 unfold qd;refine ai (T6 (n:=0) (y:=false) hm (λq=>aw q h1) λ_=>rfl) ?_;rintro _ rfl;exact aH (aj (by simpa[oL] using h3))
def Pa {c:Bool} {d:aK} (hm:bN m) (hC:PC s T b) (nx:Nx T false a a t) (ht:kx t [40]=false) {Q:aK×ah->Prop} (h:∀ {m:Nat->Nat},bN m->Ev (λi=>Ud (m i) d c (RX s T b a false)) Q dt):Ev (λi=>eP (m i) d c (RX s T b a false)) Q dt:=by
 refine bV (F:=λi=>eP i d c (RX s T b a false)) hm λm hm=>?_;show Ev (λi=>iP (m i) (ar (m i)) d c (RX s T b a false)) _ _;unfold iP jg;refine cW (ai Ju ?_);rintro _ rfl;refine ai (AT b t [40]) ?_;rintro _ rfl;rw[ht];exact aH (h hm)
def é (hC:PC s T b):XX s T b:=by
 intro m c a t hm h0 ht hE;have nx:=EJ h0 ht;refine bV (F:=λi=>cE i c (RX s T b a false)) hm λm hm=>?_;show Ev (λi=>fg (m i) (ar (m i)) c (RX s T b a false)) _ _;unfold fg;have hk:=hE.ki;have no:∀ {x:ByS} {F G:Nat->aG (aK×ah)},x≠[125]->Ev G (λr=>FS s T b (t.cG+b) r.2) dt->Ev (λi=>ag (cg (oL b t) x) λy=>aG.br y (F i) (G i)) (λr=>FS s T b (t.cG+b) r.2) dt:=λhx hG=>ai (AT b t _) λy hy=>by
  rw[hE.no hx] at hy;subst hy;exact aH hG
 have nw:∀ {x:ByS} {F G:Nat->aG (aK×ah)},Ev G (λr=>FS s T b (t.cG+b) r.2) dt->Ev (λi=>ag (kt (oL b t) x) λy=>aG.br y (F i) (G i)) (λr=>FS s T b (t.cG+b) r.2) dt:=λ{x F G} hG=>ai (Lj b t x) λy hy=>by
  rw[show E1 t x=false by simp[E1];omega] at hy;subst hy;exact aH hG
 refine ai Ju ?_;rintro _ rfl;refine cW (ai (è hm aD aD) ?_);rintro _ rfl;refine aH (aH (no dN (nw (nw (nw (no dN ?_))))));refine ai (Q:=λr=>FS s T b (t.cG+b) r.2) ?_ λr hr=>aj hr;refine Pa hm hC nx (hE.no dN) λhm=>?_;unfold Ud;exact ai (Hg hm hC (hE.dn hC nx)) λr hr=>aj hr.1
def Sl {q:Option ak} (nx:Nx T false a a t) (ht:kx t [91]=false):Tk (fw n (H s T a b false q)) (false,H s T a b false q):=by
 unfold fw;rcases xi (n:=n) (s:=s) (b:=b) (q:=q) nx with e|e
 ·rw[e];exact .inl rfl
 rw[e,zU];dsimp only;rw[Gk,zU,ht];exact kJ
def abv (hC:PC s T b) (hL:Lx s T) (s9:∀ j,j<n->XF s T b (aW j) ax) (ihD:∀ j,j<n->XD s T b j)
  (hRe:∀ {n:Nat} {m:Nat->Nat} {x:ByS},bN m->LK (oG n x) (λi=>la (m i) x) (λy z=>(z.2.dX=0↔y.2.dX=0)) (λ_ _=>False)) (hT:∀ {m:Nat->Nat},bN m->Ev (λi=>la (m i) [46,42]) (λ_=>True) dt):XD s T b n:=by
 intro m c a t hm h0 ht F2 hk6 ON hc44 hc125
 rcases n with _|n
 ·exact dc
 refine jG (F:=λi=>cE i c (RX s T b a false)) hm λm hm=>?_
 show LK (kX n (R n) c (H s T a b false none)) (λi=>fg (m i) (ar (m i)) c (RX s T b a false)) _ _
 unfold kX fg
 have nx:=EJ h0 ht
 have l1:=nx.DP hC F2
 obtain ⟨u,hu⟩:∃ u,T[(a+1).toNat]?=some u:=⟨_,aA aD⟩
 have d0:g (aK.mk 0 0 [] [] [] [] [] [] [] [] (t.cG+b)):=.new bm bm bm bm bm bm bm
 have d1:∀ {K P:Int} {L x y:ByS} {e:ak} {l:List aK} {tl:List ByS},ij e->Sz l tl->g (aK.mk K P L x y [e] l tl [] [] (t.cG+b)):=λhe sz=>.new bm sz.l1 sz.t1 sz.t2 (λ_=>by simp) Dh sz.l2
 refine gQ nx (rH nx (gU (wN hC hu aD) (bn (kF hm hC nx) ?_)))
 refine fP ?_
 have P2:∀ {x:aG (D×aK)} {F:Nat->aG (aK×ah)},LK x F (VP s T b a) (WC s T b)->LK (ag x λy=>.ok (y.2,y.1)) F (VC s T b a) (WC s T b):=λh=>sQ h (λr y hy=>⟨λ_ e=>by cases e;exact aj hy,λ_ e=>by cases e⟩) λ_ _ h=>h
 refine LK.jn2 (λ(v:Bool) (w:ah×Bool)=>w=(RX s T b a false,v)/\(v=true->t.an=3\/t.an=1)) (λ_ _=>False) ?_ (λ_ _ h=>h.elim) λj j' hj _=>?_
 rotate_left
 ·refine LK.label hm λy hy=>?_
  cases y with
  | false=>exact aI dC λ_=>aJ dC λ_=>hj _ _ ⟨rfl,λh=>by cases h⟩
  | true=>
   refine aI (λ_=>aJ (λ_=>bn (yZ hC hu aD) (bn (NH hm dN) (gU (E2 (l:=[[58],[63],[33]]) rfl) ?_))) dC) dC
   exact hj _ _ ⟨rfl,λ_=>hy rfl⟩
 rintro lb _ ⟨rfl,hlb⟩
 dsimp only
 cases lb with
 | true=>exact aI (λ_=>aJ (λ_=>P2 (ç (t:=t) hC (λj hj=>s9 j aD) hm h0 ht (hlb rfl))) λh=>by cases h) λh=>by cases h
 | false=>
  refine aI dC λ_=>aJ dC λ_=>?_
  have emb:∀ {m:Nat->Nat},bN m->LK (ag (aW n c (H s T a b false none)) λy74=>.ok ((aK.mk 3 0 [] [] [] [y74.1] [] [] [] [] (t.cG+b)),y74.2)) (λi=>Ud (m i) (aK.mk 0 0 [] [] [] [] [] [] [] [] (t.cG+b)) c (RX s T b a false)) (VC s T b a) (WC s T b):=by
   intro m hm
   unfold Ud
   refine cq (s9 n aD hm h0 aD .no) ?_ ?_
   ·rintro _ _ ⟨e,a4,rfl,rfl,Lf,z4,he⟩
    exact bZ ⟨_,a4,rfl,rfl,Lf,z4,d1 he .nil⟩
   ·rintro _ y ⟨v,rfl,f1,f2⟩
    exact aj ⟨v,rfl,f1⟩
  have emb2:kx t [40]=false->∀ {m:Nat->Nat},bN m->LK (ag (aW n c (H s T a b false none)) λy74=>.ok ((aK.mk 3 0 [] [] [] [y74.1] [] [] [] [] (t.cG+b)),y74.2)) (λi=>eP (m i) (aK.mk 0 0 [] [] [] [] [] [] [] [] (t.cG+b)) c (RX s T b a false)) (VC s T b a) (WC s T b):=λG3 {m} hm=>⟨λr hr=>Pa hm hC nx G3 λhm=>(emb hm).1 r hr,λr hr=>Pa hm hC nx G3 λhm=>(emb hm).2 r hr⟩
  have re:∀ {F:Nat->aG (aK×ah)} {x:aG (aK×D)},LK x F (VC s T b a) (WC s T b)->LK x (λi=>ag (F i) λy=>.ok (y.1,y.2)) (VC s T b a) (WC s T b):=λh=>⟨λr hr=>(h.1 r hr).gZ λy hy=>aj hy,λr hr=>(h.2 r hr).gZ λy hy=>aj hy⟩
  have re2:∀ {F:Nat->aG (aK×ah)} {x:aG (D×aK)},LK x F (VP s T b a) (WC s T b)->LK x (λi=>ag (F i) λy=>.ok (y.1,y.2)) (VP s T b a) (WC s T b):=λh=>⟨λr hr=>(h.1 r hr).gZ λy hy=>aj hy,λr hr=>(h.2 r hr).gZ λy hy=>aj hy⟩
  cases Tb:kx t [91] with
  | true=>
   obtain ⟨k5,t5⟩:=lC Tb
   have w0:∀ x,E1 t x=false:=λx=>by simp[E1,k5]
   have o0:∀ x,x≠[91]->kx t x=false:=λx hx=>by simp[kx,t5,Ne.symm hx]
   obtain ⟨z,hz,hl,hr⟩:=Sh hC hL h0 ht Tb
   refine bn (AT b t [91]) ?_
   rw[Tb]
   refine aJ (λ_=>?_) dC
   refine gU hl ?_
   dsimp only
   have gr:∀ {x:aG (aK×D)},(∀ {m:Nat->Nat},bN m->LK x (λi=>br ((z.map (·.2.2+2)).getD 0==0) (ag (eP (m i) (aK.mk 0 0 [] [] [] [] [] [] [] [] (t.cG+b)) c (RX s T b a false)) λy8=>.ok (y8.1,y8.2)) (jn (λ(v9:Unit)=>gd (cD (a+(z.map (·.2.2+2)).getD 0)) (ag (ax (m i) c (RX s T b (a+(z.map (·.2.2+2)).getD 0) false)) λy17=>.ok ((aK.mk 2 0 ((z.map (·.1)).getD []) [] [] [y17.1] [] [] [] [] (t.cG+b)),y17.2))) λj10=>ag (la (m i) ((z.map (·.1)).getD [])) λy20=>br (decide ((z.map (·.2.1)).getD 0>=0)) (br (y20.2.dX !=0) (ag (bO ((z.map (·.2.1)).getD 0) (RX s T b a false)) λy25=>.ok ((aK.mk 0 0 [] [] [] [] [] [] [] [] (t.cG+b)),y25)) (j10 ())) (j10 ()))) (VC s T b a) (WC s T b))->LK x (λi=>ag (gJ (m i) (aK.mk 0 0 [] [] [] [] [] [] [] [] (t.cG+b)) c (RX s T b a false)) λy38=>.ok (y38.1,y38.2)) (VC s T b a) (WC s T b):=by
    intro x hx
    refine re (jG (F:=λi=>gJ i (aK.mk 0 0 [] [] [] [] [] [] [] [] (t.cG+b)) c (RX s T b a false)) hm λm hm=>?_)
    show LK _ (λi=>jQ (m i) (ar (m i)) (aK.mk 0 0 [] [] [] [] [] [] [] [] (t.cG+b)) c (RX s T b a false)) _ _
    unfold jQ
    exact bn (hr hm) (hx hm)
   refine gr λ{m} hm=>?_
   cases hz with
   | no=>
    refine aI dC λ_=>aJ (λ_=>?_) dC
    refine s5 (aI (λh=>by rw[w0] at h;cases h) λ_=>lB (aI (λh=>by rw[o0 _ dN] at h;cases h) λ_=>s5 (aI (λh=>by rw[w0] at h;cases h) λ_=>s5 (aI (λh=>by rw[w0] at h;cases h) λ_=>lB (aI (λh=>by rw[o0 _ dN] at h;cases h) λ_=>?_)))))
    exact re (emb2 (o0 _ dN) hm)
   | @yes l p j N hk hc=>
    refine aI (λ_=>aJ (λh=>?_) λ_=>?_) dC
    ·have h:N+2=0:=by simpa using h
     obtain ⟨w,nw,_⟩:=hc
     have g1:=nw.le
     have:2<=j:=by cases hk<;>decide
     omega
    ·exact P2 (Ug hC hL (λj hj=>s9 j aD) hRe hT hm h0 ht Tb d0 hk hc)
  | false=>
   refine gU (Sl nx Tb) (bn (AT b t [91]) ?_)
   rw[Tb]
   refine aI dC λ_=>aJ dC λ_=>?_
   dsimp only
   have blk:∀ {K:Int} {x y:ByS} {m:Nat->Nat} {a1:Int},bN m->Pg T a a1->LK (ag (aW n false (H s T a1 b false none)) λy55=>ag (eY n false y55.2) λy56=>.ok ((aK.mk K 0 [] x y [y55.1] y56.1 y56.2.1 [] [] (t.cG+b)),y56.2.2)) (λi=>ag (ax (m i) false (RX s T b a1 false)) λy64=>ag (dq (m i) false y64.2) λy66=>.ok ((aK.mk K 0 [] x y [y64.1] y66.1 y66.2.1 [] [] (t.cG+b)),y66.2.2)) (VC s T b a) (WC s T b):=by
    intro K x y m a1 hm pg
    have:=pg.le
    refine cq (s9 n aD hm aD pg.lt .no) ?_ ?_
    ·rintro _ _ ⟨e,a4,rfl,rfl,Lf,z4,he⟩
     have:=Lf.le
     refine cq (Sj hC hL (λj hj=>ihD j aD) (é hC) hm aD Lf.lt) ?_ ?_
     ·rintro _ _ ⟨l,tl,a5,rfl,rfl,pg5,z5,sz⟩
      exact bZ ⟨_,a5,rfl,rfl,(pg.trans Lf).trans pg5,z5,d1 he sz⟩
     ·rintro _ y ⟨v,rfl,hf,sz⟩
      exact aj ⟨v,rfl,hf⟩
    ·rintro _ y ⟨v,rfl,f1,f2⟩
     exact ai (Si hm hC f1) λr hr=>aj ⟨v,rfl,hr.2.2⟩
   have rd:∀ {F2:t.an≠0},dl t=0->Pg T a (a+1):=λ{F2} hd=>nx.read hC F2 hd
   by_cases hlet:E1 t [108,101,116]=true
   ·obtain ⟨k1,t1⟩:=Gx hlet
    refine s5 (bn (Lj b t _) ?_)
    rw[hlet]
    refine aI (λ_=>aJ (λ_=>?_) dC) dC
    cases c with
    | false=>
     refine fP (aI (λ_=>aJ (λ_=>nI nx ?_) dC) dC)
     exact bI (a:=RF s T b a false (t.cG+b)) rfl (aj ⟨_,rfl,nx.fs⟩)
    | true=>
     refine fP (aI dC λ_=>aJ dC λ_=>bK λ_=>bn (qK hm hC nx F2) ?_)
     have nu:=EJ aD hu
     refine LK.name hm hC nu (λku _=>?_) λv r hr=>ai (Jv hm hC hr) λr hr=>ai (od hm hC hr) λr hr=>aj ⟨v,rfl,hr.1⟩
     have l2:=nu.DP hC aD
     obtain ⟨w,hw⟩:∃ w,T[(a+1+1).toNat]?=some w:=⟨_,aA aD⟩
     have nw:=EJ aD hw
     refine LK.expect hm hC nw (λho=>?_) λv r hr=>ai (od hm hC hr) λr hr=>aj ⟨v,rfl,hr.1⟩
     have kw:=(lC ho).1
     refine cq (s9 n aD hm aD (nw.DP hC aD) .no) ?_ ?_
     ·rintro _ _ ⟨e,a4,rfl,rfl,Lf,z4,he⟩
      exact bZ ⟨_,a4,rfl,rfl,(((nx.read hC F2 (Hu aD)).trans (nu.read hC aD (Hu aD))).trans (nw.read hC aD (CJ ho dN))).trans Lf,z4,d1 he .nil⟩
     ·rintro _ y ⟨v,rfl,f1,f2⟩
      exact aj ⟨v,rfl,f1⟩
   refine s5 (bn (Lj b t _) ?_)
   rw[show E1 t [108,101,116]=false by simpa using hlet]
   refine aI dC λ_=>aJ dC λ_=>?_
   by_cases Yi:kx t [46,46,46]=true
   ·obtain ⟨k5,t5⟩:=lC Yi
    have w0:∀ x,E1 t x=false:=λx=>by simp[E1,k5]
    refine lB (bn (Lj b t _) ?_)
    rw[Yi,w0]
    refine aJ dC λ_=>bn (Lj b t _) ?_
    rw[w0]
    refine aJ dC λ_=>bn (AT b t _) ?_
    rw[Yi]
    refine aI (λ_=>aJ (λ_=>?_) dC) dC
    cases c with
    | false=>
     refine fP (aI (λ_=>aJ (λ_=>nI nx ?_) dC) dC)
     exact bI (a:=RF s T b a false (t.cG+b)) rfl (aj ⟨_,rfl,nx.fs⟩)
    | true=>
     refine fP (aI dC λ_=>aJ dC λ_=>bK λ_=>bn (qK hm hC nx F2) ?_)
     exact bZ ⟨_,a+1,rfl,rfl,nx.read hC F2 (CJ Yi dN),nx.lz ON,.new bm bm bm bm bm bm bm⟩
   refine lB ?_
   rw[show kx t [46,46,46]=false by simpa using Yi]
   refine aI dC λ_=>?_
   refine s5 (bn (Lj b t _) ?_)
   cases hif:E1 t [105,102] with
   | true=>
    refine aI (λ_=>aJ (λ_=>bK λ_=>bn (qK hm hC nx F2) ?_) dC) dC
    exact blk hm (nx.read hC F2 (Hu (by have:=(Gx hif).1;omega)))
   | false=>
    refine aI dC λ_=>aJ dC λ_=>s5 (bn (Lj b t _) ?_)
    cases hfor:E1 t [102,111,114] with
    | true=>
     have p1:=nx.read hC F2 (Hu (by have:=(Gx hfor).1;omega))
     refine aI (λ_=>aJ (λ_=>bK λ_=>bn (qK hm hC nx F2) ?_) dC) dC
     refine LK.names hm hC aD l1 (λa2 y p0 T8 z2=>blk hm (p1.trans T8)) λv r hr=>ai (od hm hC hr) λr hr=>ai (Si hm hC hr.1) λr hr=>aj ⟨v,rfl,hr.2.2⟩
    | false=>
     refine aI dC λ_=>aJ dC λ_=>bn (AT b t _) ?_
     rw[show kx t [46,46,46]=false by simpa using Yi]
     refine aJ dC λ_=>lB ?_
     cases G3:kx t [40] with
     | true=>exact aI (λ_=>P2 (re2 (Ue hC (λj hj=>s9 j aD) hm h0 ht G3 d0))) λh=>by cases h
     | false=>exact aI dC λ_=>re (emb2 G3 hm)
end
section
variable {Y:Type} {V:α->β->Prop} {W:sT->β->Prop} {x:aG α}
def LK.q {x:Nat->aG α} {F:Nat->Nat->aG β} {Q:α->Prop} (hF:∀ m,F m=F m) (h:∀ n,LK (x n) (F 0) V W) (he:Ev x Q dt) (hV:∀ y y' z,V y z->V y' z->y=y') {n:Nat} {y:α} (hx:x n=.ok y):Q y:=by
 obtain ⟨y',hq,N,hN⟩:=he.get;obtain ⟨z,⟨h1,h2⟩,_⟩:=(((h n).1 y hx).both ((h N).1 y' (hN N JN))).get;rw[hV _ _ _ h1 h2];exact hq
def LK.ajh {m:Nat->Nat} (hm:bN m) {wL:Nat->(Y->aG β)->Y->aG β} (I:Y->Prop) (f:Y->Nat) {w:Y} (h0:I w)
   (hb:∀ w,I w->∀ next':Nat->Y->aG β,(∀ w',I w'->f w'<f w->LK x (λi=>next' i w') V W)->LK x (λi=>wL i (next' i) w) V W):LK x (λi=>aG.iter (wL i) (m i) w) V W:=
 ⟨λa e=>bR hm I f h0 λw hw next hn=>(hb w hw next λw' h1 h2=>⟨λa' e'=>(by rw[e] at e';cases e';exact hn w' h1 h2),λp e'=>(by rw[e] at e';cases e')⟩).1 a e,
  λp e=>bR hm I f h0 λw hw next hn=>(hb w hw next λw' h1 h2=>⟨λa' e'=>(by rw[e] at e';cases e'),λp' e'=>(by rw[e] at e';cases e';exact hn w' h1 h2)⟩).2 p e⟩
end
def Lk (z:cy):bP:=bP.mk z.bJ z.Code z.cG
def WE:Prop:=∀ {n:Nat} {m:Nat->Nat} {x:ByS},bN m->LK (pc n x) (λi=>sP (m i) x) (λy z=>z=y/\(y.2.dX=0->Lx x y.1)) (λ_ _=>False)
def afK:Prop:=∀ {n:Nat} {m:Nat->Nat} {x:ByS},bN m->x.length<=65536->LK (pT n x) (λi=>jh (m i) x) (λy z=>y=(z.1.map Lk,z.2)) (λ_ _=>False)
def VQ (r:ak×Bool) (z:ak×Bool):Prop:=z.2=r.2/\(r.2=true->z.1=r.1/\ij r.1)
section
variable {T:List aB} {m:Nat->Nat}
def Nv (hS:WE) {y:List aB×cZ} (h:pc n x=.ok y) (he:y.2.dX=0):afu x y.1/\Lx x y.1:=by
 have h1:=λn=>(hS (n:=n) (x:=x) mf:LK (pc n x) (λi=>sP i x) _ _);have h2:=LK.q (F:=λ_ i=>sP i x) (λ_=>rfl) h1 (BM mf) (λy y' z a b=>a.1.symm.trans b.1) h;obtain ⟨z,hz,_⟩:=((h1 n).1 y h).get;exact ⟨(h2.2.2 he).2,hz.2 he⟩
def Uh {l:List aB}:Tk (fM n l) (l.any λt=>t.an==6):=by
 unfold fM;have key:∃ c:Int,(0<=c↔(l.any λt=>t.an==6)=true)/\Tk (jo n l) c:=by
  refine ⟨match l.findIdx? (λt=>t.an==6) with|some i=>(i:Int)|none=>-1,?_,?_⟩
  ·cases h:l.findIdx? (λt=>t.an==6) with
   | some i=>
    obtain ⟨h1,h2,_⟩:=List.findIdx?_eq_some_iff_getElem.1 h
    simp only[mB]
    exact ⟨λ_=>⟨_,List.getElem_mem h1,h2⟩,λ_=>by omega⟩
   | none=>
    rw[List.findIdx?_eq_none_iff] at h
    refine ⟨λh=>aw h dN,λh'=>?_⟩
    obtain ⟨t,h1,h2⟩:=mB.1 h'
    rw[h t h1] at h2;cases h2
  unfold jo;refine oW (λ(v:Int)=>0<=v/\∀ (i:Nat) t,(i:Int)<v->l[i]?=some t->(t.an==6)=false) (λv hv next hn=>?_) n ⟨aD,λi t h=>by omega⟩;refine cA (λh=>kD λt _ ht=>nG (by unfold uI;rfl) (cA (λh6=>iw ?_) λh6=>dY λ_=>hn _ ⟨aD,λi u hi hu=>?_⟩)) λh=>iw ?_
  ·have e:l.findIdx? (λt=>t.an==6)=some v.toNat:=by
    have gR:=(ao.1 ht);rw[List.findIdx?_eq_some_iff_getElem];refine ⟨gR.1,by rw[gR.2];exact h6,λj hj=>?_⟩;have:=hv.2 j _ (by have:=hv.1;omega) (aA (by have:=gR.1;omega));simp[this]
   rw[e];have:=hv.1;dsimp only;omega
  ·by_cases q:(i:Int)<v
   ·exact hv.2 i u q hu
   rw[show i=v.toNat by have:=hv.1;omega,ht] at hu;cases hu;exact h6
  have Ff:=aU h;have e:l.findIdx? (λt=>t.an==6)=none:=by
   rw[List.findIdx?_eq_none_iff];intro t ht;obtain ⟨i,hi,rfl⟩:=qC ht;exact hv.2 i _ (by have:=hv.1;omega) (aA hi)
  rw[e]
 obtain ⟨c,h1,h2⟩:=key;rcases h2 with h2|h2
 ·rw[h2];exact .inl rfl
 rw[h2,zU];refine iw ?_;rw[cV,decide_eq_true_iff];exact h1
def ê (f:Int) (T:List aB) (i:Nat):List aB:=(T.take i).map (oL f)++T.drop i
variable {f:Int}
def abw {i:Nat} (h:T[i]?=some t):(ê f T i)[i]?=some t/\ê f T (i+1)=(ê f T i).set i (oL f t)/\(ê f T i).length=T.length:=by
 have gR:=(ao.1 h).1;have hl:((T.take i).map (oL f)).length=i:=by simp;omega
 have hd:T.drop i=t::T.drop (i+1):=by
  rw[ao] at h;obtain ⟨q1,q2⟩:=h;rw[cb q1,q2]
 unfold ê;refine ⟨?_,?_,?_⟩
 ·rw[ga aD,hl,Nat.sub_self,hd];rfl
 ·rw[pn,h,List.set_append_right _ _ aD,hl,Nat.sub_self,hd];simp
 simp;omega
def abx (hS:WE) (s9:∀ {s:ByS} {T:List aB} {b:Int},PC s T b->Lx s T->XF s T b (aW n) ax) (hm:bN m) (h0:0<=f) (h1:f+x.length<=65536) :
  LK (nL (n+1) x f) (λi=>pj (m i) x f) VQ (λ_ _=>False):=by
 refine jG (F:=λi=>pj i x f) hm λm hm=>?_
 show LK (sZ n (R n) x f) (λi=>ub (m i) (ar (m i)) x f) _ _
 unfold sZ ub
 have no:∀ {e e':ak},LK (.ok (e,false)) (λ_=>.ok (e',false)) VQ (λ_ _=>False):=bZ Te
 cases hsc:pc n x with
 | stuck=>exact dc
 | qH p=>
  obtain ⟨_,h,_⟩:=((hS hm).2 p hsc).get
  exact h.elim
 | ok y=>
  have hr:=((hS hm).1 y hsc).oB (λz hz=>hz.1)
  have hr:Ev (λi=>yE (m i) x) (λz=>z=y) dt:=hr
  rw[zU]
  refine bn hr ?_
  refine dx rfl (λ_=>no) λhe=>?_
  have he:y.2.dX=0:=by simpa using he
  obtain ⟨hT,hL⟩:=Nv hS hsc he
  have hC:PC x y.1 f:=⟨hT,h0,h1⟩
  have hlen:=hC.pJ
  refine gU Uh ?_
  have sh:∀ {X:aG (ak×Bool)},((y.1.any λt=>t.an==6)=true->X=.ok (ak.mk 0 [] 0 [] [] [] [] [] 0,false))->((y.1.any λt=>t.an==6)=false->LK X (λi=>ag (ax (m i) false (RX x y.1 f 0 true)) λy47=>ag (aY (m i) y47.2) λy50=>br (y50.1.an !=0) (ag (bO y50.1.cG y50.2) λy53=>ag (cL y53) λy55=>.ok (y47.1,y55.1)) (ag (cL y50.2) λy57=>.ok (y47.1,y57.1))) VQ (λ_ _=>False))->
    LK X (λi=>iter (λnext11 (v10:(List aB)×Int)=>br (decide (v10.2<(List.length v10.1:Int))) (el v10.1 v10.2 λx19=>br (x19.an==6) (.ok ((ak.mk 0 [] 0 [] [] [] [] [] 0),false)) (el v10.1 v10.2 λx26=>gd (cD (x26.cG+f)) (el v10.1 v10.2 λMg=>el (List.set v10.1 v10.2.toNat (aB.mk Mg.an Mg.bJ (x26.cG+f) Mg.oZ)) v10.2 λx35=>gd (cD (x35.oZ+f)) (el (List.set v10.1 v10.2.toNat (aB.mk Mg.an Mg.bJ (x26.cG+f) Mg.oZ)) v10.2 λx40=>gd (cD (v10.2+1)) (next11 (List.set (List.set v10.1 v10.2.toNat (aB.mk Mg.an Mg.bJ (x26.cG+f) Mg.oZ)) v10.2.toNat (aB.mk x40.an x40.bJ x40.cG (x35.oZ+f)),v10.2+1)))))) (ag (ax (m i) false (ah.mk x f v10.1 0 true 0 0)) λy47=>ag (aY (m i) y47.2) λy50=>br (y50.1.an !=0) (ag (bO y50.1.cG y50.2) λy53=>ag (cL y53) λy55=>.ok (y47.1,y55.1)) (ag (cL y50.2) λy57=>.ok (y47.1,y57.1)))) (m i) (y.1,0)) VQ (λ_ _=>False):=by
   intro X hX1 hX2
   refine LK.ajh hm (λ(v:List aB×Int)=>∃ i:Nat,v=(ê f y.1 i,(i:Int))/\i<=y.1.length/\∀ (j:Nat) t,j<i->y.1[j]?=some t->t.an≠6) (λv=>(y.1.length - v.2).toNat) ⟨0,by simp[ê],aD,λj t h=>by omega⟩ ?_
   rintro _ ⟨i,rfl,hi,hb⟩ next hn
   dsimp only at hn ⊢
   by_cases gR:i<y.1.length
   ·obtain ⟨t,ht⟩:∃ t,y.1[i]?=some t:=⟨_,aA gR⟩
    obtain ⟨g1,g2,g3⟩:=abw (f:=f) ht
    have tk:=hC.tok ht
    have g1':(ê f y.1 i)[((i:Int)).toNat]?=some t:=by simpa using g1
    have s1:∀ u:aB,((ê f y.1 i).set ((i:Int)).toNat u)[((i:Int)).toNat]?=some u:=λu=>by
     rw[uE rI]
    refine aJ (λ_=>eI aD g1' ?_) λh=>aw qk aD
    refine aJ (λh6=>?_) λh6=>?_
    ·have:(y.1.any λt=>t.an==6)=true:=mB.2 ⟨t,aP ht,h6⟩
     rw[hX1 this]
     exact no
    ·refine eI aD g1' (bW yJ (eI aD g1' (eI aD (s1 _) (bW W3 (eI aD (s1 _) (bW yJ (hn _ ⟨i+1,?_,aD,λj u hj hu=>?_⟩ ?_)))))))
     ·rw[g2]
      simp[oL]
     ·by_cases q:j<i
      ·exact hb j u q hu
      ·rw[show j=i by omega,ht] at hu;cases hu;simpa using h6
     ·dsimp only;omega
   ·have e:i=y.1.length:=by omega
    have e2:ê f y.1 i=y.1.map (oL f):=by subst e;simp[ê]
    refine aJ (λh=>aw Bx (by rw[e2];simp;omega)) λ_=>?_
    rw[e2]
    refine hX2 ?_
    rw[lN]
    intro h
    obtain ⟨t,h1,h2⟩:=mB.1 h
    obtain ⟨j,hj,rfl⟩:=qC h1
    exact hb j _ aD (aA hj) wZ
  refine sh (λh=>by rw[h];rfl) λh=>?_
  rw[h]
  refine aI dC λ_=>?_
  have hx:=s9 hC hL (c:=false) hm E6 (by have:=hC.pos;omega) (In.no (s:=x) (T:=y.1) (b:=f) (c:=false) (a:=0) (k:=true))
  show LK (Ar (ag (aW n false (H x y.1 0 f true none)) _) _) _ _ _
  cases he:aW n false (H x y.1 0 f true none) with
  | stuck=>exact dc
  | qH p=>
   obtain ⟨_,⟨v,hp,_⟩,_⟩:=(hx.2 p he).get
   subst hp
   have uz:Ev _ (λr:ak×ah=>FS x y.1 f v r.2) dt:=(hx.2 _ he).oB λr hr=>by
    obtain ⟨v',e,hr,_⟩:=hr
    cases e;exact hr
   refine ⟨λr hr=>?_,λq hq=>?_⟩
   ·have:r=(ak.mk 0 [] 0 [] [] [] [] [] 0,false):=by
     have:(.ok (ak.mk 0 [] 0 [] [] [] [] [] 0,false):aG (ak×Bool))=.ok r:=hr
     cases this;rfl
    subst this
    refine ai uz λz hz=>ai (Aa hm hC hz) λw hw=>ay (λ_=>bI (Ab hw) (bI (AU hw) (aj Te))) λ_=>bI (AU hw) (aj Te)
   ·have:(.ok (ak.mk 0 [] 0 [] [] [] [] [] 0,false):aG (ak×Bool))=.qH q:=hq
    cases this
  | ok r=>
   obtain ⟨_,⟨e,a1,rfl,rfl,pg,hz,hes⟩,_⟩:=(hx.1 r he).get
   have uz:Ev _ (λz=>z=(e,RX x y.1 f a1 true)) dt:=(hx.1 _ he).oB λz hz=>by
    obtain ⟨e',a',q1,q2,_⟩:=hz
    simp only[qR,D.mk.injEq] at q1
    obtain ⟨rfl,_,_,rfl,_⟩:=q1
    exact q2
   refine bn uz ?_
   obtain ⟨a2,t,nx⟩:=pZ hC true (a:=a1) (by have:=pg.le;omega) pg.lt
   refine bn Ju ?_
   rw[zU]
   dsimp only
   rcases xi (n:=n) (s:=x) (b:=f) (q:=none) nx with e1|e1
   ·rw[e1];exact dc
   ·rw[e1,zU]
    show LK (.ok (e,t.an==0)) _ _ _
    by_cases h0:t.an=0
    ·have hk:(t.an==0)=true:=by simpa using h0
     refine aJ (λh=>aw h0 Ti) λ_=>bn uY ?_
     rw[hk]
     exact bZ ⟨rfl,λ_=>⟨rfl,hes⟩⟩
    ·have hk:(t.an==0)=false:=by simpa using h0
     refine aJ (λ_=>bn (G:=λ_=>bO (oL f t).cG (RX x y.1 f a2 true)) (b:=RF x y.1 f a2 true (t.cG+f)) uY (bn (G:=λ_=>cL (RF x y.1 f a2 true (t.cG+f))) (b:=(false,RF x y.1 f a2 true (t.cG+f))) uY ?_)) λh=>aw Ti h0
     rw[hk]
     exact no
def Yj (hC:PC s T b) (hL:Lx s T) (hI:afK) (ihC:∀ j,j<n->∀ {m:Nat->Nat} {x:ByS} {f:Int},bN m->0<=f->f+x.length<=65536->LK (nL j x f) (λi=>pj (m i) x f) VQ (λ_ _=>False)) {a a':Int} {k:Bool} (hm:bN m) (nx:Nx T k a a' t) (hk:t.an=4) :
  LK (ag (fo n t (t.cG+b) (H s T a' b k none)) λy=>gd (cD (y.2.bB+1)) (.ok (y.1,H y.2.bM y.2.M (y.2.bB+1) y.2.base y.2.skip y.2.Z))) (λi=>ag (fK (m i) (oL b t) (RX s T b a' k)) λy=>.ok (y.1,y.2)) (VX s T b k a) (WX s T b):=by
 rcases n with _|n
 ·exact dc
 suffices h:LK (ag (fo (n+1) t (t.cG+b) (H s T a' b k none)) λy=>gd (cD (y.2.bB+1)) (.ok (y.1,H y.2.bM y.2.M (y.2.bB+1) y.2.base y.2.skip y.2.Z))) (λi=>fK (m i) (oL b t) (RX s T b a' k)) (VX s T b k a) (WX s T b) from ⟨λr hr=>(h.1 r hr).gZ λy hy=>aj hy,λr hr=>(h.2 r hr).gZ λy hy=>aj hy⟩
 refine jG (F:=λi=>fK i (oL b t) (RX s T b a' k)) hm λm hm=>?_
 show LK (ag (jM n (R n) t (t.cG+b) (H s T a' b k none)) _) (λi=>kv (m i) (ar (m i)) (oL b t) (RX s T b a' k)) _ _
 unfold jM kv jg Cz oz jU tG
 have hlen:=hC.pJ
 have hbs:=hC.bs
 have hb0:=hC.b0
 have nge:=nx.ge
 obtain ⟨g0,g1,g2,g3,g4,_⟩:=hC.tok nx.tk
 have g4:=g4 hk
 have lt1:=nx.DP hC aD
 refine bn Qr ?_
 cases hti:pT n t.bJ with
 | stuck=>exact dc
 | qH p=>
  obtain ⟨_,h,_⟩:=((hI hm g3).2 p hti).get
  exact h.elim
 | ok y=>
  have hr:=(((hI hm g3).1 y hti).both (hL.it t (aP nx.tk) hk hm))
  have hq:=LK.q (F:=λ_ i=>jh i t.bJ) (λ_=>rfl) (λn=>(hI (n:=n) mf g3:LK (pT n t.bJ) (λi=>jh i t.bJ) _ _)) (yF mf g3) (λy y' z a b=>a.trans b.symm) hti
  rw[zU]
  refine wK hr λz hz=>?_
  obtain ⟨rfl,hz0⟩:=hz
  have hz0':(z.2.dX !=0)=false:=by simpa using hz0
  refine aJ (λh=>by rw[hz0'] at h;cases h) λ_=>?_
  obtain ⟨hq1,Gs⟩:=hq
  dsimp only at hq1 Gs ⊢
  have hzl:z.1.length<=65536:=by simp at hq1;omega
  have bi:∀ {X A B:Type} {body:(X->aG A)->X->aG A} (K:A->aG B) (n:Nat) (v:X),ag (aG.iter body n v) K=ag (aG.iter body n v) K:=λ_ _ _=>rfl
  refine sQ (V':=λr y=>∃ e,r.1=e/\r.2=H s T a' b k none/\y=(e,RX s T b (a'+1) k)/\ij e) (W':=WX s T b) (ud (λ(v:D×ak×Int) (w:ak×Int)=>∃ l:List ak,∃ i:Int,v=(H s T a' b k none,ak.mk 5 [] 0 [] [] l [] [] (t.cG+b),i)/\w=(ak.mk 5 [] 0 [] [] l [] [] (t.cG+b),i)/\0<=i/\i<=z.1.length/\(l.length:Int)<=i/\∀ x,x∈l->ij x) ?_ n hm _ _ ⟨[],0,rfl,rfl,aD,aD,bm,bm⟩) ?_ λ_ _ h=>h
  ·rintro _ _ ⟨l,i,rfl,rfl,i0,i1,i2,i3⟩ next next' hn
   dsimp only
   have sm:∀ {x:ak},ij x->∀ y,y∈l++[x]->ij y:=λhx y hy=>by
    rcases bL.1 hy with w|w
    ·exact i3 y w
    ·simp at w;subst w;exact hx
   by_cases gR:i<z.1.length
   ·obtain ⟨x,hx⟩:∃ x,z.1[i.toNat]?=some x:=⟨_,aA aD⟩
    have tn:(z.1.map Lk)[i.toNat]?=some (Lk x):=by rw[eX,hx];rfl
    obtain ⟨x0,x1,x2⟩:=Gs (Lk x) (aP tn)
    refine aI (λ_=>aJ (λ_=>?_) λh=>aw qk aD) λh=>aw qk rI
    refine jc λy _ hy=>?_
    rw[tn] at hy;cases hy
    refine bK λ_=>bK λhg=>bW (by dsimp only [oL];(first|omega|(simp[cD,ob,BR,maxLen]<;>omega))) (eI i0 hx (bW hg (eI i0 hx ?_)))
    have hcE:(Lk x).Code=x.Code:=rfl
    rw[hcE]
    cases hc:x.Code with
    | false=>
     refine aI (λ_=>aJ (λ_=>eI i0 hx (bK λhg=>bW hg (bK λhg=>bW hg (hn _ _ ⟨_,i+1,rfl,rfl,aD,aD,MD,sm (.leaf dN)⟩)))) dC) dC
    | true=>
     have x2:=x2 hc
     refine aI dC λ_=>aJ dC λ_=>eI i0 hx ?_
     refine cq (ihC n aD hm (x:=x.bJ) (f:=t.cG+b+1+x.cG) (by have:(Lk x).cG=x.cG:=rfl;omega) (by have:(Lk x).cG=x.cG:=rfl;have:(Lk x).bJ=x.bJ:=rfl;rw[this] at x2;omega)) ?_ λ_ _ h=>h.elim
     rintro ⟨e,o1⟩ ⟨e',o2⟩ ⟨h1,h2⟩
     dsimp only at h1 h2
     subst h1
     cases o2 with
     | false=>
      refine aI (λ_=>aJ (λ_=>LK.fail ?_) dC) dC
      exact bI (a:=RF s T b (a'+1) k (t.cG+b)) rfl (aj ⟨_,rfl,⟨_,_,rfl,by omega,lt1⟩,.leaf dN⟩)
     | true=>
      obtain ⟨rfl,he⟩:=h2 rfl
      exact aI dC λ_=>aJ dC λ_=>bK λhg=>bW hg (bK λhg=>bW hg (hn _ _ ⟨_,i+1,rfl,rfl,aD,aD,MD,sm he⟩))
   ·refine aI MN λ_=>aJ (λh=>aw Bx gR) λ_=>bZ ⟨_,rfl,rfl,rfl,(show ij (ak.mk 5 [] 0 [] [] l [] [] (t.cG+b)) from .of aD (λe=>aw e dN) i3)⟩
  ·rintro ⟨_,_⟩ _ ⟨e,rfl,rfl,rfl,he⟩
   exact bK λ_=>bZ ⟨_,a'+1,rfl,rfl,nx.read hC aD Il,nx.lz aD,he⟩
end
def aji:Prop:=∀ {n:Nat} {m:Nat->Nat} {x:ByS},bN m->Sf x->LK (mK n x) (λi=>nM (m i) x) (λy z=>z=y) (λ_ _=>False)
def afL:Prop:=∀ {n:Nat} {m:Nat->Nat} {x:ByS},bN m->LK (oG n x) (λi=>la (m i) x) (λy z=>(z.2.dX=0↔y.2.dX=0)) (λ_ _=>False)
structure GG (n:Nat):Prop where
 expr:∀ {s:ByS} {T:List aB} {b:Int},PC s T b->Lx s T->XF s T b (aW n) ax
 alt:∀ {s:ByS} {T:List aB} {b:Int},PC s T b->Lx s T->XF s T b (c8 n) cJ
 Mo:∀ {s:ByS} {T:List aB} {b:Int},PC s T b->Lx s T->XF s T b (da n) cU
 bin:∀ {s:ByS} {T:List aB} {b l:Int},PC s T b->Lx s T->0<=l->l<=5->XF s T b (dA n l) (λi=>cH i l)
 unary:∀ {s:ByS} {T:List aB} {b:Int},PC s T b->Lx s T->XF s T b (ei n) dD
 post:∀ {s:ByS} {T:List aB} {b:Int},PC s T b->Lx s T->XF s T b (eG n) eT
 RY:∀ {s:ByS} {T:List aB} {b:Int},PC s T b->Lx s T->XF s T b (eU n) dM
 item:∀ {s:ByS} {T:List aB} {b:Int},PC s T b->Lx s T->∀ {m:Nat->Nat} {a:Int} {k:Bool},bN m->0<=a->a<T.length->LK (eB n (H s T a b k none)) (λi=>eS (m i) (RX s T b a k)) (VX s T b k a) (WX s T b)
 decl:∀ {s:ByS} {T:List aB} {b:Int},PC s T b->Lx s T->XD s T b n
 code:∀ {m:Nat->Nat} {x:ByS} {f:Int},bN m->0<=f->f+x.length<=65536->LK (nL n x f) (λi=>pj (m i) x f) VQ (λ_ _=>False)
def afM (hR:afL) {m:Nat->Nat} (hm:bN m):Ev (λi=>la (m i) [46,42]) (λ_=>True) dt:=by
 obtain ⟨y,_,N,hN⟩:=(wJ (m:=λi=>i) mf (s:=[46,42])).get;exact ((hR (n:=N) hm).1 y (hN N JN)).oB λ_ _=>trivial
def afN (hS:WE) (hI:afK) (hN:aji) (hR:afL):∀ n,GG n:=by
 intro n
 induction n using Nat.strongRecOn with
 | _ n ih=>
  rcases n with _|n
  ·constructor;all_goals (intros;first|exact dc|(intro m c k a q x hm h0 h1 hI;exact dc)|(intro m c a t _ _ _ _ _ _ _ _;exact dc))
  ·have g:=ih n (uZ n);have ge:∀ {s:ByS} {T:List aB} {b:Int},PC s T b->Lx s T->∀ j,j<n->XF s T b (aW j) ax:=λhC hL j hj=>(ih j aD).expr hC hL;exact
    {
     expr:=λhC hL=>Mu hC (g.alt hC hL)
     alt:=λhC hL=>La hC (g.Mo hC hL)
     Mo:=λhC hL=>Lb hC (g.bin hC hL dN dN)
     bin:=λhC hL h0 h5=>Ya hC h0 h5 (λ_=>g.unary hC hL) λh=>g.bin hC hL aD aD
     unary:=λhC hL=>Ø hC (g.unary hC hL) (g.post hC hL)
     post:=λhC hL=>T7 hC (g.RY hC hL) (ge hC hL)
     RY:=λ{s T b} hC hL=>Ua hC (ge hC hL) (λj hj {m a k} hm=>(ih j aD).item hC hL hm) (λ{m a t} hm ht hk=>(hN hm (hL.nm t (aP ht) hk)).mono (λ_ _ h=>by rw[h]) λ_ _ h=>h)
      (λ{m a a' k t} hm nx hk=>Yj hC hL hI (λj hj {m x f} hm=>(ih j aD).code hm) hm nx hk) (λ{m a a' k c t} hm nx ht=>Yh hC hL (λj hj=>(ih j aD).decl hC hL) (é hC) hm nx ht)
     item:=λ{s T b} hC hL {m a k} hm h0 h1=>abl hC (g.expr hC hL) hm h0 h1
     decl:=λhC hL=>abv hC hL (λj hj=>(ih j hj).expr hC hL) (λj hj=>(ih j hj).decl hC hL) (λ{n m x} hm=>hR hm) (λ{m} hm=>afM hR hm)
     code:=λ{m x f} hm h0 h1=>abx hS (λ{s T b} hC hL=>g.expr hC hL) hm h0 h1 }
def ë (k:Int):Option Int:=if 48<=k/\k<=57 then some (k - 48) else if 65<=k/\k<=90 then some (k - 55) else if 97<=k/\k<=122 then some (k - 87) else none
def hx (b:UInt8):Option Int:=(ë b.toNat).filter λd=>decide (d<16)
def alb:∀ k:Fin 256,(97<=Cy .u8 (k.val:Int) 32/\Cy .u8 (k.val:Int) 32<=122->(65<=k.val/\k.val<=90/\Cy .u8 (k.val:Int) 32=k.val+32)\/(97<=k.val/\k.val<=122/\Cy .u8 (k.val:Int) 32=k.val))/\
 ((65<=k.val/\k.val<=90)\/(97<=k.val/\k.val<=122)->97<=Cy .u8 (k.val:Int) 32/\Cy .u8 (k.val:Int) 32<=122):=by decide +kernel
def tb {β γ:Type} {x:aG β} {c:β} {f:β->aG γ} {d:γ} (h:Tk x c) (h':Tk (f c) d):Tk (ag x f) d:=by
 rcases h with rfl|rfl
 ·exact .inl rfl
 exact h'
def Yk {x:Int} (h0:0<=x) (h1:x<18446744073709551616):IntKind.wrap .u64 x=x:=by
 exact ah0
def Pb {x:Int} (h0:0<=x) (h1:x<256):IntKind.wrap .u8 x=x:=by
 have:IntKind.wrap .u8 x=x % 256:=by simp[IntKind.wrap,IntKind.bits,IntKind.signed]
 rw[this];omega
section
variable {k:Int} {x y:UInt8}
def ajj (h0:0<=k) (h1:k<256) {X:aG α} {Wj:Int->aG α} {e:aG α}:(jn (λ(v57:Bool)=>br v57 X (jn (λ(v63:Bool)=>br v63 (Wj (IntKind.wrap .u8 (k - 48))) (ag (eV k) λy68=>br (decide (97<=y68)) (ag (eV k) λy70=>br (decide (y70<=122)) (ag (eV k) λy72=>Wj (IntKind.wrap .u8 ((IntKind.wrap .u8 (y72 - 97))+10))) e) e)) λj64=>br (decide (48<=k)) (j64 ((decide (k<=57)))) (j64 (false)))) λj58=>br (k==95) (j58 (((16:Int)==0))) (j58 (false)))=match ë k with|some d=>Wj d|none=>e:=by
 obtain ⟨q1,q2⟩:=alb ⟨k.toNat,aD⟩;have ek:((k.toNat:Nat):Int)=k:=by omega
 simp only[ek] at q1 q2;have fin:(jn (λ(v63:Bool)=>br v63 (Wj (IntKind.wrap .u8 (k - 48))) (ag (eV k) λy68=>br (decide (97<=y68)) (ag (eV k) λy70=>br (decide (y70<=122)) (ag (eV k) λy72=>Wj (IntKind.wrap .u8 ((IntKind.wrap .u8 (y72 - 97))+10))) e) e)) λj64=>br (decide (48<=k)) (j64 ((decide (k<=57)))) (j64 (false)))=match ë k with|some d=>Wj d|none=>e:=by
  unfold ë aG.jn eV;by_cases c1:48<=k/\k<=57
  ·rw[aL c1,aV c1.1,aV c1.2,Pb aD aD];rfl
  rw[aC c1];have lhs:∀ Y:aG α,br (decide (48<=k)) (br (decide (k<=57)) (Wj (IntKind.wrap .u8 (k - 48))) Y) (br false (Wj (IntKind.wrap .u8 (k - 48))) Y)=Y:=λY=>by
   by_cases c2:48<=k
   ·rw[aV c2,bA (λh=>c1 ⟨c2,h⟩)];rfl
   rw[bA c2];rfl
  refine Eq.trans (lhs _) ?_;simp only[zU];by_cases c3:97<=Cy .u8 k 32/\Cy .u8 k 32<=122
  ·rw[aV c3.1,aV c3.2];rcases q1 c3 with ⟨w1,w2,w3⟩|⟨w1,w2,w3⟩
   ·rw[aL ⟨aD,aD⟩,w3,Pb (x:=k+32 - 97) aD aD,Pb aD aD];show Wj _=Wj _;congr 1;omega
   rw[aC aD,aL ⟨aD,aD⟩,w3,Pb (x:=k - 97) aD aD,Pb aD aD];show Wj _=Wj _;congr 1;omega
  rw[aC (λh=>c3 (q2 (.inl ⟨aD,aD⟩))),aC (λh=>c3 (q2 (.inr ⟨aD,aD⟩)))];by_cases c4:97<=Cy .u8 k 32
  ·rw[aV c4,bA (λh=>c3 ⟨c4,h⟩)];rfl
  rw[bA c4];rfl
 rw[<- fin];show br (k==95) (br ((16:Int)==0) X _) (br false X _)=_;cases k==95<;>rfl
def uz (x y:UInt8):Option Int:=match hx x,hx y with|some a,some b=>some (16*a+b)|_,_=>none
variable {d:Int}
def adp (h:ë k=some d):0<=d/\d<=35:=by
 unfold ë at h;exact ś
def Ui {c:UInt8} (h:hx c=some d):0<=d/\d<=15/\ë c.toNat=some d:=by
 unfold hx at h;cases hd:ë c.toNat with
 | none=>rw[hd] at h;cases h
 | some e=>
  have:=adp hd
  rw[hd] at h
  by_cases q:e<16
  ·simp[Option.filter,q] at h;subst h;exact ⟨by omega,by omega,rfl⟩
  ·simp[Option.filter,q] at h
def ajk:Tk (kT n [x,y] 16 8) (match uz x y with|some v=>(v,0)|none=>(0,2)):=by
 unfold kT;refine cA (λh=>by simp at h) λ_=>rE (λv=>v=([x,y],16)) (λv hv=>?_) λj hj=>rE (λv=>v=true) (λv hv=>?_) λj2 xI=>cA (λ_=>xI _ dN) λh=>aw (aU h) dN
 rotate_left
 ·subst hv;exact hj _ rfl
 subst hv;refine rE (λv=>v=8) (λv hv=>?_) λj hj=>cA (λh=>aw h dN) λ_=>cA (λh=>aw (bg h) dN) λ_=>cA (λh=>aw (bg h) dN) λ_=>hj _ rfl;subst hv;refine rE (λv=>v=1152921504606846976) (λv hv=>?_) λj hj=>cA (λh=>aw h (show ¬ (((16:Int)==10)=true) by decide)) λ_=>cA (λ_=>hj _ rfl) λh=>aw h (show ¬ (((16:Int)==16)=false) by decide);subst hv;refine dY λ_=>?_;have e16:IntKind.wrap .u8 16=16:=by decide
 have e16':IntKind.wrap .u64 16=16:=by decide
 have e255:IntKind.wrap .u64 ((xx .u64 1 (IntKind.wrap .u64 8)) - 1)=255:=by decide
 have eO:ofBytes [x,y]=[(x.toNat:Int),(y.toNat:Int)]:=rfl;dsimp only;rw[eO,e16,e16',e255]
 let I:Bool×Int×Int->Prop:=λst=>st.1=false/\((st.2.2=0/\st.2.1=0)\/(st.2.2=1/\hx x=some st.2.1)\/(st.2.2=2/\∃ d e,hx x=some d/\hx y=some e/\st.2.1=16*d+e))
 refine oW I ?_ n ⟨rfl,.inl ⟨rfl,rfl⟩⟩;rintro ⟨_,v,i⟩ ⟨rfl,hI⟩ next hn;dsimp only at hI ⊢;have key:(i=2/\∃ d e,hx x=some d/\hx y=some e/\v=16*d+e)\/∃ c:UInt8,(i=0\/i=1)/\[(x.toNat:Int),(y.toNat:Int)][i.toNat]?=some (c.toNat:Int)/\0<=v/\v<=15/\(∀ d,hx c=some d->I (false,v*16+d,i+1))/\(hx c=none->uz x y=none):=by
  rcases hI with ⟨rfl,rfl⟩|⟨rfl,h⟩|⟨rfl,h⟩
  ·exact .inr ⟨x,.inl rfl,rfl,by decide,by decide,λd hd=>⟨rfl,.inr (.inl ⟨rfl,by simpa using hd⟩)⟩,λh=>by simp[uz,h]⟩
  ·have:=Ui h;exact .inr ⟨y,.inr rfl,rfl,aD,aD,λe he=>⟨rfl,.inr (.inr ⟨rfl,v,e,h,he,eZ⟩)⟩,λh2=>by simp[uz,h,h2]⟩
  exact .inl ⟨rfl,h⟩
 rcases key with ⟨rfl,d,e,h1,h2,rfl⟩|⟨c,hi,hc,v0,v1,hs,GO⟩
 ·refine cA (λh=>aw (bg h) bm) λ_=>cA dC λ_=>iw ?_;simp[uz,h1,h2]
 refine cA (λ_=>kD λz _ hz=>?_) λh=>aw (aU h) (by rcases hi with rfl|rfl<;>simp);rw[hc] at hz;cases hz;have bc:=GZ c;refine rE (λd=>ë c.toNat=some d) (λd hd=>?_) λj hj=>?_
 ·have GW:=adp hd;by_cases q:d<16
  ·have hxc:hx c=some d:=by simp[hx,hd,Option.filter,q]
   refine cA (λh=>aw (bg h) aD) λ_=>cA (λh=>aw (bg h) aD) λ_=>?_;rw[Yk (x:=v*16) aD aD,Yk (x:=d) aD aD,Yk (x:=v*16+d) aD aD];exact cA (λh=>aw (bg h) aD) λ_=>cA (λh=>aw (bg h) aD) λ_=>dY λ_=>hn _ (hs d hxc)
  have hxc:hx c=none:=by simp[hx,hd,Option.filter,q]
  rw[GO hxc];exact cA (λ_=>kJ) λh=>aw (aU h) aD
 have e:=ajj (k:=(c.toNat:Int)) aD aD (X:=gd (cD (i+1)) (next (true,v,i+1))) (Wj:=j) (e:=.ok (0,2));refine Eq.mpr (iy (λz=>Tk z _) e) ?_;cases hd:ë c.toNat with
 | none=>
  have hxc:hx c=none:=by simp[hx,hd,Option.filter]
  rw[GO hxc]
  exact kJ
 | some d=>exact hj _ hd
def I2:ByS->Int×Int
 | x::y::_=>(match uz x y with|some v=>(v,4)|none=>(0,0))
 | _=>(0,0)
def BQ {r:ByS}:I2 (x::y::r)=(match uz x y with|some v=>(v,4)|none=>(0,0)):=rfl
def xB (c:UInt8) (r:ByS):Int×Int:=if c=34\/c=92 then ((c.toNat:Int),2) else if c=110 then (10,2) else if c=116 then (9,2) else if c=114 then (13,2) else if c=120 then I2 r else (0,0)
def Dc:ByS->Int×Int
 | _::c::r=>xB c r
 | _=>(0,0)
def adq {v:Int} (h:uz x y=some v):0<=v/\v<=255:=by
 unfold uz at h;cases h1:hx x with
 | none=>simp[h1] at h
 | some a=>
  cases h2:hx y with
  | none=>simp[h1,h2] at h
  | some b=>
   have:=Ui h1
   have:=Ui h2
   simp[h1,h2] at h;omega
end
section
variable {m:Nat->Nat}
def Pc {x y:UInt8}:Tk (oT n [x,y] 16 8) (match uz x y with|some v=>(v,false)|none=>(0,true)):=by
 unfold oT;refine tb ajk ?_;cases h:uz x y with
 | some v=>exact cA Tj λ_=>kJ
 | none=>exact cA (λ_=>by unfold uS;exact tb Qg kJ) λh=>by simp at h
variable {b:UInt8}
def Sm:Tk (qu n u) (Dc u):=by
 unfold qu;rcases u with _|⟨c0,_|⟨c,r⟩⟩
 ·exact ş
 ·exact ş
 refine cA MN λ_=>kD λx _ hx=>?_;have hx:some c=some x:=hx;cases hx;rw[mz 34 34 rfl,mz 92 92 rfl,mz 110 110 rfl,mz 116 116 rfl,mz 114 114 rfl,mz 120 120 rfl];refine rE (λv=>v=(c==34||c==92)) (λv hv=>?_) λj hj=>cA (λh=>hj _ BV) λh=>hj _ BV;subst hv;show Tk _ (xB c r);unfold xB;refine cA (λh=>kD λx _ hx=>iw ?_) λh=>?_
 ·have hx:some c=some x:=hx;cases hx;rw[aL jk]
 rw[aC jk];refine cA Zy λh=>?_;rw[aC jk];refine cA Zy λh=>?_;rw[aC jk];refine cA Zy λh=>?_;rw[aC jk];refine cA (λh=>?_) λh=>iw Qv;rw[aL jk];rcases r with _|⟨x,_|⟨y,r⟩⟩
 ·exact ş
 ·exact ş
 refine cA MN λ_=>dY λ_=>tb (c:=match uz x y with|some v=>(v,false)|none=>(0,true)) Pc ?_;rw[BQ];cases h:uz x y with
 | none=>exact cA (λ_=>kJ) λh=>by cases h
 | some v=>
  have:=adq h
  exact cA dC λ_=>iw (by dsimp only;rw[Pb aD aD])
def WG:Ev (λ_=>vF (b.toNat:Int)) (λr=>r=(hx b).getD (-1)) dt:=by
 have bb:=GZ b;unfold vF;rw[wrap_i64 (x:=(b.toNat:Int)) aD aD];refine bI (Cq b) ?_;rw[OU];unfold hx ë;by_cases h1:48<=(b.toNat:Int)/\(b.toNat:Int)<=57
 ·rw[aV h1,aL h1];refine ba (aF (aj ?_));rw[show (Option.filter (λd=>decide (d<16)) (some ((b.toNat:Int) - 48)))=some ((b.toNat:Int) - 48) by simp[Option.filter];omega];rfl
 rw[bA h1,aC h1];refine aH (bD (λ_=>¬ (97<=(b.toNat:Int)/\(b.toNat:Int)<=102)) (λ_ h2=>?_) λj hj=>aS (λh2=>aS (λh3=>aF (aF (aj ?_))) λh3=>hj () aD) λh2=>hj () aD)
 ·refine aS (λh3=>aS (λh4=>aF (aF (aj ?_))) λh4=>aj ?_) λh3=>aj ?_
  ·rw[aL aD];rw[show (Option.filter (λd=>decide (d<16)) (some ((b.toNat:Int) - 55)))=some ((b.toNat:Int) - 55) by simp[Option.filter];omega];simp;omega
  ·by_cases h5:65<=(b.toNat:Int)/\(b.toNat:Int)<=90
   ·rw[aL h5,show (Option.filter (λd=>decide (d<16)) (some ((b.toNat:Int) - 55)))=none by simp[Option.filter];omega];rfl
   rw[aC h5];by_cases h6:97<=(b.toNat:Int)/\(b.toNat:Int)<=122
   ·rw[aL h6,show (Option.filter (λd=>decide (d<16)) (some ((b.toNat:Int) - 87)))=none by simp[Option.filter];omega];rfl
   rw[aC h6];rfl
  rw[aC aD,aC aD];rfl
 rw[aC aD,aL aD,show (Option.filter (λd=>decide (d<16)) (some ((b.toNat:Int) - 87)))=some ((b.toNat:Int) - 87) by simp[Option.filter];omega];simp;omega
def Hh {s:ByS} {a:Int} (h0:0<=a) (hb:s[a.toNat]?=some 92) (hs:s.length<=70000):Ev (λ_=>wx s a) (λr=>r=Dc (s.drop a.toNat)) dt:=by
 unfold wx uD;have gR:=(ao.1 hb).1;have hd:s.drop a.toNat=92::s.drop (a.toNat+1):=by
  rw[ao] at hb;obtain ⟨q1,q2⟩:=hb;rw[cb q1,q2]
 rw[hd];refine aF (aS (λh=>aj ?_) λh=>cR h0 hb (ay Qt λ_=>aF ?_))
 ·rw[dR aD];rfl
 obtain ⟨c,hc⟩:∃ c,s[(a+1).toNat]?=some c:=⟨_,aA aD⟩;have GW:s.drop (a.toNat+1)=c::s.drop (a.toNat+2):=by
  rw[ao] at hc;obtain ⟨q1,q2⟩:=hc;rw[show a.toNat+1=(a+1).toNat by omega,cb q1,q2];congr 2;omega
 rw[GW];show Ev _ (λr=>r=xB c (s.drop (a.toNat+2))) _;unfold xB;refine cR aD hc ?_;rw[mz 34 34 rfl,mz 92 92 rfl,mz 110 110 rfl,mz 116 116 rfl,mz 114 114 rfl];refine bD (λv=>v=(c==34||c==92)) (λv hv=>?_) λj hj=>ay (λh=>hj _ BV) λh=>hj _ BV;subst hv;refine ay (λh=>aF (cR aD hc (aj ?_))) λh=>?_
 ·rw[aL jk]
 rw[aC jk];refine ay Ii λh=>?_;rw[aC jk];refine ay Ii λh=>?_;rw[aC jk];refine ay Ii λh=>?_;rw[aC jk];by_cases h120:c=120
 ·rw[aL h120];have big:a+3<s.length->∃ x y,s[(a+2).toNat]?=some x/\s[(a+3).toNat]?=some y/\s.drop (a.toNat+2)=x::y::s.drop (a.toNat+4):=λh=>by
   have h2:a.toNat+2<s.length:=by omega
   have h3:a.toNat+3<s.length:=by omega
   refine ⟨s[a.toNat+2],s[a.toNat+3],?_,?_,?_⟩
   ·rw[show (a+2).toNat=a.toNat+2 by omega];exact aA h2
   ·rw[show (a+3).toNat=a.toNat+3 by omega];exact aA h3
   rw[cb h2,cb h3]
  have nobig:¬ a+3<s.length->I2 (s.drop (a.toNat+2))=(0,0):=λh=>by
   rcases hq:s.drop (a.toNat+2) with _|⟨x,_|⟨y,r⟩⟩
   ·rfl
   ·rfl
   have:=iy List.length hq;simp at this;omega
  refine bD (λv=>(v=true/\∃ x y w,s[(a+2).toNat]?=some x/\s[(a+3).toNat]?=some y/\uz x y=some w/\s.drop (a.toNat+2)=x::y::s.drop (a.toNat+4))\/(v=false/\I2 (s.drop (a.toNat+2))=(0,0))) (λv hv=>?_) λj hj=>?_
  ·rcases hv with ⟨rfl,x,y,w,qx,qy,hw,hdr⟩|⟨rfl,hq⟩
   ·rw[hdr,BQ,hw];have lt3:=(ao.1 qy).1;have Lw:=hw;unfold uz at Lw;cases h1:hx x with
    | none=>simp[h1] at Lw
    | some d=>
     cases h2:hx y with
     | none=>simp[h1,h2] at Lw
     | some e=>
      have Lw:16*d+e=w:=by simpa[h1,h2] using Lw
      have b1:=Ui h1
      have b2:=Ui h2
      refine ba (aF (cR aD qx (aF (cR aD qy (ai WG ?_)))))
      rintro _ rfl
      refine ai WG ?_
      rintro _ rfl
      rw[h1,h2]
      have w1:IntKind.i64.wrap (16*(some d).getD (-1))=16*d:=wrap_i64 (by show _<=16*d;omega) (by show 16*d<=_;omega)
      refine dB (by show cD _;rw[w1];show cD (16*d+e);(first|omega|(simp[cD,ob,BR,maxLen]<;>omega))) (aj ?_)
      rw[w1]
      show (IntKind.u8.wrap (16*d+e),4)=_
      rw[Pb aD aD,Lw]
   rw[hq];exact aH uY
  refine aF (cR aD hc (ay (λ_=>aF (aS (λh=>?_) λh=>hj _ (.inr ⟨rfl,nobig h⟩))) λh=>aw h (by rw[mz 120 120 rfl,h120];decide)));obtain ⟨x,y,qx,qy,hdr⟩:=big h;refine aF (cR aD qx (ai WG ?_));rintro _ rfl;cases h1:hx x with
  | none=>
   refine aH (hj _ (.inr ⟨rfl,?_⟩))
   rw[hdr];simp[I2,uz,h1]
  | some d=>
   have b1:=Ui h1
   dsimp only [Option.getD]
   rw[aV aD]
   refine ba (aF (cR aD qy (ai WG ?_)))
   rintro _ rfl
   cases h2:hx y with
   | none=>
    refine hj _ (.inr ⟨rfl,?_⟩)
    rw[hdr];simp[I2,uz,h1,h2]
   | some e=>
    have b2:=Ui h2
    dsimp only [Option.getD]
    rw[aV aD]
    exact hj _ (.inl ⟨rfl,x,y,16*d+e,qx,qy,by simp[uz,h1,h2],hdr⟩)
 rw[aC h120];refine bD (λv=>v=false) (λv hv=>by subst hv;exact aH uY) λj hj=>aF (cR aD hc (ay (λh=>aw h (by rw[mz 120 120 rfl];simpa using h120)) λ_=>hj _ rfl))
def WH:(Dc u).2=0\/((Dc u).2=2/\2<=u.length)\/((Dc u).2=4/\4<=u.length):=by
 rcases u with _|⟨c0,_|⟨c,r⟩⟩
 ·exact .inl rfl
 ·exact .inl rfl
 show (xB c r).2=0\/((xB c r).2=2/\2<=(c0::c::r).length)\/((xB c r).2=4/\4<=(c0::c::r).length);unfold xB;split
 ·exact .inr (.inl JG)
 split
 ·exact .inr (.inl JG)
 split
 ·exact .inr (.inl JG)
 split
 ·exact .inr (.inl JG)
 split
 ·rcases r with _|⟨x,_|⟨y,r⟩⟩
  ·exact .inl rfl
  ·exact .inl rfl
  rw[BQ];cases uz x y with
  | none=>exact .inl rfl
  | some v=>exact .inr (.inr JG)
 exact .inl rfl
def Gl {x:ByS} (hm:bN m):LK (ni n x) (λi=>fy (m i) x) (λy z=>z=y) (λ_ _=>False):=by
 unfold ni fy oz jU;have f8:∀ {v:Int} {X:aG (ByS×cZ)},X=.ok (([]:ByS),cZ.mk 8 v)->LK X (λ_=>ag (mV v) λy=>.ok (([]:ByS),y)) (λy z=>z=y) (λ_ _=>False):=λh=>by subst h;exact bZ rfl
 refine dx rfl (λ_=>bZ rfl) λhs=>dx rfl (λ_=>f8 rfl) λuv=>jc λb _ hb=>eI dN hb (dx rfl (λ_=>f8 rfl) λ_=>?_);have hs:¬ (x.length:Int)>65536:=aU hs;refine ud (λ(v:List Int×Int) w=>w=v/\1<=v.2/\v.2<=x.length+4) ?_ n hm _ _ ⟨rfl,dN,eZ⟩;rintro ⟨l,i⟩ _ ⟨rfl,i0,i1⟩ next next' hn;dsimp only at i0 i1 ⊢;by_cases hi:i<x.length
 ·obtain ⟨c,hc⟩:∃ c,x[i.toNat]?=some c:=⟨_,aA aD⟩;refine aI Ij λ_=>aJ (λ_=>?_) λh=>aw qk aD;refine jc λz _ hz=>eI aD hc ?_;rw[hc] at hz;cases hz;refine dx rfl (λ_=>bK λhg=>bW hg (dx rfl (λ_=>bK λhg=>bW hg (f8 rfl)) λ_=>bZ rfl)) λ_=>?_;refine jc λz _ hz=>?_;rw[hc] at hz;cases hz;refine dx rfl (λDm=>bK λ_=>gU Sm ?_) λ_=>?_
  ·rw[mz 92 92 rfl,cn] at Dm;subst Dm;refine bn (Hh aD hc aD) ?_;have er:=@WH (x.drop i.toNat);simp only[gP] at er;show LK (br ((Dc (gp x i)).2==0) _ _) _ _ _;rw[show gp x i=x.drop i.toNat from rfl];refine dx rfl (λ_=>f8 rfl) λh0=>?_;have h0:(Dc (x.drop i.toNat)).2≠0:=by simpa using h0
   have er:=er.resolve_left h0;refine bK λhg=>bW hg (bK λhg=>bW hg (bW yJ (bW yJ ?_)));rw[show i+(Dc (x.drop i.toNat)).2 - 1+1=i+(Dc (x.drop i.toNat)).2 by omega];exact hn _ _ Ik
  refine LK.jn2 (λ(v:Bool) w=>w=v) (λ_ _=>False) ?_ (λ_ _ h=>h.elim) λj j' hj _=>?_
  ·rintro v _ rfl;refine dx rfl (λ_=>f8 rfl) λ_=>jc λz _ hz=>?_;rw[hc] at hz;cases hz;exact bK λhg=>bW hg (bK λhg=>bW hg (hn _ _ Ik))
  refine jc λz _ hz=>?_;rw[hc] at hz;cases hz;refine dx rfl (λ_=>hj _ _ rfl) λ_=>jc λz _ hz=>?_;rw[hc] at hz;cases hz;exact hj _ _ rfl
 exact aI (λ_=>aJ (λh=>aw Bx hi) λ_=>f8 rfl) λh=>aw qk aD
end
def adr {u:ByS} (h:(Dc u).2≠0):0<=(Dc u).1/\(Dc u).1<=255:=by
 rcases u with _|⟨c0,_|⟨c,r⟩⟩
 ·exact JO
 ·exact JO
 have bc:=GZ c;show 0<=(xB c r).1/\(xB c r).1<=255;have h:(xB c r).2≠0:=h;unfold xB at h ⊢;split
 ·dsimp only;omega
 split
 ·decide
 split
 ·decide
 split
 ·decide
 split
 ·rename_i h1 h2 h3 h4 h5;rw[aC h1,aC h2,aC h3,aC h4,aL h5] at h;rcases r with _|⟨x,_|⟨y,r⟩⟩
  ·exact JO
  ·exact JO
  rw[BQ] at h ⊢;cases q:uz x y with
  | none=>rw[q] at h;exact JO
  | some v=>exact adq q
 decide
def ads {v:Int}:ob 1 (List.length ([]:List Int)) (List.length [v]):=by show ob 1 0 1;decide
section
variable {m:Nat->Nat}
variable {c:UInt8}
def adt (hm:bN m) (hr:r.length<=9) (h:c=34\/(c.toNat:Int)<32\/(c.toNat:Int)>126\/(c=92/\(Dc (92::(r++[34]))).2=0)) :
  Ev (λi=>fy (m i) (34::c::(r++[34]))) (λz=>z.2.dX≠0) dt:=by
 unfold fy mV oz jU
 refine ay MN λ_=>ay (λh=>by simp at h;omega) λ_=>cR (x:=34) aD rfl (aH (kh hm ?_))
 dsimp only
 refine ay (λ_=>cR (x:=c) aD rfl ?_) λh=>aw qk rI
 rw[mz 34 34 rfl,mz 92 92 rfl]
 have f8:∀ {v:Int},Ev (λ_:Nat=>ag (.ok (cZ.mk 8 v)) λy=>.ok (([]:ByS),y)) (λz=>z.2.dX≠0) dt:=aj Zj
 refine ay (λ_=>dB dN (ay (λ_=>dB dN f8) λh=>aw qk rI)) λh34=>ay (λDm=>?_) λDm=>?_
 ·have Dm:c=92:=by simpa using Dm
  subst Dm
  refine ai (Hh dN rfl rI) ?_
  rintro _ rfl
  rw[show List.drop (1:Int).toNat (34::92::(r++[34]))=92::(r++[34]) from rfl]
  rcases h with h|h|h|h
  ·exact JR
  ·exact JR
  ·exact JR
  ·rw[h.2];exact ba f8
 ·refine bD (λv=>v=true) (λv hv=>by subst hv;exact ba f8) λj hj=>ay (λ_=>hj _ rfl) λh1=>hj _ (aV ?_)
  have h1:=aU h1
  rcases h with h|h|h|h
  ·subst h;exact aw h34 dN
  ·omega
  ·exact h
  ·exact aw Dm (by simp[h.1])
def ajl (hm:bN m):Ev (λi=>fy (m i) [34,92,34]) (λz=>z.2.dX≠0) dt:=by
 unfold fy mV oz jU;refine aH (aH (cR (x:=34) aD rfl (aH (kh hm ?_))));dsimp only;refine ba (cR (x:=92) aD rfl (aH (ba (ai (Hh dN rfl dN) ?_))));rintro _ rfl;refine aH (dB dN (dB dN (dB dN (dB dN (kh hm.pred ?_)))));dsimp only;exact aH (aj dN)
def ajm (hm:bN m) (hr:r.length<=9) (h:(Dc (92::(r++[34]))).2=r.length+1) :
  Ev (λi=>fy (m i) (34::92::(r++[34]))) (λz=>z=([UInt8.ofNat (Dc (92::(r++[34]))).1.toNat],cZ.mk 0 0)) dt:=by
 unfold fy mV oz jU
 refine ay MN λ_=>ay (λh=>by simp at h;omega) λ_=>cR (x:=34) aD rfl (aH (kh hm ?_))
 dsimp only
 refine ay (λ_=>cR (x:=92) aD rfl (aH (ba (ai (Hh dN rfl rI) ?_)))) λh=>aw qk rI
 rintro _ rfl
 rw[show List.drop (1:Int).toNat (34::92::(r++[34]))=92::(r++[34]) from rfl]
 refine ay (λh0=>aw h (by rw[cn] at h0;omega)) λ_=>dB ads (aF (aF (aF (kh hm.pred ?_))))
 dsimp only
 have e:(1:Int)+(Dc (92::(r++[34]))).2 - 1+1=r.length+2:=by omega
 have lst:(34::92::(r++[34]))[((r.length:Int)+2).toNat]?=some 34:=by
  rw[show ((r.length:Int)+2).toNat=r.length+1+1 by omega]
  simp
 rw[e]
 refine ay (λ_=>cR aD lst (ba (aF (ay MN λ_=>aj (by simp[jz]))))) λh=>aw qk rI
def ajn (hm:bN m) (h34:c≠34) (Dm:c≠92) (h0:¬ (c.toNat:Int)<32) (h1:¬ (c.toNat:Int)>126) :
  Ev (λi=>fy (m i) [34,c,34]) (λz=>z=([c],cZ.mk 0 0)) dt:=by
 unfold fy mV oz jU
 refine aH (aH (cR (x:=34) aD rfl (aH (kh hm ?_))))
 dsimp only
 refine ba (cR (x:=c) aD rfl ?_)
 rw[mz 34 34 rfl,mz 92 92 rfl]
 refine ay (λh=>aw h (by simpa using h34)) λ_=>ay (λh=>aw h (by simpa using Dm)) λ_=>bD (λv=>v=false) (λv hv=>?_) λj hj=>ay (λh=>aw Bx h0) λ_=>hj _ (bA h1)
 subst hv
 refine aH (dB ads (dB dN (kh hm.pred ?_)))
 dsimp only
 exact ba (cR (x:=34) aD rfl (ba (dB dN (aH (aj (by simp[jz]))))))
end
def EK:ByS->Int
 | []=>0
 | c::r=>if c=92 then (Dc (c::r)).2 else if c=34\/(c.toNat:Int)<32\/(c.toNat:Int)>126 then 0 else 1
def WI:ByS->Int
 | []=>0
 | c::r=>if c=92 then (Dc (c::r)).1 else c.toNat
def afO {x:UInt8}:uz x 34=none:=by
 have:hx 34=none:=by decide
 unfold uz;rw[this];cases hx x<;>rfl
def alc {r:ByS} {j:Nat} (h1:1<=j) (h2:j<=r.length) (h3:j<=3) :
  ((Dc (92::r)).2=0\/(j:Int)+1<(Dc (92::r)).2->(Dc (92::(r.take j++[34]))).2=0)/\((Dc (92::r)).2=j+1->Dc (92::(r.take j++[34]))=Dc (92::r)):=by
 obtain ⟨d,r',rfl⟩:∃ d r',r=d::r':=by
  rcases r with _|⟨d,r'⟩
  ·simp at h2;omega
  ·exact ⟨d,r',rfl⟩
 obtain ⟨j',rfl⟩:∃ j',j=j'+1:=⟨j - 1,aD⟩
 rw[nQ]
 show ((xB d r').2=0\/_<(xB d r').2->(xB d (r'.take j'++[34])).2=0)/\((xB d r').2=_->xB d (r'.take j'++[34])=xB d r')
 unfold xB
 split
 ·exact ţ
 split
 ·exact ţ
 split
 ·exact ţ
 split
 ·exact ţ
 split
 ·simp only[jI] at h2
  rcases r' with _|⟨x,_|⟨y,r⟩⟩
  ·exact ⟨λ_=>by simp[I2],λ_=>by simp[I2]⟩
  ·obtain rfl|rfl:j'=0\/j'=1:=by simp at h2;omega
   ·exact Y3
   ·exact ⟨λ_=>by show (match uz x 34 with|some v=>(v,(4:Int))|none=>(0,0)).2=0;rw[afO],λ_=>by show (match uz x 34 with|some v=>(v,(4:Int))|none=>(0,0))=(0,0);rw[afO]⟩
  ·obtain rfl|rfl|rfl:j'=0\/j'=1\/j'=2:=by omega
   ·refine ⟨λ_=>rfl,λh=>?_⟩
    rw[BQ] at h
    cases q:uz x y with
    | none=>rw[q] at h;exact JR
    | some v=>rw[q] at h;exact aw h (by show ¬ (4:Int)=_;decide)
   ·refine ⟨λ_=>by show (match uz x 34 with|some v=>(v,(4:Int))|none=>(0,0)).2=0;rw[afO],λh=>?_⟩
    rw[BQ] at h
    cases q:uz x y with
    | none=>rw[q] at h;exact JR
    | some v=>rw[q] at h;exact aw h (by show ¬ (4:Int)=_;decide)
   ·show (_->(I2 (x::y::[34])).2=0)/\(_->I2 (x::y::[34])=_)
    rw[BQ,BQ]
    refine ⟨λh=>?_,λ_=>rfl⟩
    cases q:uz x y with
    | none=>rfl
    | some v=>rw[q] at h;exact aw h (by show ¬ ((4:Int)=0\/_<(4:Int));omega)
 ·exact Y3
def adu:0<=EK u/\EK u<=4/\EK u<=u.length/\(EK u≠0->0<=WI u/\WI u<=255):=by
 rcases u with _|⟨c,r⟩
 ·exact ⟨by decide,by decide,by decide,λh=>aw rfl h⟩
 have bc:=GZ c;simp only[EK,WI];by_cases h:c=92
 ·rw[aL h,aL h];have:=@WH (c::r);exact ⟨by omega,by omega,by omega,λh=>adr h⟩
 rw[aC h,aC h];refine ⟨UP,UP,by simp only[jI];split<;>omega,λ_=>by omega⟩
section
variable {m:Nat->Nat}
def ì {k:Nat} (hm:bN m) (h1:1<=k) (h2:k<=u.length) (h3:k<=4) :
  (EK u=0\/(k:Int)<EK u->Ev (λi=>fy (m i) ([34]++u.take k++[34])) (λz=>z.2.dX≠0) dt)/\(EK u=k->Ev (λi=>fy (m i) ([34]++u.take k++[34])) (λz=>z=([UInt8.ofNat (WI u).toNat],cZ.mk 0 0)) dt):=by
 obtain ⟨c,r,rfl⟩:∃ c r,u=c::r:=by
  rcases u with _|⟨d,r'⟩
  ·simp at h2;omega
  ·exact ⟨d,r',rfl⟩
 obtain ⟨j,rfl⟩:∃ j,k=j+1:=⟨k - 1,aD⟩
 simp only[jI] at h2
 rw[nQ,show [34]++c::List.take j r++[34]=34::c::(List.take j r++[34]) from rfl]
 have ht:(List.take j r).length=j:=by simp;omega
 simp only[EK,WI]
 by_cases h:c=92
 ·subst h
  rw[aL rfl,aL rfl]
  have er:=@WH (92::r)
  by_cases hj:j=0
  ·subst hj
   exact ⟨λ_=>ajl hm,λh=>by omega⟩
  ·obtain ⟨e1,e2⟩:=alc (r:=r) (j:=j) aD aD aD
   refine ⟨λh=>adt hm aD (.inr (.inr (.inr ⟨rfl,e1 aD⟩))),λh=>?_⟩
   have e2:=e2 aD
   rw[<- e2]
   exact ajm hm aD (by rw[e2,ht];omega)
 ·rw[aC h,aC h]
  split
  ·rename_i hb
   exact ⟨λ_=>adt hm aD (by rcases hb with hb|hb|hb<;>simp[hb]),λh=>by omega⟩
  ·rename_i hb
   refine ⟨λh=>by omega,λhj=>?_⟩
   obtain rfl:j=0:=by omega
   rw[List.take_zero]
   refine (ajn hm (λh=>hb (.inl h)) h (λh=>hb (.inr (.inl h))) λh=>hb (.inr (.inr h))).oB λz hz=>?_
   rw[hz];simp
def WJ {s:ByS} {a:Int} (hm:bN m) (h0:0<=a) (h1:a<s.length) (hs:s.length<=65536):Ev (λi=>sE (m i) s a) (λr=>r=EK (s.drop a.toNat)) dt:=by
 unfold sE;obtain ⟨p0,p1,p2,_⟩:=@adu (s.drop a.toNat);have hl:(s.drop a.toNat).length=s.length - a.toNat:=gP;refine bR hm (λk:Int=>1<=k/\k<=5/\(EK (s.drop a.toNat)=0\/k<=EK (s.drop a.toNat))) (λk=>(5 - k).toNat) ⟨dN,dN,aD⟩ ?_;rintro k ⟨k1,k2,k3⟩ next hn;refine ay (λh=>?_) λh=>aj ML;have h:=bg h;refine aF (ay (λh=>?_) λh=>aj ML);have h:=bg h;refine aF (aF ?_);have es:sub s a (a+k)=(s.drop a.toNat).take k.toNat:=by unfold sub;congr 1;omega
 have lsub:(sub s a (a+k)).length<=4:=by rw[es,iT];omega
 refine dB ŏ (dB ŏ ?_);rw[es];obtain ⟨q1,q2⟩:=ì (u:=s.drop a.toNat) (k:=k.toNat) hm aD aD aD;by_cases hk:EK (s.drop a.toNat)=k
 ·refine ai (q2 aD) ?_;rintro _ rfl;exact ba (ba (aj hk.symm))
 refine ai (q1 aD) λz hz=>?_;have nx:=hn (k+1) ⟨aD,aD,aD⟩ aD;exact ay (λh=>aw jk hz) λ_=>aF nx
end
def afP {d:UInt8}:(xB d r).2=0->xB d r=(0,0):=by
 unfold xB;split
 ·exact λh=>aw h (by show ¬ (2:Int)=0;decide)
 split
 ·exact Qt
 split
 ·exact Qt
 split
 ·exact Qt
 split
 ·rcases r with _|⟨x,_|⟨y,r⟩⟩
  ·exact λ_=>rfl
  ·exact λ_=>rfl
  rw[BQ];cases uz x y with
  | none=>exact λ_=>rfl
  | some v=>exact λh=>aw h (by show ¬ (4:Int)=0;decide)
 exact λ_=>rfl
section
variable {m:Nat->Nat}
def í {x:ByS} {Q:ByS×cZ->Prop} (h:Ev (λi=>fy i x) Q dt):∃ y,Q y/\Tk (ni n x) y:=by
 obtain ⟨y,hq,_⟩:=h.get;cases e:ni n x with
 | stuck=>exact ⟨y,hq,.inl rfl⟩
 | ok z=>
  obtain ⟨w,⟨h1,h2⟩,_⟩:=(((Gl mf).1 z e).both h).get
  exact ⟨z,h1▸h2,.inr rfl⟩
 | qH p=>exact ((Gl (n:=n) mf).2 p e).get.elim λ_ h=>h.1.elim
def Yl:Tk (ru n (92::r)) (Dc (92::r)):=by
 unfold ru;refine rE (λv=>v=4/\(∃ r',r=120::r')\/v=2/\¬ ∃ r',r=120::r') (λv hv=>?_) λj hj=>nG (zJ _ _) (cA (λh=>hj _ (.inl ⟨rfl,?_⟩)) λh=>hj _ (.inr ⟨rfl,?_⟩))
 ·have sp:(Dc (92::r)).2=0\/(Dc (92::r)).2=v:=by
   rcases hv with ⟨rfl,r',rfl⟩|⟨rfl,hv⟩
   ·show (xB 120 r').2=0\/_=_;show (I2 r').2=0\/(I2 r').2=_;rcases r' with _|⟨x,_|⟨y,r⟩⟩
    ·exact .inl rfl
    ·exact .inl rfl
    rw[BQ];cases uz x y with
    | none=>exact .inl rfl
    | some v=>exact .inr rfl
   rcases r with _|⟨d,r'⟩
   ·exact .inl rfl
   have hd:d≠120:=λe=>hv ⟨r',by rw[e]⟩;show (xB d r').2=0\/(xB d r').2=2;unfold xB;rw[aC hd];split
   ·exact .inr rfl
   split
   ·exact .inr rfl
   split
   ·exact .inr rfl
   split
   ·exact .inr rfl
   exact .inl rfl
  have e0:(Dc (92::r)).2=0->Dc (92::r)=(0,0):=λh=>by
   rcases r with _|⟨d,r'⟩
   ·rfl
   exact afP h
  have er:=@WH (92::r);have v24:v=4\/v=2:=by rcases hv with h|h<;>omega
  refine cA (λh=>iw (e0 Zv).symm) λh=>?_;have h:=aU h;refine dY λ_=>dY λ_=>dY λ_=>?_;rw[show sd (92::r) v=(92::r).take v.toNat from rfl];obtain ⟨q1,q2⟩:=ì (u:=92::r) (k:=v.toNat) mf aD aD aD;have e1:EK (92::r)=(Dc (92::r)).2:=by simp only[EK];rw[aL trivial]
  have e2:WI (92::r)=(Dc (92::r)).1:=by simp only[WI];rw[aL trivial]
  rw[e1] at q1 q2;rw[e2] at q2;by_cases hz:(Dc (92::r)).2=0
  ·obtain ⟨y,hy,ht⟩:=í (n:=n) (q1 (.inl hz));refine tb ht (cA (λ_=>iw (e0 hz).symm) λh=>aw jk hy)
  obtain ⟨y,rfl,ht⟩:=í (n:=n) (q2 aD);have ev:=adr hz;refine tb ht (cA dC λ_=>kD λx _ hx=>iw ?_);have hx:some (UInt8.ofNat (Dc (92::r)).1.toNat)=some x:=hx;cases hx;refine Prod.ext ?_ (by show v=_;omega);show ((UInt8.ofNat (Dc (92::r)).1.toNat).toNat:Int)=_;simp;omega
 ·rcases r with _|⟨d,r'⟩
  ·exact JR
  simp[List.isPrefixOf] at h;exact ⟨r',by rw[h]⟩
 rintro ⟨r',rfl⟩;simp[List.isPrefixOf] at h
def Uj {s:ByS} {a:Int} (hm:bN m) (h0:0<=a) (hs:s.length<=65536) (hb:s[(a+1).toNat]?=some 40) :
  LK (vk n (gp s (a+1))) (λi=>uM (m i) s (a+2)) (λy z=>y.2=false/\z<0\/y.2=true/\a+2<=z/\z<s.length/\y.1=sub s (a+2) z) (λ_ _=>False):=by
 unfold vk uM
 have lu:(gp s (a+1)).length=s.length - (a+1).toNat:=by unfold gp;simp
 have gu:∀ j:Int,0<=j->(gp s (a+1))[j.toNat]?=s[(j+a+1).toNat]?:=λj hj=>by unfold gp;rw[dz];congr 1;omega
 have l1:=(ao.1 hb).1
 rcases n with _|n
 ·exact dc
 show LK (br (decide ((0:Int)<(gp s (a+1)).length)) _ _) _ _ _
 refine aI (λ_=>jc λz _ hz=>?_) λh=>aw qk aD
 rw[gu 0 dN,show ((0:Int)+a+1).toNat=(a+1).toNat by omega,hb] at hz
 cases hz
 refine aI (λ_=>bK λ_=>bK λ_=>?_) dC
 refine ud (λ(v:Int×Int) (w:Int×Int)=>v.1=w.1+1/\w.2=v.2+a+1/\0<=w.1/\w.1<=v.2/\1<=v.2/\v.2<=(gp s (a+1)).length) ?_ n hm _ _ ⟨rfl,eZ,eZ,eZ,eZ,eZ⟩
 rintro ⟨d,j⟩ ⟨d',j'⟩ ⟨i1,i2,i3,i4,i5,i6⟩ next next' hn
 dsimp only at i1 i2 i3 i4 i5 i6 ⊢
 subst i1 i2
 by_cases hj:j<(gp s (a+1)).length
 ·obtain ⟨c,hc⟩:∃ c,s[(j+a+1).toNat]?=some c:=⟨_,aA aD⟩
  refine aI (λ_=>aJ (λ_=>jc λz _ hz=>?_) λh=>aw qk aD) λh=>aw hj qk
  rw[gu j aD,hc] at hz
  cases hz
  rw[mz 40 40 rfl,mz 41 41 rfl]
  have nx:∀ d2,0<=d2->d2<=j+1->LK (next (d2+1,j+1)) (λi=>next' i (d2,j+a+1+1)) (λ(y:ByS×Bool) z=>y.2=false/\z<0\/y.2=true/\a+2<=z/\z<s.length/\y.1=sub s (a+2) z) (λ_ _=>False):=λd2 h h'=>hn _ _ ⟨rfl,eZ,eZ,eZ,eZ,eZ⟩
  refine mr (mr (eI aD hc ?_))
  rw[mz 41 41 rfl]
  by_cases G3:c=40
  ·subst G3
   refine aI (λ_=>bK λ_=>bK λ_=>?_) dC
   refine aJ dC λ_=>eI aD hc (aJ (λ_=>bW yJ (eI aD hc (aJ dC λ_=>bW yJ (nx _ aD aD)))) dC)
  refine aI (λh=>aw jk G3) λ_=>aI (λOF=>?_) λOF=>?_
  ·have OF:c=41:=by simpa using OF
   subst OF
   refine bK λ_=>aJ (λ_=>?_) dC
   by_cases hd:d'=0
   ·subst hd
    refine aI (λ_=>bK λhg=>aJ (λ_=>bZ (.inr ⟨rfl,aD,aD,?_⟩)) dC) λh=>by simp at h
    show sub (gp s (a+1)) 1 j=sub s (a+2) (j+a+1)
    unfold sub gp
    rw[j8]
    congr 1
    ·omega
    ·congr 1;omega
   ·refine aI (λh=>aw jk aD) λ_=>bK λ_=>aJ (λh=>aw jk hd) λ_=>eI aD hc (aJ dC λ_=>eI aD hc (aJ (λ_=>bW yJ (bW yJ ?_)) dC))
    have:=nx (d' - 1) aD aD
    rwa [show d' - 1+1=d'+1 - 1 by omega] at this
  ·refine bK λ_=>aJ (λh=>aw (OF.symm.trans h) dN) λ_=>eI aD hc (aJ (λh=>aw (by rwa [mz 40 40 rfl,cn] at h) G3) λ_=>eI aD hc (aJ (λh=>?_) λ_=>bW yJ (nx _ aD aD)))
   rw[mz 41 41 rfl,OF] at h;cases h
 ·exact aI (λh=>aw Bx hj) λ_=>aJ Ij λ_=>bZ (.inl ⟨rfl,by decide⟩)
end
section
variable {m:Nat->Nat}
def Sn {l:List Int} {P:List bP} {v:Int}:Tk (qv l P v) ([],if l=[] then P else P++[bP.mk (jz l) false v],v):=by
 unfold qv;rcases l with _|⟨a,l⟩
 ·exact cA (λh=>aw Bx bm) λ_=>kJ
 exact cA (λ_=>dY λ_=>kJ) λh=>aw qk bm
def IV (s:ByS) (v:List bP×List Int×Int×Int) (w:List cy×ByS×Int×Int):Prop:=
 w.2.2.2=v.2.2.2/\0<=v.2.2.2/\v.2.2.2<=s.length/\v.1=w.1.map Lk/\w.2.1=jz v.2.1/\(v.2.1=[]->w.2.2.1=v.2.2.2)/\(v.2.1≠[]->w.2.2.1=v.2.2.1/\w.2.2.1<v.2.2.2)/\(v.2.1.length:Int)<=v.2.2.2/\(w.1.length:Int)<=v.2.2.2
def î {k:Nat} (h:k<=70000):ob 32 k 1:=⟨aD,by unfold maxLen;omega⟩
def Ll:afK:=by
 intro n m s hm hs;unfold pT jh oz jU tG;refine ud (IV s) ?_ n hm _ _ ⟨rfl,dN,eZ,rfl,rfl,λ_=>rfl,λh=>aw rfl h,dN,dN⟩;rintro ⟨P,l,f,a0⟩ ⟨P',x,f',a⟩ ⟨i1,i2,i3,i4,i5,i6,i7,i8,i9⟩ next next' hn;dsimp only at i1 i2 i3 i4 i5 i6 i7 i8 i9 ⊢;subst i1 i4 i5;refine dx rfl (λh=>?_) λh=>?_
 rotate_left
 ·refine gU Sn ?_;have h:=aU h;by_cases hl:l=[]
  ·rw[aL hl];exact aJ (λh=>aw Bx (by have:=i6 hl;omega)) λ_=>bZ rfl
  rw[aC hl];have:=i7 hl;refine aJ (λ_=>bW (î aD) (bZ ?_)) λh=>aw qk aD;rw[vS,this.1];rfl
 have h:=bg h;obtain ⟨c,hc⟩:∃ c,s[a.toNat]?=some c:=⟨_,aA aD⟩;have hd:s.drop a.toNat=c::s.drop (a.toNat+1):=by
  rw[ao] at hc;obtain ⟨q1,q2⟩:=hc;rw[cb q1,q2]
 have GD:(l.length:Int)=0↔l=[]:=by cases l<;>simp<;>omega
 refine oK (λv=>f'=v) (λv hv=>?_) λj hj=>aI (λh=>hj _ (i6 (GD.1 jk))) λh=>hj _ (i7 λq=>by rw[q] at h;cases h).1;subst hv;refine bK λ_=>nH (zJ _ _) (mr (eI aD hc ?_));rw[mz 92 92 rfl,show gp s a=s.drop a.toNat from rfl];refine aI (λhp=>?_) λhp=>?_
 ·
  rw[hd] at hp;obtain ⟨rfl,hp⟩:c=92/\(([40]:ByS).isPrefixOf (s.drop (a.toNat+1))=true):=by
   simp only[List.isPrefixOf,bk,cn] at hp;exact ⟨hp.1.symm,hp.2⟩
  obtain ⟨G3,gR⟩:s[(a+1).toNat]?=some 40/\a+1<s.length:=by
   rcases q:s.drop (a.toNat+1) with _|⟨d,r⟩
   ·rw[q] at hp;cases hp
   rw[q] at hp;have e:s[a.toNat+1]?=some d:=by have:=iy (λl=>l[0]?) q;simpa using this
   have:a.toNat+1<s.length:=(ao.1 e).1;simp[List.isPrefixOf] at hp;exact ag_
  refine aJ (λ_=>bW yJ (aJ (λ_=>bW yJ (eI aD G3 ?_)) λh=>aw qk aD)) dC;refine aJ (λ_=>bW yJ (bK λ_=>bK λ_=>cq (Uj hm i2 hs G3) ?_ λ_ _ h=>h.elim)) dC;rintro ⟨t,ok⟩ z (⟨q1,q2⟩|⟨q1,q2,q3,q4⟩)
  ·have q1:ok=false:=q1;subst q1;exact aI (λ_=>aJ (λ_=>bZ rfl) λh=>aw qk aD) λh=>by cases h
  have q1:ok=true:=q1;subst q1;have q4:t=sub s (a+2) z:=q4;have lt:(t.length:Int)=z - (a+2):=by rw[q4];unfold sub;simp;omega
  refine aI dC λ_=>aJ Ij λ_=>gU Sn (bK λ_=>bK λ_=>bK λ_=>bK λ_=>?_);have fin:∀ Q:List cy,(if l=[] then P'.map Lk else P'.map Lk++[bP.mk (jz l) false f'])=Q.map Lk->(Q.length:Int)<=a+1->LK (next ((if l=[] then P'.map Lk else P'.map Lk++[bP.mk (jz l) false f'])++[bP.mk t true (a+2)],[],f',a+((t.length:Int)+3)))
    (λi=>gd (cD (a+2)) (gd ((0:Int)<=a+2/\(a+2:Int)<=z/\z<=(List.length s:Int)) (gd (cD (a+2)) (gd (ob 32 Q.length (List.length [(cy.mk (sub s (a+2) z) true (a+2))])) (gd (cD (z+1)) (gd (cD (z+1)) (next' i (Q++[(cy.mk (sub s (a+2) z) true (a+2))],([]:ByS),z+1,z+1))))))))
    (λy z=>y=(z.1.map Lk,z.2)) (λ_ _=>False):=λQ hQ hq=>by
   refine bW yJ (bW aD (bW yJ (bW (î aD) (bW yJ (bW yJ (hn _ _ ⟨eZ,eZ,eZ,?_,rfl,λ_=>by dsimp only;omega,λh=>aw rfl h,by dsimp only [List.length];omega,by simp only[dS,jI,List.length_nil];omega⟩))))))
   show _=(Q++[_]).map Lk
   rw[hQ,vS,<- q4];rfl
  refine mr ?_;by_cases hl:l=[]
  ·refine aJ (λh=>aw Bx (by have:=i6 hl;omega)) λ_=>fin P' (by rw[aL hl]) aD
  have:=i7 hl;refine aJ (λ_=>bW (î aD) (fin _ ?_ ?_)) λh=>aw qk aD
  ·rw[aC hl,vS];rfl
  simp;omega
 
 obtain ⟨p0,p1,p2,p3⟩:=@adu (s.drop a.toNat);have dl:(s.drop a.toNat).length=s.length - a.toNat:=gP;have np:∀ {w:Int},Ev (λi=>sE (m i) s a) (λr=>r=EK (s.drop a.toNat)) dt:=λ{_}=>WJ hm i2 h hs;have right:∀ {X:aG (List bP×cZ)},(EK (s.drop a.toNat)=0->X=.ok ([],cZ.mk 8 a))->(EK (s.drop a.toNat)≠0->LK X (λi=>next' i (P',jz l++[UInt8.ofNat (WI (s.drop a.toNat)).toNat],f',a+EK (s.drop a.toNat))) (λy z=>y=(z.1.map Lk,z.2)) (λ_ _=>False))->
   LK X (λi=>ag (sE (m i) s a) λy39=>br (y39==0) (.ok ([],(cZ.mk 8 a))) (gd (cD (a+y39)) (gd ((0:Int)<=a/\(a:Int)<=(a+y39)/\(a+y39)<=(List.length s:Int)) (gd (BR ([34]:ByS) (sub s a (a+y39))) (gd (BR (([34]:ByS)++(sub s a (a+y39))) ([34]:ByS)) (ag (fy (m i) ((([34]:ByS)++(sub s a (a+y39)))++([34]:ByS))) λy49=>gd (BR (jz l) y49.1) (gd (cD (a+y39)) (next' i (P',(jz l)++y49.1,f',a+y39))))))))) (λy z=>y=(z.1.map Lk,z.2)) (λ_ _=>False):=λ{X} hx0 Hm=>by
  refine bn (WJ hm i2 h hs) ?_
  by_cases hz:EK (s.drop a.toNat)=0
  ·rw[hx0 hz]
   exact aJ (λ_=>bZ rfl) λh=>by rw[hz] at h;cases h
  ·have es:sub s a (a+EK (s.drop a.toNat))=(s.drop a.toNat).take (EK (s.drop a.toNat)).toNat:=by unfold sub;congr 1;omega
   have lsub:(sub s a (a+EK (s.drop a.toNat))).length<=4:=by rw[es,iT];omega
   refine aJ (λh=>aw jk hz) λ_=>bW yJ (bW aD (bW ŏ (bW ŏ ?_)))
   rw[es]
   refine bn ((ì (u:=s.drop a.toNat) (k:=(EK (s.drop a.toNat)).toNat) hm aD aD aD).2 aD) ?_
   exact bW (by simp[BR,jz];(first|omega|(simp[cD,ob,BR,maxLen]<;>omega))) (bW yJ (Hm hz))
 have stp:EK (s.drop a.toNat)≠0->LK (next (P'.map Lk,l++[WI (s.drop a.toNat)],f',a+EK (s.drop a.toNat))) (λi=>next' i (P',jz l++[UInt8.ofNat (WI (s.drop a.toNat)).toNat],f',a+EK (s.drop a.toNat))) (λy z=>y=(z.1.map Lk,z.2)) (λ_ _=>False):=λhz=>by
  refine hn _ _ ⟨rfl,eZ,eZ,rfl,by simp[jz],λh=>by simp at h,λ_=>⟨rfl,?_⟩,rI,eZ⟩;show f'<a+_;by_cases hl:l=[]
  ·have:=i6 hl;omega
  have:=i7 hl;omega
 have body:LK (el s a λb37=>br ((b37.toNat:Int)==92) (gd ((0:Int)<=a/\a<=(List.length s:Int)) (ag (ru n (gp s a)) λy44=>br (y44.2==0) (.ok ([],(cZ.mk 8 a))) (gd (ob 1 l.length (List.length [y44.1])) (gd (cD (a+y44.2)) (next (P'.map Lk,l++[y44.1],f',a+y44.2)))))) (jn (λ(v52:Bool)=>br v52 (.ok ([],(cZ.mk 8 a))) (el s a λb58=>gd (ob 1 l.length (List.length [(b58.toNat:Int)])) (gd (cD (a+1)) (next (P'.map Lk,l++[(b58.toNat:Int)],f',a+1))))) λj53=>el s a λb64=>br (decide ((b64.toNat:Int)<32)) (j53 (true)) (el s a λb69=>br (decide ((b69.toNat:Int)>126)) (j53 (true)) (el s a λb74=>j53 (((b74.toNat:Int)==34))))))
   (λi=>ag (sE (m i) s a) λy39=>br (y39==0) (.ok ([],(cZ.mk 8 a))) (gd (cD (a+y39)) (gd ((0:Int)<=a/\(a:Int)<=(a+y39)/\(a+y39)<=(List.length s:Int)) (gd (BR ([34]:ByS) (sub s a (a+y39))) (gd (BR (([34]:ByS)++(sub s a (a+y39))) ([34]:ByS)) (ag (fy (m i) ((([34]:ByS)++(sub s a (a+y39)))++([34]:ByS))) λy49=>gd (BR (jz l) y49.1) (gd (cD (a+y39)) (next' i (P',(jz l)++y49.1,f',a+y39))))))))) (λy z=>y=(z.1.map Lk,z.2)) (λ_ _=>False):=by
  refine jc λz _ hz=>?_
  rw[hc] at hz;cases hz
  rw[mz 92 92 rfl]
  refine aI (λDm=>bK λ_=>?_) λDm=>?_
  ·have Dm:c=92:=by simpa using Dm
   subst Dm
   rw[show gp s a=s.drop a.toNat from rfl,hd]
   refine gU Yl ?_
   have e1:EK (s.drop a.toNat)=(Dc (s.drop a.toNat)).2:=by rw[hd];simp only[EK];rw[aL trivial]
   have e2:WI (s.drop a.toNat)=(Dc (s.drop a.toNat)).1:=by rw[hd];simp only[WI];rw[aL trivial]
   rw[<- hd,<- e1,<- e2]
   by_cases hz:EK (s.drop a.toNat)=0
   ·exact right (λ_=>by rw[hz];rfl) λh=>aw hz h
   ·exact aI (λh=>aw jk hz) λ_=>bK λ_=>bK λ_=>right (λh=>aw h hz) stp
  ·have Dm:c≠92:=by simpa using Dm
   have e1:EK (s.drop a.toNat)=if c=34\/(c.toNat:Int)<32\/(c.toNat:Int)>126 then 0 else 1:=by rw[hd];simp only[EK];rw[aC Dm]
   have e2:WI (s.drop a.toNat)=c.toNat:=by rw[hd];simp only[WI];rw[aC Dm]
   refine oK (λv=>v=(EK (s.drop a.toNat)==0)) (λv hv=>?_) λj hj=>?_
   ·subst hv
    by_cases hz:EK (s.drop a.toNat)=0
    ·rw[hz];exact right (λ_=>rfl) λh=>aw hz h
    ·refine aI (λh=>aw jk hz) λ_=>jc λz _ I7=>?_
     rw[hc] at I7;cases I7
     have e3:EK (s.drop a.toNat)=1:=by
      rw[e1] at hz ⊢
      split
      ·rename_i q;rw[aL q] at hz;exact aw rfl hz
      ·rfl
     have:=stp hz
     rw[e2,e3] at this
     refine bK λ_=>bK λ_=>right (λh=>aw h hz) λ_=>?_
     rw[e2,e3];exact this
   ·refine jc λz _ I7=>?_
    rw[hc] at I7;cases I7
    refine aI (λh=>hj _ ?_) λh=>jc λz _ I7=>?_
    ·rw[e1,aL (.inr (.inl Bx))];rfl
    rw[hc] at I7;cases I7
    have h0:=aU h
    refine aI (λh=>hj _ ?_) λh=>jc λz _ I7=>?_
    ·rw[e1,aL (.inr (.inr Bx))];rfl
    rw[hc] at I7;cases I7
    have h1:=aU h
    refine hj _ ?_
    rw[e1,mz 34 34 rfl]
    by_cases q:c=34
    ·subst q;rfl
    ·rw[aC (λh=>by rcases h with h|h|h<;>contradiction),beq_eq_false_iff_ne.2 q];rfl
 refine aJ (λhb=>bW yJ (aJ (λgR=>?_) λ_=>aJ dC λ_=>body)) λ_=>aJ dC λ_=>body;have gR:=bg gR;obtain ⟨d,hdd⟩:∃ d,s[(a+1).toNat]?=some d:=⟨_,aA aD⟩;refine bW yJ (eI aD hdd (aJ (λG3=>?_) λ_=>body));rw[mz 40 40 rfl,cn] at G3;have hb:c=92:=by simpa using hb
 subst G3 hb;have:s.drop (a.toNat+1)=40::s.drop (a.toNat+2):=by
  rw[show (a+1).toNat=a.toNat+1 by omega,ao] at hdd;obtain ⟨q1,q2⟩:=hdd;rw[cb q1,q2]
 rw[hd,this] at hp;simp[List.isPrefixOf] at hp
end
section
variable {b:UInt8} {l:ByS} {c:UInt8}
def Dd:xF b=true↔48<=b.toNat/\b.toNat<=57:=by unfold xF;simp[UInt8.le_iff_toNat_le]
def d8 (k:Nat):UInt8:=UInt8.ofNat (48+k % 10)
def D4 (w:Nat):ByS:=[d8 (w / 1000),d8 (w / 100),d8 (w / 10),d8 w]
def YP (l:ByS):ByS:=(l.reverse.dropWhile (·==48)).reverse
def Nw:YP (l++[c])=if c=48 then YP l else l++[c]:=by
 unfold YP;rw[nR,mh,mJ,List.dropWhile_cons];by_cases h:c=48
 ·simp[h]
 simp[h]
def ï:(YP l).length<=l.length:=by
 unfold YP;rw[List.length_reverse];exact jV (List.dropWhile_sublist _).length_le bm
def TX (v:Nat):ByS:=xO 20 (v / 10000)++if v % 10000=0 then [] else 46::YP (D4 (v % 10000))
def EL {f u:Nat}:xO (f+1) u=if u<10 then [UInt8.ofNat (48+u)] else xO f (u / 10)++[UInt8.ofNat (48+u % 10)]:=rfl
def Uk:∀ {f u:Nat} {b:UInt8},b∈xO f u->xF b=true
 | 0,_,_,h=>by cases h
 | f+1,u,b,h=>by
  rw[EL] at h;split at h
  ·rw[cM] at h;rw[h,Dd];simp;omega
  rcases bL.1 h with h|h
  ·exact Uk h
  rw[cM] at h;rw[h,Dd];simp;omega
def Pd:∀ {f u k:Nat},u<10 ^ k->1<=k->(xO f u).length<=k
 | 0,_,_,_,_=>Nat.zero_le _
 | f+1,u,k,h,hk=>by
  rw[EL];split
  ·simpa using hk
  obtain ⟨j,rfl⟩:∃ j,k=j+1:=⟨k - 1,aD⟩;rw[tA] at h;have:1<=j:=by
   rcases j with _|j
   ·simp at h;omega
   omega
  have:=@Pd f (u / 10) j aD this;simp;omega
variable {w:Nat}
def ajo (h:w<10000):(xO 20 (w+10000)).drop 1=D4 w/\1<=(xO 20 (w+10000)).length:=by
 rw[EL,aC aD,EL,aC aD,EL,aC aD,EL,aC aD,EL,aL aD];refine ⟨?_,bm⟩;unfold D4 d8;simp only[mC,tc,List.drop_succ_cons,tW];rw[show (w+10000) / 10 / 10 / 10 % 10=w / 1000 % 10 by omega,show (w+10000) / 10 / 10 % 10=w / 100 % 10 by omega,show (w+10000) / 10 % 10=w / 10 % 10 by omega,show (w+10000) % 10=w % 10 by omega]
def WL (h:0<l.length):∃ w c,l=w++[c]:=by
 rcases List.eq_nil_or_concat l with h2|⟨w,c,h2⟩
 ·rw[h2] at h;cases h
 exact ⟨w,c,by rw[h2,List.concat_eq_append]⟩
def So {w:ByS}:(w++[c])[(((w++[c]).length:Int) - 1).toNat]?=some c:=by
 rw[show (((w++[c]).length:Int) - 1).toNat=w.length by simp];simp
def WM {w:ByS}:sd (w++[c]) (((w++[c]).length:Int) - 1)=w:=by
 unfold sd;rw[show (((w++[c]).length:Int) - 1).toNat=w.length by simp];simp
section
variable {m:Nat->Nat}
def adw (h:w<10000) (h0:w≠0):YP (D4 w)≠[]:=λh2=>by
 have hz:∀ k:Nat,d8 k=48->k % 10=0:=λk h=>by
  have:=iy UInt8.toNat h;unfold d8 at this;have e48:(48:UInt8).toNat=48:=rfl;rw[UInt8.toNat_ofNat',e48] at this;omega
 have e:D4 w=[]++[d8 (w / 1000)]++[d8 (w / 100)]++[d8 (w / 10)]++[d8 w]:=rfl;rw[e,Nw] at h2;split at h2
 ·rw[Nw] at h2;split at h2
  ·rw[Nw] at h2;split at h2
   ·rw[Nw] at h2;split at h2
    ·have:=hz _ ‹d8 w=48›;have:=hz _ ‹d8 (w / 10)=48›;have:=hz _ ‹d8 (w / 100)=48›;have:=hz _ ‹d8 (w / 1000)=48›;omega
    simp at h2
   simp at h2
  simp at h2
 simp at h2
def ajp (h0:0<=v) (h1:v<=1000000000000000):Tk (vj n v) (TX v.toNat):=by
 unfold vj;refine nG (show mc v=.ok true by unfold mc;rw[aV (show v>=-1000000000000000 by omega),aV h1];rfl) (cA dC λ_=>nG (show vi v=.ok v by unfold vi;rw[bA (show ¬ v<0 by omega),Yk h0 aD];rfl) (dY λ_=>?_));have e1:Int.tdiv v 10000=v / 10000:=jX h0;have e2:Int.tmod v 10000=v % 10000:=iD h0;rw[e1,e2,Yk (x:=v / 10000) aD aD,Yk (x:=v % 10000+10000) aD aD];unfold nY;refine tb Qg (rE (λw=>w=xO 20 (v / 10000).toNat) (λw hw=>?_) λj hj=>cA Ij λ_=>hj _ rfl);subst hw;refine dY λ_=>tb Qg (dY λ_=>?_);have ew:(v % 10000+10000).toNat=v.toNat % 10000+10000:=by omega
 have ed:(v / 10000).toNat=v.toNat / 10000:=by omega
 rw[ew,ed,show gp (xO 20 (v.toNat % 10000+10000)) 1=_ from (ajo (w:=v.toNat % 10000) aD).1];refine rE (λl=>l=YP (D4 (v.toNat % 10000))) (λl hl=>?_) λj hj=>oW (λl=>YP l=YP (D4 (v.toNat % 10000))) (λl hl next hn=>?_) n rfl
 ·subst hl;unfold TX;by_cases hz:v.toNat % 10000=0
  ·rw[hz,aL rfl];refine cA Qt λ_=>iw bm
  rw[aC hz];exact cA (λ_=>dY λ_=>dY λ_=>kJ) λh=>aw jk (adw aD hz)
 refine cA (λh=>dY λ_=>kD λc _ hc=>?_) λh=>hj _ ?_
 ·obtain ⟨w,d,rfl⟩:=WL (l:=l) Zv;rw[So] at hc;cases hc;rw[Nw] at hl;rw[mz 48 48 rfl];refine cA (λh=>dY λ_=>dY λ_=>hn _ ?_) λh=>hj _ ?_
  ·rw[aL jk] at hl;rw[WM];exact hl
  rwa [aC jk] at hl
 obtain rfl:l=[]:=qM.1 ML;exact hl
def db (h0:0<=v):jz [IntKind.wrap .u8 (48+Int.tmod v 10)]=[d8 v.toNat]:=by
 have e2:Int.tmod v 10=v % 10:=iD h0;rw[e2,Pb aD aD];show [UInt8.ofNat (48+v % 10).toNat]=_;unfold d8;rw[show (48+v % 10).toNat=48+v.toNat % 10 by omega]
variable {u:Int}
def ð (hm:bN m) (h0:0<=u) (h1:u<=1000000000000000000):Ev (λi=>rB (m i) u 1) (λr=>r=xO 20 u.toNat) dt:=by
 unfold rB;refine bR hm (λ(x:Int×ByS)=>0<=x.1/\x.1<=u/\((0<x.1/\∃ f:Nat,x.1.toNat<10 ^ f/\xO f x.1.toNat++x.2=xO 20 u.toNat)\/(x.1=0/\x.2=[]/\u=0)\/(x.1=0/\x.2≠[]/\x.2=xO 20 u.toNat))/\x.2.length<=1000000000000000000+10 - x.1) (λx=>x.1.toNat+(1 - x.2.length)) ⟨h0,eL _,?_,rI⟩ ?_
 ·by_cases hu:u=0
  ·exact .inr (.inl ⟨hu,rfl,hu⟩)
  exact .inl ⟨eZ,20,eZ,bm⟩
 rintro ⟨v,l⟩ ⟨i0,i1,i2,i3⟩ next hn;dsimp only at i0 i1 i2 i3 hn ⊢;have e1:Int.tdiv v 10=v / 10:=jX i0;rw[e1,db i0,wrap_i64 (x:=v / 10) aD aD];have step:(0<v\/l=[])->Ev (λi=>gd ((10:Int)≠0) (gd (cD (48+Int.tmod v 10)) (gd (BR [d8 v.toNat] l) (gd ((10:Int)≠0) (next i (v / 10,[d8 v.toNat]++l)))))) (λr=>r=xO 20 u.toNat) dt:=λhw=>by
  have e2:Int.tmod v 10=v % 10:=iD i0;rw[e2];refine dB dN (aF (dB (by simp[BR];omega) (dB dN (hn _ ⟨eZ,eZ,?_,?_⟩ ?_))))
  ·rcases i2 with ⟨w,f,hf,he⟩|⟨w,rfl,rfl⟩|⟨w,w2,_⟩
   ·rcases f with _|f
    ·simp at hf;omega
    rw[EL] at he;by_cases hv:v<10
    ·rw[aL aD] at he;refine .inr (.inr ⟨eZ,bm,?_⟩);rw[<- he];unfold d8;rw[show v.toNat % 10=v.toNat by omega]
    rw[aC aD] at he;rw[tA] at hf;refine .inl ⟨eZ,f,eZ,?_⟩;rw[<- he];unfold d8;dsimp only;rw[show (v / 10).toNat=v.toNat / 10 by omega];simp
   ·subst w;exact .inr (.inr ⟨rfl,by simp,rfl⟩)
   rcases hw with h|h
   ·omega
   exact aw h w2
  ·show (([d8 v.toNat]++l).length:Int)<=_ - v / 10;exact acV
  show (v / 10).toNat+(1 - ([d8 v.toNat]++l).length)<v.toNat+(1 - l.length);exact acV
 refine bD (λ_=>0<v\/l=[]) (λ_ hw=>step hw) λj hj=>aS (λh=>hj () (.inl h)) λh=>aS (λh3=>hj () (.inr (qM.1 aD))) λh3=>aj ?_;rcases i2 with ⟨w,_⟩|⟨w,rfl,_⟩|⟨_,_,w⟩
 ·exact aw w h
 ·exact aw dN h3
 exact w
def ñ (hm:bN m) (h0:0<=u) (h1:u<10000):Ev (λi=>rB (m i) u 4) (λr=>r=D4 u.toNat) dt:=by
 unfold rB;refine bR hm (λ(x:Int×ByS)=>∃ j:Nat,j<=4/\x.1=u / (10 ^ j:Nat)/\x.2=(D4 u.toNat).drop (4 - j)) (λx=>4 - x.2.length) ⟨0,dN,bm,rfl⟩ ?_;rintro ⟨v,l⟩ ⟨j,hj,rfl,rfl⟩ next hn;dsimp only at hn ⊢;have v0:0<=u / (10 ^ j:Nat):=Int.ediv_nonneg h0 (Int.natCast_nonneg _);have v1:u / (10 ^ j:Nat)<=u:=Int.ediv_le_self _ h0;have e1:Int.tdiv (u / (10 ^ j:Nat)) 10=u / (10 ^ j:Nat) / 10:=jX v0;rw[e1,db v0,wrap_i64 (x:=u / (10 ^ j:Nat) / 10) aD aD];have e2:Int.tmod (u / (10 ^ j:Nat)) 10=u / (10 ^ j:Nat) % 10:=iD v0;rw[e2];have hl:((D4 u.toNat).drop (4 - j)).length=j:=by rw[gP,show (D4 u.toNat).length=4 from rfl];omega
 refine bD (λ_=>j<4) (λ_ hw=>?_) λk hk=>aS (λh=>hk () ?_) λh=>aS (λh3=>hk () aD) λh3=>aj ?_
 ·refine dB dN (aF (dB (by unfold BR;rw[hl];simp;omega) (dB dN (hn _ ⟨j+1,aD,?_,?_⟩ ?_))))
  ·show _ / _ / _=_;rw[Int.ediv_ediv_of_nonneg (Int.natCast_nonneg _),tA];rfl
  ·show [_]++_=_;have ej:j=0\/j=1\/j=2\/j=3:=by omega
   have q:∀ k:Nat,((k:Int) / (10 ^ j:Nat)).toNat=k / 10 ^ j:=λk=>by rw[<- Int.natCast_ediv,rW]
   have q:=q u.toNat;rw[Int.toNat_of_nonneg h0] at q;rw[q];rcases ej with rfl|rfl|rfl|rfl
   ·simp[D4]
   ·simp[D4]
   ·simp[D4]
   simp[D4]
  show 4 - ([_]++_).length<_;rw[dS,hl];simp;omega
 ·by_cases h4:j=4
  ·subst h4;exact aw h (by show ¬ 0<u / 10000;omega)
  omega
 obtain rfl:j=4:=by omega
 rfl
end
end
section
def ajq:∀ {A B s t:ByS},(∀ b,b∈A->b≠46)->(∀ b,b∈B->b≠46)->A++46::s=B++46::t->s=t
 | [],[],_,_,_,_,h=>by cases h;rfl
 | [],b::B,_,_,_,hB,h=>by
  cases h;exact aw rfl (hB 46 bm)
 | a::A,[],_,_,hA,_,h=>by
  cases h;exact aw rfl (hA 46 bm)
 | a::A,b::B,s,t,hA,hB,h=>by
  rw[mC,mC] at h;exact ajq (λc hc=>hA c (by simp[hc])) (λc hc=>hB c (by simp[hc])) (o9 h).2
def afQ {b:UInt8} (h:xF b=true):b≠46:=λe=>by subst e;cases h
variable {v:Nat} {l:ByS}
def ajr (h:v<=1000000000000000):(TX v).length<=18:=by
 unfold TX;have:=@Pd 20 (v / 10000) 12 aD dN;rw[dS];split
 ·simp;omega
 have:=@ï (D4 (v % 10000));rw[show (D4 (v % 10000)).length=4 from rfl] at this;simp;omega
def afR {ds es:ByS} (hd:∀ b,b∈ds->xF b=true) (h:TX v=ds++46::es):es.length<=4:=by
 unfold TX at h;split at h
 ·rw[l9] at h;have:(46:UInt8)∈xO 20 (v / 10000):=by rw[h];simp
  exact aw rfl (afQ (Uk this))
 have:=ajq (λb hb=>afQ (Uk hb)) (λb hb=>afQ (hd b hb)) h;rw[<- this];exact @ï (D4 (v % 10000))
def dv (a:Nat) (l:ByS):Nat:=l.foldl (λa c=>a*10+(c.toNat - 48)) a
variable {a:Nat}
def ò {r:ByS}:dv a (l++r)=dv (dv a l) r:=List.foldl_append
def afS {c:UInt8}:dv a (l++[c])=dv a l*10+(c.toNat - 48):=by rw[ò];rfl
def ó:∀ {l:ByS} {a:Nat},a<=dv a l
 | [],_=>ik _
 | c::l,a=>jV aD (@ó l (a*10+(c.toNat - 48)))
def WN:∀ {l:ByS} {a:Nat},(∀ b,b∈l->xF b=true)->dv a l<(a+1)*10 ^ l.length
 | [],a,_=>by simp[dv]
 | c::l,a,h=>by
  have hc:=Dd.1 (h c bm);have:=@WN l (a*10+(c.toNat - 48)) λb hb=>h b (by simp[hb]);show dv (a*10+(c.toNat - 48)) l<_;refine kO this ?_;rw[jI,tA,Nat.mul_comm (10 ^ l.length) 10,<- Nat.mul_assoc];exact acq
def pM:∀ {l:ByS} {a:Nat},(∀ b,b∈l->xF b=true)->(dv a l<=18446744073709551615->Lib.parseUintM 18446744073709551615 a l=.ok (dv a l))/\(18446744073709551615<dv a l->Lib.parseUintM 18446744073709551615 a l=.range\/a>18446744073709551615)
 | [],a,_=>⟨λ_=>rfl,λh=>.inr h⟩
 | c::l,a,h=>by
  have hc:=Dd.1 (h c bm);have ih:=@pM l (a*10+(c.toNat - 48)) λb hb=>h b (by simp[hb]);have ge:=@ó l (a*10+(c.toNat - 48));have e:dv a (c::l)=dv (a*10+(c.toNat - 48)) l:=rfl;rw[e];unfold Lib.parseUintM;rw[aL hc];by_cases h1:1844674407370955162<=a
  ·rw[aL h1];exact ack
  rw[aC h1];by_cases h2:18446744073709551615<a*10+(c.toNat - 48)
  ·rw[aL h2];exact ack
  rw[aC h2];exact ⟨ih.1,λh=>.inl ((ih.2 h).resolve_right aD)⟩
def pI (h:∀ b,b∈l->xF b=true) (uv:l≠[]):(dv 0 l<9223372036854775808->Lib.parseIntB 64 l=.ok (dv 0 l:Int))/\(9223372036854775808<=dv 0 l->Lib.parseIntB 64 l=.range):=by
 obtain ⟨c,r,rfl⟩:∃ c r,l=c::r:=by
  cases l with
  | nil=>exact aw rfl uv
  | cons c r=>exact ⟨c,r,rfl⟩
 have hc:=Dd.1 (h c bm);obtain ⟨q1,q2⟩:=@pM (c::r) 0 h;unfold Lib.parseIntB;dsimp only;rw[aC (show ¬ (c.toNat=43\/c.toNat=45) by omega)];unfold Lib.parseUintB;rw[aC uv,show 2 ^ 64 - 1=18446744073709551615 from rfl];by_cases hb:dv 0 (c::r)<=18446744073709551615
 ·rw[q1 hb];dsimp only;refine ⟨λh=>?_,λh=>?_⟩
  ·rw[aC rI,aC aD,aC aD]
  rw[aL ⟨aD,by show 2 ^ 63<=_;omega⟩]
 rcases q2 aD with q|q
 ·rw[q];exact ⟨λh=>by omega,λ_=>rfl⟩
 omega
section
variable {m:Nat->Nat}
def ajs (hm:bN m) {v:Int} (h0:0<=v) (h1:v<=1000000000000000):Ev (λi=>AG (m i) v) (λr=>r=TX v.toNat) dt:=by
 unfold AG;have ab:Ev (λ_=>zW v) (λr=>v=r) dt:=by
  unfold zW;rw[bA aD];exact aj rfl
 refine ai (Q:=λr=>r=true) (by unfold tK;rw[aV aD,aV h1];exact aj rfl) ?_;rintro _ rfl;refine aH (ai ab ?_);rintro _ rfl;have e1:Int.tdiv v 10000=v / 10000:=jX h0;have e2:Int.tmod v 10000=v % 10000:=iD h0;rw[e1,e2,wrap_i64 (x:=v / 10000) aD aD];refine dB dN (ai (ð hm aD aD) ?_);rintro _ rfl;have ew:(v % 10000).toNat=v.toNat % 10000:=by omega
 have ed:(v / 10000).toNat=v.toNat / 10000:=by omega
 have dl:=@Pd 20 (v.toNat / 10000) 12 aD dN;rw[ed];refine bD (λw=>w=xO 20 (v.toNat / 10000)) (λw hw=>?_) λj hj=>ay Ij λ_=>hj _ rfl;subst hw;unfold TX;refine dB dN (ay (λhz=>aj ?_) λhz=>ai ab ?_)
 ·have hz:v % 10000=0:=by simpa using hz
  rw[aL aD,l9]
 rintro _ rfl;have hz:v % 10000≠0:=by simpa using hz
 rw[e2,aC aD];refine dB dN (ai (ñ hm aD aD) ?_);rintro _ rfl;rw[ew];have nz:=adw (w:=v.toNat % 10000) aD aD;refine bR hm (λl=>YP l=YP (D4 (v.toNat % 10000))/\l.length<=4) (λl=>l.length) ⟨rfl,ik _⟩ λl hl next hn=>?_;obtain ⟨w,d,rfl⟩:=WL (l:=l) (by
  cases l with
  | nil=>exact aw hl.1.symm nz
  | cons a l=>simp)
 have lw:(w++[d]).length=w.length+1:=by simp
 have S8:=hl.1;rw[Nw] at S8;refine aF (cR aD So ?_);rw[mz 48 48 rfl];refine ay (λh=>aF (aF ?_)) λh=>dB (by simp[BR];omega) (dB (by simp[BR];omega) (aj ?_))
 ·rw[aL jk] at S8;rw[WM];exact hn _ ⟨S8,by omega⟩ aD
 rw[aC jk] at S8;rw[S8];simp
end
def Ň (x ds es:ByS):Int×Int:=
 if es.length<=4/\dv 0 (ds++es++List.replicate (4 - es.length) 48)<=1000000000000000/\TX (dv 0 (ds++es++List.replicate (4 - es.length) 48))=x then ((dv 0 (ds++es++List.replicate (4 - es.length) 48):Nat),0) else (0,8)
structure Spl (x ds es:ByS):Prop where
 eq:(x=ds/\es=[])\/x=ds++46::es
 d1:∀ b,b∈ds->xF b=true
 d2:∀ b,b∈es->xF b=true
 ne:ds≠[]
def afU {x:ByS} (h:Sf x):∃ ds es,Spl x ds es:=by
 obtain ⟨h1,c,w,rfl,hc⟩:=h;unfold EG at h1;have rl:=@BN pD (c::w) 0;have hd:∀ {u:ByS} {k:Nat},k<=run pD 0 u->∀ b,b∈u.take k->xF b=true:=λ{u k} hk b hb=>by
  obtain ⟨i,hi,e⟩:=List.mem_iff_getElem.1 hb;rw[iT] at hi;obtain ⟨b',h2,h3⟩:=@BO pD u 0 i aD;rw[List.getElem_take] at e;rw[aA aD,e] at h2;cases h2;exact h3
 have r0:run pD 0 (c::w)≠0:=λe=>by
  have:=@yH pD (c::w) 0 c (by rw[e];rfl);rw[e] at this;exact aw (hc.symm.trans this) dN
 have tne:∀ {k:Nat},k≠0->(c::w).take k≠[]:=λ{k} hk=>by
  obtain ⟨j,rfl⟩:∃ j,k=j+1:=⟨k - 1,aD⟩;simp
 split at h1
 ·rename_i hp;have r2:=@BN pD ((c::w).drop (run pD 0 (c::w)+1)) 0;rw[gP] at r2;refine ⟨(c::w).take (run pD 0 (c::w)),(c::w).drop (run pD 0 (c::w)+1),.inr ?_,hd BU,λb hb=>?_,tne r0⟩
  ·unfold zI at hp;rw[bk,cn,ao] at hp;obtain ⟨⟨q1,q2⟩,_⟩:=hp;rw[<- q2,<- cb q1,mI]
  refine hd (u:=(c::w).drop (run pD 0 (c::w)+1)) (k:=run pD 0 ((c::w).drop (run pD 0 (c::w)+1))) BU b ?_;rw[dI (by rw[gP];omega)];exact hb
 refine ⟨c::w,[],.inl uA,λb hb=>?_,bm,bm⟩;refine hd (u:=c::w) (k:=run pD 0 (c::w)) BU b ?_;rw[dI aD];exact hb
end
end Go.Abs
