/- PROVED: lemmas for ParserFiles. CONDITIONS: as stated. -/
import Derived.Test.YtlfolpjenfkhiaaGreatDoorW10
set_option linter.all false
namespace Go.Abs
open aI
variable {n:Nat} {s x u r l:ByS} {b a lo v a' j e d:Int} {t:aC} {α β γ:Type} {p:L} {k c line:Bool} {out:List aC}
def Ur (m:Nat) (k:Bool) (v36:ah×ak):aI (ak×ah):=ag (cy m [41] k v36.1) λy40=>.ok ((ak.mk v36.2.aq v36.2.bM v36.2.U v36.2.B v36.2.bT v36.2.bK [] [] v36.2.cN),y40)
def è (m:Nat) (k:Bool) (next:ah×ak->aI (ak×ah)) (w:ah×ak):aI (ak×ah):=
 ag (aS m w.1) λy57=>ag (ch y57.1 [41]) λy58=>br y58 (Ur m k (y57.2,w.2)) (ag (cH m [44] y57.2) λy61=>ag (aS m y61) λy63=>ag (ch y63.1 [41]) λy65=>br y65 (ag (bJ y63.1.cN y63.2) λy67=>next (y67,w.2)) (next (y63.2,w.2)))
def Sy (m:Nat) (k:Bool) (next:ah×ak->aI (ak×ah)) (LP:ah×ak):aI (ak×ah):=
 ag (cG LP.1) λy47=>br y47.1 (ag (aS m y47.2) λy49=>ag (ch y49.1 [41]) λy50=>br (!y50) (ag (ax m false y49.2) λy53=>gd (nP 144 LP.2.bK.length (List.length [y53.1])) (è m k next (y53.2,(ak.mk LP.2.aq LP.2.bM LP.2.U LP.2.B LP.2.bT (LP.2.bK++[y53.1]) [] [] LP.2.cN)))) (Ur m k (y49.2,(ak.mk LP.2.aq LP.2.bM LP.2.U LP.2.B LP.2.bT LP.2.bK [] [] LP.2.cN)))) (Ur m k (y47.2,(ak.mk LP.2.aq LP.2.bM LP.2.U LP.2.B LP.2.bT LP.2.bK [] [] LP.2.cN)))
section
variable {T:List aC} {m:Nat->Nat}
abbrev CE (x:ByS) (l:List ak) (p:Int):ak:=ak.mk 21 x 0 [] [] l [] [] p
def VA (s:ByS) (T:List aC) (b:Int) (k:Bool) (a:Int) (x:ByS) (p:Int) (r:List ak×D) (y:ak×ah):Prop:=∃ l a' u,r=(l,H s T a' b true none)/\y=(CE x l p,RX s T b (a'+1) k)/\Pg T a a'/\T[a'.toNat]?=some u/\Z u [41]=true/\jd (CE x l p)
variable {p:Int}
def CE.sm {l:List ak} (hl:(l.length:Int)<=70000) (h:∀ x,x∈l->jd x):jd (CE x l p):=.of aB (λe=>ao e dN) h
def LR (hm:bL m) (hC:PC s T b) (nx:Nx T k a a' t) {Q:ak×ah->Prop} (h:Ev (λi=>ax (m i) c (RX s T b a k)) Q di):Ev (λi=>ax (m i) c (RX s T b a' k)) Q di:=by
 obtain ⟨r,h1,N,hN⟩:=h;obtain ⟨_,rfl,N1,h2⟩:=(jl (en:=0) (ea:=0) hm.pred hC nx).get;obtain ⟨_,rfl,N2,h3⟩:=(jl (en:=0) (ea:=0) hm.pred hC nx.self).get;obtain ⟨M,hM⟩:=hm 1;refine ⟨r,h1,N+N1+N2+M,λi hi=>?_⟩;have e1:=hN i aB;have e2:=h2 i aB;have e3:=h3 i aB;have:=hM i aB;obtain ⟨q,hq⟩:∃ q,m i=q+1:=⟨m i - 1,aB⟩;rw[<- e1];simp only[hq,Nat.add_sub_cancel] at e2 e3 ⊢;show dC q (ar q) c (RX s T b a' k)=dC q (ar q) c (RX s T b a k);unfold dC ji Bn oj jk eA eS;rw[e2,e3]
def LK.shift {α:Type} {x:aI α} {V:α->ak×ah->Prop} {W:sX->ak×ah->Prop} (hm:bL m) (hC:PC s T b) (nx:Nx T k a a' t) (h:LK x (λi=>ax (m i) c (RX s T b a k)) V W):LK x (λi=>ax (m i) c (RX s T b a' k)) V W:=
 ⟨λr hr=>LR hm hC nx (h.1 r hr),λr hr=>LR hm hC nx (h.2 r hr)⟩
def é (hm:bL m) (hC:PC s T b) (tL:XF s T b (aZ n) ax) (h0:0<=a) (h1:a<T.length) :
  LK (gX n (R n) [] (H s T a b true none)) (λi=>aI.iter (Sy (m i) k) (m i) (RX s T b a true,CE x [] p)) (VA s T b k a x p) (WX s T b):=by
 unfold gX YV jk pB eS
 have hlen:=hC.oF
 have argJ_f:∀ {v:Int} {r:ah} {l:List ak},FS s T b v r->(l.length:Int)<=70000->(∀ x,x∈l->jd x)->Ev (λi=>Ur (m i) k (r,CE x l p)) (WX s T b (PF v)) di:=λhr h1 h2=>by
  unfold Ur
  exact ai (xK hm hC hr) λz hz=>aj ⟨_,rfl,hz,CE.sm h1 h2⟩
 have hj:∀ (q:sX) (z:ah×ak),(∃ v l,q=PF v/\FS s T b v z.1/\z.2=CE x l p/\(l.length:Int)<=70000/\∀ x,x∈l->jd x)->∀ next':Nat->ah×ak->aI (ak×ah),Ev (λi=>Sy (m i) k (next' i) z) (WX s T b q) di:=by
  rintro q ⟨z,_⟩ ⟨v,l,rfl,f1,rfl,f2,f3⟩ next'
  unfold Sy
  exact bC (yW f1) (aG (argJ_f f1 f2 f3))
 have argM_f:∀ {v:Int} {r:ah} {l:List ak} {next':Nat->ah×ak->aI (ak×ah)},FS s T b v r->(l.length:Int)<=70000->(∀ x,x∈l->jd x)->(∀ y,FS s T b v y->Ev (λi=>next' i (y,CE x l p)) (WX s T b (PF v)) di)->Ev (λi=>è (m i) k (next' i) (r,CE x l p)) (WX s T b (PF v)) di:=λh h1 h2 hn=>by
  unfold è
  refine ai FX λr hr=>ai DM λ_ _=>aw (λ_=>argJ_f hr h1 h2) λ_=>?_
  exact aha
 have fin:∀ {l:List ak} {a1 a2:Int} {t:aC} {nn:Nat},Pg T a a1->Nx T true a1 a2 t->Z t [41]=true->jd (CE x l p)->LK (ag (cC nn [41] (H s T a1 b true none)) λy40=>.ok (l,y40)) (λi=>Ur (m i) k (RX s T b a1 true,CE x l p)) (VA s T b k a x p) (WX s T b):=by
  intro l a1 a2 t nn pg nx ht he
  unfold Ur
  exact acv
 refine LK.Iw hm ?_
 obtain ⟨a1,t,nx⟩:=qA hC true h0 h1
 have g1:=nx.le
 refine fJ nx (bj uY (aJ (λ_=>?_) du))
 refine bj Fw (bj (AG b t [41]) (ln ?_))
 cases ht:Z t [41] with
 | true=>exact aF du λ_=>aJ du λ_=>fin nx.pg nx.self ht (CE.sm bn bn)
 | false=>
  refine aF (λ_=>aJ (λ_=>?_) du) du
  refine cm (tL hm eX nx.lt .no) ?_ ?_
  rotate_left
  ·rintro _ y ⟨v,rfl,f1,f2⟩
   exact dy aed (argM_f (l:=[]++[y.1]) f1 bn (by simpa using f2) λy hy=>px hm.pred λ_=>hj _ _ ⟨v,_,rfl,hy,rfl,bn,by simpa using f2⟩ _)
  rintro _ _ ⟨e,a2,rfl,rfl,Uq,z2,he⟩
  refine bG λhg=>bV hg ?_
  refine LK.rot (λv y=>∃ l a',v=(l,H s T a' b true none)/\y=(RX s T b a' true,CE x l p)/\Pg T a a'/\(l.length:Int)<=a'+1/\∀ x,x∈l->jd x) (λq z=>∃ v l,q=PF v/\FS s T b v z.1/\z.2=CE x l p/\(l.length:Int)<=70000/\∀ x,x∈l->jd x) (λi=>è (m i) k) hj ?_ n hm.pred _ _ ⟨[]++[e],a2,rfl,rfl,nx.pg.trans Uq,by have g:=Uq.le;dsimp only at g;simp;omega,DN⟩
  rintro _ _ ⟨l,a2,rfl,rfl,pg,hl,hs⟩ next next' hn hf
  have g2:=pg.le
  have l2:=pg.lt
  obtain ⟨a3,t3,n3⟩:=qA hC true (a:=a2) aB pg.lt
  have g3:=n3.le
  unfold è
  refine bj (jl hm hC n3) (bj (AG b t3 [41]) (sg n3 (λhc=>?_) λhc=>?_))
  ·have h3:Z t3 [41]=false:=by simp[Z,(la hc).2]
   rw[h3]
   have hk:=(la hc).1
   have l3:=n3.Cp hC aB
   refine aF (λ_=>aJ du λ_=>bj (NZ hm hC n3.self hc) ?_) du
   obtain ⟨a4,t4,n4⟩:=qA hC true (a:=a3+1) aB l3
   have g4:=n4.le
   have LM:Pg T a (a3+1):=pg.trans (n3.read hC aB (Cy hc dN))
   refine bj (jl hm hC n4) (bj (AG b t4 [41]) ?_)
   cases h4:Z t4 [41] with
   | true=>
    have cl:=Cl.of (t:=t4) (.inl h4)
    refine aJ (λ_=>LK.ex (v:=t4.cN+b) (qM (æ n4 cl)) ?_) du
    exact acP
   | false=>
    refine aJ du λ_=>?_
    show LK _ (λi=>Sy (m i) k (next' i) (RX s T b a4 true,CE x l p)) _ _
    unfold Sy
    refine bj uY (aJ (λ_=>?_) du)
    refine bj (jl hm hC n4.self) (bj (AG b t4 [41]) ?_)
    rw[h4]
    refine aJ (λ_=>?_) du
    refine cm (LK.shift hm hC n4 (tL hm aB l3 .no)) ?_ ?_
    ·rintro _ _ ⟨e,a5,rfl,rfl,pg5,z5,he⟩
     have g5:=pg5.le
     exact bG λhg=>bV hg (hn _ _ ⟨l++[e],a5,rfl,rfl,LM.trans pg5,qI,BY hs he⟩)
    ·rintro _ y ⟨v,rfl,f1,f2⟩
     exact dy aed (argM_f (l:=l++[y.1]) f1 qI (BY hs f2) λy hy=>hf _ _ ⟨v,_,rfl,hy,rfl,qI,BY hs f2⟩)
  ·refine aF du λ_=>?_
   cases h3:Z t3 [41] with
   | true=>exact aJ (λ_=>fin (pg.trans n3.pg) n3.self h3 (CE.sm (l:=l) aB hs)) λh=>by cases h
   | false=>
    refine aJ du λ_=>bj (ã hm hC n3.self hc) ?_
    unfold cC pB
    simp only[ZM]
    refine fJ n3.self (ln ?_)
    rw[h3]
    have hr:FS s T b (t3.cN+b) (RF s T b a3 true (t3.cN+b)):=n3.fs
    have e:Ev (λi=>ag (aS (m i) (RF s T b a3 true (t3.cN+b))) λy63=>ag (ch y63.1 [41]) λy65=>aI.br y65 (ag (bJ y63.1.cN y63.2) λy67=>Sy (m i) k (next' i) (y67,CE x l p)) (Sy (m i) k (next' i) (y63.2,CE x l p))) (WX s T b (PF (t3.cN+b))) di:=
     ai Nn λr hr=>ai DM λ_ _=>aw (λ_=>bC (yS hr) (hj _ _ ⟨_,l,rfl,hr,rfl,aB,hs⟩ _)) λ_=>hj _ _ ⟨_,l,rfl,hr,rfl,aB,hs⟩ _
    obtain q|q:=JP (n:=n) (q:=none) (s:=s) (b:=b) (f:=λy5=>aI.ok y5) n3.self
    ·simp only[sE,aI.br]
     rw[q];exact da
    ·simp only[sE,aI.br]
     rw[q];exact sW e
end
section
variable {T:List aC} {m:Nat->Nat}
def ajM {α β:Type} {V:α->β->Prop} {W W':sX->β->Prop} {F:Nat->aI β} {V':List ak×D->β->Prop} {f:D×List ak->aI α} (h:∀ j,j+2=n->LK (gX j (R j) [] (H s T a b true none)) F V' W') (hk:∀ e z,V' e z->LK (f (H e.2.cP e.2.oh e.2.bO e.2.base k e.2.iO,e.1)) (λ_=>.ok z) V W) (hw:∀ p z,W' p z->W p z) :
  LK (ag (iG n true (H s T a b k none) []) f) F V W:=by
 obtain _|_|j:=n
 ·exact da
 ·exact da
 ·show LK (ag (ag (gX j (R j) [] (H s T a b true none)) λy4=>.ok (H y4.2.cP y4.2.oh y4.2.bO y4.2.base k y4.2.iO,y4.1)) f) F V W
  simp only[ZM,Aj]
  exact tq (h j rfl) hk hw
def abO (hC:PC s T b) (hm:bL m) (tL:∀ j,j<n->XF s T b (aZ j) ax) {x:ByS} {p:Int} (nx:Nx T k a a' t) (ht:Z t [40]=true) :
  LK (jt n (H s T a b k none)) (λi=>ag (eR (m i) (RX s T b a' k)) λy35=>aI.iter (Sy (m i) y35.1) (m i) (y35.2,CE x [] p))
   (λr y=>∃ l a2,r=(l,H s T a2 b k none)/\y=(CE x l p,RX s T b a2 k)/\Pg T a a2/\Lz T k a2/\jd (CE x l p)) (WX s T b):=by
 obtain _|n:=n
 ·exact da
 show LK (lF n (R n) (H s T a b k none)) _ _ _
 unfold lF oj pM
 have hk:=(la ht).1
 have FE:=nx.ge
 have iy:=nx.Cp hC aB
 refine gR (Sw nx ht) (bj (Pv hm hC nx.self aB) ?_)
 refine ajM (V':=VA s T b k (a'+1) x p) (W':=WX s T b) (λj hj=>é hm hC (tL j aB) aB iy) ?_ λ_ _ h=>h
 rintro _ _ ⟨l,a2,u,rfl,rfl,pg,hu,ho,he⟩
 obtain ⟨p1,p2⟩:=nx.pair hC (BW (.inl ht)) pg hu (BX (.inl ho))
 exact bG λ_=>b9 ⟨l,a2+1,rfl,rfl,p1,p2,he⟩
def agc (nx:Nx T k a a' t) (hk:t.aq=1):fw n (H s T a b k none)=.stuck\/(dO n t.bM=.ok true/\fw n (H s T a b k none)=.ok (t.bM,H s T (a'+1) b k none))\/(dO n t.bM=.ok false/\fw n (H s T a b k none)=.ry (PF (t.cN+b))):=by
 unfold fw pB pM;have h1:(t.aq !=1)=false:=by simp[hk]
 obtain e|e:=tT (n:=n) (s:=s) (b:=b) (q:=none) nx
 ·rw[e];exact .inl rfl
 rw[e,Aj];simp only[aI.jn,h1,aI.br];have hnp:=yK (n:=n) (s:=t.bM);cases hq:dO n t.bM with
 | stuck=>exact .inl rfl
 | ry p=>exact ao hq (hnp p)
 | ok y=>
  simp only[Aj]
  cases y with
  | true=>
   by_cases hg:cD (a'+1)
   ·exact .inr (.inl ⟨rfl,by simp[aI.gd,hg]⟩)
   ·exact .inl (by simp[aI.gd,hg])
  | false=>
   rcases JP (n:=n) (q:=none) (s:=s) (b:=b) (f:=λy15=>aI.gd (cD (y15.bO+1)) (.ok (t.bM,D.mk y15.cP y15.oh (y15.bO+1) y15.base y15.skip y15.iO))) nx.self with q|q
   ·exact .inl q
   ·exact .inr (.inr ⟨rfl,q⟩)
end
section
variable {T:List aC} {m:Nat->Nat}
def ê (hC:PC s T b) (hm:bL m) (tL:∀ j,j<n->XF s T b (aZ j) ax) {a a':Int} {k:Bool} {t:aC} (nx:Nx T k a a' t) (hk:t.aq=1) :
  LK (iM n (H s T a b k none)) (λi=>jy (m i) (om b t) (RX s T b a' k)) (VX s T b k a) (WX s T b):=by
 obtain _|n:=n
 ·exact da
 refine jZ (F:=λi=>jy i (om b t) (RX s T b a' k)) hm λm hm=>?_
 show LK (kS n (R n) (H s T a b k none)) (λi=>lN (m i) (ar (m i)) (om b t) (RX s T b a' k)) _ _
 unfold kS lN ji Bn oj jk s6 pB pM eA eS
 have FE:=nx.ge
 have iy:=nx.Cp hC aB
 have rd:Pg T a (a'+1):=nx.read hC aB IG
 have lz:Lz T k (a'+1):=nx.lz aB
 refine fJ nx (rh nx.self (bj Ng ?_))
 have leaf:∀ {K:Int} {X:ByS} {N:Int},K≠16->LK (gd (cD (a'+1)) (.ok (ak.mk K X N [] [] [] [] [] (t.cN+b),H s T (a'+1) b k none))) (λ_=>.ok (ak.mk K X N [] [] [] [] [] (t.cN+b),RX s T b (a'+1) k)) (VX s T b k a) (WX s T b):=λhK=>bG λ_=>b9 ⟨_,a'+1,rfl,rfl,rd,lz,.leaf hK⟩
 refine fI (dG rfl (λe=>leaf (K:=1) dN) λe0=>?_)
 refine fI (dG rfl (λe=>?_) λe1=>?_)
 ·exact aF (λ_=>aF (λ_=>leaf (K:=2) dN) λe'=>ao (e.symm.trans e') dN) λe'=>ao (e.symm.trans e') dN
 ·refine dG rfl (λe=>aF (λe'=>ao (e'.symm.trans e1) dN) λ_=>leaf (K:=2) dN) λe2=>?_
  refine fI (mP ?_)
  refine dG rfl ZC λ_=>?_
  refine dG rfl ZC λ_=>?_
  refine dG rfl ZC λ_=>?_
  refine dG rfl (λe=>leaf (K:=8) dN) λ_=>?_
  obtain q|⟨q1,q2⟩|⟨q1,q2⟩:=agc (n:=n) (s:=s) (b:=b) nx.self hk
  ·rw[q];exact da
  ·rw[q2]
   refine bj (Hy hm hk q1) (aJ du λ_=>?_)
   obtain ⟨a2,u,n2⟩:=qA hC k (a:=a'+1) aB iy
   have g2:=n2.le
   refine bj (jl hm hC n2) (bj (AG b u [40]) (fJ (s:=s) (b:=b) (q:=none) n2 (ln ?_)))
   cases hu:Z u [40] with
   | false=>exact aF du λ_=>aJ (λ_=>b9 ⟨_,a2,rfl,rfl,rd.trans n2.pg,n2.lzs lz,.leaf dN⟩) λh=>by cases h
   | true=>
    refine aF (λ_=>aJ du λ_=>?_) du
    refine tq (abO (x:=t.bM) (p:=t.cN+b) hC hm (λj hj=>tL j aB) n2.self hu) ?_ λ_ _ h=>h
    rintro _ _ ⟨l,a3,rfl,rfl,Ix,z3,he⟩
    exact b9 ⟨_,a3,rfl,rfl,(rd.trans n2.pg).trans Ix,z3,he⟩
  ·rw[q2]
   exact sW (ai (Hy hm hk q1) λ_ e=>by subst e;exact aY (aj ⟨_,rfl,⟨a'+1,k,rfl,by omega,iy⟩,.leaf dN⟩))
end
section
variable {T:List aC}
def Us (hC:PC s T b) (tL:∀ j,j<n->XF s T b (aZ j) ax)
  (ihI:∀ j,j<n->∀ {m:Nat->Nat} {a:Int} {k:Bool},bL m->0<=a->a<T.length->LK (eI j (H s T a b k none)) (λi=>fb (m i) (RX s T b a k)) (VX s T b k a) (WX s T b))
  (hNum:∀ {m:Nat->Nat} {a:Int} {t:aC},bL m->T[a.toNat]?=some t->t.aq=2->LK (nj n t.bM) (λi=>ov (m i) t.bM) (λy z=>z.1=y.1) (λ_ _=>False))
  (hIn:∀ {m:Nat->Nat} {a a':Int} {k:Bool} {t:aC},bL m->Nx T k a a' t->t.aq=4->LK (ag (fG n t (t.cN+b) (H s T a' b k none)) λy=>gd (cD (y.2.bO+1)) (.ok (y.1,H y.2.cP y.2.oh (y.2.bO+1) y.2.base y.2.skip y.2.iO))) (λi=>ag (fZ (m i) (om b t) (RX s T b a' k)) λy=>.ok (y.1,y.2)) (VX s T b k a) (WX s T b))
  (hB:∀ {m:Nat->Nat} {a a':Int} {k c:Bool} {t:aC},bL m->Nx T k a a' t->Z t [123]=true->LK (ag (gj n c (H s T a' b k none)) λy=>.ok (y.1,y.2)) (λi=>aI.jn (λ(v53:ak)=>ag (dx (m i) c (RX s T b a' k)) λy57=>.ok ((ak.mk v53.aq v53.bM v53.U v53.B v53.bT [] y57.1 y57.2.1 v53.cN),y57.2.2)) λj54=>aI.br c (j54 ((ak.mk 13 [] 0 [] [] [] [] [] (t.cN+b)))) (j54 ((ak.mk 22 [] 0 [] [] [] [] [] (t.cN+b))))) (VX s T b k a) (WX s T b)) :
  XF s T b (fe (n+1)) dQ:=by
 intro m c k a q x hm h0 h1 hI
 obtain ⟨rfl,rfl⟩|⟨e,a0,t0,rfl,he,hk,hz,g0,g1,rfl,ht,ho,hP⟩:=hI
 rotate_left
 ·refine ⟨λr hr=>(hP hm).qh λy hy=>?_,λr hr=>by cases hr⟩
  subst hy
  cases hr
  exact ⟨e,a,rfl,rfl,.refl h1,hz,he⟩
 refine jZ (F:=λi=>dQ i c (RX s T b a k)) hm λm hm=>?_
 show LK (gy n (R n) c (H s T a b k none)) (λi=>fB (m i) (ar (m i)) c (RX s T b a k)) _ _
 unfold gy fB ji s6 pB pM eS
 obtain ⟨a',t,nx⟩:=qA hC k h0 h1
 have FE:=nx.ge
 refine aF du λ_=>fJ nx (rh nx.self (bj (jl hm hC nx) (fI ?_)))
 have back:∀ {y:ak×ah} {p:sX},WX s T b p y->WX s T b p (y.1,y.2):=λh=>h
 have re:∀ {x:aI (ak×D)} {F:Nat->aI (ak×ah)},LK x F (VX s T b k a') (WX s T b)->LK (ag x λy=>.ok (y.1,y.2)) (λi=>ag (F i) λy=>.ok (y.1,y.2)) (VX s T b k a) (WX s T b):=λh=>cm h (by
   rintro _ _ ⟨e,a2,rfl,rfl,pg,h⟩
   exact b9 ⟨e,a2,rfl,rfl,nx.pg.trans pg,h⟩) λp y h=>aj h
 have lf:∀ {K:Int} {X:ByS} {N:Int},t.aq≠0->t.aq≠7->dl t=0->K≠16->LK (gd (cD (a'+1)) (.ok (ak.mk K X N [] [] [] [] [] (t.cN+b),H s T (a'+1) b k none))) (λi=>ag (P (m i) (RX s T b a' k)) λy=>.ok (ak.mk K X N [] [] [] [] [] (t.cN+b),y.2)) (VX s T b k a) (WX s T b):=λk0 k7 hd hK=>bG λ_=>bj (oI hm hC nx.self k0) (b9 ⟨_,a'+1,rfl,rfl,nx.read hC k0 hd,nx.lz k7,.leaf hK⟩)
 refine dG rfl (λe=>?_) λ_=>dG rfl (λe=>?_) λ_=>dG rfl (λe=>?_) λ_=>dG rfl (λe=>?_) λ_=>?_
 ·exact re (ê hC hm (λj hj=>tL j hj) nx.self (by simpa using e))
 ·have hk:t.aq=2:=by simpa using e
  refine bj (oI hm hC nx.self aB) (cm (hNum hm nx.tk hk) (λy z hz=>?_) λ_ _ h=>h.elim)
  rw[hz]
  exact bG λ_=>b9 ⟨_,a'+1,rfl,rfl,nx.read hC aB (GW aB),nx.lz aB,.leaf dN⟩
 ·have hk:t.aq=3:=by simpa using e
  exact lf (K:=4) (X:=t.bM) (N:=0) aB aB (GW aB) dN
 ·exact hIn hm nx (by simpa using e)
 refine ln (bj (AG b t [95]) (dG rfl (λe=>have e:Z t [95]=true:=e;lf (K:=6) (X:=[]) (N:=0) U7 U7 (Cy e dN) dN) λ_=>?_))
 refine ln (bj (AG b t [95,124,95]) (dG rfl (λe=>have e:Z t [95,124,95]=true:=e;lf (K:=7) (X:=[]) (N:=0) U7 U7 (Cy e dN) dN) λ_=>?_))
 refine ln (bj (AG b t [40]) (dG rfl (λe=>?_) λ_=>?_))
 ·refine tq (Yr hm hC tL nx.self e) ?_ λ_ _ h=>h
  rintro _ _ ⟨e,a2,rfl,rfl,pg,h⟩
  exact b9 ⟨e,a2,rfl,rfl,nx.pg.trans pg,h⟩
 refine ln (bj (AG b t [123]) (dG rfl (λe=>hB hm nx e) λ_=>?_))
 refine ln (bj (AG b t [91]) (dG rfl (λe=>re (abN hC hm tL ihI nx.self e)) λ_=>?_))
 exact kV nx.self (aj ⟨_,rfl,nx.fs,.leaf dN⟩)
end
structure Dn (s:ByS) (T:List aC) (b v a:Int) (k c:Bool) (t:aC):Prop where
 nx:Nx T k a a t
 s1:Bt t [[45],[33]]=false
 s2:Bt t LJ=false
 s3:Z t [42]=false
 p:∀ {m:Nat->Nat},bL m->Ev (λi=>dQ (m i) c (RX s T b a k)) (λr=>FS s T b v r.2/\jd r.1) di
section
variable {T:List aC} {m:Nat->Nat}
def Yu (hm:bL m) (h:Dn s T b v a k c t):Ev (λi=>fc (m i) c (RX s T b a k)) (λr=>FS s T b v r.2/\jd r.1) di:=by
 refine bX (F:=λi=>fc i c (RX s T b a k)) hm λm hm=>?_;show Ev (λi=>hO (m i) (ar (m i)) c (RX s T b a k)) _ _;unfold hO eS;exact ai (h.p hm) λr hr=>px hm λ_=>bC (yW hr.1) (aG (aj hr))
def abP (hm:bL m) (hC:PC s T b) (h:Dn s T b v a k c t):Ev (λi=>dI (m i) c (RX s T b a k)) (λr=>FS s T b v r.2/\jd r.1) di:=by
 refine bX (F:=λi=>dI i c (RX s T b a k)) hm λm hm=>?_;show Ev (λi=>gk (m i) (ar (m i)) c (RX s T b a k)) _ _;unfold gk vi eS;refine ai (jl hm hC h.nx) ?_;rintro _ rfl;refine bC (a:=(true,RX s T b a k)) rfl (aG (cT (ai FW ?_)));rintro _ rfl;rw[h.s1];refine aG (cT (ai FW ?_));rintro _ rfl;rw[show Bt t [[60],[60,61],[62],[62,61],[33,61],[61,126],[33,126]]=false from h.s2];exact aG (aY (ai (Yu hm h) λr hr=>aj hr))
def ë (hm:bL m) (hC:PC s T b) (h:Dn s T b v a k c t) {l:Int} (h0:0<=l) (hl:l<=5):Ev (λi=>cI (m i) l c (RX s T b a k)) (λr=>FS s T b v r.2/\jd r.1) di:=by
 obtain ⟨d,hd⟩:∃ d:Nat,(5 - l).toNat=d:=⟨_,rfl⟩
 induction d generalizing l m with
 | zero=>
  have:l=5:=by omega
  subst this
  refine bX (F:=λi=>cI i 5 c (RX s T b a k)) hm λm hm=>?_
  show Ev (λi=>eN (m i) (ar (m i)) 5 c (RX s T b a k)) _ _
  unfold eN vi eS
  exact aY (ai (abP hm hC h) λr hr=>aj hr)
 | succ d ih=>
  refine bX (F:=λi=>cI i l c (RX s T b a k)) hm λm hm=>?_
  show Ev (λi=>eN (m i) (ar (m i)) l c (RX s T b a k)) _ _
  exact ah9
def MY (hm:bL m) (hC:PC s T b) (h:Dn s T b v a k c t):Ev (λi=>cX (m i) c (RX s T b a k)) (λr=>FS s T b v r.2/\jd r.1) di:=by
 refine bX (F:=λi=>cX i c (RX s T b a k)) hm λm hm=>?_;show Ev (λi=>eL (m i) (ar (m i)) c (RX s T b a k)) _ _;unfold eL vi eS;exact ai (ë hm hC h dN dN) λr hr=>px hm λ_=>bC (yW hr.1) (aG (aj hr))
def Gk (hm:bL m) (hC:PC s T b) (h:Dn s T b v a k c t):Ev (λi=>cL (m i) c (RX s T b a k)) (λr=>FS s T b v r.2/\jd r.1) di:=by
 refine bX (F:=λi=>cL i c (RX s T b a k)) hm λm hm=>?_;show Ev (λi=>eK (m i) (ar (m i)) c (RX s T b a k)) _ _;unfold eK vi eS;refine ai (jl hm hC h.nx) ?_;rintro _ rfl;refine ai (AG b t [42]) ?_;rintro _ rfl;rw[h.s3];exact aY (ai (MY hm hC h) λz hz=>aj hz)
def HA (hm:bL m) (hC:PC s T b) (h:Dn s T b v a k c t):Ev (λi=>ax (m i) c (RX s T b a k)) (λr=>FS s T b v r.2/\jd r.1) di:=by
 refine bX (F:=λi=>ax i c (RX s T b a k)) hm λm hm=>?_;show Ev (λi=>dC (m i) (ar (m i)) c (RX s T b a k)) _ _;unfold dC ji Bn oj jk eA eS;refine ai (jl hm hC h.nx) ?_;rintro _ rfl;refine ai (AG b t [42]) ?_;rintro _ rfl;rw[h.s3];refine bz (λw=>FS s T b v w.1/\jd w.2) (λw hw=>?_) λj hj=>?_
 ·exact ahO
 cases c with
 | true=>exact aY (ai (Gk hm hC h) λz hz=>hj _ hz)
 | false=>exact aG (ai (Gk hm hC h) λz hz=>hj _ hz)
def Ed (t:aC):Prop:=t.aq=0\/Z t [125]=true
def Ed.no (h:Ed t) {x:ByS} (hx:x≠[125]):Z t x=false:=by
 obtain h|h:=h
 ·simp[Z,h]
 obtain ⟨h1,h2⟩:=la h;simp[Z,h1,h2,Ne.symm hx]
def Ed.am (h:Ed t) {l:List ByS} (hl:[125] ∉ l):Bt t l=false:=by
 obtain h|h:=h
 ·simp[Bt,h]
 obtain ⟨h1,h2⟩:=la h;simp[Bt,h1,h2,hl]
def Ed.ki (h:Ed t):t.aq=0\/t.aq=5:=by
 obtain h|h:=h
 ·exact .inl h
 exact .inr (la h).1
def Ed.dn (hC:PC s T b) (h:Ed t) (nx:Nx T k a a t):Dn s T b (t.cN+b) a k c t:=by
 refine ⟨nx,h.am dN,h.am dN,h.no dN,λ{m} hm=>?_⟩;refine bX (F:=λi=>dQ i c (RX s T b a k)) hm λm hm=>?_;show Ev (λi=>fB (m i) (ar (m i)) c (RX s T b a k)) _ _;unfold fB eS;refine ai Fw ?_;rintro _ rfl;have hk:=h.ki;have kn:∀ x:Int,x≠0->x≠5->((om b t).aq==x)=false:=λx h0 h5=>by simp[om];omega
 dsimp only;rw[kn 1 dN dN,kn 2 dN dN,kn 3 dN dN,kn 4 dN dN];have st:∀ {x:ByS} {F G:Nat->aI (ak×ah)} {Q:ak×ah->Prop},x≠[125]->Ev G Q di->Ev (λi=>ag (ch (om b t) x) λy=>aI.br y (F i) (G i)) Q di:=λhx hG=>ai (AG b t _) λy hy=>by
  rw[h.no hx] at hy;subst hy;exact aG hG
 refine aG (aG (aG (aG (st dN (st dN (st dN (st dN (st dN ?_))))))));exact bC (a:=RF s T b a k (t.cN+b)) rfl (aj ⟨nx.fs,.leaf dN⟩)
end
section
def E4 (s:ByS) (i j:Int):Bool:=(sub s i j).contains 10
variable {i:Int} {u:aC}
def uM (h0:0<=i):E4 s i j=true↔∃ p:Nat,i<=p/\(p:Int)<j/\s[p]?=some 10:=by
 unfold E4 sub;rw[List.contains_iff_mem,pF];constructor
 ·rintro ⟨p,hp⟩;rw[hY] at hp;split at hp
  ·rw[dD] at hp;exact ⟨_,by omega,by omega,hp⟩
  cases hp
 rintro ⟨p,h1,h2,h3⟩;refine ⟨p - i.toNat,?_⟩;rw[hY,aL aB,dD,show i.toNat+(p - i.toNat)=p by omega];exact h3
def Ft {i' j':Int} (h0:0<=i) (h1:i<=i') (h2:j'<=j) (h:E4 s i' j'=true):E4 s i j=true:=by
 obtain ⟨p,q1,q2,q3⟩:=(uM aB).1 h;exact (uM h0).2 ⟨p,by omega,by omega,q3⟩
def Ut:∀ {l:ByS} {c:UInt8},(wq l [c]).isSome=l.contains c
 | [],c=>by simp[wq]
 | b::l,c=>by
  have ih:=@Ut l c;unfold wq;by_cases h:c=b
  ·subst h;simp[List.isPrefixOf]
  have h':(([c]:ByS).isPrefixOf (b::l))=false:=by simp[List.isPrefixOf,h]
  rw[h'];have e:(b::l).contains c=l.contains c:=by
   rw[cY];simp[h]
  rw[e,<- ih];cases wq l [c]<;>rfl
def SA (x:ByS):Prop:=E3 x=x.length/\∃ c w,x=c::w/\xZ c=true
structure Lx (s:ByS) (T:List aC):Prop where
 l7:∀ (i:Nat) t,T[i]?=some t->t.aq=7->E4 s t.cN t.pO=true
 c6:∀ (i j:Nat) t u,i<j->T[i]?=some t->T[j]?=some u->t.aq=6->u.aq≠7->u.aq≠0->E4 s t.pO u.cN=true
 br:∀ (i:Nat) t u,T[i]?=some t->T[i+1]?=some u->u.aq=7->Z t [91]=false/\Z t [61,126]=false
 it:∀ t,t∈T->t.aq=4->∀ {m:Nat->Nat},bL m->Ev (λi=>jE (m i) t.bM) (λz=>z.2.eU=0) di
 nm:∀ t,t∈T->t.aq=2->SA t.bM
def zP (s:ByS) (T:List aC) (a:Int) (t:aC):Bool:=decide (a=0)||match T[(a - 1).toNat]? with|some u=>u.aq==7||E4 s u.pO t.cN|none=>true
section
variable {T:List aC} {m:Nat->Nat} {q:Option ak} {en ea:Int}
def PC.ord (hC:PC s T b) {i j:Nat} (h:i<j) {t:aC} (ht:T[i]?=some t) (hu:T[j]?=some u):0<=t.cN/\t.cN<=t.pO/\t.pO<=u.cN/\u.cN<=s.length:=by
 have h1:=hC.tok ht;have h2:=hC.tok hu;have h3:=hC.sorted h ht hu;omega
def ì (hC:PC s T b):strings_Contains (sub s i j) [10]=.ok (E4 s i j):=by
 unfold strings_Contains aI.gd;have h1:=hC.bs;have h2:=hC.b0;have h3:(sub s i j).length<=s.length:=by simp[sub];omega
 rw[aL aB,Ut];rfl
def Uu (hm:bL m) (hC:PC s T b) (h0:0<=i) (hij:i<=j) (hj:j<=s.length):Ev (λx=>kZ (m x) (i+b) (j+b) (Yn s b (T.map (om b)) a k en ea)) (λr=>r=(E4 s i j,Yn s b (T.map (om b)) a k en ea)) di:=by
 unfold kZ ji;have h1:=hC.bs;have h2:=hC.b0;refine bN hm (λ(v:Int)=>i+b<=v/\v<=j+b/\∀ p:Nat,i<=p->(p:Int)<v - b->s[p]?≠some 10) (λv=>(j+b - v).toNat) ⟨aB,aB,λp _ _=>by omega⟩ ?_;rintro v ⟨q0,q1,q2⟩ next hn;refine aR (λh=>aH (gm eX eX λc hc=>?_)) λh=>aj ?_
 ·rw[mO 10 10 rfl];refine aw (λxd=>aj ?_) λxd=>aH (hn _ ⟨aB,aB,λp hp TV=>?_⟩ aB)
  ·rw[cg] at xd;subst xd;rw[show E4 s i j=true from (uM h0).2 ⟨_,eX,eX,hc⟩]
  by_cases e:(p:Int)=v - b
  ·have hc':s[p]?=some c:=by rw[<- hc];congr 1;dsimp only;omega
   rw[hc'];intro w;cases w;simp at xd
  exact q2 p hp aB
 have:E4 s i j=false:=by
  rw[jC];intro w;obtain ⟨p,p1,p2,p3⟩:=(uM h0).1 w;exact q2 p p1 aB p3
 rw[this]
def í (ht:T[a.toNat]?=some t) (h0:0<=a):Tk (lB n (H s T a b false q)) (t.aq==0||Z t [125],H s T a b false q):=by
 have nx:Nx T false a a t:=acR;unfold lB pB;obtain e|e:=tT (n:=n) (s:=s) (b:=b) (q:=q) nx
 ·rw[e];exact .inl rfl
 rw[e,Aj];dsimp only;refine cz (λh=>iA ?_) λh=>?_
 ·rw[h];rfl
 rw[e,Aj];dsimp only;rw[GH,Aj,h];exact ll
def HB (hC:PC s T b) (hL:Lx s T) (h0:0<=a) (ht:T[a.toNat]?=some t):Tk (iK n (H s T a b k q)) (zP s T a t,H s T a b k q):=by
 unfold iK ji;refine dW λ_=>oS (λ(v:Int)=>v<=a - 1/\ -1<=v/\(v<a - 1->∃ u,T[(a - 1).toNat]?=some u/\u.aq=7)) (λv hv next hn=>?_) n ⟨eX,eX,λh=>by dsimp only at h;omega⟩;obtain ⟨h1,h2,h3⟩:=hv;have own7:(∃ u,T[(a - 1).toNat]?=some u/\u.aq=7)->zP s T a t=true:=by
  rintro ⟨u,q1,q2⟩;unfold zP;rw[q1];simp[q2]
 refine cz (λh=>k8 λx _ hx=>cz (λhk=>k8 λx' _ tw=>k8 λt' _ Qo=>dW λ_=>?_) λhk=>dW λ_=>hn _ ⟨aB,?_,λiy=>?_⟩) λh=>iA ?_
 ·rw[hx] at tw;cases tw;have Qo:T[a.toNat]?=some t':=Qo;rw[ht] at Qo;cases Qo;have FE:=bh h;have FE:v>=0:=FE;dsimp only at hx;rw[ì hC,Aj];refine iA ?_;congr 1;by_cases e:v=a - 1
  ·subst e;unfold zP;rw[hx];have ha:decide (a=0)=false:=by simp;omega
   have F1:(x.aq==7)=false:=by simpa[bne] using hk
   simp[ha,F1]
  obtain ⟨u,q1,q2⟩:=h3 aB;rw[own7 ⟨u,q1,q2⟩];have o1:=hC.ord (i:=v.toNat) (j:=(a - 1).toNat) aB hx q1;have o2:=hC.ord (i:=(a - 1).toNat) (j:=a.toNat) aB q1 ht;exact Ft aB aB aB (hL.l7 _ _ q1 q2)
 ·have FE:v>=0:=bh h;omega
 ·by_cases e:v=a - 1
  ·subst e;exact ⟨x,hx,by simpa[bne] using hk⟩
  exact h3 aB
 have iy:¬ v>=0:=aW h;by_cases e:v=a - 1
 ·have:a=0:=by omega
  unfold zP;simp[this]
 rw[own7 (h3 aB)]
def SB (hm:bL m) (hC:PC s T b) (h0:0<=a) (ht:T[a.toNat]?=some t):Ev (λi=>kI (m i) (Yn s b (T.map (om b)) a k en ea)) (λr=>r=(zP s T a t,Yn s b (T.map (om b)) a k en ea)) di:=by
 unfold kI ji;have hl:=hC.oF;have iy:=(an.1 ht).1;refine b8 (λh=>aj ?_) λh=>aH ?_
 ·have h:a=0:=h;unfold zP;simp[h]
 have h:a≠0:=h;obtain ⟨u,hu⟩:∃ u,T[(a - 1).toNat]?=some u:=⟨_,az aB⟩;have hu':(T.map (om b))[(a - 1).toNat]?=some (om b u):=by rw[fj,hu];rfl
 have Qo:(T.map (om b))[a.toNat]?=some (om b t):=by rw[fj,ht];rfl
 have o:=hC.ord (i:=(a - 1).toNat) (j:=a.toNat) aB hu ht;have ow:zP s T a t=(u.aq==7||E4 s u.pO t.cN):=by unfold zP;rw[hu,bw h];rfl
 refine g eX hu' (aw (λh7=>aj ?_) λh7=>aH (g eX hu' (g eX Qo (ai (Uu hm hC aB o.2.2.1 o.2.2.2) ?_))))
 ·have h7:(u.aq==7)=true:=h7;rw[ow,h7];rfl
 have h7:(u.aq==7)=false:=h7;rintro _ rfl;rw[ow,h7];exact aj rfl
def Mid (T:List aC) (e a:Int):Prop:=∀ (j:Nat) w,e<=j->(j:Int)<a->T[j]?=some w->Z w [44]=true\/w.aq=7\/w.aq=6
def ZD (hC:PC s T b) (hL:Lx s T) (ht:T[a.toNat]?=some t) (hk:t.aq=6) (h1:1<=e) (h2:e<=a) (hu:T[(e - 1).toNat]?=some u) (hM:Mid T e a) :
  Tk (iV n e (H s T a b k q)) (!E4 s u.pO t.cN,H s T a b k q):=by
 unfold iV ji
 refine oS (λ(v:Int)=>e<=v/\v<=a) (λv hv next hn=>?_) n ⟨dR _,h2⟩
 refine cz (λh=>k8 λx _ hx=>ob (GH x [44]) (cz (λhc=>iA ?_) λhc=>dW λ_=>hn _ ⟨aB,?_⟩)) λh=>dW λ_=>k8 λx _ hx=>k8 λy _ hy=>dW λ_=>?_
 ·have iy:v<a:=bh h
  have hx:T[v.toNat]?=some x:=hx
  have o1:=hC.ord (i:=(e - 1).toNat) (j:=v.toNat) aB hu hx
  have o2:=hC.ord (i:=v.toNat) (j:=a.toNat) aB hx ht
  have:E4 s u.pO t.cN=true:=by
   obtain w|w|w:=hM v.toNat x aB aB hx
   ·rw[w] at hc;cases hc
   ·exact Ft aB aB aB (hL.l7 _ _ hx w)
   ·exact Ft aB aB aB (hL.c6 _ _ _ _ aB hx ht w aB aB)
  rw[this];rfl
 ·have iy:v<a:=bh h
  omega
 ·have hx:T[(e - 1).toNat]?=some x:=hx
  have hy:T[a.toNat]?=some y:=hy
  rw[hu] at hx;cases hx
  rw[ht] at hy;cases hy
  dsimp only
  rw[ì hC,Aj]
  exact ll
def aen (hC:PC s T b) (hL:Lx s T) (ht:T[a.toNat]?=some t) (h1:1<=e) (h2:e<=a) (hu:T[(e - 1).toNat]?=some u) (hk:u.aq≠7) (h:zP s T a t=true):E4 s u.pO t.cN=true:=by
 have iy:=(an.1 ht).1;obtain ⟨w,hw⟩:∃ w,T[(a - 1).toNat]?=some w:=⟨_,az aB⟩;have ow:zP s T a t=(w.aq==7||E4 s w.pO t.cN):=by
  unfold zP;have:a≠0:=by omega
  rw[hw,bw this];rfl
 rw[ow] at h;have o2:=hC.ord (i:=(a - 1).toNat) (j:=a.toNat) aB hw ht;by_cases e1:e=a
 ·subst e1;rw[hu] at hw;cases hw;simpa[hk] using h
 have o1:=hC.ord (i:=(e - 1).toNat) (j:=(a - 1).toNat) aB hu hw;simp at h;obtain h|h:=h
 ·exact Ft aB aB aB (hL.l7 _ _ hw h)
 exact Ft aB aB aB h
end
end
def VC (s:ByS) (T:List aC) (b a:Int) (r:aK×D) (y:aK×ah):Prop:=∃ d a',r=(d,H s T a' b false none)/\y=(d,RX s T b a' false)/\Pg T a a'/\Lz T false a'/\V d
def WC (s:ByS) (T:List aC) (b:Int) (p:sX) (y:aK×ah):Prop:=∃ v,p=PF v/\FS s T b v y.2
def Mt (E:ByS) (t:aC):Bool:=if E=[] then t.aq==0 else Z t E
def VD2 (s:ByS) (T:List aC) (b a:Int) (E:ByS) (r:List aK×List ByS×D) (y:List aK×List ByS×ah):Prop:=
 ∃ l tl a' t,r=(l,tl,H s T a' b false none)/\Pg T a a'/\T[a'.toNat]?=some t/\(l.length:Int)<=70000/\(∀ d,d∈l->V d)/\(tl.length:Int)<=70000/\(∀ x,x∈tl->x.length<=65536)/\
  ((Mt E t=true/\y=(l,tl,RX s T b a' false))\/(Mt E t=false/\y.1=[]/\y.2.1=[]/\FS s T b (t.cN+b) y.2.2))
def î (s:ByS) (T:List aC) (b:Int) (p:sX) (y:List aK×List ByS×ah):Prop:=∃ v,p=PF v/\y.1=[]/\y.2.1=[]/\FS s T b v y.2.2
section
variable {T:List aC} {m:Nat->Nat}
def uN (h0:0<=a) (ht:T[a.toNat]?=some t):Nx T false a a t:=acR
inductive Le (T:List aC) (b:Int):List aK->Bool->Int->Int->Int->Prop
 | no {sep:Bool} {a l:Int}:Le T b [] sep (-1) a l
 | dec {out:List aK} {sep:Bool} {e a:Int} {u:aC} (ho:out≠[]) (h1:1<=e) (h2:e<=a) (hu:T[(e - 1).toNat]?=some u) (hk:u.aq≠7) (hM:Mid T e a):Le T b out sep e a (u.pO+b)
 | dead {out:List aK} {e a l:Int} {t:aC} (ht:T[a.toNat]?=some t) (hk:t.aq≠6/\t.aq≠7) (hc:Z t [44]=false):Le T b out false e a l
def Le.set {out:List aK} {sep:Bool} {l:Int} {i:Nat} {d:aK} (h:Le T b out sep e a l):Le T b (out.set i d) sep e a l:=by
 cases h with
 | no=>exact .no
 | dec ho q1 q2 hu hk hM=>exact .dec (by simpa using ho) q1 q2 hu hk hM
 | dead ht hk hc=>exact .dead ht hk hc
def Mid.up (h:Mid T e a) (h0:0<=a) (ht:T[a.toNat]?=some t) (hk:Z t [44]=true\/t.aq=7\/t.aq=6):Mid T e (a+1):=λj w h1 h2 hw=>by
 by_cases q:(j:Int)<a
 ·exact h j w h1 q hw
 rw[show j=a.toNat by omega,ht] at hw;cases hw;exact hk
def Sk {α:Type} (x y:aI α):Prop:=x=.stuck\/x=y
section
variable {X:Type} {x:aI β} {c:β} {y z w:aI α}
def Sk.tk {f:β->aI α} (h:Tk x c) (hf:Sk (f c) y):Sk (ag x f) y:=by
 obtain rfl|rfl:=h
 ·exact .inl rfl
 exact hf
def Sk.bt {b:Bool} (h:b=true) (hz:Sk z y):Sk (aI.br b z w) y:=by subst h;exact hz
def Sk.bf {b:Bool} (h:b=false) (hw:Sk w y):Sk (aI.br b z w) y:=by subst h;exact hw
def Sk.gd {p:Prop} [Decidable p] (h:Sk z y):Sk (aI.gd p z) y:=by
 unfold aI.gd;split
 ·exact h
 exact .inl rfl
end
variable {E:ByS}
def SD (hC:PC s T b) (hL:Lx s T) (hE:E=[]\/E=[125]) (hD:∀ {m:Nat->Nat} {a:Int} {t:aC},bL m->0<=a->T[a.toNat]?=some t->t.aq≠0->t.aq≠6->t.aq≠7->Z t [44]=false->Z t [125]=false->LK (fy n c (H s T a b false none)) (λi=>cd (m i) c (RX s T b a false)) (VC s T b a) (WC s T b)) (hX:∀ {m:Nat->Nat} {a:Int} {t:aC},bL m->0<=a->T[a.toNat]?=some t->Ed t->Ev (λi=>cd (m i) c (RX s T b a false)) (λr=>FS s T b (t.cN+b) r.2) di) :
  ∃ body:(D×List ByS×List aK×Int×Bool->aI (List aK×List ByS×D))->D×List ByS×List aK×Int×Bool->aI (List aK×List ByS×D),
   (∀ lead p,iN n lead c p=aI.iter body n (p,lead,[],-1,true))/\
   (∀ {a:Int} {t:aC} {lead:List ByS} {next},0<=a->T[a.toNat]?=some t->t.aq=6->zP s T a t=true->Sk (body next (H s T a b false none,lead,[],-1,true)) (next (H s T (a+1) b false none,lead++[t.bM],[],-1,true)))/\
   ∀ (n2:Nat) {m:Nat->Nat} {a0:Int} {lead:List ByS},bL m->0<=a0->a0<T.length->(lead.length:Int)<=a0+1->(∀ x,x∈lead->x.length<=65536)->
    LK (aI.iter body n2 (H s T a0 b false none,lead,[],-1,true)) (λi=>et (m i) c lead E (RX s T b a0 false)) (VD2 s T b a0 E) (î s T b):=by
 refine ⟨_,λlead p=>by unfold iN oj jk s6 pB pM dL dT;rfl,?_,?_⟩
 ·intro a t lead next h0 ht h6 how
  have nx:=uN h0 ht
  have h7:(t.aq==7)=false:=by simp[h6]
  have Xu:(t.aq==6)=true:=by simpa using h6
  have he:(t.aq==0||Z t [125])=false:=by simp[h6,Z]
  refine Sk.tk (í ht h0) (Sk.bt QH (Sk.tk (tT nx) ?_))
  refine Sk.bf h7 (Sk.tk (.inr (GH t [44])) ?_)
  refine Sk.bf (by simp[Z,h6]) (Sk.bt Xu (Sk.bf (bw (show ¬ ((-1:Int)>0) by decide)) (Sk.bf rfl (Sk.bt Xu (Sk.tk (HB hC hL h0 ht) ?_)))))
  exact Sk.bt how (Sk.gd (Sk.gd (.inr rfl)))
 intro n2 m a0 lead hm h0 h1 Tu Ji
 unfold et Bn oj jk s6 dL dT
 have hlen:=hC.oF
 have hj:∀ (p:sX) (w:ah×List ByS×List aK×Bool×Int),(∃ v,p=PF v/\FS s T b v w.1)->∀ {F:Nat->Bool×ah->aI (List aK×List ByS×ah)},Ev (λi=>ag (cG w.1) λy=>aI.br y.1 (F i y) (.ok ([],[],y.2))) (î s T b p) di:=by
  rintro p w ⟨v,rfl,h⟩ F
  exact bC (yW h) (aG (aj ⟨v,rfl,rfl,rfl,h⟩))
 refine uy (λv w=>∃ lead out e sep a last,v=(H s T a b false none,lead,out,e,sep)/\w=(RX s T b a false,lead,out,sep,last)/\Pg T a0 a/\(lead.length:Int)<=a+1/\(∀ x,x∈lead->x.length<=65536)/\(out.length:Int)<=a+(if sep then 0 else 1)/\(∀ d,d∈out->V d)/\Le T b out sep e a last)
  (λp w=>∃ v,p=PF v/\FS s T b v w.1) (λp w h _=>hj p w h) ?_ n2 hm _ _ ⟨lead,[],-1,true,a0,0,rfl,rfl,.refl h1,Tu,Ji,qI,bn,.no⟩
 rintro _ _ ⟨lead,out,e,sep,a,last,rfl,rfl,pg,i1,i2,i3,i4,i5⟩ next next' hn hf
 have g0:=pg.le
 have g1:=pg.lt
 have ho3:(out.length:Int)<=70000:=by cases sep<;>simp at i3<;>omega
 obtain ⟨t,ht⟩:∃ t,T[a.toNat]?=some t:=⟨_,az aB⟩
 have nx:=uN aB ht
 have ff:∀ {v:Int} {F:Nat->aI (List aK×List ByS×ah)},Ev F (î s T b (PF v)) di->Ev F (λy=>y.1=[]/\y.2.1=[]/\FS s T b v y.2.2) di:=λh=>h.qh λy hy=>by
  obtain ⟨w,hw,hy⟩:=hy
  cases hw;exact hy
 refine bj uY (aJ (λ_=>?_) du)
 refine gR (í ht aB) (bj Fw (mP ?_))
 dsimp only
 cases he:(t.aq==0||Z t [125]) with
 | true=>
  have hEd:Ed t:=by
   simp at he
   exact he
  have h7:t.aq≠7:=by have:=hEd.ki;omega
  have h6:t.aq≠6:=by have:=hEd.ki;omega
  refine aF du λ_=>?_
  refine ⟨λr hr=>?_,λp hp=>by cases hp⟩
  cases hr
  refine aw (λh=>ao HM h7) λ_=>ai (AG b t [44]) ?_
  rintro _ rfl
  rw[hEd.no dN]
  refine aG (cT (cT (aw (λh=>ao HM h6) λ_=>aG (aw (λh=>ao HM h6) λ_=>cT ?_))))
  have fin:∀ z:Bool,z=Mt E t->Ev (λi=>br z (.ok (out,lead,RX s T b a false)) (br (!sep) (ag (bJ (om b t).cN (RX s T b a false)) λy53=>next' i (y53,lead,out,sep,last)) (ag (cd (m i) c (RX s T b a false)) λy55=>gd (nP 184 out.length (List.length [(aK.mk y55.1.aq y55.1.eo y55.1.ni y55.1.B y55.1.bT y55.1.bK y55.1.lZ y55.1.J lead y55.1.lR y55.1.cN)])) (gd (cD (y55.2.bO - 1)) (el y55.2.l (if y55.2.bO - 1>0 then y55.2.bO - 1 else 0) λx62=>next' i (y55.2,[],out++[(aK.mk y55.1.aq y55.1.eo y55.1.ni y55.1.B y55.1.bT y55.1.bK y55.1.lZ y55.1.J lead y55.1.lR y55.1.cN)],false,x62.pO)))))) (VD2 s T b a0 E (out,lead,H s T a b false none)) di:=by
   intro z hz
   cases z with
   | true=>exact aY (aj ⟨out,lead,a,t,rfl,pg,ht,ho3,i4,by omega,i2,.inl ⟨hz.symm,rfl⟩⟩)
   | false=>
    have bad:∀ {F:Nat->aI (List aK×List ByS×ah)},Ev F (λy=>y.1=[]/\y.2.1=[]/\FS s T b (t.cN+b) y.2.2) di->Ev F (VD2 s T b a0 E (out,lead,H s T a b false none)) di:=λh=>h.qh λy hy=>⟨out,lead,a,t,rfl,pg,ht,ho3,i4,aB,i2,.inr ⟨hz.symm,hy⟩⟩
    refine aG (bad ?_)
    refine aw (λ_=>bC (a:=RF s T b a false (t.cN+b)) rfl (ff (hf _ _ ⟨_,rfl,nx.fs⟩))) λ_=>?_
    refine ai (hX hm aB ht hEd) λr hr=>?_
    have Fh:=hr
    obtain ⟨a1,k1,e1,q0,q1⟩:=hr
    rw[e1] at Fh ⊢
    exact aH (dy Xn (gm Zw (by dsimp only;simp;split<;>omega) λx _=>ff (hf _ _ ⟨_,rfl,Fh⟩)))
  have kE:(om b t).aq=t.aq:=rfl
  rw[kE]
  obtain rfl|rfl:=hE
  ·cases hk:t.aq==0 with
   | true=>exact aY (aY (fin true (by unfold Mt;rw[aL rfl,hk])))
   | false=>exact aG (aG (fin false (by unfold Mt;rw[aL rfl,hk])))
  ·have eM:Mt [125] t=Z t [125]:=by unfold Mt;rw[aE dN]
   refine aw (λ_=>aG (aY (ai (AG b t [125]) ?_))) λ_=>aY (ai (AG b t [125]) ?_)
   all_goals (rintro _ rfl;exact fin _ eM.symm)
 | false=>
  have Fc:t.aq≠0:=λh=>by simp[h] at he
  have hb:Z t [125]=false:=by
   simp at he
   exact he.2
  have lt:=hC.next aB ht Fc
  have htt:=(hC.tok ht).2.2.2.1
  refine aF (λ_=>?_) du
  refine fJ nx (fI ?_)
  dsimp only
  have sepr:dl t=0->(Z t [44]=true\/t.aq=7)->LK (gd (cD (a+1)) (next (H s T (a+1) b false none,lead,out,e,true))) (λi=>ag (P (m i) (RX s T b a false)) λy20=>next' i (y20.2,lead,out,true,last)) (VD2 s T b a0 E) (î s T b):=by
   intro hd hs
   refine bG λ_=>bj Ze (hn _ _ ⟨lead,out,e,true,a+1,last,rfl,rfl,pg.trans (nx.read hC Fc hd),aB,i2,?_,i4,?_⟩)
   ·cases sep<;>simp at i3 ⊢<;>omega
   ·cases i5 with
    | no=>exact .no
    | dec ho q1 q2 hu hk hM=>exact .dec ho q1 aB hu hk (hM.up aB ht (by obtain h|h:=hs;exact .inl h;exact .inr (.inl h)))
    | dead Qo hk hc=>
     rw[ht] at Qo;cases Qo
     obtain h|h:=hs
     ·rw[h] at hc;cases hc
     ·exact ao h hk.2
  by_cases h7:t.aq=7
  ·have h7':(t.aq==7)=true:=by simpa using h7
   exact aF (λ_=>aF (λ_=>aJ (λ_=>aJ (λ_=>sepr IG (.inr h7)) du) λh=>by rw[show (om b t).aq=t.aq from rfl,h7'] at h;cases h) du) λh=>by rw[h7'] at h;cases h
  have h7':(t.aq==7)=false:=by simpa using h7
  refine aF (λh=>by rw[h7'] at h;cases h) λ_=>aJ (λh=>by rw[show (om b t).aq=t.aq from rfl,h7'] at h;cases h) λ_=>?_
  refine ln (bj (AG b t [44]) ?_)
  cases hcm:Z t [44] with
  | true=>exact aF (λ_=>aJ (λ_=>sepr (Cy hcm dN) (.inl hcm)) λh=>by cases h) λh=>by cases h
  | false=>
   refine aF du λ_=>aJ du λ_=>mP ?_
   have wr:∀ {F:Nat->aI (List aK×List ByS×ah)} {f:D->aI (List aK×List ByS×D)},Ev F (î s T b (PF (t.cN+b))) di->LK (ag (ca n (H s T a b false none)) f) F (VD2 s T b a0 E) (î s T b):=λh=>kV nx h
   have fl:∀ {l:List ByS} {o:List aK} {z:Bool} {x:Int},Ev (λi=>ag (bJ (om b t).cN (RX s T b a false)) λy=>next' i (y,l,o,z,x)) (î s T b (PF (t.cN+b))) di:=λ{l o z x}=>bC (a:=RF s T b a false (t.cN+b)) rfl (hf _ _ ⟨_,rfl,nx.fs⟩)
   have kE:(om b t).aq=t.aq:=rfl
   have pE:(om b t).cN=t.cN+b:=rfl
   by_cases h6:t.aq=6
   ·
    have Xu:(t.aq==6)=true:=by simpa using h6
    have hd:dl t=0:=GW aB
    have tk:=hC.tok ht
    refine aJ (λ_=>bj (SB hm hC aB ht) ?_) λh=>by rw[kE,Xu] at h;cases h
    dsimp only
    have le2:Le T b out sep e (a+1) last:=by
     cases i5 with
     | no=>exact .no
     | dec ho q1 q2 hu hk hM=>exact .dec ho q1 aB hu hk (hM.up aB ht (.inr (.inr h6)))
     | dead Qo hk hc=>
      rw[ht] at Qo;cases Qo
      exact ao h6 hk.1
    obtain ⟨tr,t1,t2⟩:∃ tr:Bool,((e>0/\Tk (iV n e (H s T a b false none)) (tr,H s T a b false none))\/(¬ e>0/\tr=false))/\((out=[]/\tr=false)\/∃ z,out≠[]/\last=z+b/\0<=z/\z<=t.cN/\tr = !E4 s z t.cN/\(zP s T a t=true->E4 s z t.cN=true)):=by
     cases i5 with
     | no=>exact ⟨false,.inr ⟨by decide,rfl⟩,.inl vf⟩
     | @dec out sep e a u ho q1 q2 hu hk hM=>
      have o:=hC.ord (i:=(e - 1).toNat) (j:=a.toNat) aB hu ht
      exact ahE
     | dead Qo hk hc=>
      rw[ht] at Qo;cases Qo
      exact ao h6 hk.1
    refine oG (λv=>v=(H s T a b false none,tr)) (λv hv=>?_) λj hj=>?_
    rotate_left
    ·refine aF (λ_=>?_) λh=>by rw[Xu] at h;cases h
     obtain ⟨q1,q2⟩|⟨q1,q2⟩:=t1
     ·exact aF (λ_=>gR q2 (hj _ rfl)) λh=>ao qO (by simpa using q1)
     ·exact aF (λh=>ao B2 q1) λ_=>hj _ (by rw[q2])
    subst hv
    cases tr with
    | true=>
     obtain ⟨_,w⟩|⟨z,ho,rfl,z0,z1,hz,hown⟩:=t2
     ·cases w
     have Ja:E4 s z t.cN=false:=by simpa using hz.symm
     have hof:zP s T a t=false:=by
      rw[jC]
      intro w
      rw[hown w] at Ja;cases Ja
     rw[hof]
     have hol:(out.length:Int)≠0:=by
      have:=tJ.2 ho
      omega
     refine aF (λ_=>?_) du
     refine aJ du λ_=>aJ (λ_=>aJ (λh=>ao jg hol) λ_=>?_) λh=>by rw[kE,Xu] at h;cases h
     refine bj (Uu hm hC z0 z1 aB) ?_
     rw[Ja]
     refine aJ du λ_=>bj Ze (bG λhg=>bV hg (je λx hx0 hx=>eV hx0 hx (bG λ_=>?_)))
     have hxd:=i4 x (aQ hx)
     refine hn _ _ ⟨lead,_,e,sep,a+1,z+b,rfl,rfl,pg.trans (nx.read hC Fc hd),aB,i2,?_,λd hdm=>?_,?_⟩
     ·rw[rR];cases sep<;>simp at i3 ⊢<;>omega
     ·obtain w|w:=qu hdm
      ·exact i4 d w
      ·subst w;exact acD
     ·exact le2.set
    | false=>
     refine aF du λ_=>?_
     refine oG (λv=>v=(H s T a b false none,zP s T a t)) (λv hv=>?_) λj hj=>?_
     rotate_left
     ·exact aF (λ_=>gR (HB hC hL aB ht) (hj _ rfl)) λh=>by rw[Xu] at h;cases h
     subst hv
     cases how:zP s T a t with
     | true=>
      refine aF (λ_=>aJ (λ_=>?_) du) du
      refine bG λhg=>bG λ_=>bj Ze (bV hg (hn _ _ ⟨lead++[t.bM],out,e,sep,a+1,last,rfl,rfl,pg.trans (nx.read hC Fc hd),qI,λx hx=>?_,?_,i4,le2⟩))
      ·obtain w|w:=bH.1 hx
       ·exact i2 x w
       ·simp at w;subst w;exact htt
      ·cases sep<;>simp at i3 ⊢<;>omega
     | false=>
      refine aF du λ_=>aJ du λ_=>aJ (λ_=>?_) λh=>by rw[kE,Xu] at h;cases h
      refine oG (λv=>v=true) (λv hv=>?_) λj hj=>?_
      rotate_left
      ·exact aF (λ_=>hj _ rfl) λh=>by rw[Xu] at h;cases h
      subst hv
      refine aF (λ_=>wr ?_) du
      obtain ⟨rfl,_⟩|⟨z,ho,rfl,z0,z1,hz,_⟩:=t2
      ·exact aY fl
      ·have Ja:E4 s z t.cN=true:=by simpa using hz.symm
       have hol:(out.length:Int)≠0:=by
        have:=tJ.2 ho
        omega
       refine aw (λh=>ao jg hol) λ_=>ai (Uu hm hC z0 z1 aB) ?_
       rintro _ rfl
       rw[Ja]
       exact aY fl
   ·
    have Xu:(t.aq==6)=false:=by simpa using h6
    refine aJ (λh=>by rw[kE,Xu] at h;cases h) λ_=>aJ du λ_=>aJ (λh=>by rw[kE,Xu] at h;cases h) λ_=>mP ?_
    have k0:(t.aq==0)=false:=by simpa using Fc
    have toR:∀ {x:aI (List aK×List ByS×D)} {F:Nat->Bool->aI (List aK×List ByS×ah)},LK x (λi=>F i false) (VD2 s T b a0 E) (î s T b)->LK x (λi=>br ((om b t).aq==0) (br (E==([]:ByS)) (F i true) (br (E !=([]:ByS)) (ag (ch (om b t) E) λy69=>F i y69) (F i false))) (br (E !=([]:ByS)) (ag (ch (om b t) E) λy71=>F i y71) (F i false))) (VD2 s T b a0 E) (î s T b):=by
     intro x F h
     refine aJ (λh=>by rw[kE,k0] at h;cases h) λ_=>?_
     obtain rfl|rfl:=hE
     ·exact aJ du λ_=>h
     ·refine aJ (λ_=>bj (AG b t [125]) ?_) du
      rw[hb];exact h
    refine toR (F:=λi v=>br v (.ok (out,lead,RX s T b a false)) (br (!sep) (ag (bJ (om b t).cN (RX s T b a false)) λy53=>next' i (y53,lead,out,sep,last)) (ag (cd (m i) c (RX s T b a false)) λy55=>gd (nP 184 out.length (List.length [(aK.mk y55.1.aq y55.1.eo y55.1.ni y55.1.B y55.1.bT y55.1.bK y55.1.lZ y55.1.J lead y55.1.lR y55.1.cN)])) (gd (cD (y55.2.bO - 1)) (el y55.2.l (if y55.2.bO - 1>0 then y55.2.bO - 1 else 0) λx62=>next' i (y55.2,[],out++[(aK.mk y55.1.aq y55.1.eo y55.1.ni y55.1.B y55.1.bT y55.1.bK y55.1.lZ y55.1.J lead y55.1.lR y55.1.cN)],false,x62.pO)))))) ?_
    refine aJ du λ_=>?_
    refine oG (λv=>v=(H s T a b false none,false)) (λv hv=>?_) λj hj=>aF ZB λ_=>hj _ rfl
    subst hv
    refine aF du λ_=>oG (λv=>v=(H s T a b false none,false)) (λv hv=>?_) λj hj=>aF ZB λ_=>hj _ rfl
    subst hv
    refine aF du λ_=>oG (λv=>v = !sep) (λv hv=>?_) λj hj=>aF ZB λ_=>hj _ rfl
    subst hv
    cases sep with
    | false=>exact aF (λ_=>wr (aY fl)) λh=>by cases h
    | true=>
     refine aF du λ_=>aJ du λ_=>?_
     simp at i3
     refine cm (hD hm aB ht Fc h6 h7 hcm hb) ?_ ?_
     ·rintro _ _ ⟨d,a',rfl,rfl,Uq,lz,hd⟩
      have p0:=Uq.le
      have p1:=Uq.lt
      refine bG λhg=>bV hg (bV Xn ?_)
      have ix:∃ u,(T.map (om b))[(if a' - 1>0 then a' - 1 else 0).toNat]?=some (om b u)/\(1<=a'->T[(a' - 1).toNat]?=some u):=by
       have iy:(if a' - 1>0 then a' - 1 else 0).toNat<T.length:=by split<;>omega
       refine ⟨T[(if a' - 1>0 then a' - 1 else 0).toNat],by rw[fj,az iy];rfl,λh=>?_⟩
       rw[<- az iy]
       congr 1
       split<;>omega
      obtain ⟨u,u1,u2⟩:=ix
      refine eV Zw u1 (hn _ _ ⟨[],_,a',false,a',(om b u).pO,rfl,rfl,pg.trans Uq,qI,bn,qI,λz hz=>?_,?_⟩)
      ·exact ain
      ·by_cases e:a'=a
       ·subst e
        exact .dead ht ⟨h6,h7⟩ hcm
       ·obtain ⟨w,w1,w2⟩:=lz rfl
        have:=u2 aB
        rw[w1] at this;cases this
        exact .dec bn aB J5 w1 w2 λj w h1 h2=>by omega
     ·rintro _ y ⟨v,rfl,hy⟩
      have hy':=hy
      obtain ⟨y1,y2⟩:=y
      obtain ⟨a1,k1,e1,q0,q1⟩:=hy
      dsimp only at e1;subst e1
      exact aH (dy Xn (gm Zw (by dsimp only;simp;split<;>omega) λx _=>hf _ _ ⟨_,rfl,hy'⟩))
def ï (hC:PC s T b) (hL:Lx s T) (hE:E=[]\/E=[125]) {a0:Int} (hD:∀ {m:Nat->Nat} {a:Int} {t:aC},bL m->0<=a->T[a.toNat]?=some t->t.aq≠0->t.aq≠6->t.aq≠7->Z t [44]=false->Z t [125]=false->LK (fy n c (H s T a b false none)) (λi=>cd (m i) c (RX s T b a false)) (VC s T b a) (WC s T b)) (hX:∀ {m:Nat->Nat} {a:Int} {t:aC},bL m->0<=a->T[a.toNat]?=some t->Ed t->Ev (λi=>cd (m i) c (RX s T b a false)) (λr=>FS s T b (t.cN+b) r.2) di) (hm:bL m) (h0:0<=a0) (h1:a0<T.length) {lead:List ByS} (Tu:(lead.length:Int)<=a0+1) (Ji:∀ x,x∈lead->x.length<=65536) :
  LK (iN n lead c (H s T a0 b false none)) (λi=>et (m i) c lead E (RX s T b a0 false)) (VD2 s T b a0 E) (î s T b):=by
 obtain ⟨body,h1',_,h3⟩:=SD hC hL hE hD hX
 rw[h1']
 exact h3 n hm h0 h1 Tu Ji
end
def clB (n:Nat) (p0:ah) (WW:Int×Int->aI (Int×ah)) (v5:Int×Int):aI (Int×ah):=
 br (decide (v5.2<(List.length p0.l:Int))) (jn (λ(v12:Int)=>el p0.l v5.2 λx17=>ag (jU n x17 [([41]:ByS),([93]:ByS),([125]:ByS)]) λy21=>br y21 (gd (cD (v12 - 1)) (br ((v12 - 1)==0) (.ok (v5.2,p0)) (gd (cD (v5.2+1)) (WW (v12 - 1,v5.2+1))))) (br (v12==0) (.ok (v5.2,p0)) (gd (cD (v5.2+1)) (WW (v12,v5.2+1))))) λj13=>el p0.l v5.2 λx33=>ag (jU n x33 [([40]:ByS),([91]:ByS),([123]:ByS)]) λy37=>br y37 (gd (cD (v5.1+1)) (j13 (v5.1+1))) (j13 (v5.1))) (.ok ((-1),p0))
section
variable {T:List aC} {m:Nat->Nat} {x:ah}
variable {c:Int}
def adN:dl t=(if Bt t [[40],[91],[123]]=true then 1 else if Bt t [[41],[93],[125]]=true then -1 else 0):=by
 by_cases h5:t.aq=5
 ·unfold dl Bt;rw[aL h5];have h5':(t.aq==5)=true:=by simpa using h5
  simp only[h5',pU,List.contains_iff_mem,cb,cn,or_false]
 rw[GW h5];have h5':(t.aq==5)=false:=by simpa using h5
 simp[Bt,h5']
variable {Q:Int×ah->Prop}
def C1 (hm:bL m) (hC:PC s T b) {i v:Int} (h0:0<=i) (ht:T[i.toNat]?=some t) (hv:-100000<=v) (hv2:v<=100000) (hx:x.l=T.map (om b)) {next:Nat->Int×Int->aI (Int×ah)} (hq:v+dl t=0->Q (i,x)) (hn:v+dl t≠0->Ev (λj=>next j (v+dl t,i+1)) Q di):Ev (λj=>clB (m j) x (next j) (v,i)) Q di:=by
 unfold clB;have hlen:=hC.oF;have iy:=(an.1 ht).1;have Qo:x.l[i.toNat]?=some (om b t):=by rw[hx,fj,ht];rfl
 have PZ:(x.l.length:Int)=T.length:=by rw[hx];simp
 refine aR (λ_=>?_) λh=>ao eX h;have nine:Bt t [[40],[91],[123]]=true->Bt t [[41],[93],[125]]=false:=λh=>by
  obtain ⟨h1,h2⟩:=Hz h;simp at h2;obtain h2|h2|h2:=h2<;>simp[Bt,h2]
 have hd:=@adN t;refine bz (λw=>w=v+(if Bt t [[40],[91],[123]]=true then 1 else 0)) (λw hw=>?_) λj hj=>?_
 ·refine g h0 Qo (ai FW ?_);rintro _ rfl;refine aw (λh=>?_) λh=>?_
  ·have h1:Bt t [[40],[91],[123]]≠true:=λq=>by rw[nine q] at h;cases h
   rw[aE h1,aL h] at hd;rw[aE h1] at hw;have e:w - 1=v+dl t:=by omega
   rw[e];exact aH (b8 (λq=>aj (hq q)) λq=>aH (hn q))
  have e:w=v+dl t:=by
   rw[hd,hw];by_cases h1:Bt t [[40],[91],[123]]=true
   ·rw[aL h1,aL h1]
   rw[aE h1,aE h1,aE (by rw[h];decide)]
  rw[e];exact b8 (λq=>aj (hq q)) λq=>aH (hn q)
 refine g h0 Qo (ai FW ?_);rintro _ rfl;exact aw (λh=>aH (hj _ (by rw[aL h]))) λh=>hj _ (by rw[aE (by rw[h];decide)];simp)
def Yp.le (h:Yp T a c):a<=c:=by
 induction h with
 | nil=>exact J5
 | one=>omega
 | app _ _ h1 h2=>omega
 | pair _ _ _ _ _ _ ih=>omega
def age (hm:bL m) (hC:PC s T b) (hx:x.l=T.map (om b)) {d:Int} (h:Yp T c d):0<=c->∀ v:Int,1<=v->v<=c+1->(∀ {m':Nat->Nat},bL m'->Ev (λi=>iter (clB (m i) x) (m' i) (v,d)) Q di)->∀ {m':Nat->Nat},bL m'->Ev (λi=>iter (clB (m i) x) (m' i) (v,c)) Q di:=by
 have hlen:=hC.oF
 induction h with
 | nil=>exact λ_ v _ _ hq=>hq
 | @one a t h0 ht hd=>
  intro _ v h1 h2 hq m' hm'
  have:=(an.1 ht).1
  refine jX hm' (C1 hm hC h0 ht aB aB hx (λq=>by omega) λ_=>?_)
  rw[hd,Int.add_zero]
  exact hq hm'.pred
 | @app a c d h1 h2 ih1 ih2=>
  intro h0 v q1 q2 hq m' hm'
  have:=h1.le
  exact ih1 h0 v q1 q2 (λhm'=>ih2 aB v q1 aB hq hm') hm'
 | @pair a c t u h0 ht hd hb hu Hg ih=>
  intro _ v q1 q2 hq m' hm'
  have:=(an.1 ht).1
  have:=(an.1 hu).1
  have:=hb.le
  refine jX hm' (C1 hm hC h0 ht aB aB hx (λq=>by omega) λ_=>?_)
  rw[hd]
  refine ih aB (v+1) aB aB (λ{m2} hm2=>?_) hm'.pred
  refine jX hm2 (C1 hm hC aB hu aB aB hx (λq=>by omega) λ_=>?_)
  rw[Hg,show v+1 + -1=v by omega]
  exact hq hm2.pred
def ð (hm:bL m) (hC:PC s T b) {u:aC} (h0:0<=a) (ht:T[a.toNat]?=some t) (ho:dl t=1) (hb:Yp T (a+1) c) (hu:T[c.toNat]?=some u) (hd:dl u = -1):Ev (λi=>kM (m i) (RX s T b a k)) (λr=>r=(c,RX s T b a k)) di:=by
 show Ev (λi=>iter (clB (m i) (RX s T b a k)) (m i) (0,a)) _ _;have hlen:=hC.oF;have:=(an.1 hu).1;have:=hb.le;refine jX hm (C1 hm hC h0 ht aB aB rfl (λq=>by omega) λ_=>?_);rw[ho];refine age hm hC rfl hb aB 1 aB aB (λ{m2} hm2=>?_) hm.pred;exact jX hm2 (C1 hm hC aB hu aB aB rfl (λ_=>rfl) λq=>ao (by rw[hd];rfl) q)
def Yv (hm:bL m) (hC:PC s T b) (h0:0<=a):Ev (λi=>kM (m i) (RX s T b a k)) (λr=>r.2=RX s T b a k/\r.1<T.length) di:=by
 show Ev (λi=>iter (clB (m i) (RX s T b a k)) (m i) (0,a)) _ _;have hlen:=hC.oF;have hp:=hC.pos;refine bN hm (λ(v:Int×Int)=>0<=v.2/\ -v.2<=v.1/\v.1<=v.2) (λv=>(T.length - v.2).toNat) ⟨h0,eX,h0⟩ ?_;rintro ⟨v,i⟩ ⟨h1,h2,h3⟩ next hn;dsimp only at h1 h2 h3 hn ⊢;by_cases hi:i<T.length
 ·obtain ⟨t,ht⟩:∃ t,T[i.toNat]?=some t:=⟨_,az aB⟩;have hd:-1<=dl t/\dl t<=1:=by
   rw[adN];split
   ·omega
   split<;>omega
  refine C1 hm hC h1 ht aB aB rfl (λ_=>⟨rfl,hi⟩) λ_=>hn _ ⟨aB,aB,aB⟩ eX
 unfold clB;exact aR (λh=>ao h (by dsimp only;simp;omega)) λ_=>aj ⟨rfl,eX⟩
end
section
variable {T:List aC} {m:Nat->Nat}
def VP (s:ByS) (T:List aC) (b a:Int) (r:D×aK) (y:aK×ah):Prop:=VC s T b a (r.2,r.1) y
def Uv (m:Nat) (d:aK) (c:Bool) (x:ah):aI (aK×ah):=ag (ax m c x) λy7=>.ok ((aK.mk 3 d.eo d.ni d.B d.bT [y7.1] d.lZ d.J d.so d.lR d.cN),y7.2)
def ajO (m:Nat) (d:aK) (c:Bool) (x:ah):aI (aK×ah):=ag (eR m x) λy20=>ag (ax m c y20.2) λy22=>ag (cy m ([41]:ByS) y20.1 y22.2) λy24=>ag (aS m y24) λy26=>ag (eE m y22.1 y26.1 y26.2) λy27=>ag (cH m ([58]:ByS) y27.2) λy29=>ag (ax m false y29) λy32=>.ok ((aK.mk 7 d.eo d.ni d.B d.bT [y27.1,y32.1] d.lZ d.J d.so d.lR d.cN),y32.2)
def Yw (m:Nat) (c:Bool) (x:ah):aI (ak×ah):=ag (eR m x) λy43=>ag (ax m c y43.2) λy45=>ag (cy m [41] y43.1 y45.2) λy47=>.ok (y45.1,y47)
def abR (m:Nat) (d:aK) (y:ak×ah):aI (aK×ah):=ag (aS m y.2) λy26=>ag (eE m y.1 y26.1 y26.2) λy27=>ag (cH m ([58]:ByS) y27.2) λy29=>ag (ax m false y29) λy32=>.ok ((aK.mk 7 d.eo d.ni d.B d.bT [y27.1,y32.1] d.lZ d.J d.so d.lR d.cN),y32.2)
def WY (m:Nat) (d:aK) (c:Bool) (x:ah):ajO m d c x=ag (Yw m c x) (abR m d):=by
 unfold Yw;simp only[ZM,Aj];rfl
def SE (hm:bL m) (hC:PC s T b) {k:Bool} (nx:Nx T k a a t) (ht:Z t [40]=true) {Q:ak×ah->Prop} (h:∀ {m:Nat->Nat},bL m->Ev (λi=>Yw (m i) c (RX s T b a k)) Q di):Ev (λi=>dQ (m i) c (RX s T b a k)) Q di:=by
 refine bX (F:=λi=>dQ i c (RX s T b a k)) hm λm hm=>?_;show Ev (λi=>fB (m i) (ar (m i)) c (RX s T b a k)) _ _;unfold fB eS;refine ai Fw ?_;rintro _ rfl;obtain ⟨h1,h2⟩:=la ht;have kn:∀ x:Int,x≠5->((om b t).aq==x)=false:=λx h5=>by simp[om];omega
 dsimp only;rw[kn 1 dN,kn 2 dN,kn 3 dN,kn 4 dN];have st:∀ {x:ByS} {F G:Nat->aI (ak×ah)},x≠[40]->Ev G Q di->Ev (λi=>ag (ch (om b t) x) λy=>aI.br y (F i) (G i)) Q di:=λ{x F G} hx hG=>ai (AG b t _) λy hy=>by
  rw[show Z t x=false by simp[Z,h2,Ne.symm hx]] at hy;subst hy;exact aG hG
 refine aG (aG (aG (aG (st dN (st dN (ai (AG b t _) ?_))))));rintro _ rfl;rw[ht];exact aY (h hm)
variable {d:aK}
def agf (hm:bL m) (hC:PC s T b) {v:Int} {y:ak×ah} (h:FS s T b v y.2) (he:jd y.1):Ev (λi=>abR (m i) d y) (WC s T b (PF v)) di:=by
 unfold abR;exact ai FX λr hr=>ai (Kl hm hr he) λr hr=>ai (JU hm hC hr.1) λr hr=>ai aee λr hr=>aj Vb
def DW7 {k p pos:Int} {x y:ak} (h:V d) (hx:jd x) (hy:jd y):V (aK.mk k p d.ni d.B d.bT [x,y] d.lZ d.J d.so d.lR pos):=.mk bn h.l2 h.l3 h.l4 h.l5 h.l6 h.l7 GO (by simp;exact ⟨hx,hy⟩) h.d
def Uw (hC:PC s T b) (tL:∀ j,j<n->XF s T b (aZ j) ax) (hm:bL m) (h0:0<=a) (Tv:T[a.toNat]?=some t) (ht:Z t [40]=true) (hd:V d) :
  LK (gE n c (H s T a b false none) d) (λi=>eZ (m i) d c (RX s T b a false)) (VP s T b a) (WC s T b):=by
 obtain _|n:=n
 ·exact da
 refine jZ (F:=λi=>eZ i d c (RX s T b a false)) hm λm hm=>?_
 show LK (lh n (R n) c (H s T a b false none) d) (λi=>jc (m i) (ar (m i)) d c (RX s T b a false)) _ _
 unfold lh jc ji dS
 have nx:=uN h0 Tv
 have hlen:=hC.oF
 have iy:=(an.1 Tv).1
 refine mP (bj Fw (bj (AG b t [40]) ?_))
 rw[ht]
 refine aJ (λ_=>?_) du
 have P:∀ {m:Nat->Nat},bL m->LK (eg n c (H s T a b false none)) (λi=>Yw (m i) c (RX s T b a false)) (VB s T b false a) (WX s T b):=λhm=>LL hm hC (λj hj=>tL j aB) nx ht
 have mm:=ajG ht
 have s3:Z t [42]=false:=by
  obtain ⟨_,h2⟩:=la ht
  simp[Z,h2]
 show LK (ag (eg n c (H s T a b false none)) _) (λi=>ag (kM (m i) (RX s T b a false)) λy14=>jn (λ(Wx:Bool)=>br Wx (ajO (m i) d c y14.2) (Uv (m i) d c y14.2)) λj16=>br (decide (y14.1>=0)) (el y14.2.l y14.1 λx35=>ag (ch x35 ([41]:ByS)) λy39=>br y39 (gd (cD (y14.1+1)) (br (decide ((y14.1+1)<(List.length y14.2.l:Int))) (gd (cD (y14.1+1)) (el y14.2.l (y14.1+1) λx44=>ag (ch x44 ([58]:ByS)) λy48=>j16 (y48))) (j16 (false)))) (j16 (false))) (j16 (false))) _ _
 cases hq:eg n c (H s T a b false none) with
 | stuck=>exact da
 | ry p=>
  refine sW (ai (Yv hm hC h0) ?_)
  rintro ⟨v,_⟩ ⟨rfl,hv⟩
  dsimp only at hv ⊢
  have hp:=λ{m:Nat->Nat} (hm:bL m)=>(P hm).2 p hq
  obtain ⟨_,⟨w,hw,_⟩,_⟩:=(hp hm).get
  subst hw
  have hp':∀ {m:Nat->Nat},bL m->Ev (λi=>Yw (m i) c (RX s T b a false)) (λr=>FS s T b w r.2/\jd r.1) di:=λhm=>(hp hm).qh λy hy=>by
   obtain ⟨v',e,hy⟩:=hy
   cases e;exact hy
  refine bz (λ_=>True) (λWx _=>aw (λ_=>?_) λ_=>?_) λj hj=>?_
  ·simp only[WY]
   exact ai (hp' hm) λy hy=>agf hm hC hy.1 hy.2
  ·unfold Uv
   exact ai (HA hm hC ⟨nx,mm.1,mm.2.1,s3,λhm=>SE hm hC nx ht hp'⟩) λr hr=>aj ⟨w,rfl,hr.1⟩
  ·refine aR (λh=>?_) λ_=>hj _ trivial
   have h:v>=0:=h
   refine gm h (by simpa using hv) λx35 _=>ai DM λ_ _=>aw (λ_=>aH (aR (λh=>aH (gm aB h λ_ _=>ai DM λ_ _=>hj _ trivial)) λ_=>hj _ trivial)) λ_=>hj _ trivial
 | ok r=>
  obtain ⟨_,⟨x,a3,u,rfl,rfl,pg,hu,ho,hx⟩,_⟩:=((P hm).1 r hq).get
  have hp':∀ {m:Nat->Nat},bL m->Ev (λi=>Yw (m i) c (RX s T b a false)) (λy=>y=(x,RX s T b (a3+1) false)) di:=λhm=>((P hm).1 _ hq).qh λy hy=>by
   obtain ⟨x',a',u',e,rfl,_⟩:=hy
   simp only[rH,D.mk.injEq] at e
   obtain ⟨rfl,_,_,e,_⟩:=e
   rw[show a'=a3 by omega]
  obtain ⟨pp,lz⟩:=nx.pair hC (BW (.inl ht)) pg hu (BX (.inl ho))
  have p0:=pg.le
  have p1:=pp.lt
  obtain ⟨t2,ht2⟩:∃ t2,T[(a3+1).toNat]?=some t2:=⟨_,az aB⟩
  have n2:=uN aB ht2
  have hu':(T.map (om b))[a3.toNat]?=some (om b u):=by rw[fj,hu];rfl
  have ht2':(T.map (om b))[(a3+1).toNat]?=some (om b t2):=by rw[fj,ht2];rfl
  refine bj (ð hm hC h0 Tv (BW (.inl ht)) pg.bal hu (BX (.inl ho))) (mP ?_)
  dsimp only
  refine aJ (λ_=>eV aB hu' (bj (AG b u [41]) ?_)) λh=>ao qO aB
  rw[ho]
  refine aJ (λ_=>bV zR (aJ (λ_=>bV zR (eV aB ht2' (bj (AG b t2 [58]) ?_))) λh=>ao qO qI)) du
  rw[Aj]
  refine fJ n2 (ln ?_)
  cases hc:Z t2 [58] with
  | true=>
   have k2:=(la hc).1
   have l2:=n2.Cp hC aB
   refine aF (λ_=>aJ (λ_=>?_) du) du
   simp only[WY]
   refine bj (hp' hm) ?_
   unfold abR
   refine rh n2 (bj (jl hm hC n2) (LK.LF hm aB p1 hx (λe' Md=>?_) λv r xp HJ=>?_))
   ·refine bG λ_=>bj (NZ hm hC n2 hc) (cm (tL n aB hm eX l2 .no) ?_ ?_)
    ·rintro _ _ ⟨e,a4,rfl,rfl,LM,z4,he⟩
     exact b9 ⟨_,a4,rfl,rfl,(pp.trans (n2.read hC aB (Cy hc dN))).trans LM,z4,DW7 hd Md he⟩
    ·exact Ų
   ·exact ai (JU hm hC xp) λr hr=>ai aee λr hr=>aj Vb
  | false=>
   refine aF du λ_=>aJ du λ_=>?_
   unfold Uv
   refine cm (tL n aB hm eX p1 (.inr ⟨x,a,t,rfl,hx,rfl,lz,h0,eX,rfl,Tv,ht,λhm=>SE hm hC nx ht hp'⟩)) ?_ ?_
   ·rintro _ _ ⟨e,a4,rfl,rfl,LM,z4,he⟩
    exact b9 ⟨_,a4,rfl,rfl,pp.trans LM,z4,hd.w.one he⟩
   ·exact Ų
end
section
variable {T:List aC} {m:Nat->Nat} {q:Option ak}
variable {w:aC}
def xc (hC:PC s T b) (hw:T[(a+j).toNat]?=some w) (h0:0<=a+j):Tk (c8 j (H s T a b k q)) (w,H s T a b k q):=by
 unfold c8 ji;have iy:=(an.1 hw).1;refine dW λ_=>dW λ_=>k8 λx _ hx=>?_;have e:(if (List.length (H s T a b k q).oh:Int) - 1<(H s T a b k q).bO+j then (List.length (H s T a b k q).oh:Int) - 1 else (H s T a b k q).bO+j)=a+j:=by
  dsimp only;rw[aE aB]
 rw[e] at hx;have hx:T[(a+j).toNat]?=some x:=hx;rw[hw] at hx;cases hx;exact ll
def Ai (hC:PC s T b) (hw:T[(a+j).toNat]?=some w) (h0:0<=a+j):Ev (λ_=>cM j (RX s T b a k)) (λr=>r=(om b w,RX s T b a k)) di:=by
 unfold cM ji;have iy:=(an.1 hw).1;have hlen:=hC.oF;have Mc:(T.map (om b))[(a+j).toNat]?=some (om b w):=by rw[fj,hw];rfl
 exact dy Xn (aR (λ_=>dy Xn (g h0 Mc uY)) λh=>ao (by dsimp only;simp;omega) h)
def Pw {a':Int} (hm:bL m) (hC:PC s T b) (h0:0<=a) (nx:Nx T true (a+j) a' w) (hj:0<=j:=by omega):Ev (λi=>gD (m i) j (RX s T b a k)) (λr=>r=(a' - a,RX s T b a k)) di:=by
 unfold gD;have hlen:=hC.oF;have g1:=nx.le;have g2:=nx.lt;have g0:=nx.a0;refine bN hm (λ(v:ah×Int)=>v.1=RX s T b a k/\j<=v.2/\v.2<=a' - a) (λv=>(a' - a - v.2).toNat) IF ?_;rintro ⟨_,v⟩ ⟨rfl,h1,h2⟩ next hn;dsimp only at h1 h2 hn ⊢;by_cases e:v=a' - a
 ·subst e;refine ai (Ai hC (w:=w) (by rw[show a+(a' - a)=a' by omega];exact nx.tk) aB) ?_;rintro _ rfl;exact aw (λh=>ao HM (nx.k7 rfl)) λ_=>aj rfl
 obtain ⟨u,hu⟩:∃ u,T[(a+v).toNat]?=some u:=⟨_,az aB⟩;refine ai (Ai hC hu aB) ?_;rintro _ rfl;have h7:=nx.bt (a+v).toNat u aB aB hu;exact aw (λ_=>aH (hn _ IF eX)) λh=>ao h (by simp[om,h7])
def Cb (T:List aC) (a j:Int) (z:Bool) (N:Int):Prop:=∃ w,Nx T true (a+j) (a+N) w/\((z=false/\Z w [93]=false)\/(Z w [93]=true/\∃ w2,T[(a+N+1).toNat]?=some w2/\Z w2 [58]=z))
def adO (hC:PC s T b) (h0:0<=a+j) (h1:a+j<T.length):∃ z N,Cb T a j z N:=by
 obtain ⟨a',w,nx⟩:=qA hC true h0 h1;have e:a+(a' - a)=a':=by omega
 cases hw:Z w [93] with
 | false=>exact ⟨false,a' - a,w,by rw[e];exact nx,.inl ⟨rfl,hw⟩⟩
 | true=>
  have:=nx.Cp hC (by have:=(la hw).1;omega)
  have:=nx.ge
  obtain ⟨w2,h2⟩:∃ w2,T[(a'+1).toNat]?=some w2:=⟨_,az aB⟩
  exact ⟨Z w2 [58],a' - a,w,by rw[e];exact nx,.inr ⟨hw,w2,by rw[e];exact h2,rfl⟩⟩
inductive Pk (T:List aC) (b a:Int):ByS->Int->Int->Prop
 | str {u:aC} (hu:T[(a+1).toNat]?=some u) (hw:D1 u [115,116,114,105,110,103]=true):Pk T b a [46,42] (-1) 2
 | re {u v:aC} (hu:T[(a+1).toNat]?=some u) (ho:Z u [61,126]=true) (hv:T[(a+2).toNat]?=some v) (hk:v.aq=3):Pk T b a v.bM (v.cN+b) 3
inductive Pt (T:List aC) (b a:Int):Option (ByS×Int×Int)->Prop
 | no:Pt T b a none
 | yes {l:ByS} {p j N:Int} (hk:Pk T b a l p j) (hc:Cb T a j true N):Pt T b a (some (l,p,N))
def ñ (hC:PC s T b) {N:Int} {z:Bool} (h0:0<=a) (h:Cb T a j z N):Tk (iter (λUx (Uy:D×Int)=>ag (c8 Uy.2 Uy.1) λy18=>br (y18.1.aq==7) (gd (cD (Uy.2+1)) (Ux (y18.2,Uy.2+1))) (ag (c8 Uy.2 y18.2) λy22=>ag (ez y22.1 ([93]:ByS)) λy23=>br y23 (gd (cD (Uy.2+1)) (ag (c8 (Uy.2+1) y22.2) λy26=>ag (ez y26.1 ([58]:ByS)) λy27=>.ok (y27,y26.2))) (.ok (false,y22.2)))) n (H s T a b k q,j)) (z,H s T a b k q):=by
 obtain ⟨w,nx,hw⟩:=h;have g1:=nx.le;have g2:=nx.lt;have g0:=nx.a0;have tb:∀ {β γ:Type} {x:aI β} {c:β} {f:β->aI γ} {d:γ},Tk x c->Tk (f c) d->Tk (ag x f) d:=λh h'=>by
  exact Vy
 refine oS (λ(v:D×Int)=>v.1=H s T a b k q/\j<=v.2/\v.2<=N) ?_ n IF;rintro ⟨_,v⟩ ⟨rfl,h1,h2⟩ next hn;dsimp only at h1 h2 hn ⊢;by_cases e:v=N
 ·subst e;refine tb (xc hC nx.tk aB) (cz (λh=>ao jg (nx.k7 rfl)) λ_=>tb (xc hC nx.tk aB) ?_);rw[GH,Aj];obtain ⟨rfl,hw⟩|⟨hw,w2,GA,hz⟩:=hw
  ·rw[hw];exact ll
  rw[hw];refine dW λ_=>tb (xc hC (w:=w2) (by rw[<- GA];congr 2;omega) aB) ?_;rw[GH,Aj,hz];exact ll
 obtain ⟨u,hu⟩:∃ u,T[(a+v).toNat]?=some u:=⟨_,az aB⟩;refine tb (xc hC hu aB) (cz (λ_=>dW λ_=>hn _ IF) λh=>?_);have h7:=nx.bt (a+v).toNat u aB aB hu;simp[h7] at h
def SF (hC:PC s T b) (hL:Lx s T) {t:aC} (h0:0<=a) (Tv:T[a.toNat]?=some t) (ht:Z t [91]=true) :
  ∃ z,Pt T b a z/\(∀ {n:Nat} {q:Option ak},Tk (fL n (H s T a b false q)) (z.isSome,H s T a b false q))/\
   ∀ {m:Nat->Nat},bL m->Ev (λi=>nK (m i) (RX s T b a false)) (λr=>r=((z.map (·.1)).getD [],(z.map (·.2.1)).getD 0,(z.map (·.2.2+2)).getD 0,RX s T b a false)) di:=by
 have nx:=uN h0 Tv
 have hlen:=hC.oF
 have l1:=nx.Cp hC Xs
 obtain ⟨u,hu⟩:∃ u,T[(a+1).toNat]?=some u:=⟨_,az aB⟩
 have hu7:u.aq≠7:=λh=>by
  have:=(hL.br a.toNat t u Tv (by rw[<- hu];congr 1;omega) h).1
  rw[ht] at this;cases this
 have nu:Nx T true (a+1) (a+1) u:=⟨aB,dR _,hu,λ_=>hu7,λ_=>rfl,λ_ _ _ _=>by omega⟩
 have tb:∀ {β γ:Type} {x:aI β} {c:β} {f:β->aI γ} {d:γ},Tk x c->Tk (f c) d->Tk (ag x f) d:=λh h'=>by
  exact Vy
 have L:∀ {z:Bool},(∀ {n:Nat} {q:Option ak},Tk (jn (λ(v9:D×Int)=>iter (λUx (Uy:D×Int)=>ag (c8 Uy.2 Uy.1) λy18=>br (y18.1.aq==7) (gd (cD (Uy.2+1)) (Ux (y18.2,Uy.2+1))) (ag (c8 Uy.2 y18.2) λy22=>ag (ez y22.1 ([93]:ByS)) λy23=>br y23 (gd (cD (Uy.2+1)) (ag (c8 (Uy.2+1) y22.2) λy26=>ag (ez y26.1 ([58]:ByS)) λy27=>.ok (y27,y26.2))) (.ok (false,y22.2)))) n (v9.1,v9.2)) λj10=>br (!D1 u [115,116,114,105,110,103]) (br (!Z u [61,126]) (.ok (false,H s T a b false q)) (ag (c8 2 (H s T a b false q)) λy38=>br (y38.1.aq !=3) (.ok (false,y38.2)) (j10 (y38.2,3)))) (j10 (H s T a b false q,2))) (z,H s T a b false q))->∀ {n:Nat} {q:Option ak},Tk (fL n (H s T a b false q)) (z,H s T a b false q):=by
  intro z hz n q
  unfold fL pB
  obtain e|e:=tT (n:=n) (s:=s) (b:=b) (q:=q) nx
  ·rw[e];exact .inl rfl
  rw[e,Aj]
  dsimp only
  rw[GH,Aj,ht]
  refine tb (xc hC hu aB) ?_
  rw[LC,Aj]
  have Jw:=hz (n:=n) (q:=q)
  cases hw:D1 u [115,116,114,105,110,103] with
  | true=>rw[hw] at Jw;exact Jw
  | false=>
   rw[hw] at Jw
   refine tb (xc hC hu aB) ?_
   rw[GH,Aj]
   exact Jw
 have R:∀ {Q:ByS×Int×Int×ah->Prop},(∀ {m:Nat->Nat},bL m->Ev (λi=>br (Z u [61,126]) (gd (cD (a+1 - a+1)) (ag (gD (m i) (a+1 - a+1) (RX s T b a false)) λy37=>ag (cM y37.1 y37.2) λy40=>br (y40.1.aq !=3) (.ok (([]:ByS),0,0,y40.2)) (ag (cM y37.1 y40.2) λy44=>ag (cM y37.1 y44.2) λy45=>(λ(v12:ah×Int×ByS×Int)=>gd (cD (v12.2.1+1)) (ag (gD (m i) (v12.2.1+1) v12.1) λy17=>ag (cM y17.1 y17.2) λy20=>ag (ch y20.1 ([93]:ByS)) λy21=>br (!y21) (.ok (([]:ByS),0,0,y20.2)) (gd (cD (y17.1+1)) (ag (cM (y17.1+1) y20.2) λy25=>ag (ch y25.1 ([58]:ByS)) λy26=>br (!y26) (.ok (([]:ByS),0,0,y25.2)) (gd (cD (y17.1+2)) (.ok (v12.2.2.1,v12.2.2.2,y17.1+2,y25.2))))))) (y45.2,y37.1,y44.1.bM,y45.1.cN)))) (br (!D1 u [115,116,114,105,110,103]) (.ok (([]:ByS),0,0,RX s T b a false)) ((λ(v12:ah×Int×ByS×Int)=>gd (cD (v12.2.1+1)) (ag (gD (m i) (v12.2.1+1) v12.1) λy17=>ag (cM y17.1 y17.2) λy20=>ag (ch y20.1 ([93]:ByS)) λy21=>br (!y21) (.ok (([]:ByS),0,0,y20.2)) (gd (cD (y17.1+1)) (ag (cM (y17.1+1) y20.2) λy25=>ag (ch y25.1 ([58]:ByS)) λy26=>br (!y26) (.ok (([]:ByS),0,0,y25.2)) (gd (cD (y17.1+2)) (.ok (v12.2.2.1,v12.2.2.2,y17.1+2,y25.2))))))) (RX s T b a false,a+1 - a,([46,42]:ByS),(-1))))) Q di)->∀ {m:Nat->Nat},bL m->Ev (λi=>nK (m i) (RX s T b a false)) Q di:=by
  intro Q hQ m hm
  unfold nK
  refine ai (Ai hC (w:=t) (by rw[Int.add_zero];exact Tv) aB) ?_
  rintro _ rfl
  refine ai (AG b t [91]) ?_
  rintro _ rfl
  rw[ht]
  refine aG (ai (Pw hm hC h0 nu) ?_)
  rintro _ rfl
  have ea:a+(a+1 - a)=a+1:=by omega
  refine cT (ai (Ai hC (w:=u) (by dsimp only;rw[ea];exact hu) eX) ?_)
  rintro _ rfl
  refine ai (AG b u [61,126]) ?_
  rintro _ rfl
  have hq:=hQ hm
  cases ho:Z u [61,126] with
  | true=>rw[ho] at hq;exact hq
  | false=>
   rw[ho] at hq
   refine aG (ai (Ai hC (w:=u) (by dsimp only;rw[ea];exact hu) eX) ?_)
   rintro _ rfl
   refine ai (oJ (r:=.ok (D1 u [115,116,114,105,110,103])) (N:=0) (λ_ _=>LD b u _) (Q:=λr=>r=D1 u [115,116,114,105,110,103]) rfl) ?_
   rintro _ rfl
   exact hq
 have fin:∀ {m:Nat->Nat} {j N p:Int} {l:ByS} {z:Bool},bL m->1<=j->j<=3->Cb T a j z N->Ev (λi=>(λ(v12:ah×Int×ByS×Int)=>gd (cD (v12.2.1+1)) (ag (gD (m i) (v12.2.1+1) v12.1) λy17=>ag (cM y17.1 y17.2) λy20=>ag (ch y20.1 ([93]:ByS)) λy21=>br (!y21) (.ok (([]:ByS),0,0,y20.2)) (gd (cD (y17.1+1)) (ag (cM (y17.1+1) y20.2) λy25=>ag (ch y25.1 ([58]:ByS)) λy26=>br (!y26) (.ok (([]:ByS),0,0,y25.2)) (gd (cD (y17.1+2)) (.ok (v12.2.2.1,v12.2.2.2,y17.1+2,y25.2))))))) (RX s T b a false,j - 1,l,p)) (λr=>r=if z=true then (l,p,N+2,RX s T b a false) else (([]:ByS),0,0,RX s T b a false)) di:=by
  rintro m j N p l z hm j1 j2 ⟨w,nw,hw⟩
  have g1:=nw.lt
  dsimp only
  refine aH (ai (Pw hm hC h0 (j:=j - 1+1) (by rw[show a+(j - 1+1)=a+j by omega];exact nw)) ?_)
  rintro _ rfl
  dsimp only
  rw[show a+N - a=N by omega]
  refine ai (Ai hC nw.tk nw.ge) ?_
  rintro _ rfl
  refine ai (AG b w [93]) ?_
  rintro _ rfl
  obtain ⟨rfl,hw⟩|⟨hw,w2,GA,hz⟩:=hw
  ·rw[hw]
   exact aY uY
  ·rw[hw]
   have:=nw.ge
   refine aG (aH (ai (Ai hC (w:=w2) (by rw[<- GA];congr 2;omega) aB) ?_))
   rintro _ rfl
   refine ai (AG b w2 [58]) ?_
   rintro _ rfl
   rw[hz]
   cases z with
   | true=>exact aG (aH uY)
   | false=>exact aY uY
 cases hw:D1 u [115,116,114,105,110,103] with
 | true=>
  have k1:=(Ep hw).1
  have l2:=nu.Cp hC aB
  have ho:Z u [61,126]=false:=by simp[Z,k1]
  obtain ⟨z,N,hc⟩:=adO hC (a:=a) (j:=2) aB aB
  refine ⟨if z=true then some ([46,42],-1,N) else none,?_,?_,?_⟩
  ·cases z with
   | true=>exact .yes (.str hu hw) hc
   | false=>exact .no
  ·refine L (z:=Option.isSome (if z=true then some ([46,42],-1,N) else none)) λ{n q}=>?_
   rw[hw,show Option.isSome (if z=true then some (([46,42]:ByS),(-1:Int),N) else none)=z by cases z<;>rfl]
   exact ñ hC h0 hc
  ·refine R λ{m} hm=>?_
   rw[hw,ho,show a+1 - a=2 - 1 by omega]
   refine aG (aG ((fin hm dN dN hc).qh λr hr=>?_))
   rw[hr]
   cases z<;>rfl
 | false=>
  cases ho:Z u [61,126] with
  | false=>
   refine ⟨none,.no,L (z:=false) λ{n q}=>?_,R λ{m} hm=>?_⟩
   ·rw[hw,ho];exact ll
   ·rw[hw,ho];exact aG (aY uY)
  | true=>
   have k1:=(la ho).1
   have l2:=nu.Cp hC aB
   obtain ⟨v,hv⟩:∃ v,T[(a+2).toNat]?=some v:=⟨_,az aB⟩
   have hv7:v.aq≠7:=λh=>by
    have:=(hL.br (a+1).toNat u v hu (by rw[<- hv];congr 1;omega) h).2
    rw[ho] at this;cases this
   have nv:Nx T true (a+2) (a+2) v:=⟨aB,dR _,hv,λ_=>hv7,λ_=>rfl,λ_ _ _ _=>by omega⟩
   by_cases h3:v.aq=3
   ·have h3':(v.aq !=3)=false:=by simp[h3]
    have l3:=nv.Cp hC aB
    obtain ⟨z,N,hc⟩:=adO hC (a:=a) (j:=3) aB aB
    refine ⟨if z=true then some (v.bM,v.cN+b,N) else none,?_,?_,?_⟩
    ·cases z with
     | true=>exact .yes (.re hu ho hv h3) hc
     | false=>exact .no
    ·refine L (z:=Option.isSome (if z=true then some (v.bM,v.cN+b,N) else none)) λ{n q}=>?_
     rw[hw,ho,show Option.isSome (if z=true then some (v.bM,v.cN+b,N) else none)=z by cases z<;>rfl]
     refine tb (xc hC hv aB) ?_
     dsimp only
     rw[h3']
     exact ñ hC h0 hc
    ·refine R λ{m} hm=>?_
     rw[ho,show a+1 - a+1=2 by omega]
     refine aY (dy dN (ai (Pw hm hC h0 (j:=2) nv) ?_))
     rintro _ rfl
     have e2:a+(a+2 - a)=a+2:=by omega
     refine ai Vo ?_
     rintro _ rfl
     refine aw (λh=>ao h (by simp[om,h3])) λ_=>ai Vo ?_
     rintro _ rfl
     refine ai Vo ?_
     rintro _ rfl
     dsimp only [om]
     rw[show a+2 - a=3 - 1 by omega]
     refine (fin hm dN dN hc).qh λr hr=>?_
     rw[hr]
     cases z<;>rfl
   ·have h3':(v.aq !=3)=true:=by simpa using h3
    refine ⟨none,.no,L (z:=false) λ{n q}=>?_,R λ{m} hm=>?_⟩
    ·rw[hw,ho]
     refine tb (xc hC hv aB) ?_
     dsimp only
     rw[h3']
     exact ll
    ·rw[ho,show a+1 - a+1=2 by omega]
     refine aY (dy dN (ai (Pw hm hC h0 (j:=2) nv) ?_))
     rintro _ rfl
     have e2:a+(a+2 - a)=a+2:=by omega
     refine ai Vo ?_
     rintro _ rfl
     exact aw Vr λh=>ao HM h3
end
def asB (b:Bool) (x y:aI α) (f:α->aI β):ag (aI.br b x y) f=aI.br b (ag x f) (ag y f):=by cases b<;>rfl
def asG (p:Prop) [Decidable p] (x:aI α) (f:α->aI β):ag (aI.gd p x) f=aI.gd p (ag x f):=by
 unfold aI.gd;split<;>rfl
section
variable {T:List aC} {m:Nat->Nat}
variable {N:Int}
def Cb.pg (hC:PC s T b) (h0:0<=a) (Tv:T[a.toNat]?=some t) (ht:Z t [91]=true) (hp:Pg T (a+1) (a+j)) (hc:Cb T a j true N) :
  Pg T a (a+N+2)/\Lz T false (a+N+2)/\∃ w w2,Nx T true (a+j) (a+N) w/\Z w [93]=true/\T[(a+N+1).toNat]?=some w2/\Z w2 [58]=true:=by
 obtain ⟨w,nw,hw⟩:=hc
 obtain ⟨h,_⟩|⟨hw,w2,GA,hz⟩:=hw
 ·cases h
 have g0:=nw.ge
 obtain ⟨p1,_⟩:=(uN h0 Tv).pair hC (BW (.inr (.inl ht))) (hp.trans nw.pg) nw.tk (BX (.inr (.inl hw)))
 have n2:=uN aB GA
 have k2:=(la hz).1
 refine ⟨?_,?_,w,w2,nw,hw,GA,hz⟩
 ·rw[show a+N+2=a+N+1+1 by omega]
  exact p1.trans (n2.read hC aB (Cy hz dN))
 ·rw[show a+N+2=a+N+1+1 by omega]
  exact n2.lz aB
def Uz (hC:PC s T b) (hL:Lx s T) (tL:∀ j,j<n->XF s T b (aZ j) ax) (hRe:∀ {n:Nat} {m:Nat->Nat} {x:ByS},bL m->LK (pa n x) (λi=>lL (m i) x) (λy z=>(z.2.eU=0↔y.2.eU=0)) (λ_ _=>False)) (hT:∀ {m:Nat->Nat},bL m->Ev (λi=>lL (m i) [46,42]) (λ_=>True) di) {p:Int} {d:aK} {l:ByS} (hm:bL m) (h0:0<=a) (Tv:T[a.toNat]?=some t) (ht:Z t [91]=true) (hd:V d) (hk:Pk T b a l p j) (hc:Cb T a j true N) :
  LK (gG n c (H s T a b false none) d) (λi=>jn (λ(v9:Unit)=>gd (cD (a+(N+2))) (ag (ax (m i) c (RX s T b (a+(N+2)) false)) λy17=>.ok ((aK.mk 2 d.eo l d.B d.bT [y17.1] d.lZ d.J d.so d.lR d.cN),y17.2))) λj10=>ag (lL (m i) l) λy20=>br (decide (p>=0)) (br (y20.2.eU !=0) (ag (bJ p (RX s T b a false)) λy25=>.ok (d,y25)) (j10 ())) (j10 ())) (VP s T b a) (WC s T b):=by
 obtain _|n:=n
 ·exact da
 show LK (jM n (R n) c (H s T a b false none) d) _ _ _
 unfold jM nt nr ji pM dS pK pB
 have nx:=uN h0 Tv
 have hlen:=hC.oF
 have l1:=nx.Cp hC Xs
 refine gR (Sw nx ht) (mP ?_)
 simp only[aI.jn,ZM,asB,asG,Aj]
 have go:∀ {F:Nat->aI (aK×ah)} {w w2:aC} (h:Pg T a (a+N+2)) (hz:Lz T false (a+N+2)) (nw:Nx T true (a+j) (a+N) w) (hw:Z w [93]=true) (GA:T[(a+N+1).toNat]?=some w2) (ho:Z w2 [58]=true),
   LK (ag (cC n [93] (H s T (a+j) b true none)) λy6=>gd (cD (y6.bO+1)) (ag (cW n ([58]:ByS) (D.mk y6.cP y6.oh (y6.bO+1) y6.base false y6.iO)) λy10=>ag (aZ n c y10) λy11=>.ok (y11.2,(aK.mk 2 d.eo l d.B d.bT [y11.1] d.lZ d.J d.so d.lR d.cN))))
    (λi=>gd (cD (a+(N+2))) (ag (ax (m i) c (RX s T b (a+(N+2)) false)) λy17=>.ok ((aK.mk 2 d.eo l d.B d.bT [y17.1] d.lZ d.J d.so d.lR d.cN),y17.2))) (VP s T b a) (WC s T b):=by
  intro F w w2 h hz nw hw GA ho
  have g0:=nw.ge
  have g1:=h.lt
  refine gR (J2 nw hw) (bG λ_=>gR (Sw (uN eX GA) ho) (bV zR ?_))
  rw[show a+(N+2)=a+N+1+1 by omega]
  rw[show a+N+2=a+N+1+1 by omega] at h
  refine cm (tL n aB hm eX h.lt .no) ?_ ?_
  ·rintro _ _ ⟨e,a4,rfl,rfl,LM,z4,he⟩
   exact b9 ⟨_,a4,rfl,rfl,h.trans LM,z4,hd.w.one he⟩
  ·exact Ų
 cases hk with
 | @str u hu hw=>
  have k1:=(Ep hw).1
  have nu:Nx T true (a+1) (a+1) u:=ac0
  have pu:Pg T (a+1) (a+2):=by
   rw[show a+2=a+1+1 by omega]
   exact nu.read hC aB IG
  obtain ⟨h,hz,w,w2,nw,hw,GA,ho⟩:=Cb.pg hC h0 Tv ht pu hc
  refine gR (å nu (by simp[Z,k1])) (aF du λ_=>?_)
  refine yJ (hT hm) λz _=>aJ du λ_=>bG λ_=>?_
  have:=go (F:=λ_=>.stuck) h hz nw hw GA ho
  rw[show a+2=a+1+1 by omega] at this
  exact this
 | @re u v hu hou hv hkv=>
  have k1:=(la hou).1
  have nu:Nx T true (a+1) (a+1) u:=ac0
  have GU:T[(a+1+1).toNat]?=some v:=by rw[<- hv];congr 2;omega
  have nv:Nx T true (a+1+1) (a+1+1) v:=⟨aB,dR _,GU,λ_=>by omega,λ_=>rfl,λ_ _ _ _=>by omega⟩
  have pu:Pg T (a+1) (a+3):=by
   rw[show a+3=a+1+1+1 by omega]
   exact (nu.read hC aB (Cy hou dN)).trans (nv.read hC aB IG)
  obtain ⟨h,hz,w,w2,nw,hw,GA,ho⟩:=Cb.pg hC h0 Tv ht pu hc
  have vp:=(hC.tok hv).1
  have:=hC.b0
  refine sg nu (λ_=>aF (λ_=>?_) du) λh=>by rw[hou] at h;cases h
  refine fJ nv (cm (hRe hm) (λy z hyz=>?_) λ_ _ h=>h.elim)
  refine aJ (λ_=>?_) λh=>ao qO aB
  refine aF (λhy=>kV nv ?_) λhy=>?_
  ·have hz:(z.2.eU !=0)=true:=by
    simp only[bne_iff_ne,ne_eq] at hy ⊢
    exact λh=>hy (hyz.1 h)
   rw[hz]
   exact aY (bC (a:=RF s T b a false (v.cN+b)) rfl (aj ⟨_,rfl,nx.fs⟩))
  ·have hz:(z.2.eU !=0)=false:=by
    simp only[bne_eq_false_iff_eq] at hy ⊢
    exact hyz.2 hy
   rw[hz]
   refine aJ du λ_=>bG λ_=>?_
   have:=go (F:=λ_=>.stuck) h vG nw hw GA ho
   rw[show a+3=a+1+1+1 by omega] at this
   exact this
def ò (hC:PC s T b) (tL:∀ j,j<n->XF s T b (aZ j) ax) {pos:Int} (hm:bL m) (h0:0<=a) (Tv:T[a.toNat]?=some t) (hk:t.aq=3\/t.aq=1) :
  LK (iL n c (H s T a b false none) (aK.mk 0 0 [] [] [] [] [] [] [] [] pos)) (λi=>ag (P (m i) (RX s T b a false)) λy14=>jn (λ(Wx:ah×aK)=>ag (cH (m i) ([58]:ByS) Wx.1) λy19=>ag (ax (m i) c y19) λy20=>.ok ((aK.mk Wx.2.aq Wx.2.eo Wx.2.ni Wx.2.B Wx.2.bT [y20.1] [] [] [] Wx.2.lR Wx.2.cN),y20.2)) λj16=>ag (aS (m i) y14.2) λy23=>ag (ch y23.1 ([63]:ByS)) λy24=>br y24 (ag (P (m i) y23.2) λy27=>j16 (y27.2,(aK.mk 1 3 t.bM [] [] [] [] [] [] [] pos))) (ag (aS (m i) y23.2) λy29=>ag (ch y29.1 ([33]:ByS)) λy30=>br y30 (ag (P (m i) y29.2) λy33=>j16 (y33.2,(aK.mk 1 2 t.bM [] [] [] [] [] [] [] pos))) (j16 (y29.2,(aK.mk 1 1 t.bM [] [] [] [] [] [] [] pos))))) (VP s T b a) (WC s T b):=by
 obtain _|n:=n
 ·exact da
 show LK (kR n (R n) c (H s T a b false none) _) _ _ _
 unfold kR pM dS
 have nx:=uN h0 Tv
 have hlen:=hC.oF
 have l1:=nx.Cp hC aB
 have pr:=nx.read hC aB IG
 refine fJ nx (bG λ_=>bj (oI hm hC nx aB) ?_)
 obtain ⟨u,hu⟩:∃ u,T[(a+1).toNat]?=some u:=⟨_,az aB⟩
 have nu:=uN aB hu
 refine yL (λv w=>∃ e a',v=(H s T a' b false none,e)/\w=(RX s T b a' false,e)/\Pg T a a'/\e.lZ=[]/\e.J=[]/\e.so=[]/\e.lR=[]) (λ_ _=>False) ?_ (λ_ _ h=>h.elim) λj j' hj _=>?_
 ·rintro _ _ ⟨e,a',rfl,rfl,pg,e1,e2,e3,e4⟩
  have g0:=pg.le
  obtain ⟨w,hw⟩:∃ w,T[a'.toNat]?=some w:=⟨_,az (by have:=pg.lt;omega)⟩
  have nw:=uN aB hw
  dsimp only
  refine LK.expect hm hC nw (λho=>?_) λv r hr=>ai aee λr hr=>aj Vb
  refine cm (tL n aB hm aB (nw.Cp hC (by have:=(la ho).1;omega)) .no) ?_ ?_
  ·rintro _ _ ⟨x,a4,rfl,rfl,LM,z4,hx⟩
   refine b9 ⟨_,a4,rfl,?_,(pg.trans (nw.read hC (by have:=(la ho).1;omega) (Cy ho dN))).trans LM,z4,?_⟩
   ·dsimp only;rw[e1,e2,e3]
   ·dsimp only;rw[e1,e2,e3,e4]
    exact .new bn bn bn bn GO Es bn
  ·exact Ų
 ·refine bj (jl hm hC nu) (bj (AG b u [63]) (sg nu (λho=>?_) λho=>?_))
  ·exact ahZ
  ·rw[ho]
   refine aF du λ_=>aJ du λ_=>?_
   refine bj (jl hm hC nu) (bj (AG b u [33]) (sg nu (λho=>?_) λho=>?_))
   ·exact ahZ
   ·rw[ho]
    exact aF du λ_=>aJ du λ_=>hj _ _ ⟨_,a+1,rfl,rfl,pr,rfl,rfl,rfl,rfl⟩
end
structure Sz (l:List aK) (tl:List ByS):Prop where
 l1:l.length<=70000
 l2:∀ d,d∈l->V d
 t1:tl.length<=70000
 t2:∀ x,x∈tl->x.length<=65536
def VK (s:ByS) (T:List aC) (b:Int) (k:Bool) (a:Int) (r:List aK×List ByS×D) (y:List aK×List ByS×ah):Prop:=∃ l tl a',r=(l,tl,H s T a' b k none)/\y=(l,tl,RX s T b a' k)/\Pg T a a'/\Lz T k a'/\Sz l tl
def WK (s:ByS) (T:List aC) (b:Int) (p:sX) (y:List aK×List ByS×ah):Prop:=∃ v,p=PF v/\FS s T b v y.2.2/\Sz y.1 y.2.1
def XD (s:ByS) (T:List aC) (b:Int) (n:Nat):Prop:=∀ {m:Nat->Nat} {c:Bool} {a:Int} {t:aC},bL m->0<=a->T[a.toNat]?=some t->t.aq≠0->t.aq≠6->t.aq≠7->Z t [44]=false->Z t [125]=false->LK (fy n c (H s T a b false none)) (λi=>cd (m i) c (RX s T b a false)) (VC s T b a) (WC s T b)
def XX (s:ByS) (T:List aC) (b:Int):Prop:=∀ {m:Nat->Nat} {c:Bool} {a:Int} {t:aC},bL m->0<=a->T[a.toNat]?=some t->Ed t->Ev (λi=>cd (m i) c (RX s T b a false)) (λr=>FS s T b (t.cN+b) r.2) di
section
variable {T:List aC} {m:Nat->Nat}
def Sz.nil:Sz [] []:=⟨bn,bn,bn,bn⟩
variable {y:ah}
def Eo {l:List ByS} {E:ByS} (hm:bL m) (h:FS s T b v y):Ev (λi=>et (m i) c l E y) (λr=>r.1=[]/\r.2.1=[]/\FS s T b v r.2.2) di:=by
 unfold et Bn oj jk s6 dL dT;exact px hm λ_=>bC (yW h) (aG (aj ⟨rfl,rfl,h⟩))
def FS.sk (h:FS s T b v y):FS s T b v (ah.mk y.s y.shift y.l y.bO k y.jF y.td):=by
 obtain ⟨a,k',rfl,h⟩:=h;exact ⟨a,k,rfl,h⟩
def SH (hm:bL m) (hC:PC s T b) (h:FS s T b v y):Ev (λi=>dx (m i) c y) (λr=>r.1=[]/\r.2.1=[]/\FS s T b v r.2.2) di:=by
 refine bX (F:=λi=>dx i c y) hm λm hm=>?_;show Ev (λi=>fQ (m i) (ar (m i)) c y) _ _;unfold fQ;refine ai (JU hm hC h) λr hr=>?_;refine ai (Q:=λr=>r.1=[]/\r.2.1=[]/\FS s T b v r.2.2) ?_ λr hr=>ai (JU hm hC hr.2.2) λz hz=>aj ⟨hr.1,hr.2.1,hz.sk⟩;exact aib
def SJ (hC:PC s T b) (hL:Lx s T) (ihD:∀ j,j<n->XD s T b j) (hX:XX s T b) (hm:bL m) (h0:0<=a) (h1:a<T.length) :
  LK (fk n c (H s T a b k none)) (λi=>dx (m i) c (RX s T b a k)) (VK s T b k a) (WK s T b):=by
 obtain _|n:=n
 ·exact da
 refine jZ (F:=λi=>dx i c (RX s T b a k)) hm λm hm=>?_
 show LK (kQ n (R n) c (H s T a b k none)) (λi=>fQ (m i) (ar (m i)) c (RX s T b a k)) _ _
 unfold kQ fQ ji oj pM
 obtain ⟨a',t,nx⟩:=qA hC k h0 h1
 have g0:=nx.ge
 refine LK.expect hm hC nx (λho=>?_) λv r hr=>?_
 rotate_left
 ·refine ai (Q:=λr=>r.1=[]/\r.2.1=[]/\FS s T b v r.2.2) ?_ λr hr=>ai (JU hm hC hr.2.2) λz hz=>aj ⟨v,rfl,hz.sk,by rw[hr.1,hr.2.1];exact .nil⟩
  exact aib
 have hk:=(la ho).1
 have l1:=nx.Cp hC aB
 obtain _|_|_|n:=n
 ·exact da
 ·exact da
 ·exact da
 show LK (ag (ag (ag (iN n [] c (H s T (a'+1) b false none)) λy2=>ag (cC (n+1) ([125]:ByS) y2.2.2) λy3=>.ok (c,y2.1,y2.2.1,y3)) λy4=>.ok ((D.mk y4.2.2.2.cP y4.2.2.2.oh y4.2.2.2.bO y4.2.2.2.base k y4.2.2.2.iO),y4.1,y4.2.1,y4.2.2.1)) λy7=>gd (cD (y7.1.bO+1)) (.ok (y7.2.2.1,y7.2.2.2,(D.mk y7.1.cP y7.1.oh (y7.1.bO+1) y7.1.base y7.1.skip y7.1.iO)))) (λi=>ag (dj (m i) c [125] (RX s T b (a'+1) false)) λy7=>ag (cH (m i) ([125]:ByS) y7.2.2) λy9=>.ok (y7.1,y7.2.1,(ah.mk y9.s y9.shift y9.l y9.bO k y9.jF y9.td))) (VK s T b k a) (WK s T b)
 simp only[ZM,Aj]
 have key:LK (iN n [] c (H s T (a'+1) b false none)) (λi=>dj (m i) c [125] (RX s T b (a'+1) false)) (VD2 s T b (a'+1) [125]) (î s T b):=by
  refine jZ (F:=λi=>dj i c [125] (RX s T b (a'+1) false)) hm λm hm=>?_
  exact ï hC hL (.inr rfl) (λhm h0=>ihD n aB hm h0) (λhm h0=>hX hm h0) hm aB l1 qI bn
 refine cm key ?_ ?_
 ·rintro _ y ⟨l,tl,a2,t2,rfl,pg,ht2,q1,q2,q3,q4,hM⟩
  have p0:=pg.le
  have n2:=uN aB ht2
  have eM:Mt [125] t2=Z t2 [125]:=by unfold Mt;rw[aE dN]
  rw[eM] at hM
  have sz:Sz l tl:=⟨aB,q2,aB,q4⟩
  obtain ⟨ho2,rfl⟩|⟨ho2,e1,e2,hf⟩:=hM
  ·obtain ⟨pp,lz⟩:=nx.pair hC (BW (.inr (.inr ho))) pg ht2 (BX (.inr (.inr ho2)))
   refine gR (J2 n2 ho2) (bG λ_=>bj (NZ hm hC n2 ho2) ?_)
   exact b9 ⟨l,tl,a2+1,rfl,rfl,pp,lz,sz⟩
  ·unfold cC pB
   simp only[ZM]
   refine fJ n2 (ln ?_)
   rw[ho2]
   simp only[asB,ZM]
   refine aF (λ_=>kV n2 ?_) du
   exact adi
 ·rintro _ y ⟨v,rfl,e1,e2,hf⟩
  exact adi
def Yx (hC:PC s T b) (hL:Lx s T) (ihD:∀ j,j<n->XD s T b j) (hX:XX s T b) {a':Int} {t:aC} (hm:bL m) (nx:Nx T k a a' t) (ht:Z t [123]=true) :
  LK (ag (gj n c (H s T a' b k none)) λy=>.ok (y.1,y.2)) (λi=>aI.jn (λ(v53:ak)=>ag (dx (m i) c (RX s T b a' k)) λy57=>.ok ((ak.mk v53.aq v53.bM v53.U v53.B v53.bT [] y57.1 y57.2.1 v53.cN),y57.2.2)) λj54=>aI.br c (j54 ((ak.mk 13 [] 0 [] [] [] [] [] (t.cN+b)))) (j54 ((ak.mk 22 [] 0 [] [] [] [] [] (t.cN+b))))) (VX s T b k a) (WX s T b):=by
 obtain _|n:=n
 ·exact da
 show LK (ag (kc n (R n) c (H s T a' b k none)) _) _ _ _
 unfold kc eS
 simp only[ZM,asB,aI.jn]
 refine rh nx.self ?_
 have sm:∀ {K:Int} {l:List aK} {tl:List ByS},K≠16->Sz l tl->jd (ak.mk K [] 0 [] [] [] l tl (t.cN+b)):=λhK h=>.mk bn h.l1 h.t1 h.t2 (λe=>ao e hK) bn h.l2
 have go:∀ {K:Int},K≠16->LK (ag (fk n c (H s T a' b k none)) λy8=>.ok ((ak.mk K [] 0 [] [] [] y8.1 y8.2.1 (t.cN+b)),y8.2.2)) (λi=>ag (dx (m i) c (RX s T b a' k)) λy57=>.ok ((ak.mk K [] 0 [] [] [] y57.1 y57.2.1 (t.cN+b)),y57.2.2)) (VX s T b k a) (WX s T b):=by
  intro K hK
  refine cm (SJ hC hL (λj hj=>ihD j aB) hX hm nx.ge nx.lt) ?_ ?_
  ·rintro _ _ ⟨l,tl,a2,rfl,rfl,pg,lz,sz⟩
   exact b9 ⟨_,a2,rfl,rfl,nx.pg.trans pg,lz,sm hK sz⟩
  ·rintro _ y ⟨v,rfl,hf,sz⟩
   exact aj ⟨v,rfl,hf,sm hK sz⟩
 cases c with
 | true=>exact go (K:=13) dN
 | false=>exact go (K:=22) dN
end
section
variable {T:List aC} {m:Nat->Nat}
def FV (b:Int) (t:aC) (x:ByS):Ev (λ_=>jO (om b t) x) (λr=>r=D1 t x) di:=oJ (r:=.ok (D1 t x)) (N:=0) (λ_ _=>LD b t x) rfl
def ó (hm:bL m) (h1:t.aq≠1) (h3:t.aq≠3):Ev (λi=>qG (m i) (om b t)) (λr=>r=false) di:=by
 unfold qG;refine ai (Pu (n:=0) (y:=false) hm (λq=>ao q h1) λ_=>rfl) ?_;rintro _ rfl;exact aG (aj (by simpa[om] using h3))
def Px {c:Bool} {d:aK} (hm:bL m) (hC:PC s T b) (nx:Nx T false a a t) (ht:Z t [40]=false) {Q:aK×ah->Prop} (h:∀ {m:Nat->Nat},bL m->Ev (λi=>Uv (m i) d c (RX s T b a false)) Q di):Ev (λi=>eZ (m i) d c (RX s T b a false)) Q di:=by
 refine bX (F:=λi=>eZ i d c (RX s T b a false)) hm λm hm=>?_;show Ev (λi=>jc (m i) (ar (m i)) d c (RX s T b a false)) _ _;unfold jc ji dS;refine cT (ai Fw ?_);rintro _ rfl;refine ai (AG b t [40]) ?_;rintro _ rfl;rw[ht];exact aG (h hm)
def UA (hC:PC s T b):XX s T b:=by
 intro m c a t hm h0 ht hE;have nx:=uN h0 ht;refine bX (F:=λi=>cd i c (RX s T b a false)) hm λm hm=>?_;show Ev (λi=>fA (m i) (ar (m i)) c (RX s T b a false)) _ _;unfold fA dZ;have hk:=hE.ki;have no:∀ {x:ByS} {F G:Nat->aI (aK×ah)},x≠[125]->Ev G (λr=>FS s T b (t.cN+b) r.2) di->Ev (λi=>ag (ch (om b t) x) λy=>aI.br y (F i) (G i)) (λr=>FS s T b (t.cN+b) r.2) di:=λhx hG=>ai (AG b t _) λy hy=>by
  rw[hE.no hx] at hy;subst hy;exact aG hG
 have nw:∀ {x:ByS} {F G:Nat->aI (aK×ah)},Ev G (λr=>FS s T b (t.cN+b) r.2) di->Ev (λi=>ag (jO (om b t) x) λy=>aI.br y (F i) (G i)) (λr=>FS s T b (t.cN+b) r.2) di:=λ{x F G} hG=>ai (FV b t x) λy hy=>by
  rw[show D1 t x=false by simp[D1];omega] at hy;subst hy;exact aG hG
 refine ai Fw ?_;rintro _ rfl;refine cT (ai (ó hm aB aB) ?_);rintro _ rfl;refine aG (aG (no dN (nw (nw (nw (no dN ?_))))));refine ai (Q:=λr=>FS s T b (t.cN+b) r.2) ?_ λr hr=>aj hr;refine Px hm hC nx (hE.no dN) λhm=>?_;unfold Uv;exact ai (HA hm hC (hE.dn hC nx)) λr hr=>aj hr.1
def SK {q:Option ak} (nx:Nx T false a a t) (ht:Z t [91]=false):Tk (fL n (H s T a b false q)) (false,H s T a b false q):=by
 unfold fL pB;obtain e|e:=tT (n:=n) (s:=s) (b:=b) (q:=q) nx
 ·rw[e];exact .inl rfl
 rw[e,Aj];dsimp only;rw[GH,Aj,ht];exact ll
def abS (hC:PC s T b) (hL:Lx s T) (tL:∀ j,j<n->XF s T b (aZ j) ax) (ihD:∀ j,j<n->XD s T b j)
  (hRe:∀ {n:Nat} {m:Nat->Nat} {x:ByS},bL m->LK (pa n x) (λi=>lL (m i) x) (λy z=>(z.2.eU=0↔y.2.eU=0)) (λ_ _=>False)) (hT:∀ {m:Nat->Nat},bL m->Ev (λi=>lL (m i) [46,42]) (λ_=>True) di):XD s T b n:=by
 intro m c a t hm h0 ht Fc hk6 MR hc44 hc125
 obtain _|n:=n
 ·exact da
 refine jZ (F:=λi=>cd i c (RX s T b a false)) hm λm hm=>?_
 show LK (lG n (R n) c (H s T a b false none)) (λi=>fA (m i) (ar (m i)) c (RX s T b a false)) _ _
 unfold lG fA pB pM dZ
 have nx:=uN h0 ht
 have l1:=nx.Cp hC Fc
 obtain ⟨u,hu⟩:∃ u,T[(a+1).toNat]?=some u:=⟨_,az aB⟩
 have d0:V (aK.mk 0 0 [] [] [] [] [] [] [] [] (t.cN+b)):=.new bn bn bn bn bn bn bn
 have d1:∀ {K P:Int} {L x y:ByS} {e:ak} {l:List aK} {tl:List ByS},jd e->Sz l tl->V (aK.mk K P L x y [e] l tl [] [] (t.cN+b)):=λhe sz=>.new bn sz.l1 sz.t1 sz.t2 (λ_=>by simp) DN sz.l2
 refine fJ nx (rh nx (gR (xc hC hu aB) (bj (jl hm hC nx) ?_)))
 refine fI ?_
 have P2:∀ {x:aI (D×aK)} {F:Nat->aI (aK×ah)},LK x F (VP s T b a) (WC s T b)->LK (ag x λy=>.ok (y.2,y.1)) F (VC s T b a) (WC s T b):=λh=>tq h (λr y hy=>⟨λ_ e=>by cases e;exact aj hy,λ_ e=>by cases e⟩) λ_ _ h=>h
 refine yL (λ(v:Bool) (w:ah×Bool)=>w=(RX s T b a false,v)/\(v=true->t.aq=3\/t.aq=1)) (λ_ _=>False) ?_ (λ_ _ h=>h.elim) λj j' hj _=>?_
 rotate_left
 ·refine LK.label hm λy hy=>?_
  cases y with
  | false=>exact aF du λ_=>aJ du λ_=>hj _ _ ⟨rfl,λh=>by cases h⟩
  | true=>
   refine aF (λ_=>aJ (λ_=>bj (Ai hC hu aB) (bj (Od hm dN) (gR (Fs (l:=[[58],[63],[33]]) rfl) ?_))) du) du
   exact hj _ _ ⟨rfl,λ_=>hy rfl⟩
 rintro lb _ ⟨rfl,hlb⟩
 dsimp only
 cases lb with
 | true=>exact aF (λ_=>aJ (λ_=>P2 (ò (t:=t) hC (λj hj=>tL j aB) hm h0 ht (hlb rfl))) λh=>by cases h) λh=>by cases h
 | false=>
  refine aF du λ_=>aJ du λ_=>?_
  have emb:∀ {m:Nat->Nat},bL m->LK (ag (aZ n c (H s T a b false none)) λy74=>.ok ((aK.mk 3 0 [] [] [] [y74.1] [] [] [] [] (t.cN+b)),y74.2)) (λi=>Uv (m i) (aK.mk 0 0 [] [] [] [] [] [] [] [] (t.cN+b)) c (RX s T b a false)) (VC s T b a) (WC s T b):=by
   intro m hm
   unfold Uv
   refine cm (tL n aB hm h0 aB .no) ?_ ?_
   ·rintro _ _ ⟨e,a4,rfl,rfl,LM,z4,he⟩
    exact b9 ⟨_,a4,rfl,rfl,LM,z4,d1 he .nil⟩
   ·rintro _ y ⟨v,rfl,f1,f2⟩
    exact aj ⟨v,rfl,f1⟩
  have emb2:Z t [40]=false->∀ {m:Nat->Nat},bL m->LK (ag (aZ n c (H s T a b false none)) λy74=>.ok ((aK.mk 3 0 [] [] [] [y74.1] [] [] [] [] (t.cN+b)),y74.2)) (λi=>eZ (m i) (aK.mk 0 0 [] [] [] [] [] [] [] [] (t.cN+b)) c (RX s T b a false)) (VC s T b a) (WC s T b):=λIp {m} hm=>⟨λr hr=>Px hm hC nx Ip λhm=>(emb hm).1 r hr,λr hr=>Px hm hC nx Ip λhm=>(emb hm).2 r hr⟩
  have re:∀ {F:Nat->aI (aK×ah)} {x:aI (aK×D)},LK x F (VC s T b a) (WC s T b)->LK x (λi=>ag (F i) λy=>.ok (y.1,y.2)) (VC s T b a) (WC s T b):=λh=>⟨λr hr=>(h.1 r hr).gw λy hy=>aj hy,λr hr=>(h.2 r hr).gw λy hy=>aj hy⟩
  have re2:∀ {F:Nat->aI (aK×ah)} {x:aI (D×aK)},LK x F (VP s T b a) (WC s T b)->LK x (λi=>ag (F i) λy=>.ok (y.1,y.2)) (VP s T b a) (WC s T b):=λh=>⟨λr hr=>(h.1 r hr).gw λy hy=>aj hy,λr hr=>(h.2 r hr).gw λy hy=>aj hy⟩
  cases Tw:Z t [91] with
  | true=>
   obtain ⟨k5,t5⟩:=la Tw
   have w0:∀ x,D1 t x=false:=λx=>by simp[D1,k5]
   have o0:∀ x,x≠[91]->Z t x=false:=λx hx=>by simp[Z,t5,Ne.symm hx]
   obtain ⟨z,hz,hl,hr⟩:=SF hC hL h0 ht Tw
   refine bj (AG b t [91]) ?_
   rw[Tw]
   refine aJ (λ_=>?_) du
   refine gR hl ?_
   dsimp only
   have gr:∀ {x:aI (aK×D)},(∀ {m:Nat->Nat},bL m->LK x (λi=>br ((z.map (·.2.2+2)).getD 0==0) (ag (eZ (m i) (aK.mk 0 0 [] [] [] [] [] [] [] [] (t.cN+b)) c (RX s T b a false)) λy8=>.ok (y8.1,y8.2)) (jn (λ(v9:Unit)=>gd (cD (a+(z.map (·.2.2+2)).getD 0)) (ag (ax (m i) c (RX s T b (a+(z.map (·.2.2+2)).getD 0) false)) λy17=>.ok ((aK.mk 2 0 ((z.map (·.1)).getD []) [] [] [y17.1] [] [] [] [] (t.cN+b)),y17.2))) λj10=>ag (lL (m i) ((z.map (·.1)).getD [])) λy20=>br (decide ((z.map (·.2.1)).getD 0>=0)) (br (y20.2.eU !=0) (ag (bJ ((z.map (·.2.1)).getD 0) (RX s T b a false)) λy25=>.ok ((aK.mk 0 0 [] [] [] [] [] [] [] [] (t.cN+b)),y25)) (j10 ())) (j10 ()))) (VC s T b a) (WC s T b))->LK x (λi=>ag (ic (m i) (aK.mk 0 0 [] [] [] [] [] [] [] [] (t.cN+b)) c (RX s T b a false)) λy38=>.ok (y38.1,y38.2)) (VC s T b a) (WC s T b):=by
    intro x hx
    refine re (jZ (F:=λi=>ic i (aK.mk 0 0 [] [] [] [] [] [] [] [] (t.cN+b)) c (RX s T b a false)) hm λm hm=>?_)
    show LK _ (λi=>kj (m i) (ar (m i)) (aK.mk 0 0 [] [] [] [] [] [] [] [] (t.cN+b)) c (RX s T b a false)) _ _
    unfold kj
    exact bj (hr hm) (hx hm)
   refine gr λ{m} hm=>?_
   cases hz with
   | no=>
    refine aF du λ_=>aJ (λ_=>?_) du
    refine rN (aF (λh=>by rw[w0] at h;cases h) λ_=>ln (aF (λh=>by rw[o0 _ dN] at h;cases h) λ_=>rN (aF (λh=>by rw[w0] at h;cases h) λ_=>rN (aF (λh=>by rw[w0] at h;cases h) λ_=>ln (aF (λh=>by rw[o0 _ dN] at h;cases h) λ_=>?_)))))
    exact re (emb2 (o0 _ dN) hm)
   | @yes l p j N hk hc=>
    refine aF (λ_=>aJ (λh=>?_) λ_=>?_) du
    ·have h:N+2=0:=by simpa using h
     obtain ⟨w,nw,_⟩:=hc
     have g1:=nw.le
     have:2<=j:=by cases hk<;>decide
     omega
    ·exact P2 (Uz hC hL (λj hj=>tL j aB) hRe hT hm h0 ht Tw d0 hk hc)
  | false=>
   refine gR (SK nx Tw) (bj (AG b t [91]) ?_)
   rw[Tw]
   refine aF du λ_=>aJ du λ_=>?_
   dsimp only
   have blk:∀ {K:Int} {x y:ByS} {m:Nat->Nat} {a1:Int},bL m->Pg T a a1->LK (ag (aZ n false (H s T a1 b false none)) λy55=>ag (fk n false y55.2) λy56=>.ok ((aK.mk K 0 [] x y [y55.1] y56.1 y56.2.1 [] [] (t.cN+b)),y56.2.2)) (λi=>ag (ax (m i) false (RX s T b a1 false)) λy64=>ag (dx (m i) false y64.2) λy66=>.ok ((aK.mk K 0 [] x y [y64.1] y66.1 y66.2.1 [] [] (t.cN+b)),y66.2.2)) (VC s T b a) (WC s T b):=by
    intro K x y m a1 hm pg
    have:=pg.le
    refine cm (tL n aB hm aB pg.lt .no) ?_ ?_
    ·rintro _ _ ⟨e,a4,rfl,rfl,LM,z4,he⟩
     have:=LM.le
     refine cm (SJ hC hL (λj hj=>ihD j aB) (UA hC) hm aB LM.lt) ?_ ?_
     ·rintro _ _ ⟨l,tl,a5,rfl,rfl,pg5,z5,sz⟩
      exact b9 ⟨_,a5,rfl,rfl,(pg.trans LM).trans pg5,z5,d1 he sz⟩
     ·rintro _ y ⟨v,rfl,hf,sz⟩
      exact aj ⟨v,rfl,hf⟩
    ·rintro _ y ⟨v,rfl,f1,f2⟩
     exact ai (SH hm hC f1) λr hr=>aj ⟨v,rfl,hr.2.2⟩
   have rd:∀ {Fc:t.aq≠0},dl t=0->Pg T a (a+1):=λ{Fc} hd=>nx.read hC Fc hd
   by_cases hlet:D1 t [108,101,116]=true
   ·obtain ⟨k1,t1⟩:=Ep hlet
    refine rN (bj (FV b t _) ?_)
    rw[hlet]
    refine aF (λ_=>aJ (λ_=>?_) du) du
    cases c with
    | false=>
     refine fI (aF (λ_=>aJ (λ_=>kV nx ?_) du) du)
     exact bC (a:=RF s T b a false (t.cN+b)) rfl (aj ⟨_,rfl,nx.fs⟩)
    | true=>
     refine fI (aF du λ_=>aJ du λ_=>bG λ_=>bj (oI hm hC nx Fc) ?_)
     have nu:=uN aB hu
     refine LK.name hm hC nu (λku _=>?_) λv r hr=>ai (JU hm hC hr) λr hr=>ai (oT hm hC hr) λr hr=>aj ⟨v,rfl,hr.1⟩
     have l2:=nu.Cp hC aB
     obtain ⟨w,hw⟩:∃ w,T[(a+1+1).toNat]?=some w:=⟨_,az aB⟩
     have nw:=uN aB hw
     refine LK.expect hm hC nw (λho=>?_) λv r hr=>ai (oT hm hC hr) λr hr=>aj ⟨v,rfl,hr.1⟩
     have kw:=(la ho).1
     refine cm (tL n aB hm aB (nw.Cp hC aB) .no) ?_ ?_
     ·rintro _ _ ⟨e,a4,rfl,rfl,LM,z4,he⟩
      exact b9 ⟨_,a4,rfl,rfl,(((nx.read hC Fc (GW aB)).trans (nu.read hC aB (GW aB))).trans (nw.read hC aB (Cy ho dN))).trans LM,z4,d1 he .nil⟩
     ·rintro _ y ⟨v,rfl,f1,f2⟩
      exact aj ⟨v,rfl,f1⟩
   refine rN (bj (FV b t _) ?_)
   rw[show D1 t [108,101,116]=false by simpa using hlet]
   refine aF du λ_=>aJ du λ_=>?_
   by_cases Yy:Z t [46,46,46]=true
   ·obtain ⟨k5,t5⟩:=la Yy
    have w0:∀ x,D1 t x=false:=λx=>by simp[D1,k5]
    refine ln (bj (FV b t _) ?_)
    rw[Yy,w0]
    refine aJ du λ_=>bj (FV b t _) ?_
    rw[w0]
    refine aJ du λ_=>bj (AG b t _) ?_
    rw[Yy]
    refine aF (λ_=>aJ (λ_=>?_) du) du
    cases c with
    | false=>
     refine fI (aF (λ_=>aJ (λ_=>kV nx ?_) du) du)
     exact bC (a:=RF s T b a false (t.cN+b)) rfl (aj ⟨_,rfl,nx.fs⟩)
    | true=>
     refine fI (aF du λ_=>aJ du λ_=>bG λ_=>bj (oI hm hC nx Fc) ?_)
     exact b9 ⟨_,a+1,rfl,rfl,nx.read hC Fc (Cy Yy dN),nx.lz MR,.new bn bn bn bn bn bn bn⟩
   refine ln ?_
   rw[show Z t [46,46,46]=false by simpa using Yy]
   refine aF du λ_=>?_
   refine rN (bj (FV b t _) ?_)
   cases hif:D1 t [105,102] with
   | true=>
    refine aF (λ_=>aJ (λ_=>bG λ_=>bj (oI hm hC nx Fc) ?_) du) du
    exact blk hm (nx.read hC Fc (GW (by have:=(Ep hif).1;omega)))
   | false=>
    refine aF du λ_=>aJ du λ_=>rN (bj (FV b t _) ?_)
    cases hfor:D1 t [102,111,114] with
    | true=>
     have p1:=nx.read hC Fc (GW (by have:=(Ep hfor).1;omega))
     refine aF (λ_=>aJ (λ_=>bG λ_=>bj (oI hm hC nx Fc) ?_) du) du
     refine LK.names hm hC aB l1 (λa2 y p0 Uq z2=>blk hm (p1.trans Uq)) λv r hr=>ai (oT hm hC hr) λr hr=>ai (SH hm hC hr.1) λr hr=>aj ⟨v,rfl,hr.2.2⟩
    | false=>
     refine aF du λ_=>aJ du λ_=>bj (AG b t _) ?_
     rw[show Z t [46,46,46]=false by simpa using Yy]
     refine aJ du λ_=>ln ?_
     cases Ip:Z t [40] with
     | true=>exact aF (λ_=>P2 (re2 (Uw hC (λj hj=>tL j aB) hm h0 ht Ip d0))) λh=>by cases h
     | false=>exact aF du λ_=>re (emb2 Ip hm)
end
section
variable {Y:Type} {V:α->β->Prop} {W:sX->β->Prop} {x:aI α}
def LK.q {x:Nat->aI α} {F:Nat->Nat->aI β} {Q:α->Prop} (hF:∀ m,F m=F m) (h:∀ n,LK (x n) (F 0) V W) (he:Ev x Q di) (hV:∀ y y' z,V y z->V y' z->y=y') {n:Nat} {y:α} (hx:x n=.ok y):Q y:=by
 obtain ⟨y',hq,N,hN⟩:=he.get;obtain ⟨z,⟨h1,h2⟩,_⟩:=(((h n).1 y hx).both ((h N).1 y' (hN N J6))).get;rw[hV _ _ _ h1 h2];exact hq
def LK.ajP {m:Nat->Nat} (hm:bL m) {xb:Nat->(Y->aI β)->Y->aI β} (I:Y->Prop) (f:Y->Nat) {w:Y} (h0:I w)
   (hb:∀ w,I w->∀ next':Nat->Y->aI β,(∀ w',I w'->f w'<f w->LK x (λi=>next' i w') V W)->LK x (λi=>xb i (next' i) w) V W):LK x (λi=>aI.iter (xb i) (m i) w) V W:=
 ⟨λa e=>bN hm I f h0 λw hw next hn=>(hb w hw next λw' h1 h2=>⟨λa' e'=>(by rw[e] at e';cases e';exact hn w' h1 h2),λp e'=>(by rw[e] at e';cases e')⟩).1 a e,
  λp e=>bN hm I f h0 λw hw next hn=>(hb w hw next λw' h1 h2=>⟨λa' e'=>(by rw[e] at e';cases e'),λp' e'=>(by rw[e] at e';cases e';exact hn w' h1 h2)⟩).2 p e⟩
end
def LS (z:cB):bQ:=bQ.mk z.bM z.Code z.cN
def WZ:Prop:=∀ {n:Nat} {m:Nat->Nat} {x:ByS},bL m->LK (pX n x) (λi=>tp (m i) x) (λy z=>z=y/\(y.2.eU=0->Lx x y.1)) (λ_ _=>False)
def agh:Prop:=∀ {n:Nat} {m:Nat->Nat} {x:ByS},bL m->x.length<=65536->LK (qw n x) (λi=>jE (m i) x) (λy z=>y=(z.1.map LS,z.2)) (λ_ _=>False)
def VQ (r:ak×Bool) (z:ak×Bool):Prop:=z.2=r.2/\(r.2=true->z.1=r.1/\jd r.1)
section
variable {T:List aC} {m:Nat->Nat}
def N4 (hS:WZ) {y:List aC×dH} (h:pX n x=.ok y) (he:y.2.eU=0):afZ x y.1/\Lx x y.1:=by
 have h1:=λn=>(hS (n:=n) (x:=x) mG:LK (pX n x) (λi=>tp i x) _ _);have h2:=LK.q (F:=λ_ i=>tp i x) (λ_=>rfl) h1 (Cj mG) (λy y' z a b=>a.1.symm.trans b.1) h;obtain ⟨z,hz,_⟩:=((h1 n).1 y h).get;exact ⟨(h2.2.2 he).2,hz.2 he⟩
def UB {l:List aC}:Tk (gi n l) (l.any λt=>t.aq==6):=by
 unfold gi;have key:∃ c:Int,(0<=c↔(l.any λt=>t.aq==6)=true)/\Tk (jJ n l) c:=by
  refine ⟨match l.findIdx? (λt=>t.aq==6) with|some i=>(i:Int)|none=>-1,?_,?_⟩
  ·cases h:l.findIdx? (λt=>t.aq==6) with
   | some i=>
    obtain ⟨h1,h2,_⟩:=List.findIdx?_eq_some_iff_getElem.1 h
    simp only[mX]
    exact ⟨λ_=>⟨_,List.getElem_mem h1,h2⟩,λ_=>by omega⟩
   | none=>
    rw[List.findIdx?_eq_none_iff] at h
    refine ⟨λh=>ao h dN,λh'=>?_⟩
    obtain ⟨t,h1,h2⟩:=mX.1 h'
    rw[h t h1] at h2;cases h2
  unfold jJ;refine oS (λ(v:Int)=>0<=v/\∀ (i:Nat) t,(i:Int)<v->l[i]?=some t->(t.aq==6)=false) (λv hv next hn=>?_) n ⟨aB,λi t h=>by omega⟩;refine cz (λh=>k8 λt _ ht=>ob (by unfold vn;rfl) (cz (λh6=>iA ?_) λh6=>dW λ_=>hn _ ⟨aB,λi u hi hu=>?_⟩)) λh=>iA ?_
  ·have e:l.findIdx? (λt=>t.aq==6)=some v.toNat:=by
    have iy:=(an.1 ht);rw[List.findIdx?_eq_some_iff_getElem];refine ⟨iy.1,by rw[iy.2];exact h6,λj hj=>?_⟩;have:=hv.2 j _ (by have:=hv.1;omega) (az (by have:=iy.1;omega));simp[this]
   rw[e];have:=hv.1;dsimp only;omega
  ·by_cases q:(i:Int)<v
   ·exact hv.2 i u q hu
   rw[show i=v.toNat by have:=hv.1;omega,ht] at hu;cases hu;exact h6
  have FE:=aW h;have e:l.findIdx? (λt=>t.aq==6)=none:=by
   rw[List.findIdx?_eq_none_iff];intro t ht;obtain ⟨i,hi,rfl⟩:=rk ht;exact hv.2 i _ (by have:=hv.1;omega) (az hi)
  rw[e]
 obtain ⟨c,h1,h2⟩:=key;obtain h2|h2:=h2
 ·rw[h2];exact .inl rfl
 rw[h2,Aj];refine iA ?_;rw[cY,decide_eq_true_iff];exact h1
def ô (f:Int) (T:List aC) (i:Nat):List aC:=(T.take i).map (om f)++T.drop i
variable {f:Int}
def abT {i:Nat} (h:T[i]?=some t):(ô f T i)[i]?=some t/\ô f T (i+1)=(ô f T i).set i (om f t)/\(ô f T i).length=T.length:=by
 have iy:=(an.1 h).1;have hl:((T.take i).map (om f)).length=i:=by simp;omega
 have hd:T.drop i=t::T.drop (i+1):=by
  rw[an] at h;obtain ⟨q1,q2⟩:=h;rw[bZ q1,q2]
 unfold ô;refine ⟨?_,?_,?_⟩
 ·rw[gH aB,hl,Nat.sub_self,hd];rfl
 ·rw[p8,h,List.set_append_right _ _ aB,hl,Nat.sub_self,hd];simp
 simp;omega
def abU (hS:WZ) (tL:∀ {s:ByS} {T:List aC} {b:Int},PC s T b->Lx s T->XF s T b (aZ n) ax) (hm:bL m) (h0:0<=f) (h1:f+x.length<=65536) :
  LK (oo (n+1) x f) (λi=>pZ (m i) x f) VQ (λ_ _=>False):=by
 refine jZ (F:=λi=>pZ i x f) hm λm hm=>?_
 show LK (tG n (R n) x f) (λi=>uJ (m i) (ar (m i)) x f) _ _
 unfold tG uJ
 have no:∀ {e e':ak},LK (.ok (e,false)) (λ_=>.ok (e',false)) VQ (λ_ _=>False):=b9 Tz
 cases hsc:pX n x with
 | stuck=>exact da
 | ry p=>
  obtain ⟨_,h,_⟩:=((hS hm).2 p hsc).get
  exact h.elim
 | ok y=>
  have hr:=((hS hm).1 y hsc).qh (λz hz=>hz.1)
  have hr:Ev (λi=>zJ (m i) x) (λz=>z=y) di:=hr
  rw[Aj]
  refine bj hr ?_
  refine dG rfl (λ_=>no) λhe=>?_
  have he:y.2.eU=0:=by simpa using he
  obtain ⟨hT,hL⟩:=N4 hS hsc he
  have hC:PC x y.1 f:=⟨hT,h0,h1⟩
  have hlen:=hC.oF
  refine gR UB ?_
  have sh:∀ {X:aI (ak×Bool)},((y.1.any λt=>t.aq==6)=true->X=.ok (ak.mk 0 [] 0 [] [] [] [] [] 0,false))->((y.1.any λt=>t.aq==6)=false->LK X (λi=>ag (ax (m i) false (RX x y.1 f 0 true)) λy47=>ag (aS (m i) y47.2) λy50=>br (y50.1.aq !=0) (ag (bJ y50.1.cN y50.2) λy53=>ag (cG y53) λy55=>.ok (y47.1,y55.1)) (ag (cG y50.2) λy57=>.ok (y47.1,y57.1))) VQ (λ_ _=>False))->
    LK X (λi=>iter (λnext11 (v10:(List aC)×Int)=>br (decide (v10.2<(List.length v10.1:Int))) (el v10.1 v10.2 λx19=>br (x19.aq==6) (.ok ((ak.mk 0 [] 0 [] [] [] [] [] 0),false)) (el v10.1 v10.2 λx26=>gd (cD (x26.cN+f)) (el v10.1 v10.2 λMI=>el (List.set v10.1 v10.2.toNat (aC.mk MI.aq MI.bM (x26.cN+f) MI.pO)) v10.2 λx35=>gd (cD (x35.pO+f)) (el (List.set v10.1 v10.2.toNat (aC.mk MI.aq MI.bM (x26.cN+f) MI.pO)) v10.2 λx40=>gd (cD (v10.2+1)) (next11 (List.set (List.set v10.1 v10.2.toNat (aC.mk MI.aq MI.bM (x26.cN+f) MI.pO)) v10.2.toNat (aC.mk x40.aq x40.bM x40.cN (x35.pO+f)),v10.2+1)))))) (ag (ax (m i) false (ah.mk x f v10.1 0 true 0 0)) λy47=>ag (aS (m i) y47.2) λy50=>br (y50.1.aq !=0) (ag (bJ y50.1.cN y50.2) λy53=>ag (cG y53) λy55=>.ok (y47.1,y55.1)) (ag (cG y50.2) λy57=>.ok (y47.1,y57.1)))) (m i) (y.1,0)) VQ (λ_ _=>False):=by
   intro X hX1 hX2
   refine LK.ajP hm (λ(v:List aC×Int)=>∃ i:Nat,v=(ô f y.1 i,(i:Int))/\i<=y.1.length/\∀ (j:Nat) t,j<i->y.1[j]?=some t->t.aq≠6) (λv=>(y.1.length - v.2).toNat) ⟨0,by simp[ô],aB,λj t h=>by omega⟩ ?_
   rintro _ ⟨i,rfl,hi,hb⟩ next hn
   dsimp only at hn ⊢
   by_cases iy:i<y.1.length
   ·obtain ⟨t,ht⟩:∃ t,y.1[i]?=some t:=⟨_,az iy⟩
    obtain ⟨g1,g2,g3⟩:=abT (f:=f) ht
    have tk:=hC.tok ht
    have g1':(ô f y.1 i)[((i:Int)).toNat]?=some t:=by simpa using g1
    have s1:∀ u:aC,((ô f y.1 i).set ((i:Int)).toNat u)[((i:Int)).toNat]?=some u:=λu=>by
     rw[vj qI]
    refine aJ (λ_=>eV aB g1' ?_) λh=>ao qO aB
    refine aJ (λh6=>?_) λh6=>?_
    ·have:(y.1.any λt=>t.aq==6)=true:=mX.2 ⟨t,aQ ht,h6⟩
     rw[hX1 this]
     exact no
    ·refine eV aB g1' (bV zR (eV aB g1' (eV aB (s1 _) (bV Xn (eV aB (s1 _) (bV zR (hn _ ⟨i+1,?_,aB,λj u hj hu=>?_⟩ ?_)))))))
     ·rw[g2]
      simp[om]
     ·by_cases q:j<i
      ·exact hb j u q hu
      ·rw[show j=i by omega,ht] at hu;cases hu;simpa using h6
     ·dsimp only;omega
   ·have e:i=y.1.length:=by omega
    have e2:ô f y.1 i=y.1.map (om f):=by subst e;simp[ô]
    refine aJ (λh=>ao B2 (by rw[e2];simp;omega)) λ_=>?_
    rw[e2]
    refine hX2 ?_
    rw[jC]
    intro h
    obtain ⟨t,h1,h2⟩:=mX.1 h
    obtain ⟨j,hj,rfl⟩:=rk h1
    exact hb j _ aB (az hj) xq
  refine sh (λh=>by rw[h];rfl) λh=>?_
  rw[h]
  refine aF du λ_=>?_
  have hx:=tL hC hL (c:=false) hm Cq (by have:=hC.pos;omega) (In.no (s:=x) (T:=y.1) (b:=f) (c:=false) (a:=0) (k:=true))
  show LK (AX (ag (aZ n false (H x y.1 0 f true none)) _) _) _ _ _
  cases he:aZ n false (H x y.1 0 f true none) with
  | stuck=>exact da
  | ry p=>
   obtain ⟨_,⟨v,hp,_⟩,_⟩:=(hx.2 p he).get
   subst hp
   have ve:Ev _ (λr:ak×ah=>FS x y.1 f v r.2) di:=(hx.2 _ he).qh λr hr=>by
    obtain ⟨v',e,hr,_⟩:=hr
    cases e;exact hr
   refine ⟨λr hr=>?_,λq hq=>?_⟩
   ·have:r=(ak.mk 0 [] 0 [] [] [] [] [] 0,false):=by
     have:(.ok (ak.mk 0 [] 0 [] [] [] [] [] 0,false):aI (ak×Bool))=.ok r:=hr
     cases this;rfl
    subst this
    refine ai ve λz hz=>ai (C6 hm hC hz) λw hw=>aw (λ_=>bC (yS hw) (bC (yW hw) (aj Tz))) λ_=>bC (yW hw) (aj Tz)
   ·have:(.ok (ak.mk 0 [] 0 [] [] [] [] [] 0,false):aI (ak×Bool))=.ry q:=hq
    cases this
  | ok r=>
   obtain ⟨_,⟨e,a1,rfl,rfl,pg,hz,hes⟩,_⟩:=(hx.1 r he).get
   have ve:Ev _ (λz=>z=(e,RX x y.1 f a1 true)) di:=(hx.1 _ he).qh λz hz=>by
    obtain ⟨e',a',q1,q2,_⟩:=hz
    simp only[rH,D.mk.injEq] at q1
    obtain ⟨rfl,_,_,rfl,_⟩:=q1
    exact q2
   refine bj ve ?_
   obtain ⟨a2,t,nx⟩:=qA hC true (a:=a1) (by have:=pg.le;omega) pg.lt
   refine bj Fw ?_
   rw[Aj]
   dsimp only
   obtain e1|e1:=tT (n:=n) (s:=x) (b:=f) (q:=none) nx
   ·rw[e1];exact da
   ·rw[e1,Aj]
    show LK (.ok (e,t.aq==0)) _ _ _
    by_cases h0:t.aq=0
    ·have hk:(t.aq==0)=true:=by simpa using h0
     refine aJ (λh=>ao h0 HM) λ_=>bj uY ?_
     rw[hk]
     exact b9 ⟨rfl,λ_=>⟨rfl,hes⟩⟩
    ·have hk:(t.aq==0)=false:=by simpa using h0
     refine aJ (λ_=>bj (G:=λ_=>bJ (om f t).cN (RX x y.1 f a2 true)) (b:=RF x y.1 f a2 true (t.cN+f)) uY (bj (G:=λ_=>cG (RF x y.1 f a2 true (t.cN+f))) (b:=(false,RF x y.1 f a2 true (t.cN+f))) uY ?_)) λh=>ao HM h0
     rw[hk]
     exact no
def Yz (hC:PC s T b) (hL:Lx s T) (hI:agh) (ihC:∀ j,j<n->∀ {m:Nat->Nat} {x:ByS} {f:Int},bL m->0<=f->f+x.length<=65536->LK (oo j x f) (λi=>pZ (m i) x f) VQ (λ_ _=>False)) {a a':Int} {k:Bool} (hm:bL m) (nx:Nx T k a a' t) (hk:t.aq=4) :
  LK (ag (fG n t (t.cN+b) (H s T a' b k none)) λy=>gd (cD (y.2.bO+1)) (.ok (y.1,H y.2.cP y.2.oh (y.2.bO+1) y.2.base y.2.skip y.2.iO))) (λi=>ag (fZ (m i) (om b t) (RX s T b a' k)) λy=>.ok (y.1,y.2)) (VX s T b k a) (WX s T b):=by
 obtain _|n:=n
 ·exact da
 suffices h:LK (ag (fG (n+1) t (t.cN+b) (H s T a' b k none)) λy=>gd (cD (y.2.bO+1)) (.ok (y.1,H y.2.cP y.2.oh (y.2.bO+1) y.2.base y.2.skip y.2.iO))) (λi=>fZ (m i) (om b t) (RX s T b a' k)) (VX s T b k a) (WX s T b) from ⟨λr hr=>(h.1 r hr).gw λy hy=>aj hy,λr hr=>(h.2 r hr).gw λy hy=>aj hy⟩
 refine jZ (F:=λi=>fZ i (om b t) (RX s T b a' k)) hm λm hm=>?_
 show LK (ag (ke n (R n) t (t.cN+b) (H s T a' b k none)) _) (λi=>kU (m i) (ar (m i)) (om b t) (RX s T b a' k)) _ _
 unfold ke kU ji Bn oj jk s6 eA eS
 have hlen:=hC.oF
 have hbs:=hC.bs
 have hb0:=hC.b0
 have nge:=nx.ge
 obtain ⟨g0,g1,g2,g3,g4,_⟩:=hC.tok nx.tk
 have g4:=g4 hk
 have lt1:=nx.Cp hC aB
 refine bj Ng ?_
 cases hti:qw n t.bM with
 | stuck=>exact da
 | ry p=>
  obtain ⟨_,h,_⟩:=((hI hm g3).2 p hti).get
  exact h.elim
 | ok y=>
  have hr:=(((hI hm g3).1 y hti).both (hL.it t (aQ nx.tk) hk hm))
  have hq:=LK.q (F:=λ_ i=>jE i t.bM) (λ_=>rfl) (λn=>(hI (n:=n) mG g3:LK (qw n t.bM) (λi=>jE i t.bM) _ _)) (zN mG g3) (λy y' z a b=>a.trans b.symm) hti
  rw[Aj]
  refine yJ hr λz hz=>?_
  obtain ⟨rfl,hz0⟩:=hz
  have hz0':(z.2.eU !=0)=false:=by simpa using hz0
  refine aJ (λh=>by rw[hz0'] at h;cases h) λ_=>?_
  obtain ⟨hq1,GK⟩:=hq
  dsimp only at hq1 GK ⊢
  have hzl:z.1.length<=65536:=by simp at hq1;omega
  have bi:∀ {X A B:Type} {body:(X->aI A)->X->aI A} (K:A->aI B) (n:Nat) (v:X),ag (aI.iter body n v) K=ag (aI.iter body n v) K:=λ_ _ _=>rfl
  refine tq (V':=λr y=>∃ e,r.1=e/\r.2=H s T a' b k none/\y=(e,RX s T b (a'+1) k)/\jd e) (W':=WX s T b) (uL (λ(v:D×ak×Int) (w:ak×Int)=>∃ l:List ak,∃ i:Int,v=(H s T a' b k none,ak.mk 5 [] 0 [] [] l [] [] (t.cN+b),i)/\w=(ak.mk 5 [] 0 [] [] l [] [] (t.cN+b),i)/\0<=i/\i<=z.1.length/\(l.length:Int)<=i/\∀ x,x∈l->jd x) ?_ n hm _ _ ⟨[],0,rfl,rfl,aB,aB,bn,bn⟩) ?_ λ_ _ h=>h
  ·rintro _ _ ⟨l,i,rfl,rfl,i0,i1,i2,i3⟩ next next' hn
   dsimp only
   have sm:∀ {x:ak},jd x->∀ y,y∈l++[x]->jd y:=λhx y hy=>by
    obtain w|w:=bH.1 hy
    ·exact i3 y w
    ·simp at w;subst w;exact hx
   by_cases iy:i<z.1.length
   ·obtain ⟨x,hx⟩:∃ x,z.1[i.toNat]?=some x:=⟨_,az aB⟩
    have tw:(z.1.map LS)[i.toNat]?=some (LS x):=by rw[fj,hx];rfl
    obtain ⟨x0,x1,x2⟩:=GK (LS x) (aQ tw)
    refine aF (λ_=>aJ (λ_=>?_) λh=>ao qO aB) λh=>ao qO qI
    refine je λy _ hy=>?_
    rw[tw] at hy;cases hy
    refine bG λ_=>bG λhg=>bV (by dsimp only [om];(first|omega|(simp[cD,nP,Bp,maxLen]<;>omega))) (eV i0 hx (bV hg (eV i0 hx ?_)))
    have hcE:(LS x).Code=x.Code:=rfl
    rw[hcE]
    cases hc:x.Code with
    | false=>
     refine aF (λ_=>aJ (λ_=>eV i0 hx (bG λhg=>bV hg (bG λhg=>bV hg (hn _ _ ⟨_,i+1,rfl,rfl,aB,aB,M4,sm (.leaf dN)⟩)))) du) du
    | true=>
     have x2:=x2 hc
     refine aF du λ_=>aJ du λ_=>eV i0 hx ?_
     refine cm (ihC n aB hm (x:=x.bM) (f:=t.cN+b+1+x.cN) (by have:(LS x).cN=x.cN:=rfl;omega) (by have:(LS x).cN=x.cN:=rfl;have:(LS x).bM=x.bM:=rfl;rw[this] at x2;omega)) ?_ λ_ _ h=>h.elim
     rintro ⟨e,o1⟩ ⟨e',o2⟩ ⟨h1,h2⟩
     dsimp only at h1 h2
     subst h1
     cases o2 with
     | false=>
      refine aF (λ_=>aJ (λ_=>LK.fail ?_) du) du
      exact bC (a:=RF s T b (a'+1) k (t.cN+b)) rfl (aj ⟨_,rfl,⟨_,_,rfl,by omega,lt1⟩,.leaf dN⟩)
     | true=>
      obtain ⟨rfl,he⟩:=h2 rfl
      exact aF du λ_=>aJ du λ_=>bG λhg=>bV hg (bG λhg=>bV hg (hn _ _ ⟨_,i+1,rfl,rfl,aB,aB,M4,sm he⟩))
   ·refine aF Ni λ_=>aJ (λh=>ao B2 iy) λ_=>b9 ⟨_,rfl,rfl,rfl,(show jd (ak.mk 5 [] 0 [] [] l [] [] (t.cN+b)) from .of aB (λe=>ao e dN) i3)⟩
  ·rintro ⟨_,_⟩ _ ⟨e,rfl,rfl,rfl,he⟩
   exact bG λ_=>b9 ⟨_,a'+1,rfl,rfl,nx.read hC aB IG,nx.lz aB,he⟩
end
def ajQ:Prop:=∀ {n:Nat} {m:Nat->Nat} {x:ByS},bL m->SA x->LK (nj n x) (λi=>ov (m i) x) (λy z=>z=y) (λ_ _=>False)
def agi:Prop:=∀ {n:Nat} {m:Nat->Nat} {x:ByS},bL m->LK (pa n x) (λi=>lL (m i) x) (λy z=>(z.2.eU=0↔y.2.eU=0)) (λ_ _=>False)
structure GG (n:Nat):Prop where
 expr:∀ {s:ByS} {T:List aC} {b:Int},PC s T b->Lx s T->XF s T b (aZ n) ax
 alt:∀ {s:ByS} {T:List aC} {b:Int},PC s T b->Lx s T->XF s T b (de n) cL
 MS:∀ {s:ByS} {T:List aC} {b:Int},PC s T b->Lx s T->XF s T b (df n) cX
 bin:∀ {s:ByS} {T:List aC} {b l:Int},PC s T b->Lx s T->0<=l->l<=5->XF s T b (dE n l) (λi=>cI i l)
 unary:∀ {s:ByS} {T:List aC} {b:Int},PC s T b->Lx s T->XF s T b (eD n) dI
 post:∀ {s:ByS} {T:List aC} {b:Int},PC s T b->Lx s T->XF s T b (eQ n) fc
 Sg:∀ {s:ByS} {T:List aC} {b:Int},PC s T b->Lx s T->XF s T b (fe n) dQ
 item:∀ {s:ByS} {T:List aC} {b:Int},PC s T b->Lx s T->∀ {m:Nat->Nat} {a:Int} {k:Bool},bL m->0<=a->a<T.length->LK (eI n (H s T a b k none)) (λi=>fb (m i) (RX s T b a k)) (VX s T b k a) (WX s T b)
 decl:∀ {s:ByS} {T:List aC} {b:Int},PC s T b->Lx s T->XD s T b n
 code:∀ {m:Nat->Nat} {x:ByS} {f:Int},bL m->0<=f->f+x.length<=65536->LK (oo n x f) (λi=>pZ (m i) x f) VQ (λ_ _=>False)
def agj (hR:agi) {m:Nat->Nat} (hm:bL m):Ev (λi=>lL (m i) [46,42]) (λ_=>True) di:=by
 obtain ⟨y,_,N,hN⟩:=(xa (m:=λi=>i) mG (s:=[46,42])).get;exact ((hR (n:=N) hm).1 y (hN N J6)).qh λ_ _=>trivial
def agk (hS:WZ) (hI:agh) (hN:ajQ) (hR:agi):∀ n,GG n:=by
 intro n
 induction n using Nat.strongRecOn with
 | _ n ih=>
  obtain _|n:=n
  ·constructor;all_goals (intros;first|exact da|(intro m c k a q x hm h0 h1 hI;exact da)|(intro m c a t _ _ _ _ _ _ _ _;exact da))
  ·have g:=ih n (vH n);have ge:∀ {s:ByS} {T:List aC} {b:Int},PC s T b->Lx s T->∀ j,j<n->XF s T b (aZ j) ax:=λhC hL j hj=>(ih j aB).expr hC hL;exact
    {
     expr:=λhC hL=>MW hC (g.alt hC hL)
     alt:=λhC hL=>LG hC (g.MS hC hL)
     MS:=λhC hL=>LH hC (g.bin hC hL dN dN)
     bin:=λhC hL h0 h5=>Yq hC h0 h5 (λ_=>g.unary hC hL) λh=>g.bin hC hL aB aB
     unary:=λhC hL=>ä hC (g.unary hC hL) (g.post hC hL)
     post:=λhC hL=>Up hC (g.Sg hC hL) (ge hC hL)
     Sg:=λ{s T b} hC hL=>Us hC (ge hC hL) (λj hj {m a k} hm=>(ih j aB).item hC hL hm) (λ{m a t} hm ht hk=>(hN hm (hL.nm t (aQ ht) hk)).mono (λ_ _ h=>by rw[h]) λ_ _ h=>h)
      (λ{m a a' k t} hm nx hk=>Yz hC hL hI (λj hj {m x f} hm=>(ih j aB).code hm) hm nx hk) (λ{m a a' k c t} hm nx ht=>Yx hC hL (λj hj=>(ih j aB).decl hC hL) (UA hC) hm nx ht)
     item:=λ{s T b} hC hL {m a k} hm h0 h1=>abJ hC (g.expr hC hL) hm h0 h1
     decl:=λhC hL=>abS hC hL (λj hj=>(ih j hj).expr hC hL) (λj hj=>(ih j hj).decl hC hL) (λ{n m x} hm=>hR hm) (λ{m} hm=>agj hR hm)
     code:=λ{m x f} hm h0 h1=>abU hS (λ{s T b} hC hL=>g.expr hC hL) hm h0 h1 }
inductive OC (s:ByS) (T:List aC):Int->Int->List ByS->Prop
 | nil {a:Int}:OC s T a a []
 | cons {a a1:Int} {t:aC} {l:List ByS} (ht:T[a.toNat]?=some t) (hk:t.aq=6) (ho:zP s T a t=true) (h:OC s T (a+1) a1 l):OC s T a a1 (t.bM::l)
section
variable {T:List aC} {m:Nat->Nat} {V:α->β->Prop} {W:sX->β->Prop}
variable {a1:Int} {l:List ByS}
def OC.le (hC:PC s T b) (h:OC s T a a1 l) (h0:0<=a):a<=a1/\(l.length:Int)=a1 - a/\∀ x,x∈l->x.length<=65536:=by
 induction h with
 | nil=>exact ⟨dR _,by simp,by simp⟩
 | @cons a a1 t l ht hk ho h ih=>
  obtain ⟨h1,h2,h3⟩:=ih aB
  refine ⟨aB,qI,λx hx=>?_⟩
  obtain w|w:=cb.1 hx
  ·subst w;exact (hC.tok ht).2.2.2.1
  ·exact h3 x w
def õ (hC:PC s T b) (h0:0<=a) (h1:a<T.length):∃ a1 l t,OC s T a a1 l/\T[a1.toNat]?=some t/\a1<T.length/\(t.aq=6->zP s T a1 t=false):=by
 obtain ⟨d,hd⟩:∃ d:Nat,(T.length:Int) - a<=d:=⟨(T.length - a).toNat,aB⟩
 induction d generalizing a with
 | zero=>omega
 | succ d ih=>
  obtain ⟨t,ht⟩:∃ t,T[a.toNat]?=some t:=⟨_,az aB⟩
  by_cases hk:t.aq=6/\zP s T a t=true
  ·obtain ⟨a1,l,u,h2,h3,h4,h5⟩:=ih (a:=a+1) aB (hC.next h0 ht aB) aB;exact ⟨a1,_,u,.cons ht hk.1 hk.2 h2,h3,h4,h5⟩
  ·exact ⟨a,[],t,.nil,ht,h1,λh=>by
    rw[jC];exact λh'=>hk ⟨h,h'⟩⟩
def ö (hm:bL m) (hC:PC s T b) (h0:0<=a) (h:OC s T a a1 l) (ht:T[a1.toNat]?=some t) (ho:t.aq=6->zP s T a1 t=false):Ev (λi=>iD (m i) (RX s T b a false)) (λr=>r=(l,RX s T b a1 false)) di:=by
 unfold iD jk s6;have hlen:=hC.oF;refine bN hm (λv:ah×List ByS=>∃ a l1 l0,v=(RX s T b a false,l0)/\OC s T a a1 l1/\0<=a/\(l0.length:Int)<=a/\l0++l1=l) (λv=>(a1 - v.1.bO).toNat) ⟨a,l,[],rfl,h,h0,by simpa using h0,rfl⟩ ?_;rintro _ ⟨a,l1,l0,rfl,g,h0,hl,rfl⟩ next hn;cases g with
 | nil=>
  refine ai (jl hm hC (uN h0 ht)) ?_
  rintro _ rfl
  refine aw (λh6=>ai (SB hm hC h0 ht) ?_) λ_=>aj bn
  rintro _ rfl
  rw[ho (by simpa[om] using h6)]
  exact aG M9
 | cons hu hk hou g=>
  have nx:=uN h0 hu
  have:=nx.lt
  have:=(g.le hC aB).1
  refine ai Fw ?_
  rintro _ rfl
  refine aw (λh6=>ai (SB hm hC h0 hu) ?_) λh=>ao h (by simp[om,hk])
  rintro _ rfl
  rw[hou]
  refine aY (ai (oI hm hC nx aB) ?_)
  rintro _ rfl
  refine aH (hn _ ⟨a+1,_,_,rfl,g,aB,qI,by simp[om]⟩ ?_)
  show (a1 - (a+1)).toNat<(a1 - a).toNat
  omega
def Ex.iter {X:Type} {body:(X->aI α)->X->aI α} (I:X->Prop) (hb:∀ x,I x->∀ next:X->aI α,(∀ y,I y->Ex (next y) v)->Ex (body next x) v):∀ (n:Nat) {x:X},I x->Ex (aI.iter body n x) v
 | 0,_,_=>.inl rfl
 | n+1,x,h=>hb x h _ λy hy=>Ex.iter I hb n hy
def adP (hC:PC s T b) (hL:Lx s T) (h0:0<=a) (h:OC s T a a1 l) (ht:T[a1.toNat]?=some t) (ho:t.aq=6->zP s T a1 t=false) :
  (t.aq≠6->Tk (iZ n (H s T a b false none)) (l,H s T a1 b false none))/\(t.aq=6->Ex (iZ n (H s T a b false none)) (t.cN+b)):=by
 unfold iZ jk s6 pB pM
 have tb:∀ {β γ:Type} {x:aI β} {c:β} {f:β->aI γ} {d:γ},Tk x c->Tk (f c) d->Tk (ag x f) d:=λh h'=>by
  exact Vy
 obtain ⟨I,hI⟩:∃ I:D×List ByS->Prop,I=λv=>∃ a l1 l0,v=(H s T a b false none,l0)/\OC s T a a1 l1/\0<=a/\l0++l1=l:=⟨_,rfl⟩
 have i0:I (H s T a b false none,[]):=by
  subst hI
  exact ⟨a,l,[],rfl,h,h0,rfl⟩
 refine ⟨λhk2=>oS I ?_ n i0,λhk2=>Ex.iter I ?_ n i0⟩
 ·subst hI
  rintro _ ⟨a,l1,l0,rfl,g,h0,rfl⟩ next hn
  cases g with
  | nil=>exact tb (tT (uN h0 ht)) (cz (λh=>ao jg hk2) λ_=>iA bn)
  | cons hu hk hou g=>
   have nx:=uN h0 hu
   refine tb (tT nx) (cz (λ_=>rp (λv=>v=H s T a b false none) (λv hv=>?_) λj hj=>tb (HB hC hL h0 hu) ?_) λh=>ao h (by simp[hk]))
   ·subst hv
    exact tb (tT nx) (dW λ_=>dW λ_=>hn _ ⟨a+1,_,_,rfl,g,by omega,by simp⟩)
   ·rw[hou]
    exact hj _ rfl
 ·subst hI
  rintro _ ⟨a,l1,l0,rfl,g,h0,rfl⟩ next hn
  cases g with
  | nil=>
   refine oZ (tT (uN h0 ht)) (nM (λ_=>Ex.jn (oZ (HB hC hL h0 ht) ?_)) λh=>ao h (by simp[hk2]))
   rw[ho hk2]
   exact nM (λ_=>JP (uN h0 ht)) λh=>by cases h
  | cons hu hk hou g=>
   have nx:=uN h0 hu
   refine oZ (tT nx) (nM (λ_=>Ex.jn (oZ (HB hC hL h0 hu) ?_)) λh=>ao h (by simp[hk]))
   rw[hou]
   exact nM du λ_=>oZ (tT nx) (Ex.gd (Ex.gd (hn _ ⟨a+1,_,_,rfl,g,by omega,by simp⟩)))
def ajR (hm:bL m) (hC:PC s T b) {c:Bool} {E:ByS} (h0:0<=a) (ht:T[a.toNat]?=some t) (hk:t.aq=6) (ho:zP s T a t=false):Ev (λi=>et (m i) c l E (RX s T b a false)) (λr=>FS s T b (t.cN+b) r.2.2) di:=by
 unfold et Bn oj jk s6 dL dT;have nx:=uN h0 ht;have k7:((om b t).aq==7)=false:=by simp[om,hk]
 have k6:((om b t).aq==6)=true:=by simp[om,hk]
 refine jX hm (bC (a:=(true,RX s T b a false)) rfl (aY (ai Fw ?_)));rintro _ rfl;refine cT ?_;dsimp only;rw[k7,k6];refine aG (ai (AG b t [44]) ?_);rintro _ rfl;rw[show Z t [44]=false by simp[Z,hk]];refine aG (cT (aY (ai (SB hm hC h0 ht) ?_)));rintro _ rfl;rw[ho];refine aG (aY (aY (bC (a:=RF s T b a false (t.cN+b)) rfl ?_)));exact px hm.pred λ_=>bC (yW nx.fs) (aG (aj nx.fs))
def BZ {y:ah} (hm:bL m) (hC:PC s T b) (h:FS s T b v y):Ev (λi=>eW (m i) y) (FS s T b v) di:=by
 unfold eW;exact ai FX λr hr=>ai DM λ_ _=>aw (λ_=>aw UZ λ_=>ai Kc λr hr=>aj hr) λ_=>ai Kc λr hr=>aj hr
def HC (hm:bL m) (hC:PC s T b) (h0:0<=a) (h1:a<T.length) {f:D->aI α} {K:Nat->ah->aI β} (hk:∀ u,T[a.toNat]?=some u->u.aq≠6->a+1<T.length->Pg T a (a+1)->LK (f (H s T (a+1) b false none)) (λi=>K i (RX s T b (a+1) false)) V W) (hw:∀ v r,FS s T b v r->Ev (λi=>K i r) (W (PF v)) di):LK (ag (lj n (H s T a b false none)) f) (λi=>ag (eW (m i) (RX s T b a false)) (K i)) V W:=by
 obtain ⟨t,ht⟩:∃ t,T[a.toNat]?=some t:=⟨_,az aB⟩;have nx:=uN h0 ht;refine cm (U:=λp y=>(t.aq=7\/Z t [44]=true)/\p=H s T (a+1) b false none/\y=RX s T b (a+1) false) (W0:=λp y=>∃ v,p=PF v/\FS s T b v y) ?_ ?_ ?_
 ·unfold lj eW pB pM;refine fI (bj Fw (bj (AG b t [44]) (fJ nx ?_)));by_cases h7:t.aq=7
  ·have h44:Z t [44]=false:=by simp[Z,h7]
   rw[h44];refine aF (λh=>ao h7 jg) λ_=>aJ (λ_=>aJ (λh=>ao h7 HM) λ_=>?_) du;exact bG λ_=>bj (oI hm hC nx aB) (b9 ⟨.inl h7,rfl,rfl⟩)
  refine aF (λ_=>fJ nx (ln ?_)) λh=>ao jg h7;cases h44:Z t [44] with
  | true=>exact aF du λ_=>aJ du λ_=>bG λ_=>bj (oI hm hC nx (by have:=(la h44).1;omega)) (b9 ⟨.inr rfl,rfl,rfl⟩)
  | false=>
   refine aF (λ_=>kV nx ?_) du
   exact aY (aw (λ_=>bC (a:=RF s T b a false (t.cN+b)) rfl (aj ⟨_,rfl,nx.fs⟩)) λh=>ao HM h7)
 ·rintro _ _ ⟨ho,rfl,rfl⟩;have Fc:t.aq≠0:=by
   obtain h|h:=ho
   ·omega
   have:=(la h).1;omega
  have hk6:t.aq≠6:=by
   obtain h|h:=ho
   ·omega
   have:=(la h).1;omega
  refine hk t ht hk6 (nx.Cp hC Fc) (nx.read hC Fc ?_);obtain h|h:=ho
  ·exact GW aB
  exact Cy h dN
 rintro _ y ⟨v,rfl,hy⟩;exact hw v y hy
def ø (hm:bL m) {x:ByS} (hx:x.length<=70000):Ev (λi=>xU (m i) x) (λr=>r=gL x (Lib.lastIndex x [47]+1)) di:=by
 unfold xU;have oc:∀ {j:Nat} {c:UInt8},x[j]?=some c->(Lib.occAt x [47] j=true↔c=47):=by
  intro j c hc;rw[an] at hc;obtain ⟨q1,q2⟩:=hc;unfold Lib.occAt;rw[bZ q1,q2];simp only[List.isPrefixOf,pR,cg];exact eq_comm
 have hli:(∀ j:Nat,x[j]?≠some 47)/\Lib.lastIndex x [47] = -1\/∃ i:Nat,x[i]?=some 47/\Lib.lastIndex x [47]=i/\∀ j:Nat,i<j->x[j]?≠some 47:=by
  unfold Lib.lastIndex;split
  ·rename_i hl;simp at hl;have e:x.length - ([47]:ByS).length+1=x.length:=by simp;omega
   have no:∀ j:Nat,(j<x.length->Lib.occAt x [47] j=false)->x[j]?≠some 47:=λj h w=>by
    have:=(an.1 w).1;have h1:=h this;rw[(oc w).2 rfl] at h1;cases h1
   rw[e];obtain ⟨h1,h2⟩|⟨i,i1,i2,i3,i4⟩:=Lib.lastOcc_spec x [47] x.length
   ·exact .inl ⟨λj=>no j (h2 j),h1⟩
   refine .inr ⟨i,?_,i2,λj hj=>no j (i4 j hj)⟩;have:=az i1;rw[this,(oc this).1 i3]
  rename_i hl;simp at hl;exact .inl ⟨λj=>by rw[hl];simp,rfl⟩
 refine aH (bN hm (λ(v:Int)=>v<x.length/\ -1<=v/\∀ j:Nat,v<j->x[j]?≠some 47) (λv=>(v+1).toNat) ⟨aB,aB,λj hj=>by rw[gv aB];simp⟩ ?_);rintro v ⟨h1,h2,h3⟩ next hn;refine aR (λh=>gm h h1 λc hc=>?_) λh=>aj ?_
 ·rw[mO 47 47 rfl];refine aw (λh47=>aH (aH (aj ?_))) λh47=>aH (hn _ ⟨aB,aB,λj hj=>?_⟩ aB)
  ·rw[cg] at h47;subst h47;obtain ⟨w,_⟩|⟨i,i1,i2,i3⟩:=hli
   ·exact ao hc (w _)
   have e:(i:Int)=v:=by
    obtain q|q|q:=Int.lt_trichotomy i v
    ·exact ao hc (i3 _ aB)
    ·exact q
    exact ao i1 (h3 _ q)
   rw[i2,e]
  by_cases e:(j:Int)=v
  ·rw[show j=v.toNat by omega,hc];intro w;cases w;simp at h47
  exact h3 j aB
 obtain ⟨_,w⟩|⟨i,i1,i2,i3⟩:=hli
 ·rw[w];rfl
 exact ao i1 (h3 _ aB)
end
section
variable {T:List aC} {m:Nat->Nat}
def VIm (s:ByS) (T:List aC) (b a:Int) (r:dF×D) (y:dF×ah):Prop:=∃ x a',r=(x,H s T a' b false none)/\y=(x,RX s T b a' false)/\a<a'/\a'<T.length/\∃ u,T[(a' - 1).toNat]?=some u/\u.aq≠6
def WIm (s:ByS) (T:List aC) (b:Int) (p:sX) (y:dF×ah):Prop:=∃ v,p=PF v/\FS s T b v y.2
def SM (hC:PC s T b) {a:Int} {t:aC} (hm:bL m) (h0:0<=a) (ht:T[a.toNat]?=some t) (hk:t.aq≠0):LK (ga n (H s T a b false none)) (λi=>jW (m i) (RX s T b a false)) (VIm s T b a) (WIm s T b):=by
 unfold ga jW ji pB pM;have nx:=uN h0 ht;have l1:=nx.Cp hC hk;refine rh nx (bG λ_=>bj (oI hm hC nx hk) ?_);obtain ⟨u,hu⟩:∃ u,T[(a+1).toNat]?=some u:=⟨_,az aB⟩;have nu:=uN aB hu;have ff:∀ {v:Int} {y:ah} {nm:ByS} {p:Int},FS s T b v y->Ev (λi=>ag (aS (m i) y) λy8=>br (y8.1.aq !=3) (ag (bJ y8.1.cN y8.2) λy13=>.ok (dF.mk nm [] p,y13)) (ag (P (m i) y8.2) λy16=>jn (λ(v18:dF)=>ag (eJ (m i) v18.Name) λy23=>br (!y23) (ag (bJ y8.1.cN y16.2) λy25=>ag (eW (m i) y25) λy27=>.ok (v18,y27)) (ag (eW (m i) y16.2) λy30=>.ok (v18,y30))) λj19=>br (nm==([]:ByS)) (ag (xU (m i) y8.1.bM) λy34=>j19 ((dF.mk y34 y8.1.bM p))) (j19 ((dF.mk nm y8.1.bM p))))) (WIm s T b (PF v)) di:=by
  intro v y nm p h;obtain ⟨a0,k0,rfl,q0,q1⟩:=h;obtain ⟨a',w,nw⟩:=qA hC k0 q0 q1;have tx:=(hC.tok nw.tk).2.2.2.1;refine ai (jl hm hC nw) ?_;rintro _ rfl;have hr:FS s T b v (RF s T b a' k0 v):=nw.fs;refine aw (λ_=>bC (yS hr) (aj ⟨v,rfl,hr⟩)) λ_=>ai Kc λr hr=>?_;refine bz (λ_=>True) (λx _=>ai Vf λ_ _=>aw (λ_=>bC (yS hr) (ai (BZ hm hC hr) λz hz=>aj ⟨v,rfl,hz⟩)) λ_=>ai (BZ hm hC hr) λz hz=>aj ⟨v,rfl,hz⟩) λj hj=>aw (λ_=>ai (ø hm (by dsimp only [om];omega)) λ_ _=>hj _ trivial) λ_=>hj _ trivial
 by_cases hu13:u.aq≠1/\u.aq≠3
 ·obtain ⟨h1,h3⟩:=hu13;refine fI (mP (bj (jl hm hC nu) (fJ nu ?_)));refine aF (λh=>ao jg h1) λ_=>fJ nu (fI (aF (λ_=>kV nu ?_) λh=>ao jg h3));refine aw (λ_=>?_) λh=>ao HM h3;refine ai (Q:=λr=>FS s T b (u.cN+b) r.2) ?_ λr hr=>ff hr;unfold fU;refine ai (jl hm hC nu) ?_;rintro _ rfl;refine ai (Pu (n:=0) (y:=false) hm (λq=>ao q h1) λ_=>rfl) ?_;rintro _ rfl;exact aY (bC (a:=RF s T b (a+1) false (u.cN+b)) rfl (aj nu.fs))
 refine yL (λ(v:D×dF) (w:ah×dF)=>∃ nm a',v=(H s T a' b false none,dF.mk nm [] (t.cN+b))/\w=(RX s T b a' false,dF.mk nm [] (t.cN+b))/\a<a'/\a'<T.length/\(nm=[]\/tU nm)) (λp w=>∃ v nm,p=PF v/\FS s T b v w.1/\w.2=dF.mk nm [] (t.cN+b)) ?_ ?_ λj j' hj hf=>?_
 ·rintro _ _ ⟨nm,a',rfl,rfl,q0,q1,pL⟩;obtain ⟨w,hw⟩:∃ w,T[a'.toNat]?=some w:=⟨_,az aB⟩;have nw:=uN aB hw;have tx:=(hC.tok hw).2.2.2.1;refine bj (jl hm hC nw) (fJ nw ?_);by_cases h3:w.aq=3
  ·refine oG (λv=>v=H s T a' b false none) (λv hv=>?_) λj hj=>aF (λh=>ao h3 jg) λ_=>hj _ rfl;subst hv;refine aJ (λh=>ao h3 HM) λ_=>bj (oI hm hC nw aB) ?_;have l2:=nw.Cp hC aB;refine yL (λ(v:D×dF) (y:dF)=>v=(H s T a' b false none,y)/\tU y.Name) (λp y=>p=PF (w.cN+b)/\¬ tU y.Name) ?_ ?_ λj j' hj hf=>?_
   ·rintro _ x ⟨rfl,hx⟩;refine bG λ_=>yJ Vf λz hz=>?_;rw[hz.2 hx];refine aJ du λ_=>HC hm hC aB l2 (λv hv h6 q2 _=>b9 ⟨x,a'+1+1,rfl,rfl,aB,q2,v,by rw[Int.add_sub_cancel];exact hv,h6⟩) λv r hr=>aj ⟨v,rfl,hr⟩
   ·rintro _ x ⟨rfl,hx⟩;refine ai Vf λz hz=>?_;have:z=false:=by
     rw[jC];exact λh=>hx (hz.1 h)
    rw[this];refine aY (bC (a:=RF s T b (a'+1) false (w.cN+b)) rfl (ai (BZ hm hC ⟨_,_,rfl,aB,l2⟩) λz hz=>aj ⟨_,rfl,hz⟩))
   dsimp only;obtain rfl|pL:=pL
   ·refine aF (λ_=>aJ (λ_=>bj (ø hm (by dsimp only [om];omega)) ?_) du) du;unfold strings_LastIndex;rw[asG];refine bG λ_=>?_;rw[Aj];refine bG λ_=>bG λ_=>BU yK λy hy=>?_;have hid:=Hx y hy;cases y with
    | true=>exact aF du λ_=>hj _ _ ⟨rfl,hid.1 rfl⟩
    | false=>
     refine aF (λ_=>kV nw (hf _ _ ⟨rfl,λh=>?_⟩)) du
     have:=hid.2 h
     cases this
   have uB:(nm==([]:ByS))=false:=by
    have:nm≠[]:=by
     rintro rfl;obtain ⟨_,_,c,r,h,_⟩:=pL;obtain h|h|h:=h<;>cases h
    simpa using this
   rw[uB];exact aF du λ_=>aJ du λ_=>hj _ _ ⟨rfl,pL⟩
  refine fI (aF (λ_=>kV nw ?_) λh=>ao jg h3);exact aw (λ_=>bC (a:=RF s T b a' false (w.cN+b)) rfl (aj ⟨_,rfl,nw.fs⟩)) λh=>ao HM h3
 ·rintro _ ⟨w1,w2⟩ ⟨v,nm,rfl,hw,h2⟩;dsimp only at hw h2;subst h2;exact ff hw
 refine bj (jl hm hC nu) (fJ nu ?_);by_cases h1:u.aq=1
 ·refine aF (λ_=>?_) λh=>ao h1 jg;refine aJ (λ_=>LK.name hm hC nu (λ_ hid=>hj _ _ ⟨u.bM,a+1+1,rfl,rfl,aB,nu.Cp hC aB,.inr hid⟩) λv r hr=>hf _ _ ⟨v,r.1,rfl,hr,rfl⟩) λh=>ao h (by simp[om,h1])
 refine aF (λh=>ao jg h1) λ_=>?_;have h3:u.aq=3:=Decidable.not_not.1 λh3=>hu13 ⟨h1,h3⟩;exact aJ (λh=>ao h3 HM) λ_=>hj _ _ ⟨[],a+1,rfl,rfl,by omega,l1,.inl rfl⟩
end
def abV {α X:Type} {x:aI α} {j:X->aI β} {P:α->(X->aI β)->aI β}:ag x (λy=>aI.jn j (P y))=aI.jn j (λk=>ag x λy=>P y k):=rfl
section
variable {T:List aC} {m:Nat->Nat}
def VFl (s:ByS) (T:List aC) (b:Int) (r:fX×D) (y:fX×ah):Prop:=∃ f a',r=(f,H s T a' b false none)/\y=(f,RX s T b a' false)/\Ś f
def WFl (s:ByS) (T:List aC) (b:Int) (p:sX) (y:fX×ah):Prop:=∃ v,p=PF v/\FS s T b v y.2
def LU (hm:bL m) (hC:PC s T b) {v:Int} {y:ah} (h:FS s T b v y):Ev (λi=>iD (m i) y) (λr=>FS s T b v r.2/\(r.1.length:Int)<=70000) di:=by
 unfold iD jk s6;have hlen:=hC.oF;refine bN hm (λ(w:ah×List ByS)=>FS s T b v w.1/\(w.2.length:Int)<=w.1.bO) (λw=>(T.length - w.1.bO).toNat) ⟨h,?_⟩ ?_
 ·obtain ⟨a,k,rfl,h0,h1⟩:=h;simpa using h0
 rintro ⟨_,l⟩ ⟨⟨a,k,rfl,h0,h1⟩,hl⟩ next hn;obtain ⟨a',t,nx⟩:=qA hC k h0 h1;have g0:=nx.le;have g1:=nx.lt;have g2:=nx.ge;dsimp only at hl;refine ai Fw ?_;rintro _ rfl;refine aw (λh6=>?_) λ_=>aj ⟨nx.fs,eX⟩;have h6:t.aq=6:=by simpa[om] using h6
 refine ai (SB hm hC nx.ge nx.tk) ?_;rintro _ rfl;refine aw (λ_=>?_) λ_=>aj ⟨nx.fs,eX⟩;have l1:=nx.Cp hC aB;refine ai Ng ?_;rintro _ rfl;exact aH (hn _ ⟨⟨_,k,rfl,aB,l1⟩,qI⟩ eX)
def abW {body:(D×List ByS×List aK×Int×Bool->aI (List aK×List ByS×D))->D×List ByS×List aK×Int×Bool->aI (List aK×List ByS×D)} (hs:∀ {a:Int} {t:aC} {lead:List ByS} {next},0<=a->T[a.toNat]?=some t->t.aq=6->zP s T a t=true->Sk (body next (H s T a b false none,lead,[],-1,true)) (next (H s T (a+1) b false none,lead++[t.bM],[],-1,true))) {F:Nat->aI β} {V:List aK×List ByS×D->β->Prop} {W:sX->β->Prop} {a a1:Int} {l:List ByS} (h:OC s T a a1 l):0<=a->∀ (n2:Nat) {lead:List ByS},(∀ n3,LK (aI.iter body n3 (H s T a1 b false none,lead++l,[],-1,true)) F V W)->LK (aI.iter body n2 (H s T a b false none,lead,[],-1,true)) F V W:=by
 induction h with
 | nil=>exact λ_ n2 lead h=>by simpa using h n2
 | @cons a a1 t l ht hk ho h ih=>
  intro h0 n2 lead hq
  obtain _|n2:=n2
  ·exact da
  obtain e|e:=hs (next:=aI.iter body n2) h0 ht hk ho
  ·show LK (body (aI.iter body n2) _) _ _ _;rw[e];exact da
  ·show LK (body (aI.iter body n2) _) _ _ _;rw[e];exact ih aB n2 λn3=>by
    have:=hq n3;rwa [fY]
def W1 (hC:PC s T b) (hL:Lx s T) (hD:XD s T b n) (hm:bL m):LK (jw n (H s T 0 b false none)) (λi=>mD (m i) (RX s T b 0 false)) (VFl s T b) (WFl s T b):=by
 unfold jw mD ji Bn oj jk ghK pB pM;have hlen:=hC.oF;have hp:=hC.pos;obtain ⟨a1,l1,t1,oc1,ht1,lt1,ho1⟩:=õ (s:=s) hC Cq aB;have cl1:=adP (n:=n) hC hL Cq oc1 ht1 ho1;obtain ⟨le1,ll1,sz1⟩:=oc1.le hC Cq;refine bj (ö hm hC Cq oc1 ht1 ho1) ?_;rw[abV];have kw:∀ {t:aC} {x:ByS},t.aq=6->D1 t x=false:=λh=>by simp[D1,h]
 refine yL (λ(v:D×fX×List ByS) (w:ah×fX×List ByS)=>∃ a pk lead,v=(H s T a b false none,fX.mk pk [] [] [],lead)/\w=(RX s T b a false,fX.mk pk [] [] [],lead)/\0<=a/\a<T.length/\(lead.length:Int)<=a/\∀ x,x∈lead->x.length<=65536)
  (λp w=>∃ v,p=PF v/\(FS s T b v w.1\/∃ a t,w.1=RX s T b a false/\0<=a/\T[a.toNat]?=some t/\t.aq=6/\zP s T a t=false/\v=t.cN+b)) ?_ ?_ λj j' hj hf=>?_
 ·
  rintro _ _ ⟨a,pk,lead,rfl,rfl,h0,h1,hl,Ma⟩;refine bj (G:=λ_=>cG (RX s T b a false)) (b:=(true,RX s T b a false)) uY ?_;refine yL (λ(v:D×fX) (w:ah×fX×List ByS)=>∃ a a2 l im,OC s T a a2 l/\0<=a/\a2<T.length/\v=(H s T a b false none,fX.mk pk im [] [])/\w=(RX s T b a2 false,fX.mk pk im [] [],lead++l)/\(im.length:Int)<=70000/\(lead.length:Int)<=a)
   (λp w=>∃ v,p=PF v/\FS s T b v w.1) ?_ ?_ λj j' hj hf=>?_
  ·rintro _ _ ⟨a,a2,l,im,oc,h0,h2,rfl,rfl,him,hla⟩;obtain ⟨le2,ll2,sz2⟩:=oc.le hC h0;obtain ⟨body,e1,hs,hk⟩:=SD hC hL (.inl rfl) (c:=true) (n:=n) (λhm h0=>hD hm h0) (λhm h0=>UA hC hm h0);dsimp only;rw[e1];refine cm (abW hs oc h0 n λn3=>hk n3 hm aB h2 qI λx hx=>?_) ?_ ?_
   ·obtain w|w:=bH.1 hx
    ·exact Ma x w
    exact sz2 x w
   ·rintro _ y ⟨ds,tl,a3,t3,rfl,pg,Uh,q1,q2,q3,q4,hM⟩;have nx:=uN (by have:=pg.le;omega) Uh;refine fJ nx ?_;have eM:Mt [] t3=(t3.aq==0):=by unfold Mt;rw[aL rfl]
    rw[eM] at hM;obtain ⟨h,rfl⟩|⟨h,w1,w2,w3⟩:=hM
    ·refine aF (λh'=>?_) λ_=>b9 ⟨_,a3,rfl,rfl,⟨eX,eX,q2,eX,q4⟩⟩;simp only[bne,h] at h';cases h'
    refine aF (λ_=>kV nx (aj ⟨_,rfl,w3⟩)) λh'=>?_;simp only[bne,h] at h';cases h'
   rintro _ y ⟨v,rfl,w1,w2,w3⟩;exact aj ⟨v,rfl,w3⟩
  ·rintro _ w ⟨v,rfl,hw⟩;exact acE
  
  refine uy (λ(v:D×fX) (w:ah×fX×List ByS×Bool)=>∃ a a2 l im,OC s T a a2 l/\0<=a/\a2<T.length/\v=(H s T a b false none,fX.mk pk im [] [])/\w=(RX s T b a2 false,fX.mk pk im [] [],lead++l,(List.length l:Int)==0)/\(im.length:Int)<=a/\(lead.length:Int)<=a/\(im=[]\/∃ u,T[(a - 1).toNat]?=some u/\u.aq≠6/\1<=a)) (λp w=>∃ v,p=PF v/\FS s T b v w.1) ?_ ?_ n hm _ _ ⟨a,a,[],[],.nil,h0,h1,rfl,bn,by simpa using h0,hl,.inl rfl⟩
  ·rintro _ w ⟨v,rfl,hw⟩ next';exact aw (λ_=>bC (yW hw) (aG (hf _ _ ⟨v,rfl,hw⟩))) λ_=>hf _ _ ⟨v,rfl,hw⟩
  rintro _ _ ⟨a,a2,l,im,oc,h0,h2,rfl,rfl,him,hla,hpr⟩ next next' hn hf2;obtain ⟨le2,ll2,sz2⟩:=oc.le hC h0;obtain ⟨t,ht⟩:∃ t,T[a.toNat]?=some t:=⟨_,az aB⟩;have nx:=uN h0 ht;refine fJ nx (rN ?_);have out:=hj _ _ ⟨a,a2,l,im,oc,h0,h2,rfl,rfl,aB,hla⟩;cases oc with
  | @cons a a2 u l hu hk ho h=>
   rw[ht] at hu;cases hu
   rw[kw hk]
   refine aF du λ_=>aJ (λh=>?_) λ_=>out
   have h:((List.length (t.bM::l):Nat):Int)=0:=by simpa using h
   simp at h;omega
  | nil=>
   refine aJ (λ_=>?_) λh=>by simp at h
   refine bj (G:=λ_=>cG (RX s T b a false)) (b:=(true,RX s T b a false)) uY (aJ (λ_=>bj Fw (bj acB ?_)) du)
   cases hw:D1 t [105,109,112,111,114,116] with
   | false=>exact aF du λ_=>aJ du λ_=>out
   | true=>
    have k1:=(Ep hw).1
    refine aF (λ_=>aJ (λ_=>?_) du) du
    have imp:LK (ag (ga n (H s T a b false none)) λy29=>gd (nP 40 im.length (List.length [y29.1])) (next (y29.2,(fX.mk pk (im++[y29.1]) [] []))))
      (λi=>ag (jW (m i) (RX s T b a false)) λy30=>gd (nP 40 im.length (List.length [y30.1])) (ag (jx (m i) y30.2) λy33=>gd (nP 16 (List.length (lead++[])) y33.1.length) (next' i (y33.2,(fX.mk pk (im++[y30.1]) [] []),(lead++[])++y33.1,((List.length y33.1:Int)==0))))) (VFl s T b) (WFl s T b):=by
     refine cm (SM hC hm h0 ht aB) ?_ ?_
     ·rintro _ _ ⟨x,a',rfl,rfl,q0,q1,u,hu,hu6⟩
      obtain ⟨a3,l3,t3,oc3,Uh,lt3,ho3⟩:=õ (s:=s) hC (show 0<=a' by omega) q1
      obtain ⟨le3,ll3,_⟩:=oc3.le hC aB
      refine bG λhg=>bV hg (bj (ö hm hC aB oc3 Uh ho3) (bV (by simp;(first|omega|(simp[cD,nP,Bp,maxLen]<;>omega))) ?_))
      refine hn _ _ ⟨a',a3,l3,im++[x],oc3,aB,lt3,rfl,bn,qI,aB,.inr ⟨u,hu,hu6,aB⟩⟩
     ·rintro _ y ⟨v,rfl,hy⟩
      exact aH (ai (LU hm hC hy) λr hr=>dy (by have:=hr.2;simp;(first|omega|(simp[cD,nP,Bp,maxLen]<;>omega))) (hf2 _ _ Vb))
    by_cases hi:im=[]
    ·exact aF (λ_=>imp) λh=>ao h (by simp[hi])
    ·refine aF (λh=>ao jg hi) λ_=>bG λ_=>je λx _ hx=>?_;obtain h|⟨u,hu,hu6,_⟩:=hpr
     ·exact ao h hi
     have hx:T[(a - 1).toNat]?=some x:=hx;rw[hu] at hx;cases hx;exact aF (λ_=>imp) λh=>ao jg hu6
 ·
  rintro _ w ⟨v,rfl,hw⟩;obtain hw|⟨a,t,e,h0,ht,h6,ho,rfl⟩:=hw
  ·refine bC (yW hw) (cT (px hm λ_=>aG ?_));exact acE
  rw[e];have nx:=uN h0 ht;refine bC (a:=(true,RX s T b a false)) rfl (cT (px hm λ_=>aY (bC (a:=(true,RX s T b a false)) rfl (aY (ai Fw ?_)))));rintro _ rfl;refine ai acB ?_;rintro _ rfl;rw[kw h6];exact aG (ai (ajR hm hC h0 ht h6 ho) λr hr=>aj ⟨_,rfl,hr⟩)
 
 have nx1:=uN aB ht1;by_cases h6:t1.aq=6
 ·refine LK.ex (qM (cl1.2 h6)) (ai (jl hm hC nx1) ?_);rintro _ rfl;refine ai (FV b t1 _) ?_;rintro _ rfl;rw[kw h6];exact aG (hf _ _ ⟨_,rfl,.inr ⟨a1,t1,rfl,by omega,ht1,h6,ho1 h6,rfl⟩⟩)
 refine gR (cl1.1 h6) (bj (jl hm hC nx1) (bj (FV b t1 _) (fJ nx1 (rN ?_))));cases hw:D1 t1 [112,97,99,107,97,103,101] with
 | false=>exact aF du λ_=>aJ du λ_=>hj _ _ ⟨a1,[],l1,rfl,rfl,by omega,lt1,by omega,sz1⟩
 | true=>
  have k1:=(Ep hw).1
  have l2:=nx1.Cp hC aB
  refine aF (λ_=>aJ (λ_=>bG λ_=>bj (oI hm hC nx1 aB) ?_) du) du
  obtain ⟨u,hu⟩:∃ u,T[(a1+1).toNat]?=some u:=⟨_,az aB⟩
  have nu:=uN aB hu
  have l1len:(l1.length:Int)<=70000:=by omega
  have tl:∀ {v:Int} {y:ah} {nm:ByS},FS s T b v y->Ev (λi=>ag (jx (m i) y) λy46=>gd (nP 16 l1.length y46.1.length) (j' i (y46.2,(fX.mk nm [] [] []),l1++y46.1))) (WFl s T b (PF v)) di:=λhy=>ai (LU hm hC hy) λr hr=>dy (by have:=hr.2;(first|omega|(simp[cD,nP,Bp,maxLen]<;>omega))) (hf _ _ ⟨_,rfl,.inl hr.1⟩)
  refine LK.name hm hC nu (λku _=>?_) λv r hr=>ai (BZ hm hC hr) λz hz=>tl hz
  have l3:=nu.Cp hC aB
  refine HC hm hC aB l3 (λw hw h6w l4 _=>?_) λv r hr=>tl hr
  obtain ⟨a3,l5,t3,oc3,Uh,lt3,ho3⟩:=õ (s:=s) hC (show 0<=a1+1+1+1 by omega) l4
  obtain ⟨le3,ll3,sz3⟩:=oc3.le hC aB
  have cl3:=adP (n:=n) hC hL aB oc3 Uh ho3
  refine bj (ö hm hC aB oc3 Uh ho3) ?_
  by_cases h63:t3.aq=6
  ·refine LK.ex (qM (cl3.2 h63)) (aH (hf _ _ ⟨_,rfl,.inr ⟨a3,t3,rfl,aB,Uh,h63,ho3 h63,rfl⟩⟩))
  ·refine gR (cl3.1 h63) (bG λhg=>bV hg (hj _ _ ⟨a3,u.bM,l1++l5,rfl,rfl,aB,lt3,qI,λx hx=>?_⟩));obtain w|w:=bH.1 hx
   ·exact sz1 x w
   exact sz3 x w
end
def ù (k:Int):Option Int:=if 48<=k/\k<=57 then some (k - 48) else if 65<=k/\k<=90 then some (k - 55) else if 97<=k/\k<=122 then some (k - 87) else none
def hx (b:UInt8):Option Int:=(ù b.toNat).filter λd=>decide (d<16)
def alQ:∀ k:Fin 256,(97<=HI .u8 (k.val:Int) 32/\HI .u8 (k.val:Int) 32<=122->(65<=k.val/\k.val<=90/\HI .u8 (k.val:Int) 32=k.val+32)\/(97<=k.val/\k.val<=122/\HI .u8 (k.val:Int) 32=k.val))/\
 ((65<=k.val/\k.val<=90)\/(97<=k.val/\k.val<=122)->97<=HI .u8 (k.val:Int) 32/\HI .u8 (k.val:Int) 32<=122):=by decide +kernel
def tb {β γ:Type} {x:aI β} {c:β} {f:β->aI γ} {d:γ} (h:Tk x c) (h':Tk (f c) d):Tk (ag x f) d:=by
 exact Vy
def YA {x:Int} (h0:0<=x) (h1:x<18446744073709551616):IntKind.wrap .u64 x=x:=by
 exact aiz
def Py {x:Int} (h0:0<=x) (h1:x<256):IntKind.wrap .u8 x=x:=by
 have:IntKind.wrap .u8 x=x % 256:=by simp[IntKind.wrap,IntKind.bits,IntKind.signed]
 rw[this];omega
section
variable {k:Int} {x y:UInt8}
def ajS (h0:0<=k) (h1:k<256) {X:aI α} {WE:Int->aI α} {e:aI α}:(jn (λ(v57:Bool)=>br v57 X (jn (λ(v63:Bool)=>br v63 (WE (IntKind.wrap .u8 (k - 48))) (ag (fv k) λy68=>br (decide (97<=y68)) (ag (fv k) λy70=>br (decide (y70<=122)) (ag (fv k) λy72=>WE (IntKind.wrap .u8 ((IntKind.wrap .u8 (y72 - 97))+10))) e) e)) λj64=>br (decide (48<=k)) (j64 ((decide (k<=57)))) (j64 (false)))) λj58=>br (k==95) (j58 (((16:Int)==0))) (j58 (false)))=match ù k with|some d=>WE d|none=>e:=by
 obtain ⟨q1,q2⟩:=alQ ⟨k.toNat,aB⟩;have ek:((k.toNat:Nat):Int)=k:=by omega
 simp only[ek] at q1 q2;have fin:(jn (λ(v63:Bool)=>br v63 (WE (IntKind.wrap .u8 (k - 48))) (ag (fv k) λy68=>br (decide (97<=y68)) (ag (fv k) λy70=>br (decide (y70<=122)) (ag (fv k) λy72=>WE (IntKind.wrap .u8 ((IntKind.wrap .u8 (y72 - 97))+10))) e) e)) λj64=>br (decide (48<=k)) (j64 ((decide (k<=57)))) (j64 (false)))=match ù k with|some d=>WE d|none=>e:=by
  unfold ù aI.jn fv;by_cases c1:48<=k/\k<=57
  ·rw[aL c1,aX c1.1,aX c1.2,Py aB aB];rfl
  rw[aE c1];have lhs:∀ Y:aI α,br (decide (48<=k)) (br (decide (k<=57)) (WE (IntKind.wrap .u8 (k - 48))) Y) (br false (WE (IntKind.wrap .u8 (k - 48))) Y)=Y:=λY=>by
   by_cases c2:48<=k
   ·rw[aX c2,bw (λh=>c1 ⟨c2,h⟩)];rfl
   rw[bw c2];rfl
  refine Eq.trans (lhs _) ?_;simp only[Aj];by_cases c3:97<=HI .u8 k 32/\HI .u8 k 32<=122
  ·rw[aX c3.1,aX c3.2];obtain ⟨w1,w2,w3⟩|⟨w1,w2,w3⟩:=q1 c3
   ·rw[aL ⟨aB,aB⟩,w3,Py (x:=k+32 - 97) aB aB,Py aB aB];show WE _=WE _;congr 1;omega
   rw[aE aB,aL ⟨aB,aB⟩,w3,Py (x:=k - 97) aB aB,Py aB aB];show WE _=WE _;congr 1;omega
  rw[aE (λh=>c3 (q2 (.inl ⟨aB,aB⟩))),aE (λh=>c3 (q2 (.inr ⟨aB,aB⟩)))];by_cases c4:97<=HI .u8 k 32
  ·rw[aX c4,bw (λh=>c3 ⟨c4,h⟩)];rfl
  rw[bw c4];rfl
 rw[<- fin];show br (k==95) (br ((16:Int)==0) X _) (br false X _)=_;cases k==95<;>rfl
def ve (x y:UInt8):Option Int:=match hx x,hx y with|some a,some b=>some (16*a+b)|_,_=>none
def adQ (h:ù k=some d):0<=d/\d<=35:=by
 unfold ù at h;exact ŭ
def UC {c:UInt8} (h:hx c=some d):0<=d/\d<=15/\ù c.toNat=some d:=by
 unfold hx at h;cases hd:ù c.toNat with
 | none=>rw[hd] at h;cases h
 | some e=>
  have:=adQ hd
  rw[hd] at h
  by_cases q:e<16
  ·simp[Option.filter,q] at h;subst h;exact ⟨by omega,by omega,rfl⟩
  ·simp[Option.filter,q] at h
def ajT:Tk (lC n [x,y] 16 8) (match ve x y with|some v=>(v,0)|none=>(0,2)):=by
 unfold lC;refine cz (λh=>by simp at h) λ_=>rp (λv=>v=([x,y],16)) (λv hv=>?_) λj hj=>rp (λv=>v=true) (λv hv=>?_) λj2 x9=>cz (λ_=>x9 _ dN) λh=>ao (aW h) dN
 rotate_left
 ·subst hv;exact hj _ rfl
 subst hv;refine rp (λv=>v=8) (λv hv=>?_) λj hj=>cz (λh=>ao h dN) λ_=>cz (λh=>ao (bh h) dN) λ_=>cz (λh=>ao (bh h) dN) λ_=>hj _ rfl;subst hv;refine rp (λv=>v=1152921504606846976) (λv hv=>?_) λj hj=>cz (λh=>ao h (show ¬ (((16:Int)==10)=true) by decide)) λ_=>cz (λ_=>hj _ rfl) λh=>ao h (show ¬ (((16:Int)==16)=false) by decide);subst hv;refine dW λ_=>?_;have e16:IntKind.wrap .u8 16=16:=by decide
 have e16':IntKind.wrap .u64 16=16:=by decide
 have e255:IntKind.wrap .u64 ((B9 .u64 1 (IntKind.wrap .u64 8)) - 1)=255:=by decide
 have eO:ofBytes [x,y]=[(x.toNat:Int),(y.toNat:Int)]:=rfl;dsimp only;rw[eO,e16,e16',e255]
 let I:Bool×Int×Int->Prop:=λst=>st.1=false/\((st.2.2=0/\st.2.1=0)\/(st.2.2=1/\hx x=some st.2.1)\/(st.2.2=2/\∃ d e,hx x=some d/\hx y=some e/\st.2.1=16*d+e))
 refine oS I ?_ n ⟨rfl,.inl ⟨rfl,rfl⟩⟩;rintro ⟨_,v,i⟩ ⟨rfl,hI⟩ next hn;dsimp only at hI ⊢;have key:(i=2/\∃ d e,hx x=some d/\hx y=some e/\v=16*d+e)\/∃ c:UInt8,(i=0\/i=1)/\[(x.toNat:Int),(y.toNat:Int)][i.toNat]?=some (c.toNat:Int)/\0<=v/\v<=15/\(∀ d,hx c=some d->I (false,v*16+d,i+1))/\(hx c=none->ve x y=none):=by
  obtain ⟨rfl,rfl⟩|⟨rfl,h⟩|⟨rfl,h⟩:=hI
  ·exact .inr ⟨x,.inl rfl,rfl,by decide,by decide,λd hd=>⟨rfl,.inr (.inl ⟨rfl,by simpa using hd⟩)⟩,λh=>by simp[ve,h]⟩
  ·have:=UC h;exact .inr ⟨y,.inr rfl,rfl,aB,aB,λe he=>⟨rfl,.inr (.inr ⟨rfl,v,e,h,he,eX⟩)⟩,λh2=>by simp[ve,h,h2]⟩
  exact .inl ⟨rfl,h⟩
 obtain ⟨rfl,d,e,h1,h2,rfl⟩|⟨c,hi,hc,v0,v1,hs,G9⟩:=key
 ·refine cz (λh=>ao (bh h) bn) λ_=>cz du λ_=>iA ?_;simp[ve,h1,h2]
 refine cz (λ_=>k8 λz _ hz=>?_) λh=>ao (aW h) (by obtain rfl|rfl:=hi<;>simp);rw[hc] at hz;cases hz;have bc:=Hj c;refine rp (λd=>ù c.toNat=some d) (λd hd=>?_) λj hj=>?_
 ·have Hg:=adQ hd;by_cases q:d<16
  ·have hxc:hx c=some d:=by simp[hx,hd,Option.filter,q]
   refine cz (λh=>ao (bh h) aB) λ_=>cz (λh=>ao (bh h) aB) λ_=>?_;rw[YA (x:=v*16) aB aB,YA (x:=d) aB aB,YA (x:=v*16+d) aB aB];exact cz (λh=>ao (bh h) aB) λ_=>cz (λh=>ao (bh h) aB) λ_=>dW λ_=>hn _ (hs d hxc)
  have hxc:hx c=none:=by simp[hx,hd,Option.filter,q]
  rw[G9 hxc];exact cz (λ_=>ll) λh=>ao (aW h) aB
 have e:=ajS (k:=(c.toNat:Int)) aB aB (X:=gd (cD (i+1)) (next (true,v,i+1))) (WE:=j) (e:=.ok (0,2));refine Eq.mpr (iP (λz=>Tk z _) e) ?_;cases hd:ù c.toNat with
 | none=>
  have hxc:hx c=none:=by simp[hx,hd,Option.filter]
  rw[G9 hxc]
  exact ll
 | some d=>exact hj _ hd
def Jp:ByS->Int×Int
 | x::y::_=>(match ve x y with|some v=>(v,4)|none=>(0,0))
 | _=>(0,0)
def Co {r:ByS}:Jp (x::y::r)=(match ve x y with|some v=>(v,4)|none=>(0,0)):=rfl
def xW (c:UInt8) (r:ByS):Int×Int:=if c=34\/c=92 then ((c.toNat:Int),2) else if c=110 then (10,2) else if c=116 then (9,2) else if c=114 then (13,2) else if c=120 then Jp r else (0,0)
def DJ:ByS->Int×Int
 | _::c::r=>xW c r
 | _=>(0,0)
def adR {v:Int} (h:ve x y=some v):0<=v/\v<=255:=by
 unfold ve at h;cases h1:hx x with
 | none=>simp[h1] at h
 | some a=>
  cases h2:hx y with
  | none=>simp[h1,h2] at h
  | some b=>
   have:=UC h1
   have:=UC h2
   simp[h1,h2] at h;omega
end
section
variable {m:Nat->Nat}
def Pz {x y:UInt8}:Tk (pH n [x,y] 16 8) (match ve x y with|some v=>(v,false)|none=>(0,true)):=by
 unfold pH;refine tb ajT ?_;cases h:ve x y with
 | some v=>exact cz TC λ_=>ll
 | none=>exact cz (λ_=>by unfold vB;exact tb Qx ll) λh=>by simp at h
variable {b:UInt8}
def SN:Tk (qV n u) (DJ u):=by
 unfold qV;obtain _|⟨c0,_|⟨c,r⟩⟩:=u
 ·exact ű
 ·exact ű
 refine cz Ni λ_=>k8 λx _ hx=>?_;have hx:some c=some x:=hx;cases hx;rw[mO 34 34 rfl,mO 92 92 rfl,mO 110 110 rfl,mO 116 116 rfl,mO 114 114 rfl,mO 120 120 rfl];refine rp (λv=>v=(c==34||c==92)) (λv hv=>?_) λj hj=>cz (λh=>hj _ Cu) λh=>hj _ Cu;subst hv;show Tk _ (xW c r);unfold xW;refine cz (λh=>k8 λx _ hx=>iA ?_) λh=>?_
 ·have hx:some c=some x:=hx;cases hx;rw[aL jg]
 rw[aE jg];refine cz ZI λh=>?_;rw[aE jg];refine cz ZI λh=>?_;rw[aE jg];refine cz ZI λh=>?_;rw[aE jg];refine cz (λh=>?_) λh=>iA QL;rw[aL jg];obtain _|⟨x,_|⟨y,r⟩⟩:=r
 ·exact ű
 ·exact ű
 refine cz Ni λ_=>dW λ_=>tb (c:=match ve x y with|some v=>(v,false)|none=>(0,true)) Pz ?_;rw[Co];cases h:ve x y with
 | none=>exact cz (λ_=>ll) λh=>by cases h
 | some v=>
  have:=adR h
  exact cz du λ_=>iA (by dsimp only;rw[Py aB aB])
def W2:Ev (λ_=>wg (b.toNat:Int)) (λr=>r=(hx b).getD (-1)) di:=by
 have bb:=Hj b;unfold wg;rw[wrap_i64 (x:=(b.toNat:Int)) aB aB];refine bC (C0 b) ?_;rw[Pj];unfold hx ù;by_cases h1:48<=(b.toNat:Int)/\(b.toNat:Int)<=57
 ·rw[aX h1,aL h1];refine aY (aH (aj ?_));rw[show (Option.filter (λd=>decide (d<16)) (some ((b.toNat:Int) - 48)))=some ((b.toNat:Int) - 48) by simp[Option.filter];omega];rfl
 rw[bw h1,aE h1];refine aG (bz (λ_=>¬ (97<=(b.toNat:Int)/\(b.toNat:Int)<=102)) (λ_ h2=>?_) λj hj=>aR (λh2=>aR (λh3=>aH (aH (aj ?_))) λh3=>hj () aB) λh2=>hj () aB)
 ·refine aR (λh3=>aR (λh4=>aH (aH (aj ?_))) λh4=>aj ?_) λh3=>aj ?_
  ·rw[aL aB];rw[show (Option.filter (λd=>decide (d<16)) (some ((b.toNat:Int) - 55)))=some ((b.toNat:Int) - 55) by simp[Option.filter];omega];simp;omega
  ·by_cases h5:65<=(b.toNat:Int)/\(b.toNat:Int)<=90
   ·rw[aL h5,show (Option.filter (λd=>decide (d<16)) (some ((b.toNat:Int) - 55)))=none by simp[Option.filter];omega];rfl
   rw[aE h5];by_cases h6:97<=(b.toNat:Int)/\(b.toNat:Int)<=122
   ·rw[aL h6,show (Option.filter (λd=>decide (d<16)) (some ((b.toNat:Int) - 87)))=none by simp[Option.filter];omega];rfl
   rw[aE h6];rfl
  rw[aE aB,aE aB];rfl
 rw[aE aB,aL aB,show (Option.filter (λd=>decide (d<16)) (some ((b.toNat:Int) - 87)))=some ((b.toNat:Int) - 87) by simp[Option.filter];omega];simp;omega
def HD {s:ByS} {a:Int} (h0:0<=a) (hb:s[a.toNat]?=some 92) (hs:s.length<=70000):Ev (λ_=>wU s a) (λr=>r=DJ (s.drop a.toNat)) di:=by
 unfold wU vi;have iy:=(an.1 hb).1;have hd:s.drop a.toNat=92::s.drop (a.toNat+1):=by
  rw[an] at hb;obtain ⟨q1,q2⟩:=hb;rw[bZ q1,q2]
 rw[hd];refine aH (aR (λh=>aj ?_) λh=>g h0 hb (aw QK λ_=>aH ?_))
 ·rw[dY aB];rfl
 obtain ⟨c,hc⟩:∃ c,s[(a+1).toNat]?=some c:=⟨_,az aB⟩;have Hg:s.drop (a.toNat+1)=c::s.drop (a.toNat+2):=by
  rw[an] at hc;obtain ⟨q1,q2⟩:=hc;rw[show a.toNat+1=(a+1).toNat by omega,bZ q1,q2];congr 2;omega
 rw[Hg];show Ev _ (λr=>r=xW c (s.drop (a.toNat+2))) _;unfold xW;refine g aB hc ?_;rw[mO 34 34 rfl,mO 92 92 rfl,mO 110 110 rfl,mO 116 116 rfl,mO 114 114 rfl];refine bz (λv=>v=(c==34||c==92)) (λv hv=>?_) λj hj=>aw (λh=>hj _ Cu) λh=>hj _ Cu;subst hv;refine aw (λh=>aH (g aB hc (aj ?_))) λh=>?_
 ·rw[aL jg]
 rw[aE jg];refine aw ID λh=>?_;rw[aE jg];refine aw ID λh=>?_;rw[aE jg];refine aw ID λh=>?_;rw[aE jg];by_cases h120:c=120
 ·rw[aL h120];have big:a+3<s.length->∃ x y,s[(a+2).toNat]?=some x/\s[(a+3).toNat]?=some y/\s.drop (a.toNat+2)=x::y::s.drop (a.toNat+4):=λh=>by
   have h2:a.toNat+2<s.length:=by omega
   have h3:a.toNat+3<s.length:=by omega
   refine ⟨s[a.toNat+2],s[a.toNat+3],?_,?_,?_⟩
   ·rw[show (a+2).toNat=a.toNat+2 by omega];exact az h2
   ·rw[show (a+3).toNat=a.toNat+3 by omega];exact az h3
   rw[bZ h2,bZ h3]
  have nobig:¬ a+3<s.length->Jp (s.drop (a.toNat+2))=(0,0):=λh=>by
   rcases hq:s.drop (a.toNat+2) with _|⟨x,_|⟨y,r⟩⟩
   ·rfl
   ·rfl
   have:=iP List.length hq;simp at this;omega
  refine bz (λv=>(v=true/\∃ x y w,s[(a+2).toNat]?=some x/\s[(a+3).toNat]?=some y/\ve x y=some w/\s.drop (a.toNat+2)=x::y::s.drop (a.toNat+4))\/(v=false/\Jp (s.drop (a.toNat+2))=(0,0))) (λv hv=>?_) λj hj=>?_
  ·obtain ⟨rfl,x,y,w,qx,qy,hw,hdr⟩|⟨rfl,hq⟩:=hv
   ·rw[hdr,Co,hw];have lt3:=(an.1 qy).1;have Mc:=hw;unfold ve at Mc;cases h1:hx x with
    | none=>simp[h1] at Mc
    | some d=>
     cases h2:hx y with
     | none=>simp[h1,h2] at Mc
     | some e=>
      have Mc:16*d+e=w:=by simpa[h1,h2] using Mc
      have b1:=UC h1
      have b2:=UC h2
      refine aY (aH (g aB qx (aH (g aB qy (ai W2 ?_)))))
      rintro _ rfl
      refine ai W2 ?_
      rintro _ rfl
      rw[h1,h2]
      have w1:IntKind.i64.wrap (16*(some d).getD (-1))=16*d:=wrap_i64 (by show _<=16*d;omega) (by show 16*d<=_;omega)
      refine dy (by show cD _;rw[w1];show cD (16*d+e);(first|omega|(simp[cD,nP,Bp,maxLen]<;>omega))) (aj ?_)
      rw[w1]
      show (IntKind.u8.wrap (16*d+e),4)=_
      rw[Py aB aB,Mc]
   rw[hq];exact aG uY
  refine aH (g aB hc (aw (λ_=>aH (aR (λh=>?_) λh=>hj _ (.inr ⟨rfl,nobig h⟩))) λh=>ao h (by rw[mO 120 120 rfl,h120];decide)));obtain ⟨x,y,qx,qy,hdr⟩:=big h;refine aH (g aB qx (ai W2 ?_));rintro _ rfl;cases h1:hx x with
  | none=>
   refine aG (hj _ (.inr ⟨rfl,?_⟩))
   rw[hdr];simp[Jp,ve,h1]
  | some d=>
   have b1:=UC h1
   dsimp only [Option.getD]
   rw[aX aB]
   refine aY (aH (g aB qy (ai W2 ?_)))
   rintro _ rfl
   cases h2:hx y with
   | none=>
    refine hj _ (.inr ⟨rfl,?_⟩)
    rw[hdr];simp[Jp,ve,h1,h2]
   | some e=>
    have b2:=UC h2
    dsimp only [Option.getD]
    rw[aX aB]
    exact hj _ (.inl ⟨rfl,x,y,16*d+e,qx,qy,by simp[ve,h1,h2],hdr⟩)
 rw[aE h120];refine bz (λv=>v=false) (λv hv=>by subst hv;exact aG uY) λj hj=>aH (g aB hc (aw (λh=>ao h (by rw[mO 120 120 rfl];simpa using h120)) λ_=>hj _ rfl))
def W3:(DJ u).2=0\/((DJ u).2=2/\2<=u.length)\/((DJ u).2=4/\4<=u.length):=by
 obtain _|⟨c0,_|⟨c,r⟩⟩:=u
 ·exact .inl rfl
 ·exact .inl rfl
 show (xW c r).2=0\/((xW c r).2=2/\2<=(c0::c::r).length)\/((xW c r).2=4/\4<=(c0::c::r).length);unfold xW;split
 ·exact .inr (.inl J7)
 split
 ·exact .inr (.inl J7)
 split
 ·exact .inr (.inl J7)
 split
 ·exact .inr (.inl J7)
 split
 ·obtain _|⟨x,_|⟨y,r⟩⟩:=r
  ·exact .inl rfl
  ·exact .inl rfl
  rw[Co];cases ve x y with
  | none=>exact .inl rfl
  | some v=>exact .inr (.inr J7)
 exact .inl rfl
def GI {x:ByS} (hm:bL m):LK (nS n x) (λi=>fM (m i) x) (λy z=>z=y) (λ_ _=>False):=by
 unfold nS fM oj jk;have f8:∀ {v:Int} {X:aI (ByS×dH)},X=.ok (([]:ByS),dH.mk 8 v)->LK X (λ_=>ag (nH v) λy=>.ok (([]:ByS),y)) (λy z=>z=y) (λ_ _=>False):=λh=>by subst h;exact b9 rfl
 refine dG rfl (λ_=>b9 rfl) λhs=>dG rfl (λ_=>f8 rfl) λuB=>je λb _ hb=>eV dN hb (dG rfl (λ_=>f8 rfl) λ_=>?_);have hs:¬ (x.length:Int)>65536:=aW hs;refine uL (λ(v:List Int×Int) w=>w=v/\1<=v.2/\v.2<=x.length+4) ?_ n hm _ _ ⟨rfl,dN,eX⟩;rintro ⟨l,i⟩ _ ⟨rfl,i0,i1⟩ next next' hn;dsimp only at i0 i1 ⊢;by_cases hi:i<x.length
 ·obtain ⟨c,hc⟩:∃ c,x[i.toNat]?=some c:=⟨_,az aB⟩;refine aF IE λ_=>aJ (λ_=>?_) λh=>ao qO aB;refine je λz _ hz=>eV aB hc ?_;rw[hc] at hz;cases hz;refine dG rfl (λ_=>bG λhg=>bV hg (dG rfl (λ_=>bG λhg=>bV hg (f8 rfl)) λ_=>b9 rfl)) λ_=>?_;refine je λz _ hz=>?_;rw[hc] at hz;cases hz;refine dG rfl (λDV=>bG λ_=>gR SN ?_) λ_=>?_
  ·rw[mO 92 92 rfl,cg] at DV;subst DV;refine bj (HD aB hc aB) ?_;have er:=@W3 (x.drop i.toNat);simp only[iw] at er;show LK (br ((DJ (gL x i)).2==0) _ _) _ _ _;rw[show gL x i=x.drop i.toNat from rfl];refine dG rfl (λ_=>f8 rfl) λh0=>?_;have h0:(DJ (x.drop i.toNat)).2≠0:=by simpa using h0
   have er:=er.resolve_left h0;refine bG λhg=>bV hg (bG λhg=>bV hg (bV zR (bV zR ?_)));rw[show i+(DJ (x.drop i.toNat)).2 - 1+1=i+(DJ (x.drop i.toNat)).2 by omega];exact hn _ _ IF
  refine yL (λ(v:Bool) w=>w=v) (λ_ _=>False) ?_ (λ_ _ h=>h.elim) λj j' hj _=>?_
  ·rintro v _ rfl;refine dG rfl (λ_=>f8 rfl) λ_=>je λz _ hz=>?_;rw[hc] at hz;cases hz;exact bG λhg=>bV hg (bG λhg=>bV hg (hn _ _ IF))
  refine je λz _ hz=>?_;rw[hc] at hz;cases hz;refine dG rfl (λ_=>hj _ _ rfl) λ_=>je λz _ hz=>?_;rw[hc] at hz;cases hz;exact hj _ _ rfl
 exact aF (λ_=>aJ (λh=>ao B2 hi) λ_=>f8 rfl) λh=>ao qO aB
end
def adS {u:ByS} (h:(DJ u).2≠0):0<=(DJ u).1/\(DJ u).1<=255:=by
 obtain _|⟨c0,_|⟨c,r⟩⟩:=u
 ·exact Kf
 ·exact Kf
 have bc:=Hj c;show 0<=(xW c r).1/\(xW c r).1<=255;have h:(xW c r).2≠0:=h;unfold xW at h ⊢;split
 ·dsimp only;omega
 split
 ·decide
 split
 ·decide
 split
 ·decide
 split
 ·rename_i h1 h2 h3 h4 h5;rw[aE h1,aE h2,aE h3,aE h4,aL h5] at h;obtain _|⟨x,_|⟨y,r⟩⟩:=r
  ·exact Kf
  ·exact Kf
  rw[Co] at h ⊢;cases q:ve x y with
  | none=>rw[q] at h;exact Kf
  | some v=>exact adR q
 decide
def adT {v:Int}:nP 1 (List.length ([]:List Int)) (List.length [v]):=by show nP 1 0 1;decide
section
variable {m:Nat->Nat}
variable {c:UInt8}
def adU (hm:bL m) (hr:r.length<=9) (h:c=34\/(c.toNat:Int)<32\/(c.toNat:Int)>126\/(c=92/\(DJ (92::(r++[34]))).2=0)) :
  Ev (λi=>fM (m i) (34::c::(r++[34]))) (λz=>z.2.eU≠0) di:=by
 unfold fM nH oj jk
 refine aw Ni λ_=>aw (λh=>by simp at h;omega) λ_=>g (x:=34) aB rfl (aG (jX hm ?_))
 dsimp only
 refine aw (λ_=>g (x:=c) aB rfl ?_) λh=>ao qO qI
 rw[mO 34 34 rfl,mO 92 92 rfl]
 have f8:∀ {v:Int},Ev (λ_:Nat=>ag (.ok (dH.mk 8 v)) λy=>.ok (([]:ByS),y)) (λz=>z.2.eU≠0) di:=aj Zt
 refine aw (λ_=>dy dN (aw (λ_=>dy dN f8) λh=>ao qO qI)) λh34=>aw (λDV=>?_) λDV=>?_
 ·have DV:c=92:=by simpa using DV
  subst DV
  refine ai (HD dN rfl qI) ?_
  rintro _ rfl
  rw[show List.drop (1:Int).toNat (34::92::(r++[34]))=92::(r++[34]) from rfl]
  obtain h|h|h|h:=h
  ·exact Ki
  ·exact Ki
  ·exact Ki
  ·rw[h.2];exact aY f8
 ·refine bz (λv=>v=true) (λv hv=>by subst hv;exact aY f8) λj hj=>aw (λ_=>hj _ rfl) λh1=>hj _ (aX ?_)
  have h1:=aW h1
  obtain h|h|h|h:=h
  ·subst h;exact ao h34 dN
  ·omega
  ·exact h
  ·exact ao DV (by simp[h.1])
def ajU (hm:bL m):Ev (λi=>fM (m i) [34,92,34]) (λz=>z.2.eU≠0) di:=by
 unfold fM nH oj jk;refine aG (aG (g (x:=34) aB rfl (aG (jX hm ?_))));dsimp only;refine aY (g (x:=92) aB rfl (aG (aY (ai (HD dN rfl dN) ?_))));rintro _ rfl;refine aG (dy dN (dy dN (dy dN (dy dN (jX hm.pred ?_)))));dsimp only;exact aG (aj dN)
def ajV (hm:bL m) (hr:r.length<=9) (h:(DJ (92::(r++[34]))).2=r.length+1) :
  Ev (λi=>fM (m i) (34::92::(r++[34]))) (λz=>z=([UInt8.ofNat (DJ (92::(r++[34]))).1.toNat],dH.mk 0 0)) di:=by
 unfold fM nH oj jk
 refine aw Ni λ_=>aw (λh=>by simp at h;omega) λ_=>g (x:=34) aB rfl (aG (jX hm ?_))
 dsimp only
 refine aw (λ_=>g (x:=92) aB rfl (aG (aY (ai (HD dN rfl qI) ?_)))) λh=>ao qO qI
 rintro _ rfl
 rw[show List.drop (1:Int).toNat (34::92::(r++[34]))=92::(r++[34]) from rfl]
 refine aw (λh0=>ao h (by rw[cg] at h0;omega)) λ_=>dy adT (aH (aH (aH (jX hm.pred ?_))))
 dsimp only
 have e:(1:Int)+(DJ (92::(r++[34]))).2 - 1+1=r.length+2:=by omega
 have lst:(34::92::(r++[34]))[((r.length:Int)+2).toNat]?=some 34:=by
  rw[show ((r.length:Int)+2).toNat=r.length+1+1 by omega]
  simp
 rw[e]
 refine aw (λ_=>g aB lst (aY (aH (aw Ni λ_=>aj (by simp[jQ]))))) λh=>ao qO qI
def ajW (hm:bL m) (h34:c≠34) (DV:c≠92) (h0:¬ (c.toNat:Int)<32) (h1:¬ (c.toNat:Int)>126) :
  Ev (λi=>fM (m i) [34,c,34]) (λz=>z=([c],dH.mk 0 0)) di:=by
 unfold fM nH oj jk
 refine aG (aG (g (x:=34) aB rfl (aG (jX hm ?_))))
 dsimp only
 refine aY (g (x:=c) aB rfl ?_)
 rw[mO 34 34 rfl,mO 92 92 rfl]
 refine aw (λh=>ao h (by simpa using h34)) λ_=>aw (λh=>ao h (by simpa using DV)) λ_=>bz (λv=>v=false) (λv hv=>?_) λj hj=>aw (λh=>ao B2 h0) λ_=>hj _ (bw h1)
 subst hv
 refine aG (dy adT (dy dN (jX hm.pred ?_)))
 dsimp only
 exact aY (g (x:=34) aB rfl (aY (dy dN (aG (aj (by simp[jQ]))))))
end
def E5:ByS->Int
 | []=>0
 | c::r=>if c=92 then (DJ (c::r)).2 else if c=34\/(c.toNat:Int)<32\/(c.toNat:Int)>126 then 0 else 1
def W4:ByS->Int
 | []=>0
 | c::r=>if c=92 then (DJ (c::r)).1 else c.toNat
def agl {x:UInt8}:ve x 34=none:=by
 have:hx 34=none:=by decide
 unfold ve;rw[this];cases hx x<;>rfl
def alR {r:ByS} {j:Nat} (h1:1<=j) (h2:j<=r.length) (h3:j<=3) :
  ((DJ (92::r)).2=0\/(j:Int)+1<(DJ (92::r)).2->(DJ (92::(r.take j++[34]))).2=0)/\((DJ (92::r)).2=j+1->DJ (92::(r.take j++[34]))=DJ (92::r)):=by
 obtain ⟨d,r',rfl⟩:∃ d r',r=d::r':=by
  obtain _|⟨d,r'⟩:=r
  ·simp at h2;omega
  ·exact ⟨d,r',rfl⟩
 obtain ⟨j',rfl⟩:∃ j',j=j'+1:=⟨j - 1,aB⟩
 rw[oC]
 show ((xW d r').2=0\/_<(xW d r').2->(xW d (r'.take j'++[34])).2=0)/\((xW d r').2=_->xW d (r'.take j'++[34])=xW d r')
 unfold xW
 split
 ·exact ŵ
 split
 ·exact ŵ
 split
 ·exact ŵ
 split
 ·exact ŵ
 split
 ·simp only[j6] at h2
  obtain _|⟨x,_|⟨y,r⟩⟩:=r'
  ·exact ⟨λ_=>by simp[Jp],λ_=>by simp[Jp]⟩
  ·obtain rfl|rfl:j'=0\/j'=1:=by simp at h2;omega
   ·exact Zf
   ·exact ⟨λ_=>by show (match ve x 34 with|some v=>(v,(4:Int))|none=>(0,0)).2=0;rw[agl],λ_=>by show (match ve x 34 with|some v=>(v,(4:Int))|none=>(0,0))=(0,0);rw[agl]⟩
  ·obtain rfl|rfl|rfl:j'=0\/j'=1\/j'=2:=by omega
   ·refine ⟨λ_=>rfl,λh=>?_⟩
    rw[Co] at h
    cases q:ve x y with
    | none=>rw[q] at h;exact Ki
    | some v=>rw[q] at h;exact ao h (by show ¬ (4:Int)=_;decide)
   ·refine ⟨λ_=>by show (match ve x 34 with|some v=>(v,(4:Int))|none=>(0,0)).2=0;rw[agl],λh=>?_⟩
    rw[Co] at h
    cases q:ve x y with
    | none=>rw[q] at h;exact Ki
    | some v=>rw[q] at h;exact ao h (by show ¬ (4:Int)=_;decide)
   ·show (_->(Jp (x::y::[34])).2=0)/\(_->Jp (x::y::[34])=_)
    rw[Co,Co]
    refine ⟨λh=>?_,λ_=>rfl⟩
    cases q:ve x y with
    | none=>rfl
    | some v=>rw[q] at h;exact ao h (by show ¬ ((4:Int)=0\/_<(4:Int));omega)
 ·exact Zf
def adV:0<=E5 u/\E5 u<=4/\E5 u<=u.length/\(E5 u≠0->0<=W4 u/\W4 u<=255):=by
 obtain _|⟨c,r⟩:=u
 ·exact ⟨by decide,by decide,by decide,λh=>ao rfl h⟩
 have bc:=Hj c;simp only[E5,W4];by_cases h:c=92
 ·rw[aL h,aL h];have:=@W3 (c::r);exact ⟨by omega,by omega,by omega,λh=>adS h⟩
 rw[aE h,aE h];refine ⟨U9,U9,by simp only[j6];split<;>omega,λ_=>by omega⟩
section
variable {m:Nat->Nat}
def ú {k:Nat} (hm:bL m) (h1:1<=k) (h2:k<=u.length) (h3:k<=4) :
  (E5 u=0\/(k:Int)<E5 u->Ev (λi=>fM (m i) ([34]++u.take k++[34])) (λz=>z.2.eU≠0) di)/\(E5 u=k->Ev (λi=>fM (m i) ([34]++u.take k++[34])) (λz=>z=([UInt8.ofNat (W4 u).toNat],dH.mk 0 0)) di):=by
 obtain ⟨c,r,rfl⟩:∃ c r,u=c::r:=by
  obtain _|⟨d,r'⟩:=u
  ·simp at h2;omega
  ·exact ⟨d,r',rfl⟩
 obtain ⟨j,rfl⟩:∃ j,k=j+1:=⟨k - 1,aB⟩
 simp only[j6] at h2
 rw[oC,show [34]++c::List.take j r++[34]=34::c::(List.take j r++[34]) from rfl]
 have ht:(List.take j r).length=j:=by simp;omega
 simp only[E5,W4]
 by_cases h:c=92
 ·subst h
  rw[aL rfl,aL rfl]
  have er:=@W3 (92::r)
  by_cases hj:j=0
  ·subst hj
   exact ⟨λ_=>ajU hm,λh=>by omega⟩
  ·obtain ⟨e1,e2⟩:=alR (r:=r) (j:=j) aB aB aB
   refine ⟨λh=>adU hm aB (.inr (.inr (.inr ⟨rfl,e1 aB⟩))),λh=>?_⟩
   have e2:=e2 aB
   rw[<- e2]
   exact ajV hm aB (by rw[e2,ht];omega)
 ·rw[aE h,aE h]
  split
  ·rename_i hb
   exact ⟨λ_=>adU hm aB (by obtain hb|hb|hb:=hb<;>simp[hb]),λh=>by omega⟩
  ·rename_i hb
   refine ⟨λh=>by omega,λhj=>?_⟩
   obtain rfl:j=0:=by omega
   rw[List.take_zero]
   refine (ajW hm (λh=>hb (.inl h)) h (λh=>hb (.inr (.inl h))) λh=>hb (.inr (.inr h))).qh λz hz=>?_
   rw[hz];simp
def W5 {s:ByS} {a:Int} (hm:bL m) (h0:0<=a) (h1:a<s.length) (hs:s.length<=65536):Ev (λi=>s9 (m i) s a) (λr=>r=E5 (s.drop a.toNat)) di:=by
 unfold s9;obtain ⟨p0,p1,p2,_⟩:=@adV (s.drop a.toNat);have hl:(s.drop a.toNat).length=s.length - a.toNat:=iw;refine bN hm (λk:Int=>1<=k/\k<=5/\(E5 (s.drop a.toNat)=0\/k<=E5 (s.drop a.toNat))) (λk=>(5 - k).toNat) ⟨dN,dN,aB⟩ ?_;rintro k ⟨k1,k2,k3⟩ next hn;refine aw (λh=>?_) λh=>aj Nd;have h:=bh h;refine aH (aw (λh=>?_) λh=>aj Nd);have h:=bh h;refine aH (aH ?_);have es:sub s a (a+k)=(s.drop a.toNat).take k.toNat:=by unfold sub;congr 1;omega
 have lsub:(sub s a (a+k)).length<=4:=by rw[es,jo];omega
 refine dy ţ (dy ţ ?_);rw[es];obtain ⟨q1,q2⟩:=ú (u:=s.drop a.toNat) (k:=k.toNat) hm aB aB aB;by_cases hk:E5 (s.drop a.toNat)=k
 ·refine ai (q2 aB) ?_;rintro _ rfl;exact aY (aY (aj hk.symm))
 refine ai (q1 aB) λz hz=>?_;have nx:=hn (k+1) ⟨aB,aB,aB⟩ aB;exact aw (λh=>ao jg hz) λ_=>aH nx
end
def agm {d:UInt8}:(xW d r).2=0->xW d r=(0,0):=by
 unfold xW;split
 ·exact λh=>ao h (by show ¬ (2:Int)=0;decide)
 split
 ·exact QK
 split
 ·exact QK
 split
 ·exact QK
 split
 ·obtain _|⟨x,_|⟨y,r⟩⟩:=r
  ·exact λ_=>rfl
  ·exact λ_=>rfl
  rw[Co];cases ve x y with
  | none=>exact λ_=>rfl
  | some v=>exact λh=>ao h (by show ¬ (4:Int)=0;decide)
 exact λ_=>rfl
section
variable {m:Nat->Nat}
def û {x:ByS} {Q:ByS×dH->Prop} (h:Ev (λi=>fM i x) Q di):∃ y,Q y/\Tk (nS n x) y:=by
 obtain ⟨y,hq,_⟩:=h.get;cases e:nS n x with
 | stuck=>exact ⟨y,hq,.inl rfl⟩
 | ok z=>
  obtain ⟨w,⟨h1,h2⟩,_⟩:=(((GI mG).1 z e).both h).get
  exact ⟨z,h1▸h2,.inr rfl⟩
 | ry p=>exact ((GI (n:=n) mG).2 p e).get.elim λ_ h=>h.1.elim
def YB:Tk (rZ n (92::r)) (DJ (92::r)):=by
 unfold rZ;refine rp (λv=>v=4/\(∃ r',r=120::r')\/v=2/\¬ ∃ r',r=120::r') (λv hv=>?_) λj hj=>ob (Au _ _) (cz (λh=>hj _ (.inl ⟨rfl,?_⟩)) λh=>hj _ (.inr ⟨rfl,?_⟩))
 ·have sp:(DJ (92::r)).2=0\/(DJ (92::r)).2=v:=by
   obtain ⟨rfl,r',rfl⟩|⟨rfl,hv⟩:=hv
   ·show (xW 120 r').2=0\/_=_;show (Jp r').2=0\/(Jp r').2=_;obtain _|⟨x,_|⟨y,r⟩⟩:=r'
    ·exact .inl rfl
    ·exact .inl rfl
    rw[Co];cases ve x y with
    | none=>exact .inl rfl
    | some v=>exact .inr rfl
   obtain _|⟨d,r'⟩:=r
   ·exact .inl rfl
   have hd:d≠120:=λe=>hv ⟨r',by rw[e]⟩;show (xW d r').2=0\/(xW d r').2=2;unfold xW;rw[aE hd];split
   ·exact .inr rfl
   split
   ·exact .inr rfl
   split
   ·exact .inr rfl
   split
   ·exact .inr rfl
   exact .inl rfl
  have e0:(DJ (92::r)).2=0->DJ (92::r)=(0,0):=λh=>by
   obtain _|⟨d,r'⟩:=r
   ·rfl
   exact agm h
  have er:=@W3 (92::r);have v24:v=4\/v=2:=by obtain h|h:=hv<;>omega
  refine cz (λh=>iA (e0 ZE).symm) λh=>?_;have h:=aW h;refine dW λ_=>dW λ_=>dW λ_=>?_;rw[show sI (92::r) v=(92::r).take v.toNat from rfl];obtain ⟨q1,q2⟩:=ú (u:=92::r) (k:=v.toNat) mG aB aB aB;have e1:E5 (92::r)=(DJ (92::r)).2:=by simp only[E5];rw[aL trivial]
  have e2:W4 (92::r)=(DJ (92::r)).1:=by simp only[W4];rw[aL trivial]
  rw[e1] at q1 q2;rw[e2] at q2;by_cases hz:(DJ (92::r)).2=0
  ·obtain ⟨y,hy,ht⟩:=û (n:=n) (q1 (.inl hz));refine tb ht (cz (λ_=>iA (e0 hz).symm) λh=>ao jg hy)
  obtain ⟨y,rfl,ht⟩:=û (n:=n) (q2 aB);have ev:=adS hz;refine tb ht (cz du λ_=>k8 λx _ hx=>iA ?_);have hx:some (UInt8.ofNat (DJ (92::r)).1.toNat)=some x:=hx;cases hx;refine Prod.ext ?_ (by show v=_;omega);show ((UInt8.ofNat (DJ (92::r)).1.toNat).toNat:Int)=_;simp;omega
 ·obtain _|⟨d,r'⟩:=r
  ·exact Ki
  simp[List.isPrefixOf] at h;exact ⟨r',by rw[h]⟩
 rintro ⟨r',rfl⟩;simp[List.isPrefixOf] at h
def UD {s:ByS} {a:Int} (hm:bL m) (h0:0<=a) (hs:s.length<=65536) (hb:s[(a+1).toNat]?=some 40) :
  LK (vQ n (gL s (a+1))) (λi=>vt (m i) s (a+2)) (λy z=>y.2=false/\z<0\/y.2=true/\a+2<=z/\z<s.length/\y.1=sub s (a+2) z) (λ_ _=>False):=by
 unfold vQ vt
 have lu:(gL s (a+1)).length=s.length - (a+1).toNat:=by unfold gL;simp
 have gu:∀ j:Int,0<=j->(gL s (a+1))[j.toNat]?=s[(j+a+1).toNat]?:=λj hj=>by unfold gL;rw[dD];congr 1;omega
 have l1:=(an.1 hb).1
 obtain _|n:=n
 ·exact da
 show LK (br (decide ((0:Int)<(gL s (a+1)).length)) _ _) _ _ _
 refine aF (λ_=>je λz _ hz=>?_) λh=>ao qO aB
 rw[gu 0 dN,show ((0:Int)+a+1).toNat=(a+1).toNat by omega,hb] at hz
 cases hz
 refine aF (λ_=>bG λ_=>bG λ_=>?_) du
 refine uL (λ(v:Int×Int) (w:Int×Int)=>v.1=w.1+1/\w.2=v.2+a+1/\0<=w.1/\w.1<=v.2/\1<=v.2/\v.2<=(gL s (a+1)).length) ?_ n hm _ _ ⟨rfl,eX,eX,eX,eX,eX⟩
 rintro ⟨d,j⟩ ⟨d',j'⟩ ⟨i1,i2,i3,i4,i5,i6⟩ next next' hn
 dsimp only at i1 i2 i3 i4 i5 i6 ⊢
 subst i1 i2
 by_cases hj:j<(gL s (a+1)).length
 ·obtain ⟨c,hc⟩:∃ c,s[(j+a+1).toNat]?=some c:=⟨_,az aB⟩
  refine aF (λ_=>aJ (λ_=>je λz _ hz=>?_) λh=>ao qO aB) λh=>ao hj qO
  rw[gu j aB,hc] at hz
  cases hz
  rw[mO 40 40 rfl,mO 41 41 rfl]
  have nx:∀ d2,0<=d2->d2<=j+1->LK (next (d2+1,j+1)) (λi=>next' i (d2,j+a+1+1)) (λ(y:ByS×Bool) z=>y.2=false/\z<0\/y.2=true/\a+2<=z/\z<s.length/\y.1=sub s (a+2) z) (λ_ _=>False):=λd2 h h'=>hn _ _ ⟨rfl,eX,eX,eX,eX,eX⟩
  refine mP (mP (eV aB hc ?_))
  rw[mO 41 41 rfl]
  by_cases Ip:c=40
  ·subst Ip
   refine aF (λ_=>bG λ_=>bG λ_=>?_) du
   refine aJ du λ_=>eV aB hc (aJ (λ_=>bV zR (eV aB hc (aJ du λ_=>bV zR (nx _ aB aB)))) du)
  refine aF (λh=>ao jg Ip) λ_=>aF (λSa=>?_) λSa=>?_
  ·have Sa:c=41:=by simpa using Sa
   subst Sa
   refine bG λ_=>aJ (λ_=>?_) du
   by_cases hd:d'=0
   ·subst hd
    refine aF (λ_=>bG λhg=>aJ (λ_=>b9 (.inr ⟨rfl,aB,aB,?_⟩)) du) λh=>by simp at h
    show sub (gL s (a+1)) 1 j=sub s (a+2) (j+a+1)
    unfold sub gL
    rw[kF]
    congr 1
    ·omega
    ·congr 1;omega
   ·refine aF (λh=>ao jg aB) λ_=>bG λ_=>aJ (λh=>ao jg hd) λ_=>eV aB hc (aJ du λ_=>eV aB hc (aJ (λ_=>bV zR (bV zR ?_)) du))
    have:=nx (d' - 1) aB aB
    rwa [show d' - 1+1=d'+1 - 1 by omega] at this
  ·refine bG λ_=>aJ (λh=>ao (Sa.symm.trans h) dN) λ_=>eV aB hc (aJ (λh=>ao (by rwa [mO 40 40 rfl,cg] at h) Ip) λ_=>eV aB hc (aJ (λh=>?_) λ_=>bV zR (nx _ aB aB)))
   rw[mO 41 41 rfl,Sa] at h;cases h
 ·exact aF (λh=>ao B2 hj) λ_=>aJ IE λ_=>b9 (.inl ⟨rfl,by decide⟩)
end
section
variable {m:Nat->Nat}
def SO {l:List Int} {P:List bQ} {v:Int}:Tk (qW l P v) ([],if l=[] then P else P++[bQ.mk (jQ l) false v],v):=by
 unfold qW;obtain _|⟨a,l⟩:=l
 ·exact cz (λh=>ao B2 bn) λ_=>ll
 exact cz (λ_=>dW λ_=>ll) λh=>ao qO bn
def IV (s:ByS) (v:List bQ×List Int×Int×Int) (w:List cB×ByS×Int×Int):Prop:=
 w.2.2.2=v.2.2.2/\0<=v.2.2.2/\v.2.2.2<=s.length/\v.1=w.1.map LS/\w.2.1=jQ v.2.1/\(v.2.1=[]->w.2.2.1=v.2.2.2)/\(v.2.1≠[]->w.2.2.1=v.2.2.1/\w.2.2.1<v.2.2.2)/\(v.2.1.length:Int)<=v.2.2.2/\(w.1.length:Int)<=v.2.2.2
def ü {k:Nat} (h:k<=70000):nP 32 k 1:=⟨aB,by unfold maxLen;omega⟩
def LV:agh:=by
 intro n m s hm hs;unfold qw jE oj jk s6;refine uL (IV s) ?_ n hm _ _ ⟨rfl,dN,eX,rfl,rfl,λ_=>rfl,λh=>ao rfl h,dN,dN⟩;rintro ⟨P,l,f,a0⟩ ⟨P',x,f',a⟩ ⟨i1,i2,i3,i4,i5,i6,i7,i8,i9⟩ next next' hn;dsimp only at i1 i2 i3 i4 i5 i6 i7 i8 i9 ⊢;subst i1 i4 i5;refine dG rfl (λh=>?_) λh=>?_
 rotate_left
 ·refine gR SO ?_;have h:=aW h;by_cases hl:l=[]
  ·rw[aL hl];exact aJ (λh=>ao B2 (by have:=i6 hl;omega)) λ_=>b9 rfl
  rw[aE hl];have:=i7 hl;refine aJ (λ_=>bV (ü aB) (b9 ?_)) λh=>ao qO aB;rw[wA,this.1];rfl
 have h:=bh h;obtain ⟨c,hc⟩:∃ c,s[a.toNat]?=some c:=⟨_,az aB⟩;have hd:s.drop a.toNat=c::s.drop (a.toNat+1):=by
  rw[an] at hc;obtain ⟨q1,q2⟩:=hc;rw[bZ q1,q2]
 have G2:(l.length:Int)=0↔l=[]:=by cases l<;>simp<;>omega
 refine oG (λv=>f'=v) (λv hv=>?_) λj hj=>aF (λh=>hj _ (i6 (G2.1 jg))) λh=>hj _ (i7 λq=>by rw[q] at h;cases h).1;subst hv;refine bG λ_=>od (Au _ _) (mP (eV aB hc ?_));rw[mO 92 92 rfl,show gL s a=s.drop a.toNat from rfl];refine aF (λhp=>?_) λhp=>?_
 ·
  rw[hd] at hp;obtain ⟨rfl,hp⟩:c=92/\(([40]:ByS).isPrefixOf (s.drop (a.toNat+1))=true):=by
   simp only[List.isPrefixOf,bm,cg] at hp;exact ⟨hp.1.symm,hp.2⟩
  obtain ⟨Ip,iy⟩:s[(a+1).toNat]?=some 40/\a+1<s.length:=by
   rcases q:s.drop (a.toNat+1) with _|⟨d,r⟩
   ·rw[q] at hp;cases hp
   rw[q] at hp;have e:s[a.toNat+1]?=some d:=by have:=iP (λl=>l[0]?) q;simpa using this
   have:a.toNat+1<s.length:=(an.1 e).1;simp[List.isPrefixOf] at hp;exact ahH
  refine aJ (λ_=>bV zR (aJ (λ_=>bV zR (eV aB Ip ?_)) λh=>ao qO aB)) du;refine aJ (λ_=>bV zR (bG λ_=>bG λ_=>cm (UD hm i2 hs Ip) ?_ λ_ _ h=>h.elim)) du;rintro ⟨t,ok⟩ z (⟨q1,q2⟩|⟨q1,q2,q3,q4⟩)
  ·have q1:ok=false:=q1;subst q1;exact aF (λ_=>aJ (λ_=>b9 rfl) λh=>ao qO aB) λh=>by cases h
  have q1:ok=true:=q1;subst q1;have q4:t=sub s (a+2) z:=q4;have lt:(t.length:Int)=z - (a+2):=by rw[q4];unfold sub;simp;omega
  refine aF du λ_=>aJ IE λ_=>gR SO (bG λ_=>bG λ_=>bG λ_=>bG λ_=>?_);have fin:∀ Q:List cB,(if l=[] then P'.map LS else P'.map LS++[bQ.mk (jQ l) false f'])=Q.map LS->(Q.length:Int)<=a+1->LK (next ((if l=[] then P'.map LS else P'.map LS++[bQ.mk (jQ l) false f'])++[bQ.mk t true (a+2)],[],f',a+((t.length:Int)+3)))
    (λi=>gd (cD (a+2)) (gd ((0:Int)<=a+2/\(a+2:Int)<=z/\z<=(List.length s:Int)) (gd (cD (a+2)) (gd (nP 32 Q.length (List.length [(cB.mk (sub s (a+2) z) true (a+2))])) (gd (cD (z+1)) (gd (cD (z+1)) (next' i (Q++[(cB.mk (sub s (a+2) z) true (a+2))],([]:ByS),z+1,z+1))))))))
    (λy z=>y=(z.1.map LS,z.2)) (λ_ _=>False):=λQ hQ hq=>by
   refine bV zR (bV aB (bV zR (bV (ü aB) (bV zR (bV zR (hn _ _ ⟨eX,eX,eX,?_,rfl,λ_=>by dsimp only;omega,λh=>ao rfl h,by dsimp only [List.length];omega,by simp only[eb,j6,List.length_nil];omega⟩))))))
   show _=(Q++[_]).map LS
   rw[hQ,wA,<- q4];rfl
  refine mP ?_;by_cases hl:l=[]
  ·refine aJ (λh=>ao B2 (by have:=i6 hl;omega)) λ_=>fin P' (by rw[aL hl]) aB
  have:=i7 hl;refine aJ (λ_=>bV (ü aB) (fin _ ?_ ?_)) λh=>ao qO aB
  ·rw[aE hl,wA];rfl
  simp;omega
 
 obtain ⟨p0,p1,p2,p3⟩:=@adV (s.drop a.toNat);have dl:(s.drop a.toNat).length=s.length - a.toNat:=iw;have np:∀ {w:Int},Ev (λi=>s9 (m i) s a) (λr=>r=E5 (s.drop a.toNat)) di:=λ{_}=>W5 hm i2 h hs;have right:∀ {X:aI (List bQ×dH)},(E5 (s.drop a.toNat)=0->X=.ok ([],dH.mk 8 a))->(E5 (s.drop a.toNat)≠0->LK X (λi=>next' i (P',jQ l++[UInt8.ofNat (W4 (s.drop a.toNat)).toNat],f',a+E5 (s.drop a.toNat))) (λy z=>y=(z.1.map LS,z.2)) (λ_ _=>False))->
   LK X (λi=>ag (s9 (m i) s a) λy39=>br (y39==0) (.ok ([],(dH.mk 8 a))) (gd (cD (a+y39)) (gd ((0:Int)<=a/\(a:Int)<=(a+y39)/\(a+y39)<=(List.length s:Int)) (gd (Bp ([34]:ByS) (sub s a (a+y39))) (gd (Bp (([34]:ByS)++(sub s a (a+y39))) ([34]:ByS)) (ag (fM (m i) ((([34]:ByS)++(sub s a (a+y39)))++([34]:ByS))) λy49=>gd (Bp (jQ l) y49.1) (gd (cD (a+y39)) (next' i (P',(jQ l)++y49.1,f',a+y39))))))))) (λy z=>y=(z.1.map LS,z.2)) (λ_ _=>False):=λ{X} hx0 HF=>by
  refine bj (W5 hm i2 h hs) ?_
  by_cases hz:E5 (s.drop a.toNat)=0
  ·rw[hx0 hz]
   exact aJ (λ_=>b9 rfl) λh=>by rw[hz] at h;cases h
  ·have es:sub s a (a+E5 (s.drop a.toNat))=(s.drop a.toNat).take (E5 (s.drop a.toNat)).toNat:=by unfold sub;congr 1;omega
   have lsub:(sub s a (a+E5 (s.drop a.toNat))).length<=4:=by rw[es,jo];omega
   refine aJ (λh=>ao jg hz) λ_=>bV zR (bV aB (bV ţ (bV ţ ?_)))
   rw[es]
   refine bj ((ú (u:=s.drop a.toNat) (k:=(E5 (s.drop a.toNat)).toNat) hm aB aB aB).2 aB) ?_
   exact bV (by simp[Bp,jQ];(first|omega|(simp[cD,nP,Bp,maxLen]<;>omega))) (bV zR (HF hz))
 have stp:E5 (s.drop a.toNat)≠0->LK (next (P'.map LS,l++[W4 (s.drop a.toNat)],f',a+E5 (s.drop a.toNat))) (λi=>next' i (P',jQ l++[UInt8.ofNat (W4 (s.drop a.toNat)).toNat],f',a+E5 (s.drop a.toNat))) (λy z=>y=(z.1.map LS,z.2)) (λ_ _=>False):=λhz=>by
  refine hn _ _ ⟨rfl,eX,eX,rfl,by simp[jQ],λh=>by simp at h,λ_=>⟨rfl,?_⟩,qI,eX⟩;show f'<a+_;by_cases hl:l=[]
  ·have:=i6 hl;omega
  have:=i7 hl;omega
 have body:LK (el s a λb37=>br ((b37.toNat:Int)==92) (gd ((0:Int)<=a/\a<=(List.length s:Int)) (ag (rZ n (gL s a)) λy44=>br (y44.2==0) (.ok ([],(dH.mk 8 a))) (gd (nP 1 l.length (List.length [y44.1])) (gd (cD (a+y44.2)) (next (P'.map LS,l++[y44.1],f',a+y44.2)))))) (jn (λ(v52:Bool)=>br v52 (.ok ([],(dH.mk 8 a))) (el s a λb58=>gd (nP 1 l.length (List.length [(b58.toNat:Int)])) (gd (cD (a+1)) (next (P'.map LS,l++[(b58.toNat:Int)],f',a+1))))) λj53=>el s a λb64=>br (decide ((b64.toNat:Int)<32)) (j53 (true)) (el s a λb69=>br (decide ((b69.toNat:Int)>126)) (j53 (true)) (el s a λb74=>j53 (((b74.toNat:Int)==34))))))
   (λi=>ag (s9 (m i) s a) λy39=>br (y39==0) (.ok ([],(dH.mk 8 a))) (gd (cD (a+y39)) (gd ((0:Int)<=a/\(a:Int)<=(a+y39)/\(a+y39)<=(List.length s:Int)) (gd (Bp ([34]:ByS) (sub s a (a+y39))) (gd (Bp (([34]:ByS)++(sub s a (a+y39))) ([34]:ByS)) (ag (fM (m i) ((([34]:ByS)++(sub s a (a+y39)))++([34]:ByS))) λy49=>gd (Bp (jQ l) y49.1) (gd (cD (a+y39)) (next' i (P',(jQ l)++y49.1,f',a+y39))))))))) (λy z=>y=(z.1.map LS,z.2)) (λ_ _=>False):=by
  refine je λz _ hz=>?_
  rw[hc] at hz;cases hz
  rw[mO 92 92 rfl]
  refine aF (λDV=>bG λ_=>?_) λDV=>?_
  ·have DV:c=92:=by simpa using DV
   subst DV
   rw[show gL s a=s.drop a.toNat from rfl,hd]
   refine gR YB ?_
   have e1:E5 (s.drop a.toNat)=(DJ (s.drop a.toNat)).2:=by rw[hd];simp only[E5];rw[aL trivial]
   have e2:W4 (s.drop a.toNat)=(DJ (s.drop a.toNat)).1:=by rw[hd];simp only[W4];rw[aL trivial]
   rw[<- hd,<- e1,<- e2]
   by_cases hz:E5 (s.drop a.toNat)=0
   ·exact right (λ_=>by rw[hz];rfl) λh=>ao hz h
   ·exact aF (λh=>ao jg hz) λ_=>bG λ_=>bG λ_=>right (λh=>ao h hz) stp
  ·have DV:c≠92:=by simpa using DV
   have e1:E5 (s.drop a.toNat)=if c=34\/(c.toNat:Int)<32\/(c.toNat:Int)>126 then 0 else 1:=by rw[hd];simp only[E5];rw[aE DV]
   have e2:W4 (s.drop a.toNat)=c.toNat:=by rw[hd];simp only[W4];rw[aE DV]
   refine oG (λv=>v=(E5 (s.drop a.toNat)==0)) (λv hv=>?_) λj hj=>?_
   ·subst hv
    by_cases hz:E5 (s.drop a.toNat)=0
    ·rw[hz];exact right (λ_=>rfl) λh=>ao hz h
    ·refine aF (λh=>ao jg hz) λ_=>je λz _ Jw=>?_
     rw[hc] at Jw;cases Jw
     have e3:E5 (s.drop a.toNat)=1:=by
      rw[e1] at hz ⊢
      split
      ·rename_i q;rw[aL q] at hz;exact ao rfl hz
      ·rfl
     have:=stp hz
     rw[e2,e3] at this
     refine bG λ_=>bG λ_=>right (λh=>ao h hz) λ_=>?_
     rw[e2,e3];exact this
   ·refine je λz _ Jw=>?_
    rw[hc] at Jw;cases Jw
    refine aF (λh=>hj _ ?_) λh=>je λz _ Jw=>?_
    ·rw[e1,aL (.inr (.inl B2))];rfl
    rw[hc] at Jw;cases Jw
    have h0:=aW h
    refine aF (λh=>hj _ ?_) λh=>je λz _ Jw=>?_
    ·rw[e1,aL (.inr (.inr B2))];rfl
    rw[hc] at Jw;cases Jw
    have h1:=aW h
    refine hj _ ?_
    rw[e1,mO 34 34 rfl]
    by_cases q:c=34
    ·subst q;rfl
    ·rw[aE (λh=>by obtain h|h|h:=h<;>contradiction),beq_eq_false_iff_ne.2 q];rfl
 refine aJ (λhb=>bV zR (aJ (λiy=>?_) λ_=>aJ du λ_=>body)) λ_=>aJ du λ_=>body;have iy:=bh iy;obtain ⟨d,hdd⟩:∃ d,s[(a+1).toNat]?=some d:=⟨_,az aB⟩;refine bV zR (eV aB hdd (aJ (λIp=>?_) λ_=>body));rw[mO 40 40 rfl,cg] at Ip;have hb:c=92:=by simpa using hb
 subst Ip hb;have:s.drop (a.toNat+1)=40::s.drop (a.toNat+2):=by
  rw[show (a+1).toNat=a.toNat+1 by omega,an] at hdd;obtain ⟨q1,q2⟩:=hdd;rw[bZ q1,q2]
 rw[hd,this] at hp;simp[List.isPrefixOf] at hp
end
section
variable {b:UInt8} {c:UInt8}
def DK:xZ b=true↔48<=b.toNat/\b.toNat<=57:=by unfold xZ;simp[UInt8.le_iff_toNat_le]
def d8 (k:Nat):UInt8:=UInt8.ofNat (48+k % 10)
def D4 (w:Nat):ByS:=[d8 (w / 1000),d8 (w / 100),d8 (w / 10),d8 w]
def Y5 (l:ByS):ByS:=(l.reverse.dropWhile (·==48)).reverse
def N5:Y5 (l++[c])=if c=48 then Y5 l else l++[c]:=by
 unfold Y5;rw[oD,mJ,nh,List.dropWhile_cons];by_cases h:c=48
 ·simp[h]
 simp[h]
def ý:(Y5 l).length<=l.length:=by
 unfold Y5;rw[List.length_reverse];exact kt (List.dropWhile_sublist _).length_le bn
def TX (v:Nat):ByS:=yg 20 (v / 10000)++if v % 10000=0 then [] else 46::Y5 (D4 (v % 10000))
def E6 {f u:Nat}:yg (f+1) u=if u<10 then [UInt8.ofNat (48+u)] else yg f (u / 10)++[UInt8.ofNat (48+u % 10)]:=rfl
def UE:∀ {f u:Nat} {b:UInt8},b∈yg f u->xZ b=true
 | 0,_,_,h=>by cases h
 | f+1,u,b,h=>by
  rw[E6] at h;split at h
  ·rw[cO] at h;rw[h,DK];simp;omega
  obtain h|h:=bH.1 h
  ·exact UE h
  rw[cO] at h;rw[h,DK];simp;omega
def PA:∀ {f u k:Nat},u<10 ^ k->1<=k->(yg f u).length<=k
 | 0,_,_,_,_=>Nat.zero_le _
 | f+1,u,k,h,hk=>by
  rw[E6];split
  ·simpa using hk
  obtain ⟨j,rfl⟩:∃ j,k=j+1:=⟨k - 1,aB⟩;rw[uc] at h;have:1<=j:=by
   obtain _|j:=j
   ·simp at h;omega
   omega
  have:=@PA f (u / 10) j aB this;simp;omega
variable {w:Nat}
def ajX (h:w<10000):(yg 20 (w+10000)).drop 1=D4 w/\1<=(yg 20 (w+10000)).length:=by
 rw[E6,aE aB,E6,aE aB,E6,aE aB,E6,aE aB,E6,aL aB];refine ⟨?_,bn⟩;unfold D4 d8;simp only[mY,tN,List.drop_succ_cons,uE];rw[show (w+10000) / 10 / 10 / 10 % 10=w / 1000 % 10 by omega,show (w+10000) / 10 / 10 % 10=w / 100 % 10 by omega,show (w+10000) / 10 % 10=w / 10 % 10 by omega,show (w+10000) % 10=w % 10 by omega]
def W6 (h:0<l.length):∃ w c,l=w++[c]:=by
 obtain h2|⟨w,c,h2⟩:=List.eq_nil_or_concat l
 ·rw[h2] at h;cases h
 exact ⟨w,c,by rw[h2,List.concat_eq_append]⟩
def SP {w:ByS}:(w++[c])[(((w++[c]).length:Int) - 1).toNat]?=some c:=by
 rw[show (((w++[c]).length:Int) - 1).toNat=w.length by simp];simp
def W7 {w:ByS}:sI (w++[c]) (((w++[c]).length:Int) - 1)=w:=by
 unfold sI;rw[show (((w++[c]).length:Int) - 1).toNat=w.length by simp];simp
section
variable {m:Nat->Nat}
def adW (h:w<10000) (h0:w≠0):Y5 (D4 w)≠[]:=λh2=>by
 have hz:∀ k:Nat,d8 k=48->k % 10=0:=λk h=>by
  have:=iP UInt8.toNat h;unfold d8 at this;have e48:(48:UInt8).toNat=48:=rfl;rw[UInt8.toNat_ofNat',e48] at this;omega
 have e:D4 w=[]++[d8 (w / 1000)]++[d8 (w / 100)]++[d8 (w / 10)]++[d8 w]:=rfl;rw[e,N5] at h2;split at h2
 ·rw[N5] at h2;split at h2
  ·rw[N5] at h2;split at h2
   ·rw[N5] at h2;split at h2
    ·have:=hz _ ‹d8 w=48›;have:=hz _ ‹d8 (w / 10)=48›;have:=hz _ ‹d8 (w / 100)=48›;have:=hz _ ‹d8 (w / 1000)=48›;omega
    simp at h2
   simp at h2
  simp at h2
 simp at h2
def ajY (h0:0<=v) (h1:v<=1000000000000000):Tk (vP n v) (TX v.toNat):=by
 unfold vP;refine ob (show mB v=.ok true by unfold mB;rw[aX (show v>=-1000000000000000 by omega),aX h1];rfl) (cz du λ_=>ob (show vO v=.ok v by unfold vO;rw[bw (show ¬ v<0 by omega),YA h0 aB];rfl) (dW λ_=>?_));have e1:Int.tdiv v 10000=v / 10000:=kx h0;have e2:Int.tmod v 10000=v % 10000:=iU h0;rw[e1,e2,YA (x:=v / 10000) aB aB,YA (x:=v % 10000+10000) aB aB];unfold oN;refine tb Qx (rp (λw=>w=yg 20 (v / 10000).toNat) (λw hw=>?_) λj hj=>cz IE λ_=>hj _ rfl);subst hw;refine dW λ_=>tb Qx (dW λ_=>?_);have ew:(v % 10000+10000).toNat=v.toNat % 10000+10000:=by omega
 have ed:(v / 10000).toNat=v.toNat / 10000:=by omega
 rw[ew,ed,show gL (yg 20 (v.toNat % 10000+10000)) 1=_ from (ajX (w:=v.toNat % 10000) aB).1];refine rp (λl=>l=Y5 (D4 (v.toNat % 10000))) (λl hl=>?_) λj hj=>oS (λl=>Y5 l=Y5 (D4 (v.toNat % 10000))) (λl hl next hn=>?_) n rfl
 ·subst hl;unfold TX;by_cases hz:v.toNat % 10000=0
  ·rw[hz,aL rfl];refine cz QK λ_=>iA bn
  rw[aE hz];exact cz (λ_=>dW λ_=>dW λ_=>ll) λh=>ao jg (adW aB hz)
 refine cz (λh=>dW λ_=>k8 λc _ hc=>?_) λh=>hj _ ?_
 ·obtain ⟨w,d,rfl⟩:=W6 (l:=l) ZE;rw[SP] at hc;cases hc;rw[N5] at hl;rw[mO 48 48 rfl];refine cz (λh=>dW λ_=>dW λ_=>hn _ ?_) λh=>hj _ ?_
  ·rw[aL jg] at hl;rw[W7];exact hl
  rwa [aE jg] at hl
 obtain rfl:l=[]:=rB.1 Nd;exact hl
def db (h0:0<=v):jQ [IntKind.wrap .u8 (48+Int.tmod v 10)]=[d8 v.toNat]:=by
 have e2:Int.tmod v 10=v % 10:=iU h0;rw[e2,Py aB aB];show [UInt8.ofNat (48+v % 10).toNat]=_;unfold d8;rw[show (48+v % 10).toNat=48+v.toNat % 10 by omega]
variable {u:Int}
def þ (hm:bL m) (h0:0<=u) (h1:u<=1000000000000000000):Ev (λi=>sb (m i) u 1) (λr=>r=yg 20 u.toNat) di:=by
 unfold sb;refine bN hm (λ(x:Int×ByS)=>0<=x.1/\x.1<=u/\((0<x.1/\∃ f:Nat,x.1.toNat<10 ^ f/\yg f x.1.toNat++x.2=yg 20 u.toNat)\/(x.1=0/\x.2=[]/\u=0)\/(x.1=0/\x.2≠[]/\x.2=yg 20 u.toNat))/\x.2.length<=1000000000000000000+10 - x.1) (λx=>x.1.toNat+(1 - x.2.length)) ⟨h0,dR _,?_,qI⟩ ?_
 ·by_cases hu:u=0
  ·exact .inr (.inl ⟨hu,rfl,hu⟩)
  exact .inl ⟨eX,20,eX,bn⟩
 rintro ⟨v,l⟩ ⟨i0,i1,i2,i3⟩ next hn;dsimp only at i0 i1 i2 i3 hn ⊢;have e1:Int.tdiv v 10=v / 10:=kx i0;rw[e1,db i0,wrap_i64 (x:=v / 10) aB aB];have step:(0<v\/l=[])->Ev (λi=>gd ((10:Int)≠0) (gd (cD (48+Int.tmod v 10)) (gd (Bp [d8 v.toNat] l) (gd ((10:Int)≠0) (next i (v / 10,[d8 v.toNat]++l)))))) (λr=>r=yg 20 u.toNat) di:=λhw=>by
  have e2:Int.tmod v 10=v % 10:=iU i0;rw[e2];refine dy dN (aH (dy (by simp[Bp];omega) (dy dN (hn _ ⟨eX,eX,?_,?_⟩ ?_))))
  ·obtain ⟨w,f,hf,he⟩|⟨w,rfl,rfl⟩|⟨w,w2,_⟩:=i2
   ·obtain _|f:=f
    ·simp at hf;omega
    rw[E6] at he;by_cases hv:v<10
    ·rw[aL aB] at he;refine .inr (.inr ⟨eX,bn,?_⟩);rw[<- he];unfold d8;rw[show v.toNat % 10=v.toNat by omega]
    rw[aE aB] at he;rw[uc] at hf;refine .inl ⟨eX,f,eX,?_⟩;rw[<- he];unfold d8;dsimp only;rw[show (v / 10).toNat=v.toNat / 10 by omega];simp
   ·subst w;exact .inr (.inr ⟨rfl,by simp,rfl⟩)
   obtain h|h:=hw
   ·omega
   exact ao h w2
  ·show (([d8 v.toNat]++l).length:Int)<=_ - v / 10;exact adm
  show (v / 10).toNat+(1 - ([d8 v.toNat]++l).length)<v.toNat+(1 - l.length);exact adm
 refine bz (λ_=>0<v\/l=[]) (λ_ hw=>step hw) λj hj=>aR (λh=>hj () (.inl h)) λh=>aR (λh3=>hj () (.inr (rB.1 aB))) λh3=>aj ?_;obtain ⟨w,_⟩|⟨w,rfl,_⟩|⟨_,_,w⟩:=i2
 ·exact ao w h
 ·exact ao dN h3
 exact w
def ÿ (hm:bL m) (h0:0<=u) (h1:u<10000):Ev (λi=>sb (m i) u 4) (λr=>r=D4 u.toNat) di:=by
 unfold sb;refine bN hm (λ(x:Int×ByS)=>∃ j:Nat,j<=4/\x.1=u / (10 ^ j:Nat)/\x.2=(D4 u.toNat).drop (4 - j)) (λx=>4 - x.2.length) ⟨0,dN,bn,rfl⟩ ?_;rintro ⟨v,l⟩ ⟨j,hj,rfl,rfl⟩ next hn;dsimp only at hn ⊢;have v0:0<=u / (10 ^ j:Nat):=Int.ediv_nonneg h0 (Int.natCast_nonneg _);have v1:u / (10 ^ j:Nat)<=u:=Int.ediv_le_self _ h0;have e1:Int.tdiv (u / (10 ^ j:Nat)) 10=u / (10 ^ j:Nat) / 10:=kx v0;rw[e1,db v0,wrap_i64 (x:=u / (10 ^ j:Nat) / 10) aB aB];have e2:Int.tmod (u / (10 ^ j:Nat)) 10=u / (10 ^ j:Nat) % 10:=iU v0;rw[e2];have hl:((D4 u.toNat).drop (4 - j)).length=j:=by rw[iw,show (D4 u.toNat).length=4 from rfl];omega
 refine bz (λ_=>j<4) (λ_ hw=>?_) λk hk=>aR (λh=>hk () ?_) λh=>aR (λh3=>hk () aB) λh3=>aj ?_
 ·refine dy dN (aH (dy (by unfold Bp;rw[hl];simp;omega) (dy dN (hn _ ⟨j+1,aB,?_,?_⟩ ?_))))
  ·show _ / _ / _=_;rw[Int.ediv_ediv_of_nonneg (Int.natCast_nonneg _),uc];rfl
  ·show [_]++_=_;have ej:j=0\/j=1\/j=2\/j=3:=by omega
   have q:∀ k:Nat,((k:Int) / (10 ^ j:Nat)).toNat=k / 10 ^ j:=λk=>by rw[<- Int.natCast_ediv,sx]
   have q:=q u.toNat;rw[Int.toNat_of_nonneg h0] at q;rw[q];obtain rfl|rfl|rfl|rfl:=ej
   ·simp[D4]
   ·simp[D4]
   ·simp[D4]
   simp[D4]
  show 4 - ([_]++_).length<_;rw[eb,hl];simp;omega
 ·by_cases h4:j=4
  ·subst h4;exact ao h (by show ¬ 0<u / 10000;omega)
  omega
 obtain rfl:j=4:=by omega
 rfl
end
end
section
def ajZ:∀ {A B s t:ByS},(∀ b,b∈A->b≠46)->(∀ b,b∈B->b≠46)->A++46::s=B++46::t->s=t
 | [],[],_,_,_,_,h=>by cases h;rfl
 | [],b::B,_,_,_,hB,h=>by
  cases h;exact ao rfl (hB 46 bn)
 | a::A,[],_,_,hA,_,h=>by
  cases h;exact ao rfl (hA 46 bn)
 | a::A,b::B,s,t,hA,hB,h=>by
  rw[mY,mY] at h;exact ajZ (λc hc=>hA c (by simp[hc])) (λc hc=>hB c (by simp[hc])) (pT h).2
def agn {b:UInt8} (h:xZ b=true):b≠46:=λe=>by subst e;cases h
variable {v:Nat}
def aj0 (h:v<=1000000000000000):(TX v).length<=18:=by
 unfold TX;have:=@PA 20 (v / 10000) 12 aB dN;rw[eb];split
 ·simp;omega
 have:=@ý (D4 (v % 10000));rw[show (D4 (v % 10000)).length=4 from rfl] at this;simp;omega
def ago {ds es:ByS} (hd:∀ b,b∈ds->xZ b=true) (h:TX v=ds++46::es):es.length<=4:=by
 unfold TX at h;split at h
 ·rw[my] at h;have:(46:UInt8)∈yg 20 (v / 10000):=by rw[h];simp
  exact ao rfl (agn (UE this))
 have:=ajZ (λb hb=>agn (UE hb)) (λb hb=>agn (hd b hb)) h;rw[<- this];exact @ý (D4 (v % 10000))
def dv (a:Nat) (l:ByS):Nat:=l.foldl (λa c=>a*10+(c.toNat - 48)) a
variable {a:Nat}
def Ā {r:ByS}:dv a (l++r)=dv (dv a l) r:=List.foldl_append
def agp {c:UInt8}:dv a (l++[c])=dv a l*10+(c.toNat - 48):=by rw[Ā];rfl
def ā:∀ {l:ByS} {a:Nat},a<=dv a l
 | [],_=>iJ _
 | c::l,a=>kt aB (@ā l (a*10+(c.toNat - 48)))
def Xa:∀ {l:ByS} {a:Nat},(∀ b,b∈l->xZ b=true)->dv a l<(a+1)*10 ^ l.length
 | [],a,_=>by simp[dv]
 | c::l,a,h=>by
  have hc:=DK.1 (h c bn);have:=@Xa l (a*10+(c.toNat - 48)) λb hb=>h b (by simp[hb]);show dv (a*10+(c.toNat - 48)) l<_;refine lx this ?_;rw[j6,uc,Nat.mul_comm (10 ^ l.length) 10,<- Nat.mul_assoc];exact acS
def Ă:∀ {l:ByS} {a:Nat},(∀ b,b∈l->xZ b=true)->(dv a l<=18446744073709551615->Lib.parseUintM 18446744073709551615 a l=.ok (dv a l))/\(18446744073709551615<dv a l->Lib.parseUintM 18446744073709551615 a l=.range\/a>18446744073709551615)
 | [],a,_=>⟨λ_=>rfl,λh=>.inr h⟩
 | c::l,a,h=>by
  have hc:=DK.1 (h c bn);have ih:=@Ă l (a*10+(c.toNat - 48)) λb hb=>h b (by simp[hb]);have ge:=@ā l (a*10+(c.toNat - 48));have e:dv a (c::l)=dv (a*10+(c.toNat - 48)) l:=rfl;rw[e];unfold Lib.parseUintM;rw[aL hc];by_cases h1:1844674407370955162<=a
  ·rw[aL h1];exact acN
  rw[aE h1];by_cases h2:18446744073709551615<a*10+(c.toNat - 48)
  ·rw[aL h2];exact acN
  rw[aE h2];exact ⟨ih.1,λh=>.inl ((ih.2 h).resolve_right aB)⟩
def pI (h:∀ b,b∈l->xZ b=true) (uB:l≠[]):(dv 0 l<9223372036854775808->Lib.parseIntB 64 l=.ok (dv 0 l:Int))/\(9223372036854775808<=dv 0 l->Lib.parseIntB 64 l=.range):=by
 obtain ⟨c,r,rfl⟩:∃ c r,l=c::r:=by
  cases l with
  | nil=>exact ao rfl uB
  | cons c r=>exact ⟨c,r,rfl⟩
 have hc:=DK.1 (h c bn);obtain ⟨q1,q2⟩:=@Ă (c::r) 0 h;unfold Lib.parseIntB;dsimp only;rw[aE (show ¬ (c.toNat=43\/c.toNat=45) by omega)];unfold Lib.parseUintB;rw[aE uB,show 2 ^ 64 - 1=18446744073709551615 from rfl];by_cases hb:dv 0 (c::r)<=18446744073709551615
 ·rw[q1 hb];dsimp only;refine ⟨λh=>?_,λh=>?_⟩
  ·rw[aE qI,aE aB,aE aB]
  rw[aL ⟨aB,by show 2 ^ 63<=_;omega⟩]
 obtain q|q:=q2 aB
 ·rw[q];exact ⟨λh=>by omega,λ_=>rfl⟩
 omega
section
variable {m:Nat->Nat}
def aj1 (hm:bL m) {v:Int} (h0:0<=v) (h1:v<=1000000000000000):Ev (λi=>A9 (m i) v) (λr=>r=TX v.toNat) di:=by
 unfold A9;have ab:Ev (λ_=>AB v) (λr=>v=r) di:=by
  unfold AB;rw[bw aB];exact aj rfl
 refine ai (Q:=λr=>r=true) (by unfold um;rw[aX aB,aX h1];exact aj rfl) ?_;rintro _ rfl;refine aG (ai ab ?_);rintro _ rfl;have e1:Int.tdiv v 10000=v / 10000:=kx h0;have e2:Int.tmod v 10000=v % 10000:=iU h0;rw[e1,e2,wrap_i64 (x:=v / 10000) aB aB];refine dy dN (ai (þ hm aB aB) ?_);rintro _ rfl;have ew:(v % 10000).toNat=v.toNat % 10000:=by omega
 have ed:(v / 10000).toNat=v.toNat / 10000:=by omega
 have dl:=@PA 20 (v.toNat / 10000) 12 aB dN;rw[ed];refine bz (λw=>w=yg 20 (v.toNat / 10000)) (λw hw=>?_) λj hj=>aw IE λ_=>hj _ rfl;subst hw;unfold TX;refine dy dN (aw (λhz=>aj ?_) λhz=>ai ab ?_)
 ·have hz:v % 10000=0:=by simpa using hz
  rw[aL aB,my]
 rintro _ rfl;have hz:v % 10000≠0:=by simpa using hz
 rw[e2,aE aB];refine dy dN (ai (ÿ hm aB aB) ?_);rintro _ rfl;rw[ew];have nz:=adW (w:=v.toNat % 10000) aB aB;refine bN hm (λl=>Y5 l=Y5 (D4 (v.toNat % 10000))/\l.length<=4) (λl=>l.length) ⟨rfl,iJ _⟩ λl hl next hn=>?_;obtain ⟨w,d,rfl⟩:=W6 (l:=l) (by
  cases l with
  | nil=>exact ao hl.1.symm nz
  | cons a l=>simp)
 have lw:(w++[d]).length=w.length+1:=by simp
 have Tu:=hl.1;rw[N5] at Tu;refine aH (g aB SP ?_);rw[mO 48 48 rfl];refine aw (λh=>aH (aH ?_)) λh=>dy (by simp[Bp];omega) (dy (by simp[Bp];omega) (aj ?_))
 ·rw[aL jg] at Tu;rw[W7];exact hn _ ⟨Tu,by omega⟩ aB
 rw[aE jg] at Tu;rw[Tu];simp
end
def ś (x ds es:ByS):Int×Int:=
 if es.length<=4/\dv 0 (ds++es++List.replicate (4 - es.length) 48)<=1000000000000000/\TX (dv 0 (ds++es++List.replicate (4 - es.length) 48))=x then ((dv 0 (ds++es++List.replicate (4 - es.length) 48):Nat),0) else (0,8)
structure Spl (x ds es:ByS):Prop where
 eq:(x=ds/\es=[])\/x=ds++46::es
 d1:∀ b,b∈ds->xZ b=true
 d2:∀ b,b∈es->xZ b=true
 ne:ds≠[]
def agr {x:ByS} (h:SA x):∃ ds es,Spl x ds es:=by
 obtain ⟨h1,c,w,rfl,hc⟩:=h;unfold E3 at h1;have rl:=@Ck pD (c::w) 0;have hd:∀ {u:ByS} {k:Nat},k<=run pD 0 u->∀ b,b∈u.take k->xZ b=true:=λ{u k} hk b hb=>by
  obtain ⟨i,hi,e⟩:=List.mem_iff_getElem.1 hb;rw[jo] at hi;obtain ⟨b',h2,h3⟩:=@Cm pD u 0 i aB;rw[List.getElem_take] at e;rw[az aB,e] at h2;cases h2;exact h3
 have r0:run pD 0 (c::w)≠0:=λe=>by
  have:=@zO pD (c::w) 0 c (by rw[e];rfl);rw[e] at this;exact ao (hc.symm.trans this) dN
 have tne:∀ {k:Nat},k≠0->(c::w).take k≠[]:=λ{k} hk=>by
  obtain ⟨j,rfl⟩:∃ j,k=j+1:=⟨k - 1,aB⟩;simp
 split at h1
 ·rename_i hp;have r2:=@Ck pD ((c::w).drop (run pD 0 (c::w)+1)) 0;rw[iw] at r2;refine ⟨(c::w).take (run pD 0 (c::w)),(c::w).drop (run pD 0 (c::w)+1),.inr ?_,hd HN,λb hb=>?_,tne r0⟩
  ·unfold As at hp;rw[bm,cg,an] at hp;obtain ⟨⟨q1,q2⟩,_⟩:=hp;rw[<- q2,<- bZ q1,nb]
  refine hd (u:=(c::w).drop (run pD 0 (c::w)+1)) (k:=run pD 0 ((c::w).drop (run pD 0 (c::w)+1))) HN b ?_;rw[dM (by rw[iw];omega)];exact hb
 refine ⟨c::w,[],.inl vf,λb hb=>?_,bn,bn⟩;refine hd (u:=c::w) (k:=run pD 0 (c::w)) HN b ?_;rw[dM aB];exact hb
end
section
variable {m:Nat->Nat} {ds es:ByS}
def Spl.len (h:Spl x ds es):x.length=ds.length+es.length+(if x=ds then 0 else 1)/\0<ds.length:=by
 have h0:0<ds.length:=tJ.2 h.ne;refine ⟨?_,h0⟩;obtain ⟨h1,h2⟩|h1:=h.eq
 ·rw[aL h1,h1,h2];simp
 have:x≠ds:=λe=>by
  have:=iP List.length h1;rw[e] at this;simp at this
 rw[aE this,h1];simp;omega
def Spl.get (h:Spl x ds es) {i:Nat} {c:UInt8} (hi:x[i]?=some c):(i<ds.length/\ds[i]?=some c/\xZ c=true)\/(i=ds.length/\c=46/\x=ds++46::es)\/(ds.length<i/\es[i - ds.length - 1]?=some c/\xZ c=true/\x=ds++46::es):=by
 obtain hl|hl|hl:=Nat.lt_trichotomy i ds.length
 ·have e:ds[i]?=some c:=by
   obtain ⟨h1,_⟩|h1:=h.eq
   ·rw[<- h1];exact hi
   rw[h1,fR hl] at hi;exact hi
  exact .inl ⟨hl,e,h.d1 c (aQ e)⟩
 ·obtain ⟨h1,_⟩|h1:=h.eq
  ·rw[h1] at hi;have:=(an.1 hi).1;omega
  rw[h1,gH aB,hl,Nat.sub_self] at hi;cases hi;exact .inr (.inl ⟨hl,rfl,h1⟩)
 obtain ⟨h1,_⟩|h1:=h.eq
 ·rw[h1] at hi;have:=(an.1 hi).1;omega
 rw[h1,gH aB] at hi;obtain ⟨k,hk⟩:∃ k,i - ds.length=k+1:=⟨i - ds.length - 1,aB⟩;rw[hk,oA] at hi;rw[show i - ds.length - 1=k by omega];exact .inr (.inr ⟨hl,hi,h.d2 c (aQ hi),h1⟩)
def D0 {l:ByS} {k:Nat} (h:∀ b,b∈l->xZ b=true):∀ b,b∈l++List.replicate k 48->xZ b=true:=λb hb=>by
 obtain hb|hb:=bH.1 hb
 ·exact h b hb
 rw[(List.mem_replicate.1 hb).2];decide
def ă (h:Spl x ds es) (hx:x.length<=20):Tk (nj n x) (ś x ds es):=by
 have h1:=h;obtain ⟨hl,G2⟩:=h.len;have dd:∀ b,b∈ds++es->xZ b=true:=λb hb=>(bH.1 hb).elim (h.d1 b) (h.d2 b);unfold nj ji;refine cz IE λ_=>rp (λv=>v=(ds,es)) (λv hv=>?_) λj hj=>oS (λv:Int=>0<=v/\v<=ds.length) (λv hv next hn=>?_) n ⟨dN,aB⟩
 ·subst hv;refine oS (λv=>v=es++List.replicate (v.length - es.length) 48/\es.length<=v.length/\(v.length<=4\/v=es)) (λv hv next hn=>?_) n ⟨bn,iJ _,.inr rfl⟩;obtain ⟨v1,v2,v3⟩:=hv;refine cz (λh=>dW λ_=>hn _ ⟨?_,qI,.inl (by have:=bh h;simp;omega)⟩) λh=>cz (λh=>iA ?_) λh2=>dW λ_=>?_
  ·rw[show (v++([48]:ByS)).length - es.length=v.length - es.length+1 by simp;omega,List.replicate_succ',<- fY,<- v1]
  ·have h:=bh h;have:v=es:=v3.resolve_left aB;unfold ś;rw[aE (λq=>by rw[this] at h;omega)]
  have l4:v.length=4:=by have:=aW h;have:=aW h2;omega
  rw[l4] at v1;unfold ś;rw[v1,<- fY];generalize hS:ds++es++List.replicate (4 - es.length) 48=S;have uB:=h1.ne;obtain ⟨p1,p2⟩:=pI (l:=S) (by rw[<- hS];exact D0 dd) (by rw[<- hS];intro e;simp at e;exact uB e.1);unfold uG;by_cases hb:dv 0 S<9223372036854775808
  ·rw[p1 hb];refine tb Qx (cz du λ_=>?_);dsimp only;by_cases hv:dv 0 S<=1000000000000000
   ·refine ob (show mB (dv 0 S:Nat)=.ok true by unfold mB;rw[aX aB,aX aB];rfl) (cz du λ_=>tb (ajY aB aB) ?_);rw[sx];refine cz (λh=>iA ?_) λh=>iA ?_
    ·rw[aE (λq=>by rw[q.2.2] at h;simp at h)]
    rw[aL ⟨aB,hv,jg⟩]
   refine ob (show mB (dv 0 S:Nat)=.ok false by unfold mB;rw[aX aB,bw aB];rfl) (cz (λ_=>iA ?_) du);rw[aE (λq=>hv q.2.1)]
  rw[p2 aB];refine tb Qx (cz (λ_=>iA ?_) du);rw[aE (λq=>by have:=q.2.1;omega)]
 have fin:x=ds->¬ v<x.length->(x,([]:ByS))=(ds,es):=λe _=>by
  obtain ⟨h1,h2⟩|h1:=h.eq
  ·rw[h1,h2]
  rw[e] at h1;have:=iP List.length h1;simp at this
 refine cz (λiy=>k8 λc _ hc=>?_) λiy=>hj _ ?_
 ·rw[mO 46 46 rfl];refine cz (λN6=>dW λ_=>dW λ_=>dW λ_=>hj _ ?_) λN6=>dW λ_=>hn _ ?_
  ·have N6:c=46:=by simpa using N6
   subst N6;obtain ⟨_,_,q⟩|⟨q,_,e⟩|⟨q,_⟩:=h.get hc
   ·cases q
   ·unfold sI gL;rw[show (v+1).toNat=v.toNat+1 by omega,q,e];simp
   omega
  obtain ⟨q,_⟩|⟨_,q,_⟩|⟨q,_⟩:=h.get hc
  ·exact ⟨by omega,by omega⟩
  ·rw[q] at N6;cases N6
  omega
 have iy:=aW iy;by_cases e:x=ds
 ·exact fin e iy
 rw[aE e] at hl;omega
def ags (hm:bL m) (h:Spl x ds es) (hx:x.length<=18):Ev (λi=>ov (m i) x) (λr=>r=ś x ds es) di:=by
 obtain ⟨hl,G2⟩:=h.len;have dd:∀ b,b∈ds++es->xZ b=true:=λb hb=>(bH.1 hb).elim (h.d1 b) (h.d2 b);have pw:∀ i k:Nat,i<=k->10 ^ i<=10 ^ k:=λi k h=>Nat.pow_le_pow_right (n:=10) dN h;have xes:es.length=0\/x=ds++46::es:=h.eq.elim (λh=>.inl (by rw[h.2];rfl)) .inr;unfold ov;refine aR (λh=>ao h aB) λ_=>bN hm (λ(w:Int×Int×Int)=>0<=w.2.2/\w.2.2<=x.length/\((w.2.1 = -1/\w.2.2<=ds.length/\w.1=dv 0 (ds.take w.2.2.toNat))\/(ds.length<w.2.2/\w.2.1=w.2.2 - ds.length - 1/\w.1=dv 0 (ds++es.take w.2.1.toNat)))) (λw=>(x.length - w.2.2).toNat) ⟨dN,eX,.inl ⟨rfl,eX,by simp[dv]⟩⟩ ?_;rintro ⟨a,p,v⟩ ⟨i0,i1,i2⟩ next hn;dsimp only at i0 i1 i2 hn ⊢;refine aR (λhv=>?_) λhv=>?_
 ·obtain ⟨c,hc⟩:∃ c,x[v.toNat]?=some c:=⟨_,az aB⟩;have hg:=h.get hc;have ab:0<=a/\a<1000000000000000000 / 10:=by
   obtain ⟨_,q,e⟩|⟨q,e0,e⟩:=i2
   ·have:=@Xa (ds.take v.toNat) 0 λb hb=>h.d1 b (qt hb);have:=pw (ds.take v.toNat).length 17 qI;omega
   have:=@Xa (ds++es.take p.toNat) 0 λb hb=>(bH.1 hb).elim (h.d1 b) λhb=>h.d2 b (qt hb);have:=pw (ds++es.take p.toNat).length 17 qI;omega
  refine bz (λ(w:Int×Int)=>(c=46/\w=(a,0))\/(xZ c=true/\w=(a*10+(c.toNat - 48),if 0<=p then p+1 else p))) (λw hw=>aH (hn _ ⟨eX,eX,?_⟩ eX)) λj hj=>?_
  ·dsimp only;obtain ⟨rfl,rfl⟩|⟨hd,rfl⟩:=hw
   ·obtain ⟨_,_,q⟩|⟨q,_,e⟩|⟨_,_,q,_⟩:=hg
    ·cases q
    ·obtain ⟨_,q2,e2⟩|⟨q2,_⟩:=i2
     ·refine .inr ⟨aB,eX,?_⟩;rw[e2,q];simp
     omega
    cases q
   have b48:=DK.1 hd;dsimp only;obtain ⟨q,q2,_⟩|⟨_,q,_⟩|⟨q,q2,_⟩:=hg
   ·obtain ⟨e0,_,e2⟩|⟨q2,_⟩:=i2
    ·refine .inl ⟨by rw[aE aB];exact e0,by omega,?_⟩;obtain ⟨w1,w2⟩:=an.1 q2;rw[show (v+1).toNat=v.toNat+1 by omega,j5 w1,w2,agp];omega
    omega
   ·subst q;cases hd
   obtain ⟨_,q3,_⟩|⟨q3,e0,e2⟩:=i2
   ·omega
   refine .inr ⟨aB,by rw[aL aB];omega,?_⟩;rw[aL aB];rw[show v.toNat - ds.length - 1=p.toNat by omega] at q2;obtain ⟨w1,w2⟩:=an.1 q2;rw[show (p+1).toNat=p.toNat+1 by omega,j5 w1,w2,<- fY,agp];omega
  have dig:xZ c=true->Ev (λi=>jn (λ(v24:Bool)=>br v24 (el x v λb29=>gd (cD ((IntKind.wrap .i64 (a*10))+(IntKind.wrap .i64 (IntKind.wrap .u8 ((b29.toNat:Int) - 48))))) (br (decide (p>=0)) (gd (cD (p+1)) (j i ((IntKind.wrap .i64 (a*10))+(IntKind.wrap .i64 (IntKind.wrap .u8 ((b29.toNat:Int) - 48))),p+1))) (j i ((IntKind.wrap .i64 (a*10))+(IntKind.wrap .i64 (IntKind.wrap .u8 ((b29.toNat:Int) - 48))),p)))) (br (decide (v>0)) (.ok (0,8)) (el x v λb41=>br ((b41.toNat:Int) !=45) (.ok (0,8)) (j i (a,p))))) λj25=>el x v λb47=>br (decide ((b47.toNat:Int)>=48)) (el x v λb52=>j25 ((decide ((b52.toNat:Int)<=57)))) (j25 (false))) (λr=>r=ś x ds es) di:=λhd=>by
   have b48:=DK.1 hd;have zT:=hj (a*10+(c.toNat - 48),if 0<=p then p+1 else p) (.inr ⟨hd,rfl⟩);refine bz (λw=>w=true) (λw hw=>?_) λk hk=>g i0 hc (aR (λ_=>g i0 hc (hk _ (aX aB))) λh=>ao h aB);subst hw;refine aY (g i0 hc ?_);rw[wrap_i64 (x:=a*10) aB aB,Py (x:=(c.toNat:Int) - 48) aB aB,wrap_i64 (x:=(c.toNat:Int) - 48) aB aB];refine aH (aR (λhp=>aH ?_) λhp=>?_)
   ·rwa [aL aB] at zT
   rwa [aE aB] at zT
  have np:¬ (c=46/\p<0)->xZ c=true:=λhq=>by
   obtain ⟨_,_,q⟩|⟨q,q2,_⟩|⟨_,_,q,_⟩:=hg
   ·exact q
   ·obtain ⟨e0,_⟩|⟨q3,_⟩:=i2
    ·exact ao ⟨q2,by omega⟩ hq
    omega
   exact q
  refine bz (λ_=>xZ c=true) (λ_ hw=>dig hw) λk hk=>g i0 hc ?_;rw[mO 46 46 rfl];refine aw (λN6=>aR (λhp=>hj _ (.inl ⟨by simpa using N6,rfl⟩)) λhp=>hk () (np λq=>hp q.2)) λN6=>hk () (np λq=>by rw[q.1] at N6;cases N6)
 
 have fa:a=dv 0 (ds++es)/\(if p<0 then 0 else p)=es.length:=by
  by_cases e:x=ds
  ·obtain ⟨_,h2⟩|h1:=h.eq
   ·obtain ⟨e0,_,e2⟩|⟨q,_⟩:=i2
    ·rw[aL aB,h2,e2,dM (by rw[aL e] at hl;omega)];simp
    rw[aL e,h2] at hl;simp at hl;omega
   rw[e] at h1;have:=iP List.length h1;simp at this
  rw[aE e] at hl;obtain ⟨_,q,_⟩|⟨_,e0,e2⟩:=i2
  ·omega
  rw[aE aB,e2,dM aB];exact ⟨rfl,by omega⟩
 obtain ⟨rfl,fp⟩:=fa;have al:=@Xa (ds++es) 0 dd;have:=pw (ds++es).length 18 qI;refine bz (λw:Int=>w=es.length) (λw hw=>?_) λj hj=>aR (λhp=>hj _ (by rw[aL hp] at fp;exact fp)) λhp=>hj _ (by rw[aE hp] at fp;exact fp);subst hw;refine bN hm (λ(w:Int×Int)=>es.length<=w.2/\(w.2<=4\/w.2=es.length)/\w.1=dv 0 (ds++es++List.replicate (w.2.toNat - es.length) 48)/\w.1<=1000000000000000000) (λw=>(4 - w.2).toNat) ⟨eX,.inr rfl,bn,eX⟩ ?_;rintro ⟨a,k⟩ ⟨k0,k1,k2,k3⟩ next hn;dsimp only at k0 k1 k2 k3 hn ⊢;subst k2;refine aR (λhk=>aR (λFD=>aj ?_) λFD=>aH ?_) λhk=>?_
 ·unfold ś;rw[aE (λq=>?_)];have:List.replicate (4 - es.length) (48:UInt8)=List.replicate (k.toNat - es.length) 48++List.replicate (4 - k.toNat) 48:=by
   rw[List.replicate_append_replicate];congr 1;omega
  have q2:=q.2.1;rw[this,<- fY,Ā] at q2;have:=@ā (List.replicate (4 - k.toNat) 48) (dv 0 (ds++es++List.replicate (k.toNat - es.length) 48));omega
 ·rw[wrap_i64 aB aB];refine hn _ ⟨eX,.inl eX,?_,eX⟩ eX;dsimp only;rw[show (k+1).toNat - es.length=k.toNat - es.length+1 by omega,List.replicate_succ',<- fY,agp];have:(48:UInt8).toNat=48:=rfl;omega
 obtain ⟨c,hc⟩:∃ c,x[(0:Int).toNat]?=some c:=⟨_,az (show (0:Int).toNat<x.length by show 0<x.length;omega)⟩;have c45:c≠45:=λe=>by
  subst e;obtain ⟨_,_,q⟩|⟨_,q,_⟩|⟨_,_,q,_⟩:=h.get hc<;>cases q
 refine bz (λw:Int=>w=dv 0 (ds++es++List.replicate (k.toNat - es.length) 48)) (λw hw=>?_) λj hj=>aR (λ_=>g aB hc ?_) λ_=>hj _ rfl
 ·have e4:es.length<=4->k.toNat=4:=λ_=>by omega
  have e5:¬ es.length<=4->k.toNat - es.length=0:=λ_=>by omega
  by_cases hv:w<=1000000000000000
  ·refine ai (Q:=λr=>r=true) (by unfold um;rw[aX aB,aX hv];exact aj rfl) ?_;rintro _ rfl;refine aG (ai (aj1 hm aB hv) ?_);rintro _ rfl;have ew:w.toNat=dv 0 (ds++es++List.replicate (k.toNat - es.length) 48):=by omega
   unfold ś;by_cases h4:es.length<=4
   ·rw[e4 h4] at ew hw;rw[ew];refine aw (λuB=>aj ?_) λhe=>aj ?_
    ·rw[aE (λq=>by rw[q.2.2] at uB;simp at uB)]
    rw[aL ⟨h4,aB,DN⟩,hw]
   rw[aE (λq=>h4 q.1)];refine aw (λ_=>aj rfl) λhe=>?_;have he:TX w.toNat=x:=by simpa using he
   have xe:=xes.resolve_left aB;rw[xe] at he;exact ao (ago h.d1 he) h4
  refine ai (Q:=λr=>r=false) (by unfold um;rw[aX aB,bw hv];exact aj rfl) ?_;rintro _ rfl;refine aY (aj ?_);unfold ś;rw[aE (λq=>?_)];have q2:=q.2.1;rw[e4 q.1] at hw;omega
 rw[mO 45 45 rfl];exact aw (λh=>ao jg c45) λ_=>hj _ rfl
def adX:ajQ:=by
 intro n m x hm hx;obtain ⟨ds,es,h⟩:=agr hx;have hl:=h.len;have lk:∀ {r:Int×Int},Tk (nj n x) r->Ev (λi=>ov (m i) x) (λz=>z=r) di->LK (nj n x) (λi=>ov (m i) x) (λy z=>z=y) (λ_ _=>False):=λ{r} h1 h2=>by
  obtain h1|h1:=h1
  ·rw[h1];exact da
  rw[h1];exact ⟨λ_ e=>by cases e;exact h2,λ_ e=>by cases e⟩
 have short:¬ x.length<=18->Ev (λi=>ov (m i) x) (λz=>z=(0,8)) di:=λh=>by
  unfold ov;exact aR Vr λh=>ao (show (x.length:Int)>18 by omega) h
 by_cases Yg:x.length<=20
 ·by_cases Qn:x.length<=18
  ·exact lk (ă h Yg) (ags hm h Qn)
  have:ś x ds es=(0,8):=by
   unfold ś;rw[aE (λq=>?_)];have:=aj0 q.2.1;rw[q.2.2] at this;exact Qn this
  have f:=ă (n:=n) h Yg;rw[this] at f;exact lk f (short Qn)
 refine lk (r:=(0,8)) ?_ (short aB);unfold nj ji;exact cz (λ_=>ll) λh=>ao qO aB
end
section
def B0 (k:Int) (t:ByS):Bool:=if k=1\/k=2\/k=3\/k=4 then true else if k=5 then (wq [32,95,124,95,32,95,32,46,46,46,32,41,32,93,32,125,32,63,32] ([32]++t++[32])).isSome else false
def enL:List ByS:=[[95,124,95],[95],[46,46,46],[41],[93],[125],[63]]
def agt:∀ o,o∈ops->B0 5 o=enL.contains o:=by decide +kernel
section
variable {m:Nat} {x:eG}
def PB {k n:Int} {t:ByS}:Tk (e9 k t n x) ⟨x.cP,x.bO+n,x.out++[⟨k,t,x.bO,x.bO+n⟩],if k=6 then x.line else B0 k t⟩:=by
 unfold e9 Bn jk;refine dW λ_=>dW λ_=>dW λ_=>cz (λh=>iA ?_) (λh=>?_)
 ·rw[aL jg]
 have h6:k≠6:=by simpa using h
 rw[aE h6];refine rp (λv=>v=decide (k=1\/k=2\/k=3\/k=4)) (λv hv=>?_) (λj hj=>?_)
 ·refine cz (λh=>iA ?_) (λh=>cz (λh5=>dW λ_=>dW λ_=>?_) (λh5=>iA ?_))
  ·rw[h] at hv;unfold B0;rw[aL (bh hv.symm)]
  ·rw[h] at hv;have e:B0 k t=(wq [32,95,124,95,32,95,32,46,46,46,32,41,32,93,32,125,32,63,32] ([32]++t++[32])).isSome:=by
    unfold B0;rw[aE (aW hv.symm),aL Nl]
   rw[e];exact tb (by unfold strings_Contains;exact dW λ_=>ll) ll
  rw[h] at hv;unfold B0;rw[aE (aW hv.symm),aE Nl]
 refine cz (λh=>hj _ ?_) (λh1=>cz (λh=>hj _ ?_) (λh2=>cz (λh=>hj _ ?_) (λh3=>hj _ ?_)))
 ·have:k=1:=by simpa using h
  simp[this]
 ·have:k=2:=by simpa using h
  simp[this]
 ·have:k=3:=by simpa using h
  simp[this]
 have g1:k≠1:=by simpa using h1
 have g2:k≠2:=by simpa using h2
 have g3:k≠3:=by simpa using h3
 rw[cY];simp[g1,g2,g3]
end
variable {c:ByS}
def aj2 (hc:∀ b,b∈c->b≠10) (hr:r=[]\/∃ y,r=10::y):(match wq (c++r) [10] with|some i=>((c++r).take i,(c++r).drop (i+([10]:ByS).length),true)|none=>(c++r,[],false)).1=c:=by
 have:wq (c++r) [10]=if r=[] then none else some c.length:=by
  induction c with
  | nil=>
   obtain rfl|⟨y,rfl⟩:=hr
   ·rfl
   ·simp[wq,List.isPrefixOf]
  | cons b c ih=>
   have hb:=hc b bn
   have e:([10]:ByS).isPrefixOf (b::(c++r))=false:=by simp[List.isPrefixOf];exact λq=>hb q.symm
   simp only[mY,wq,e]
   rw[ih λb' x8=>hc b' (by simp[x8])]
   by_cases q:r=[]<;>simp[q]
 rw[this];obtain rfl|⟨y,rfl⟩:=hr<;>simp
def LW:∀ o∈ops,(∀ b,o[0]?=some b->pW 0 b=true->o=[95,124,95]\/o=[95])/\0<o.length:=by
 have:∀ o∈ops,(match o with|b::_=>!(pW 0 b)||o==[95,124,95]||o==[95]|[]=>false)=true:=by decide
 intro o ho;have:=this o ho;cases o with
 | nil=>cases this
 | cons c o=>
  refine ⟨λb hb hp=>?_,bn⟩
  simp at hb;subst hb
  simp only[hp] at this
  simpa using this
def PD (h:Lw u≠[]):Lw u∈ops/\(Lw u).isPrefixOf u=true:=by
 unfold Lw at h ⊢;cases e:ops.find? λo=>o.isPrefixOf u with
 | none=>rw[e] at h;exact Kf
 | some o=>exact ⟨fo e,nU (p:=λo:ByS=>o.isPrefixOf u) e⟩
def Ą (h:0<qH u):(Lw u).length<=qH u:=by
 by_cases q:Lw u=[]
 ·rw[q];simp
 obtain ⟨h1,h2⟩:=PD q;rw[Ph] at h2;have hl:=(LW _ h1).2;have hr:=Sl (u:=u);obtain ⟨b,hb,hp⟩:=Cm (p:=pW) (u:=u) (i:=0) (j:=0) aB;have e0:=h2 0 hl;rw[hb] at e0;obtain e|e:=(LW _ h1).1 b e0.symm hp
 ·exfalso;rw[e] at h2;have u0:=h2 0 dN;have u1:=h2 1 dN;have xp:run pW 0 u=1:=run_eq (λj hj=>⟨b,by rw[show j=0 by omega];exact hb,by rw[show j=0 by omega];exact hp⟩) λc hc=>by
   rw[u1] at hc;cases hc;decide
  unfold qH at h;rw[aL ⟨xp,.inr u0⟩] at h;omega
 rw[e];exact h
def Xb {c:UInt8} {w:ByS} (h:pW 0 c=false):qH (c::w)=0:=by
 unfold qH;simp[run,h]
def agu (hc:∀ b,b∈c->b≠10) (hr:r=[]\/∃ y,r=10::y):∃ y,y.1=c/\Tk (strings_Cut (c++r) [10]) y:=⟨_,aj2 hc hr,by unfold strings_Cut;exact dW λ_=>ll⟩
def Mj (s:ByS) (a:Int):List aC->Bool
 | []=>false
 | t::l=>if t.aq=7 then false else if t.aq=6 then Mj s a l else !E4 s t.pO a&&B0 t.aq t.bM
def UF (h:a<=a') (hn:∀ p:Nat,a<=p->(p:Int)<a'->s[p]?≠some 10):∀ {l:List aC},(∀ t,t∈l->0<=t.pO/\t.pO<=a)->Mj s a' l=Mj s a l
 | [],_=>rfl
 | t::l,hl=>by
  have ih:=UF h hn λu hu=>hl u (th _ hu);obtain ⟨h0,h1⟩:=hl t bn;have e:E4 s t.pO a'=E4 s t.pO a:=by
   rw[cY,uM h0,uM h0];constructor
   ·rintro ⟨p,q1,q2,q3⟩;obtain q|q:=o6 (p:Int) a
    ·exact ⟨p,q1,q,q3⟩
    exact ao q3 (hn p q q2)
   rintro ⟨p,q1,q2,q3⟩;exact ⟨p,q1,by omega,q3⟩
  simp only[Mj,ih,e]
def ą {s:ByS} {a a':Int} (h:a<=a'):∀ {l:List aC},(∀ t,t∈l->0<=t.pO/\t.pO<=a)->Mj s a l=false->Mj s a' l=false
 | [],_,_=>rfl
 | t::l,hl,hf=>by
  have ih:=@ą s a a' h l λu hu=>hl u (List.mem_cons_of_mem _ hu);obtain ⟨h0,h1⟩:=hl t (by simp);simp only[Mj] at hf ⊢;split
  ·rfl
  split
  ·rename_i q1 q2;rw[if_neg q1,if_pos q2] at hf;exact ih hf
  rename_i q1 q2;rw[if_neg q1,if_neg q2,Bool.and_eq_false_iff] at hf;rw[Bool.and_eq_false_iff];exact hf.imp (λh2=>by
   have h2:E4 s t.pO a=true:=by simpa using h2
   rw[Ft h0 (Int.le_refl _) h h2];rfl) id
section
variable {m:Nat->Nat}
def agv (hm:bL m) {t:aC} (ht:t.aq=5->t.bM∈ops):Ev (λi=>A8 (m i) t) (λr=>r=B0 t.aq t.bM) di:=by
 unfold A8 ji;refine bz (λv=>v=decide (t.aq=1\/t.aq=2\/t.aq=3\/t.aq=4)) (λv hv=>?_) (λj hj=>?_)
 ·subst hv;unfold B0;by_cases h:t.aq=1\/t.aq=2\/t.aq=3\/t.aq=4
  ·rw[aL h,aX h];exact aY uY
  rw[aE h,bw h];refine aG (aw (λh5=>?_) λh5=>aj (by rw[aE Nl]));have h5:t.aq=5:=by simpa using h5
  have e:=agt _ (ht h5);unfold B0 at e;rw[aE dN,aL rfl] at e;rw[aL h5,e];refine bN hm (λ(v:Int)=>0<=v/\v<=7/\(enL.drop v.toNat).contains t.bM=enL.contains t.bM) (λv=>(7 - v).toNat) ⟨dN,dN,rfl⟩ ?_;rintro v ⟨v0,v1,v2⟩ next hn;refine aR (λh=>gm v0 h λy hy=>?_) λh=>aj ?_
  ·have h:v<7:=h;have hy:enL[v.toNat]?=some y:=hy;obtain ⟨q1,q2⟩:=an.1 hy;rw[bZ q1,q2,List.contains_cons] at v2;refine aw (λh2=>aj ?_) λh2=>aH (hn _ ⟨aB,aB,?_⟩ aB)
   ·rw[<- v2,show (t.bM==y)=true by rw[cg] at h2 ⊢;exact h2.symm];rfl
   rw[<- v2,show (t.bM==y)=false by rw[beq_eq_false_iff_ne] at h2 ⊢;exact λq=>h2 q.symm,show (v+1).toNat=v.toNat+1 by omega];rfl
  have h:¬ v<7:=h;rw[show v=7 by omega] at v2;rw[<- v2];rfl
 refine aw (λh=>hj _ ?_) λh1=>aw (λh=>hj _ ?_) λh2=>aw (λh=>hj _ ?_) λh3=>hj _ ?_
 ·have:t.aq=1:=by simpa using h
  simp[this]
 ·have:t.aq=2:=by simpa using h
  simp[this]
 ·have:t.aq=3:=by simpa using h
  simp[this]
 have g1:t.aq≠1:=by simpa using h1
 have g2:t.aq≠2:=by simpa using h2
 have g3:t.aq≠3:=by simpa using h3
 rw[cY];simp[g1,g2,g3]
def aj3 (hm:bL m) (ha:a<=s.length) (hs:s.length<=65536) {l:List aC} (hl:(l.length:Int)<=70000) (he:∀ t,t∈l->0<=t.pO/\t.pO<=a) (h5:∀ t,t∈l->t.aq=5->t.bM∈ops) :
  Ev (λi=>xT (m i) s l a) (λr=>r=Mj s a l.reverse) di:=by
 unfold xT
 refine aH (bN hm (λ(v:Int)=>-1<=v/\v<l.length/\Mj s a (l.take (v+1).toNat).reverse=Mj s a l.reverse) (λv=>(v+1).toNat) ⟨aB,aB,by rw[dM aB]⟩ ?_)
 rintro v ⟨v0,v1,v2⟩ next hn
 refine aR (λh=>?_) λh=>aj (by rw[<- v2,show (v+1).toNat=0 by omega];rfl)
 obtain ⟨t,ht⟩:∃ t,l[v.toNat]?=some t:=⟨_,az aB⟩
 obtain ⟨q1,q2⟩:=an.1 ht
 rw[show (v+1).toNat=v.toNat+1 by omega,j5 q1,q2,oD,mJ,nh,Mj] at v2
 have tm:=aQ ht
 obtain ⟨e0,e1⟩:=he t tm
 refine g h ht (aw (λh7=>aj ?_) λh7=>g h ht (aw (λh6=>aH (hn _ ⟨aB,aB,?_⟩ aB)) λh6=>g h ht ?_))
 ·rw[<- v2,aL QM]
 ·rw[aE QM,aL (by simpa using h6)] at v2
  rw[show v - 1+1=v by omega];exact v2
 rw[aE QM,aE (by simpa using h6)] at v2
 refine bN hm (λ(w:Int)=>t.pO<=w/\w<=a/\E4 s w a=E4 s t.pO a) (λw=>(a - w).toNat) ⟨dR _,e1,rfl⟩ ?_
 rintro w ⟨w0,w1,w2⟩ NT Jg
 refine aR (λhw=>?_) λhw=>g h ht (ai (agv hm (h5 t tm)) ?_)
 ·obtain ⟨c,hc⟩:∃ c,s[w.toNat]?=some c:=⟨_,az aB⟩
  refine g aB hc ?_
  rw[mO 10 10 rfl]
  refine aw (λxd=>aj ?_) λxd=>aH (Jg _ ⟨aB,aB,?_⟩ aB)
  ·have xd:c=10:=by simpa using xd
   subst xd
   have:E4 s t.pO a=true:=(uM e0).2 ⟨w.toNat,aB,aB,hc⟩
   rw[<- v2,this];rfl
  ·rw[<- w2,cY,uM aB,uM aB]
   constructor
   ·rintro ⟨p,p1,p2,p3⟩;exact ⟨p,by omega,p2,p3⟩
   ·rintro ⟨p,p1,p2,p3⟩
    refine ⟨p,?_,p2,p3⟩
    obtain q|q:=o6 w p
    ·omega
    ·rw[show p=w.toNat by omega,hc] at p3
     cases p3;cases xd
 ·rintro _ rfl
  have:E4 s t.pO a=false:=by
   rw[<- w2]
   cases q:E4 s w a with
   | false=>rfl
   | true=>
    obtain ⟨p,p1,p2,_⟩:=(uM aB).1 q
    omega
  refine aj ?_
  rw[<- v2,this];simp
end
end
section
variable {δ X Y:Type} {V:α->β->Prop} {W:sX->β->Prop} {x:aI α} {F:Nat->aI β}
def LK.te {y:α} {z:β} (h:Tk x y) (h':Ev F (λr=>r=z) di) (hv:V y z):LK x F V W:=by
 obtain rfl|rfl:=h
 ·exact da
 exact ⟨λ_ e=>by cases e;exact h'.qh λ_ q=>q▸hv,λ_ e=>by cases e⟩
def LK.Ć {x:aI γ} {G:Nat->aI δ} {U:γ->δ->Prop} {f:γ->aI α} {K:Nat->δ->aI β} (h:LK x G U λ_ _=>False) (hk:∀ a b,x=.ok a->U a b->LK (f a) (λi=>K i b) V W):LK (ag x f) (λi=>ag (G i) (K i)) V W:=
 cm (U:=λa b=>x=.ok a/\U a b) (W0:=λ_ _=>False) ⟨λa e=>(h.1 a e).qh λ_ q=>⟨e,q⟩,h.2⟩ (λa b q=>hk a b q.1 q.2) λ_ _ h=>h.elim
def LK.rb {F:Nat->aI δ} {g:δ->β} {V':α->δ->Prop} (h:LK x F V' λ_ _=>False) (hk:∀ a b,V' a b->V a (g b)):LK x (λi=>ag (F i) λy=>.ok (g y)) V W:=
 ⟨λa e=>(h.1 a e).gw λb q=>aj (hk a b q),λp e=>(h.2 p e).gw λb q=>q.elim⟩
def LK.jnT (J:Y->Prop) {j:Nat->Y->aI β} {p:Nat->(Y->aI β)->aI β} (hj:∀ v,J v->LK x (λi=>j i v) V W) (hp:∀ j:Nat->Y->aI β,(∀ v,J v->LK x (λi=>j i v) V W)->LK x (λi=>p i (j i)) V W):LK x (λi=>aI.jn (j i) (p i)) V W:=hp j hj
end
structure Nf (s:ByS) (a:Int) (t:aC):Prop where
 p:t.cN=a
 e:a<t.pO
 l:t.pO<=s.length
 k:t.aq≠0/\t.aq≠7
 k6:t.aq=6->(∀ p:Nat,a<=p->(p:Int)<t.pO->s[p]?≠some 10)/\(t.pO=s.length\/s[t.pO.toNat]?=some 10)
 k5:t.aq=5->t.bM∈ops
 k4:t.aq=4->∀ {m:Nat->Nat},bL m->Ev (λi=>jE (m i) t.bM) (λz=>z.2.eU=0) di
 k2:t.aq=2->SA t.bM
def NV (s:ByS) (a:Int) (out:List aC) (line:Bool) (y:Bool×eG) (z:aC×Bool):Prop:=
 z.2=y.1/\(y.1=false->y.2.bO=a)/\(y.1=true->y.2=⟨s,z.1.pO,out++[z.1],if z.1.aq=6 then line else B0 z.1.aq z.1.bM⟩/\Nf s a z.1)
section
variable {m:Nat->Nat}
def ć {t:aC}:NV s a out line (false,⟨s,a,out,line⟩) (t,false):=⟨rfl,λ_=>rfl,λh=>by cases h⟩
def sub_sub {k:Int} (h0:0<=a) (h1:1<=k):sub (sub s a (a+k)) 1 (k - 1)=sub s (a+1) (a+k - 1):=by
 unfold sub;rw[oK,sD,kF];congr 1
 ·omega
 congr 1;omega
def agw (hm:bL m) (h0:0<=a) (hb:s[a.toNat]?=some 34) (hs:s.length<=65536) :
  LK (n8 n ⟨s,a,out,line⟩) (λi=>ag (AD (m i) s a) λy10=>br (decide (y10.1<0)) (.ok ((aC.mk 0 [] 0 0),false)) (ag (vS (m i) s a y10.1 y10.2) λy16=>.ok (y16.1,y16.2))) (NV s a out line) (λ_ _=>False):=by
 have iy:=(an.1 hb).1
 unfold n8 ji
 refine bG λ_=>gR Ul (bj (Pr hm h0 aB hs) ?_)
 unfold GC GB
 dsimp only
 rw[show (gL s a).drop (1:Int).toNat=s.drop (a+1).toNat by unfold gL;rw[kF];congr 1;omega]
 cases e:qk (s.drop (a+1).toNat) with
 | none=>exact aF (λ_=>aJ (λ_=>b9 ć) λh=>by cases h) λh=>by cases h
 | some x=>
  have hx:=Uj e
  have hx0:=abG e
  simp only[iw] at hx
  dsimp only
  simp only[lP]
  refine aF (λh=>ao jg (by omega:¬ (1:Int)+x.1=0)) λ_=>bG λ_=>bG λ_=>aJ IE λ_=>?_
  refine LK.rb (V':=NV s a out line) ?_ λ_ _ h=>h
  unfold vS ji
  have f:∀ {k:Int},k=3\/k=4->∀ {t:ByS},(k=4->∀ {m:Nat->Nat},bL m->Ev (λi=>jE (m i) t) (λz=>z.2.eU=0) di)->LK (ag (e9 k t (1+x.1) ⟨s,a,out,line⟩) λy=>.ok (true,y)) (λ_=>.ok (aC.mk k t a (a+1+x.1 - 1+1),true)) (NV s a out line) (λ_ _=>False):=λ{k} hk {t} hi=>by
   refine gR PB (b9 ⟨rfl,du,λ_=>⟨?_,rfl,eX,eX,eX,λh=>(by dsimp only at h;omega),λh=>(by dsimp only at h;omega),hi,λh=>(by dsimp only at h;omega)⟩⟩)
   dsimp only
   rw[show a+(1+(x.1:Int))=a+1+x.1 - 1+1 by omega]
  refine dG rfl (λ_=>bG λ_=>bG λ_=>bV zR (bV aB ?_)) λ_=>bV zR (bV aB ?_)
  ·have es:sub (sub s a (a+(1+x.1))) 1 (1+x.1 - 1)=sub s (a+1) (a+1+x.1 - 1):=by
    rw[sub_sub h0 aB];congr 1;omega
   rw[es]
   have sl:=Ff (c:=s) (i:=a+1) (j:=a+1+x.1 - 1) aB aB aB
   refine LK.Ć (LV hm aB) λy z hy hz=>bV zR (bV aB (bV zR ?_))
   subst hz
   dsimp only
   refine aF (λh=>?_) λh=>bG λ_=>bG λ_=>?_
   ·have h:z.2.eU≠0:=by simpa using h
    rw[beq_eq_false_iff_ne.2 h];exact b9 ć
   ·have h:z.2.eU=0:=by simpa using h
    rw[h]
    refine f (.inr rfl) λ_ {m'} hm'=>((LV (n:=n) hm' aB).1 _ hy).qh λw hw=>?_
    have:=iP Prod.snd hw
    dsimp only at this
    rw[<- this,h]
  ·rw[show a+(1+(x.1:Int))=a+1+x.1 - 1+1 by omega]
   refine LK.Ć (GI hm) λy z _ hz=>bV zR ?_
   subst hz
   refine aF (λh=>?_) λh=>?_
   ·have h:z.2.eU≠0:=by simpa using h
    rw[beq_eq_false_iff_ne.2 h];exact b9 ć
   ·have h:z.2.eU=0:=by simpa using h
    rw[h]
    exact f (.inl rfl) λh=>by omega
def agx {r:ByS}:LA r []:=λ_ _=>.inr (.inl rfl)
end
section
variable {m:Nat->Nat}
def PE {k l:Int} {t:ByS} (hl:0<l) (hn:a+l<=s.length) (hk:k≠0/\k≠7) (h6:k=6->(∀ p:Nat,a<=p->(p:Int)<a+l->s[p]?≠some 10)/\(a+l=s.length\/s[(a+l).toNat]?=some 10)) (h5:k=5->t∈ops) (h4:k≠4) (h2:k=2->SA t) :
  Tk (ag (e9 k t l ⟨s,a,out,line⟩) λy=>.ok (true,y)) (true,⟨s,a+l,out++[aC.mk k t a (a+l)],if k=6 then line else B0 k t⟩)/\NV s a out line (true,⟨s,a+l,out++[aC.mk k t a (a+l)],if k=6 then line else B0 k t⟩) (aC.mk k t a (a+l),true):=
 ⟨tb PB ll,⟨rfl,du,λ_=>⟨rfl,rfl,eX,hn,hk,h6,h5,(λh=>ao h h4),h2⟩⟩⟩
def abX (hm:bL m) (h0:0<=a) {b:UInt8} (hb:s[a.toNat]?=some b) (hB:¬ isB b) (hs:s.length<=65536) :
  LK (mZ n ⟨s,a,out,line⟩) (λi=>uq (m i) s a) (NV s a out line) (λ_ _=>False):=by
 have iy:=(an.1 hb).1
 have hu:s.drop a.toNat=b::s.drop (a+1).toNat:=by
  rw[an] at hb
  obtain ⟨q1,q2⟩:=hb
  rw[bZ q1,q2,show (a+1).toNat=a.toNat+1 by omega]
 have hul:(s.drop a.toNat).length=s.length - a.toNat:=by simp
 unfold mZ uq ji
 dsimp only
 refine bG λ_=>od (Au _ _) (eV h0 hb ?_)
 rw[mO 34 34 rfl,show gL s a=s.drop a.toNat from rfl]
 by_cases h34:b=34
 ·subst h34
  refine aJ (λ_=>?_) du
  refine aF (λh=>by rw[hu] at h;cases h) λ_=>gR WS (aF (λh=>?_) λ_=>je λc _ hc=>?_)
  ·rw[hu,Xb dN] at h;cases h
  have hc:(s.drop a.toNat)[0]?=some c:=hc
  rw[hu] at hc
  cases hc
  refine od (Bi _) (aF du λ_=>aF (λ_=>?_) du)
  refine tq (agw hm h0 hb hs) (λa b h=>b9 h) λ_ _ h=>h
 refine aJ (λh=>ao jg h34) λ_=>?_
 have hpre:(sub s a (a+2)==[47,47])=[47,47].isPrefixOf (s.drop a.toNat):=Pp (o:=[47,47]) h0
 refine LK.jnT (λv=>v=[47,47].isPrefixOf (s.drop a.toNat)) (λv hv=>?_) (λj hj=>?_)
 rotate_left
 ·refine bV zR (aJ (λh=>?_) λh=>hj _ ?_)
  ·have h:=bh h
   exact bV zR (bV aB (hj _ hpre))
  ·have h:=aW h
   symm
   cases e:[47,47].isPrefixOf (s.drop a.toNat) with
   | false=>rfl
   | true=>
    rw[rM,cg] at e
    have:=iP List.length e
    simp at this;omega
 refine dG hv (λhp=>?_) λhp=>?_
 ·
  have hrl:=JN (s:=s) (a:=a) (p:=pC) (i:=0) h0 aB
  have rl:=@Ck pC (s.drop a.toNat) 0
  have HJ:2<=run pC 0 (s.drop a.toNat):=by
   have h2:=hp
   rw[Ph] at h2
   have g0:=h2 0 dN
   have g1:=h2 1 dN
   obtain q|q:=fN (run pC 0 (s.drop a.toNat)) 2
   ·exfalso
    have q2:run pC 0 (s.drop a.toNat)=0\/run pC 0 (s.drop a.toNat)=1:=by omega
    obtain q2|q2:=q2
    ·have:=zO (p:=pC) (u:=s.drop a.toNat) (i:=0) (b:=47) (by rw[q2];exact g0)
     simp[pC] at this
    ·have:=zO (p:=pC) (u:=s.drop a.toNat) (i:=0) (b:=47) (by rw[q2];exact g1)
     simp[pC] at this
   ·exact q
  generalize hR:run pC 0 (s.drop a.toNat)=R at hrl rl HJ
  have g:∀ p:Nat,a<=p->(p:Int)<a+R->s[p]?≠some 10:=λp p0 p1 h=>by
   obtain ⟨c,q1,q2⟩:=Cm (p:=pC) (u:=s.drop a.toNat) (i:=0) (j:=p - a.toNat) aB
   rw[dD,show a.toNat+(p - a.toNat)=p by omega,h] at q1
   cases q1
   simp[pC] at q2
  have g':a+R=s.length\/s[(a+R).toNat]?=some 10:=by
   obtain q|q:=o6 (a+R) s.length
   ·refine .inr ?_
    obtain ⟨c,hc⟩:∃ c,s[(a+R).toNat]?=some c:=⟨_,az aB⟩
    have:=zO (p:=pC) (u:=s.drop a.toNat) (i:=0) (b:=c) (by rw[hR,dD,show a.toNat+R=(a+R).toNat by omega];exact hc)
    have:c=10:=by simpa[pC] using this
    rw[hc,this]
   ·exact .inl aB
  have tl:((s.drop a.toNat).take R).length=R:=by rw[jo];omega
  obtain ⟨yc,Qk,hcut⟩:=agu (c:=(s.drop a.toNat).take R) (r:=(s.drop a.toNat).drop R) (λc hc=>by
   obtain ⟨i,hi⟩:=pF.1 hc
   rw[hY] at hi
   split at hi
   ·rw[dD] at hi
    intro e;subst e
    exact g _ aB aB hi
   ·cases hi) (by
   obtain q|q:=g'
   ·exact .inl (dY aB)
   ·refine .inr ⟨(s.drop a.toNat).drop (R+1),?_⟩
    have e:(s.drop a.toNat)[R]?=some 10:=by rw[dD,show a.toNat+R=(a+R).toNat by omega];exact q
    obtain ⟨w1,w2⟩:=an.1 e
    rw[bZ w1,w2])
  rw[nb] at hcut
  have nv:=PE (s:=s) (a:=a) (out:=out) (line:=line) (k:=6) (l:=R) (t:=gL ((s.drop a.toNat).take R) 2) aB hrl ⟨dN,dN⟩ (λ_=>⟨g,g'⟩) du dN du
  refine LK.te (y:=(true,⟨s,a+R,out++[aC.mk 6 (gL ((s.drop a.toNat).take R) 2) a (a+R)],line⟩)) (z:=(aC.mk 6 (gL ((s.drop a.toNat).take R) 2) a (a+R),true)) ?_ ?_ nv.2
  ·refine tb hcut ?_
   rw[Qk,tl]
   exact dW λ_=>nv.1
  ·refine bz (λw=>w=a+R) (λw hw=>?_) (λj hj=>?_)
   ·subst hw
    refine aH (dy ⟨aB,aB,hrl⟩ (aj ?_))
    have:sub s (a+2) (a+R)=gL ((s.drop a.toNat).take R) 2:=by
     unfold sub gL
     rw[oK,kF]
     congr 1
     ·omega
     ·congr 1;omega
    rw[this]
   ·refine bN hm (λv=>a<=v/\v<=a+R) (λv=>(s.length - v).toNat) ⟨aB,aB⟩ ?_
    intro v hv next hn
    refine aR (λLo=>gm aB Lo λx hx=>?_) (λFE=>hj _ aB)
    rw[bne,mO 10 10 rfl]
    refine aw (λuB=>aH (hn _ ?_ aB)) (λheq=>hj _ ?_)
    ·have uB:x≠10:=by simpa using uB
     obtain q|q:=o6 v (a+R)
     ·omega
     ·rw[show v.toNat=(a+R).toNat by omega] at hx
      obtain w|w:=g'
      ·omega
      ·rw[hx] at w;cases w;exact ao rfl uB
    ·have heq:x=10:=by simpa using heq
     subst heq
     obtain q|q:=o6 v (a+R)
     ·exact ao hx (g v.toNat aB aB)
     ·omega
 have wl:(qH (s.drop a.toNat):Int)<=s.length - a:=by
  have:=Sl (u:=s.drop a.toNat)
  have:=Ck (p:=pW) (u:=s.drop a.toNat) (i:=0)
  omega
 refine gR WS ?_
 by_cases hD:xZ b=true
 ·
  have hw:qH (s.drop a.toNat)=0:=by
   have hL:MU b=false:=by
    rw[Pj,decide_eq_true_eq] at hD
    rw[Uk];simp;omega
   have h35:b≠35:=by rintro rfl;revert hD;decide
   rw[hu];exact Xb (by simp[pW,hL,h35])
  rw[hw]
  refine aF du λ_=>je λc _ hc=>?_
  have hc:(s.drop a.toNat)[0]?=some c:=hc
  rw[hu] at hc
  cases hc
  refine od (Bi _) (aF (λ_=>gR Ym ?_) λh=>by rw[hD] at h;cases h)
  have hr0:run pD 0 (s.drop a.toNat)≠0:=by rw[hu];simp[run,pD,hD]
  have hnum:Po (s.drop a.toNat)=E3 (s.drop a.toNat):=by unfold Po;rw[aE hr0]
  have Ja:=abH (u:=s.drop a.toNat)
  have hn0:0<E3 (s.drop a.toNat):=by unfold E3;split<;>omega
  refine bj (DZ hm h0 aB hs) ?_
  rw[hnum] at Ja ⊢
  generalize hN:E3 (s.drop a.toNat)=N at Ja hn0
  have es:sub s a (a+N)=(s.drop a.toNat).take N:=by unfold sub;congr 1;omega
  refine aJ (λ_=>bV aB (bG λ_=>?_)) λh=>ao qO aB
  rw[es,show sI (s.drop a.toNat) (N:Int)=(s.drop a.toNat).take N by unfold sI;congr 1]
  have ns:SA ((s.drop a.toNat).take N):=by
   have tl:((s.drop a.toNat).take N).length=N:=by rw[jo];omega
   refine ⟨?_,b,(s.drop (a+1).toNat).take (N - 1),?_,hD⟩
   ·have:=af8 (c:=(s.drop a.toNat).take N) (r:=(s.drop a.toNat).drop N) (r':=[]) agx (by rw[nb,hN,tl])
    rwa [my] at this
   ·obtain ⟨k,hk⟩:∃ k,N=k+1:=⟨N - 1,aB⟩
    rw[hu,hk,oC];rfl
  refine cm (adX hm ns) (λy z hz=>?_) λ_ _ h=>h.elim
  subst hz
  refine bV aB ?_
  have nv:=PE (s:=s) (a:=a) (out:=out) (line:=line) (k:=2) (l:=N) (t:=(s.drop a.toNat).take N) aB aB ⟨dN,dN⟩ du du dN λ_=>ns
  refine aF (λh=>?_) λh=>bG λ_=>?_
  ·have h:z.2≠0:=by simpa using h
   rw[beq_eq_false_iff_ne.2 h];exact b9 ć
  ·have h:z.2=0:=by simpa using h
   rw[h]
   exact LK.te nv.1 uY nv.2
 ·
  have hD:xZ b=false:=eq_false_of_ne_true hD
  have hn0:Po (s.drop a.toNat)=0:=by unfold Po;rw[aL (by rw[hu];simp[run,pD,hD])]
  have ol:(Lw (s.drop a.toNat)).length<=3:=by
   by_cases q:Lw (s.drop a.toNat)=[]
   ·rw[q];simp
   ·have:∀ o∈ops,o.length<=3:=by decide
    exact this _ (PD q).1
  refine bj (DZ hm h0 aB hs) (aJ IE λ_=>bj (Hw hm h0 aB hs) (bj (LB hm h0 aB hs) ?_))
  have ow:=Ą (u:=s.drop a.toNat)
  refine LK.jnT (λv=>v=decide ((0:Int)<qH (s.drop a.toNat))) (λv hv=>?_) (λj hj=>aJ (λh=>bV zR (hj _ ?_)) λh=>hj _ ?_)
  rotate_left
  ·have h:=bh h
   rw[aX (show (0:Int)<qH (s.drop a.toNat) by omega),aX]
   have:=ow aB;omega
  ·have h:=aW h
   rw[bw aB]
  refine dG hv (λhw=>bG λ_=>bV aB ?_) λhw=>?_
  ·have hw:(0:Int)<qH (s.drop a.toNat):=bh hw
   have nv:=PE (s:=s) (a:=a) (out:=out) (line:=line) (k:=1) (l:=qH (s.drop a.toNat)) (t:=sub s a (a+qH (s.drop a.toNat))) hw aB ⟨dN,dN⟩ du du dN du
   rw[show sI (s.drop a.toNat) (qH (s.drop a.toNat):Int)=sub s a (a+qH (s.drop a.toNat)) by unfold sI sub;congr 1;omega]
   exact LK.te nv.1 uY nv.2
  ·refine je λc _ hc=>?_
   have hc:(s.drop a.toNat)[0]?=some c:=hc
   rw[hu] at hc
   cases hc
   refine od (Bi _) (aF (λh=>by rw[hD] at h;cases h) λ_=>?_)
   rw[mO 34 34 rfl]
   refine aF (λh=>ao jg h34) λ_=>gR Sn (bV zR ?_)
   by_cases ho:Lw (s.drop a.toNat)=[]
   ·rw[ho]
    exact aF (λ_=>b9 ć) λh=>by cases h
   ·obtain ⟨o1,o2⟩:=PD ho
    have o3:=(LW _ o1).2
    have o4:(Lw (s.drop a.toNat)).length<=(s.drop a.toNat).length:=by
     rw[rM,cg] at o2
     have:=iP List.length o2
     simp at this ⊢;omega
    have nv:=PE (s:=s) (a:=a) (out:=out) (line:=line) (k:=5) (l:=(Lw (s.drop a.toNat)).length) (t:=Lw (s.drop a.toNat)) aB aB ⟨dN,dN⟩ du (λ_=>o1) dN du
    refine aF (λh=>ao jg ho) λ_=>?_
    rw[show (Lw (s.drop a.toNat) !=[])=true by simpa using ho]
    exact LK.te nv.1 uY nv.2
end
structure LI (s:ByS) (T:List aC) (a:Int):Prop where
 e:∀ t,t∈T->0<=t.pO/\t.pO<=a
 o5:∀ t,t∈T->t.aq=5->t.bM∈ops
 len:(T.length:Int)<=a
 l7:∀ t,t∈T->t.aq=7->E4 s t.cN t.pO=true
 c7:∀ t,t∈T->t.aq=6->t.pO=s.length\/s[t.pO.toNat]?=some 10
 c6:∀ (i j:Nat) t u,i<j->T[i]?=some t->T[j]?=some u->t.aq=6->u.aq≠7->u.aq≠0->E4 s t.pO u.cN=true
 br:∀ (i:Nat) t u,T[i]?=some t->T[i+1]?=some u->u.aq=7->Z t [91]=false/\Z t [61,126]=false
 it:∀ t,t∈T->t.aq=4->∀ {m:Nat->Nat},bL m->Ev (λi=>jE (m i) t.bM) (λz=>z.2.eU=0) di
 nm:∀ t,t∈T->t.aq=2->SA t.bM
def uz {α:Type} {l:List α} {t u:α} {i:Nat} (h:(l++[t])[i]?=some u):l[i]?=some u\/(i=l.length/\u=t):=by
 have hi:=(an.1 h).1;rw[eb,gp] at hi;obtain q|q:=fN i l.length
 ·rw[fR q] at h;exact .inl h
 have:i=l.length:=by omega
 subst this;rw[List.getElem?_concat_length] at h;cases h;exact .inr vf
section
variable {T:List aC} {m:Nat->Nat}
def LI.adv {a':Int} (h:LI s T a) (ha:a<=a'):LI s T a':={ h with e:=λt ht=>⟨(h.e t ht).1,by have:=(h.e t ht).2;omega⟩,len:=by have:=h.len;omega }
def LI.snoc (h:LI s T a) (e0:0<=a) (e1:a<t.pO) (o5:t.aq=5->t.bM∈ops) (l7:t.aq=7->E4 s t.cN t.pO=true) (c7:t.aq=6->t.pO=s.length\/s[t.pO.toNat]?=some 10) (c6:∀ u,u∈T->u.aq=6->t.aq≠7->t.aq≠0->E4 s u.pO t.cN=true) (br:∀ u,T.getLast?=some u->t.aq=7->Z u [91]=false/\Z u [61,126]=false) (it:t.aq=4->∀ {m:Nat->Nat},bL m->Ev (λi=>jE (m i) t.bM) (λz=>z.2.eU=0) di) (nm:t.aq=2->SA t.bM):LI s (T++[t]) t.pO:=by
 have mem:∀ {p:aC->Prop},(∀ u,u∈T->p u)->p t->∀ u,u∈T++[t]->p u:=λh1 h2 u hu=>by
  obtain q|q:=bH.1 hu
  ·exact h1 u q
  rw[cO.1 q];exact h2
 refine ⟨mem (λu hu=>⟨(h.e u hu).1,by have:=(h.e u hu).2;omega⟩) ⟨aB,aB⟩,mem h.o5 o5,by have:=h.len;simp;omega,mem h.l7 l7,mem h.c7 c7,λi j u v hij hu hv h6 k7 k0=>?_,λi u v hu hv k7=>?_,mem (p:=λt=>t.aq=4->∀ {m:Nat->Nat},bL m->Ev (λi=>jE (m i) t.bM) (λz=>z.2.eU=0) di) h.it it,mem h.nm nm⟩
 ·obtain q|⟨q,rfl⟩:=uz hu
  ·obtain q2|⟨_,rfl⟩:=uz hv
   ·exact h.c6 i j u v hij q q2 h6 k7 k0
   exact c6 u (aQ q) h6 k7 k0
  have:=(an.1 hv).1;simp at this;omega
 obtain q2|⟨q2,rfl⟩:=uz hv
 ·obtain q|⟨q,rfl⟩:=uz hu
  ·exact h.br i u v q q2 k7
  have:=(an.1 q2).1;omega
 obtain q|⟨q,rfl⟩:=uz hu
 ·refine br u ?_ k7;rw[List.getLast?_eq_getElem?,<- q];congr 1;omega
 omega
def LI.tok (h:LI s T a) (h0:0<=a) (nf:Nf s a t) (ha:s[a.toNat]?≠some 10):LI s (T++[t]) t.pO:=by
 refine h.snoc h0 nf.e nf.k5 (λq=>ao q nf.k.2) (λq=>(nf.k6 q).2) (λu hu hk _ _=>?_) (λ_ _ q=>ao q nf.k.2) nf.k4 nf.k2;have e:=h.e u hu;have:=nf.l;have:=nf.e;have q:=(h.c7 u hu hk).resolve_left aB;have:u.pO≠a:=λw=>by rw[w] at q;exact ha q
 rw[nf.p];exact (uM e.1).2 ⟨u.pO.toNat,by omega,by omega,q⟩
def LI.nl (h:LI s T a) (h0:0<=a) (ha:s[a.toNat]?=some 10) (hl:Mj s a T.reverse=true):LI s (T++[aC.mk 7 [10] a (a+1)]) (a+1):=by
 refine h.snoc (t:=aC.mk 7 [10] a (a+1)) h0 eX du (λ_=>(uM h0).2 ⟨a.toNat,aB,eX,ha⟩) du (λ_ _ _ q=>ao rfl q) (λu hu _=>?_) du du;obtain ⟨w,rfl⟩:∃ w,T=w++[u]:=by
  rw[List.getLast?_eq_some_iff] at hu;exact hu
 rw[oD,mJ,nh,Mj] at hl;have hk:∀ o:ByS,B0 5 o=false->Z u o=false:=λo ho=>by
  cases e:Z u o with
  | false=>rfl
  | true=>
   exfalso
   have e':(u.aq==5)=true/\(u.bM==o)=true:=by
    unfold Z at e;simpa using e
   have k5:u.aq=5:=by simpa using e'.1
   have tx:u.bM=o:=by simpa using e'.2
   rw[aE aB,aE aB,k5,tx,ho,qJ] at hl
   cases hl
 exact ⟨hk _ dN,hk _ dN⟩
def UG:WZ:=by
 intro n m s hm;unfold pX tp ji oj jk s6;refine dG rfl (λ_=>b9 Tz) λhs=>?_;have hs:s.length<=65536:=by have:=aW hs;omega
 refine uL (λ(v:eG) (w:List aC×Int)=>w=(v.out,v.bO)/\v.cP=s/\0<=v.bO/\v.bO<=s.length/\v.line=Mj s v.bO v.out.reverse/\LI s v.out v.bO) ?_ n hm _ _ ⟨rfl,rfl,dR 0,eX,rfl,bn,bn,bn,bn,bn,bn,bn,bn,bn⟩;rintro ⟨s',a,T,line⟩ _ ⟨rfl,i1,i2,i3,i4,i5⟩ next next' hn;dsimp only at i1 i2 i3 i4 i5 ⊢;subst i1 i4;have hlen:=i5.len;refine dG rfl (λiy=>?_) λFE=>?_
 ·have iy:=bh iy;obtain ⟨c,hc⟩:∃ c,s'[a.toNat]?=some c:=⟨_,az aB⟩;refine je λz _ hz=>?_;rw[hc] at hz;cases hz;have re:∀ l:List aC,(∀ t,t∈l->t∈T)->∀ t,t∈l->0<=t.pO/\t.pO<=a:=λl hl t ht=>i5.e t (hl t ht);have rv:∀ t,t∈T.reverse->0<=t.pO/\t.pO<=a:=re _ λt ht=>Gr.1 ht;have adv:Mj s' (a+1) T.reverse=Mj s' a T.reverse->LK (next ⟨s',a+1,T,Mj s' a T.reverse⟩) (λi=>next' i (T,a+1)) _ _:=λh=>hn _ _ ⟨rfl,rfl,eX,eX,h.symm,i5.adv eX⟩;have one:c≠10->Mj s' (a+1) T.reverse=Mj s' a T.reverse:=λh=>UF aB (λp p0 p1 hp=>by
   rw[show p=a.toNat by omega,hc] at hp;cases hp;exact h rfl) rv
  refine fI ?_;refine eV i2 hc ?_;rw[mO 10 10 rfl,mO 32 32 rfl,mO 9 9 rfl,mO 13 13 rfl];by_cases xd:c=10
  ·subst xd;refine aJ du λ_=>eV i2 hc (aJ du λ_=>eV i2 hc (aJ du λ_=>eV i2 hc (aJ (λ_=>bj (aj3 hm i3 hs aB i5.e i5.o5) ?_) du)));refine aF (λ_=>dG rfl (λhl=>?_) λhl=>bG λhg=>bV hg (adv ?_)) du
   ·refine gR PB (bV zR (bV ad_ (bV zR (hn _ _ ⟨rfl,rfl,eX,eX,?_,i5.nl i2 hc hl⟩))));dsimp only;rw[oD,mJ,nh,Mj];rfl
   rw[hl];exact ą aB rv hl
  have sp:LK (gd (cD (a+1)) (next ⟨s',a+1,T,Mj s' a T.reverse⟩)) (λi=>gd (cD (a+1)) (next' i (T,a+1))) (λy z=>z=y/\(y.2.eU=0->Lx s' y.1)) (λ_ _=>False):=bG λhg=>bV hg (adv (one xd));refine aF (λh=>ao jg xd) λ_=>?_;refine dG rfl (λ_=>sp) λh32=>eV i2 hc ?_;rw[mO 9 9 rfl];refine dG rfl (λ_=>sp) λh9=>eV i2 hc ?_;rw[mO 13 13 rfl];refine dG rfl (λ_=>sp) λIf=>eV i2 hc ?_;rw[mO 10 10 rfl];refine aJ (λh=>ao jg xd) λ_=>?_;have hB:¬ isB c:=by
   unfold isB;rintro (q|q|q|q)
   ·rw[q] at h32;cases h32
   ·rw[q] at h9;cases h9
   ·rw[q] at If;cases If
   exact xd q
  refine cm (abX hm i2 hc hB hs) ?_ λ_ _ h=>h.elim;rintro ⟨f,x⟩ ⟨t,f'⟩ ⟨rfl,q1,q2⟩;dsimp only at q1 q2 ⊢;refine dG rfl (λh=>?_) λh=>?_
  ·rw[q1 jg];exact b9 Tz
  obtain ⟨rfl,nf⟩:=q2 jg;have n1:=nf.e;have n2:=nf.l;refine bV ad_ (hn _ _ ⟨rfl,rfl,eX,n2,?_,i5.tok i2 nf (by rw[hc];intro h;cases h;exact xd rfl)⟩);dsimp only;rw[oD,mJ,nh,Mj,aE nf.k.2];by_cases h6:t.aq=6
  ·rw[aL h6,aL h6,UF aB (nf.k6 h6).1 rv]
  have:E4 s' t.pO t.pO=false:=by
   cases q:E4 s' t.pO t.pO with
   | false=>rfl
   | true=>
    obtain ⟨p,p1,p2,_⟩:=(uM aB).1 q
    omega
  rw[aE h6,aE h6,this];rfl
 have FE:=aW FE;have e:a=s'.length:=by omega
 subst e;refine gR PB (bV ad_ (b9 ⟨bn,λ_=>?_⟩));dsimp only;rw[Int.add_zero];have last:∀ {i:Nat} {t:aC},(T++[aC.mk 0 [] s'.length s'.length])[i]?=some t->T[i]?=some t\/t.aq=0:=λh=>(uz h).imp id λq=>by rw[q.2]
 have lm:∀ {t:aC},t∈T++[aC.mk 0 [] s'.length s'.length]->t∈T\/t.aq=0:=λh=>(bH.1 h).imp id λq=>by rw[cO.1 q]
 refine ⟨λi t h k=>?_,λi j t u hij ht hu k k7 k0=>?_,λi t u ht hu k=>?_,λt h k=>?_,λt h k=>?_⟩
 ·obtain q|q:=last h
  ·exact i5.l7 t (aQ q) k
  omega
 ·obtain q|q:=last ht
  ·obtain q2|q2:=last hu
   ·exact i5.c6 i j t u hij q q2 k k7 k0
   exact ao q2 k0
  omega
 ·obtain q2|q2:=last hu
  ·obtain q|⟨q,_⟩:=uz ht
   ·exact i5.br i t u q q2 k
   have:=(an.1 q2).1;omega
  omega
 ·obtain q|q:=lm h
  ·exact i5.it t q k
  omega
 obtain q|q:=lm h
 ·exact i5.nm t q k
 omega
end
section
structure RQ (p:L):Prop where
 h0:0<=p.bO
 h1:p.bO<=p.cP.length
 h2:p.cP.length<=1000
abbrev RR (p:L):N:=⟨p.cP,p.bO,false⟩
abbrev up (p:L) (k:Int):L:=⟨p.cP,p.bO+k⟩
def cv (p:L):Int:=match p.cP[p.bO.toNat]? with|some b=>(b.toNat:Int)|none=>0
def okB {α:Type} (x:aI α) (f:α->Bool):Bool:=match x with|.ok a=>f a|_=>false
variable {x:aI α} {a:α} {c:Int}
def Ĉ [DecidableEq α] (h:okB x (λy=>decide (y=a))=true):x=.ok a:=by
 cases x with
 | ok b=>rw[bh h]
 | stuck=>cases h
 | ry p=>cases h
def JV {P:Int->Prop} (h:∀ k:Fin 256,P k.val) (c:Int) (h0:0<=c) (h1:c<256):P c:=by
 have:=h ⟨c.toNat,aB⟩;rwa [show ((c.toNat:Nat):Int)=c by omega] at this
def JQ (c:Int):Option Int:=if 48<=c/\c<=57 then some (c - 48) else if 97<=c/\c<=102 then some (c - 87) else if 65<=c/\c<=70 then some (c - 55) else none
def Gl (h:JQ c=some d):0<=d/\d<=15:=by
 unfold JQ at h;exact ŭ
def abY:∀ k:Fin 256,okB (s7 k.val) (λy=>decide (y=match JQ k.val with|some d=>(d,true)|none=>(0,false)))=true:=by decide +kernel
def aj4:∀ k:Fin 256,okB (sN k.val) (λy=>decide (y=(JQ k.val).getD (-1)))=true:=by decide +kernel
def I3 (d:Int):Option Int:=if d=110 then some 10 else if d=116 then some 9 else if d=114 then some 13 else if d∈([40,41,91,93,123,125,124,42,43,63,46,92,45,94]:List Int) then some d else none
def aj5:∀ k:Fin 256,okB (strings_IndexByte [40,41,91,93,123,125,124,42,43,63,46,92,45,94] k.val) (λy=>decide (y<0)==decide ((k.val:Int) ∉ ([40,41,91,93,123,125,124,42,43,63,46,92,45,94]:List Int)))=true:=by decide +kernel
def Ŝ:List Int:=[40,41,91,93,123,125,124,42,43,63,46,94,45]
def aj6:∀ k:Fin 256,okB (strings_IndexByte [40,41,91,93,123,125,124,42,43,63,46,94,45] k.val) (λy=>decide (y>=0)==decide ((k.val:Int)∈Ŝ))=true:=by decide +kernel
def PW:List Int:=[40,41,91,93,123,125,124,42,43,63,46,92]
def ahc:∀ k:Fin 256,okB (strings_IndexByte [40,41,91,93,123,125,124,42,43,63,46,92] k.val) (λy=>decide (y>=0)==decide ((k.val:Int)∈PW))=true:=by decide +kernel
def N7 {f:α->Bool} (h:okB x f=true):∃ a,x=.ok a/\f a=true:=by
 cases x with
 | ok b=>exact ⟨b,rfl,h⟩
 | stuck=>cases h
 | ry p=>cases h
def aj7:∀ d e:Fin 16,HI .u8 (B9 .u8 (d.val:Int) 4) (e.val:Int)=(d.val:Int)*16+e.val:=by decide +kernel
def UH {e:Int} (hd:0<=d/\d<=15) (he:0<=e/\e<=15):HI .u8 (B9 .u8 d 4) e=d*16+e:=by
 have:=aj7 ⟨d.toNat,aB⟩ ⟨e.toNat,aB⟩;rwa [show ((d.toNat:Nat):Int)=d by omega,show ((e.toNat:Nat):Int)=e by omega] at this
def UI (v:Int):sX:=⟨188,[.sc (.int .i64 v)]⟩
def OX {α:Type} (x:aI α) (o:Option α):Prop:=x=.stuck\/(∃ a,o=some a/\x=.ok a)\/(o=none/\∃ v,x=.ry (UI v))
section
variable {X:Type} {V:α->β->Prop} {W:sX->β->Prop} {F:Nat->aI β} {o:Option α}
def OX.ok {a:α} (h:o=some a):OX (.ok a) o:=.inr (.inl ⟨a,h,rfl⟩)
def OX.fail {p:L} {v:Int} {f:L->aI α} (h:o=none):OX (ag (eP v p) f) o:=.inr (.inr ⟨h,v,rfl⟩)
def Az:=@OX.fail
def OX.gd {p:Prop} [Decidable p] {x:aI α} (h:p->OX x o):OX (aI.gd p x) o:=by
 unfold aI.gd;split
 ·exact h ‹_›
 exact .inl rfl
def PH:=@OX.gd
def OX.br {b:Bool} {x y:aI α} (ht:b=true->OX x o) (hf:b=false->OX y o):OX (aI.br b x y) o:=by cases b<;>simp_all [aI.br]
def oU:=@OX.br
def OX.jn {j:X->aI α} {p:(X->aI α)->aI α} (J:X->Prop) (hj:∀ v,J v->OX (j v) o) (hp:∀ j:X->aI α,(∀ v,J v->OX (j v) o)->OX (p j) o):OX (aI.jn j p) o:=hp j hj
def Ah:=@OX.jn
def OX.un {body:(X->aI α)->X->aI α} {v:X} {n:Nat} (h:∀ k,OX (body (aI.iter body k) v) o):OX (aI.iter body n v) o:=by
 cases n with
 | zero=>exact .inl rfl
 | succ k=>exact h k
variable {f:γ->aI α}
def OX.bc {x:aI γ} {c:γ} (h:x=.ok c) (hf:OX (f c) o):OX (ag x f) o:=by subst h;exact hf
def JR:=@OX.bc
def OX.bind {x:aI γ} {o':Option γ} (h:OX x o') (hs:∀ a,o'=some a->OX (f a) o) (hn:o'=none->o=none):OX (ag x f) o:=by
 obtain rfl|⟨a,h1,rfl⟩|⟨h1,v,rfl⟩:=h
 ·exact .inl rfl
 ·exact hs a h1
 exact .inr (.inr ⟨hn h1,v,rfl⟩)
def ĉ {x:aI γ} {o:Option γ} (h:OX x o) (hs:∀ a,o=some a->LK (f a) F V W) (hn:o=none->∀ v,Ev F (W (UI v)) di):LK (ag x f) F V W:=by
 obtain rfl|⟨a,h1,rfl⟩|⟨h1,v,rfl⟩:=h
 ·exact da
 ·exact hs a h1
 exact sW (hn h1 v)
end
section
def C2:0<=cv p/\cv p<256:=by
 unfold cv;split
 ·rename_i b _;have:=Hj b;omega
 omega
def yM (hp:RQ p) (h:cv p=c) (hc:c≠0):p.bO<p.cP.length:=by
 unfold cv at h;split at h
 ·rename_i b hb;have:=(an.1 hb).1;have:=hp.h0;omega
 exact ao h.symm hc
def E7 (hp:RQ p) (h:p.bO<p.cP.length):∃ b,p.cP[p.bO.toNat]?=some b/\cv p=b.toNat:=by
 have:=hp.h0;have h2:=az (show p.bO.toNat<p.cP.length by omega);exact ⟨_,h2,by unfold cv;rw[h2]⟩
def RQ.up {k:Int} (hp:RQ p) (h0:0<=p.bO+k) (h:p.bO+k<=p.cP.length):RQ (up p k):=⟨h0,h,hp.h2⟩
def yN (hp:0<=p.bO):dt p=.ok (cv p,p):=by
 unfold dt ji;by_cases h:p.bO<p.cP.length
 ·have h2:=az (show p.bO.toNat<p.cP.length by omega);rw[aX h];show aI.el _ _ _=_;unfold aI.el cv;rw[aL hp,h2]
 have:p.cP[p.bO.toNat]?=none:=gv aB;simp[aI.br,h,cv,this]
def yO (hp:RQ p) (hc:c≠0):cx c (RR p)=.ok (decide (cv p=c),if cv p=c then RR (up p 1) else RR p):=by
 unfold cx ji bA;by_cases h:p.bO<p.cP.length
 ·obtain ⟨b,hb,x8⟩:=E7 hp h;have h':¬(p.bO>=(p.cP.length:Int)):=by omega
  have hi:cD (p.bO+1):=by have:=hp.h0;have:=hp.h1;have:=hp.h2;unfold cD;omega
  rw[x8];by_cases e:(b.toNat:Int)=c
  ·simp[aI.br,aI.el,aI.gd,h',hp.h0,hb,e,hi]
  have e2:((b.toNat:Int) !=c)=true:=by simpa using e
  simp[aI.br,aI.el,h',hp.h0,hb,e,e2]
 have h':p.bO>=(p.cP.length:Int):=by omega
 have hn:¬cv p=c:=λe=>h (yM hp e hc);simp[aI.br,h',hn]
def GJ:gC (RR p)=.ok (decide (p.bO<p.cP.length),RR p):=rfl
variable {r:N}
def abZ (h:r.oO=true):cx c r=.ok (false,r):=by unfold cx ji bA;rw[h];rfl
def agy (h:r.oO=true):gC r=.ok (false,r):=by unfold gC ji;rw[h];rfl
def Xc:s7 (cv p)=.ok (match JQ (cv p) with|some d=>(d,true)|none=>(0,false)):=Ĉ (JV (P:=λc=>okB (s7 c) (λy=>decide (y=match JQ c with|some d=>(d,true)|none=>(0,false)))=true) abY _ C2.1 C2.2)
def N8:sN (cv p)=.ok ((JQ (cv p)).getD (-1)):=Ĉ (JV (P:=λc=>okB (sN c) (λy=>decide (y=(JQ c).getD (-1)))=true) aj4 _ C2.1 C2.2)
def SQ (lo:Int) (p:L):Option Int:=match JQ (cv p),JQ (cv (up p 1)) with|some d,some e=>if lo<=d*16+e then some (d*16+e) else none|_,_=>none
def agz (h0:0<=p.bO):OX (jq n lo p) ((SQ lo (up p 1)).map λv=>(v,up p 3)):=by
 unfold jq nA;have u12:up (up p 1) 1=up p 2:=by unfold up;rw[show p.bO+1+1=p.bO+2 by omega]
 refine OX.un λ_=>OX.br (λ_=>OX.gd λ_=>OX.gd λ_=>OX.bc (yN (p:=up p 1) (by show 0<=p.bO+1;omega)) (OX.bc Xc (OX.gd λ_=>?_))) λh=>by cases h
 unfold SQ;rw[u12];cases h1:JQ (cv (up p 1)) with
 | none=>exact OX.jn (λv=>v=true) (λv hv=>by subst hv;exact OX.br (λ_=>OX.fail rfl) λh=>by cases h) λj hj=>OX.br (λ_=>hj _ rfl) λh=>by cases h
 | some d=>
  have dr:=Gl h1
  have e0:HI .u8 (B9 .u8 0 4) d=d:=by have:=UH (d:=0) (e:=d) (by omega) dr;rw[this];omega
  have ef:HI .u8 (B9 .u8 d 4) 15=d*16+15:=UH dr (by omega)
  dsimp only
  rw[e0]
  refine OX.jn (λv=>v=decide (d*16+15<lo)) (λv hv=>?_) λj hj=>OX.br (λh=>by cases h) λ_=>OX.br (λ_=>OX.gd λ_=>?_) λh=>by cases h
  rotate_left
  ·show OX (br (decide (HI .u8 (B9 .u8 d 4) 15<lo)) _ _) _;rw[ef];exact OX.br (λh=>hj _ h.symm) λh=>OX.br (λh=>by cases h) λ_=>hj _ h.symm
  subst hv
  refine OX.br (λh=>OX.fail ?_) λh=>OX.gd λ_=>OX.un λ_=>OX.br (λ_=>OX.gd λ_=>OX.gd λ_=>OX.bc (yN (p:=up (up p 1) 1) (by show 0<=p.bO+1+1;omega)) (OX.bc Xc (OX.gd λ_=>?_))) λh=>by cases h
  ·have h:=of_decide_eq_true h;cases h2:JQ (cv (up p 2)) with
   | none=>rfl
   | some e=>have:=Gl h2;dsimp only;rw[if_neg (by omega)];rfl
  rw[u12]
  cases h2:JQ (cv (up p 2)) with
  | none=>exact OX.jn (λv=>v=true) (λv hv=>by subst hv;exact OX.br (λ_=>OX.fail rfl) λh=>by cases h) λj hj=>OX.br (λ_=>hj _ rfl) λh=>by cases h
  | some e=>
   have er:=Gl h2
   have ee:HI .u8 (B9 .u8 d 4) e=d*16+e:=UH dr er
   dsimp only
   rw[ee]
   refine OX.jn (λv=>v=decide (d*16+e<lo)) (λv hv=>?_) λj hj=>OX.br (λh=>by cases h) λ_=>OX.br (λh=>by cases h) λ_=>OX.br (λ_=>hj _ rfl) λh=>by cases h
   subst hv
   refine OX.br (λh=>OX.fail ?_) λh=>OX.gd λ_=>OX.un λ_=>OX.br (λh=>by cases h) λ_=>OX.gd λ_=>OX.ok ?_
   ·rw[if_neg (by have:=of_decide_eq_true h;omega)];rfl
   ·rw[if_pos (by have:=of_decide_eq_false h;omega)];show some (_,L.mk _ (p.bO+3))=some (_,L.mk _ (p.bO+2+1));rw[show p.bO+3=p.bO+2+1 by omega]
end
end
section
variable {m:Nat->Nat}
def PI (lo:Int) (p:L):Option (Int×Int):=
 if p.bO+1<p.cP.length then (if cv (up p 1)=120 then (SQ lo (up p 2)).map λv=>(v,4) else match I3 (cv (up p 1)) with|some v=>if lo<=v then some (v,2) else none|none=>none) else none
def toP (p:L) (z:Int×Int):Int×L:=(z.1,up p z.2)
def LX {j k l:Int} (h:j+k=l):up (up p j) k=up p l:=by subst h;unfold up;rw[Int.add_assoc]
def adY (h0:0<=p.bO):OX (ia n lo p) ((PI lo p).map (toP p)):=by
 unfold ia ji nA;refine PH λ_=>JR (yN (p:=up p 1) Za) ?_;unfold PI;by_cases iy:p.bO+1<p.cP.length
 ·rw[aL iy];by_cases hx:cv (up p 1)=120
  ·rw[aL hx,hx];refine Ah (λ_=>False) (λ_ h=>h.elim) λj _=>oU (λh=>ao B2 acK) λ_=>oU (λ_=>OX.bind (agz (p:=up p 1) Za) (λa ha=>OX.ok ?_) λhn=>?_) du
   ·rw[LX (j:=1) (k:=1) (l:=2) rfl] at ha;cases h:SQ lo (up p 2) with
    | none=>rw[h] at ha;cases ha
    | some v=>rw[h] at ha;cases ha;show some (_,up p 4)=some (_,up (up p 1) 3);rw[LX (l:=4) rfl]
   rw[LX (j:=1) (k:=1) (l:=2) rfl] at hn;cases h:SQ lo (up p 2) with
   | none=>rfl
   | some v=>rw[h] at hn;cases hn
  rw[aE hx];have fin:∀ {v:Int},I3 (cv (up p 1))=some v->OX (jn (λ(v9:L)=>gd (cD (v9.bO+1)) (.ok (v,(L.mk v9.cP (v9.bO+1))))) λj10=>br (decide (v<lo)) (ag (eP (up p 1).bO (up p 1)) λy17=>j10 (y17)) (j10 (up p 1))) (Option.map (toP p) (match I3 (cv (up p 1)) with|some v=>if lo<=v then some (v,2) else none|none=>none)):=λ{v} hv=>by
   rw[hv];refine Ah (λw=>w=up p 1/\lo<=v) (λw hw=>?_) λj hj=>oU (λh=>Az ?_) λh=>hj _ ⟨rfl,Nd⟩
   ·obtain ⟨rfl,hw⟩:=hw;refine PH λ_=>OX.ok ?_;dsimp only;rw[aL hw];show some (_,up p 2)=some (_,up (up p 1) 1);rw[LX (l:=2) rfl]
   dsimp only;rw[aE ZE];rfl
  refine Ah (λw=>w.1=up p 1/\I3 (cv (up p 1))=some w.2) (λw hw=>?_) λj hj=>oU (λh=>ao B2 acK) λ_=>oU (λh=>ao jg hx) λ_=>oU (λh=>hj _ ⟨rfl,?_⟩) λh1=>oU (λh=>hj _ ⟨rfl,?_⟩) λh2=>oU (λh=>hj _ ⟨rfl,?_⟩) λh3=>?_
  ·obtain ⟨w1,w2⟩:=w;obtain ⟨hw,hv⟩:=hw;dsimp only at hw hv ⊢;subst hw;exact fin hv
  ·unfold I3;rw[aL jg]
  ·unfold I3;rw[aE FY,aL jg]
  ·unfold I3;rw[aE FY,aE xq,aL jg]
  obtain ⟨y,hy,hd⟩:=N7 (JV (P:=λc=>okB (strings_IndexByte [40,41,91,93,123,125,124,42,43,63,46,92,45,94] c) (λy=>decide (y<0)==decide (c ∉ ([40,41,91,93,123,125,124,42,43,63,46,92,45,94]:List Int)))=true) aj5 _ (C2 (p:=up p 1)).1 C2.2);have hd:=cg.1 hd;refine JR hy (oU (λh=>Az ?_) λh=>hj _ ⟨rfl,?_⟩)
  ·rw[h] at hd;unfold I3;rw[aE FY,aE xq,aE Nk,aE (bh hd.symm)];rfl
  rw[h] at hd;unfold I3;rw[aE FY,aE xq,aE Nk,aL (Decidable.not_not.1 (aW hd.symm))]
 rw[aE iy];exact Ah (λ_=>False) (λ_ h=>h.elim) λj _=>oU (λ_=>Az rfl) λh=>ao qO (by show ¬ ¬ p.bO+1>=(p.cP.length:Int);omega)
def ŝ (lo:Int) (p:L):Option (Int×Int):=
 if p.bO<p.cP.length then (if cv p=92 then PI lo p else if cv p<32\/cv p>126\/cv p<lo\/cv p∈Ŝ then none else some (cv p,1)) else none
def Ċ (h0:0<=p.bO):OX (iq n lo p) ((ŝ lo p).map (toP p)):=by
 unfold iq ŝ ji nA;refine JR (yN h0) ?_;by_cases iy:p.bO<p.cP.length
 ·rw[aL iy];by_cases hx:cv p=92
  ·rw[aL hx];refine Ah (λ_=>False) (λ_ h=>h.elim) λj _=>oU Kg λ_=>oU (λ_=>OX.bind (adY h0) (λa ha=>OX.ok ha) λhn=>hn) λh=>ao hx jg
  rw[aE hx];obtain ⟨y,hy,hd⟩:=N7 (JV (P:=λc=>okB (strings_IndexByte [40,41,91,93,123,125,124,42,43,63,46,94,45] c) (λy=>decide (y>=0)==decide (c∈Ŝ))=true) aj6 _ (C2 (p:=p)).1 C2.2);have hd:=cg.1 hd;refine Ah (λw=>w=p/\¬ (cv p<32\/cv p>126\/cv p<lo\/cv p∈Ŝ)) (λw hw=>?_) λj hj=>oU Kg λ_=>oU (λh=>ao jg hx) λ_=>Ah (λw=>w=decide (cv p<32\/cv p>126\/cv p<lo\/cv p∈Ŝ)) (λw hw=>?_) λk hk=>oU (λh=>hk _ ?_) λh1=>oU (λh=>hk _ ?_) λh2=>oU (λh=>hk _ ?_) λh3=>JR hy (hk _ ?_)
  ·obtain ⟨rfl,hw⟩:=hw;exact PH λ_=>OX.ok (by rw[aE hw];rfl)
  ·subst hw;refine oU (λh=>Az ?_) λh=>hj _ ⟨rfl,aW h⟩;rw[aL B2];rfl
  ·rw[aX (.inl B2)]
  ·rw[aX (.inr (.inl B2))]
  ·rw[aX (.inr (.inr (.inl B2)))]
  rw[hd];have q1:=aW h1;have q2:=aW h2;have q3:=aW h3;exact decide_eq_decide.2 ⟨λh=>.inr (.inr (.inr h)),λh=>h.resolve_left q1 |>.resolve_left q2 |>.resolve_left q3⟩
 rw[aE iy];exact Ah (λ_=>False) (λ_ h=>h.elim) λj _=>oU (λ_=>Az rfl) λh=>ao qO (by show ¬ ¬ p.bO>=(p.cP.length:Int);omega)
end
section
variable {m:Nat->Nat}
def ab0 (h0:0<=p.bO) (h:¬ p.bO<p.cP.length):cv p=0:=by
 unfold cv;rw[gv aB]
def RW (p:L) (o:Option (Int×Int)) (z:Int×N):Prop:=match o with|some w=>z=(w.1,RR (up p w.2))|none=>z.2.oO=true/\z.1=0
def ċ (hp:RQ p) (hlo:lo<=255):Ev (λ_=>mn lo (RR p)) (RW p ((SQ lo p).map λv=>(v,2))) di:=by
 have hp0:=hp.h0;have Fm:=hp.h1;have TV:=hp.h2;unfold mn vi ji bF bA;have Ũ:∀ {x:Int},-5000<=x->x<=5000->cD x:=λh h'=>by unfold cD;omega
 refine bz (λv=>v=(RR p,true)/\(JQ (cv p)=none\/∃ d,JQ (cv p)=some d/\d*16+15<lo)\/v=(RR p,false)/\p.bO<p.cP.length/\∃ d,JQ (cv p)=some d/\lo<=d*16+15) (λv hv=>?_) λj hj=>bC GJ ?_
 ·obtain ⟨rfl,hv⟩|⟨rfl,iy,d,hd,hv⟩:=hv
  ·have:SQ lo p=none:=by
    unfold SQ;obtain h|⟨d,h,hv⟩:=hv
    ·rw[h]
    rw[h];cases h2:JQ (cv (up p 1)) with
    | none=>rfl
    | some e=>have:=Gl h2;dsimp only;rw[aE aB]
   rw[this];exact aY (aj vf)
  obtain ⟨b,hb,I4⟩:=E7 hp iy;have dr:=Gl hd;refine aG (g hp0 hb ?_);rw[<- I4];refine bC N8 (dy aef ?_);rw[hd];have hu:RQ (up p 1):=hp.up aB aB;have ew:IntKind.wrap .i64 ((some d).getD (-1)*16)=d*16:=wrap_i64 (by show _<=d*16;omega) (by show d*16<=_;omega);rw[ew];refine bz (λv=>v=(RR (up p 1),true)/\(JQ (cv (up p 1))=none\/∃ e,JQ (cv (up p 1))=some e/\d*16+e<lo)\/v=(RR (up p 1),false)/\p.bO+1<p.cP.length/\∃ e,JQ (cv (up p 1))=some e/\lo<=d*16+e) (λv hv=>?_) λj hj=>bC (GJ (p:=up p 1)) ?_
  ·obtain ⟨rfl,hv⟩|⟨rfl,iy,e,he,hv⟩:=hv
   ·refine aY (aj ?_);have:SQ lo p=none:=by
     unfold SQ;rw[hd];obtain h|⟨e,h,hv⟩:=hv
     ·rw[h]
     rw[h];dsimp only;rw[aE aB]
    rw[this];exact vf
   obtain ⟨b,hb,I4⟩:=E7 hu iy;have er:=Gl he;have ix:∀ {K:Nat->UInt8->aI (Int×N)} {Q:Int×N->Prop},Ev (λi=>K i b) Q di->Ev (λi=>aI.el p.cP (p.bO+1+1 - 1) (K i)) Q di:=λh=>by
    rw[show p.bO+1+1 - 1=p.bO+1 by omega];exact g aB hb h
   refine aG (dy (Ũ (by show -5000<=p.bO+1+1;omega) (by show p.bO+1+1<=5000;omega)) (dy (Ũ (by show -5000<=p.bO+1+1 - 1;omega) (by show p.bO+1+1 - 1<=5000;omega)) (ix ?_)));rw[<- I4];refine bC N8 ?_;rw[he];refine dy acA (aj ?_);have:SQ lo p=some (d*16+e):=by
    unfold SQ;rw[hd,he];exact aL hv
   rw[this];show (d*16+e,(⟨p.cP,p.bO+1+1,false⟩:N))=(d*16+e,⟨p.cP,p.bO+2,false⟩);rw[show p.bO+1+1=p.bO+2 by omega]
  refine cZ (λh=>hj _ (.inl ⟨rfl,.inl ?_⟩)) λh=>?_
  ·rw[ab0 Za qO];rfl
  have iy:p.bO+1<p.cP.length:=bh h;obtain ⟨b,hb,I4⟩:=E7 hu iy;refine g hu.h0 hb ?_;rw[<- I4];refine bC N8 ?_;cases he:JQ (cv (up p 1)) with
  | none=>exact aY (hj _ (.inl ⟨rfl,.inl he⟩))
  | some e=>
   have er:=Gl he
   refine aR (λh=>ao h (by show ¬ e<0;omega)) λ_=>g hu.h0 hb ?_
   rw[<- I4]
   refine bC N8 ?_
   rw[he]
   refine dy acA (hj _ ?_)
   by_cases q:d*16+e<lo
   ·exact .inl ⟨Prod.ext rfl (aX q),.inr ⟨e,he,q⟩⟩
   ·exact .inr ⟨Prod.ext rfl (bw q),iy,e,he,by omega⟩
 refine cZ (λh=>hj _ (.inl ⟨rfl,.inl ?_⟩)) λh=>?_
 ·rw[ab0 hp0 qO];rfl
 have iy:p.bO<p.cP.length:=bh h;obtain ⟨b,hb,I4⟩:=E7 hp iy;refine g hp0 hb ?_;rw[<- I4];refine bC N8 ?_;cases hd:JQ (cv p) with
 | none=>exact aY (hj _ (.inl ⟨rfl,.inl hd⟩))
 | some d=>
  have dr:=Gl hd
  refine aR (λh=>ao h (by show ¬ d<0;omega)) λ_=>g hp0 hb ?_
  rw[<- I4]
  refine bC N8 ?_
  rw[hd]
  have ew:IntKind.wrap .i64 ((some d).getD (-1)*16)=d*16:=wrap_i64 (by show _<=d*16;omega) (by show d*16<=_;omega)
  rw[ew]
  refine dy (Ũ aB aB) (hj _ ?_)
  by_cases q:d*16+15<lo
  ·rw[aX q];exact .inl ⟨rfl,.inr ⟨d,hd,q⟩⟩
  ·rw[bw q];exact .inr ⟨rfl,iy,d,hd,by omega⟩
def Fu (hm:bL m):Ev (λi=>lQ (m i) (cv p)) (λy=>y=decide (cv p∈PW)) di:=by
 have key:∀ k:Fin 256,okB (lQ 14 k.val) (λy=>decide (y=decide ((k.val:Int)∈PW)))=true:=by decide +kernel
 have k1:=Ĉ (JV (P:=λc=>okB (lQ 14 c) (λy=>decide (y=decide (c∈PW)))=true) key _ (C2 (p:=p)).1 C2.2);have lk:LK (lQ 14 (cv p)) (λi=>lQ (m i) (cv p)) (λy z=>z=y) (λ_ _=>False):=by
  unfold lQ;exact uL (λv w=>w=v) (λv w e next next' hn=>by subst e;exact dG rfl (λ_=>je λz h0 hz=>eV h0 hz (dG rfl (λ_=>b9 rfl) λ_=>bG λhg=>bV hg (hn _ _ rfl))) λ_=>b9 rfl) 14 hm _ _ rfl
 exact lk.1 _ k1
def adZ {b:UInt8} {c:Int} (hc:(b.toNat:Int)=c) (h:c=cv p):∃ y,qF (b.toNat:Int)=.ok y/\(if cv p∈PW\/cv p=94\/cv p=45 then some (cv p) else if 0<=y then some y else none)=I3 (cv p):=by
 subst h;rw[hc];have key:∀ k:Fin 256,okB (qF k.val) (λy=>decide ((if (k.val:Int)∈PW\/(k.val:Int)=94\/(k.val:Int)=45 then some (k.val:Int) else if 0<=y then some y else none)=I3 k.val))=true:=by decide +kernel
 obtain ⟨y,h1,h2⟩:=N7 (JV (P:=λc=>okB (qF c) (λy=>decide ((if c∈PW\/c=94\/c=45 then some c else if 0<=y then some y else none)=I3 c))=true) key _ (C2 (p:=p)).1 C2.2);exact ⟨y,h1,bh h2⟩
end
section
variable {m:Nat->Nat}
def E8 (hm:bL m) {a b:Int} (ha:0<=a) (hb:b<=255):Ev (λi=>mg (m i) a b) (λ_=>True) di:=by
 unfold mg ji tB;refine bN hm (λ(x:eT×Int)=>0<=x.2) (λx=>(256 - x.2).toNat) ha λx hx next hn=>aR (λh=>?_) λ_=>aj trivial;have hw:=WH hx (by omega:x.2<256);have ht:0<=Int.tmod x.2 64:=by
  have:Int.tmod x.2 64=x.2 % 64:=iU hx;rw[this];omega
 exact dy dN (dy dN (dy hw (dy dN (dy ht (dy hw (aH (hn _ eX eX)))))))
variable {a:eT}
def Iy (hm:bL m) {b:eT}:Ev (λi=>sO (m i) a b) (λ_=>True) di:=by
 unfold sO ji tB;exact bN hm (λ(x:eT×Int)=>0<=x.2) (λx=>(4 - x.2).toNat) Cq λx hx next hn=>aR (λh=>dy ⟨hx,h⟩ (dy ⟨hx,h⟩ (dy ⟨hx,h⟩ (aH (hn _ eX eX))))) λ_=>aj trivial
def Xd (hm:bL m):Ev (λi=>AE (m i) a) (λ_=>True) di:=by
 unfold AE tB;exact bN hm (λ(x:eT×Int)=>0<=x.2) (λx=>(4 - x.2).toNat) Cq λx hx next hn=>aR (λh=>dy ⟨hx,h⟩ (dy ⟨hx,h⟩ (aH (hn _ eX eX)))) λ_=>aj trivial
def Č (hp:RQ p) (hlo:lo<=255) (h:cv (up p 1)=120):Ev (λ_=>mn lo (RR (up p 2))) (RW p (PI lo p)) di:=by
 have h0:=hp.h0;have Fm:=hp.h1;have hu:RQ (up p 1):=hp.up aB (by
  obtain q|q:=o6 p.bO p.cP.length
  ·omega
  have:cv (up p 1)=0:=ab0 Za (by show ¬ p.bO+1<p.cP.length;omega);omega)
 have iy:p.bO+1<p.cP.length:=yM hu h dN;refine (ċ (p:=up p 2) (hp.up aB aB) hlo).qh λz hz=>?_;unfold PI;rw[aL iy,aL h];cases hh:SQ lo (up p 2) with
 | none=>rw[hh] at hz;exact hz
 | some v=>
  rw[hh] at hz
  have hz:z=(v,RR (up (up p 2) 2)):=hz
  rw[LX (l:=4) dN] at hz
  exact hz
def wcv:IntKind.wrap .i64 (cv p)=cv p:=by have:=@C2 p;exact wrap_i64 aB aB
def Ũ {x:Int} (h:-5000<=x) (h':x<=5000):cD x:=by unfold cD;omega
def PJ (hm:bL m) (hp:RQ p) (G2:0<=lo) (Tu:lo<=255):Ev (λi=>mC (m i) lo (RR p)) (RW p (ŝ lo p)) di:=by
 have hp0:=hp.h0;have Fm:=hp.h1;have TV:=hp.h2;unfold mC ŝ ji bF bA;refine bC (yO hp dN) ?_;by_cases DV:cv p=92
 ·have iy:=yM hp DV dN;have hu:RQ (up p 1):=hp.up aB aB;rw[aL iy,aL DV,aL DV,aX DV];refine aY (bC (yO hu dN) ?_);by_cases hx:cv (up p 1)=120
  ·rw[aL hx,aX hx,LX (l:=2) dN];exact aY (ai (Č hp Tu hx) λz hz=>aj hz)
  rw[aE hx,bw hx];refine aG (bC GJ (aw (λh=>?_) λh=>aj ?_))
  rotate_left
  ·unfold PI;rw[aE qO];exact vf
  have Lo:p.bO+1<p.cP.length:=bh h;obtain ⟨b,hb,I4⟩:=E7 hu Lo;obtain ⟨y,hy,hc⟩:=adZ I4.symm rfl;refine g hu.h0 hb (bC hy ?_);rw[<- I4,wcv];have e:PI lo p=match I3 (cv (up p 1)) with|some v=>if lo<=v then some (v,2) else none|none=>none:=by unfold PI;rw[aL Lo,aE hx]<;>rfl
  rw[e,<- hc];refine bz (λv=>(match (if cv (up p 1)∈PW\/cv (up p 1)=94\/cv (up p 1)=45 then some (cv (up p 1)) else if 0<=y then some y else none) with|some w=>v=w|none=>v<0)) (λv hv=>?_) λj hj=>ai (Fu hm) ?_
  ·have fin:∀ {o:Option (Int×Int)},(lo<=v->o=some (v,2))->(¬ lo<=v->o=none)->Ev (λ_=>br (decide (v>=lo)) (gd (cD (p.bO+1+1)) (.ok (v,(N.mk p.cP (p.bO+1+1) false)))) (.ok (0,(N.mk p.cP (p.bO+1) true)))) (RW p o) di:=λh1 h2=>by
    refine aR (λh=>dy (Ũ aB aB) (aj ?_)) λh=>aj (by rw[h2 h];exact vf);rw[h1 h];show (v,(⟨p.cP,p.bO+1+1,false⟩:N))=(v,⟨p.cP,p.bO+2,false⟩);rw[show p.bO+1+1=p.bO+2 by omega]
   split at hv
   ·rename_i w hw;subst hv;exact fin (λh=>aL h) λh=>aE h
   rename_i hw;exact fin (λh=>by omega) λ_=>rfl
  rintro _ rfl;refine aw (λh=>hj _ ?_) λh=>aw (λh2=>hj _ ?_) λh2=>aw (λh3=>hj _ ?_) λh3=>hj _ ?_
  ·rw[aL (.inl B2)]
  ·rw[aL (.inr (.inl xq))]
  ·rw[aL (.inr (.inr Nk))]
  rw[aE (λq=>by
   obtain q|q|q:=q
   ·exact aW h q
   ·rw[q] at h2;cases h2
   rw[q] at h3;cases h3)]
  by_cases q:0<=y
  ·rw[aL q]
  rw[aE q];show y<0;omega
 rw[aE DV,aE DV,bw DV];refine aG (bC GJ (cZ (λh=>aj ?_) λh=>?_))
 ·rw[aE qO];exact vf
 have iy:p.bO<p.cP.length:=bh h;obtain ⟨b,hb,I4⟩:=E7 hp iy;rw[aL iy];refine g hp0 hb ?_;rw[<- I4,wcv];refine bz (λw=>w=decide (cv p<32\/cv p>126\/cv p<lo\/cv p∈Ŝ)) (λw hw=>?_) λj hj=>aw (λh=>hj _ ?_) λh1=>aw (λh=>hj _ ?_) λh2=>ai (Fu hm) ?_
 ·subst hw;refine aw (λh=>aj ?_) λh=>dy aef (aj ?_)
  ·rw[aL B2];exact vf
  rw[aE qO];rfl
 ·rw[aX (.inl B2)]
 ·rw[aX (.inr (.inl B2))]
 rintro _ rfl;have q1:=aW h1;have q2:=aW h2;have s13:cv p∈Ŝ↔cv p∈PW\/cv p=94\/cv p=45:=by
  have key:∀ k:Fin 256,k.val≠92->((k.val:Int)∈Ŝ↔(k.val:Int)∈PW\/(k.val:Int)=94\/(k.val:Int)=45):=by decide +kernel
  exact JV (P:=λc=>c≠92->(c∈Ŝ↔c∈PW\/c=94\/c=45)) (λk h=>key k (λe=>h (by rw[e];rfl))) _ C2.1 C2.2 DV
 have t:cv p∈PW\/cv p=94\/cv p=45->true=decide (cv p<32\/cv p>126\/cv p<lo\/cv p∈Ŝ):=λh=>(aX (.inr (.inr (.inr (s13.2 h))))).symm;refine aw (λh=>hj _ (t (.inl B2))) λh=>aw (λh2=>hj _ (t (.inr (.inl xq)))) λh2=>aw (λh3=>hj _ (t (.inr (.inr Nk)))) λh3=>hj _ (decide_eq_decide.2 ⟨λh=>.inr (.inr (.inl h)),λq=>?_⟩);obtain q|q|q|q:=q
 ·exact ao q q1
 ·exact ao q q2
 ·exact q
 obtain q|q|q:=s13.1 q
 ·exact ao q qO
 ·rw[q] at h2;cases h2
 rw[q] at h3;cases h3
end
inductive Jq:bu->bu->Prop
 | nothing:Jq (.mk 0 0 0 0 0 []) (.mk 0 0 0 0 0 [])
 | empty:Jq (.mk 1 0 0 0 0 []) (.mk 1 0 0 0 0 [])
 | one {a b c d a' b' c' d':Int}:Jq (.mk 2 a b c d []) (.mk 2 a' b' c' d' [])
 | many {k:Int} {l l':List bu} (hk:k=3\/k=4) (h2:2<=l.length) (hl:l.length=l'.length) (h:∀ (i:Nat) (x y:bu),l[i]?=some x->l'[i]?=some y->Jq x y):Jq (.mk k 0 0 0 0 l) (.mk k 0 0 0 0 l')
 | star {x y:bu} (h:Jq x y):Jq (.mk 5 0 0 0 0 [x]) (.mk 5 0 0 0 0 [y])
def lsB (n:Nat) (neg:Bool) (next21:L×eT×Bool->aI (bu×L)) (v20:L×eT×Bool):aI (bu×L):=
 jn (λ(v23:L)=>ag (iq n 0 v23) λy28=>ag (dt y28.2) λy32=>br (y32.1==45) (gd (cD (y32.2.bO+1)) (ag (iq n y28.1 (L.mk y32.2.cP (y32.2.bO+1))) λy36=>ag (iQ n y28.1 y36.1) λy37=>ag (kO n v20.2.1 y37) λy38=>next21 (y36.2,y38,false))) (ag (iQ n y28.1 y28.1) λy39=>ag (kO n v20.2.1 y39) λy40=>next21 (y32.2,y40,false))) λj24=>br v20.2.2 (j24 (v20.1)) (ag (dt v20.1) λy43=>br (y43.1 !=93) (j24 (y43.2)) (gd (cD (y43.2.bO+1)) (br neg (ag (s8 n v20.2.1) λy50=>.ok ((bu.mk 2 y50.x0 y50.x1 y50.x2 y50.x3 []),(L.mk y43.2.cP (y43.2.bO+1)))) (.ok ((bu.mk 2 v20.2.1.x0 v20.2.1.x1 v20.2.1.x2 v20.2.1.x3 []),(L.mk y43.2.cP (y43.2.bO+1)))))))
def č (n:Nat) (neg:Bool) (v10:N×eT):aI (bu×N):=br neg (ag (AE n v10.2) λy16=>.ok ((bu.mk 2 y16.x0 y16.x1 y16.x2 y16.x3 []),v10.1)) (.ok ((bu.mk 2 v10.2.x0 v10.2.x1 v10.2.x2 v10.2.x3 []),v10.1))
def rsB (n:Nat) (neg:Bool) (next20:N×eT->aI (bu×N)) (v19:N×eT):aI (bu×N):=
 br (!v19.1.oO) (ag (mC n 0 v19.1) λy26=>jn (λ(v28:N×Int)=>br (!v28.1.oO) (ag (mg n y26.1 v28.2) λy34=>ag (sO n v19.2 y34) λy35=>ag (cx 93 v28.1) λy37=>br y37.1 (č n neg (y37.2,y35)) (next20 (y37.2,y35))) (ag (cx 93 v28.1) λy40=>br y40.1 (č n neg (y40.2,v19.2)) (next20 (y40.2,v19.2)))) λj29=>ag (cx 45 y26.2) λy43=>br y43.1 (ag (mC n y26.1 y43.2) λy45=>j29 (y45.2,y45.1)) (j29 (y43.2,y26.1))) (č n neg (v19.1,v19.2))
def rsM (n:Nat) (neg:Bool) (next:N×eT->aI (bu×N)) (y:Bool×N×eT):aI (bu×N):=
 br y.1 (next y.2) (ag (cx 93 y.2.1) λy37=>br y37.1 (č n neg (y37.2,y.2.2)) (next (y37.2,y.2.2)))
section
variable {m:Nat->Nat}
abbrev PGt (p q:L):Prop:=q.cP=p.cP/\p.bO<q.bO
abbrev JS (p:L) (a:bu×L) (s:bu×N):Prop:=s.2=RR a.2/\Jq a.1 s.1/\RQ a.2/\PGt p a.2
abbrev HL (q:sX) (z:bu×N):Prop:=(∃ v,q=UI v)/\z.2.oO=true
def aj8 {v:Int} (hp:0<=p.bO) (h:SQ lo p=some v):lo<=v/\0<=v/\v<=255/\p.bO+2<=p.cP.length:=by
 unfold SQ at h;cases h1:JQ (cv p) with
 | none=>rw[h1] at h;cases h
 | some d=>
  cases h2:JQ (cv (up p 1)) with
  | none=>rw[h1,h2] at h;cases h
  | some e=>
   rw[h1,h2] at h
   have d1:=Gl h1
   have e1:=Gl h2
   have h:(if lo<=d*16+e then some (d*16+e) else none)=some v:=h
   split at h
   ·cases h;refine ⟨vG,aB,aB,?_⟩;obtain q|q:=o6 (p.bO+1) p.cP.length
    ·omega
    rw[ab0 (p:=up p 1) Za (by show ¬ p.bO+1<p.cP.length;omega)] at h2;cases h2
   ·cases h
variable {w:Int×Int}
def Ď (hp:0<=p.bO) (h:PI lo p=some w):lo<=w.1/\0<=w.1/\w.1<=255/\0<=w.2/\p.bO+w.2<=p.cP.length:=by
 unfold PI at h;split at h
 ·split at h
  ·cases h2:SQ lo (up p 2) with
   | none=>rw[h2] at h;cases h
   | some v=>
    rw[h2] at h;cases h
    have:=aj8 (p:=up p 2) (by show 0<=p.bO+2;omega) h2
    have l:p.bO+2+2<=p.cP.length:=this.2.2.2
    exact ⟨this.1,this.2.1,this.2.2.1,by show (0:Int)<=4;decide,eX⟩
  cases h2:I3 (cv (up p 1)) with
  | none=>rw[h2] at h;cases h
  | some v=>
   rw[h2] at h
   have h:(if lo<=v then some (v,(2:Int)) else none)=some w:=h
   have key:∀ k:Fin 256,∀ v,I3 k.val=some v->0<=v/\v<=255:=λk v h=>by
    unfold I3 at h;have:=k.isLt;split at h
    ·cases h;omega
    exact ŭ
   have:=JV (P:=λc=>∀ v,I3 c=some v->0<=v/\v<=255) key _ C2.1 C2.2 v h2
   split at h
   ·cases h;exact ⟨vG,this.1,this.2,by show (0:Int)<=2;decide,eX⟩
   ·cases h
 cases h
def ad0 (hp:0<=p.bO) (h:ŝ lo p=some w):lo<=w.1/\0<=w.1/\w.1<=255/\0<=w.2/\p.bO+w.2<=p.cP.length:=by
 unfold ŝ at h;split at h
 ·split at h
  ·exact Ď hp h
  split at h
  ·cases h
  rename_i q;cases h;have:=@C2 p;exact ⟨eX,eX,eX,by show (0:Int)<=1;decide,eX⟩
 cases h
variable {neg:Bool}
def agA (hm:bL m) {w:N×eT}:Ev (λi=>č (m i) neg w) (λz=>z.2=w.1/\∃ a b c d,z.1=.mk 2 a b c d []) di:=by
 unfold č;exact aw (λ_=>ai (Xd hm) λ_ _=>aj ⟨rfl,_,_,_,_,rfl⟩) λ_=>aj ⟨rfl,_,_,_,_,rfl⟩
def Gm {a b:Int}:Np (iQ n a b):=by
 unfold iQ ji tB;have A:∀ {α:Type} {p q r t u w p':Prop} [Decidable p] [Decidable q] [Decidable r] [Decidable t] [Decidable u] [Decidable w] [Decidable p'] {b:Bool} {x y:aI α},Np x->Np y->Np (br b (gd p (gd q (gd r (gd t (gd u (gd w x)))))) (gd p' y)):=λhx hy=>BT (sf (sf (sf (sf (sf (sf hx)))))) (sf hy);exact AF (λnext v hn=>BT (Np.jn (BT (A (hn _) (hn _)) (A (hn _) (hn _)))) DI) _ _
variable {a:eT}
def N9 {b:eT}:Np (kO n a b):=by
 unfold kO ji tB;exact AF (λnext v hn=>BT (sf (sf (sf (sf (hn _))))) DI) _ _
def agB:Np (s8 n a):=by
 unfold s8 tB;exact AF (λnext v hn=>BT (sf (sf (sf (hn _)))) DI) _ _
def LK.bcR {α β δ:Type} {V:α->β->Prop} {W:sX->β->Prop} {y:aI α} {x:aI δ} {c:δ} {K:Nat->δ->aI β} (h:x=.ok c) (hk:LK y (λi=>K i c) V W):LK y (λi=>ag x (K i)) V W:=bj ⟨.ok c,rfl,0,λ_ _=>h⟩ hk
def oH:=@LK.bcR
def ď (hm:bL m) (hp:RQ p) {q:L} (hq:RQ q) (ht:PGt p q) {s ws:eT} {next:L×eT×Bool->aI (bu×L)} {next':Nat->N×eT->aI (bu×N)} (hn:∀ q s ws,RQ q->PGt p q->LK (next (q,s,false)) (λi=>rsM (m i) neg (next' i) (false,RR q,ws)) (JS p) HL) (hf:∀ v w,w.1.oO=true->Ev (λi=>next' i w) (HL (UI v)) di) :
  LK (ag (iq n 0 q) λy28=>ag (dt y28.2) λy32=>br (y32.1==45) (gd (cD (y32.2.bO+1)) (ag (iq n y28.1 (L.mk y32.2.cP (y32.2.bO+1))) λy36=>ag (iQ n y28.1 y36.1) λy37=>ag (kO n s y37) λy38=>next (y36.2,y38,false))) (ag (iQ n y28.1 y28.1) λy39=>ag (kO n s y39) λy40=>next (y32.2,y40,false)))
   (λi=>rsB (m i) neg (next' i) (RR q,ws)) (JS p) HL:=by
 unfold rsB
 have bad:∀ {v:Int} {z:N} {c:Int} {w:Int},z.oO=true->Ev (λi=>br (!z.oO) (ag (mg (m i) c w) λy34=>ag (sO (m i) ws y34) λy35=>ag (cx 93 z) λy37=>br y37.1 (č (m i) neg (y37.2,y35)) (next' i (y37.2,y35))) (ag (cx 93 z) λy40=>br y40.1 (č (m i) neg (y40.2,ws)) (next' i (y40.2,ws)))) (HL (UI v)) di:=λ{v z c w} h=>by
  rw[h]
  exact aG (bC (abZ h) (aG (hf _ _ h)))
 have good:∀ {q:L} {c w:Int} {s:eT},RQ q->PGt p q->0<=c->w<=255->LK (ag (iQ n c w) λy37=>ag (kO n s y37) λy38=>next (q,y38,false)) (λi=>br (!(RR q).oO) (ag (mg (m i) c w) λy34=>ag (sO (m i) ws y34) λy35=>ag (cx 93 (RR q)) λy37=>br y37.1 (č (m i) neg (y37.2,y35)) (next' i (y37.2,y35))) (ag (cx 93 (RR q)) λy40=>br y40.1 (č (m i) neg (y40.2,ws)) (next' i (y40.2,ws)))) (JS p) HL:=λ{q c w s} hq ht hc hw=>
  BU Gm λ_ _=>BU N9 λ_ _=>aJ (λ_=>yJ (E8 hm hc hw) λ_ _=>yJ (Iy hm) λ_ _=>hn _ _ _ hq ht) du
 refine aJ (λ_=>ĉ (Ċ hq.h0) (λa ha=>?_) λG9 v=>?_) du
 ·cases hi:ŝ 0 q with
  | none=>rw[hi] at ha;cases ha
  | some w=>
   rw[hi] at ha;cases ha
   obtain ⟨_,r1,r2,r3,r4⟩:=ad0 hq.h0 hi
   have GK:RQ (up q w.2):=hq.up (by have:=hq.h0;omega) r4
   have hb:=PJ hm hq Cq dN
   rw[hi] at hb
   refine od (yN GK.h0) (bj hb (mP (oH (yO GK dN) ?_)))
   dsimp only [toP]
   by_cases h45:cv (up q w.2)=45
   ·have l2:=yM GK h45 dN
    have D3:RQ (up (up q w.2) 1):=GK.up (by have:=GK.h0;omega) aB
    rw[aL h45,aX h45,h45]
    refine aF (λ_=>bG λ_=>aJ (λ_=>ĉ (Ċ D3.h0) (λa ha=>?_) λG9 v=>?_) du) du
    ·cases hi2:ŝ w.1 (up (up q w.2) 1) with
     | none=>rw[hi2] at ha;cases ha
     | some w2=>
      rw[hi2] at ha;cases ha
      obtain ⟨_,s1,s2,s3,s4⟩:=ad0 D3.h0 hi2
      have hb2:=PJ hm D3 r1 r2
      rw[hi2] at hb2
      exact bj hb2 (good (D3.up (by have:=D3.h0;omega) s4) ⟨ht.1,by have:=ht.2;show p.bO<q.bO+w.2+1+w2.2;omega⟩ r1 s2)
    ·have hb2:=PJ hm D3 r1 r2
     cases hi2:ŝ w.1 (up (up q w.2) 1) with
     | some w2=>rw[hi2] at G9;cases G9
     | none=>rw[hi2] at hb2;exact hb2.gw λz hz=>bad hz.1
   ·rw[aE h45,bw h45]
    exact aF (λh=>ao jg h45) λ_=>aJ du λ_=>good GK ⟨ht.1,by have:=ht.2;show p.bO<q.bO+w.2;omega⟩ r1 r2
 ·have hb:=PJ hm hq Cq dN
  cases hi:ŝ 0 q with
  | some w=>rw[hi] at G9;cases G9
  | none=>
   rw[hi] at hb
   exact hb.gw λz hz=>bC (abZ hz.1) (aG (bad hz.1))
end
def NQ {α:Type} (x:aI α) (Q:α->Prop):Prop:=Np x/\∀ a,x=.ok a->Q a
section
variable {Q:α->Prop}
def NQ.ok {a:α} (h:Q a):NQ (.ok a) Q:=⟨DI,λ_ e=>by cases e;exact h⟩
def gN:=@NQ.ok
def NQ.bind {x:aI β} {f:β->aI α} (h:Np x) (hf:∀ b,NQ (f b) Q):NQ (ag x f) Q:=by
 cases x with
 | stuck=>exact acI
 | ry p=>exact ao rfl (h p)
 | ok b=>exact hf b
def qN:=@NQ.bind
def NQ.br {b:Bool} {x y:aI α} (ht:b=true->NQ x Q) (hf:b=false->NQ y Q):NQ (aI.br b x y) Q:=by cases b<;>simp_all [aI.br]
def cQ:=@NQ.br
end
section
variable {m:Nat->Nat}
def agC (hm:bL m) (hp:RQ p) (hx:cv p=91):LK (sJ n p) (λi=>sP (m i) (RR (up p 1))) (JS p) HL:=by
 have iy:=yM hp hx dN;have h0:=hp.h0;have Fm:RQ (up p 1):=hp.up aB aB;have loop:∀ (q:L) (neg:Bool),RQ q->PGt p q->LK (aI.iter (lsB n neg) n (q,eT.mk 0 0 0 0,true)) (λi=>aI.iter (rsB (m i) neg) (m i) (RR q,eT.mk 0 0 0 0)) (JS p) HL:=λq neg hq ht=>
  LK.rot (λv y=>y.1=v.2.2/\y.2.1=RR v.1/\RQ v.1/\PGt p v.1) (λp w=>(∃ v,p=UI v)/\w.1.oO=true) (λi=>rsM (m i) neg)
   (λq z hj next'=>by
    unfold rsB;rw[hj.2];exact aG ((agA hm).qh λw hw=>⟨hj.1,by rw[hw.1];exact hj.2⟩))
   (by
    rintro ⟨q,s,f0⟩ ⟨f,r,ws⟩ ⟨e1,e2,hq,ht⟩ next next' hn hf;dsimp only at e1 e2 hq ht;subst e1 e2;have core:=ď (n:=n) (s:=s) (ws:=ws) (neg:=neg) hm hp hq ht (λq s ws hq ht=>hn (q,s,false) (false,RR q,ws) ⟨rfl,rfl,hq,ht⟩) λv w hw=>hf _ w ⟨⟨v,rfl⟩,hw⟩;unfold lsB rsM;cases f with
    | true=>exact oG (λv=>v=q) (λv hv=>by subst hv;exact core) λj hj=>aF (λ_=>hj _ rfl) λh=>by cases h
    | false=>
     refine aJ du λ_=>oH (yO hq dN) ?_
     dsimp only
     by_cases Tx:cv q=93
     ·have l1:=yM hq Tx dN;have hq1:RQ (up q 1):=hq.up (by have:=hq.h0;omega) aB;rw[aL Tx,aX Tx];refine fI (aF du λ_=>od (yN hq.h0) (aF (λh=>ao Tx jg) λ_=>bG λ_=>aJ (λ_=>?_) du));unfold č;refine dG rfl (λ_=>BU agB λ_ _=>yJ (Xd hm) λ_ _=>b9 acF) λ_=>b9 acF
     ·rw[aE Tx,bw Tx];exact aJ du λ_=>oG (λv=>v=q) (λv hv=>by subst hv;exact core) λj hj=>aF du λ_=>od (yN hq.h0) (aF (λ_=>hj _ rfl) λh=>ao jg Tx))
   n hm (q,eT.mk 0 0 0 0,true) (true,RR q,eT.mk 0 0 0 0) ⟨rfl,rfl,hq,ht⟩
 unfold sJ sP ji rK rG nA;refine bG λ_=>od (yN Fm.h0) (oH (yO Fm dN) ?_);dsimp only;by_cases Tx:cv (up p 1)=93
 ·have l1:=yM Fm Tx dN;have TV:RQ (up (up p 1) 1):=Fm.up (by have:=Fm.h0;omega) aB;rw[aL Tx,aX Tx,Tx];refine fI (aF du λ_=>fI (aF (λ_=>od (yN Fm.h0) ?_) du));rw[Tx];exact aF (λ_=>bG λ_=>aJ (λ_=>b9 ⟨rfl,.nothing,TV,rfl,Zk⟩) du) du
 rw[aE Tx,bw Tx];refine aJ du λ_=>oH (yO Fm dN) ?_;dsimp only;by_cases h94:cv (up p 1)=94
 ·have l1:=yM Fm h94 dN;have TV:RQ (up (up p 1) 1):=Fm.up (by have:=Fm.h0;omega) aB;rw[aL h94,aX h94,h94];exact fI (aF (λ_=>bG λ_=>fI (aF du λ_=>aF du λ_=>loop (up (up p 1) 1) true TV ⟨rfl,Zk⟩)) du)
 rw[aE h94,bw h94];have e94:(cv (up p 1)==94)=false:=by simpa using h94
 have e93:(cv (up p 1)==93)=false:=by simpa using Tx
 rw[e94];refine fI (aF du λ_=>fI (aF (λ_=>od (yN Fm.h0) ?_) du));rw[e93];exact aF du λ_=>loop (up p 1) false Fm ⟨rfl,by show p.bO<p.bO+1;omega⟩
def cls (c:Int):Prop:=c=100\/c=119\/c=115
instance {c:Int}:Decidable (cls c):=inferInstanceAs (Decidable (_\/_))
variable {c:Int}
def ab2:NQ (uj n c) (λy=>y.2=decide (cls c)):=by
 unfold uj;refine qN Gm λ_=>cQ (λh=>gN ?_) λh1=>cQ (λh=>qN Gm λ_=>qN Gm λ_=>qN N9 λ_=>qN N9 λ_=>qN Gm λ_=>qN N9 λ_=>gN ?_) λh2=>cQ (λh=>qN Gm λ_=>qN Gm λ_=>qN N9 λ_=>qN Gm λ_=>qN N9 λ_=>gN ?_) λh3=>gN ?_
 ·exact (aX (.inl jg)).symm
 ·exact (aX (.inr (.inl jg))).symm
 ·exact (aX (.inr (.inr jg))).symm
 exact aiq
def ab3 (hm:bL m):Ev (λi=>yB (m i) c) (λy=>y.2=decide (cls c)) di:=by
 unfold yB;have O:∀ {a b:Int},0<=a->b<=255->Ev (λi=>mg (m i) a b) (λ_=>True) di:=λh h'=>E8 hm h h';refine aw (λh=>ai (O dN dN) λ_ _=>aj ?_) λh1=>aw (λh=>ai (O dN dN) λ_ _=>ai (O dN dN) λ_ _=>ai (Iy hm) λ_ _=>ai (O dN dN) λ_ _=>ai (O dN dN) λ_ _=>ai (Iy hm) λ_ _=>ai (Iy hm) λ_ _=>aj ?_) λh2=>aw (λh=>ai (O dN dN) λ_ _=>ai (O dN dN) λ_ _=>ai (Iy hm) λ_ _=>ai (O dN dN) λ_ _=>ai (Iy hm) λ_ _=>aj ?_) λh3=>aj ?_
 ·exact (aX (.inl jg)).symm
 ·exact (aX (.inr (.inl jg))).symm
 ·exact (aX (.inr (.inr jg))).symm
 exact aiq
def SR (p:L):Option Int:=if p.bO+1<p.cP.length/\cls (cv (up p 1)) then some 2 else (PI 0 p).map (·.2)
def Đ (hm:bL m) (hp:RQ p) (iy:p.bO<p.cP.length):Ev (λi=>mo (m i) (RR (up p 1))) (λz=>match SR p with|some k=>z.2=RR (up p k)/\∃ a b c d,z.1=.mk 2 a b c d []|none=>z.2.oO=true) di:=by
 have h0:=hp.h0;have hu:RQ (up p 1):=hp.up aB aB;have hh2:=hp.h2;unfold mo ji rK rG bF bA;refine bC (yO hu dN) ?_;dsimp only;by_cases hx:cv (up p 1)=120
 ·have nc:¬ cls (cv (up p 1)):=by rw[hx];decide
  have e:SR p=(PI 0 p).map (·.2):=by unfold SR;rw[aE (λq=>nc q.2)]
  rw[aL hx,aX hx,LX (l:=2) dN,e];refine aY (ai (Č hp dN hx) λz hz=>?_);cases hh:PI 0 p with
  | none=>
   rw[hh] at hz
   obtain ⟨z1,z2⟩:=hz
   rw[z2]
   exact ai (E8 hm dN dN) λ_ _=>aj z1
  | some w=>
   rw[hh] at hz
   have hz:z=(w.1,RR (up p w.2)):=hz
   subst hz
   obtain ⟨_,r1,r2,_⟩:=Ď h0 hh
   exact ai (E8 hm r1 r2) λ_ _=>aj ⟨rfl,_,_,_,_,rfl⟩
 rw[aE hx,bw hx];refine aG (bC GJ (aw (λh=>?_) λh=>aj ?_))
 rotate_left
 ·have h:¬ p.bO+1<p.cP.length:=aW h;have:SR p=none:=by unfold SR PI;rw[aE (λq=>h q.1),aE h];rfl
  rw[this]
 have Lo:p.bO+1<p.cP.length:=bh h;obtain ⟨b,hb,I4⟩:=E7 hu Lo;obtain ⟨y,hy,hc⟩:=adZ I4.symm rfl;refine g hu.h0 hb ?_;rw[I4.symm] at hy ⊢;refine ai (ab3 hm) λt ht=>?_;have cr:=@C2 (up p 1);rw[wcv];have e:SR p=if cls (cv (up p 1)) then some 2 else (I3 (cv (up p 1))).map λ_=>2:=by
  unfold SR;by_cases q:cls (cv (up p 1))
  ·rw[aL ⟨Lo,q⟩,aL q]
  rw[aE (λw=>q w.2),aE q];unfold PI;rw[aL Lo,aE hx];cases hh:I3 (cv (up p 1)) with
  | none=>rfl
  | some v=>
   have key:∀ k:Fin 256,∀ v,I3 k.val=some v->0<=v:=λk v h=>by
    unfold I3 at h;split at h
    ·cases h;omega
    exact ŭ
   have:=JV (P:=λc=>∀ v,I3 c=some v->0<=v) key _ cr.1 cr.2 v hh
   show Option.map _ (if 0<=v then some (v,(2:Int)) else none)=_
   rw[aL this];rfl
 have fin:∀ {t:eT×Bool},t.2=decide ((SR p).isSome)->Ev (λ_=>br t.2 (gd (cD (p.bO+1+1)) (.ok ((bu.mk 2 t.1.x0 t.1.x1 t.1.x2 t.1.x3 []),(N.mk p.cP (p.bO+1+1) false)))) (.ok ((bu.mk 0 0 0 0 0 []),(N.mk p.cP (p.bO+1) true)))) (λz=>match SR p with|some k=>z.2=RR (up p k)/\∃ a b c d,z.1=.mk 2 a b c d []|none=>z.2.oO=true) di:=λ{t} ht=>by
  have e2:SR p=none\/SR p=some 2:=by
   rw[e];split
   ·exact .inr rfl
   cases I3 (cv (up p 1)) with
   | none=>exact .inl rfl
   | some v=>exact .inr rfl
  obtain e2|e2:=e2
  ·rw[e2] at ht ⊢;rw[ht];exact aG uY
  rw[e2] at ht ⊢;rw[ht];refine aY (dy (Ũ aB aB) (aj ⟨?_,_,_,_,_,rfl⟩));show (⟨p.cP,p.bO+1+1,false⟩:N)=⟨p.cP,p.bO+2,false⟩;rw[show p.bO+1+1=p.bO+2 by omega]
 have i1:∀ {o:Option Int},o=I3 (cv (up p 1))->(SR p).isSome=(decide (cls (cv (up p 1)))||o.isSome):=λh=>by
  rw[e,h];by_cases q:cls (cv (up p 1))
  ·rw[aL q,aX q];rfl
  rw[aE q,bw q];cases I3 (cv (up p 1))<;>rfl
 have i2:=i1 hc;refine bz (λv=>v.2=(decide (cls (cv (up p 1)))||decide (0<=y))) (λv hv=>?_) λj hj=>bC hy (aR (λh=>ai (E8 hm h ?_) λ_ _=>hj _ ?_) λh=>hj _ ?_)
 ·refine bz (λw=>w.2=decide ((SR p).isSome)) (λw hw=>fin hw) λj hj=>bz (λw=>w=decide (cv (up p 1)∈PW\/cv (up p 1)=94\/cv (up p 1)=45)) (λw hw=>?_) λk hk=>ai (Fu hm) ?_
  ·subst hw;refine aw (λh=>ai (E8 hm aB aB) λ_ _=>hj _ ?_) λh=>hj _ ?_
   ·rw[aL B2] at i2;rw[i2];simp
   rw[aE qO] at i2;rw[hv,i2];by_cases q:0<=y<;>simp[q]
  rintro _ rfl;refine aw (λh=>hk _ ?_) λh=>aw (λh2=>hk _ ?_) λh2=>hk _ ?_
  ·exact (aX (.inl B2)).symm
  ·exact (aX (.inr (.inl xq))).symm
  refine cY.2 ?_;simp only[cg,decide_eq_true_eq];exact ⟨λq=>.inr (.inr q),λq=>by
   obtain q|q|q:=q
   ·exact ao q qO
   ·rw[q] at h2;cases h2
   exact q⟩
 ·have:y<=255:=by
   obtain ⟨w,h1,h2⟩:=N7 (JV (P:=λc=>okB (qF c) (λy=>decide (y<=255))=true) (by decide +kernel) _ cr.1 cr.2);rw[h1] at hy;cases hy;exact bh h2
  exact this
 ·rw[aX h];simp
 rw[ht,bw h];simp
end
section
variable {V:α->β->Prop} {W:sX->β->Prop} {F:Nat->aI β}
def đ {x:aI γ} {Q:γ->Prop} {f:γ->aI α} (h:NQ x Q) (hk:∀ a,Q a->LK (f a) F V W):LK (ag x f) F V W:=BU h.1 λa e=>hk a (h.2 a e)
def Ē {a:α} (h:Ev F (V a) di):LK (.ok a) F V W:=⟨λ_ e=>by cases e;exact h,λ_ e=>by cases e⟩
def Xe {v:Int} {q:L} {f:L->aI α} (h:Ev F (W (UI v)) di):LK (ag (eP v q) f) F V W:=sW (p:=UI v) h
def ad1 {c:Int} {n:Nat}:NQ (tF n c) (λt=>∃ a b d e,t=.mk 2 a b d e []):=by
 unfold tF rG;exact qN Gm λ_=>gN QF
end
section
variable {m:Nat->Nat}
def grR (n:Nat) (T:dP) (r:N):aI (bu×N):=
 ag (cx 41 r) λy23=>br y23.1 (.ok ((bu.mk 1 0 0 0 0 []),y23.2)) (ag (T.eY y23.2) λy27=>ag (cx 41 y27.2) λy30=>br (!y30.1) (.ok (y27.1,(N.mk y30.2.S y30.2.At true))) (.ok (y27.1,y30.2)))
abbrev rT (n:Nat):=cw n
structure XQ (n:Nat):Prop where
 alt:∀ {p:L} {m:Nat->Nat},RQ p->bL m->LK (ep n p) (λi=>eY (m i) (RR p)) (JS p) HL
 Ï:∀ {p:L} {m:Nat->Nat},RQ p->bL m->LK (eH n p) (λi=>fP (m i) (RR p)) (JS p) HL
 Sd:∀ {l:List bu} {p:L} {m:Nat->Nat},RQ p->bL m->LK (dV n l p) (λi=>fW (m i) (RR p)) (λa z=>∃ r,a.1=l++[r]/\JS p (r,a.2) z) HL
 piece:∀ {p:L} {m:Nat->Nat},RQ p->bL m->LK (js n p) (λi=>fW (m i) (RR p)) (JS p) HL
 atom:∀ {p:L} {m:Nat->Nat},RQ p->bL m->LK (jR n p) (λi=>kX (m i) (RR p)) (JS p) HL
 group:∀ {p:L} {m:Nat->Nat},RQ p->cv p=40->bL m->LK (jr n p) (λi=>grR (m i) (rT (m i)) (RR (up p 1))) (JS p) HL
def ē (ih:XQ n) (hp:RQ p) (hx:cv p=40) (hm:bL m):LK (jr (n+1) p) (λi=>grR (m i) (rT (m i)) (RR (up p 1))) (JS p) HL:=by
 have iy:=yM hp hx dN;have h0:=hp.h0;have Fm:RQ (up p 1):=hp.up aB aB;show LK (ly n (bI n) p) _ _ _;unfold ly grR rK nA;refine bG λ_=>od (yN Fm.h0) (oH (yO Fm dN) ?_);dsimp only;by_cases Sa:cv (up p 1)=41
 ·have Tu:=yM Fm Sa dN;rw[aL Sa,aX Sa,Sa];exact aF (λ_=>bG λ_=>aJ (λ_=>b9 ⟨rfl,.empty,Fm.up (by have:=Fm.h0;omega) aB,rfl,Zk⟩) du) du
 rw[aE Sa,bw Sa];refine aF (λh=>ao jg Sa) λ_=>aJ du λ_=>cm (ih.alt Fm hm) ?_ ?_
 ·rintro ⟨t,q⟩ ⟨t',r⟩ ⟨rfl,hX,hq,hg,hg2⟩;have hg2:p.bO+1<q.bO:=hg2;refine fI (od (yN hq.h0) (oH (yO hq dN) ?_));dsimp only;by_cases hc:cv q=41
  ·have Tu:=yM hq hc dN;rw[aL hc,aX hc,hc];exact aF du λ_=>bG λ_=>aJ du λ_=>b9 ⟨rfl,hX,hq.up (by have:=hq.h0;omega) aB,hg,by show p.bO<q.bO+1;omega⟩
  rw[aE hc,bw hc];exact aF (λ_=>Xe (aY (aj ⟨⟨_,rfl⟩,rfl⟩))) λh=>ao jg hc
 rintro _ ⟨t',r⟩ ⟨hv,hf⟩;exact bC (abZ hf) (aY (aj ⟨hv,rfl⟩))
def ab4 (ih:XQ n) (hp:RQ p) (hm:bL m):LK (jR (n+1) p) (λi=>kX (m i) (RR p)) (JS p) HL:=by
 have h0:=hp.h0;have TV:=hp.h2;have cr:=@C2 p;refine jZ (F:=λn=>kX n (RR p)) hm λm hm=>?_;show LK (mi n (bI n) p) (λi=>qj (m i) (cw (m i)) (RR p)) _ _;unfold mi qj vi ji rG nA rK bF bA;have vx:∀ {k:Int} {t t':bu} {r:N},(∃ a b c d,t=.mk 2 a b c d [])->(∃ a b c d,t'=.mk 2 a b c d [])->r=RR (up p k)->0<k->p.bO+k<=p.cP.length->JS p (t,up p k) (t',r):=λ{k t t' r} ⟨_,_,_,_,h1⟩ ⟨_,_,_,_,h2⟩ h3 h4 h5=>⟨h3,by rw[h1,h2];exact .one,hp.up aB h5,rfl,by show p.bO<p.bO+_;omega⟩;refine od (yN h0) (oH (yO hp dN) (fI ?_));dsimp only;by_cases DV:cv p=92
 ·have iy:=yM hp DV dN;rw[aL DV,aX DV];have he:=Đ hm hp iy;have R:∀ {o:Option Int},SR p=o->Ev (λi=>ag (mo (m i) (RR (up p 1))) λy7=>.ok (y7.1,y7.2)) (λz=>match o with|some k=>z.2=RR (up p k)/\∃ a b c d,z.1=.mk 2 a b c d []|none=>z.2.oO=true) di:=λh=>h▸he.gw λz hz=>aj hz;have DJ:¬ (p.bO+1<p.cP.length/\cls (cv (up p 1)))->LK (ag (ia n 0 p) λy47=>ag (tF n y47.1) λy48=>.ok (y48,y47.2)) (λi=>ag (mo (m i) (RR (up p 1))) λy7=>.ok (y7.1,y7.2)) (JS p) HL:=λhn=>by
   have e:SR p=(PI 0 p).map (·.2):=by unfold SR;rw[aE hn]
   refine ĉ (adY h0) (λa ha=>?_) λG9 v=>?_
   ·cases hh:PI 0 p with
    | none=>rw[hh] at ha;cases ha
    | some w=>
     rw[hh] at ha e;cases ha
     obtain ⟨_,_,_,r3,r4⟩:=Ď h0 hh
     have r5:0<w.2:=by
      unfold PI at hh;split at hh
      ·split at hh
       ·cases h2:SQ 0 (up p 2) with
        | none=>rw[h2] at hh;cases hh
        | some v=>rw[h2] at hh;cases hh;show (0:Int)<4;decide
       cases h2:I3 (cv (up p 1)) with
       | none=>rw[h2] at hh;cases hh
       | some v=>
        rw[h2] at hh
        have hh:(if 0<=v then some (v,(2:Int)) else none)=some w:=hh
        split at hh
        ·cases hh;show (0:Int)<2;decide
        ·cases hh
      cases hh
     exact đ ad1 λt ht=>Ē ((R e).qh λz hz=>vx ht hz.2 hz.1 r5 r4)
   cases hh:PI 0 p with
   | some w=>rw[hh] at G9;cases G9
   | none=>rw[hh] at e;exact (R e).qh λz hz=>⟨⟨v,rfl⟩,hz⟩
  rw[DV];refine aF Kg λ_=>aF du λ_=>aF du λ_=>aF du λ_=>aF (λ_=>bG λ_=>aJ (λ_=>aF (λhl=>bG λ_=>je λb _ hb=>?_) λhl=>DJ λq=>ao q.1 (aW hl)) du) du;have hl:p.bO+1<p.cP.length:=bh hl;have ec:cv (up p 1)=b.toNat:=by unfold cv;rw[show (up p 1).cP[(up p 1).bO.toNat]?=some b from hb]
  rw[<- ec];refine đ ab2 λt ht=>?_;rw[ht];by_cases hc:cls (cv (up p 1))
  ·rw[aX hc];refine aF (λ_=>bG λ_=>Ē ((R (o:=some 2) (by unfold SR;rw[aL ⟨hl,hc⟩])).qh λz hz=>vx (k:=2) QF hz.2 hz.1 dN aB)) du
  rw[bw hc];exact aF du λ_=>DJ λq=>hc q.2
 rw[aE DV,bw DV];refine aJ du λ_=>oH (yO hp dN) ?_;dsimp only;by_cases N6:cv p=46
 ·have iy:=yM hp N6 dN;rw[aL N6,aX N6,N6];refine aF Kg λ_=>aF du λ_=>aF du λ_=>aF (λ_=>bG λ_=>BU Gm λ_ _=>aJ (λ_=>yJ (E8 hm dN dN) λ_ _=>b9 (vx QF QF rfl dN aB)) du) du
 rw[aE N6,bw N6];refine aJ du λ_=>oH (yO hp dN) ?_;dsimp only;by_cases Tw:cv p=91
 ·have iy:=yM hp Tw dN;rw[aL Tw,aX Tw];have st:=agC (n:=n) hm hp Tw;rw[Tw];refine aF Kg λ_=>aF du λ_=>aF (λ_=>aJ (λ_=>cm st (λa z h=>b9 h) λq z h=>aj h) du) du
 rw[aE Tw,bw Tw];refine aJ du λ_=>oH (yO hp dN) ?_;dsimp only;by_cases Ip:cv p=40
 ·have iy:=yM hp Ip dN;rw[aL Ip,aX Ip];have gr:=ih.group hp Ip hm;rw[Ip];exact aF Kg λ_=>aF (λ_=>aJ (λ_=>tq gr (λa b h=>b9 h) λ_ _ h=>h) du) du
 rw[aE Ip,bw Ip];refine aJ du λ_=>LK.jnT (λv=>v=(RR p,decide (¬ p.bO<p.cP.length\/cv p<32\/cv p>126\/cv p∈PW))) (λv hv=>?_) λj hj=>oH GJ ?_
 ·subst hv;by_cases PK:¬ p.bO<p.cP.length\/cv p<32\/cv p>126\/cv p∈PW
  ·rw[aX PK];refine aJ (λ_=>?_) du;have fl:∀ {v:Int} {q:L} {f:L->aI (bu×L)},LK (ag (eP v q) f) (λ_=>.ok ((bu.mk 0 0 0 0 0 []),(N.mk (RR p).S (RR p).At true))) (JS p) HL:=Xe (aj ⟨⟨_,rfl⟩,rfl⟩);refine aF (λ_=>fl) λiy=>aF (λh=>ao jg Ip) λ_=>aF (λh=>ao jg Tw) λ_=>aF (λh=>ao jg N6) λ_=>aF (λh=>ao jg DV) λ_=>?_;have iy:p.bO<p.cP.length:=by have h:¬ p.bO>=(p.cP.length:Int):=aW iy;omega
   have PK:=PK.resolve_left (λq=>q iy);obtain ⟨y,hy,hd⟩:=N7 ahb;have hd:=cg.1 hd;refine oG (λv=>v=true) (λv hv=>by subst hv;exact aF (λ_=>fl) λh=>by cases h) λj hj=>aF (λ_=>hj _ rfl) λh1=>aF (λ_=>hj _ rfl) λh2=>od hy (hj _ ?_);rw[hd];exact aX (PK.resolve_left (aW h1) |>.resolve_left (aW h2))
  rw[bw PK];have iy:p.bO<p.cP.length:=Decidable.not_not.1 λq=>PK (.inl q);obtain ⟨b,hb,I4⟩:=E7 hp iy;refine aJ du λ_=>bV aef (bV (Ũ (by show -5000<=p.bO+1 - 1;omega) (by show p.bO+1 - 1<=5000;omega)) ?_);show LK _ (λi=>aI.el p.cP (p.bO+1 - 1) _) _ _;rw[show p.bO+1 - 1=p.bO by omega];refine eV h0 hb ?_;rw[<- I4,wcv];refine yJ (E8 hm cr.1 aB) λt _=>?_;obtain ⟨y,hy,hd⟩:=N7 ahb;have hd:=cg.1 hd;refine aF Kg λ_=>aF (λh=>ao jg Ip) λ_=>aF (λh=>ao jg Tw) λ_=>aF (λh=>ao jg N6) λ_=>aF (λh=>ao jg DV) λ_=>?_;refine oG (λv=>v=false) (λv hv=>?_) λj hj=>aF (λh=>ao (.inr (.inl B2)) PK) λ_=>aF (λh=>ao (.inr (.inr (.inl B2))) PK) λ_=>od hy (hj _ ?_)
  ·subst hv;exact aF du λ_=>bG λ_=>đ ad1 λt ht=>b9 (vx ht QF rfl dN aB)
  rw[hd];exact bw λq=>PK (.inr (.inr (.inr q)))
 
 have t:(¬ p.bO<p.cP.length\/cv p<32\/cv p>126\/cv p∈PW)->∀ {X:aI (bu×L)},(∀ w,w=(RR p,decide (¬ p.bO<p.cP.length\/cv p<32\/cv p>126\/cv p∈PW))->LK X (λi=>j i w) (JS p) HL)->LK X (λi=>j i (RR p,true)) (JS p) HL:=λh {X} hj=>hj _ (by rw[aX h]);refine aJ (λh=>t (.inl (aW jg)) hj) λh=>?_;have iy:p.bO<p.cP.length:=bh jg;obtain ⟨b,hb,I4⟩:=E7 hp iy;refine eV h0 hb ?_;rw[<- I4];refine aJ (λh=>t (.inr (.inl B2)) hj) λh1=>eV h0 hb ?_;rw[<- I4];refine aJ (λh=>t (.inr (.inr (.inl B2))) hj) λh2=>eV h0 hb ?_;rw[<- I4];refine bj (Fu hm) (hj _ (Prod.ext rfl (decide_eq_decide.2 ⟨λq=>.inr (.inr (.inr q)),λq=>?_⟩)));exact q.resolve_left (λq=>q iy) |>.resolve_left (aW h1) |>.resolve_left (aW h2)
end
section
structure TG (l l':List bu):Prop where
 n:l.length=l'.length
 h:∀ (i:Nat) (x y:bu),l[i]?=some x->l'[i]?=some y->Jq x y
variable {l l':List bu} {x y:bu} {k:Int}
def TG.snoc (h:TG l l') (hx:Jq x y):TG (l++[x]) (l'++[y]):=⟨by simp[h.n],λi a b ha hb=>by
 obtain q|⟨q,rfl⟩:=uz ha
 ·obtain q2|⟨q2,_⟩:=uz hb
  ·exact h.h i a b q q2
  have:=(an.1 q).1;have:=h.n;omega
 obtain q2|⟨_,rfl⟩:=uz hb
 ·have:=(an.1 q2).1;have:=h.n;omega
 exact hx⟩
def TG.nil:TG [] []:=⟨rfl,λi a b h=>by cases h⟩
def TG.one (h:Jq x y):TG [x] [y]:=TG.nil.snoc h
def Jq.two {a a' b b':bu} (hk:k=3\/k=4) (h:Jq a a') (h':Jq b b'):Jq (.mk k 0 0 0 0 [a,b]) (.mk k 0 0 0 0 [a',b']):=.many hk (iJ 2) rfl ((TG.one h).snoc h').h
def Xf (hk:k=3\/k=4) (h:TG l l') (h1:1<=l.length):LK (qT k l) (λ_=>lV k l') Jq (λ_ _=>False):=by
 have e:=h.n;unfold qT lV rK;refine dG (by rw[e]) (λhe=>je λx _ hx=>?_) λhe=>b9 ?_
 ·have he:(l.length:Int)=1:=by simpa using he
  have hl:l'.length=1:=by omega
  have hy:=az (show (0:Int).toNat<l'.length by rw[hl];decide);exact eV Cq hy (b9 (h.h 0 _ _ hx hy))
 have he:¬ (l.length:Int)=1:=by simpa using he
 exact .many hk aB e h.h
def SS {r:N} {v:Int} (h1:1<=l'.length) (hr:r.oO=true):Ev (λ_=>ag (lV k l') λy=>.ok (y,r)) (HL (UI v)) di:=by
 unfold lV rK;cases l' with
 | nil=>cases h1
 | cons a l=>
  by_cases h:(((a::l).length:Int)==1)=true
  ·rw[h];exact aj ⟨⟨v,rfl⟩,hr⟩
  ·rw[eq_false_of_ne_true h];exact aj ⟨⟨v,rfl⟩,hr⟩
section
variable {m:Nat->Nat}
def ZQ {k:Nat} (h:k<=70000):nP 64 k 1:=⟨aB,by unfold maxLen;omega⟩
def Ĕ (ih:XQ n) (hp:RQ p) (hm:bL m):LK (dV (n+1) l p) (λi=>fW (m i) (RR p)) (λa z=>∃ r,a.1=l++[r]/\JS p (r,a.2) z) HL:=by
 show LK (fV n (bI n) l p) _ _ _;unfold fV YV jk rK;exact tq (ih.piece hp hm) (λa b h=>bG λ_=>b9 ⟨_,rfl,h⟩) λ_ _ h=>h
def ĕ (ih:XQ n) (hp:RQ p) (hm:bL m):LK (js (n+1) p) (λi=>fW (m i) (RR p)) (JS p) HL:=by
 refine jZ (F:=λn=>fW n (RR p)) hm λm hm=>?_;show LK (lA n (bI n) p) (λi=>pj (m i) (cw (m i)) (RR p)) _ _;unfold lA pj rK nA;refine cm (ih.atom hp hm) ?_ λq z hz=>px hm λ_=>by
  obtain ⟨hv,hf⟩:=hz;rw[hf];exact aG (aj ⟨hv,hf⟩)
 rintro ⟨t,q⟩ ⟨t',r⟩ ⟨rfl,hX,hq,hg⟩;refine uL (λv w=>w.1=RR v.1/\Jq v.2 w.2/\RQ v.1/\PGt p v.1) ?_ n hm _ _ ⟨rfl,hX,hq,hg⟩;rintro ⟨q,t⟩ ⟨r,t'⟩ ⟨e,hX,hq,hg⟩ next next' hn;dsimp only at e hX hq hg;subst e;have h0:=hq.h0;refine aJ (λ_=>fI (od (yN h0) (oH (yO hq dN) ?_))) du;dsimp only;have go:∀ {c:Int} {t t':bu},cv q=c->c≠0->Jq t t'->LK (gd (cD (q.bO+1)) (next ((L.mk q.cP (q.bO+1)),t))) (λi=>next' i (RR (up q 1),t')) (JS p) HL:=λhc h0 hX=>by
  have:=yM hq hc h0;exact bG λ_=>hn _ _ ⟨rfl,hX,hq.up aB aB,hg.1,by have:=hg.2;show p.bO<q.bO+1;omega⟩
 by_cases h42:cv q=42
 ·rw[aL h42,aX h42];have g:=go h42 dN (.star hX);rw[h42];exact aeg
 rw[aE h42,bw h42];refine aF (λh=>ao jg h42) λ_=>aJ du λ_=>oH (yO hq dN) ?_;dsimp only;by_cases h43:cv q=43
 ·rw[aL h43,aX h43];have g:=go h43 dN (Jq.two (.inl rfl) hX (.star hX));rw[h43];exact aeg
 rw[aE h43,bw h43];refine aF (λh=>ao jg h43) λ_=>aJ du λ_=>oH (yO hq dN) ?_;dsimp only;by_cases h63:cv q=63
 ·rw[aL h63,aX h63];have g:=go h63 dN (Jq.two (.inr rfl) hX .empty);rw[h63];exact aeg
 rw[aE h63,bw h63];exact aF (λh=>ao jg h63) λ_=>aJ du λ_=>b9 ⟨rfl,hX,hq,hg⟩
def ab5 (ih:XQ n) (hp:RQ p) (hm:bL m):LK (eH (n+1) p) (λi=>fP (m i) (RR p)) (JS p) HL:=by
 refine jZ (F:=λn=>fP n (RR p)) hm λm hm=>?_;show LK (gI n (bI n) p) (λi=>nJ (m i) (cw (m i)) (RR p)) _ _;unfold gI nJ ji oj jk;have stop:∀ {v:Int} (w:N×List bu),w.1.oO=true->1<=w.2.length->∀ next:Nat->N×List bu->aI (bu×N),Ev (λi=>ag (gC w.1) λy10=>br y10.1 (el y10.2.S y10.2.At λb12=>br ((b12.toNat:Int) !=124) (el y10.2.S y10.2.At λb17=>br ((b17.toNat:Int) !=41) (ag ((cw (m i)).fW y10.2) λy22=>gd (nP 64 w.2.length (List.length [y22.1])) (next i (y22.2,w.2++[y22.1]))) (ag (lV 3 w.2) λy25=>.ok (y25,y10.2))) (ag (lV 3 w.2) λy27=>.ok (y27,y10.2))) (ag (lV 3 w.2) λy29=>.ok (y29,y10.2))) (HL (UI v)) di:=λw hw hl next=>bC (agy hw) (aG (SS hl hw));refine cm (ih.Sd hp hm) ?_ ?_
 rotate_left
 ·exact adl
 rintro ⟨l,q⟩ ⟨t',r⟩ ⟨t,rfl,rfl,hX,hq,hg⟩;refine uy (λv w=>w.1=RR v.1/\TG v.2 w.2/\1<=v.2.length/\(v.2.length:Int)<=v.1.bO/\RQ v.1/\PGt p v.1) (λp w=>(∃ v,p=UI v)/\w.1.oO=true/\1<=w.2.length) acz ?_ n hm _ _ ⟨rfl,TG.one hX,iJ 1,by have:=hg.2;have:=hp.h0;show (1:Int)<=q.bO;have:p.bO<q.bO:=hg.2;omega,hq,hg⟩;rintro ⟨q,l⟩ ⟨r,l'⟩ ⟨e,hX,hl,hla,hq,hg⟩ next next' hn hf;dsimp only at e hX hl hla hq hg;subst e;have h0:=hq.h0;have h1:=hq.h1;have h2:=hq.h2;have el:=hX.n;have close:LK (ag (qT 3 l) λy=>.ok (y,q)) (λ_=>ag (lV 3 l') λy=>.ok (y,RR q)) (JS p) HL:=cm (Xf (.inl rfl) hX hl) (λa b h=>b9 ⟨rfl,h,hq,hg⟩) λ_ _ h=>h.elim;refine oH GJ (dG rfl (λiy=>od (yN h0) ?_) λ_=>close);have iy:q.bO<q.cP.length:=bh iy;obtain ⟨b,hb,I4⟩:=E7 hq iy;refine eV h0 hb (dG (by rw[I4]) (λ_=>od (yN h0) (eV h0 hb (dG (by rw[I4]) (λ_=>cm (ih.Sd hq hm) ?_ ?_) λ_=>close))) λ_=>close)
 ·rintro ⟨w,q2⟩ ⟨t',r⟩ ⟨t,rfl,rfl,hX2,GK,hg2⟩;have hg2':q.bO<q2.bO:=hg2.2;exact bV (ZQ (by show l'.length<=70000;omega)) acY
 exact ac4
def agD (ih:XQ n) (hp:RQ p) (hm:bL m):LK (ep (n+1) p) (λi=>eY (m i) (RR p)) (JS p) HL:=by
 refine jZ (F:=λn=>eY n (RR p)) hm λm hm=>?_;show LK (gW n (bI n) p) (λi=>kY (m i) (cw (m i)) (RR p)) _ _;unfold gW kY oj jk nA;have stop:∀ {v:Int} (w:N×List bu),w.1.oO=true->1<=w.2.length->∀ next:Nat->N×List bu->aI (bu×N),Ev (λi=>ag (cx 124 w.1) λy10=>br y10.1 (ag ((cw (m i)).fP y10.2) λy12=>gd (nP 64 w.2.length (List.length [y12.1])) (next i (y12.2,w.2++[y12.1]))) (ag (lV 4 w.2) λy15=>.ok (y15,y10.2))) (HL (UI v)) di:=λw hw hl next=>bC (abZ hw) (aG (SS hl hw));refine cm (ih.Ï hp hm) ?_ ?_
 rotate_left
 ·exact adl
 rintro ⟨t,q⟩ ⟨t',r⟩ ⟨rfl,hX,hq,hg⟩;refine uy (λv w=>w.1=RR v.1/\TG v.2 w.2/\1<=v.2.length/\(v.2.length:Int)<=v.1.bO/\RQ v.1/\PGt p v.1) (λp w=>(∃ v,p=UI v)/\w.1.oO=true/\1<=w.2.length) acz ?_ n hm _ _ ⟨rfl,TG.one hX,iJ 1,by have:=hp.h0;show (1:Int)<=q.bO;have:p.bO<q.bO:=hg.2;omega,hq,hg⟩;rintro ⟨q,l⟩ ⟨r,l'⟩ ⟨e,hX,hl,hla,hq,hg⟩ next next' hn hf;dsimp only at e hX hl hla hq hg;subst e;have h0:=hq.h0;have h1:=hq.h1;have h2:=hq.h2;have el:=hX.n;refine od (yN h0) (oH (yO hq dN) ?_);dsimp only;by_cases hc:cv q=124
 ·have iy:=yM hq hc dN;have hq1:RQ (up q 1):=hq.up aB aB;rw[aL hc,aX hc,hc];refine aF (λ_=>bG λ_=>aJ (λ_=>cm (ih.Ï hq1 hm) ?_ ?_) du) du
  ·rintro ⟨t,q2⟩ ⟨t',r⟩ ⟨rfl,hX2,GK,hg2⟩;have hg2':q.bO+1<q2.bO:=hg2.2;exact bG λ_=>bV (ZQ (by show l'.length<=70000;omega)) acY
  exact ac4
 rw[aE hc,bw hc];exact aF (λh=>ao jg hc) λ_=>aJ du λ_=>cm (Xf (.inr rfl) hX hl) (λa b h=>b9 ⟨rfl,h,hq,hg⟩) λ_ _ h=>h.elim
def Ė:∀ n,XQ n
 | 0=>⟨λ_ _=>da,λ_ _=>da,λ_ _=>da,λ_ _=>da,λ_ _=>da,λ_ _ _=>da⟩
 | n+1=>
  have ih:=Ė n
  ⟨agD ih,ab5 ih,Ĕ ih,ĕ ih,ab4 ih,ē ih⟩
end
end
end Go.Abs
