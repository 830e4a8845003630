/- PROVED: lemmas of the proof of: a law CONDITIONS: as each lemma states. -/
import Derived.Test.YtkhjeiaafiodeaaGreatDoorF6
section
namespace Go.Abs
open Go.Proofs al
def kX (n:Nat) (p0:ByS) (p1:ByS):al (Bool):=
 br (decide ((List.length p0:Int)>400)) (al.bind (iH 64) λy6=>.ok (y6)) (br (decide ((List.length p1:Int)>400)) (al.bind (iH 64) λy9=>.ok (y9)) (al.bind (dx n p0) λy11=>al.bind (dx n p1) λy13=>br (y11.2.Errno !=0) (al.bind (iH 64) λy18=>.ok (y18)) (br (y13.2.Errno !=0) (al.bind (iH 64) λy21=>.ok (y21)) (br (decide ((List.length y11.1.bT:Int)>0)) (al.bind (iH 64) λy24=>.ok (y24)) (br (y13.1.cb !=([]:ByS)) (al.bind (iH 64) λy27=>.ok (y27)) (br (decide ((List.length y13.1.bo:Int)>0)) (al.bind (iH 64) λy30=>.ok (y30)) (gd (rN p0 ([10]:ByS)) (gd (rN (p0++([10]:ByS)) p1) (al.bind (dx n ((p0++([10]:ByS))++p1)) λy34=>gd (lz 184 (List.length ([]:List aA)) (List.length y11.1.Decls)) (gd (lz 184 (List.length ([]++y11.1.Decls)) (List.length y13.1.Decls)) (br (y34.2.Errno==0) (al.bind (pG n y34.1 (cu.mk y11.1.cb y11.1.bo (([]++y11.1.Decls)++y13.1.Decls) y13.1.bT)) λy41=>br y41 (al.bind (iH 64) λy43=>.ok (y43)) (.ok (false))) (.ok (false)))))))))))))
theorem tG (n:Nat) (p0:ByS) (p1:ByS):CT Tryz.prog 10 [F p0,F p1] [] (kX n p0 p1) (λx=>Bo x) (λ_=>[]):=by
 refine zC Tryz.func10 O λr hp h hr E hE=>D λ_ hK1=>A (za O (zQ hK1 (D λ_ hK2=>D λ_ hK3=>A (zm O (J (dC O) O (zc O (zm O (zb (decide ((List.length p0:Int)>400)) (λhb4=>?_) λhb4=>?_))))))))
 ·refine z1 hb4 h λh=>zH 3 O hb4 (zy hb4 O (zQ hK3 (df O (λhc=>?_) (λhc=>?_))))
  ·exact D λ_ hK5=>A (zk hp hr h [] Tryz.call11 (iY 64) O (λ_=>rfl) λy6 h=>za O (zQ hK5 (H (z O h O))))
  exact absurd (hc) (by simp)
 refine z2 hb4 h λh=>zG hb4 O (W O) (zG hb4 O (dC O) (zG hb4 O (bq O O O) (zw hb4 O (zQ hK3 (zB O h (λ_ h=>?_) λ_ h=>?_)))))
 ·exact D λ_ hK8=>A (zk hp hr h [] Tryz.call11 (iY 64) O (λ_=>rfl) λy9 h=>za O (zQ hK8 (H (z O h O))))
 refine V (hK2 _ _ (D λ_ hK10=>A (zm O (zk hp hr h [] Tryz.call12 (jG n p0) O (λ_=>rfl) λy11 h=>zm O (zx O (zx O (aJ 105 (hE _ O) O4 O ?_)))))));refine aJ 106 (hE _ O) O4 O ?_;refine zs O (zs O (zQ hK10 (D λ_ hK12=>A (zm O (zk hp hr h [] Tryz.call12 (jG n p1) O (λ_=>rfl) λy13 h=>zm O (zx O (zx O (aJ 107 (hE _ O) O4 O ?_))))))));refine aJ 108 (hE _ O) O4 O ?_;refine zs O (zs O (zQ hK12 (D λ_ hK14=>D λ_ hK15=>A (zf O (zl O (zc O (zm O (zb (y11.2.Errno !=0) (λhb16=>?_) λhb16=>?_))))))))
 ·refine z1 hb16 h λh=>zH 3 O hb16 (zy hb16 O (zm O (zH 4 O O (zt O (zm O (zH 3 O O (zt O (zm O (zH 4 O O (zt O (zQ hK15 (df O (λhc=>?_) (λhc=>?_)))))))))))))
  ·exact D λ_ hK17=>A (zk hp hr h [] Tryz.call11 (iY 64) O (λ_=>rfl) λy18 h=>za O (zQ hK17 (H (z O h O))))
  exact absurd (hc) (by simp)
 refine z2 hb16 h λh=>zG hb16 O (o O) (zG hb16 O (bb O O O) (zG hb16 O (bq O O O) (zw hb16 O (zm O (zb (y13.2.Errno !=0) (λhb19=>?_) λhb19=>?_)))))
 ·refine z1 hb19 h λh=>zH 4 O hb19 (zy hb19 O (zm O (zH 3 O O (zt O (zm O (zH 4 O O (zt O (zQ hK15 (df O (λhc=>?_) (λhc=>?_))))))))))
  ·exact D λ_ hK20=>A (zk hp hr h [] Tryz.call11 (iY 64) O (λ_=>rfl) λy21 h=>za O (zQ hK20 (H (z O h O))))
  exact absurd (hc) (by simp)
 refine z2 hb19 h λh=>zG hb19 O (o O) (zG hb19 O (bb O O O) (zG hb19 O (cD O) (zG hb19 O (bq O O O) (zw hb19 O (zm O (zb (decide ((List.length y11.1.bT:Int)>0)) (λhb22=>?_) λhb22=>?_))))))
 ·refine z1 hb22 h λh=>zH 3 O hb22 (zy hb22 O (zm O (zH 4 O O (zt O (zQ hK15 (df O (λhc=>?_) (λhc=>?_)))))))
  ·exact D λ_ hK23=>A (zk hp hr h [] Tryz.call11 (iY 64) O (λ_=>rfl) λy24 h=>za O (zQ hK23 (H (z O h O))))
  exact absurd (hc) (by simp)
 refine z2 hb22 h λh=>zG hb22 O (o O) (zG hb22 O (bb O O O) (zG hb22 O (rL O O) (zw hb22 O (zm O (zb (y13.1.cb !=([]:ByS)) (λhb25=>?_) λhb25=>?_)))))
 ·refine z1 hb25 h λh=>zH 4 O hb25 (zy hb25 O (zQ hK15 (df O (λhc=>?_) (λhc=>?_))))
  ·exact D λ_ hK26=>A (zk hp hr h [] Tryz.call11 (iY 64) O (λ_=>rfl) λy27 h=>za O (zQ hK26 (H (z O h O))))
  exact absurd (hc) (by simp)
 refine z2 hb25 h λh=>zG hb25 O (o O) (zG hb25 O (bb O O O) (zG hb25 O (cD O) (zG hb25 O (bq O O O) (zw hb25 O (zQ hK15 (zB O h (λ_ h=>?_) λ_ h=>?_))))))
 ·exact D λ_ hK29=>A (zk hp hr h [] Tryz.call11 (iY 64) O (λ_=>rfl) λy30 h=>za O (zQ hK29 (H (z O h O))))
 refine V (hK14 _ _ (D λ_ hK31=>A (zm O (zd hr h λhg32 h=>J (oN O O hg32) O (zm O (zd hr h λhg33 h=>J (oN O O hg33) O (zk hp hr h [] Tryz.call12 (jG n ((p0++([10]:ByS))++p1)) O (λ_=>rfl) λy34 h=>zm O (zx O (zx O (aJ 109 (hE _ O) O4 O ?_))))))))));refine aJ 110 (hE _ O) O4 O ?_;refine zs O (zs O (zQ hK31 (D λ_ hK35=>A (zf O (zl O (zf O (zl O (zf O (zl O (J (dT O O) O ?_))))))))));refine aJ 111 (hE _ O) O4 O ?_;refine zs O (zQ hK35 (D λ_ hK36=>ca (qV (j:=111) (off:=2) 27106 (sz:=11) (el:=53) (hE _ O) O O O3 O) ?_));refine mL [] ?_;refine bG [0,1,2,3,5,6,4,7,8,9] O (by kernel_rfl) (zD O (o O) O (zD O (bb O O O) O (zD O (o O) O (zD O (bb O O O) O (zD O (o O) O (zD O (fV [.any,.any,.pv (.sl (List.length y13.1.Decls) (aA.Cs y13.1.Decls)),.any] O O ⟨.inr O,.inr O,.inl O,.inr O,trivial⟩ O) O (zd hr h λhg37 h=>vl 176 O (bV O) ⟨kH.h,fg.h,aA.y,aA.bW,aA.ju,hE _ O,O,O,(.inl O),O3,hg37⟩ O O ⟨cW ⟨(by refine ⟨⟨_,O,?_⟩,trivial⟩;refine M.fN (And.intro (Or.inr O) (And.intro (Or.inr O) (And.intro (Or.inl O) (And.intro (Or.inr O) trivial))))),⟨trivial,⟨trivial,⟨trivial,⟨trivial,⟨trivial,trivial⟩⟩⟩⟩⟩⟩,?_⟩)))))));refine zd hr h λhg38 h=>vl 179 O (bV O) ⟨kH.h,fg.h,aA.y,aA.bW,aA.ju,hE _ O,O,O,(.inl O),O3,hg38⟩ O O ⟨aK O,?_⟩;refine zD O (o O) O (ck O O8 O (λe9 he=>⟨aK O,?_⟩));subst he;refine gV (la 179 27106 [(0,F p0),(1,F p1),(9,.ptr 109 0),(10,.ptr 110 0),(11,.ptr 111 0)] [(109,.box (kp y34.1)),(110,.box [I y34.2.Errno,I y34.2.At]),(111,.box [F y11.1.cb,.pv (.sl (List.length y11.1.bo) (bY.Cs y11.1.bo)),.arr 27106 (List.length (([]++y11.1.Decls)++y13.1.Decls)),.pv (.sl (List.length y13.1.bT) (cn y13.1.bT))])] (hE _ O) O O O2 ⟨⟨_,O,O,O⟩,⟨_,O,O,O⟩,⟨_,O,O,O⟩,⟨_,O,O,O⟩,⟨_,O,O,O⟩,trivial⟩ ⟨⟨_,O,O,O,O,O⟩,⟨_,O,O,O,O,O⟩,⟨_,O,O,O,O,O⟩,trivial⟩) ?_;refine hK36 _ _ (D λ_ hK39=>A (zf O (zl O (zc O (zm O (zb (y34.2.Errno==0) (λhb40=>?_) λhb40=>?_))))))
 ·refine z1 hb40 h λh=>zG hb40 O (kj O O O O) ?_;refine aX (w7 (j:=111) (off:=2) aA.y aA.bW O O O O O) ?_;refine zG hb40 O (kj O O O O) ?_;refine zK hb40 O hp hr h [] Tryz.call22 (ya n y34.1 (cu.mk y11.1.cb y11.1.bo (([]++y11.1.Decls)++y13.1.Decls) y13.1.bT)) O (λ_=>rfl) λy41 h=>zy hb40 O (zm O (zb y41 (λhb42=>?_) λhb42=>?_))
  ·exact z1 hb42 h λh=>zK hb42 O hp hr h [] Tryz.call11 (iY 64) O (λ_=>rfl) λy43 h=>zy hb42 O (za O (zQ hK39 (H (z O h O))))
  exact z2 hb42 h λh=>zg hb42 O (zw hb42 O (za O (zQ hK39 (H (z O h O)))))
 exact z2 hb40 h λh=>zH 3 O hb40 (zw hb40 O (zm O (zg O O (J (eX O O) O (za O (zQ hK39 (H (z O h O))))))))
end Go.Abs
end
section
namespace Go.Abs
open al
section
variable {n:Nat} {s t:ByS}
theorem BF {r:cu×dz} (h:dx n s=.ok r) (h0:r.2.Errno=0):∃ T F p z,gj n s=.ok (T,F)/\F.Errno=0/\cL n (cI s T 0 0 false none)=.ok (r.1,p)/\eo n r.1=.ok z/\z≠9:=by
 unfold dx at h;obtain ⟨y,e1,h⟩:=ke h;by_cases hy:y.2.Errno=0
 ·rw[show (y.2.Errno !=0)=false by simp[hy]] at h;have h:ko (al.bind (cL n (cI s y.1 0 0 false none)) λy12=>al.bind (eo n y12.1) λy15=>br (y15==9) (.ok (nF,dz.mk 9 0)) (.ok (y12.1,dz.mk 0 0))) (λp=>sC 86 p λv21=>al.bind (jB v21) λy22=>.ok (y22.1,y22.2))=.ok r:=h;cases hx:(al.bind (cL n (cI s y.1 0 0 false none)) λy12=>al.bind (eo n y12.1) λy15=>br (y15==9) (.ok (nF,dz.mk 9 0)) (.ok (y12.1,dz.mk 0 0))) with
  | stuck=>rw[hx] at h;cases h
  | kA p=>
   rw[hx] at h
   obtain ⟨v,_,h⟩:=mi (λq=>by cases q) (show (sC 86 p λv21=>al.bind (jB v21) λy22=>.ok (y22.1,y22.2))=.ok r from h)
   have h:al.ok (nF,dz.mk 8 v)=.ok r:=h
   cases h;cases h0
  | ok q=>
   rw[hx] at h
   have h:al.ok q=.ok r:=h
   cases h
   obtain ⟨f,e2,hx⟩:=ke hx
   obtain ⟨z,e3,hx⟩:=ke hx
   by_cases hz:z=9
   ·rw[show (z==9)=true by simp[hz]] at hx;have hx:al.ok (nF,dz.mk 9 0)=.ok r:=hx;cases hx;cases h0
   ·rw[show (z==9)=false by simp[hz]] at hx;have hx:al.ok (f.1,dz.mk 0 0)=.ok r:=hx;cases hx;exact ⟨y.1,y.2,f.2,z,e1,hy,e2,e3,hz⟩
 rw[show (y.2.Errno !=0)=true by simp[hy]] at h;have h:al.ok (nF,y.2)=.ok r:=h;cases h;exact absurd h0 hy
theorem F6 {T:List aB} {F:dz} {c:cu} {p:L} (h1:gj n s=.ok (T,F)) (h0:F.Errno=0) (h2:cL n (cI s T 0 0 false none)=.ok (c,p)) (h3:eo n c=.stuck\/∃ z,eo n c=.ok z/\z≠9) :
  dx n s=.stuck\/dx n s=.ok (c,dz.mk 0 0):=by
 unfold dx
 rw[h1]
 show al.br (F.Errno !=0) _ _=_\/al.br (F.Errno !=0) _ _=_
 rw[show (F.Errno !=0)=false by simp[h0]]
 show ko (al.bind (cL n (cI s T 0 0 false none)) _) _=_\/ko (al.bind (cL n (cI s T 0 0 false none)) _) _=_
 rw[h2]
 show ko (al.bind (eo n c) _) _=_\/ko (al.bind (eo n c) _) _=_
 rcases h3 with q|⟨z,q,hz⟩
 ·rw[q];exact .inl rfl
 ·rw[q]
  show ko (al.br (z==9) _ _) _=_\/ko (al.br (z==9) _ _) _=_
  rw[show (z==9)=false by simp[hz]]
  exact .inr rfl
theorem Cb (hs:s.length<=400) (ht:t.length<=400) (hTs:∀ T F,gj n s=.ok (T,F)->F.Errno=0->Fa s T) (hTt:∀ T F,gj n t=.ok (T,F)->F.Errno=0->Fa t T) {a b:cu×dz} (ha:dx n s=.ok a) (ha0:a.2.Errno=0) (haT:a.1.bT=[])
  (hb:dx n t=.ok b) (hb0:b.2.Errno=0) (hbP:b.1.cb=[]) (hbI:b.1.bo=[]) :
  dx n (s++10::t)=.stuck\/∃ c,dx n (s++10::t)=.ok c/\c.2.Errno=0/\FE (cu.mk a.1.cb a.1.bo (a.1.Decls++b.1.Decls) b.1.bT) c.1:=by
 obtain ⟨T,F,p,z,a1,a2,a3,a4,a5⟩:=BF ha ha0
 obtain ⟨T2,F2,p2,z2,b1,b2,b3,b4,b5⟩:=BF hb hb0
 have hT:=hTs T F a1 a2
 have hT2:=hTt T2 F2 b1 b2
 rcases Dx hs ht a1 a2 b1 b2 with q|⟨U,F',rfl,j1,j2⟩
 ·left
  unfold dx
  rw[q];rfl
 have hJ:JX s t U T2:=⟨⟨hT,Int.le_refl 0,by omega⟩,⟨hT2,Int.le_refl 0,by omega⟩,HJ _ b1 b2⟩
 have hF:=HQ hJ.x _ b3 hbP hbI
 rcases HR hJ hF _ a3 with q|q|⟨⟨c,p'⟩,q,g1,g2,g3,g4⟩
 ·exact absurd haT q
 ·left
  unfold dx
  rw[j1]
  show al.br (F'.Errno !=0) _ _=_
  rw[show (F'.Errno !=0)=false by simp[j2]]
  show ko (al.bind (cL n (eC (C1 s t U T2) 0 false none)) _) _=_
  rw[q];rfl
 ·dsimp only at g1 g2 g3 g4
  rcases F6 (c:=c) (p:=p') j1 j2 q (H0 a4 a5 b4 b5 haT hbP hbI g1 g2 g3 g4) with w|w
  ·exact .inl w
  ·exact .inr ⟨_,w,rfl,g1,g2,g3,g4⟩
theorem F7:iH 64=.ok true:=by kernel_rfl
theorem F8 (s:ByS):∃ N,∀ i,N<=i->∀ T F,gj i s=.ok (T,F)->F.Errno=0->Fa s T:=by
 obtain ⟨r,hr,N,hN⟩:=pZ di.id (s:=s);refine ⟨N,λi hi T F e h0=>?_⟩;have:=hN i hi;dsimp only at this;rw[e] at this;subst this;exact (hr.2.2 h0).2
theorem xK:Ev (λi=>kX i s t) (λr=>r=true) jm:=by
 unfold kX;have A:Ev (λ_:Nat=>al.bind (iH 64) λy=>.ok y) (λr=>r=true) jm:=Ev.pw F7 (Ev.ok rfl);refine Ev.aW (λ_=>A) (λhs=>Ev.aW (λ_=>A) (λht=>?_));obtain ⟨a,ha,N1,h1⟩:=(pa di.id (s:=s)).get;obtain ⟨b,hb,N2,h2⟩:=(pa di.id (s:=t)).get;have EA:Ev (λi=>dx i s) (λr=>r=a) jm:=⟨.ok a,rfl,N1,h1⟩;have EB:Ev (λi=>dx i t) (λr=>r=b) jm:=⟨.ok b,rfl,N2,h2⟩;refine Ev.aQ EA λr hr=>?_;rw[hr];refine Ev.aQ EB λr hr=>?_;rw[hr];refine Ev.bU (λ_=>A) (λe1=>Ev.bU (λ_=>A) (λe2=>Ev.aW (λ_=>A) (λhT=>Ev.bU (λ_=>A) (λhP=>Ev.aW (λ_=>A) (λhI=>?_)))));have fa:=(ha.2.2.1 e1).2;have fb:=(hb.2.2.1 e2).2;have ea:=fa.dl;have eb:=fb.dl;refine Ev.gA (Ev.gA ?_);obtain ⟨c,hc,N3,h3⟩:=(pa di.id (s:=s++10::t)).get;obtain ⟨N4,h4⟩:=F8 s;obtain ⟨N5,h5⟩:=F8 t;have hT:a.1.bT=[]:=List.eq_nil_of_length_eq_zero (by omega);have hI:b.1.bo=[]:=List.eq_nil_of_length_eq_zero (by omega);have key:c.2.Errno=0/\FE (cu.mk a.1.cb a.1.bo (a.1.Decls++b.1.Decls) b.1.bT) c.1:=by
  have g1:=h1 (N1+N2+N3+N4+N5) (by omega);have g2:=h2 (N1+N2+N3+N4+N5) (by omega);have g3:=h3 (N1+N2+N3+N4+N5) (by omega);rcases Cb (by omega) (by omega) (h4 _ (by omega)) (h5 _ (by omega)) g1 e1 hT g2 e2 hP hI with q|⟨c',q,q1,q2⟩
  ·rw[q] at g3;cases g3
  rw[q] at g3;cases g3;exact ⟨q1,q2⟩
 have EC:Ev (λi=>dx i ((s++[10])++t)) (λr=>r=c) jm:=⟨.ok c,rfl,N3,λi hi=>by
  have:=h3 i hi;rw[List.append_assoc];exact this⟩
 refine Ev.aQ EC λr hr=>?_;rw[hr];have fc:=(hc.2.2.1 key.1).2;have hl:=key.2.d.1;have ec:=fc.dl;dsimp only at hl;rw[List.length_append] at hl;refine Ev.gA (Ev.gA (Ev.bH (λ_=>Ev.aQ (F1 di.id (f:=cu.mk a.1.cb a.1.bo (a.1.Decls++b.1.Decls) b.1.bT) ⟨fa.im,by rw[List.length_append];omega,λd hd=>?_,fb.tl,fb.ts⟩ key.2) λy hy=>?_) (λq=>absurd key.1 q)))
 ·rcases List.mem_append.1 hd with q|q
  ·exact fa.ds d q
  exact fb.ds d q
 subst hy;exact Ev.de A
theorem uP (s t:ByS):∃ n,kX n s t=.ok true:=by
 obtain ⟨a,rfl,N,hN⟩:=(xK (s:=s) (t:=t)).get;exact ⟨N,hN N (Nat.le_refl _)⟩
end
end Go.Abs
end
