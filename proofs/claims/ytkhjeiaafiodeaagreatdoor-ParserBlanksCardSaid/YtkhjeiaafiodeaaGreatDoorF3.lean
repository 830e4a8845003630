/- PROVED: lemmas of a proof that ParserBlanks returns true. CONDITIONS: as each states. -/
import Derived.Test.YtkhjeiaafiodeaaGreatDoorF2
section
namespace Go.Abs
open Go.Proofs D
structure bB where
 cu:R->D (aQ×R)
 fV:R->D (aQ×R)
 cH:R->D (aQ×R)
 cm:(List aQ)->R->D ((List aQ)×R)
 fD:R->D (aQ×R)
 fE:R->D (aQ×R)
def gz (n:Nat) (T:bB) (p0:R):D (aQ×R):=
 D.bind (T.cH p0) λy3=>iter (λnext6 (v5:R×(List aQ))=>D.bind (cy v5.1) λy10=>br (y10.1==124) (gd (cr (y10.2.at_+1)) (D.bind (T.cH (R.mk y10.2.text (y10.2.at_+1))) λy14=>gd (k2 64 (List.length v5.2) (List.length [y14.1])) (next6 (y14.2,v5.2++[y14.1])))) (D.bind (lC 4 v5.2) λy17=>.ok (y17,y10.2))) n (y3.2,[y3.1])
def jz (n:Nat) (T:bB) (p0:R):D (aQ×R):=
 D.bind (cy p0) λy3=>jn (λ(v4:R)=>gd (cr (v4.at_+1)) (D.bind (ov n y3.1) λy10=>.ok (y10,(R.mk v4.text (v4.at_+1))))) λj5=>br (decide (y3.2.at_>=(List.length y3.2.text:Int))) (D.bind (dj (List.length y3.2.text:Int) y3.2) λy13=>j5 (y13)) (br (y3.1==40) (D.bind (T.fD y3.2) λy17=>.ok (y17.1,y17.2)) (br (y3.1==91) (D.bind (kV n y3.2) λy21=>.ok (y21.1,y21.2)) (br (y3.1==46) (gd (cr (y3.2.at_+1)) (D.bind (gI n 0 255) λy27=>.ok ((aQ.mk 2 y27.x0 y27.x1 y27.x2 y27.x3 []),(R.mk y3.2.text (y3.2.at_+1))))) (br (y3.1==92) (gd (cr (y3.2.at_+1)) (br (decide ((y3.2.at_+1)<(List.length y3.2.text:Int))) (gd (cr (y3.2.at_+1)) (el y3.2.text (y3.2.at_+1) λb36=>D.bind (pd n (b36.toNat:Int)) λy40=>br y40.2 (gd (cr (y3.2.at_+2)) (.ok ((aQ.mk 2 y40.1.x0 y40.1.x1 y40.1.x2 y40.1.x3 []),(R.mk y3.2.text (y3.2.at_+2))))) (D.bind (gw n 0 y3.2) λy47=>D.bind (ov n y47.1) λy48=>.ok (y48,y47.2)))) (D.bind (gw n 0 y3.2) λy50=>D.bind (ov n y50.1) λy51=>.ok (y51,y50.2)))) (jn (λ(v52:Bool)=>br v52 (D.bind (dj y3.2.at_ y3.2) λy56=>j5 (y56)) (j5 (y3.2))) λj53=>br (decide (y3.1<32)) (j53 (true)) (br (decide (y3.1>126)) (j53 (true)) (D.bind (strings_IndexByte ([40,41,91,93,123,125,124,42,43,63,46,92]:ByS) y3.1) λy59=>j53 ((decide (y59>=0))))))))))
def gm (n:Nat) (T:bB) (p0:R):D (aQ×R):=
 D.bind (T.cm [] p0) λy5=>iter (λnext8 (v7:R×(List aQ))=>br (decide (v7.1.at_<(List.length v7.1.text:Int))) (D.bind (cy v7.1) λy13=>br (y13.1 !=124) (D.bind (cy y13.2) λy15=>br (y15.1 !=41) (D.bind (T.cm v7.2 y15.2) λy17=>next8 (y17.2,y17.1)) (D.bind (lC 3 v7.2) λy19=>.ok (y19,y15.2))) (D.bind (lC 3 v7.2) λy21=>.ok (y21,y13.2))) (D.bind (lC 3 v7.2) λy23=>.ok (y23,v7.1))) n (y5.2,y5.1)
def fQ (_:Nat) (T:bB) (p0:(List aQ)) (p1:R):D ((List aQ)×R):=
 D.bind (T.fE p1) λy1=>gd (k2 64 (List.length p0) (List.length [(aQ.mk 0 0 0 0 0 [])])) (.ok (p0++[y1.1],y1.2))
def jf (_:Nat) (T:bB) (p0:R):D (aQ×R):=
 gd (cr (p0.at_+1)) (D.bind (cy (R.mk p0.text (p0.at_+1))) λy6=>br (y6.1==41) (gd (cr (y6.2.at_+1)) (.ok ((aQ.mk 1 0 0 0 0 []),(R.mk y6.2.text (y6.2.at_+1))))) (D.bind (T.cu y6.2) λy12=>jn (λ(v13:R)=>gd (cr (v13.at_+1)) (.ok (y12.1,(R.mk v13.text (v13.at_+1))))) λj14=>D.bind (cy y12.2) λy20=>br (y20.1 !=41) (D.bind (dj y20.2.at_ y20.2) λy22=>j14 (y22)) (j14 (y20.2))))
def jg (n:Nat) (T:bB) (p0:R):D (aQ×R):=
 D.bind (T.fV p0) λy3=>iter (λnext5 (v4:R×aQ)=>jn (λ(v8:R×aQ)=>gd (cr (v8.1.at_+1)) (next5 ((R.mk v8.1.text (v8.1.at_+1)),v8.2))) λj9=>D.bind (cy v4.1) λy13=>br (y13.1==42) (j9 (y13.2,(aQ.mk 5 0 0 0 0 [v4.2]))) (br (y13.1==43) (j9 (y13.2,(aQ.mk 3 0 0 0 0 [v4.2,(aQ.mk 5 0 0 0 0 [v4.2])]))) (br (y13.1==63) (j9 (y13.2,(aQ.mk 4 0 0 0 0 [v4.2,(aQ.mk 1 0 0 0 0 [])]))) (.ok (v4.2,y13.2))))) n (y3.2,y3.1)
def aW:Nat->bB
 | 0=>⟨λ_=>.stuck,λ_=>.stuck,λ_=>.stuck,λ_ _=>.stuck,λ_=>.stuck,λ_=>.stuck⟩
 | n+1=>⟨gz n (aW n),jz n (aW n),gm n (aW n),fQ n (aW n),jf n (aW n),jg n (aW n)⟩
def cu (n:Nat) (p0:R):D (aQ×R):=(aW n).cu p0
def fV (n:Nat) (p0:R):D (aQ×R):=(aW n).fV p0
def cH (n:Nat) (p0:R):D (aQ×R):=(aW n).cH p0
def cm (n:Nat) (p0:(List aQ)) (p1:R):D ((List aQ)×R):=(aW n).cm p0 p1
def fD (n:Nat) (p0:R):D (aQ×R):=(aW n).fD p0
def fE (n:Nat) (p0:R):D (aQ×R):=(aW n).fE p0
structure cZ (T:bB):Prop where
 cu:∀ (p0:R),CT Tryz.prog 206 [.ptr 0 0] [.box (aL p0)] (T.cu p0) (λx=>.agg (eI x.1)) (λx=>[.box (aL x.2)])
 fV:∀ (p0:R),CT Tryz.prog 275 [.ptr 0 0] [.box (aL p0)] (T.fV p0) (λx=>.agg (eI x.1)) (λx=>[.box (aL x.2)])
 cH:∀ (p0:R),CT Tryz.prog 238 [.ptr 0 0] [.box (aL p0)] (T.cH p0) (λx=>.agg (eI x.1)) (λx=>[.box (aL x.2)])
 cm:∀ (p0:(List aQ)) (p1:R),CT Tryz.prog 262 [.ptr 0 0,.ptr 1 0] [.box [.arr 2 (List.length p0)],.box [.ptr 3 0],.arr 137 6 (aQ.Cs p0),.box (aL p1)] (T.cm p0 p1) (λ_=>.fZ []) (λx=>[.box [.arr 2 (List.length x.1)],.box [.ptr 3 0],.arr 137 6 (aQ.Cs x.1),.box (aL x.2)])
 fD:∀ (p0:R),CT Tryz.prog 290 [.ptr 0 0] [.box (aL p0)] (T.fD p0) (λx=>.agg (eI x.1)) (λx=>[.box (aL x.2)])
 fE:∀ (p0:R),CT Tryz.prog 263 [.ptr 0 0] [.box (aL p0)] (T.fE p0) (λx=>.agg (eI x.1)) (λx=>[.box (aL x.2)])
theorem nE (n:Nat) (T:bB) (hT:cZ T) (p0:R):CT Tryz.prog 206 [.ptr 0 0] [.box (aL p0)] (gz n T p0) (λx=>.agg (eI x.1)) (λx=>[.box (aL x.2)]):=by
 refine zC Tryz.func206 O λr hp h hr E hE=>A λ_ hK1=>B (aH 102 (hE _ O) O4 O ?_);refine zQ hK1 (A λ_ hK2=>B (zm O (zk hp hr h [0] Tryz.call238 (hT.cH p0) O (λ_=>rfl) λy3 h=>HQ 106 [y3.1] aQ.Q aQ.q (hE _ O) O4 O3 O ?_)));refine za O (aY (iT 106 10003 [(0,.ptr 0 0),(2,.ptr 102 0),(3,.arr 10003 (List.length [y3.1]))] [(0,.box (aL y3.2)),(102,.box [I 0,Sc (.int .u64 0),Sc (.int .u64 0),Sc (.int .u64 0),Sc (.int .u64 0),nSl])] (hE _ O) O O O2 ⟨⟨_,O,O,O⟩,⟨_,O,O,O⟩,⟨_,O,O,O⟩,trivial⟩ ⟨⟨_,O,O,O,O,O⟩,⟨_,O,O,O,O,O⟩,trivial⟩) ?_);refine zQ hK2 (A λ_ hK4=>u (zL hr h (λ(v5:R×(List aQ))=>[(0,.ptr 0 0),(2,.ptr 102 0),(3,.arr 10003 (List.length v5.2))]) (λ(v5:R×(List aQ))=>[(0,.box (aL v5.1)),(102,.box [I 0,Sc (.int .u64 0),Sc (.int .u64 0),Sc (.int .u64 0),Sc (.int .u64 0),nSl]),(10003,.app 137 6 (aQ.Cs v5.2))]) O λ_ v5 _ hK7 h=>A λ_ hK8=>A λ_ hK9=>B (zm O (zk hp hr h [0] Tryz.call239 (cN v5.1) O (λ_=>rfl) λy10 h=>zc O (zQ hK9 (zB O h (λ_ h=>?_) λ_ h=>?_))))))
 ·refine V (hK8 _ _ (u (A λ_ hK12=>B (zm O (zn O (zf O (zl O (zd hr h λhg13 h=>zo hg13 O (zn O (zf O (zs O (zQ hK12 (B (zm O (zm O (zk hp hr h [0] Tryz.call238 (hT.cH (R.mk y10.2.text (y10.2.at_+1))) O (λ_=>rfl) λy14 h=>bN [y14.1] aQ.Q O2 O ?_))))))))))))))));refine zd hr h λhg15 h=>jo 121 ⟨jD.h,dH.h,aQ.Q,aQ.q,aQ.iu,hE _ O,O,O,(.inl O),O3,hg15⟩ O ?_;refine za O (aY (iT 121 10003 [(0,.ptr 0 0),(2,.ptr 102 0),(3,.arr 10003 (List.length (v5.2++[y14.1])))] [(0,.box (aL y14.2)),(102,.box [I 0,Sc (.int .u64 0),Sc (.int .u64 0),Sc (.int .u64 0),Sc (.int .u64 0),nSl])] (hE _ O) O O O2 ⟨⟨_,O,O,O⟩,⟨_,O,O,O⟩,⟨_,O,O,O⟩,trivial⟩ ⟨⟨_,O,O,O,O,O⟩,⟨_,O,O,O,O,O⟩,trivial⟩) ?_);exact W (hK7 _ _ _ h O)
 refine aS (hK4 _ _ (A λ_ hK16=>B (J (kD aQ.Q aQ.q O O O) O ?_)));exact zk hp hr h [] Tryz.call240 (nW 4 v5.2) O (λ_=>rfl) λy17 h=>zs O (zQ hK16 (L (zX (.cons (aT O O O) .nil) h O)))
theorem sC (n:Nat) (T:bB) (hT:cZ T) (p0:R):CT Tryz.prog 275 [.ptr 0 0] [.box (aL p0)] (jz n T p0) (λx=>.agg (eI x.1)) (λx=>[.box (aL x.2)]):=by
 refine zC Tryz.func275 O λr hp h hr E hE=>?_;refine A λ_ hK1=>?_;refine B ?_;refine aH 102 (hE _ O) O4 O ?_;refine zQ hK1 ?_;refine A λ_ hK2=>?_;refine B ?_;refine zm O ?_;refine zk hp hr h [0] Tryz.call239 (cN p0) O (λ_=>rfl) λy3 h=>?_;refine za O ?_;refine zQ hK2 ?_;refine zM h (λ(v4:R)=>[(0,.ptr 0 0),(2,.ptr 102 0),(3,Sc (.int .u8 y3.1))]) (λ(v4:R)=>[(0,.box (aL v4)),(102,.box [I 0,Sc (.int .u64 0),Sc (.int .u64 0),Sc (.int .u64 0),Sc (.int .u64 0),nSl])]) (λv4 h=>?_) λ_ _ hK6 h=>?_
 ·refine A λ_ hK7=>?_;refine B ?_;refine zm O ?_;refine zn O ?_;refine zf O ?_;refine zl O ?_;refine zd hr h λhg8 h=>?_;refine zo hg8 O ?_;refine zn O ?_;refine zf O ?_;refine zs O ?_;refine zQ hK7 ?_;refine A λ_ hK9=>?_;refine B ?_;refine zm O ?_;refine zk hp hr h [] Tryz.call294 (sB n y3.1) O (λ_=>rfl) λy10 h=>?_;refine zs O ?_;refine zQ hK9 ?_;refine L ?_;exact zX (.cons (aT O O O) .nil) h O
 refine u ?_;refine A λ_ hK11=>?_;refine bu [0,1,2,3,4,5,6,7,8,9,10] O (by kernel_rfl) ?_;refine zD O (N O) O ?_;refine zD O (c7 O) O ?_;refine zD O (bF O) O ?_;refine zD O (bj O O O) O ?_;refine zD O (N O) O ?_;refine zD O (c7 O) O ?_;refine zD O (bF O) O ?_;refine zD O (bj O O O) O ?_;refine zD O (bJ O) O ?_;refine zD O (aX O O O) O ?_;refine eM O O O (y O) O ?_;refine ct ?_;refine hK11 _ _ ?_;refine zB O h (λ_ h=>?_) λ_ h=>?_
 ·refine B ?_;refine zm O ?_;refine zm O ?_;refine zn O ?_;refine zf O ?_;refine zl O ?_;refine J (bJ O) O ?_;refine zk hp hr h [0] Tryz.call207 (dP (List.length y3.2.text:Int) y3.2) O (λ_=>rfl) λy13 h=>?_;refine W ?_;exact hK6 _ _ _ h O
 refine A λ_ hK14=>?_;refine B ?_;refine zm O ?_;refine zc O ?_;refine za O ?_;refine zQ hK14 ?_;refine zB O h (λ_ h=>?_) λ_ h=>?_
 ·refine A λ_ hK16=>?_;refine B ?_;refine zm O ?_;refine zk hp hr h [0] Tryz.call290 (hT.fD y3.2) O (λ_=>rfl) λy17 h=>?_;refine zs O ?_;refine zQ hK16 ?_;refine L ?_;exact zX (.cons (aT O O O) .nil) h O
 refine A λ_ hK18=>?_;refine B ?_;refine zm O ?_;refine zc O ?_;refine za O ?_;refine zQ hK18 ?_;refine zB O h (λ_ h=>?_) λ_ h=>?_
 ·refine A λ_ hK20=>?_;refine B ?_;refine zm O ?_;refine zk hp hr h [0] Tryz.call291 (tM n y3.2) O (λ_=>rfl) λy21 h=>?_;refine zs O ?_;refine zQ hK20 ?_;refine L ?_;exact zX (.cons (aT O O O) .nil) h O
 refine A λ_ hK22=>?_;refine B ?_;refine zm O ?_;refine zc O ?_;refine za O ?_;refine zQ hK22 ?_;refine zB O h (λ_ h=>?_) λ_ h=>?_
 ·refine A λ_ hK24=>?_;refine B ?_;refine zm O ?_;refine zn O ?_;refine zf O ?_;refine zl O ?_;refine zd hr h λhg25 h=>?_;refine zo hg25 O ?_;refine zn O ?_;refine zf O ?_;refine zs O ?_;refine zQ hK24 ?_;refine A λ_ hK26=>?_;refine B ?_;refine zk hp hr h [] Tryz.call292 (gJ n 0 255) O (λ_=>rfl) λy27 h=>?_;refine J (dA O O) O ?_;refine zs O ?_;refine zQ hK26 ?_;refine bK (jP 102 O O) ?_;refine L ?_;exact zX (.cons (aT O O O) .nil) h O
 refine A λ_ hK28=>?_;refine B ?_;refine zm O ?_;refine zc O ?_;refine za O ?_;refine zQ hK28 ?_;refine zB O h (λ_ h=>?_) λ_ h=>?_
 ·refine A λ_ hK30=>?_;refine A λ_ hK31=>?_;refine bu [0,1,2,3,4,5,6,7,8,9,10] O (by kernel_rfl) ?_;refine zD O (N O) O ?_;refine zD O (c7 O) O ?_;refine zD O (bF O) O ?_;refine zD O (bj O O O) O ?_;refine zd hr h λhg32 h=>?_;refine zD O (gV O O hg32) O ?_;refine zD O (N O) O ?_;refine zD O (c7 O) O ?_;refine zD O (bF O) O ?_;refine zD O (bj O O O) O ?_;refine zD O (bJ O) O ?_;refine zD O (aX O O O) O ?_;refine ct ?_;refine hK31 _ _ ?_;refine zB O h (λ_ h=>?_) λ_ h=>?_
  ·refine A λ_ hK34=>?_;refine bu [0,1,2,3,4,5,6,7,8,9,14,10,11,12,13,15,16] O (by kernel_rfl) ?_;refine zD O (N O) O ?_;refine zD O (c7 O) O ?_;refine zD O (bF O) O ?_;refine zD O (bj O O O) O ?_;refine zD O (N O) O ?_;refine zD O (c7 O) O ?_;refine zD O (bF O) O ?_;refine zD O (bj O O O) O ?_;refine zd hr h λhg35 h=>?_;refine zD O (gV O O hg35) O ?_;refine ze hr h λb36 h37 h38 h39 h=>?_;refine zD O (bY O O h37 h39) O ?_;refine uc O (bQ O) 104 (hE _ O) O5 O4 ?_;refine dG O (bQ O) hr h [] Tryz.call293 (xK n (b36.toNat:Int)) ⟨O,O,O,O,O,O,trivial⟩ O O (λ_=>O3) (λ_=>O2) hp (λy40 h=>⟨y O,?_⟩);refine zD O (N O) O ?_;refine zD O (pV O O) O ?_;refine zD O (pV O O) O ?_;refine sW O O8 O (λe15 he=>⟨y O,?_⟩);subst he;refine tI O O O (y O) O ?_;refine ct ?_;refine hK34 _ _ ?_;refine A λ_ hK41=>?_;refine B ?_;refine zm O ?_;refine zQ hK41 ?_;refine zB O h (λ_ h=>?_) λ_ h=>?_
   ·refine A λ_ hK43=>?_;refine B ?_;refine zm O ?_;refine zn O ?_;refine zf O ?_;refine zl O ?_;refine zd hr h λhg44 h=>?_;refine zo hg44 O ?_;refine zn O ?_;refine zf O ?_;refine zs O ?_;refine zQ hK43 ?_;refine A λ_ hK45=>?_;refine B ?_;refine zA O ?_;refine J (dA O O) O ?_;refine zs O ?_;refine zQ hK45 ?_;refine bK (jP 102 O O) ?_;refine L ?_;exact zX (.cons (aT O O O) .nil) h O
   refine V ?_;refine hK30 _ _ ?_;refine A λ_ hK46=>?_;refine B ?_;refine zm O ?_;refine zk hp hr h [0] Tryz.call295 (ke n 0 y3.2) O (λ_=>rfl) λy47 h=>?_;refine zk hp hr h [] Tryz.call294 (sB n y47.1) O (λ_=>rfl) λy48 h=>?_;refine zs O ?_;refine zQ hK46 ?_;refine L ?_;exact zX (.cons (aT O O O) .nil) h O
  refine V ?_;refine hK30 _ _ ?_;refine A λ_ hK49=>?_;refine B ?_;refine zm O ?_;refine zk hp hr h [0] Tryz.call295 (ke n 0 y3.2) O (λ_=>rfl) λy50 h=>?_;refine zk hp hr h [] Tryz.call294 (sB n y50.1) O (λ_=>rfl) λy51 h=>?_;refine zs O ?_;refine zQ hK49 ?_;refine L ?_;exact zX (.cons (aT O O O) .nil) h O
 refine zM h (λ(v52:Bool)=>[(0,.ptr 0 0),(2,.ptr 102 0),(3,Sc (.int .u8 y3.1)),(89,Bo v52)]) (λ(v52:Bool)=>[(0,.box (aL y3.2)),(102,.box [I 0,Sc (.int .u64 0),Sc (.int .u64 0),Sc (.int .u64 0),Sc (.int .u64 0),nSl])]) (λv52 h=>?_) λ_ _ hK54 h=>?_
 ·refine zB O h (λ_ h=>?_) λ_ h=>?_
  ·refine B ?_;refine zm O ?_;refine zm O ?_;refine zn O ?_;refine zf O ?_;refine zl O ?_;refine zk hp hr h [0] Tryz.call207 (dP y3.2.at_ y3.2) O (λ_=>rfl) λy56 h=>?_;refine W ?_;exact hK6 _ _ _ h O
  refine V ?_;exact hK6 _ _ _ h O
 refine B ?_;refine zm O ?_;refine zc O ?_;refine zm O ?_;refine zb (decide (y3.1<32)) (λhb57=>?_) λhb57=>?_
 ·refine z1 hb57 h λh=>?_;refine zg hb57 O ?_;refine zg hb57 O ?_;refine zy hb57 O ?_;refine zm O ?_;refine zg O O ?_;refine zg O O ?_;refine zg O O ?_;refine zt O ?_;refine za O ?_;refine W ?_;exact hK54 _ _ _ h O
 refine z2 hb57 h λh=>?_;refine zG hb57 O (N O) ?_;refine zG hb57 O (aX O O O) ?_;refine zw hb57 O ?_;refine zm O ?_;refine zb (decide (y3.1>126)) (λhb58=>?_) λhb58=>?_
 ·refine z1 hb58 h λh=>?_;refine zg hb58 O ?_;refine zg hb58 O ?_;refine zg hb58 O ?_;refine zy hb58 O ?_;refine za O ?_;refine W ?_;exact hK54 _ _ _ h O
 refine z2 hb58 h λh=>?_;refine zG hb58 O (N O) ?_;refine zK hb58 O hp hr h [] Tryz.call296 (k3 ([40,41,91,93,123,125,124,42,43,63,46,92]:ByS) y3.1) O (λ_=>rfl) λy59 h=>?_;refine zG hb58 O (aX O O O) ?_;refine zw hb58 O ?_;refine za O ?_;refine W ?_;exact hK54 _ _ _ h O
theorem nb (n:Nat) (T:bB) (hT:cZ T) (p0:R):CT Tryz.prog 238 [.ptr 0 0] [.box (aL p0)] (gm n T p0) (λx=>.agg (eI x.1)) (λx=>[.box (aL x.2)]):=by
 refine zC Tryz.func238 O λr hp h hr E hE=>A λ_ hK1=>B (dN 101 (hE _ O) O7 O ?_);refine aH 102 (hE _ O) O4 O ?_;refine zQ hK1 (A λ_ hK2=>B (aH 103 (hE _ O) O4 O ?_));refine zQ hK2 (A λ_ hK3=>B (J (qb O O) O ?_));refine za O (zQ hK3 (A λ_ hK4=>B (zm O (aY (sq (j:=103) (off:=0) 26592 (sz:=6) (el:=137) (hE _ O) O O O3 O O) ?_))));refine jF hr h [103,101,26592,0] Tryz.call262 (hT.cm [] p0) ⟨O,O,O,O,O,O,⟨hE _ O,trivial⟩⟩ O (λ_=>O3) (λ_=>O2) hp (λy5 h=>?_);refine zQ hK4 (A λ_ hK6=>u (zL hr h (λ(v7:R×(List aQ))=>[(0,.ptr 0 0),(1,.ptr 101 0),(2,.ptr 102 0),(3,.ptr 103 0),(4,.fn 262 [] [.ptr 103 0,.ptr 101 0])]) (λ(v7:R×(List aQ))=>[(0,.box (aL v7.1)),(101,.box [.ptr 0 0]),(102,.box [I 0,Sc (.int .u64 0),Sc (.int .u64 0),Sc (.int .u64 0),Sc (.int .u64 0),nSl]),(103,.box [.arr 26592 (List.length v7.2)]),(26592,.arr 137 6 (aQ.Cs v7.2))]) O λ_ v7 _ hK9 h=>A λ_ hK10=>A λ_ hK11=>bu [0,1,2,3,4,5,6,7,8,9,10,11,12,13,14,15,16,17,18,19] O (by kernel_rfl) (zD O (bj O O O) O (zD O (c7 O) O (zD O (bF O) O (zD O (bj O O O) O (zD O (bj O O O) O (zD O (c7 O) O (zD O (bF O) O (zD O (bj O O O) O (zD O (bJ O) O (zD O (aX O O O) O (zD O (N O) O (zb (decide (v7.1.at_<(List.length v7.1.text:Int))) (λhb12=>?_) λhb12=>?_))))))))))))))
 ·refine z1 hb12 h λh=>cK hb12 O O2 (bj O O O) O3 ?_;refine dG O (AU hb12 O O2) hr h [0] Tryz.call239 (cN v7.1) ⟨O,O,O,O,O,O,trivial⟩ O O (λ_=>O3) (λ_=>O2) hp (λy13 h=>⟨y O,?_⟩);refine cK hb12 O O2 (aX O O O) O3 ?_;refine zD O (cY hb12 O O) O (zD O (N O) O (zb (y13.1 !=124) (λhb14=>?_) λhb14=>?_))
  ·refine z1 hb14 h λh=>cK hb14 O O2 (bj O O O) O3 ?_;refine dG O (AU hb14 O O2) hr h [0] Tryz.call239 (cN y13.2) ⟨O,O,O,O,O,O,trivial⟩ O O (λ_=>O3) (λ_=>O2) hp (λy15 h=>⟨y O,?_⟩);refine cK hb14 O O2 (aX O O O) O3 ?_;refine zD O (cY hb14 O O) O (ct (hK11 _ _ (zB O h (λ_ h=>?_) λ_ h=>?_)))
   ·refine V (hK10 _ _ (u (B (zm O (jF hr h [103,101,26592,0] Tryz.call262 (hT.cm v7.2 y15.2) ⟨O,O,O,O,O,O,⟨hE _ O,trivial⟩⟩ O (λ_=>O3) (λ_=>O2) hp (λy17 h=>?_))))));exact W (hK9 _ _ _ h O)
   refine aS (hK6 _ _ (A λ_ hK18=>B (aY (qI (j:=103) (off:=0) aQ.Q aQ.q O O O O (hE _ O) O) ?_)));exact zl O (zk hp hr h [] Tryz.call240 (nW 3 v7.2) O (λ_=>rfl) λy19 h=>zs O (zQ hK18 (L (zX (.cons (aT O O O) .nil) h O))))
  refine z2 hb14 h λh=>cI hb14 O O2 O2 ?_;refine uO hb14 O O2 O2 ?_;refine cI hb14 O O2 O2 ?_;refine zD O (cU hb14 O O) O (ct (hK11 _ _ (cb O (λhc=>?_) (λhc=>?_))))
  ·exact absurd (hc) (by simp)
  refine aS (hK6 _ _ (A λ_ hK20=>B (aY (qI (j:=103) (off:=0) aQ.Q aQ.q O O O O (hE _ O) O) ?_)));exact zl O (zk hp hr h [] Tryz.call240 (nW 3 v7.2) O (λ_=>rfl) λy21 h=>zs O (zQ hK20 (L (zX (.cons (aT O O O) .nil) h O))))
 refine z2 hb12 h λh=>cI hb12 O O2 O2 ?_;refine uO hb12 O O2 O2 ?_;refine cI hb12 O O2 O2 ?_;refine zD O (cU hb12 O O) O (zD O (N O) O (cI O O O2 O2 ?_));refine uO O O O2 O2 ?_;refine cI O O O2 O2 ?_;refine zD O (de O O) O (ct (hK11 _ _ (cb O (λhc=>?_) (λhc=>?_))))
 ·exact absurd (hc) (by simp)
 refine aS (hK6 _ _ (A λ_ hK22=>B (aY (qI (j:=103) (off:=0) aQ.Q aQ.q O O O O (hE _ O) O) ?_)));exact zl O (zk hp hr h [] Tryz.call240 (nW 3 v7.2) O (λ_=>rfl) λy23 h=>zs O (zQ hK22 (L (zX (.cons (aT O O O) .nil) h O))))
theorem ml (n:Nat) (T:bB) (hT:cZ T) (p0:(List aQ)) (p1:R):CT Tryz.prog 262 [.ptr 0 0,.ptr 1 0] [.box [.arr 2 (List.length p0)],.box [.ptr 3 0],.arr 137 6 (aQ.Cs p0),.box (aL p1)] (fQ n T p0 p1) (λ_=>.fZ []) (λx=>[.box [.arr 2 (List.length x.1)],.box [.ptr 3 0],.arr 137 6 (aQ.Cs x.1),.box (aL x.2)]):=by
 refine zC Tryz.func262 O λr hp h hr E hE=>mW [] ?_;refine p7 [0,1,3,4,2,5,6] 7 8 O (by kernel_rfl) ?_;refine zD O (fh [.arr 2 (List.length p0)] O O ⟨.inl O,trivial⟩ O) O (zD O (bj O O O) O (zD O (mT O) O (uS [(aQ.mk 0 0 0 0 0 [])] aQ.Q O (bQ O) O3 O2 ?_)));refine dG O (bQ O) hr h [3] Tryz.call263 (hT.fE p1) ⟨O,O,O,O,O,O,trivial⟩ O O (λ_=>O3) (λ_=>O2) hp (λy1 h=>⟨cF ⟨trivial,⟨trivial,⟨trivial,⟨⟨⟨_,O,M.fc ⟨.inl O,trivial⟩⟩,trivial⟩,trivial⟩⟩⟩⟩,?_⟩);refine zd hr h λhg2 h=>nV 107 O (bQ O) ⟨jD.h,dH.h,aQ.Q,aQ.q,aQ.iu,hE _ O,O,O,(.inl O),O3,hg2⟩ O O ⟨y O,?_⟩;refine zD O (mR O O (Int.natCast_nonneg _) (sZ _ _)) O (s3 ?_ ?_)
 ·refine nA p0 O (⟨aQ.Q,aQ.q,Int.natCast_nonneg _,kl _ _,O,O,O,O,O,mr.h,O,O,O⟩:xF _ _ _ _ _ _ _ _ _ 0 _ _ _ _ _ _ y1.1 _ (aQ.C y1.1)) O ⟨y O,?_⟩;refine bV O O8 O (λe8 he=>⟨y O,?_⟩);subst he;refine gG (eH.trans (nB 0 0 (m':=List.length (p0++[y1.1])) O O (by simp) O) (jG 107 2 [(0,.ptr 0 0),(1,.ptr 1 0)] [(0,.box [.arr 2 (List.length (p0++[y1.1]))]),(1,.box [.ptr 3 0]),(3,.box (aL y1.2))] (hE _ O) O O O2 ⟨⟨_,O,O,O⟩,⟨_,O,O,O⟩,trivial⟩ ⟨⟨_,O,O,O,O,O⟩,⟨_,O,O,O,O,O⟩,⟨_,O,O,O,O,O⟩,trivial⟩)) ?_;exact zY .nil h O
 refine bV O O8 O (λe7 he=>⟨y O,?_⟩);subst he;refine nA p0 O (⟨aQ.Q,aQ.q,Int.natCast_nonneg _,kl _ _,O,O,O,O,O,mr.h,O,O,O⟩:xF _ _ _ _ _ _ _ _ _ 0 _ _ _ _ _ _ y1.1 _ (aQ.C y1.1)) O ⟨y O,?_⟩;refine gG (eH.trans (nB 0 0 (m':=List.length (p0++[y1.1])) O O (by simp) O) (jG 107 2 [(0,.ptr 0 0),(1,.ptr 1 0)] [(0,.box [.arr 2 (List.length (p0++[y1.1]))]),(1,.box [.ptr 3 0]),(3,.box (aL y1.2))] (hE _ O) O O O2 ⟨⟨_,O,O,O⟩,⟨_,O,O,O⟩,trivial⟩ ⟨⟨_,O,O,O,O,O⟩,⟨_,O,O,O,O,O⟩,⟨_,O,O,O,O,O⟩,trivial⟩)) ?_;exact zY .nil h O
theorem rL (n:Nat) (T:bB) (hT:cZ T) (p0:R):CT Tryz.prog 290 [.ptr 0 0] [.box (aL p0)] (jf n T p0) (λx=>.agg (eI x.1)) (λx=>[.box (aL x.2)]):=by
 refine zC Tryz.func290 O λr hp h hr E hE=>A λ_ hK1=>B (aH 102 (hE _ O) O4 O ?_);refine zQ hK1 (A λ_ hK2=>B (zm O (zn O (zf O (zl O (zd hr h λhg3 h=>zo hg3 O (zn O (zf O (zs O (zQ hK2 (A λ_ hK4=>A λ_ hK5=>B (zm O (zk hp hr h [0] Tryz.call239 (cN (R.mk p0.text (p0.at_+1))) O (λ_=>rfl) λy6 h=>zc O (zQ hK5 (zB O h (λ_ h=>?_) λ_ h=>?_)))))))))))))))
 ·refine A λ_ hK8=>B (zm O (zn O (zf O (zl O (zd hr h λhg9 h=>zo hg9 O (zn O (zf O (zs O (zQ hK8 (A λ_ hK10=>B (J (dA O O) O ?_)))))))))));refine zs O (zQ hK10 (bK (jP 102 O O) ?_));exact L (zX (.cons (aT O O O) .nil) h O)
 refine V (hK4 _ _ (A λ_ hK11=>B (zm O (zk hp hr h [0] Tryz.call206 (hT.cu y6.2) O (λ_=>rfl) λy12 h=>aH 103 (hE _ O) O4 O ?_))));refine zs O (zQ hK11 (zM h (λ(v13:R)=>[(0,.ptr 0 0),(2,.ptr 102 0),(3,.ptr 103 0)]) (λ(v13:R)=>[(0,.box (aL v13)),(102,.box [I 0,Sc (.int .u64 0),Sc (.int .u64 0),Sc (.int .u64 0),Sc (.int .u64 0),nSl]),(103,.box (eI y12.1))]) (λv13 h=>?_) λ_ _ hK15 h=>?_))
 ·refine A λ_ hK16=>B (zm O (zn O (zf O (zl O (zd hr h λhg17 h=>zo hg17 O (zn O (zf O (zs O (zQ hK16 (A λ_ hK18=>B (zA O ?_)))))))))));exact zs O (zQ hK18 (L (zX (.cons (aT O O O) .nil) h O)))
 refine A λ_ hK19=>B (zm O (zk hp hr h [0] Tryz.call239 (cN y12.2) O (λ_=>rfl) λy20 h=>zc O (zQ hK19 (zB O h (λ_ h=>?_) λ_ h=>?_))))
 ·exact B (zm O (zm O (zn O (zf O (zl O (zk hp hr h [0] Tryz.call207 (dP y20.2.at_ y20.2) O (λ_=>rfl) λy22 h=>W (hK15 _ _ _ h O)))))))
 exact V (hK15 _ _ _ h O)
theorem rM (n:Nat) (T:bB) (hT:cZ T) (p0:R):CT Tryz.prog 263 [.ptr 0 0] [.box (aL p0)] (jg n T p0) (λx=>.agg (eI x.1)) (λx=>[.box (aL x.2)]):=by
 refine zC Tryz.func263 O λr hp h hr E hE=>A λ_ hK1=>B (aH 102 (hE _ O) O4 O ?_);refine zQ hK1 (A λ_ hK2=>B (zm O (zk hp hr h [0] Tryz.call275 (hT.fV p0) O (λ_=>rfl) λy3 h=>aH 103 (hE _ O) O4 O ?_)));refine zs O (zQ hK2 (u (zL hr h (λ(v4:R×aQ)=>[(0,.ptr 0 0),(2,.ptr 102 0),(3,.ptr 103 0)]) (λ(v4:R×aQ)=>[(0,.box (aL v4.1)),(102,.box [I 0,Sc (.int .u64 0),Sc (.int .u64 0),Sc (.int .u64 0),Sc (.int .u64 0),nSl]),(103,.box (eI v4.2))]) O λ_ v4 _ hK6 h=>u (A λ_ hK7=>B (zA O ?_)))));refine bN [v4.2] aQ.Q O2 O ?_;refine J (bd O O O) O ?_;refine aH 104 (hE _ O) O4 O ?_;refine zs O (zQ hK7 (zM h (λ(v8:R×aQ)=>[(0,.ptr 0 0),(2,.ptr 102 0),(3,.ptr 103 0)]) (λ(v8:R×aQ)=>[(0,.box (aL v8.1)),(102,.box [I 0,Sc (.int .u64 0),Sc (.int .u64 0),Sc (.int .u64 0),Sc (.int .u64 0),nSl]),(103,.box (eI v8.2))]) (λv8 h=>?_) λ_ _ hK10 h=>?_))
 ·exact B (zm O (zn O (zf O (zl O (zd hr h λhg11 h=>zo hg11 O (zn O (zf O (zs O (W (hK6 _ _ _ h O))))))))))
 refine A λ_ hK12=>B (zm O (zk hp hr h [0] Tryz.call239 (cN v4.1) O (λ_=>rfl) λy13 h=>zQ hK12 (u (A λ_ hK14=>B (zc O (za O (zQ hK14 (zB O h (λ_ h=>?_) λ_ h=>?_))))))))
 ·refine B (zA O ?_);exact zs O (W (hK10 _ _ _ h O))
 refine A λ_ hK16=>B (zc O (za O (zQ hK16 (zB O h (λ_ h=>?_) λ_ h=>?_))))
 ·refine B (zA O ?_);refine zA O ?_;refine bN [v4.2,(aQ.mk 5 0 0 0 0 [v4.2])] aQ.Q O2 O ?_;refine J (bd O O O) O ?_;exact zs O (W (hK10 _ _ _ h O))
 refine A λ_ hK18=>B (zc O (za O (zQ hK18 (zB O h (λ_ h=>?_) λ_ h=>?_))))
 ·refine B (zA O ?_);refine J (bd O O O) O ?_;refine bN [v4.2,(aQ.mk 1 0 0 0 0 [])] aQ.Q O2 O ?_;refine J (bd O O O) O ?_;exact zs O (W (hK10 _ _ _ h O))
 refine A λ_ hK20=>B (zA O ?_);exact zs O (zQ hK20 (L (zX (.cons (aT O O O) .nil) h O)))
theorem cS:∀ n,cZ (aW n)
 | 0=>⟨λ_=>cx,λ_=>cx,λ_=>cx,λ_ _=>cx,λ_=>cx,λ_=>cx⟩
 | n+1=>⟨λp0=>nE n _ (cS n) p0,λp0=>sC n _ (cS n) p0,λp0=>nb n _ (cS n) p0,λp0 p1=>ml n _ (cS n) p0 p1,λp0=>rL n _ (cS n) p0,λp0=>rM n _ (cS n) p0⟩
theorem nX (n:Nat) (p0:R):CT Tryz.prog 206 [.ptr 0 0] [.box (aL p0)] (cu n p0) (λx=>.agg (eI x.1)) (λx=>[.box (aL x.2)]):=(cS n).cu p0
def nc (n:Nat) (p0:ByS):D (aQ×cL):=
 br (decide ((List.length p0:Int)>1000)) (.ok ((aQ.mk 0 0 0 0 0 []),(cL.mk 2 0))) (oF (D.bind (cu n (R.mk p0 0)) λy9=>jn (λ(_:R)=>D.bind (sA n y9.1) λy15=>br (y15==9) (.ok ((aQ.mk 0 0 0 0 0 []),(cL.mk 9 0))) (.ok (y9.1,(cL.mk 0 0)))) λj11=>br (decide (y9.2.at_<(List.length p0:Int))) (D.bind (dj y9.2.at_ y9.2) λy22=>j11 (y22)) (j11 (y9.2))) (λp=>sn 202 p λv25=>D.bind (lY v25) λy26=>.ok (y26.1,y26.2)))
theorem tv (n:Nat) (p0:ByS):CT Tryz.prog 163 [F p0] [] (nc n p0) (λx=>.fZ [.agg (eI x.1),.agg [I x.2.Errno,I x.2.At]]) (λ_=>[]):=by
 refine sX Tryz.func163 O O λr h hr E hE=>?_;refine A λ_ hK1=>B (aH 102 (hE _ O) O4 O ?_);refine aH 103 (hE _ O) O4 O ?_;refine zQ hK1 (A λ_ hK2=>A λ_ hK3=>B (zm O (J (bJ O) O (zc O (zQ hK3 (zB O h (λ_ h=>?_) λ_ h=>?_))))))
 ·refine A λ_ hK5=>B (J (dA O O) O ?_);refine J (bd O O O) O ?_;refine zs O (zs O (zQ hK5 (bK (jP 102 O O) ?_)));exact L (ud (n:=Tryz.f163.ntmps) (.inl O) (mV (.inl O) _ (.cons (aT O O O) (.cons (aT O O O) .nil)) h.symm (AV.le_refl _) trivial))
 refine V (hK2 _ _ (A λ_ hK6=>B (zm O (J (bd O O O) O ?_))));refine dN 112 (hE _ O) O7 O ?_;refine aH 104 (hE _ O) O4 O ?_;refine zs O (zQ hK6 (A λ_ hK7=>B (J (qb O O) O ?_)));refine zE O ?_;have hrO:=hr;obtain ⟨r,hr,h,hc⟩:=wb hr h;refine zQ hK7 (A λ_ hK8=>B (zl O (pB hr h [112] Tryz.call206 (nX n (R.mk p0 0)) ⟨O,O,O,O,O,O,trivial⟩ O O (λ_=>O3) (λ_=>O2) O (λp hp=>?_) (λy9 h=>?_))))
 ·obtain ⟨v24,rfl,hc⟩:=lQ hrO (lR hc hp);obtain ⟨hns,hok,_⟩:=kM hrO hc;repeat (first|refine lS ?_|refine kO ?_)
  refine iM (n:=Tryz.f163.ntmps) [104,102,103,112] Tryz.call205 (k4 v24) hns O ⟨O,O,O,O⟩ (λ_=>O2) (λx hx=>?_);exact ga (.inl O) _ (.cons (aT O O O) (.cons (aT O O O) .nil)) (hok x hx).symm (AV.le_refl _) trivial
 refine zs O (zQ hK8 (zM h (λ(v10:R)=>[(0,F p0),(2,.ptr 102 0),(3,.ptr 103 0)]) (λ(v10:R)=>[(102,.box (eI y9.1)),(103,.box [I 0,I 0]),(104,.box [.ptr 112 0]),(112,.box (aL v10))]) (λv10 h=>?_) λ_ _ hK12 h=>?_))
 ·refine A λ_ hK13=>A λ_ hK14=>B (zA O ?_);refine pB hr h [] Tryz.call208 (xJ n y9.1) ⟨O,O,O,O,O,O,trivial⟩ O O (λ_=>O3) (λ_=>O2) O (λp hp=>?_) (λy15 h=>?_)
  ·obtain ⟨v19,rfl,hc⟩:=lQ hrO (lR hc hp);obtain ⟨hns,hok,_⟩:=kM hrO hc;repeat (first|refine lS ?_|refine kO ?_)
   refine iM (n:=Tryz.f163.ntmps) [104,102,103,112] Tryz.call205 (k4 v19) hns O ⟨O,O,O,O⟩ (λ_=>O2) (λx hx=>?_);exact ga (.inl O) _ (.cons (aT O O O) (.cons (aT O O O) .nil)) (hok x hx).symm (AV.le_refl _) trivial
  refine zc O (zQ hK14 (zB O h (λ_ h=>?_) λ_ h=>?_))
  ·refine A λ_ hK17=>B (J (dA O O) O ?_);refine J (bd O O O) O ?_;refine zs O (zs O (zQ hK17 (bK (jP 102 O O) ?_)));refine L (lB (n:=Tryz.f163.ntmps) (.inl O) [104,102,103,112] Tryz.call205 (mx [.box [.ptr 3 0],.box [I 0,Sc (.int .u64 0),Sc (.int .u64 0),Sc (.int .u64 0),Sc (.int .u64 0),.pv (.sl (List.length ([]:List aQ)) (aQ.Cs []))],.box [I 9,I 0],.box (aL v10)]) ⟨O,O,O,O⟩ O O ?_);exact ga (.inl O) _ (.cons (aT O O O) (.cons (aT O O O) .nil)) (qK hc h.symm) (AV.le_refl _) trivial
  refine V (hK13 _ _ (A λ_ hK18=>B (zA O ?_)));refine J (bd O O O) O ?_;refine zs O (zs O (zQ hK18 (L (lB (n:=Tryz.f163.ntmps) (.inl O) [104,102,103,112] Tryz.call205 (mx [.box [.ptr 3 0],.box (eI y9.1),.box [I 0,I 0],.box (aL v10)]) ⟨O,O,O,O⟩ O O ?_))));exact ga (.inl O) _ (.cons (aT O O O) (.cons (aT O O O) .nil)) (qK hc h.symm) (AV.le_refl _) trivial
 refine A λ_ hK20=>B (zl O (zn O (zf O (zl O (zm O (J (bJ O) O (zc O (zQ hK20 (zB O h (λ_ h=>?_) λ_ h=>?_)))))))))
 ·refine bu [0,1,2,3,4,5] O (by kernel_rfl) (zD O (bj O O O) O (zD O (bj O O O) O (zD O (c7 O) O (zD O (bF O) O (zD O (bj O O O) O (HS O (bQ O) O hr h [112] Tryz.call207 (dP y9.2.at_ y9.2) ⟨O,O,O,O,O,O,trivial⟩ O O (λ_=>O3) (λ_=>O2) O (λp hp=>?_) (λy22 h=>?_)))))))
  ·obtain ⟨v23,rfl,hc⟩:=lQ hrO (lR hc hp);obtain ⟨hns,hok,_⟩:=kM hrO hc;repeat (first|refine lS ?_|refine kO ?_)
   refine iM (n:=Tryz.f163.ntmps) [104,102,103,112] Tryz.call205 (k4 v23) hns O ⟨O,O,O,O⟩ (λ_=>O2) (λx hx=>?_);exact ga (.inl O) _ (.cons (aT O O O) (.cons (aT O O O) .nil)) (hok x hx).symm (AV.le_refl _) trivial
  exact ct (hK12 _ _ _ h O)
 exact V (hK12 _ _ _ h O)
def iw (n:Nat) (p0:H) (p1:Z):D (H×Z):=
 jn (λ(v1:H×Z)=>gd (cr (v1.1.at_+1)) (D.bind (cM n ([93]:ByS) (H.mk v1.1.text v1.1.X (v1.1.at_+1) v1.1.base v1.1.skip v1.1.pending)) λy6=>.ok (y6,v1.2))) λj2=>D.bind (ch n ([61,126]:ByS) p0) λy8=>br y8.1 (D.bind (aF n y8.2) λy11=>D.bind (nc n y11.1.Text) λy13=>br (y13.2.Errno !=0) (D.bind (bo n (H.mk y11.2.text y11.2.X y11.2.at_ y8.2.base y11.2.skip y11.2.pending)) λy16=>j2 (y16,(Z.mk p1.Kind p1.cG y11.1.Text p1.bp p1.bq p1.bg p1.Body p1.cl p1.ka p1.Trail p1.Pos))) (j2 ((H.mk y11.2.text y11.2.X y11.2.at_ y8.2.base y11.2.skip y11.2.pending),(Z.mk p1.Kind p1.cG y11.1.Text p1.bp p1.bq p1.bg p1.Body p1.cl p1.ka p1.Trail p1.Pos)))) (j2 (y8.2,p1))
theorem oX (n:Nat) (p0:H) (p1:Z):CT Tryz.prog 201 [.ptr 0 0,.ptr 1 0] [.box [.ptr 2 0],.box [.ptr 3 0],.box (K p0),.box (dB p1)] (iw n p0 p1) (λ_=>.fZ []) (λx=>[.box [.ptr 2 0],.box [.ptr 3 0],.box (K x.1),.box (dB x.2)]):=by
 refine zC Tryz.func201 O λr hp h hr E hE=>zM h (λ(v1:H×Z)=>[(0,.ptr 0 0),(1,.ptr 1 0)]) (λ(v1:H×Z)=>[(0,.box [.ptr 2 0]),(1,.box [.ptr 3 0]),(2,.box (K v1.1)),(3,.box (dB v1.2))]) (λv1 h=>?_) λ_ _ hK3 h=>?_
 ·exact A λ_ hK4=>B (zl O (zn O (zf O (zl O (zd hr h λhg5 h=>zo hg5 O (zn O (zf O (zs O (zQ hK4 (B (zl O (zk hp hr h [2] Tryz.call202 (du n ([93]:ByS) (H.mk v1.1.text v1.1.X (v1.1.at_+1) v1.1.base v1.1.skip v1.1.pending)) O (λ_=>rfl) λy6 h=>W (zY .nil h O)))))))))))))
 refine A λ_ hK7=>B (zl O (zk hp hr h [2] Tryz.call76 (df n ([61,126]:ByS) p0) O (λ_=>rfl) λy8 h=>zQ hK7 (zB O h (λ_ h=>?_) λ_ h=>?_)))
 ·refine A λ_ hK10=>bu [0,1,2,3,4,5,6] O (by kernel_rfl) (zD O (fh [.ptr 3 0] O O ⟨.inl O,trivial⟩ O) O (zD O (bj O O O) O (dG O (bQ O) hr h [2] Tryz.call34 (aK n y8.2) ⟨O,O,O,O,O,O,trivial⟩ O O (λ_=>O3) (λ_=>O2) hp (λy11 h=>⟨cF ⟨trivial,⟨⟨⟨_,O,M.fc ⟨.inl O,trivial⟩⟩,trivial⟩,trivial⟩⟩,?_⟩))));refine zD O (kN O O) O ?_;refine zD O (c7 O) O (zD O (bF O) O (bV O O8 O (λe6 he=>⟨y O,?_⟩)));subst he;refine ct (hK10 _ _ (A λ_ hK12=>B (zl O (zn O (zf O (zl O (zk hp hr h [] Tryz.call163 (tv n y11.1.Text) O (λ_=>rfl) λy13 h=>zm O (zx O (zx O (aH 102 (hE _ O) O4 O ?_))))))))));refine aH 103 (hE _ O) O4 O ?_;refine zs O (zs O (zQ hK12 (A λ_ hK14=>B (zf O (zl O (zc O (zQ hK14 (zB O h (λ_ h=>?_) λ_ h=>?_))))))))
  ·exact B (zl O (zk hp hr h [2] Tryz.call35 (bC n (H.mk y11.2.text y11.2.X y11.2.at_ y8.2.base y11.2.skip y11.2.pending)) O (λ_=>rfl) λy16 h=>W (hK3 _ _ _ h O)))
  exact V (hK3 _ _ _ h O)
 exact V (hK3 _ _ _ h O)
def fF (n:Nat) (p0:Bool) (p1:H) (p2:Z):D (H×Z):=
 D.bind (iw n (H.mk p1.text p1.X p1.at_ p1.base p0 p1.pending) p2) λy4=>.ok ((H.mk y4.1.text y4.1.X y4.1.at_ y4.1.base p1.skip y4.1.pending),y4.2)
theorem qO (n:Nat) (p0:Bool) (p1:H) (p2:Z):CT Tryz.prog 200 [.ptr 0 0,Bo p0,.fn 201 [] [.ptr 1 0,.ptr 2 0]] [.box (K p1),.box [.ptr 0 0],.box [.ptr 3 0],.box (dB p2)] (fF n p0 p1 p2) (λ_=>.fZ []) (λx=>[.box (K x.1),.box [.ptr 0 0],.box [.ptr 3 0],.box (dB x.2)]):=by
 refine zC Tryz.func200 O λr hp h hr E hE=>A λ_ hK1=>B (zm O (zn O (zf O (zl O (za O (zQ hK1 (A λ_ hK2=>B (zm O (zm O (zn O (zf O (zs O (zQ hK2 (A λ_ hK3=>B (zm O (zk hp hr h [1,2,0,3] Tryz.call201 (oX n (H.mk p1.text p1.X p1.at_ p1.base p0 p1.pending) p2) O (λ_=>rfl) λy4 h=>zQ hK3 (B (zm O (zm O ?_)))))))))))))))))));exact zn O (zf O (zs O (W (zY .nil h O))))
def fG (n:Nat) (p0:H):D (Bool×H):=
 D.bind (aF n p0) λy3=>br (y3.1.Kind==0) (.ok (true,(H.mk y3.2.text y3.2.X y3.2.at_ p0.base y3.2.skip y3.2.pending))) (D.bind (aF n (H.mk y3.2.text y3.2.X y3.2.at_ p0.base y3.2.skip y3.2.pending)) λy5=>D.bind (cB y5.1 ([125]:ByS)) λy6=>.ok (y6,(H.mk y5.2.text y5.2.X y5.2.at_ p0.base y5.2.skip y5.2.pending)))
theorem nf (n:Nat) (p0:H):CT Tryz.prog 105 [.ptr 0 0] [.box (K p0)] (fG n p0) (λx=>Bo x.1) (λx=>[.box (K x.2)]):=by
 refine zC Tryz.func105 O λr hp h hr E hE=>A λ_ hK1=>B (za O (zQ hK1 (A λ_ hK2=>B (zm O (zk hp hr h [0] Tryz.call34 (aK n p0) O (λ_=>rfl) λy3 h=>J (kN O O) O ?_)))));refine zc O (zm O (zb (y3.1.Kind==0) (λhb4=>?_) λhb4=>?_))
 ·exact z1 hb4 h λh=>zH 3 O hb4 (zy hb4 O (za O (zQ hK2 (L (z O h O)))))
 exact z2 hb4 h λh=>zG hb4 O (N O) (zK hb4 O hp hr h [0] Tryz.call34 (aK n (H.mk y3.2.text y3.2.X y3.2.at_ p0.base y3.2.skip y3.2.pending)) O (λ_=>rfl) λy5 h=>zK hb4 O hp hr h [] Tryz.call72 (cJ y5.1 ([125]:ByS)) O (λ_=>rfl) λy6 h=>zw hb4 O (za O (zQ hK2 (L (z O h O)))))
def eK (n:Nat) (p0:Int) (p1:H):D (Bool×H):=
 iter (λnext5 (v4:Int)=>br (decide (v4<p1.at_)) (el p1.X v4 λIa=>D.bind (cB Ia ([44]:ByS)) λy16=>br (!y16) (.ok (false,p1)) (gd (cr (v4+1)) (next5 (v4+1)))) (gd (cr (p0 - 1)) (el p1.X (p0 - 1) λx22=>el p1.X p1.at_ λx26=>gd ((0:Int)<=x22.End/\(x22.End:Int)<=x26.Pos/\x26.Pos<=(List.length p1.text:Int)) (D.bind (strings_Contains (sub p1.text x22.End x26.Pos) ([10]:ByS)) λy31=>.ok ((!y31),p1))))) n (p0)
theorem lZ (n:Nat) (p0:Int) (p1:H):CT Tryz.prog 106 [.ptr 0 0,I p0] [.box (K p1)] (eK n p0 p1) (λx=>Bo x.1) (λx=>[.box (K x.2)]):=by
 refine zC Tryz.func106 O λr hp h hr E hE=>A λ_ hK1=>B (za O (zQ hK1 (A λ_ hK2=>A λ_ hK3=>B (zm O (za O (zQ hK3 (u (zL hr h (λ(v4:Int)=>[(0,.ptr 0 0),(1,I p0),(5,I v4)]) (λ(v4:Int)=>[(0,.box (K p1))]) O λ_ v4 _ hK6 h=>A λ_ hK7=>A λ_ hK8=>B (zm O (zm O (zn O (zf O (zl O (zc O (zQ hK8 (zB O h (λ_ h=>?_) λ_ h=>?_))))))))))))))))
 ·refine V (hK7 _ _ (A λ_ hK10=>u (A λ_ hK11=>B (zm O (zn O (zf O (zl O (zm O (ze hr h λIa h13 h14 h15 h=>J (fR aA.Q aA.q h13 h14 h15 O O O) O (J (iJ O O) O ?_))))))))));refine zk hp hr h [] Tryz.call72 (cJ Ia ([44]:ByS)) O (λ_=>rfl) λy16 h=>J (eo O) O (zQ hK11 (zB O h (λ_ h=>?_) λ_ h=>?_))
  ·exact A λ_ hK18=>B (za O (zQ hK18 (L (z O h O))))
  exact V (hK10 _ _ (B (zm O (zd hr h λhg19 h=>zo hg19 O (za O (W (hK6 _ _ _ h O)))))))
 refine aS (hK2 _ _ (A λ_ hK20=>bu [0,1,2,3,4,5,6,7,8,9,10,11,12,13,14,15,16,17,18,19,20,21,22,23,24,25,26,27] O (by kernel_rfl) (zD O (N O) O (zD O (c7 O) O (zD O (bF O) O (zD O (bj O O O) O (zD O (N O) O (zD O (c7 O) O (zD O (bF O) O (zD O (bj O O O) O (zD O (N O) O (zd hr h λhg21 h=>zD O (jT O O hg21) O (ze hr h λx22 h23 h24 h25 h=>zD O (fR aA.Q aA.q h23 h24 h25 O O O) O (zD O (iF O O) O (zD O (dT O O) O (zD O (N O) O (zD O (c7 O) O (zD O (bF O) O (zD O (bj O O O) O (zD O (N O) O (zD O (c7 O) O ?_)))))))))))))))))))));refine zD O (bF O) O (zD O (bj O O O) O (ze hr h λx26 h27 h28 h29 h=>zD O (fR aA.Q aA.q h27 h28 h29 O O O) O (zD O (iF O O) O (zD O (dT O O) O (zd hr h λhg30 h=>zD O (lG O O O hg30.1 hg30.2.1 hg30.2.2) O (dG O (bQ O) hr h [] Tryz.call94 (kb (sub p1.text x22.End x26.Pos) ([10]:ByS)) ⟨O,O,O,O,O,O,trivial⟩ O O (λ_=>O3) (λ_=>O2) hp (λy31 h=>⟨y O,?_⟩)))))));exact zD O (eo O) O (eM O O O (y O) O (ct (hK20 _ _ (L (z O h O)))))
def gK (_:Int):D (U×Bool):=
 .ok ((U.mk 0 [] 0 [] [] [] [] [] 0),false)
theorem ta (v:Int):C6 Tryz.prog 316 [.ptr 0 0,.ptr 1 0] [.box [.any,.any,.any,.any,.any,.any,.any,.any,.any],.box [.any]] (some (.iface 86 (.agg #[.int .i64 v]))) (gK v) (λx=>[.box (bh x.1),.box [Bo x.2]]):=by
 refine mY (m:=some (.iface 86 (.agg #[.int .i64 v]))) (mv:=.mo 86 (.agg [I v])) (λg=>.mo 86 (.agg (.cons (.pv (.sc _)) .nil))) Tryz.func316 O O O λr h hr E hE=>?_;refine A λ_ hK1=>B (zm O (J (uQ O O) O (zQ hK1 (cb O (λhc=>?_) (λhc=>?_)))))
 ·refine B (J (dA O O) O ?_);refine zs O (zs O (aY (jP 0 O O) ?_));exact W (sY (.inr O) _ h.symm ⟨O,O,trivial⟩)
 exact absurd (hc) (by simp)
theorem rN (es:List M):C6 Tryz.prog 316 [.ptr 0 0,.ptr 1 0] es none (D.ok ()) (λ_=>es):=by
 refine mY (m:=none) (mv:=Sc .nilIface) (λg=>.pv (.sc _)) Tryz.func316 O O O λr h hr E hE=>?_;refine A λ_ hK1=>B (zm O (J (uR O) O (zQ hK1 (cb O (λhc=>?_) (λhc=>?_)))))
 ·exact absurd (hc) (by simp)
 exact V (o9 h)
def pH (p0:aA):D (Bool):=
 .ok ((p0.Kind==6))
theorem vL (p0:aA):CT Tryz.prog 314 [.agg (ej p0)] [] (pH p0) (λx=>Bo x) (λ_=>[]):=by
 refine zC Tryz.func314 O λr hp h hr E hE=>A λ_ hK1=>B (dN 101 (hE _ O) O7 O ?_);exact za O (zQ hK1 (A λ_ hK2=>B (zf O (zl O (zc O (za O (zQ hK2 (L (z O h O)))))))))
def iO (n:Nat) (p0:(List aA)):D (Int):=
 iter (λnext5 (v4:Int)=>br (decide (v4<(List.length p0:Int))) (el p0 v4 λBD=>D.bind (pH BD) λy17=>br y17 (.ok (v4)) (gd (cr (v4+1)) (next5 (v4+1)))) (.ok ((-1)))) n (0)
theorem nF (n:Nat) (p0:(List aA)):CT Tryz.prog 319 [.pv (.sl (List.length p0) (aA.Cs p0)),.fn 314 [] []] [] (iO n p0) (λx=>I x) (λ_=>[]):=by
 refine zC Tryz.func319 O λr hp h hr E hE=>A λ_ hK1=>B (za O (zQ hK1 (A λ_ hK2=>A λ_ hK3=>B (zm O (J (ca O) O (zm O (zQ hK3 (u (zL hr h (λ(v4:Int)=>[(0,.pv (.sl (List.length p0) (aA.Cs p0))),(1,.fn 314 [] []),(7,I (List.length p0:Int)),(8,I v4)]) (λ(v4:Int)=>[]) O λ_ v4 _ hK6 h=>A λ_ hK7=>B (zc O (zQ hK7 (A λ_ hK8=>zB O h (λ_ h=>?_) λ_ h=>?_))))))))))))
 ·refine V (hK8 _ _ (A λ_ hK10=>u (A λ_ hK11=>B (zm O (za O (zQ hK11 (A λ_ hK12=>B (zm O (zm O (zm O (ze hr h λBD h14 h15 h16 h=>J (fR aA.Q aA.q h14 h15 h16 O O O) O (J (iJ O O) O ?_))))))))))));refine zk hp hr h [] Tryz.call314 (vL BD) O (λ_=>rfl) λy17 h=>zQ hK12 (zB O h (λ_ h=>?_) λ_ h=>?_)
  ·exact A λ_ hK19=>B (zm O (za O (zQ hK19 (L (z O h O)))))
  exact V (hK10 _ _ (B (zd hr h λhg20 h=>zo hg20 O (zm O (W (hK6 _ _ _ h O))))))
 exact aS (hK2 _ _ (A λ_ hK21=>B (za O (zQ hK21 (L (z O h O))))))
def fW (n:Nat) (p0:(List aA)):D (Bool):=
 D.bind (iO n p0) λy3=>.ok ((decide (y3>=0)))
theorem mn (n:Nat) (p0:(List aA)):CT Tryz.prog 315 [.pv (.sl (List.length p0) (aA.Cs p0)),.fn 314 [] []] [] (fW n p0) (λx=>Bo x) (λ_=>[]):=by
 exact zC Tryz.func315 O λr hp h hr E hE=>A λ_ hK1=>B (za O (zQ hK1 (A λ_ hK2=>B (zm O (zm O (zk hp hr h [] Tryz.call319 (nF n p0) O (λ_=>rfl) λy3 h=>zc O (za O (zQ hK2 (L (z O h O))))))))))
def cf (p0:Int) (p1:ByS) (p2:Int) (p3:bf):D (bf):=
 gd (cr (p3.at_+p2)) (gd (k2 40 (List.length p3.out) (List.length [(aA.mk p0 p1 p3.at_ (p3.at_+p2))])) (gd (cr (p3.at_+p2)) (br (p0==6) (.ok ((bf.mk p3.text (p3.at_+p2) (p3.out++[(aA.mk p0 p1 p3.at_ (p3.at_+p2))]) p3.line))) (jn (λ(v9:Bool)=>br v9 (.ok ((bf.mk p3.text (p3.at_+p2) (p3.out++[(aA.mk p0 p1 p3.at_ (p3.at_+p2))]) true))) (br (p0==5) (gd (mh ([32]:ByS) p1) (gd (mh (([32]:ByS)++p1) ([32]:ByS)) (D.bind (strings_Contains ([32,95,124,95,32,95,32,46,46,46,32,41,32,93,32,125,32,63,32]:ByS) ((([32]:ByS)++p1)++([32]:ByS))) λy16=>.ok ((bf.mk p3.text (p3.at_+p2) (p3.out++[(aA.mk p0 p1 p3.at_ (p3.at_+p2))]) y16))))) (.ok ((bf.mk p3.text (p3.at_+p2) (p3.out++[(aA.mk p0 p1 p3.at_ (p3.at_+p2))]) false))))) λj10=>br (p0==1) (j10 ((p0==1))) (br (p0==2) (j10 ((p0==2))) (br (p0==3) (j10 ((p0==3))) (j10 ((p0==4)))))))))
theorem ff (p0:Int) (p1:ByS) (p2:Int) (p3:bf):CT Tryz.prog 53 [.ptr 0 0,I p0,F p1,I p2] [.box [F p3.text,I p3.at_,.arr 1 (List.length p3.out),Bo p3.line],.app 49 4 (aA.Cs p3.out)] (cf p0 p1 p2 p3) (λ_=>.fZ []) (λx=>[.box [F x.text,I x.at_,.arr 1 (List.length x.out),Bo x.line],.app 49 4 (aA.Cs x.out)]):=by
 refine zC Tryz.func53 O λr hp h hr E hE=>A λ_ hK1=>mW [] ?_;refine bu [0,1,2,3,4,5,6,7,8,9,10,11,12,13,14,15,16,17,18,19,20,21,22] O (by kernel_rfl) (zD O (N O) O (zD O (N O) O (zD O (c7 O) O (zD O (bF O) O (zD O (bj O O O) O (zD O (N O) O (zD O (N O) O (zD O (N O) O (zD O (c7 O) O (zD O (bF O) O (zD O (bj O O O) O (zD O (N O) O (zD O (c7 O) O (zD O (bF O) O (zD O (bj O O O) O (zD O (N O) O (zd hr h λhg2 h=>zD O (gV O O hg2) O (zD O (bd O O O) O ?_))))))))))))))))));refine iL [(aA.mk p0 p1 p3.at_ (p3.at_+p2))] aA.Q O (bQ O) O2 O2 ?_;refine zd hr h λhg3 h=>zr 127 O (bQ O) ⟨jD.h,dH.h,aA.Q,aA.q,aA.iu,hE _ O,O,O,(.inl O),O3,hg3⟩ O O ⟨y O,?_⟩;refine zD O (c7 O) O (zD O (bF O) O (bV O O8 O (λe22 he=>⟨y O,?_⟩)));subst he;refine gG (iT 127 1 [(0,.ptr 0 0),(1,I p0),(2,F p1),(3,I p2)] [(0,.box [F p3.text,I p3.at_,.arr 1 (List.length (p3.out++[(aA.mk p0 p1 p3.at_ (p3.at_+p2))])),Bo p3.line])] (hE _ O) O O O2 ⟨⟨_,O,O,O⟩,⟨_,O,O,O⟩,⟨_,O,O,O⟩,⟨_,O,O,O⟩,trivial⟩ ⟨⟨_,O,O,O,O,O⟩,trivial⟩) ?_;refine hK1 _ _ (A λ_ hK4=>B (zm O (zn O (zf O (zl O (zm O (zd hr h λhg5 h=>zo hg5 O (zn O (zf O (zs O (zQ hK4 (A λ_ hK6=>B (zm O (zQ hK6 (u (A λ_ hK7=>B (zc O (za O (zQ hK7 (zB O h (λ_ h=>?_) λ_ h=>?_))))))))))))))))))))
 ·exact V (zY .nil h O)
 refine zM h (λ(v9:Bool)=>[(0,.ptr 0 0),(1,I p0),(2,F p1),(3,I p2),(52,Bo v9)]) (λ(v9:Bool)=>[(0,.box [F p3.text,I (p3.at_+p2),.arr 1 (List.length (p3.out++[(aA.mk p0 p1 p3.at_ (p3.at_+p2))])),Bo p3.line]),(1,.app 49 4 (aA.Cs (p3.out++[(aA.mk p0 p1 p3.at_ (p3.at_+p2))])))]) (λv9 h=>?_) λ_ _ hK11 h=>?_
 ·refine zB O h (λ_ h=>?_) λ_ h=>?_
  ·exact B (zm O (zn O (zf O (zs O (W (zY .nil h O))))))
  refine B (zm O (zm O (zc O (zm O (zb (p0==5) (λhb13=>?_) λhb13=>?_)))))
  ·exact z1 hb13 h λh=>zG hb13 O (N O) (zd hr h λhg14 h=>zG hb13 O (iK O O hg14) (zd hr h λhg15 h=>zG hb13 O (iK O O hg15) (zK hb13 O hp hr h [] Tryz.call94 (kb ([32,95,124,95,32,95,32,46,46,46,32,41,32,93,32,125,32,63,32]:ByS) ((([32]:ByS)++p1)++([32]:ByS))) O (λ_=>rfl) λy16 h=>zy hb13 O (zn O (zf O (zs O (W (zY .nil h O))))))))
  exact z2 hb13 h λh=>zH 4 O hb13 (zw hb13 O (zn O (zf O (zs O (W (zY .nil h O))))))
 refine A λ_ hK17=>B (zc O (za O (zQ hK17 (zB O h (λ_ h=>?_) λ_ h=>?_))))
 ·exact V (hK11 _ _ _ h O)
 refine A λ_ hK19=>B (zc O (za O (zQ hK19 (zB O h (λ_ h=>?_) λ_ h=>?_))))
 ·exact V (hK11 _ _ _ h O)
 refine A λ_ hK21=>B (zc O (za O (zQ hK21 (zB O h (λ_ h=>?_) λ_ h=>?_))))
 ·exact V (hK11 _ _ _ h O)
 exact B (zc O (za O (W (hK11 _ _ _ h O))))
def stringslite_HasPrefix (p0:ByS) (p1:ByS):D (Bool):=
 br (decide ((List.length p0:Int)>=(List.length p1:Int))) (gd ((0:Int)<=(List.length p1:Int)/\(List.length p1:Int)<=(List.length p0:Int)) (.ok (((jU p0 (List.length p1:Int))==p1)))) (.ok (false))
theorem qi (p0:ByS) (p1:ByS):CT Tryz.prog 137 [F p0,F p1] [] (stringslite_HasPrefix p0 p1) (λx=>Bo x) (λ_=>[]):=by
 refine zC Tryz.func137 O λr hp h hr E hE=>A λ_ hK1=>B (za O (zQ hK1 (A λ_ hK2=>B (zm O (J (bJ O) O (zm O (J (bJ O) O (zc O (zm O (zb (decide ((List.length p0:Int)>=(List.length p1:Int))) (λhb3=>?_) λhb3=>?_))))))))))
 ·exact z1 hb3 h λh=>zG hb3 O (N O) (zG hb3 O (N O) (zG hb3 O (bJ O) (zd hr h λhg4 h=>zG hb3 O (o7 O O hg4.1 hg4.2) (zG hb3 O (N O) (zG hb3 O (iS O O) (zy hb3 O (za O (zQ hK2 (L (z O h O))))))))))
 exact z2 hb3 h λh=>zH 6 O hb3 (zw hb3 O (za O (zQ hK2 (L (z O h O)))))
def strings_HasPrefix (p0:ByS) (p1:ByS):D (Bool):=
 D.bind (stringslite_HasPrefix p0 p1) λy3=>.ok (y3)
theorem jA (p0:ByS) (p1:ByS):CT Tryz.prog 95 [F p0,F p1] [] (strings_HasPrefix p0 p1) (λx=>Bo x) (λ_=>[]):=by
 exact zC Tryz.func95 O λr hp h hr E hE=>A λ_ hK1=>B (za O (zQ hK1 (A λ_ hK2=>B (zm O (zm O (zk hp hr h [] Tryz.call137 (qi p0 p1) O (λ_=>rfl) λy3 h=>za O (zQ hK2 (L (z O h O)))))))))
def iG (p0:Int):D (Bool):=
 br (decide (p0>=48)) (.ok ((decide (p0<=57)))) (.ok (false))
theorem lf (p0:Int):CT Tryz.prog 98 [Sc (.int .u8 p0)] [] (iG p0) (λx=>Bo x) (λ_=>[]):=by
 refine zC Tryz.func98 O λr hp h hr E hE=>A λ_ hK1=>B (za O (zQ hK1 (A λ_ hK2=>B (zm O (zc O (zm O (zb (decide (p0>=48)) (λhb3=>?_) λhb3=>?_)))))))
 ·exact z1 hb3 h λh=>zG hb3 O (N O) (zG hb3 O (aX O O O) (zy hb3 O (za O (zQ hK2 (L (z O h O))))))
 exact z2 hb3 h λh=>zH 2 O hb3 (zw hb3 O (za O (zQ hK2 (L (z O h O)))))
def kW (n:Nat) (p0:ByS):D (Int):=
 jn (λ(v3:Int)=>jn (λ(v7:Bool)=>br v7 (gd (cr (v3+1)) (iter (λnext14 (v13:Int)=>br (decide (v13<(List.length p0:Int))) (el p0 v13 λb19=>D.bind (iG (b19.toNat:Int)) λy23=>br y23 (gd (cr (v13+1)) (next14 (v13+1))) (.ok (v13))) (.ok (v13))) n (v3+1))) (.ok (v3))) λj8=>gd (cr (v3+1)) (br (decide ((v3+1)<(List.length p0:Int))) (el p0 v3 λb31=>br ((b31.toNat:Int)==46) (gd (cr (v3+1)) (el p0 (v3+1) λb37=>D.bind (iG (b37.toNat:Int)) λy41=>j8 (y41))) (j8 (false))) (j8 (false)))) λj4=>iter (λnext43 (v42:Int)=>br (decide (v42<(List.length p0:Int))) (el p0 v42 λb48=>D.bind (iG (b48.toNat:Int)) λy52=>br y52 (gd (cr (v42+1)) (next43 (v42+1))) (j4 (v42))) (j4 (v42))) n (0)
theorem w5 (n:Nat) (p0:ByS):CT Tryz.prog 99 [F p0] [] (kW n p0) (λx=>I x) (λ_=>[]):=by
 refine zC Tryz.func99 O λr hp h hr E hE=>A λ_ hK1=>B (za O (zQ hK1 (A λ_ hK2=>B (za O (zQ hK2 (zM h (λ(v3:Int)=>[(0,F p0),(3,I v3)]) (λ(v3:Int)=>[]) (λv3 h=>?_) λ_ _ hK5 h=>?_))))))
 ·refine A λ_ hK6=>zM h (λ(v7:Bool)=>[(0,F p0),(3,I v3),(33,Bo v7)]) (λ(v7:Bool)=>[]) (λv7 h=>?_) λ_ _ hK9 h=>?_
  ·refine zB O h (λ_ h=>?_) λ_ h=>?_
   ·refine A λ_ hK11=>B (zm O (zd hr h λhg12 h=>zo hg12 O (za O (zQ hK11 (u (zL hr h (λ(v13:Int)=>[(0,F p0),(3,I v13)]) (λ(v13:Int)=>[]) O λ_ v13 _ hK15 h=>A λ_ hK16=>A λ_ hK17=>B (zm O (zm O (J (bJ O) O (zc O (zm O (zb (decide (v13<(List.length p0:Int))) (λhb18=>?_) λhb18=>?_))))))))))))
    ·refine z1 hb18 h λh=>zG hb18 O (N O) (zG hb18 O (N O) (ze hr h λb19 h20 h21 h22 h=>zG hb18 O (bY O O h20 h22) (zK hb18 O hp hr h [] Tryz.call98 (lf (b19.toNat:Int)) O (λ_=>rfl) λy23 h=>zy hb18 O (zQ hK17 (zB O h (λ_ h=>?_) λ_ h=>?_)))))
     ·exact V (hK16 _ _ (u (B (zm O (zd hr h λhg25 h=>zo hg25 O (za O (W (hK15 _ _ _ h O))))))))
     exact aS (hK6 _ _ (A λ_ hK26=>B (zm O (za O (zQ hK26 (L (z O h O)))))))
    refine z2 hb18 h λh=>zH 4 O hb18 (zw hb18 O (zQ hK17 (cb O (λhc=>?_) (λhc=>?_))))
    ·exact absurd (hc) (by simp)
    exact aS (hK6 _ _ (A λ_ hK27=>B (zm O (za O (zQ hK27 (L (z O h O)))))))
   exact V (hK6 _ _ (A λ_ hK28=>B (zm O (za O (zQ hK28 (L (z O h O)))))))
  refine B (zm O (zd hr h λhg29 h=>zo hg29 O (zm O (J (bJ O) O (zc O (zm O (zb (decide ((v3+1)<(List.length p0:Int))) (λhb30=>?_) λhb30=>?_)))))))
  ·refine z1 hb30 h λh=>zG hb30 O (N O) (zG hb30 O (N O) (ze hr h λb31 h32 h33 h34 h=>zG hb30 O (bY O O h32 h34) (zG hb30 O (aX O O O) (zy hb30 O (zm O (zb ((b31.toNat:Int)==46) (λhb35=>?_) λhb35=>?_))))))
   ·exact z1 hb35 h λh=>zG hb35 O (N O) (zG hb35 O (N O) (zd hr h λhg36 h=>zG hb35 O (gV O O hg36) (ze hr h λb37 h38 h39 h40 h=>zG hb35 O (bY O O h38 h40) (zK hb35 O hp hr h [] Tryz.call98 (lf (b37.toNat:Int)) O (λ_=>rfl) λy41 h=>zy hb35 O (W (hK9 _ _ _ h O))))))
   exact z2 hb35 h λh=>zH 5 O hb35 (zw hb35 O (W (hK9 _ _ _ h O)))
  exact z2 hb30 h λh=>zH 4 O hb30 (zw hb30 O (zm O (zH 5 O O (J (de O O) O (W (hK9 _ _ _ h O))))))
 refine u (zL hr h (λ(v42:Int)=>[(0,F p0),(3,I v42)]) (λ(v42:Int)=>[]) O λ_ v42 _ hK44 h=>A λ_ hK45=>A λ_ hK46=>B (zm O (zm O (J (bJ O) O (zc O (zm O (zb (decide (v42<(List.length p0:Int))) (λhb47=>?_) λhb47=>?_)))))))
 ·refine z1 hb47 h λh=>zG hb47 O (N O) (zG hb47 O (N O) (ze hr h λb48 h49 h50 h51 h=>zG hb47 O (bY O O h49 h51) (zK hb47 O hp hr h [] Tryz.call98 (lf (b48.toNat:Int)) O (λ_=>rfl) λy52 h=>zy hb47 O (zQ hK46 (zB O h (λ_ h=>?_) λ_ h=>?_)))))
  ·exact V (hK45 _ _ (u (B (zm O (zd hr h λhg54 h=>zo hg54 O (za O (W (hK44 _ _ _ h O))))))))
  exact aS (hK5 _ _ _ h O)
 refine z2 hb47 h λh=>zH 4 O hb47 (zw hb47 O (zQ hK46 (cb O (λhc=>?_) (λhc=>?_))))
 ·exact absurd (hc) (by simp)
 exact aS (hK5 _ _ _ h O)
def jI (n:Nat) (p0:ByS):D (ByS):=
 iter (λnext5 (v4:Int)=>br (decide (v4<(List.length [([95,124,95,32,46,46,46]:ByS),([61,61,32,33,61,32,60,61,32,62,61,32,61,126,32,33,126,32,38,38,32,124,124]:ByS),([95,32,40,32,41,32,91,32,93,32,123,32,125,32,58,32,44,32,46,32,63,32,33,32,42,32,38,32,124,32,61,32,60,32,62,32,43,32,45,32,47,32,37]:ByS)]:Int))) (el [([95,124,95,32,46,46,46]:ByS),([61,61,32,33,61,32,60,61,32,62,61,32,61,126,32,33,126,32,38,38,32,124,124]:ByS),([95,32,40,32,41,32,91,32,93,32,123,32,125,32,58,32,44,32,46,32,63,32,33,32,42,32,38,32,124,32,61,32,60,32,62,32,43,32,45,32,47,32,37]:ByS)] v4 λIa=>D.bind (strings_Split Ia ([32]:ByS)) λy17=>iter (λnext19 (v18:Int)=>br (decide (v18<(List.length y17:Int))) (el y17 v18 λx26=>D.bind (strings_HasPrefix p0 x26) λy31=>br y31 (.ok (x26)) (gd (cr (v18+1)) (next19 (v18+1)))) (gd (cr (v4+1)) (next5 (v4+1)))) n (0)) (.ok (([]:ByS)))) n (0)
theorem uW (n:Nat) (p0:ByS):CT Tryz.prog 102 [F p0] [] (jI n p0) (λx=>F x) (λ_=>[]):=by
 refine zC Tryz.func102 O λr hp h hr E hE=>A λ_ hK1=>B (za O (zQ hK1 (A λ_ hK2=>A λ_ hK3=>B (bN [([95,124,95,32,46,46,46]:ByS),([61,61,32,33,61,32,60,61,32,62,61,32,61,126,32,33,126,32,38,38,32,124,124]:ByS),([95,32,40,32,41,32,91,32,93,32,123,32,125,32,58,32,44,32,46,32,63,32,33,32,42,32,38,32,124,32,61,32,60,32,62,32,43,32,45,32,47,32,37]:ByS)] dS O2 O ?_))));refine J (ca O) O (zm O (zQ hK3 (u (zL hr h (λ(v4:Int)=>[(0,F p0),(7,.pv (.sl (List.length [([95,124,95,32,46,46,46]:ByS),([61,61,32,33,61,32,60,61,32,62,61,32,61,126,32,33,126,32,38,38,32,124,124]:ByS),([95,32,40,32,41,32,91,32,93,32,123,32,125,32,58,32,44,32,46,32,63,32,33,32,42,32,38,32,124,32,61,32,60,32,62,32,43,32,45,32,47,32,37]:ByS)]) (cd [([95,124,95,32,46,46,46]:ByS),([61,61,32,33,61,32,60,61,32,62,61,32,61,126,32,33,126,32,38,38,32,124,124]:ByS),([95,32,40,32,41,32,91,32,93,32,123,32,125,32,58,32,44,32,46,32,63,32,33,32,42,32,38,32,124,32,61,32,60,32,62,32,43,32,45,32,47,32,37]:ByS)]))),(8,I (List.length [([95,124,95,32,46,46,46]:ByS),([61,61,32,33,61,32,60,61,32,62,61,32,61,126,32,33,126,32,38,38,32,124,124]:ByS),([95,32,40,32,41,32,91,32,93,32,123,32,125,32,58,32,44,32,46,32,63,32,33,32,42,32,38,32,124,32,61,32,60,32,62,32,43,32,45,32,47,32,37]:ByS)]:Int)),(9,I v4)]) (λ(v4:Int)=>[]) O λ_ v4 _ hK6 h=>A λ_ hK7=>B (zc O (zQ hK7 (A λ_ hK8=>zB O h (λ_ h=>?_) λ_ h=>?_)))))))
 ·refine V (hK8 _ _ (A λ_ hK10=>u (A λ_ hK11=>B (ze hr h λIa h13 h14 h15 h=>J (fR dS gb h13 h14 h15 O O O) O (J (dT O O) O (za O (zQ hK11 (A λ_ hK16=>B (zm O (zk hp hr h [] Tryz.call146 (nD Ia ([32]:ByS)) O (λ_=>rfl) λy17 h=>J (ca O) O (zm O (zQ hK16 (u (zL hr h (λ(v18:Int)=>[(0,F p0),(7,.pv (.sl (List.length [([95,124,95,32,46,46,46]:ByS),([61,61,32,33,61,32,60,61,32,62,61,32,61,126,32,33,126,32,38,38,32,124,124]:ByS),([95,32,40,32,41,32,91,32,93,32,123,32,125,32,58,32,44,32,46,32,63,32,33,32,42,32,38,32,124,32,61,32,60,32,62,32,43,32,45,32,47,32,37]:ByS)]) (cd [([95,124,95,32,46,46,46]:ByS),([61,61,32,33,61,32,60,61,32,62,61,32,61,126,32,33,126,32,38,38,32,124,124]:ByS),([95,32,40,32,41,32,91,32,93,32,123,32,125,32,58,32,44,32,46,32,63,32,33,32,42,32,38,32,124,32,61,32,60,32,62,32,43,32,45,32,47,32,37]:ByS)]))),(8,I (List.length [([95,124,95,32,46,46,46]:ByS),([61,61,32,33,61,32,60,61,32,62,61,32,61,126,32,33,126,32,38,38,32,124,124]:ByS),([95,32,40,32,41,32,91,32,93,32,123,32,125,32,58,32,44,32,46,32,63,32,33,32,42,32,38,32,124,32,61,32,60,32,62,32,43,32,45,32,47,32,37]:ByS)]:Int)),(9,I v4),(14,.pv (.sl (List.length y17) (cd y17))),(15,I (List.length y17:Int)),(16,I v18)]) (λ(v18:Int)=>[]) O λ_ v18 _ hK20 h=>A λ_ hK21=>B (zc O (zQ hK21 (A λ_ hK22=>?_)))))))))))))))));refine zB O h (λ_ h=>?_) λ_ h=>?_
  ·refine V (hK22 _ _ (A λ_ hK24=>u (A λ_ hK25=>B (ze hr h λx26 h27 h28 h29 h=>J (fR dS gb h27 h28 h29 O O O) O (J (dT O O) O (za O (zQ hK25 (A λ_ hK30=>B (zm O (zm O (zk hp hr h [] Tryz.call95 (jA p0 x26) O (λ_=>rfl) λy31 h=>zQ hK30 (zB O h (λ_ h=>?_) λ_ h=>?_))))))))))))
   ·exact A λ_ hK33=>B (zm O (za O (zQ hK33 (L (z O h O)))))
   exact V (hK24 _ _ (B (zd hr h λhg34 h=>zo hg34 O (zm O (W (hK20 _ _ _ h O))))))
  exact aS (hK10 _ _ (B (zd hr h λhg35 h=>zo hg35 O (zm O (W (hK6 _ _ _ h O))))))
 exact aS (hK2 _ _ (A λ_ hK36=>B (za O (zQ hK36 (L (z O h O))))))
def eg (p0:Int):D (Int):=
 .ok (yw .u8 p0 32)
theorem dI (p0:Int):CT Tryz.prog 250 [Sc (.int .u8 p0)] [] (eg p0) (λx=>Sc (.int .u8 x)) (λ_=>[]):=by
 exact zC Tryz.func250 O λr hp h hr E hE=>A λ_ hK1=>B (za O (zQ hK1 (A λ_ hK2=>B (zm O (J (A0 O O) O (za O (zQ hK2 (L (z O h O)))))))))
end Go.Abs
end
section
namespace Go.Abs
open Go.Proofs D
def ng (n:Nat) (p0:ByS):D (Bool):=
 jn (λ(v4:ByS)=>jn (λ(v8:Int×Int×Bool)=>iter (λnext13 (v12:Int×Int)=>br (decide (v12.2<(List.length v4:Int))) (jn (λ(v18:Int)=>gd (cr (v12.2+1)) (next13 (v18,v12.2+1))) λj19=>jn (λ(_:Unit)=>el v4 v12.2 λb27=>br ((b27.toNat:Int)==95) (br (v12.1 !=48) (.ok (false)) (j19 (95))) (br (v12.1==95) (.ok (false)) (j19 (33)))) λj23=>el v4 v12.2 λb42=>br (decide (48<=(b42.toNat:Int))) (el v4 v12.2 λb47=>br (decide ((b47.toNat:Int)<=57)) (j19 (48)) (br v8.2.2 (el v4 v12.2 λb54=>D.bind (eg (b54.toNat:Int)) λy58=>br (decide (97<=y58)) (el v4 v12.2 λb60=>D.bind (eg (b60.toNat:Int)) λy64=>br (decide (y64<=102)) (j19 (48)) (j23 ())) (j23 ())) (j23 ()))) (br v8.2.2 (el v4 v12.2 λb68=>D.bind (eg (b68.toNat:Int)) λy72=>br (decide (97<=y72)) (el v4 v12.2 λb74=>D.bind (eg (b74.toNat:Int)) λy78=>br (decide (y78<=102)) (j19 (48)) (j23 ())) (j23 ())) (j23 ()))) (.ok ((v12.1 !=95)))) n (v8.1,v8.2.1)) λj9=>jn (λ(v82:Bool)=>br v82 (el v4 1 λb88=>D.bind (eg (b88.toNat:Int)) λy92=>j9 (48,2,(y92==120))) (j9 (94,0,false))) λj83=>br (decide ((List.length v4:Int)>=2)) (el v4 0 λb94=>br ((b94.toNat:Int)==48) (el v4 1 λb99=>D.bind (eg (b99.toNat:Int)) λy103=>br (y103==98) (j83 (true)) (el v4 1 λb105=>D.bind (eg (b105.toNat:Int)) λy109=>br (y109==111) (j83 (true)) (el v4 1 λb111=>D.bind (eg (b111.toNat:Int)) λy115=>j83 ((y115==120))))) (j83 (false))) (j83 (false))) λj5=>br (decide ((List.length p0:Int)>=1)) (el p0 0 λb118=>br ((b118.toNat:Int)==45) (gd ((0:Int)<=1/\1<=(List.length p0:Int)) (j5 (dK p0 1))) (el p0 0 λb124=>br ((b124.toNat:Int)==43) (gd ((0:Int)<=1/\1<=(List.length p0:Int)) (j5 (dK p0 1))) (j5 (p0)))) (j5 (p0))
theorem qP (n:Nat) (p0:ByS):CT Tryz.prog 251 [F p0] [] (ng n p0) (λx=>Bo x) (λ_=>[]):=by
 refine zC Tryz.func251 O λr hp h hr E hE=>A λ_ hK1=>B (za O (zQ hK1 (A λ_ hK2=>B (za O (zQ hK2 (A λ_ hK3=>B (za O (zQ hK3 (zM h (λ(v4:ByS)=>[(0,F v4),(3,Sc (.int .i32 94)),(4,I 0)]) (λ(v4:ByS)=>[]) (λv4 h=>?_) λ_ _ hK6 h=>?_)))))))))
 ·refine A λ_ hK7=>B (za O (zQ hK7 (zM h (λ(v8:Int×Int×Bool)=>[(0,F v4),(3,Sc (.int .i32 v8.1)),(4,I v8.2.1),(5,Bo v8.2.2)]) (λ(v8:Int×Int×Bool)=>[]) (λv8 h=>?_) λ_ _ hK10 h=>?_)))
  ·refine A λ_ hK11=>u (zL hr h (λ(v12:Int×Int)=>[(0,F v4),(3,Sc (.int .i32 v12.1)),(4,I v12.2),(5,Bo v8.2.2)]) (λ(v12:Int×Int)=>[]) O λ_ v12 _ hK14 h=>A λ_ hK15=>A λ_ hK16=>B (zm O (zm O (J (bJ O) O (zc O (zQ hK16 (zB O h (λ_ h=>?_) λ_ h=>?_)))))))
   ·refine V (hK15 _ _ (zM h (λ(v18:Int)=>[(0,F v4),(3,Sc (.int .i32 v18)),(4,I v12.2),(5,Bo v8.2.2)]) (λ(v18:Int)=>[]) (λv18 h=>?_) λ_ _ hK20 h=>?_))
    ·exact B (zm O (zd hr h λhg21 h=>zo hg21 O (za O (W (hK14 _ _ _ h O)))))
    refine u (zM h (λ(v22:Unit)=>[(0,F v4),(3,Sc (.int .i32 v12.1)),(4,I v12.2),(5,Bo v8.2.2)]) (λ(v22:Unit)=>[]) (λv22 h=>?_) λ_ _ hK24 h=>?_)
    ·refine A λ_ hK25=>A λ_ hK26=>B (zm O (zm O (ze hr h λb27 h28 h29 h30 h=>J (bY O O h28 h30) O (zc O (zQ hK26 (zB O h (λ_ h=>?_) λ_ h=>?_))))))
     ·refine A λ_ hK32=>A λ_ hK33=>B (zm O (zc O (zQ hK33 (zB O h (λ_ h=>?_) λ_ h=>?_))))
      ·exact A λ_ hK35=>B (za O (zQ hK35 (L (z O h O))))
      exact V (hK32 _ _ (A λ_ hK36=>B (za O (zQ hK36 (aS (hK20 _ _ _ h O))))))
     refine V (hK25 _ _ (A λ_ hK37=>A λ_ hK38=>B (zm O (zc O (zQ hK38 (zB O h (λ_ h=>?_) λ_ h=>?_))))))
     ·exact A λ_ hK40=>B (za O (zQ hK40 (L (z O h O))))
     exact V (hK37 _ _ (B (za O (W (hK20 _ _ _ h O)))))
    refine A λ_ hK41=>B (zm O (zm O (ze hr h λb42 h43 h44 h45 h=>J (bY O O h43 h45) O (zc O (zm O (zb (decide (48<=(b42.toNat:Int))) (λhb46=>?_) λhb46=>?_))))))
    ·refine z1 hb46 h λh=>zG hb46 O (N O) (zG hb46 O (N O) (ze hr h λb47 h48 h49 h50 h=>zG hb46 O (bY O O h48 h50) (zG hb46 O (aX O O O) (zy hb46 O (zm O (zb (decide ((b47.toNat:Int)<=57)) (λhb51=>?_) λhb51=>?_))))))
     ·refine z1 hb51 h λh=>zH 2 O hb51 (zu O (zu O (zu O (zu O (zu O (zH 2 O hb51 (zu O (zu O (zu O (zu O (zu O (zg hb51 O (zy hb51 O (zQ hK41 (cb O (λhc=>?_) (λhc=>?_))))))))))))))))
      ·exact A λ_ hK52=>B (za O (zQ hK52 (aS (hK20 _ _ _ h O))))
      exact absurd (hc) (by simp)
     refine z2 hb51 h λh=>zG hb51 O (N O) (zG hb51 O (N O) (zb v8.2.2 (λhb53=>?_) λhb53=>?_))
     ·refine z1 hb53 h λh=>zG hb53 O (N O) (zG hb53 O (N O) (ze hr h λb54 h55 h56 h57 h=>zG hb53 O (bY O O h55 h57) (zK hb53 O hp hr h [] Tryz.call250 (dI (b54.toNat:Int)) O (λ_=>rfl) λy58 h=>zG hb53 O (aX O O O) (zG hb51 O (cY hb53 O O) (zG hb51 O (N O) (zb (decide (97<=y58)) (λhb59=>?_) λhb59=>?_))))))
      ·refine z1 hb59 h λh=>zG hb59 O (N O) (zG hb59 O (N O) (ze hr h λb60 h61 h62 h63 h=>zG hb59 O (bY O O h61 h63) (zK hb59 O hp hr h [] Tryz.call250 (dI (b60.toNat:Int)) O (λ_=>rfl) λy64 h=>zG hb59 O (aX O O O) (zG hb51 O (cY hb59 O O) (zw hb51 O (zQ hK41 (zB O h (λ_ h=>?_) λ_ h=>?_)))))))
       ·exact A λ_ hK66=>B (za O (zQ hK66 (aS (hK20 _ _ _ h O))))
       exact V (hK24 _ _ _ h O)
      refine z2 hb59 h λh=>zH 5 O hb59 (zG hb51 O (cU hb59 O O) (zw hb51 O (zQ hK41 (cb O (λhc=>?_) (λhc=>?_)))))
      ·exact absurd (hc) (by simp)
      exact V (hK24 _ _ _ h O)
     refine z2 hb53 h λh=>zH 5 O hb53 (zG hb51 O (cU hb53 O O) (zG hb51 O (N O) (zH 5 O O (zG hb51 O (de O O) (zw hb51 O (zQ hK41 (cb O (λhc=>?_) (λhc=>?_))))))))
     ·exact absurd (hc) (by simp)
     exact V (hK24 _ _ _ h O)
    refine z2 hb46 h λh=>zH 4 O hb46 (zw hb46 O (zm O (zG O O (N O) (zG O O (N O) (zb v8.2.2 (λhb67=>?_) λhb67=>?_)))))
    ·refine z1 hb67 h λh=>zG hb67 O (N O) (zG hb67 O (N O) (ze hr h λb68 h69 h70 h71 h=>zG hb67 O (bY O O h69 h71) (zK hb67 O hp hr h [] Tryz.call250 (dI (b68.toNat:Int)) O (λ_=>rfl) λy72 h=>zG hb67 O (aX O O O) (zG O O (cY hb67 O O) (zG O O (N O) (zb (decide (97<=y72)) (λhb73=>?_) λhb73=>?_))))))
     ·refine z1 hb73 h λh=>zG hb73 O (N O) (zG hb73 O (N O) (ze hr h λb74 h75 h76 h77 h=>zG hb73 O (bY O O h75 h77) (zK hb73 O hp hr h [] Tryz.call250 (dI (b74.toNat:Int)) O (λ_=>rfl) λy78 h=>zG hb73 O (aX O O O) (zG O O (cY hb73 O O) (J (de O O) O (zQ hK41 (zB O h (λ_ h=>?_) λ_ h=>?_)))))))
      ·exact A λ_ hK80=>B (za O (zQ hK80 (aS (hK20 _ _ _ h O))))
      exact V (hK24 _ _ _ h O)
     refine z2 hb73 h λh=>zH 5 O hb73 (zG O O (cU hb73 O O) (J (de O O) O (zQ hK41 (cb O (λhc=>?_) (λhc=>?_)))))
     ·exact absurd (hc) (by simp)
     exact V (hK24 _ _ _ h O)
    refine z2 hb67 h λh=>zH 5 O hb67 (zG O O (cU hb67 O O) (zG O O (N O) (zH 5 O O (zG O O (de O O) (J (de O O) O (zQ hK41 (cb O (λhc=>?_) (λhc=>?_))))))))
    ·exact absurd (hc) (by simp)
    exact V (hK24 _ _ _ h O)
   exact aS (hK11 _ _ (A λ_ hK81=>B (zm O (zc O (za O (zQ hK81 (L (z O h O))))))))
  refine zM h (λ(v82:Bool)=>[(0,F v4),(3,Sc (.int .i32 94)),(4,I 0),(5,Bo false),(46,Bo v82)]) (λ(v82:Bool)=>[]) (λv82 h=>?_) λ_ _ hK84 h=>?_
  ·refine zB O h (λ_ h=>?_) λ_ h=>?_
   ·exact A λ_ hK86=>B (za O (zQ hK86 (A λ_ hK87=>B (za O (zQ hK87 (B (zm O (ze hr h λb88 h89 h90 h91 h=>J (bY O O h89 h91) O (zk hp hr h [] Tryz.call250 (dI (b88.toNat:Int)) O (λ_=>rfl) λy92 h=>zc O (za O (W (hK10 _ _ _ h O))))))))))))
   exact V (hK10 _ _ _ h O)
  refine B (zm O (J (bJ O) O (zc O (zm O (zb (decide ((List.length v4:Int)>=2)) (λhb93=>?_) λhb93=>?_)))))
  ·refine z1 hb93 h λh=>zG hb93 O (N O) (ze hr h λb94 h95 h96 h97 h=>zG hb93 O (bY O O h95 h97) (zG hb93 O (aX O O O) (zy hb93 O (zm O (zb ((b94.toNat:Int)==48) (λhb98=>?_) λhb98=>?_)))))
   ·refine z1 hb98 h λh=>zG hb98 O (N O) (ze hr h λb99 h100 h101 h102 h=>zG hb98 O (bY O O h100 h102) (zK hb98 O hp hr h [] Tryz.call250 (dI (b99.toNat:Int)) O (λ_=>rfl) λy103 h=>zG hb98 O (aX O O O) (zG hb98 O (N O) (zb (y103==98) (λhb104=>?_) λhb104=>?_))))
    ·exact z1 hb104 h λh=>zH 4 O hb104 (zG hb98 O (cY hb104 O O) (zG hb98 O (N O) (zH 4 O O (zG hb98 O (tV O O) (zy hb98 O (W (hK84 _ _ _ h O)))))))
    refine z2 hb104 h λh=>zG hb104 O (N O) (ze hr h λb105 h106 h107 h108 h=>zG hb104 O (bY O O h106 h108) (zK hb104 O hp hr h [] Tryz.call250 (dI (b105.toNat:Int)) O (λ_=>rfl) λy109 h=>zG hb104 O (aX O O O) (zG hb98 O (cU hb104 O O) (zG hb98 O (N O) (zb (y109==111) (λhb110=>?_) λhb110=>?_)))))
    ·exact z1 hb110 h λh=>zH 4 O hb110 (zG hb98 O (cY hb110 O O) (zy hb98 O (W (hK84 _ _ _ h O))))
    exact z2 hb110 h λh=>zG hb110 O (N O) (ze hr h λb111 h112 h113 h114 h=>zG hb110 O (bY O O h112 h114) (zK hb110 O hp hr h [] Tryz.call250 (dI (b111.toNat:Int)) O (λ_=>rfl) λy115 h=>zG hb110 O (aX O O O) (zG hb98 O (cU hb110 O O) (zy hb98 O (W (hK84 _ _ _ h O))))))
   exact z2 hb98 h λh=>zH 5 O hb98 (zu O (zu O (zu O (zu O (zH 2 O hb98 (zu O (zu O (zu O (zu O (zg hb98 O (zw hb98 O (W (hK84 _ _ _ h O)))))))))))))
  exact z2 hb93 h λh=>zH 3 O hb93 (zw hb93 O (zm O (zH 5 O O (zu O (zu O (zu O (zu O (zH 2 O O (zu O (zu O (zu O (zu O (zg O O (J (de O O) O (W (hK84 _ _ _ h O))))))))))))))))
 refine A λ_ hK116=>B (zm O (J (bJ O) O (zc O (zm O (zb (decide ((List.length p0:Int)>=1)) (λhb117=>?_) λhb117=>?_)))))
 ·refine z1 hb117 h λh=>zG hb117 O (N O) (ze hr h λb118 h119 h120 h121 h=>zG hb117 O (bY O O h119 h121) (zG hb117 O (aX O O O) (zG hb117 O (N O) (zb ((b118.toNat:Int)==45) (λhb122=>?_) λhb122=>?_))))
  ·refine z1 hb122 h λh=>zH 3 O hb122 (zG hb117 O (cY hb122 O O) (zy hb117 O (zQ hK116 (cb O (λhc=>?_) (λhc=>?_)))))
   ·exact B (zm O (zd hr h λhg123 h=>J (ir O O hg123.1 hg123.2) O (za O (W (hK6 _ _ _ h O)))))
   exact absurd (hc) (by simp)
  refine z2 hb122 h λh=>zG hb122 O (N O) (ze hr h λb124 h125 h126 h127 h=>zG hb122 O (bY O O h125 h127) (zG hb122 O (aX O O O) (zG hb117 O (cU hb122 O O) (zy hb117 O (zQ hK116 (zB O h (λ_ h=>?_) λ_ h=>?_))))))
  ·exact B (zm O (zd hr h λhg129 h=>J (ir O O hg129.1 hg129.2) O (za O (W (hK6 _ _ _ h O)))))
  exact V (hK6 _ _ _ h O)
 refine z2 hb117 h λh=>zH 4 O hb117 (zu O (zu O (zu O (zg hb117 O (zw hb117 O (zQ hK116 (cb O (λhc=>?_) (λhc=>?_))))))))
 ·exact absurd (hc) (by simp)
 exact V (hK6 _ _ _ h O)
def jh (n:Nat) (p0:ByS) (p1:Int) (p2:Int):D (Int×Int):=
 br (p0==([]:ByS)) (.ok (0,2)) (jn (λ(v8:ByS×Int)=>jn (λ(v11:Int)=>jn (λ(v15:Int)=>gd ((0:Int)<=(IntKind.wrap .u64 v11)) (iter (λnext25 (v24:Bool×Int×Int)=>br (decide (v24.2.2<(List.length (ofBytes v8.1):Int))) (el (ofBytes v8.1) v24.2.2 λx32=>jn (λ(v37:Int)=>br (decide (v37>=(IntKind.wrap .u8 v8.2))) (.ok (0,2)) (br (decide (v24.2.1>=v15)) (.ok (IntKind.wrap .u64 ((oG .u64 1 (IntKind.wrap .u64 v11)) - 1),1)) (br (decide ((IntKind.wrap .u64 ((IntKind.wrap .u64 (v24.2.1*(IntKind.wrap .u64 v8.2)))+(IntKind.wrap .u64 v37)))<(IntKind.wrap .u64 (v24.2.1*(IntKind.wrap .u64 v8.2))))) (.ok (IntKind.wrap .u64 ((oG .u64 1 (IntKind.wrap .u64 v11)) - 1),1)) (br (decide ((IntKind.wrap .u64 ((IntKind.wrap .u64 (v24.2.1*(IntKind.wrap .u64 v8.2)))+(IntKind.wrap .u64 v37)))>(IntKind.wrap .u64 ((oG .u64 1 (IntKind.wrap .u64 v11)) - 1)))) (.ok (IntKind.wrap .u64 ((oG .u64 1 (IntKind.wrap .u64 v11)) - 1),1)) (gd (cr (v24.2.2+1)) (next25 (v24.1,IntKind.wrap .u64 ((IntKind.wrap .u64 (v24.2.1*(IntKind.wrap .u64 v8.2)))+(IntKind.wrap .u64 v37)),v24.2.2+1))))))) λj38=>jn (λ(v57:Bool)=>br v57 (gd (cr (v24.2.2+1)) (next25 (true,v24.2.1,v24.2.2+1))) (jn (λ(v63:Bool)=>br v63 (j38 (IntKind.wrap .u8 (x32 - 48))) (D.bind (eg x32) λy68=>br (decide (97<=y68)) (D.bind (eg x32) λy70=>br (decide (y70<=122)) (D.bind (eg x32) λy72=>j38 (IntKind.wrap .u8 ((IntKind.wrap .u8 (y72 - 97))+10))) (.ok (0,2))) (.ok (0,2)))) λj64=>br (decide (48<=x32)) (j64 ((decide (x32<=57)))) (j64 (false)))) λj58=>br (x32==95) (j58 ((p1==0))) (j58 (false))) (br v24.1 (D.bind (ng n p0) λy80=>br (!y80) (.ok (0,2)) (.ok (v24.2.1,0))) (.ok (v24.2.1,0)))) n (false,0,0))) λj16=>br (v8.2==10) (j16 (1844674407370955162)) (br (v8.2==16) (j16 (1152921504606846976)) (gd (((IntKind.wrap .u64 v8.2):Int)≠0) (j16 (IntKind.wrap .u64 ((IntKind.wrap .u64 (Int.tdiv 18446744073709551615 (IntKind.wrap .u64 v8.2)))+1)))))) λj12=>br (p2==0) (j12 (64)) (br (decide (p2<0)) (.ok (0,4)) (br (decide (p2>64)) (.ok (0,4)) (j12 (p2))))) λj9=>jn (λ(v98:Bool)=>br v98 (j9 (p0,p1)) (br (p1==0) (el p0 0 λb106=>br ((b106.toNat:Int)==48) (jn (λ(v111:Bool)=>br v111 (gd ((0:Int)<=2/\2<=(List.length p0:Int)) (j9 (dK p0 2,2))) (jn (λ(v117:Bool)=>br v117 (gd ((0:Int)<=2/\2<=(List.length p0:Int)) (j9 (dK p0 2,8))) (br (decide ((List.length p0:Int)>=3)) (el p0 1 λb125=>D.bind (eg (b125.toNat:Int)) λy129=>br (y129==120) (gd ((0:Int)<=2/\2<=(List.length p0:Int)) (j9 (dK p0 2,16))) (gd ((0:Int)<=1/\1<=(List.length p0:Int)) (j9 (dK p0 1,8)))) (gd ((0:Int)<=1/\1<=(List.length p0:Int)) (j9 (dK p0 1,8))))) λj118=>br (decide ((List.length p0:Int)>=3)) (el p0 1 λb138=>D.bind (eg (b138.toNat:Int)) λy142=>j118 ((y142==111))) (j118 (false)))) λj112=>br (decide ((List.length p0:Int)>=3)) (el p0 1 λb144=>D.bind (eg (b144.toNat:Int)) λy148=>j112 ((y148==98))) (j112 (false))) (j9 (p0,10))) (.ok (0,3)))) λj99=>br (decide (2<=p1)) (j99 ((decide (p1<=36)))) (j99 (false)))
theorem qQ (n:Nat) (p0:ByS) (p1:Int) (p2:Int):CT Tryz.prog 228 [F p0,I p1,I p2] [] (jh n p0 p1 p2) (λx=>.fZ [Sc (.int .u64 x.1),Oi x.2]) (λ_=>[]):=by
 refine zC Tryz.func228 O λr hp h hr E hE=>A λ_ hK1=>B (za O (za O (zQ hK1 (A λ_ hK2=>A λ_ hK3=>B (zm O (J (iS O O) O (zQ hK3 (zB O h (λ_ h=>?_) λ_ h=>?_))))))))
 ·refine A λ_ hK5=>B (J (p9 O) O ?_);exact za O (za O (zQ hK5 (L (zX (.cons (aP O) (.cons (aP O) .nil)) h O))))
 refine V (hK2 _ _ (A λ_ hK6=>B (zm O (zc O (za O (zQ hK6 (A λ_ hK7=>B (zm O (za O (zQ hK7 (zM h (λ(v8:ByS×Int)=>[(0,F v8.1),(1,I v8.2),(2,I p2),(8,Bo (p1==0)),(9,F p0)]) (λ(v8:ByS×Int)=>[]) (λv8 h=>?_) λ_ _ hK10 h=>?_)))))))))))
 ·refine zM h (λ(v11:Int)=>[(0,F v8.1),(1,I v8.2),(2,I v11),(8,Bo (p1==0)),(9,F p0)]) (λ(v11:Int)=>[]) (λv11 h=>?_) λ_ _ hK13 h=>?_
  ·refine A λ_ hK14=>B (za O (zQ hK14 (zM h (λ(v15:Int)=>[(0,F v8.1),(1,I v8.2),(2,I v11),(8,Bo (p1==0)),(9,F p0),(10,Sc (.int .u64 v15))]) (λ(v15:Int)=>[]) (λv15 h=>?_) λ_ _ hK17 h=>?_)))
   ·refine A λ_ hK18=>B (zm O (J (jy O) O (zd hr h λhg19 h=>J (zF O O hg19) O (J (tH O O) O (za O (zQ hK18 (A λ_ hK20=>B (za O (zQ hK20 (A λ_ hK21=>B (za O (zQ hK21 (A λ_ hK22=>A λ_ hK23=>B (zm O (HW (Cs:=ss) O (λ_=>rfl) O ?_)))))))))))))));refine J (ca O) O (zm O (zQ hK23 (u (zL hr h (λ(v24:Bool×Int×Int)=>[(0,F v8.1),(1,I v8.2),(2,I v11),(8,Bo (p1==0)),(9,F p0),(10,Sc (.int .u64 v15)),(11,Sc (.int .u64 (IntKind.wrap .u64 ((oG .u64 1 (IntKind.wrap .u64 v11)) - 1)))),(12,Bo v24.1),(13,Sc (.int .u64 v24.2.1)),(99,.pv (.sl (List.length (ofBytes v8.1)) (ss (ofBytes v8.1)))),(100,I (List.length (ofBytes v8.1):Int)),(101,I v24.2.2)]) (λ(v24:Bool×Int×Int)=>[]) O λ_ v24 _ hK26 h=>A λ_ hK27=>B (zc O (zQ hK27 (A λ_ hK28=>zB O h (λ_ h=>?_) λ_ h=>?_)))))))
    ·refine V (hK28 _ _ (A λ_ hK30=>u (A λ_ hK31=>B (ze hr h λx32 h33 h34 h35 h=>J (fR iD lq h33 h34 h35 O O O) O (J (dT O O) O (za O (zQ hK31 (A λ_ hK36=>B (za O (zQ hK36 (zM h (λ(v37:Int)=>[(0,F v8.1),(1,I v8.2),(2,I v11),(8,Bo (p1==0)),(9,F p0),(10,Sc (.int .u64 v15)),(11,Sc (.int .u64 (IntKind.wrap .u64 ((oG .u64 1 (IntKind.wrap .u64 v11)) - 1)))),(12,Bo v24.1),(13,Sc (.int .u64 v24.2.1)),(16,Sc (.int .u8 v37)),(99,.pv (.sl (List.length (ofBytes v8.1)) (ss (ofBytes v8.1)))),(100,I (List.length (ofBytes v8.1):Int)),(101,I v24.2.2)]) (λ(v37:Int)=>[]) (λv37 h=>?_) λ_ _ hK39 h=>?_)))))))))))
     ·refine A λ_ hK40=>A λ_ hK41=>B (zm O (zm O (J (jy O) O (zc O (zQ hK41 (zB O h (λ_ h=>?_) λ_ h=>?_))))))
      ·refine A λ_ hK43=>B (J (p9 O) O ?_);exact za O (za O (zQ hK43 (L (zX (.cons (aP O) (.cons (aP O) .nil)) h O))))
      refine V (hK40 _ _ (A λ_ hK44=>A λ_ hK45=>B (zm O (zm O (zc O (zQ hK45 (zB O h (λ_ h=>?_) λ_ h=>?_)))))))
      ·refine A λ_ hK47=>B (zm O (J (p9 O) O ?_));exact za O (za O (zQ hK47 (L (zX (.cons (aP O) (.cons (aP O) .nil)) h O))))
      refine V (hK44 _ _ (A λ_ hK48=>B (zm O (zm O (J (jy O) O (J (wN O O) O (za O (zQ hK48 (A λ_ hK49=>B (zm O (zm O (J (jy O) O (J (jm O O) O (za O (zQ hK49 (A λ_ hK50=>A λ_ hK51=>B (zm O (zm O (zc O (zm O ?_))))))))))))))))))));refine zb (decide ((IntKind.wrap .u64 ((IntKind.wrap .u64 (v24.2.1*(IntKind.wrap .u64 v8.2)))+(IntKind.wrap .u64 v37)))<(IntKind.wrap .u64 (v24.2.1*(IntKind.wrap .u64 v8.2))))) (λhb52=>?_) λhb52=>?_
      ·refine z1 hb52 h λh=>zH 3 O hb52 (zy hb52 O (zQ hK51 (cb O (λhc=>?_) (λhc=>?_))))
       ·refine A λ_ hK53=>B (zm O (J (p9 O) O ?_));exact za O (za O (zQ hK53 (L (zX (.cons (aP O) (.cons (aP O) .nil)) h O))))
       exact absurd (hc) (by simp)
      refine z2 hb52 h λh=>zG hb52 O (N O) (zG hb52 O (N O) (zG hb52 O (aX O O O) (zw hb52 O (zQ hK51 (zB O h (λ_ h=>?_) λ_ h=>?_)))))
      ·refine A λ_ hK55=>B (zm O (J (p9 O) O ?_));exact za O (za O (zQ hK55 (L (zX (.cons (aP O) (.cons (aP O) .nil)) h O))))
      exact V (hK50 _ _ (B (zm O (za O (zQ hK30 (B (zd hr h λhg56 h=>zo hg56 O (zm O (W (hK26 _ _ _ h O))))))))))
     refine u (zM h (λ(v57:Bool)=>[(0,F v8.1),(1,I v8.2),(2,I v11),(8,Bo (p1==0)),(9,F p0),(10,Sc (.int .u64 v15)),(11,Sc (.int .u64 (IntKind.wrap .u64 ((oG .u64 1 (IntKind.wrap .u64 v11)) - 1)))),(12,Bo v24.1),(13,Sc (.int .u64 v24.2.1)),(15,Sc (.int .u8 x32)),(99,.pv (.sl (List.length (ofBytes v8.1)) (ss (ofBytes v8.1)))),(100,I (List.length (ofBytes v8.1):Int)),(101,I v24.2.2),(106,Bo v57)]) (λ(v57:Bool)=>[]) (λv57 h=>?_) λ_ _ hK59 h=>?_)
     ·refine zB O h (λ_ h=>?_) λ_ h=>?_
      ·exact A λ_ hK61=>B (za O (zQ hK61 (aS (hK30 _ _ (B (zd hr h λhg62 h=>zo hg62 O (zm O (W (hK26 _ _ _ h O)))))))))
      refine zM h (λ(v63:Bool)=>[(0,F v8.1),(1,I v8.2),(2,I v11),(8,Bo (p1==0)),(9,F p0),(10,Sc (.int .u64 v15)),(11,Sc (.int .u64 (IntKind.wrap .u64 ((oG .u64 1 (IntKind.wrap .u64 v11)) - 1)))),(12,Bo v24.1),(13,Sc (.int .u64 v24.2.1)),(15,Sc (.int .u8 x32)),(99,.pv (.sl (List.length (ofBytes v8.1)) (ss (ofBytes v8.1)))),(100,I (List.length (ofBytes v8.1):Int)),(101,I v24.2.2),(112,Bo v63)]) (λ(v63:Bool)=>[]) (λv63 h=>?_) λ_ _ hK65 h=>?_
      ·refine zB O h (λ_ h=>?_) λ_ h=>?_
       ·exact B (zm O (J (tH O O) O (za O (W (hK39 _ _ _ h O)))))
       refine A λ_ hK67=>B (zm O (zk hp hr h [] Tryz.call250 (dI x32) O (λ_=>rfl) λy68 h=>zc O (zm O (zb (decide (97<=y68)) (λhb69=>?_) λhb69=>?_))))
       ·refine z1 hb69 h λh=>zG hb69 O (N O) (zK hb69 O hp hr h [] Tryz.call250 (dI x32) O (λ_=>rfl) λy70 h=>zG hb69 O (aX O O O) (zy hb69 O (za O (zQ hK67 (zB O h (λ_ h=>?_) λ_ h=>?_)))))
        ·exact B (zm O (zk hp hr h [] Tryz.call250 (dI x32) O (λ_=>rfl) λy72 h=>J (tH O O) O (J (jm O O) O (za O (W (hK39 _ _ _ h O))))))
        refine A λ_ hK73=>B (J (p9 O) O ?_);exact za O (za O (zQ hK73 (L (zX (.cons (aP O) (.cons (aP O) .nil)) h O))))
       refine z2 hb69 h λh=>zH 3 O hb69 (zw hb69 O (za O (zQ hK67 (cb O (λhc=>?_) (λhc=>?_)))))
       ·exact absurd (hc) (by simp)
       refine A λ_ hK74=>B (J (p9 O) O ?_);exact za O (za O (zQ hK74 (L (zX (.cons (aP O) (.cons (aP O) .nil)) h O))))
      refine B (zm O (zc O (zm O (zb (decide (48<=x32)) (λhb75=>?_) λhb75=>?_))))
      ·exact z1 hb75 h λh=>zG hb75 O (N O) (zG hb75 O (aX O O O) (zy hb75 O (za O (W (hK65 _ _ _ h O)))))
      exact z2 hb75 h λh=>zH 2 O hb75 (zw hb75 O (za O (W (hK65 _ _ _ h O))))
     refine B (zm O (zc O (zm O (zb (x32==95) (λhb76=>?_) λhb76=>?_))))
     ·exact z1 hb76 h λh=>zG hb76 O (N O) (zy hb76 O (za O (W (hK59 _ _ _ h O))))
     exact z2 hb76 h λh=>zg hb76 O (zw hb76 O (za O (W (hK59 _ _ _ h O))))
    refine aS (hK22 _ _ (A λ_ hK77=>A λ_ hK78=>B (zm O (zm O (zb v24.1 (λhb79=>?_) λhb79=>?_)))))
    ·refine z1 hb79 h λh=>zG hb79 O (N O) (zK hb79 O hp hr h [] Tryz.call251 (qP n p0) O (λ_=>rfl) λy80 h=>zG hb79 O (eo O) (zy hb79 O (zQ hK78 (zB O h (λ_ h=>?_) λ_ h=>?_))))
     ·refine A λ_ hK82=>B (J (p9 O) O ?_);exact za O (za O (zQ hK82 (L (zX (.cons (aP O) (.cons (aP O) .nil)) h O))))
     exact V (hK77 _ _ (A λ_ hK83=>B (zm O (za O (za O (zQ hK83 (L (zX (.cons (aP O) (.cons (aP O) .nil)) h O))))))))
    refine z2 hb79 h λh=>zH 3 O hb79 (zw hb79 O (zQ hK78 (cb O (λhc=>?_) (λhc=>?_))))
    ·exact absurd (hc) (by simp)
    exact V (hK77 _ _ (A λ_ hK84=>B (zm O (za O (za O (zQ hK84 (L (zX (.cons (aP O) (.cons (aP O) .nil)) h O))))))))
   refine A λ_ hK85=>B (zm O (zQ hK85 (u (A λ_ hK86=>B (zc O (za O (zQ hK86 (zB O h (λ_ h=>?_) λ_ h=>?_))))))))
   ·exact B (za O (W (hK17 _ _ _ h O)))
   refine A λ_ hK88=>B (zc O (za O (zQ hK88 (zB O h (λ_ h=>?_) λ_ h=>?_))))
   ·exact B (za O (W (hK17 _ _ _ h O)))
   exact B (zm O (J (jy O) O (zd hr h λhg90 h=>J (wQ O O hg90) O (J (jm O O) O (za O (W (hK17 _ _ _ h O)))))))
  refine A λ_ hK91=>B (zm O (zc O (zQ hK91 (zB O h (λ_ h=>?_) λ_ h=>?_))))
  ·exact B (za O (W (hK13 _ _ _ h O)))
  refine A λ_ hK93=>B (zm O (zc O (zm O (zb (decide (p2<0)) (λhb94=>?_) λhb94=>?_))))
  ·refine z1 hb94 h λh=>zH 2 O hb94 (zy hb94 O (zQ hK93 (cb O (λhc=>?_) (λhc=>?_))))
   ·refine A λ_ hK95=>B (J (p9 O) O ?_);exact za O (za O (zQ hK95 (L (zX (.cons (aP O) (.cons (aP O) .nil)) h O))))
   exact absurd (hc) (by simp)
  refine z2 hb94 h λh=>zG hb94 O (N O) (zG hb94 O (aX O O O) (zw hb94 O (zQ hK93 (zB O h (λ_ h=>?_) λ_ h=>?_))))
  ·refine A λ_ hK97=>B (J (p9 O) O ?_);exact za O (za O (zQ hK97 (L (zX (.cons (aP O) (.cons (aP O) .nil)) h O))))
  exact V (hK13 _ _ _ h O)
 refine u (zM h (λ(v98:Bool)=>[(0,F p0),(1,I p1),(2,I p2),(8,Bo (p1==0)),(9,F p0),(25,Bo v98)]) (λ(v98:Bool)=>[]) (λv98 h=>?_) λ_ _ hK100 h=>?_)
 ·refine zB O h (λ_ h=>?_) λ_ h=>?_
  ·exact V (hK10 _ _ _ h O)
  refine A λ_ hK102=>B (zm O (zc O (za O (zQ hK102 (zB O h (λ_ h=>?_) λ_ h=>?_)))))
  ·refine A λ_ hK104=>B (za O (zQ hK104 (A λ_ hK105=>B (zm O (ze hr h λb106 h107 h108 h109 h=>J (bY O O h107 h109) O (zc O (zQ hK105 (zB O h (λ_ h=>?_) λ_ h=>?_))))))))
   ·refine u (zM h (λ(v111:Bool)=>[(0,F p0),(2,I p2),(8,Bo (p1==0)),(9,F p0),(40,Bo v111)]) (λ(v111:Bool)=>[]) (λv111 h=>?_) λ_ _ hK113 h=>?_)
    ·refine zB O h (λ_ h=>?_) λ_ h=>?_
     ·exact A λ_ hK115=>B (za O (zQ hK115 (B (zm O (zd hr h λhg116 h=>J (ir O O hg116.1 hg116.2) O (za O (W (hK10 _ _ _ h O))))))))
     refine zM h (λ(v117:Bool)=>[(0,F p0),(2,I p2),(8,Bo (p1==0)),(9,F p0),(52,Bo v117)]) (λ(v117:Bool)=>[]) (λv117 h=>?_) λ_ _ hK119 h=>?_
     ·refine zB O h (λ_ h=>?_) λ_ h=>?_
      ·exact A λ_ hK121=>B (za O (zQ hK121 (B (zm O (zd hr h λhg122 h=>J (ir O O hg122.1 hg122.2) O (za O (W (hK10 _ _ _ h O))))))))
      refine A λ_ hK123=>B (zm O (J (bJ O) O (zc O (zm O (zb (decide ((List.length p0:Int)>=3)) (λhb124=>?_) λhb124=>?_)))))
      ·refine z1 hb124 h λh=>zG hb124 O (N O) (ze hr h λb125 h126 h127 h128 h=>zG hb124 O (bY O O h126 h128) (zK hb124 O hp hr h [] Tryz.call250 (dI (b125.toNat:Int)) O (λ_=>rfl) λy129 h=>zG hb124 O (aX O O O) (zy hb124 O (za O (zQ hK123 (zB O h (λ_ h=>?_) λ_ h=>?_))))))
       ·exact A λ_ hK131=>B (za O (zQ hK131 (B (zm O (zd hr h λhg132 h=>J (ir O O hg132.1 hg132.2) O (za O (W (hK10 _ _ _ h O))))))))
       exact A λ_ hK133=>B (za O (zQ hK133 (B (zm O (zd hr h λhg134 h=>J (ir O O hg134.1 hg134.2) O (za O (W (hK10 _ _ _ h O))))))))
      refine z2 hb124 h λh=>zH 4 O hb124 (zw hb124 O (za O (zQ hK123 (cb O (λhc=>?_) (λhc=>?_)))))
      ·exact absurd (hc) (by simp)
      exact A λ_ hK135=>B (za O (zQ hK135 (B (zm O (zd hr h λhg136 h=>J (ir O O hg136.1 hg136.2) O (za O (W (hK10 _ _ _ h O))))))))
     refine B (zm O (J (bJ O) O (zc O (zm O (zb (decide ((List.length p0:Int)>=3)) (λhb137=>?_) λhb137=>?_)))))
     ·exact z1 hb137 h λh=>zG hb137 O (N O) (ze hr h λb138 h139 h140 h141 h=>zG hb137 O (bY O O h139 h141) (zK hb137 O hp hr h [] Tryz.call250 (dI (b138.toNat:Int)) O (λ_=>rfl) λy142 h=>zG hb137 O (aX O O O) (zy hb137 O (za O (W (hK119 _ _ _ h O))))))
     exact z2 hb137 h λh=>zH 4 O hb137 (zw hb137 O (za O (W (hK119 _ _ _ h O))))
    refine B (zm O (J (bJ O) O (zc O (zm O (zb (decide ((List.length p0:Int)>=3)) (λhb143=>?_) λhb143=>?_)))))
    ·exact z1 hb143 h λh=>zG hb143 O (N O) (ze hr h λb144 h145 h146 h147 h=>zG hb143 O (bY O O h145 h147) (zK hb143 O hp hr h [] Tryz.call250 (dI (b144.toNat:Int)) O (λ_=>rfl) λy148 h=>zG hb143 O (aX O O O) (zy hb143 O (za O (W (hK113 _ _ _ h O))))))
    exact z2 hb143 h λh=>zH 4 O hb143 (zw hb143 O (za O (W (hK113 _ _ _ h O))))
   exact V (hK10 _ _ _ h O)
  refine A λ_ hK149=>B (J (p9 O) O ?_);exact za O (za O (zQ hK149 (L (zX (.cons (aP O) (.cons (aP O) .nil)) h O))))
 refine B (zm O (zc O (zm O (zb (decide (2<=p1)) (λhb150=>?_) λhb150=>?_))))
 ·exact z1 hb150 h λh=>zG hb150 O (N O) (zG hb150 O (aX O O O) (zy hb150 O (za O (W (hK100 _ _ _ h O)))))
 exact z2 hb150 h λh=>zH 2 O hb150 (zw hb150 O (za O (W (hK100 _ _ _ h O))))
def kE (n:Nat) (p0:ByS) (p1:Int) (p2:Int):D (Int×Bool):=
 D.bind (jh n p0 p1 p2) λy3=>br (y3.2 !=0) (D.bind (nC ([80,97,114,115,101,85,105,110,116]:ByS) p0 p1 p2 y3.2) λy8=>.ok (y3.1,y8)) (.ok (y3.1,false))
theorem tb (n:Nat) (p0:ByS) (p1:Int) (p2:Int):CT Tryz.prog 234 [F p0,I p1,I p2] [] (kE n p0 p1 p2) (λx=>.fZ [Sc (.int .u64 x.1),Oe 216 x.2]) (λ_=>[]):=by
 refine zC Tryz.func234 O λr hp h hr E hE=>A λ_ hK1=>B (za O (za O (zQ hK1 (A λ_ hK2=>B (zm O (zm O (zm O (jF hr h [] Tryz.call228 (qQ n p0 p1 p2) ⟨O,O,O,O,O,O,trivial⟩ O (λ_=>⟨O,O,FP O⟩) (λ_=>⟨HX,O⟩) hp (λy3 h=>?_)))))))));refine zm O (zx O (zx O (za O (za O (zQ hK2 (A λ_ hK4=>A λ_ hK5=>B (zm O (J (HY O) O (zQ hK5 (zB O h (λ_ h=>?_) λ_ h=>?_))))))))))
 ·refine A λ_ hK7=>B (zm O (zm O (zm O (zm O (zm O (jF hr h [] Tryz.call191 (ug ([80,97,114,115,101,85,105,110,116]:ByS) p0 p1 p2 y3.2) ⟨O,O,(by simp[AV.gD.lN,AV.gD,CF]<;>rfl),O,O,O,trivial⟩ O (λ_=>⟨O,O,Ex⟩) (λ_=>⟨FO,O⟩) hp (λy8 h=>?_)))))));exact za O (za O (zQ hK7 (L (zX (.cons (aP O) (.cons (aP O) .nil)) h O))))
 exact V (hK4 _ _ (A λ_ hK9=>B (zm O (za O (za O (zQ hK9 (L (zX (.cons (aP O) (.cons (aP O) .nil)) h O))))))))
def l0 (n:Nat) (p0:ByS):D (Int×Int):=
 br (decide ((List.length p0:Int)<2)) (.ok (0,0)) (el p0 1 λb8=>jn (λ(v12:Bool)=>br v12 (el p0 1 λb17=>.ok ((b17.toNat:Int),2)) (br ((b8.toNat:Int)==110) (.ok (10,2)) (br ((b8.toNat:Int)==116) (.ok (9,2)) (br ((b8.toNat:Int)==114) (.ok (13,2)) (br ((b8.toNat:Int)==120) (br (decide ((List.length p0:Int)<4)) (.ok (0,0)) (gd ((0:Int)<=2/\(2:Int)<=4/\4<=(List.length p0:Int)) (D.bind (kE n (sub p0 2 4) 16 8) λy38=>br y38.2 (.ok (0,0)) (.ok (IntKind.wrap .u8 y38.1,4))))) (.ok (0,0))))))) λj13=>br ((b8.toNat:Int)==34) (j13 (((b8.toNat:Int)==34))) (j13 (((b8.toNat:Int)==92))))
theorem uX (n:Nat) (p0:ByS):CT Tryz.prog 197 [F p0] [] (l0 n p0) (λx=>.fZ [Sc (.int .u8 x.1),I x.2]) (λ_=>[]):=by
 refine zC Tryz.func197 O λr hp h hr E hE=>A λ_ hK1=>B (za O (za O (zQ hK1 (A λ_ hK2=>A λ_ hK3=>B (zm O (J (bJ O) O (zc O (zQ hK3 (zB O h (λ_ h=>?_) λ_ h=>?_)))))))))
 ·exact A λ_ hK5=>B (za O (za O (zQ hK5 (L (zX (.cons (aP O) (.cons (aP O) .nil)) h O)))))
 refine V (hK2 _ _ (A λ_ hK6=>A λ_ hK7=>B (zm O (ze hr h λb8 h9 h10 h11 h=>J (bY O O h9 h11) O (zQ hK7 (u (zM h (λ(v12:Bool)=>[(0,F p0),(10,Sc (.int .u8 (b8.toNat:Int))),(11,Bo v12)]) (λ(v12:Bool)=>[]) (λv12 h=>?_) λ_ _ hK14 h=>?_)))))))
 ·refine zB O h (λ_ h=>?_) λ_ h=>?_
  ·exact A λ_ hK16=>B (zm O (ze hr h λb17 h18 h19 h20 h=>J (bY O O h18 h20) O (za O (za O (zQ hK16 (L (zX (.cons (aP O) (.cons (aP O) .nil)) h O)))))))
  refine A λ_ hK21=>B (zc O (za O (zQ hK21 (zB O h (λ_ h=>?_) λ_ h=>?_))))
  ·exact A λ_ hK23=>B (za O (za O (zQ hK23 (L (zX (.cons (aP O) (.cons (aP O) .nil)) h O)))))
  refine A λ_ hK24=>B (zc O (za O (zQ hK24 (zB O h (λ_ h=>?_) λ_ h=>?_))))
  ·exact A λ_ hK26=>B (za O (za O (zQ hK26 (L (zX (.cons (aP O) (.cons (aP O) .nil)) h O)))))
  refine A λ_ hK27=>B (zc O (za O (zQ hK27 (zB O h (λ_ h=>?_) λ_ h=>?_))))
  ·exact A λ_ hK29=>B (za O (za O (zQ hK29 (L (zX (.cons (aP O) (.cons (aP O) .nil)) h O)))))
  refine A λ_ hK30=>B (zc O (za O (zQ hK30 (zB O h (λ_ h=>?_) λ_ h=>?_))))
  ·refine A λ_ hK32=>A λ_ hK33=>B (zm O (J (bJ O) O (zc O (zQ hK33 (zB O h (λ_ h=>?_) λ_ h=>?_)))))
   ·exact A λ_ hK35=>B (za O (za O (zQ hK35 (L (zX (.cons (aP O) (.cons (aP O) .nil)) h O)))))
   refine V (hK32 _ _ (A λ_ hK36=>B (zm O (zd hr h λhg37 h=>J (lG O O O hg37.1 hg37.2.1 hg37.2.2) O (jF hr h [] Tryz.call234 (tb n (sub p0 2 4) 16 8) ⟨O,O,O,O,O,O,trivial⟩ O (λ_=>⟨O,O,CD O⟩) (λ_=>⟨Es,O⟩) hp (λy38 h=>?_))))));refine zm O (zx O (zx O (za O (za O (zQ hK36 (A λ_ hK39=>A λ_ hK40=>B (zm O (J (Eh O) O (zQ hK40 (zB O h (λ_ h=>?_) λ_ h=>?_))))))))))
   ·exact A λ_ hK42=>B (za O (za O (zQ hK42 (L (zX (.cons (aP O) (.cons (aP O) .nil)) h O)))))
   exact V (hK39 _ _ (A λ_ hK43=>B (zm O (J (jy O) O (za O (za O (zQ hK43 (L (zX (.cons (aP O) (.cons (aP O) .nil)) h O)))))))))
  exact V (hK6 _ _ (A λ_ hK44=>B (za O (za O (zQ hK44 (L (zX (.cons (aP O) (.cons (aP O) .nil)) h O)))))))
 refine A λ_ hK45=>B (zc O (za O (zQ hK45 (zB O h (λ_ h=>?_) λ_ h=>?_))))
 ·exact V (hK14 _ _ _ h O)
 exact B (zc O (za O (W (hK14 _ _ _ h O))))
def lg (n:Nat) (p0:ByS):D (ByS×cL):=
 br (decide ((List.length p0:Int)>65536)) (.ok (([]:ByS),(cL.mk 2 0))) (br ((List.length p0:Int)==0) (.ok (([]:ByS),(cL.mk 8 0))) (el p0 0 λb10=>br ((b10.toNat:Int) !=34) (.ok (([]:ByS),(cL.mk 8 0))) (iter (λnext21 (v20:(List Int)×Int)=>br (decide (v20.2>=(List.length p0:Int))) (.ok (([]:ByS),(cL.mk 8 (List.length p0:Int)))) (el p0 v20.2 λb27=>br ((b27.toNat:Int)==34) (gd (cr (v20.2+1)) (br (decide ((v20.2+1)<(List.length p0:Int))) (gd (cr (v20.2+1)) (.ok (([]:ByS),(cL.mk 8 (v20.2+1))))) (.ok (gR v20.1,(cL.mk 0 0))))) (el p0 v20.2 λb40=>br ((b40.toNat:Int)==92) (gd ((0:Int)<=v20.2/\v20.2<=(List.length p0:Int)) (D.bind (l0 n (dK p0 v20.2)) λy47=>br (y47.2==0) (.ok (([]:ByS),(cL.mk 8 v20.2))) (gd (k2 1 (List.length v20.1) (List.length [y47.1])) (gd (cr (v20.2+y47.2)) (next21 (v20.1++[y47.1],v20.2+y47.2)))))) (jn (λ(v55:Bool)=>br v55 (.ok (([]:ByS),(cL.mk 8 v20.2))) (el p0 v20.2 λb61=>gd (k2 1 (List.length v20.1) (List.length [(b61.toNat:Int)])) (gd (cr (v20.2+1)) (next21 (v20.1++[(b61.toNat:Int)],v20.2+1))))) λj56=>el p0 v20.2 λb67=>br (decide ((b67.toNat:Int)<32)) (j56 (true)) (el p0 v20.2 λb72=>j56 ((decide ((b72.toNat:Int)>126)))))))) n ([],1))))
theorem rC (n:Nat) (p0:ByS):CT Tryz.prog 145 [F p0] [] (lg n p0) (λx=>.fZ [F x.1,.agg [I x.2.Errno,I x.2.At]]) (λ_=>[]):=by
 refine zC Tryz.func145 O λr hp h hr E hE=>A λ_ hK1=>B (za O (aH 103 (hE _ O) O4 O ?_));refine zQ hK1 (A5 ?_);refine A λ_ hK2=>A λ_ hK3=>B (zm O (J (bJ O) O (zc O (zQ hK3 (zB O h (λ_ h=>?_) λ_ h=>?_)))))
 ·refine A λ_ hK5=>B (J (bd O O O) O ?_);exact za O (zs O (zQ hK5 (L (zX (.cons (aP O) (.cons (aT O O O) .nil)) h O))))
 refine V (hK2 _ _ (A λ_ hK6=>A λ_ hK7=>B (zm O (J (bJ O) O (zc O (zm O (zb ((List.length p0:Int)==0) (λhb8=>?_) λhb8=>?_)))))))
 ·refine z1 hb8 h λh=>zH 3 O hb8 (zy hb8 O (zQ hK7 (cb O (λhc=>?_) (λhc=>?_))))
  ·refine A λ_ hK9=>B (J (bd O O O) O ?_);exact za O (zs O (zQ hK9 (L (zX (.cons (aP O) (.cons (aT O O O) .nil)) h O))))
  exact absurd (hc) (by simp)
 refine z2 hb8 h λh=>zG hb8 O (N O) (ze hr h λb10 h11 h12 h13 h=>zG hb8 O (bY O O h11 h13) (zG hb8 O (aX O O O) (zw hb8 O (zQ hK7 (zB O h (λ_ h=>?_) λ_ h=>?_)))))
 ·refine A λ_ hK15=>B (J (bd O O O) O ?_);exact za O (zs O (zQ hK15 (L (zX (.cons (aP O) (.cons (aT O O O) .nil)) h O))))
 refine V (hK6 _ _ (A λ_ hK16=>B (za O (zQ hK16 (A λ_ hK17=>B (za O (zQ hK17 (A λ_ hK18=>AH ?_))))))));refine hK18 _ _ (A λ_ hK19=>u (bK (pA (d:=4) 10004 (sz:=1) (el:=5) (hE _ O) O O3) ?_));refine zL hr h (λ(v20:(List Int)×Int)=>[(0,F p0),(3,.ptr 103 0),(4,.arr 10004 (List.length v20.1)),(5,I v20.2)]) (λ(v20:(List Int)×Int)=>[(103,.box [I 0,I 0]),(10004,.app 5 1 (ss v20.1))]) O λ_ v20 _ hK22 h=>u (u (A λ_ hK23=>B (zm O (zm O (J (bJ O) O (zc O (za O (zQ hK23 (zB O h (λ_ h=>?_) λ_ h=>?_)))))))))
 ·refine A λ_ hK25=>B (zm O (J (bJ O) O (J (bd O O O) O ?_)));exact za O (zs O (zQ hK25 (L (zX (.cons (aP O) (.cons (aT O O O) .nil)) h O))))
 refine A λ_ hK26=>B (zm O (zm O (ze hr h λb27 h28 h29 h30 h=>J (bY O O h28 h30) O (zc O (za O (zQ hK26 (zB O h (λ_ h=>?_) λ_ h=>?_)))))))
 ·refine aS (hK19 _ _ (A λ_ hK32=>A λ_ hK33=>B (zm O (zd hr h λhg34 h=>zo hg34 O (zm O (J (bJ O) O (zc O (zQ hK33 (zB O h (λ_ h=>?_) λ_ h=>?_)))))))))
  ·refine A λ_ hK36=>B (zm O (zd hr h λhg37 h=>zo hg37 O (J (bd O O O) O ?_)));exact za O (zs O (zQ hK36 (L (zX (.cons (aP O) (.cons (aT O O O) .nil)) h O))))
  refine V (hK32 _ _ (A λ_ hK38=>B (J (kD iD lq O O O) O ?_)));refine J (we O O) O (J (bd O O O) O ?_);exact za O (zs O (zQ hK38 (L (zX (.cons (aP O) (.cons (aT O O O) .nil)) h O))))
 refine A λ_ hK39=>B (zm O (zm O (ze hr h λb40 h41 h42 h43 h=>J (bY O O h41 h43) O (zc O (za O (zQ hK39 (zB O h (λ_ h=>?_) λ_ h=>?_)))))))
 ·refine A λ_ hK45=>B (zm O (zm O (zd hr h λhg46 h=>J (ir O O hg46.1 hg46.2) O (zk hp hr h [] Tryz.call197 (uX n (dK p0 v20.2)) O (λ_=>rfl) λy47 h=>zm O (zx O (zx O (za O (za O (zQ hK45 (A λ_ hK48=>A λ_ hK49=>B (zm O (zc O (zQ hK49 (zB O h (λ_ h=>?_) λ_ h=>?_))))))))))))))
  ·refine A λ_ hK51=>B (zm O (J (bd O O O) O ?_));exact za O (zs O (zQ hK51 (L (zX (.cons (aP O) (.cons (aT O O O) .nil)) h O))))
  refine V (hK48 _ _ (A λ_ hK52=>B (zm O (zm O (bN [y47.1] iD O2 O ?_)))));refine zd hr h λhg53 h=>jo 161 ⟨jD.h,dH.h,iD,lq,s4,hE _ O,O,O,(.inl O),O3,hg53⟩ O ?_;refine za O (aY (iT 161 10004 [(0,F p0),(3,.ptr 103 0),(4,.arr 10004 (List.length (v20.1++[y47.1]))),(5,I v20.2),(7,I y47.2)] [(103,.box [I 0,I 0])] (hE _ O) O O O2 ⟨⟨_,O,O,O⟩,⟨_,O,O,O⟩,⟨_,O,O,O⟩,⟨_,O,O,O⟩,⟨_,O,O,O⟩,trivial⟩ ⟨⟨_,O,O,O,O,O⟩,trivial⟩) ?_);exact zQ hK52 (B (zm O (zm O (zd hr h λhg54 h=>zo hg54 O (za O (W (hK22 _ _ _ h O)))))))
 refine zM h (λ(v55:Bool)=>[(0,F p0),(3,.ptr 103 0),(4,.arr 10004 (List.length v20.1)),(5,I v20.2),(65,Bo v55)]) (λ(v55:Bool)=>[(103,.box [I 0,I 0]),(10004,.app 5 1 (ss v20.1))]) (λv55 h=>?_) λ_ _ hK57 h=>?_
 ·refine zB O h (λ_ h=>?_) λ_ h=>?_
  ·refine A λ_ hK59=>B (zm O (J (bd O O O) O ?_));exact za O (zs O (zQ hK59 (L (zX (.cons (aP O) (.cons (aT O O O) .nil)) h O))))
  refine A λ_ hK60=>B (zm O (zm O (zm O (ze hr h λb61 h62 h63 h64 h=>J (bY O O h62 h64) O (bN [(b61.toNat:Int)] iD O2 O ?_)))));refine zd hr h λhg65 h=>jo 126 ⟨jD.h,dH.h,iD,lq,s4,hE _ O,O,O,(.inl O),O3,hg65⟩ O ?_;refine za O (aY (iT 126 10004 [(0,F p0),(3,.ptr 103 0),(4,.arr 10004 (List.length (v20.1++[(b61.toNat:Int)]))),(5,I v20.2)] [(103,.box [I 0,I 0])] (hE _ O) O O O2 ⟨⟨_,O,O,O⟩,⟨_,O,O,O⟩,⟨_,O,O,O⟩,⟨_,O,O,O⟩,trivial⟩ ⟨⟨_,O,O,O,O,O⟩,trivial⟩) ?_);exact zQ hK60 (B (zm O (zd hr h λhg66 h=>zo hg66 O (za O (W (hK22 _ _ _ h O))))))
 refine B (zm O (zm O (ze hr h λb67 h68 h69 h70 h=>J (bY O O h68 h70) O (zc O (zm O (zb (decide ((b67.toNat:Int)<32)) (λhb71=>?_) λhb71=>?_))))))
 ·exact z1 hb71 h λh=>zH 4 O hb71 (zy hb71 O (za O (W (hK57 _ _ _ h O))))
 exact z2 hb71 h λh=>zG hb71 O (N O) (zG hb71 O (N O) (ze hr h λb72 h73 h74 h75 h=>zG hb71 O (bY O O h73 h75) (zG hb71 O (aX O O O) (zw hb71 O (za O (W (hK57 _ _ _ h O)))))))
def kR (p0:(List Int)) (p1:(List aV)) (p2:Int):D ((List Int)×(List aV)×Int):=
 br (decide ((List.length p0:Int)>0)) (gd (k2 32 (List.length p1) (List.length [(aV.mk (gR p0) false p2)])) (.ok ([],p1++[(aV.mk (gR p0) false p2)],p2))) (.ok ([],p1,p2))
theorem qj (p0:(List Int)) (p1:(List aV)) (p2:Int):CT Tryz.prog 194 [.ptr 0 0,.ptr 1 0,.ptr 2 0] [.box [.arr 3 (List.length p0)],.box [.arr 4 (List.length p1)],.box [I p2],.app 5 1 (ss p0),.app 189 3 (aV.Cs p1)] (kR p0 p1 p2) (λ_=>.fZ []) (λx=>[.box [.arr 3 (List.length x.1)],.box [.arr 4 (List.length x.2.1)],.box [I x.2.2],.app 5 1 (ss x.1),.app 189 3 (aV.Cs x.2.1)]):=by
 refine zC Tryz.func194 O λr hp h hr E hE=>A λ_ hK1=>A λ_ hK2=>B (J (ot iD lq O O O O O) O ?_);refine J (ca O) O (zc O (zQ hK2 (zB O h (λ_ h=>?_) λ_ h=>?_)))
 ·refine B (zl O (J (ot iD lq O O O O O) O ?_));refine J (we O O) O (zl O (J (bd O O O) O ?_));refine bN [(aV.mk (gR p0) false p2)] aV.Q O2 O ?_;refine zd hr h λhg4 h=>jo 112 ⟨jD.h,dH.h,aV.Q,aV.q,aV.iu,hE _ O,O,O,(.inl O),O3,hg4⟩ O ?_;refine zs O (aY (iT 112 4 [(0,.ptr 0 0),(1,.ptr 1 0),(2,.ptr 2 0)] [(0,.box [.arr 3 (List.length p0)]),(1,.box [.arr 4 (List.length (p1++[(aV.mk (gR p0) false p2)]))]),(2,.box [I p2]),(3,.app 5 1 (ss p0))] (hE _ O) O O O2 ⟨⟨_,O,O,O⟩,⟨_,O,O,O⟩,⟨_,O,O,O⟩,trivial⟩ ⟨⟨_,O,O,O,O,O⟩,⟨_,O,O,O,O,O⟩,⟨_,O,O,O,O,O⟩,⟨_,O,O,O,O,O⟩,trivial⟩) ?_);refine zQ hK1 (B (zs O (aY (eH.AA [(0,.ptr 0 0),(1,.ptr 1 0),(2,.ptr 2 0)] [(0,.box [nSl]),(1,.box [.arr 4 (List.length (p1++[(aV.mk (gR p0) false p2)]))]),(2,.box [I p2]),(4,.app 189 3 (aV.Cs (p1++[(aV.mk (gR p0) false p2)])))] ⟨O,O,O,trivial⟩ ⟨O,O,O,O,trivial⟩) ?_)));refine aY (sV (j:=0) (off:=0) 3 (sz:=1) (el:=5) (hE _ O) O O O3 O) ?_;exact W (zY .nil h O)
 refine V (hK1 _ _ (B (zs O (aY (eH.AA [(0,.ptr 0 0),(1,.ptr 1 0),(2,.ptr 2 0)] [(0,.box [nSl]),(1,.box [.arr 4 (List.length p1)]),(2,.box [I p2]),(4,.app 189 3 (aV.Cs p1))] ⟨O,O,O,trivial⟩ ⟨O,O,O,O,trivial⟩) ?_))));refine aY (sV (j:=0) (off:=0) 3 (sz:=1) (el:=5) (hE _ O) O O O3 O) ?_;exact W (zY .nil h O)
def qR (n:Nat) (p0:ByS):D (ByS×Bool):=
 iter (λnext6 (v5:Int×Int)=>br (decide (v5.2<(List.length p0:Int))) (el p0 v5.2 λb14=>br ((b14.toNat:Int)==40) (gd (cr (v5.1+1)) (gd (cr (v5.2+1)) (next6 (v5.1+1,v5.2+1)))) (br ((b14.toNat:Int)==41) (gd (cr (v5.1 - 1)) (br ((v5.1 - 1)==0) (gd ((0:Int)<=1/\(1:Int)<=v5.2/\v5.2<=(List.length p0:Int)) (.ok (sub p0 1 v5.2,true))) (gd (cr (v5.2+1)) (next6 (v5.1 - 1,v5.2+1))))) (gd (cr (v5.2+1)) (next6 (v5.1,v5.2+1))))) (.ok (([]:ByS),false))) n (0,0)
theorem zU (n:Nat) (p0:ByS):CT Tryz.prog 195 [F p0] [] (qR n p0) (λx=>.fZ [F x.1,Bo x.2]) (λ_=>[]):=by
 refine zC Tryz.func195 O λr hp h hr E hE=>A λ_ hK1=>B (za O (za O (zQ hK1 (A λ_ hK2=>B (za O (zQ hK2 (A λ_ hK3=>A λ_ hK4=>B (zm O (J (bJ O) O (zm O (zQ hK4 (u (zL hr h (λ(v5:Int×Int)=>[(0,F p0),(4,I v5.1),(7,I (List.length p0:Int)),(8,I v5.2)]) (λ(v5:Int×Int)=>[]) O λ_ v5 _ hK7 h=>A λ_ hK8=>B (zc O (zQ hK8 (A λ_ hK9=>zB O h (λ_ h=>?_) λ_ h=>?_))))))))))))))))
 ·refine V (hK9 _ _ (A λ_ hK11=>u (A λ_ hK12=>B (zm O (za O (zQ hK12 (A λ_ hK13=>B (zm O (zm O (ze hr h λb14 h15 h16 h17 h=>J (bY O O h15 h17) O (zQ hK13 (u (A λ_ hK18=>B (zc O (za O (zQ hK18 (zB O h (λ_ h=>?_) λ_ h=>?_)))))))))))))))))
  ·exact B (zm O (zd hr h λhg20 h=>zo hg20 O (za O (zQ hK11 (B (zd hr h λhg21 h=>zo hg21 O (zm O (W (hK7 _ _ _ h O)))))))))
  refine A λ_ hK22=>B (zc O (za O (zQ hK22 (zB O h (λ_ h=>?_) λ_ h=>?_))))
  ·refine A λ_ hK24=>B (zm O (zd hr h λhg25 h=>J (jT O O hg25) O (za O (zQ hK24 (A λ_ hK26=>B (zm O (zc O (zQ hK26 (zB O h (λ_ h=>?_) λ_ h=>?_)))))))))
   ·exact A λ_ hK28=>B (zm O (zm O (zd hr h λhg29 h=>J (lG O O O hg29.1 hg29.2.1 hg29.2.2) O (za O (za O (zQ hK28 (L (zX (.cons (aP O) (.cons (aP O) .nil)) h O))))))))
   exact V (hK11 _ _ (B (zd hr h λhg30 h=>zo hg30 O (zm O (W (hK7 _ _ _ h O))))))
  exact V (hK11 _ _ (B (zd hr h λhg31 h=>zo hg31 O (zm O (W (hK7 _ _ _ h O))))))
 exact aS (hK3 _ _ (A λ_ hK32=>B (za O (za O (zQ hK32 (L (zX (.cons (aP O) (.cons (aP O) .nil)) h O)))))))
def nY (n:Nat) (p0:ByS):D (Int×Int):=
 jn (λ(v3:Int)=>br (decide ((List.length p0:Int)<v3)) (.ok (0,0)) (gd ((0:Int)<=v3/\v3<=(List.length p0:Int)) (gd (mh ([34]:ByS) (jU p0 v3)) (gd (mh (([34]:ByS)++(jU p0 v3)) ([34]:ByS)) (D.bind (lg n ((([34]:ByS)++(jU p0 v3))++([34]:ByS))) λy14=>br (y14.2.Errno !=0) (.ok (0,0)) (el y14.1 0 λb20=>.ok ((b20.toNat:Int),v3))))))) λj4=>D.bind (strings_HasPrefix p0 ([92,120]:ByS)) λy25=>br y25 (j4 (4)) (j4 (2))
theorem w6 (n:Nat) (p0:ByS):CT Tryz.prog 196 [F p0] [] (nY n p0) (λx=>.fZ [Sc (.int .u8 x.1),I x.2]) (λ_=>[]):=by
 refine zC Tryz.func196 O λr hp h hr E hE=>A λ_ hK1=>B (za O (za O (zQ hK1 (A λ_ hK2=>B (za O (zQ hK2 (zM h (λ(v3:Int)=>[(0,F p0),(4,I v3)]) (λ(v3:Int)=>[]) (λv3 h=>?_) λ_ _ hK5 h=>?_)))))))
 ·refine A λ_ hK6=>A λ_ hK7=>B (zm O (J (bJ O) O (zm O (zc O (zQ hK7 (zB O h (λ_ h=>?_) λ_ h=>?_))))))
  ·exact A λ_ hK9=>B (za O (za O (zQ hK9 (L (zX (.cons (aP O) (.cons (aP O) .nil)) h O)))))
  refine V (hK6 _ _ (A λ_ hK10=>B (zm O (zm O (zd hr h λhg11 h=>J (o7 O O hg11.1 hg11.2) O (zd hr h λhg12 h=>J (iK O O hg12) O (zd hr h λhg13 h=>J (iK O O hg13) O (zk hp hr h [] Tryz.call145 (rC n ((([34]:ByS)++(jU p0 v3))++([34]:ByS))) O (λ_=>rfl) λy14 h=>zm O (zx O (zx O (aH 106 (hE _ O) O4 O ?_)))))))))));refine za O (zs O (zQ hK10 (A λ_ hK15=>A λ_ hK16=>B (zf O (zl O (zc O (zQ hK16 (zB O h (λ_ h=>?_) λ_ h=>?_))))))))
  ·exact A λ_ hK18=>B (za O (za O (zQ hK18 (L (zX (.cons (aP O) (.cons (aP O) .nil)) h O)))))
  exact V (hK15 _ _ (A λ_ hK19=>B (zm O (ze hr h λb20 h21 h22 h23 h=>J (bY O O h21 h23) O (zm O (za O (za O (zQ hK19 (L (zX (.cons (aP O) (.cons (aP O) .nil)) h O))))))))))
 refine A λ_ hK24=>B (zm O (zk hp hr h [] Tryz.call95 (jA p0 ([92,120]:ByS)) O (λ_=>rfl) λy25 h=>zQ hK24 (zB O h (λ_ h=>?_) λ_ h=>?_)))
 ·exact B (za O (W (hK5 _ _ _ h O)))
 exact V (hK5 _ _ _ h O)
def l8 (n:Nat) (p0:ByS):D ((List aV)×cL):=
 iter (λnext9 (v8:(List aV)×(List Int)×Int×Int)=>br (decide (v8.2.2.2<(List.length p0:Int))) (jn (λ(v14:Int)=>gd ((0:Int)<=v8.2.2.2/\v8.2.2.2<=(List.length p0:Int)) (D.bind (strings_HasPrefix (dK p0 v8.2.2.2) ([92,40]:ByS)) λy19=>br y19 (gd (cr (v8.2.2.2+1)) (gd ((0:Int)<=(v8.2.2.2+1)/\(v8.2.2.2+1)<=(List.length p0:Int)) (D.bind (qR n (dK p0 (v8.2.2.2+1))) λy24=>br (!y24.2) (.ok ([],(cL.mk 8 v8.2.2.2))) (D.bind (kR v8.2.1 v8.1 v14) λy30=>gd (cr (v8.2.2.2+2)) (gd (k2 32 (List.length y30.2.1) (List.length [(aV.mk y24.1 true (v8.2.2.2+2))])) (gd (cr ((List.length y24.1:Int)+3)) (gd (cr (v8.2.2.2+((List.length y24.1:Int)+3))) (next9 (y30.2.1++[(aV.mk y24.1 true (v8.2.2.2+2))],y30.1,y30.2.2,v8.2.2.2+((List.length y24.1:Int)+3)))))))))) (el p0 v8.2.2.2 λb37=>br ((b37.toNat:Int)==92) (gd ((0:Int)<=v8.2.2.2/\v8.2.2.2<=(List.length p0:Int)) (D.bind (nY n (dK p0 v8.2.2.2)) λy44=>br (y44.2==0) (.ok ([],(cL.mk 8 v8.2.2.2))) (gd (k2 1 (List.length v8.2.1) (List.length [y44.1])) (gd (cr (v8.2.2.2+y44.2)) (next9 (v8.1,v8.2.1++[y44.1],v14,v8.2.2.2+y44.2)))))) (jn (λ(v52:Bool)=>br v52 (.ok ([],(cL.mk 8 v8.2.2.2))) (el p0 v8.2.2.2 λb58=>gd (k2 1 (List.length v8.2.1) (List.length [(b58.toNat:Int)])) (gd (cr (v8.2.2.2+1)) (next9 (v8.1,v8.2.1++[(b58.toNat:Int)],v14,v8.2.2.2+1))))) λj53=>el p0 v8.2.2.2 λb64=>br (decide ((b64.toNat:Int)<32)) (j53 (true)) (el p0 v8.2.2.2 λb69=>br (decide ((b69.toNat:Int)>126)) (j53 (true)) (el p0 v8.2.2.2 λb74=>j53 (((b74.toNat:Int)==34)))))))) λj15=>br ((List.length v8.2.1:Int)==0) (j15 (v8.2.2.2)) (j15 (v8.2.2.1))) (D.bind (kR v8.2.1 v8.1 v8.2.2.1) λy81=>.ok (y81.2.1,(cL.mk 0 0)))) n ([],[],0,0)
theorem sD (n:Nat) (p0:ByS):CT Tryz.prog 144 [F p0] [] (l8 n p0) (λx=>.fZ [.pv (.sl (List.length x.1) (aV.Cs x.1)),.agg [I x.2.Errno,I x.2.At]]) (λ_=>[]):=by
 refine zC Tryz.func144 O λr hp h hr E hE=>A λ_ hK1=>B (za O (aH 103 (hE _ O) O4 O ?_));refine zQ hK1 (A λ_ hK2=>B (aH 104 (hE _ O) O4 O ?_));refine zQ hK2 (A λ_ hK3=>B (aH 105 (hE _ O) O4 O ?_));refine zQ hK3 (A λ_ hK4=>B (aH 106 (hE _ O) O4 O ?_));refine zs O (zQ hK4 (A λ_ hK5=>B (J (qb O O) O ?_)));refine za O (zQ hK5 (A λ_ hK6=>A λ_ hK7=>B (za O (zQ hK7 (u (bK (sV (j:=104) (off:=0) 26656 (sz:=3) (el:=189) (hE _ O) O O O3 O) ?_))))));refine bK (sV (j:=105) (off:=0) 26720 (sz:=1) (el:=5) (hE _ O) O O O3 O) ?_;refine zL hr h (λ(v8:(List aV)×(List Int)×Int×Int)=>[(0,F p0),(3,.ptr 103 0),(4,.ptr 104 0),(5,.ptr 105 0),(6,.ptr 106 0),(7,.fn 194 [] [.ptr 105 0,.ptr 104 0,.ptr 106 0]),(8,I v8.2.2.2)]) (λ(v8:(List aV)×(List Int)×Int×Int)=>[(103,.box [I 0,I 0]),(104,.box [.arr 26656 (List.length v8.1)]),(105,.box [.arr 26720 (List.length v8.2.1)]),(106,.box [I v8.2.2.1]),(26656,.app 189 3 (aV.Cs v8.1)),(26720,.app 5 1 (ss v8.2.1))]) O λ_ v8 _ hK10 h=>A λ_ hK11=>A λ_ hK12=>B (zm O (zm O (J (bJ O) O (zc O (zQ hK12 (zB O h (λ_ h=>?_) λ_ h=>?_))))))
 ·refine V (hK11 _ _ (u (zM h (λ(v14:Int)=>[(0,F p0),(3,.ptr 103 0),(4,.ptr 104 0),(5,.ptr 105 0),(6,.ptr 106 0),(7,.fn 194 [] [.ptr 105 0,.ptr 104 0,.ptr 106 0]),(8,I v8.2.2.2)]) (λ(v14:Int)=>[(103,.box [I 0,I 0]),(104,.box [.arr 26656 (List.length v8.1)]),(105,.box [.arr 26720 (List.length v8.2.1)]),(106,.box [I v14]),(26656,.app 189 3 (aV.Cs v8.1)),(26720,.app 5 1 (ss v8.2.1))]) (λv14 h=>?_) λ_ _ hK16 h=>?_)))
  ·refine u (A λ_ hK17=>B (zm O (zm O (zd hr h λhg18 h=>J (ir O O hg18.1 hg18.2) O (zk hp hr h [] Tryz.call95 (jA (dK p0 v8.2.2.2) ([92,40]:ByS)) O (λ_=>rfl) λy19 h=>za O (zQ hK17 (zB O h (λ_ h=>?_) λ_ h=>?_)))))))
   ·refine A λ_ hK21=>B (zm O (zm O (zd hr h λhg22 h=>zo hg22 O (zd hr h λhg23 h=>J (ir O O hg23.1 hg23.2) O (zk hp hr h [] Tryz.call195 (zU n (dK p0 (v8.2.2.2+1))) O (λ_=>rfl) λy24 h=>zm O (zx O (zx O (za O (za O (zQ hK21 (A λ_ hK25=>A λ_ hK26=>B (zm O (J (eo O) O (zQ hK26 (zB O h (λ_ h=>?_) λ_ h=>?_)))))))))))))))
    ·refine A λ_ hK28=>B (zm O (J (bd O O O) O ?_));refine za O (zs O (zQ hK28 (bK (ua (d:=2) O O) ?_)));exact L (zX (.cons (aP O) (.cons (aT O O O) .nil)) h O)
    refine V (hK25 _ _ (A λ_ hK29=>B (zm O (jF hr h [105,104,106,26720,26656] Tryz.call194 (qj v8.2.1 v8.1 v14) ⟨O,O,O,O,O,O,⟨hE _ O,⟨hE _ O,trivial⟩⟩⟩ O (λ_=>O3) (λ_=>O2) hp (λy30 h=>?_)))));refine zQ hK29 (A λ_ hK31=>B (zl O (zm O (zm O (zd hr h λhg32 h=>zo hg32 O (J (bd O O O) O ?_))))));refine bN [(aV.mk y24.1 true (v8.2.2.2+2))] aV.Q O2 O ?_;refine zd hr h λhg33 h=>jo 155 ⟨jD.h,dH.h,aV.Q,aV.q,aV.iu,hE _ O,O,O,(.inl O),O3,hg33⟩ O ?_;refine zs O (aY (iT 155 26656 [(0,F p0),(3,.ptr 103 0),(4,.ptr 104 0),(5,.ptr 105 0),(6,.ptr 106 0),(7,.fn 194 [] [.ptr 105 0,.ptr 104 0,.ptr 106 0]),(8,I v8.2.2.2),(9,F y24.1)] [(103,.box [I 0,I 0]),(104,.box [.arr 26656 (List.length (y30.2.1++[(aV.mk y24.1 true (v8.2.2.2+2))]))]),(26720,.app 5 1 (ss y30.1)),(105,.box [.arr 26720 (List.length y30.1)]),(106,.box [I y30.2.2])] (hE _ O) O O O2 ⟨⟨_,O,O,O⟩,⟨_,O,O,O⟩,⟨_,O,O,O⟩,⟨_,O,O,O⟩,⟨_,O,O,O⟩,⟨_,O,O,O⟩,⟨_,O,O,O⟩,⟨_,O,O,O⟩,trivial⟩ ⟨⟨_,O,O,O,O,O⟩,⟨_,O,O,O,O,O⟩,⟨_,O,O,O,O,O⟩,⟨_,O,O,O,O,O⟩,⟨_,O,O,O,O,O⟩,trivial⟩) ?_);exact zQ hK31 (B (zm O (zm O (J (bJ O) O (zd hr h λhg34 h=>zo hg34 O (zd hr h λhg35 h=>zo hg35 O (za O (W (hK10 _ _ _ h O)))))))))
   refine A λ_ hK36=>B (zm O (zm O (ze hr h λb37 h38 h39 h40 h=>J (bY O O h38 h40) O (zc O (za O (zQ hK36 (zB O h (λ_ h=>?_) λ_ h=>?_)))))))
   ·refine A λ_ hK42=>B (zm O (zm O (zd hr h λhg43 h=>J (ir O O hg43.1 hg43.2) O (zk hp hr h [] Tryz.call196 (w6 n (dK p0 v8.2.2.2)) O (λ_=>rfl) λy44 h=>zm O (zx O (zx O (za O (za O (zQ hK42 (A λ_ hK45=>A λ_ hK46=>B (zm O (zc O (zQ hK46 (zB O h (λ_ h=>?_) λ_ h=>?_))))))))))))))
    ·refine A λ_ hK48=>B (zm O (J (bd O O O) O ?_));refine za O (zs O (zQ hK48 (bK (ua (d:=2) O O) ?_)));exact L (zX (.cons (aP O) (.cons (aT O O O) .nil)) h O)
    refine V (hK45 _ _ (A λ_ hK49=>B (zl O (zm O (bN [y44.1] iD O2 O ?_)))));refine zd hr h λhg50 h=>jo 180 ⟨jD.h,dH.h,iD,lq,s4,hE _ O,O,O,(.inl O),O3,hg50⟩ O ?_;refine zs O (aY (iT 180 26720 [(0,F p0),(3,.ptr 103 0),(4,.ptr 104 0),(5,.ptr 105 0),(6,.ptr 106 0),(7,.fn 194 [] [.ptr 105 0,.ptr 104 0,.ptr 106 0]),(8,I v8.2.2.2),(12,I y44.2)] [(103,.box [I 0,I 0]),(26656,.app 189 3 (aV.Cs v8.1)),(104,.box [.arr 26656 (List.length v8.1)]),(105,.box [.arr 26720 (List.length (v8.2.1++[y44.1]))]),(106,.box [I v14])] (hE _ O) O O O2 ⟨⟨_,O,O,O⟩,⟨_,O,O,O⟩,⟨_,O,O,O⟩,⟨_,O,O,O⟩,⟨_,O,O,O⟩,⟨_,O,O,O⟩,⟨_,O,O,O⟩,⟨_,O,O,O⟩,trivial⟩ ⟨⟨_,O,O,O,O,O⟩,⟨_,O,O,O,O,O⟩,⟨_,O,O,O,O,O⟩,⟨_,O,O,O,O,O⟩,⟨_,O,O,O,O,O⟩,trivial⟩) ?_);exact zQ hK49 (B (zm O (zm O (zd hr h λhg51 h=>zo hg51 O (za O (W (hK10 _ _ _ h O)))))))
   refine zM h (λ(v52:Bool)=>[(0,F p0),(3,.ptr 103 0),(4,.ptr 104 0),(5,.ptr 105 0),(6,.ptr 106 0),(7,.fn 194 [] [.ptr 105 0,.ptr 104 0,.ptr 106 0]),(8,I v8.2.2.2),(84,Bo v52)]) (λ(v52:Bool)=>[(103,.box [I 0,I 0]),(104,.box [.arr 26656 (List.length v8.1)]),(105,.box [.arr 26720 (List.length v8.2.1)]),(106,.box [I v14]),(26656,.app 189 3 (aV.Cs v8.1)),(26720,.app 5 1 (ss v8.2.1))]) (λv52 h=>?_) λ_ _ hK54 h=>?_
   ·refine zB O h (λ_ h=>?_) λ_ h=>?_
    ·refine A λ_ hK56=>B (zm O (J (bd O O O) O ?_));refine za O (zs O (zQ hK56 (bK (ua (d:=2) O O) ?_)));exact L (zX (.cons (aP O) (.cons (aT O O O) .nil)) h O)
    refine A λ_ hK57=>mW [] ?_;refine bu [0,1,2,3,4,5,6] O (by kernel_rfl) (zD O (bj O O O) O (zD O (N O) O (zD O (N O) O (ze hr h λb58 h59 h60 h61 h=>zD O (bY O O h59 h61) O (iL [(b58.toNat:Int)] iD O (bQ O) O2 O2 ?_)))));refine zd hr h λhg62 h=>zr 127 O (bQ O) ⟨jD.h,dH.h,iD,lq,s4,hE _ O,O,O,(.inl O),O3,hg62⟩ O O ⟨y O,?_⟩;refine bV O O8 O (λe6 he=>⟨y O,?_⟩);subst he;refine gG (iT 127 26720 [(0,F p0),(3,.ptr 103 0),(4,.ptr 104 0),(5,.ptr 105 0),(6,.ptr 106 0),(7,.fn 194 [] [.ptr 105 0,.ptr 104 0,.ptr 106 0]),(8,I v8.2.2.2)] [(103,.box [I 0,I 0]),(26656,.app 189 3 (aV.Cs v8.1)),(104,.box [.arr 26656 (List.length v8.1)]),(105,.box [.arr 26720 (List.length (v8.2.1++[(b58.toNat:Int)]))]),(106,.box [I v14])] (hE _ O) O O O2 ⟨⟨_,O,O,O⟩,⟨_,O,O,O⟩,⟨_,O,O,O⟩,⟨_,O,O,O⟩,⟨_,O,O,O⟩,⟨_,O,O,O⟩,⟨_,O,O,O⟩,trivial⟩ ⟨⟨_,O,O,O,O,O⟩,⟨_,O,O,O,O,O⟩,⟨_,O,O,O,O,O⟩,⟨_,O,O,O,O,O⟩,⟨_,O,O,O,O,O⟩,trivial⟩) ?_;exact hK57 _ _ (B (zm O (zd hr h λhg63 h=>zo hg63 O (za O (W (hK10 _ _ _ h O))))))
   refine B (zm O (zm O (ze hr h λb64 h65 h66 h67 h=>J (bY O O h65 h67) O (zc O (zm O (zb (decide ((b64.toNat:Int)<32)) (λhb68=>?_) λhb68=>?_))))))
   ·exact z1 hb68 h λh=>zH 4 O hb68 (zy hb68 O (zm O (zH 4 O O (zt O (za O (W (hK54 _ _ _ h O)))))))
   refine z2 hb68 h λh=>zG hb68 O (N O) (zG hb68 O (N O) (ze hr h λb69 h70 h71 h72 h=>zG hb68 O (bY O O h70 h72) (zG hb68 O (aX O O O) (zw hb68 O (zm O (zb (decide ((b69.toNat:Int)>126)) (λhb73=>?_) λhb73=>?_))))))
   ·exact z1 hb73 h λh=>zH 4 O hb73 (zy hb73 O (za O (W (hK54 _ _ _ h O))))
   exact z2 hb73 h λh=>zG hb73 O (N O) (zG hb73 O (N O) (ze hr h λb74 h75 h76 h77 h=>zG hb73 O (bY O O h75 h77) (zG hb73 O (aX O O O) (zw hb73 O (za O (W (hK54 _ _ _ h O)))))))
  refine A λ_ hK78=>B (J (ot iD lq O O O O O) O ?_);refine J (ca O) O (zc O (zQ hK78 (zB O h (λ_ h=>?_) λ_ h=>?_)))
  ·exact B (zm O (zs O (W (hK16 _ _ _ h O))))
  exact V (hK16 _ _ _ h O)
 refine aS (hK6 _ _ (A λ_ hK80=>B (zm O (jF hr h [105,104,106,26720,26656] Tryz.call194 (qj v8.2.1 v8.1 v8.2.2.1) ⟨O,O,O,O,O,O,⟨hE _ O,⟨hE _ O,trivial⟩⟩⟩ O (λ_=>O3) (λ_=>O2) hp (λy81 h=>?_)))));refine zQ hK80 (A λ_ hK82=>B (J (ot aV.Q aV.q O O O O O) O ?_));refine J (bd O O O) O ?_;exact za O (zs O (zQ hK82 (L (zX (.cons (aP O) (.cons (aT O O O) .nil)) h O))))
def kt (n:Nat) (p0:ByS):D (Int×Bool):=
 iter (λnext6 (v5:Bool×Int)=>br (decide (v5.2<(List.length p0:Int))) (jn (λ(v11:Bool×Int)=>gd (cr (v11.2+1)) (next6 (v11.1,v11.2+1))) λj12=>el p0 v5.2 λb16=>br ((b16.toNat:Int)==34) (gd (cr (v5.2+1)) (.ok (v5.2+1,v5.1))) (el p0 v5.2 λb24=>br ((b24.toNat:Int)==92) (br v5.1 (gd (cr (v5.2+1)) (j12 (true,v5.2+1))) (gd (cr (v5.2+1)) (br (decide ((v5.2+1)<(List.length p0:Int))) (gd (cr (v5.2+1)) (el p0 (v5.2+1) λb35=>gd (cr (v5.2+1)) (j12 (((b35.toNat:Int)==40),v5.2+1)))) (gd (cr (v5.2+1)) (j12 (false,v5.2+1)))))) (j12 (v5.1,v5.2)))) (.ok (0,false))) n (false,1)
theorem vM (n:Nat) (p0:ByS):CT Tryz.prog 143 [F p0] [] (kt n p0) (λx=>.fZ [I x.1,Bo x.2]) (λ_=>[]):=by
 refine zC Tryz.func143 O λr hp h hr E hE=>A λ_ hK1=>B (za O (za O (zQ hK1 (A λ_ hK2=>B (za O (zQ hK2 (A λ_ hK3=>A λ_ hK4=>B (za O (zQ hK4 (u (zL hr h (λ(v5:Bool×Int)=>[(0,F p0),(4,Bo v5.1),(5,I v5.2)]) (λ(v5:Bool×Int)=>[]) O λ_ v5 _ hK7 h=>A λ_ hK8=>A λ_ hK9=>B (zm O (zm O (J (bJ O) O (zc O (zQ hK9 ?_))))))))))))))));refine zB O h (λ_ h=>?_) λ_ h=>?_
 ·refine V (hK8 _ _ (zM h (λ(v11:Bool×Int)=>[(0,F p0),(4,Bo v11.1),(5,I v11.2)]) (λ(v11:Bool×Int)=>[]) (λv11 h=>?_) λ_ _ hK13 h=>?_))
  ·exact B (zm O (zd hr h λhg14 h=>zo hg14 O (za O (W (hK7 _ _ _ h O)))))
  refine u (u (A λ_ hK15=>B (zm O (zm O (ze hr h λb16 h17 h18 h19 h=>J (bY O O h17 h19) O (zc O (za O (zQ hK15 (zB O h (λ_ h=>?_) λ_ h=>?_)))))))))
  ·exact A λ_ hK21=>B (zm O (zd hr h λhg22 h=>zo hg22 O (zm O (za O (za O (zQ hK21 (L (zX (.cons (aP O) (.cons (aP O) .nil)) h O))))))))
  refine A λ_ hK23=>B (zm O (zm O (ze hr h λb24 h25 h26 h27 h=>J (bY O O h25 h27) O (zc O (za O (zQ hK23 (zB O h (λ_ h=>?_) λ_ h=>?_)))))))
  ·refine A λ_ hK29=>B (zm O (zm O (zb v5.1 (λhb30=>?_) λhb30=>?_)))
   ·exact z1 hb30 h λh=>zH 6 O hb30 (zu O (zu O (zu O (zu O (zu O (zg hb30 O (zy hb30 O (za O (zQ hK29 (B (zm O (zd hr h λhg31 h=>zo hg31 O (za O (W (hK13 _ _ _ h O)))))))))))))))
   refine z2 hb30 h λh=>zG hb30 O (N O) (zd hr h λhg32 h=>zG hb30 O (gV O O hg32) (zG hb30 O (N O) (zG hb30 O (bJ O) (zG hb30 O (aX O O O) (zG hb30 O (N O) (zb (decide ((v5.2+1)<(List.length p0:Int))) (λhb33=>?_) λhb33=>?_))))))
   ·exact z1 hb33 h λh=>zG hb33 O (N O) (zG hb33 O (N O) (zd hr h λhg34 h=>zG hb33 O (gV O O hg34) (ze hr h λb35 h36 h37 h38 h=>zG hb33 O (bY O O h36 h38) (zG hb33 O (aX O O O) (zG hb30 O (cY hb33 O O) (zw hb30 O (za O (zQ hK29 (B (zm O (zd hr h λhg39 h=>zo hg39 O (za O (W (hK13 _ _ _ h O))))))))))))))
   exact z2 hb33 h λh=>zH 5 O hb33 (zG hb30 O (cU hb33 O O) (zw hb30 O (za O (zQ hK29 (B (zm O (zd hr h λhg40 h=>zo hg40 O (za O (W (hK13 _ _ _ h O))))))))))
  exact V (hK13 _ _ _ h O)
 exact aS (hK3 _ _ (A λ_ hK41=>B (za O (za O (zQ hK41 (L (zX (.cons (aP O) (.cons (aP O) .nil)) h O)))))))
def gL (n:Nat) (p0:bf):D (Bool×bf):=
 gd ((0:Int)<=p0.at_/\p0.at_<=(List.length p0.text:Int)) (D.bind (kt n (dK p0.text p0.at_)) λy4=>br (y4.1==0) (.ok (false,p0)) (gd (cr (p0.at_+y4.1)) (gd ((0:Int)<=p0.at_/\(p0.at_:Int)<=(p0.at_+y4.1)/\(p0.at_+y4.1)<=(List.length p0.text:Int)) (br y4.2 (gd (cr (y4.1 - 1)) (gd ((0:Int)<=1/\(1:Int)<=(y4.1 - 1)/\(y4.1 - 1)<=(List.length (sub p0.text p0.at_ (p0.at_+y4.1)):Int)) (D.bind (l8 n (sub (sub p0.text p0.at_ (p0.at_+y4.1)) 1 (y4.1 - 1))) λy19=>br (y19.2.Errno !=0) (.ok (false,p0)) (gd (cr (y4.1 - 1)) (gd ((0:Int)<=1/\(1:Int)<=(y4.1 - 1)/\(y4.1 - 1)<=(List.length (sub p0.text p0.at_ (p0.at_+y4.1)):Int)) (D.bind (cf 4 (sub (sub p0.text p0.at_ (p0.at_+y4.1)) 1 (y4.1 - 1)) y4.1 p0) λy26=>.ok (true,y26))))))) (D.bind (lg n (sub p0.text p0.at_ (p0.at_+y4.1))) λy29=>br (y29.2.Errno !=0) (.ok (false,p0)) (D.bind (cf 3 y29.1 y4.1 p0) λy35=>.ok (true,y35)))))))
theorem tc (n:Nat) (p0:bf):CT Tryz.prog 101 [.ptr 0 0] [.box [F p0.text,I p0.at_,.arr 1 (List.length p0.out),Bo p0.line],.app 49 4 (aA.Cs p0.out)] (gL n p0) (λx=>Bo x.1) (λx=>[.box [F x.2.text,I x.2.at_,.arr 1 (List.length x.2.out),Bo x.2.line],.app 49 4 (aA.Cs x.2.out)]):=by
 refine zC Tryz.func101 O λr hp h hr E hE=>A λ_ hK1=>B (za O (zQ hK1 (A λ_ hK2=>bu [0,1,2,3,4,5,6,7,8,9,10,11,12,13,14] O (by kernel_rfl) (zD O (N O) O (zD O (c7 O) O (zD O (bF O) O (zD O (bj O O O) O (zD O (N O) O (zD O (c7 O) O (zD O (bF O) O (zD O (bj O O O) O (zd hr h λhg3 h=>zD O (ir O O hg3.1 hg3.2) O (dG O (bQ O) hr h [] Tryz.call143 (vM n (dK p0.text p0.at_)) ⟨O,O,O,O,O,O,trivial⟩ O O (λ_=>O3) (λ_=>O2) hp (λy4 h=>⟨y O,?_⟩))))))))))))));refine zD O (N O) O (zD O (pV O O) O (zD O (pV O O) O (eM O O O (y O) O (eM O O O (y O) O (ct (hK2 _ _ (A λ_ hK5=>A λ_ hK6=>B (zm O (zc O (zQ hK6 (zB O h (λ_ h=>?_) λ_ h=>?_)))))))))))
 ·exact A λ_ hK8=>B (za O (zQ hK8 (L (z O h O))))
 refine V (hK5 _ _ (A λ_ hK9=>bu [0,1,2,3,4,5,6,7,8,9,10,11,12,13,14,15] O (by kernel_rfl) (zD O (N O) O (zD O (c7 O) O (zD O (bF O) O (zD O (bj O O O) O (zD O (N O) O (zD O (c7 O) O (zD O (bF O) O (zD O (bj O O O) O (zD O (N O) O (zD O (c7 O) O (zD O (bF O) O (zD O (bj O O O) O (zD O (N O) O (zd hr h λhg10 h=>zD O (gV O O hg10) O (zd hr h λhg11 h=>zD O (lG O O O hg11.1 hg11.2.1 hg11.2.2) O (eM O O O (y O) O (ct (hK9 _ _ (A λ_ hK12=>?_)))))))))))))))))))));refine A λ_ hK13=>B (zm O (zQ hK13 (zB O h (λ_ h=>?_) λ_ h=>?_)))
 ·refine A λ_ hK15=>A λ_ hK16=>B (zm O (zm O (zd hr h λhg17 h=>J (jT O O hg17) O (zd hr h λhg18 h=>J (lG O O O hg18.1 hg18.2.1 hg18.2.2) O (zk hp hr h [] Tryz.call144 (sD n (sub (sub p0.text p0.at_ (p0.at_+y4.1)) 1 (y4.1 - 1))) O (λ_=>rfl) λy19 h=>zm O (zx O (zx O (aH 107 (hE _ O) O4 O ?_))))))));refine za O (zs O (zQ hK16 (A λ_ hK20=>B (zf O (zl O (zc O (zQ hK20 (zB O h (λ_ h=>?_) λ_ h=>?_))))))))
  ·exact A λ_ hK22=>B (za O (zQ hK22 (L (z O h O))))
  refine V (hK15 _ _ (A λ_ hK23=>B (zm O (zm O (zm O (zd hr h λhg24 h=>J (jT O O hg24) O (zd hr h λhg25 h=>J (lG O O O hg25.1 hg25.2.1 hg25.2.2) O (zm O (jF hr h [0,1] Tryz.call53 (ff 4 (sub (sub p0.text p0.at_ (p0.at_+y4.1)) 1 (y4.1 - 1)) y4.1 p0) ⟨O,O,O,O,O,O,⟨hE _ O,trivial⟩⟩ O (λ_=>O3) (λ_=>O2) hp (λy26 h=>?_))))))))));exact zQ hK23 (A λ_ hK27=>B (za O (zQ hK27 (L (z O h O)))))
 refine V (hK12 _ _ (A λ_ hK28=>B (zm O (zk hp hr h [] Tryz.call145 (rC n (sub p0.text p0.at_ (p0.at_+y4.1))) O (λ_=>rfl) λy29 h=>zm O (zx O (zx O (aH 109 (hE _ O) O4 O ?_)))))));refine za O (zs O (zQ hK28 (A λ_ hK30=>A λ_ hK31=>B (zf O (zl O (zc O (zQ hK31 (zB O h (λ_ h=>?_) λ_ h=>?_))))))))
 ·exact A λ_ hK33=>B (za O (zQ hK33 (L (z O h O))))
 refine V (hK30 _ _ (A λ_ hK34=>B (zm O (zm O (zm O (jF hr h [0,1] Tryz.call53 (ff 3 y29.1 y4.1 p0) ⟨O,O,O,O,O,O,⟨hE _ O,trivial⟩⟩ O (λ_=>O3) (λ_=>O2) hp (λy35 h=>?_)))))));exact zQ hK34 (A λ_ hK36=>B (za O (zQ hK36 (L (z O h O)))))
def kf (p0:Int):D (Bool):=
 br (decide (p0>=97)) (br (decide (p0<=122)) (.ok (true)) (br (decide (p0>=65)) (br (decide (p0<=90)) (.ok (true)) (.ok ((p0==95)))) (.ok ((p0==95))))) (br (decide (p0>=65)) (br (decide (p0<=90)) (.ok (true)) (.ok ((p0==95)))) (.ok ((p0==95))))
theorem sE (p0:Int):CT Tryz.prog 139 [Sc (.int .u8 p0)] [] (kf p0) (λx=>Bo x) (λ_=>[]):=by
 refine zC Tryz.func139 O λr hp h hr E hE=>A λ_ hK1=>B (za O (zQ hK1 (A λ_ hK2=>B (zm O (zc O (zm O (zb (decide (p0>=97)) (λhb3=>?_) λhb3=>?_)))))))
 ·refine z1 hb3 h λh=>zG hb3 O (N O) (zG hb3 O (aX O O O) (zy hb3 O (zm O (zb (decide (p0<=122)) (λhb4=>?_) λhb4=>?_))))
  ·exact z1 hb4 h λh=>zH 3 O hb4 (zu O (zu O (zg hb4 O (zy hb4 O (zm O (zH 2 O O (zt O (za O (zQ hK2 (L (z O h O)))))))))))
  refine z2 hb4 h λh=>zG hb4 O (N O) (zG hb4 O (aX O O O) (zG hb4 O (N O) (zb (decide (p0>=65)) (λhb5=>?_) λhb5=>?_)))
  ·refine z1 hb5 h λh=>zG hb5 O (N O) (zG hb5 O (aX O O O) (zG hb4 O (cY hb5 O O) (zw hb4 O (zm O (zb (decide (p0<=90)) (λhb6=>?_) λhb6=>?_)))))
   ·exact z1 hb6 h λh=>zH 2 O hb6 (zy hb6 O (za O (zQ hK2 (L (z O h O)))))
   exact z2 hb6 h λh=>zG hb6 O (N O) (zG hb6 O (aX O O O) (zw hb6 O (za O (zQ hK2 (L (z O h O))))))
  exact z2 hb5 h λh=>zH 2 O hb5 (zG hb4 O (cU hb5 O O) (zw hb4 O (zm O (zG O O (N O) (zG O O (aX O O O) (J (de O O) O (za O (zQ hK2 (L (z O h O))))))))))
 refine z2 hb3 h λh=>zH 2 O hb3 (zw hb3 O (zm O (zG O O (N O) (zG O O (aX O O O) (zG O O (N O) (zb (decide (p0>=65)) (λhb7=>?_) λhb7=>?_))))))
 ·refine z1 hb7 h λh=>zG hb7 O (N O) (zG hb7 O (aX O O O) (zG O O (cY hb7 O O) (J (de O O) O (zm O (zb (decide (p0<=90)) (λhb8=>?_) λhb8=>?_)))))
  ·exact z1 hb8 h λh=>zH 2 O hb8 (zy hb8 O (za O (zQ hK2 (L (z O h O)))))
  exact z2 hb8 h λh=>zG hb8 O (N O) (zG hb8 O (aX O O O) (zw hb8 O (za O (zQ hK2 (L (z O h O))))))
 exact z2 hb7 h λh=>zH 2 O hb7 (zG O O (cU hb7 O O) (J (de O O) O (zm O (zG O O (N O) (zG O O (aX O O O) (J (de O O) O (za O (zQ hK2 (L (z O h O))))))))))
def mC (n:Nat) (p0:ByS):D (Int):=
 jn (λ(v3:Int)=>br (v3==1) (el p0 0 λb9=>D.bind (kf (b9.toNat:Int)) λy13=>br (!y13) (.ok (0)) (el p0 0 λb16=>br ((b16.toNat:Int)==95) (.ok (0)) (.ok (v3)))) (.ok (v3))) λj4=>iter (λnext25 (v24:Int)=>jn (λ(_:Unit)=>gd (cr (v24+1)) (next25 (v24+1))) λj28=>br (decide (v24<(List.length p0:Int))) (el p0 v24 λb33=>D.bind (kf (b33.toNat:Int)) λy37=>br y37 (j28 ()) (br (decide (v24>0)) (el p0 v24 λb40=>D.bind (iG (b40.toNat:Int)) λy44=>br y44 (j28 ()) (br (v24==0) (el p0 v24 λb47=>br ((b47.toNat:Int)==35) (j28 ()) (j4 (v24))) (j4 (v24)))) (br (v24==0) (el p0 v24 λb53=>br ((b53.toNat:Int)==35) (j28 ()) (j4 (v24))) (j4 (v24))))) (j4 (v24))) n (0)
theorem zV (n:Nat) (p0:ByS):CT Tryz.prog 97 [F p0] [] (mC n p0) (λx=>I x) (λ_=>[]):=by
 refine zC Tryz.func97 O λr hp h hr E hE=>A λ_ hK1=>B (za O (zQ hK1 (A λ_ hK2=>B (za O (zQ hK2 (zM h (λ(v3:Int)=>[(0,F p0),(3,I v3)]) (λ(v3:Int)=>[]) (λv3 h=>?_) λ_ _ hK5 h=>?_))))))
 ·refine A λ_ hK6=>A λ_ hK7=>B (zm O (zc O (zm O (zb (v3==1) (λhb8=>?_) λhb8=>?_))))
  ·refine z1 hb8 h λh=>zG hb8 O (N O) (ze hr h λb9 h10 h11 h12 h=>zG hb8 O (bY O O h10 h12) (zK hb8 O hp hr h [] Tryz.call139 (sE (b9.toNat:Int)) O (λ_=>rfl) λy13 h=>zG hb8 O (eo O) (zy hb8 O (zm O (zb (!y13) (λhb14=>?_) λhb14=>?_)))))
   ·refine z1 hb14 h λh=>zH 3 O hb14 (zu O (zu O (zu O (zg hb14 O (zy hb14 O (zQ hK7 (cb O (λhc=>?_) (λhc=>?_))))))))
    ·exact A λ_ hK15=>B (za O (zQ hK15 (L (z O h O))))
    exact absurd (hc) (by simp)
   refine z2 hb14 h λh=>zG hb14 O (N O) (zG hb14 O (aX O O O) (zG hb14 O (N O) (zG hb8 O (N O) (ze hr h λb16 h17 h18 h19 h=>zG hb8 O (bY O O h17 h19) (zG hb8 O (aX O O O) (zG hb14 O (cY hb8 O O) (zw hb14 O (zQ hK7 (zB O h (λ_ h=>?_) λ_ h=>?_)))))))))
   ·exact A λ_ hK21=>B (za O (zQ hK21 (L (z O h O))))
   exact V (hK6 _ _ (A λ_ hK22=>B (zm O (za O (zQ hK22 (L (z O h O)))))))
  refine z2 hb8 h λh=>zH 4 O hb8 (zw hb8 O (zm O (zG O O (N O) (zG O O (aX O O O) (zG O O (N O) (zH 3 O hb8 (zG O O (cU hb8 O O) (J (de O O) O (zQ hK7 (cb O (λhc=>?_) (λhc=>?_)))))))))))
  ·exact absurd (hc) (by simp)
  exact V (hK6 _ _ (A λ_ hK23=>B (zm O (za O (zQ hK23 (L (z O h O)))))))
 refine u (zL hr h (λ(v24:Int)=>[(0,F p0),(3,I v24)]) (λ(v24:Int)=>[]) O λ_ v24 _ hK26 h=>zM h (λ(v27:Unit)=>[(0,F p0),(3,I v24)]) (λ(v27:Unit)=>[]) (λv27 h=>?_) λ_ _ hK29 h=>?_)
 ·exact u (B (zm O (zd hr h λhg30 h=>zo hg30 O (za O (W (hK26 _ _ _ h O))))))
 refine A λ_ hK31=>B (zm O (zm O (J (bJ O) O (zc O (zm O (zb (decide (v24<(List.length p0:Int))) (λhb32=>?_) λhb32=>?_))))))
 ·refine z1 hb32 h λh=>zG hb32 O (N O) (zG hb32 O (N O) (ze hr h λb33 h34 h35 h36 h=>zG hb32 O (bY O O h34 h36) (zK hb32 O hp hr h [] Tryz.call139 (sE (b33.toNat:Int)) O (λ_=>rfl) λy37 h=>zG hb32 O (N O) (zb y37 (λhb38=>?_) λhb38=>?_))))
  ·refine z1 hb38 h λh=>zH 3 O hb38 (zu O (zu O (zu O (zu O (zg hb38 O (zG hb32 O (cY hb38 O O) (zG hb32 O (N O) (zH 3 O O (zu O (zu O (zu O (zu O (zg O O (zG hb32 O (tV O O) (zy hb32 O (zQ hK31 (cb O (λhc=>?_) (λhc=>?_))))))))))))))))))
   ·exact V (hK29 _ _ _ h O)
   exact absurd (hc) (by simp)
  refine z2 hb38 h λh=>zG hb38 O (N O) (zG hb38 O (aX O O O) (zG hb38 O (N O) (zb (decide (v24>0)) (λhb39=>?_) λhb39=>?_)))
  ·refine z1 hb39 h λh=>zG hb39 O (N O) (zG hb39 O (N O) (ze hr h λb40 h41 h42 h43 h=>zG hb39 O (bY O O h41 h43) (zK hb39 O hp hr h [] Tryz.call98 (lf (b40.toNat:Int)) O (λ_=>rfl) λy44 h=>zG hb38 O (cY hb39 O O) (zG hb32 O (cU hb38 O O) (zG hb32 O (N O) (zb y44 (λhb45=>?_) λhb45=>?_))))))
   ·refine z1 hb45 h λh=>zH 3 O hb45 (zu O (zu O (zu O (zu O (zg hb45 O (zG hb32 O (cY hb45 O O) (zy hb32 O (zQ hK31 (cb O (λhc=>?_) (λhc=>?_))))))))))
    ·exact V (hK29 _ _ _ h O)
    exact absurd (hc) (by simp)
   refine z2 hb45 h λh=>zG hb45 O (N O) (zG hb45 O (aX O O O) (zG hb45 O (N O) (zb (v24==0) (λhb46=>?_) λhb46=>?_)))
   ·refine z1 hb46 h λh=>zG hb46 O (N O) (zG hb46 O (N O) (ze hr h λb47 h48 h49 h50 h=>zG hb46 O (bY O O h48 h50) (zG hb46 O (aX O O O) (zG hb45 O (cY hb46 O O) (zG hb32 O (cU hb45 O O) (zy hb32 O (zQ hK31 (zB O h (λ_ h=>?_) λ_ h=>?_))))))))
    ·exact V (hK29 _ _ _ h O)
    exact aS (hK5 _ _ _ h O)
   refine z2 hb46 h λh=>zH 4 O hb46 (zG hb45 O (cU hb46 O O) (zG hb32 O (cU hb45 O O) (zy hb32 O (zQ hK31 (cb O (λhc=>?_) (λhc=>?_))))))
   ·exact absurd (hc) (by simp)
   exact aS (hK5 _ _ _ h O)
  refine z2 hb39 h λh=>zH 4 O hb39 (zG hb38 O (cU hb39 O O) (zG hb32 O (cU hb38 O O) (zG hb32 O (N O) (zG O O (N O) (zG O O (aX O O O) (zG O O (N O) (zb (v24==0) (λhb52=>?_) λhb52=>?_)))))))
  ·refine z1 hb52 h λh=>zG hb52 O (N O) (zG hb52 O (N O) (ze hr h λb53 h54 h55 h56 h=>zG hb52 O (bY O O h54 h56) (zG hb52 O (aX O O O) (zG O O (cY hb52 O O) (zG hb32 O (de O O) (zy hb32 O (zQ hK31 (zB O h (λ_ h=>?_) λ_ h=>?_))))))))
   ·exact V (hK29 _ _ _ h O)
   exact aS (hK5 _ _ _ h O)
  refine z2 hb52 h λh=>zH 4 O hb52 (zG O O (cU hb52 O O) (zG hb32 O (de O O) (zy hb32 O (zQ hK31 (cb O (λhc=>?_) (λhc=>?_))))))
  ·exact absurd (hc) (by simp)
  exact aS (hK5 _ _ _ h O)
 refine z2 hb32 h λh=>zH 5 O hb32 (zu O (zu O (zu O (zu O (zu O (zu O (zu O (zu O (zH 2 O hb32 (zu O (zu O (zu O (zu O (zu O (zu O (zu O (zu O (zg hb32 O ?_))))))))))))))))));refine zw hb32 O (zQ hK31 (cb O (λhc=>?_) (λhc=>?_)))
 ·exact absurd (hc) (by simp)
 exact aS (hK5 _ _ _ h O)
def fH (n:Nat) (p0:bf):D (Bool×bf):=
 gd ((0:Int)<=p0.at_/\p0.at_<=(List.length p0.text:Int)) (D.bind (strings_HasPrefix (dK p0.text p0.at_) ([47,47]:ByS)) λy6=>br y6 (D.bind (strings_Cut (dK p0.text p0.at_) ([10]:ByS)) λy9=>gd ((0:Int)<=2/\2<=(List.length y9.1:Int)) (D.bind (cf 6 (dK y9.1 2) (List.length y9.1:Int) p0) λy12=>.ok (true,y12))) (D.bind (mC n (dK p0.text p0.at_)) λy16=>br (decide (y16>0)) (gd ((0:Int)<=y16/\y16<=(List.length (dK p0.text p0.at_):Int)) (D.bind (cf 1 (jU (dK p0.text p0.at_) y16) y16 p0) λy21=>.ok (true,y21))) (el (dK p0.text p0.at_) 0 λb25=>D.bind (iG (b25.toNat:Int)) λy30=>br y30 (D.bind (kW n (dK p0.text p0.at_)) λy33=>gd ((0:Int)<=y33/\y33<=(List.length (dK p0.text p0.at_):Int)) (D.bind (na n (jU (dK p0.text p0.at_) y33)) λy37=>br (y37.2 !=0) (.ok (false,p0)) (gd ((0:Int)<=y33/\y33<=(List.length (dK p0.text p0.at_):Int)) (D.bind (cf 2 (jU (dK p0.text p0.at_) y33) y33 p0) λy42=>.ok (true,y42))))) (br ((b25.toNat:Int)==34) (D.bind (gL n p0) λy47=>.ok (y47.1,y47.2)) (D.bind (jI n (dK p0.text p0.at_)) λy49=>br (y49==([]:ByS)) (.ok (false,p0)) (D.bind (cf 5 y49 (List.length y49:Int) p0) λy54=>.ok (true,y54)))))))
theorem sF (n:Nat) (p0:bf):CT Tryz.prog 54 [.ptr 0 0] [.box [F p0.text,I p0.at_,.arr 1 (List.length p0.out),Bo p0.line],.app 49 4 (aA.Cs p0.out)] (fH n p0) (λx=>Bo x.1) (λx=>[.box [F x.2.text,I x.2.at_,.arr 1 (List.length x.2.out),Bo x.2.line],.app 49 4 (aA.Cs x.2.out)]):=by
 refine zC Tryz.func54 O λr hp h hr E hE=>A λ_ hK1=>B (za O (zQ hK1 (A λ_ hK2=>bu [0,1,2,3,4,5,6,7,8,9] O (by kernel_rfl) (zD O (N O) O (zD O (c7 O) O (zD O (bF O) O (zD O (bj O O O) O (zD O (N O) O (zD O (c7 O) O (zD O (bF O) O (zD O (bj O O O) O (zd hr h λhg3 h=>zD O (ir O O hg3.1 hg3.2) O (eM O O O (y O) O (ct (hK2 _ _ (A λ_ hK4=>A λ_ hK5=>B (zm O (zk hp hr h [] Tryz.call95 (jA (dK p0.text p0.at_) ([47,47]:ByS)) O (λ_=>rfl) λy6 h=>?_))))))))))))))))));refine zQ hK5 (zB O h (λ_ h=>?_) λ_ h=>?_)
 ·refine A λ_ hK8=>B (zm O (zk hp hr h [] Tryz.call96 (xH (dK p0.text p0.at_) ([10]:ByS)) O (λ_=>rfl) λy9 h=>zm O (zx O (zx O (zx O (za O (za O (za O (zQ hK8 (A λ_ hK10=>B (zm O (zm O (zd hr h λhg11 h=>J (ir O O hg11.1 hg11.2) O (zm O (J (bJ O) O (jF hr h [0,1] Tryz.call53 (ff 6 (dK y9.1 2) (List.length y9.1:Int) p0) ⟨O,O,O,O,O,O,⟨hE _ O,trivial⟩⟩ O (λ_=>O3) (λ_=>O2) hp (λy12 h=>?_)))))))))))))))));exact zQ hK10 (A λ_ hK13=>B (za O (zQ hK13 (L (z O h O)))))
 refine V (hK4 _ _ (A λ_ hK14=>A λ_ hK15=>B (zm O (zk hp hr h [] Tryz.call97 (zV n (dK p0.text p0.at_)) O (λ_=>rfl) λy16 h=>za O (zQ hK15 (A λ_ hK17=>B (zm O (zc O (zQ hK17 (zB O h (λ_ h=>?_) λ_ h=>?_))))))))))
 ·refine A λ_ hK19=>B (zm O (zm O (zm O (zd hr h λhg20 h=>J (o7 O O hg20.1 hg20.2) O (zm O (jF hr h [0,1] Tryz.call53 (ff 1 (jU (dK p0.text p0.at_) y16) y16 p0) ⟨O,O,O,O,O,O,⟨hE _ O,trivial⟩⟩ O (λ_=>O3) (λ_=>O2) hp (λy21 h=>?_)))))));exact zQ hK19 (A λ_ hK22=>B (za O (zQ hK22 (L (z O h O)))))
 refine V (hK14 _ _ (A λ_ hK23=>A λ_ hK24=>B (zm O (ze hr h λb25 h26 h27 h28 h=>J (bY O O h26 h28) O (za O (zQ hK24 (u (A λ_ hK29=>B (zm O (zk hp hr h [] Tryz.call98 (lf (b25.toNat:Int)) O (λ_=>rfl) λy30 h=>za O (zQ hK29 (zB O h (λ_ h=>?_) λ_ h=>?_))))))))))))
 ·refine A λ_ hK32=>B (zm O (zk hp hr h [] Tryz.call99 (w5 n (dK p0.text p0.at_)) O (λ_=>rfl) λy33 h=>za O (zQ hK32 (A λ_ hK34=>A λ_ hK35=>B (zm O (zm O (zd hr h λhg36 h=>J (o7 O O hg36.1 hg36.2) O (zk hp hr h [] Tryz.call100 (tu n (jU (dK p0.text p0.at_) y33)) O (λ_=>rfl) λy37 h=>zm O (zx O (zx O (za O (za O (zQ hK35 (A λ_ hK38=>B (zm O (zc O (zQ hK38 ?_)))))))))))))))));refine zB O h (λ_ h=>?_) λ_ h=>?_
  ·exact A λ_ hK40=>B (za O (zQ hK40 (L (z O h O))))
  refine V (hK34 _ _ (B (zm O (zm O (zm O (zd hr h λhg41 h=>J (o7 O O hg41.1 hg41.2) O (zm O (jF hr h [0,1] Tryz.call53 (ff 2 (jU (dK p0.text p0.at_) y33) y33 p0) ⟨O,O,O,O,O,O,⟨hE _ O,trivial⟩⟩ O (λ_=>O3) (λ_=>O2) hp (λy42 h=>?_)))))))));exact zQ hK23 (A λ_ hK43=>B (za O (zQ hK43 (L (z O h O)))))
 refine A λ_ hK44=>B (zm O (zc O (za O (zQ hK44 (zB O h (λ_ h=>?_) λ_ h=>?_)))))
 ·refine A λ_ hK46=>B (zm O (jF hr h [0,1] Tryz.call101 (tc n p0) ⟨O,O,O,O,O,O,⟨hE _ O,trivial⟩⟩ O (λ_=>O3) (λ_=>O2) hp (λy47 h=>?_)));exact za O (zQ hK46 (L (z O h O)))
 refine A λ_ hK48=>B (zm O (zk hp hr h [] Tryz.call102 (uW n (dK p0.text p0.at_)) O (λ_=>rfl) λy49 h=>za O (zQ hK48 (A λ_ hK50=>A λ_ hK51=>B (zm O (J (iS O O) O (zQ hK51 (zB O h (λ_ h=>?_) λ_ h=>?_))))))))
 ·exact A λ_ hK53=>B (za O (zQ hK53 (L (z O h O))))
 refine V (hK50 _ _ (B (zm O (zm O (zm O (J (bJ O) O (jF hr h [0,1] Tryz.call53 (ff 5 y49 (List.length y49:Int) p0) ⟨O,O,O,O,O,O,⟨hE _ O,trivial⟩⟩ O (λ_=>O3) (λ_=>O2) hp (λy54 h=>?_))))))));exact zQ hK23 (A λ_ hK55=>B (za O (zQ hK55 (L (z O h O)))))
def gN (n:Nat) (p0:ByS):D ((List aA)×cL):=
 br (decide ((List.length p0:Int)>65536)) (.ok ([],(cL.mk 2 0))) (iter (λnext10 (v9:bf)=>br (decide (v9.at_<(List.length p0:Int))) (el p0 v9.at_ λb16=>jn (λ(_:Unit)=>gd (cr (v9.at_+1)) (next10 ((bf.mk v9.text (v9.at_+1) v9.out v9.line)))) λj22=>br ((b16.toNat:Int)==10) (br v9.line (D.bind (cf 7 ([10]:ByS) 1 v9) λy34=>next10 ((bf.mk y34.text y34.at_ y34.out false))) (j22 ())) (br ((b16.toNat:Int)==32) (j22 ()) (br ((b16.toNat:Int)==9) (j22 ()) (br ((b16.toNat:Int)==13) (j22 ()) (D.bind (fH n v9) λy44=>br (!y44.1) (.ok ([],(cL.mk 8 y44.2.at_))) (next10 (y44.2))))))) (D.bind (cf 0 ([]:ByS) 0 v9) λy48=>.ok (y48.out,(cL.mk 0 0)))) n ((bf.mk p0 0 [] false)))
theorem qS (n:Nat) (p0:ByS):CT Tryz.prog 24 [F p0] [] (gN n p0) (λx=>.fZ [.pv (.sl (List.length x.1) (aA.Cs x.1)),.agg [I x.2.Errno,I x.2.At]]) (λ_=>[]):=by
 refine zC Tryz.func24 O λr hp h hr E hE=>A λ_ hK1=>B (za O (aH 103 (hE _ O) O4 O ?_));refine zQ hK1 (A5 ?_);refine A λ_ hK2=>A λ_ hK3=>B (zm O (J (bJ O) O (zc O (zQ hK3 (zB O h (λ_ h=>?_) λ_ h=>?_)))))
 ·refine A λ_ hK5=>B (J (bd O O O) O ?_);refine za O (zs O (zQ hK5 (bK (ua (d:=2) O O) ?_)));exact L (zX (.cons (aP O) (.cons (aT O O O) .nil)) h O)
 refine V (hK2 _ _ (A λ_ hK6=>B (zm O (J (dA O O) O ?_))));refine dN 111 (hE _ O) O7 O ?_;refine za O (zQ hK6 (A λ_ hK7=>AH ?_));refine hK7 _ _ (A λ_ hK8=>u (bK (sV (j:=111) (off:=2) 27106 (sz:=4) (el:=49) (hE _ O) O O O3 O) ?_));refine zL hr h (λ(v9:bf)=>[(0,F p0),(3,.ptr 103 0),(4,.ptr 111 0)]) (λ(v9:bf)=>[(103,.box [I 0,I 0]),(111,.box [F v9.text,I v9.at_,.arr 27106 (List.length v9.out),Bo v9.line]),(27106,.app 49 4 (aA.Cs v9.out))]) O λ_ v9 _ hK11 h=>A λ_ hK12=>A λ_ hK13=>B (zm O (zn O (zf O (zl O (zm O (J (bJ O) O (zc O (zQ hK13 (zB O h (λ_ h=>?_) λ_ h=>?_)))))))))
 ·refine V (hK12 _ _ (u (A λ_ hK15=>B (zm O (zm O (zn O (zf O (zl O (ze hr h λb16 h17 h18 h19 h=>J (bY O O h17 h19) O (zQ hK15 (u (A λ_ hK20=>u (zM h (λ(v21:Unit)=>[(0,F p0),(3,.ptr 103 0),(4,.ptr 111 0)]) (λ(v21:Unit)=>[(103,.box [I 0,I 0]),(111,.box [F v9.text,I v9.at_,.arr 27106 (List.length v9.out),Bo v9.line]),(27106,.app 49 4 (aA.Cs v9.out))]) (λv21 h=>?_) λ_ _ hK23 h=>?_)))))))))))))
  ·exact A λ_ hK24=>B (zm O (zn O (zf O (zl O (zd hr h λhg25 h=>zo hg25 O (zn O (zf O (zs O (zQ hK24 (aS (hK11 _ _ _ h O)))))))))))
  refine u (A λ_ hK26=>u (A λ_ hK27=>A λ_ hK28=>A λ_ hK29=>B (zc O (za O (zQ hK29 (zB O h (λ_ h=>?_) λ_ h=>?_))))))
  ·refine aS (hK26 _ _ (A λ_ hK31=>B (zm O (zn O (zf O (zl O (zQ hK31 (zB O h (λ_ h=>?_) λ_ h=>?_))))))))
   ·refine A λ_ hK33=>B (zm O (jF hr h [111,27106] Tryz.call53 (ff 7 ([10]:ByS) 1 v9) ⟨O,O,O,O,O,O,⟨hE _ O,trivial⟩⟩ O (λ_=>O3) (λ_=>O2) hp (λy34 h=>?_)));exact zQ hK33 (A λ_ hK35=>B (zm O (zn O (zf O (zs O (zQ hK35 (aS (hK11 _ _ _ h O))))))))
   exact V (hK23 _ _ _ h O)
  refine V (hK28 _ _ (A λ_ hK36=>A λ_ hK37=>B (zc O (za O (zQ hK37 (zB O h (λhb38 h=>?_) λ_ h=>?_))))))
  ·refine V (hK36 _ _ (cb O (λhc=>?_) (λhc=>?_)))
   ·exact aS (hK23 _ _ _ h O)
   exact absurd (hb38.symm.trans hc) (by simp)
  refine A λ_ hK39=>B (zc O (za O (zQ hK39 (zB O h (λhb40 h=>?_) λ_ h=>?_))))
  ·refine V (hK36 _ _ (cb O (λhc=>?_) (λhc=>?_)))
   ·exact aS (hK23 _ _ _ h O)
   exact absurd (hb40.symm.trans hc) (by simp)
  refine B (zc O (za O (zQ hK36 (zB O h (λ_ h=>?_) λ_ h=>?_))))
  ·exact aS (hK23 _ _ _ h O)
  refine V (hK27 _ _ (aS (hK20 _ _ (A λ_ hK42=>A λ_ hK43=>B (zm O (jF hr h [111,27106] Tryz.call54 (sF n v9) ⟨O,O,O,O,O,O,⟨hE _ O,trivial⟩⟩ O (λ_=>O3) (λ_=>O2) hp (λy44 h=>?_)))))));refine J (eo O) O (zQ hK43 (zB O h (λ_ h=>?_) λ_ h=>?_))
  ·refine A λ_ hK46=>bu [0,1,2,3,4,5,6] O (by kernel_rfl) (zD O (N O) O (zD O (c7 O) O (zD O (bF O) O (zD O (fh [.any,I y44.2.at_,.any,.any] O O ⟨.inr O,.inl O,.inr O,.inr O,trivial⟩ O) O (zD O (bd O O O) O ?_)))));refine eM O O O (cF ⟨trivial,⟨⟨⟨_,O,M.fc ⟨.inr O,.inl O,.inr O,.inr O,trivial⟩⟩,trivial⟩,⟨trivial,⟨trivial,⟨trivial,trivial⟩⟩⟩⟩⟩) O (bV O O8 O (λe6 he=>⟨y O,?_⟩));subst he;refine ct (hK46 _ _ (bK (ua (d:=2) O O) ?_));exact L (zX (.cons (aP O) (.cons (aT O O O) .nil)) h O)
  exact V (hK42 _ _ (aS (hK11 _ _ _ h O)))
 refine aS (hK8 _ _ (A λ_ hK47=>B (zm O (jF hr h [111,27106] Tryz.call53 (ff 0 ([]:ByS) 0 v9) ⟨O,O,O,O,O,O,⟨hE _ O,trivial⟩⟩ O (λ_=>O3) (λ_=>O2) hp (λy48 h=>?_)))));refine zQ hK47 (A λ_ hK49=>B (zm O (zn O (zf O (J (ot aA.Q aA.q O O O O O) O ?_)))));refine J (bd O O O) O ?_;exact za O (zs O (zQ hK49 (L (zX (.cons (aP O) (.cons (aT O O O) .nil)) h O))))
end Go.Abs
end
