/- PROVED: lemmas of the proof of: a law CONDITIONS: as each lemma states. -/
import Derived.Test.YtkhjeiaafiodeaaGreatDoorF2
section
namespace Go.Abs
open Go.Proofs al
structure bA where
 cH:R->al (u×R)
 gz:R->al (u×R)
 cS:R->al (u×R)
 cC:(List u)->R->al ((List u)×R)
 gg:R->al (u×R)
 gh:R->al (u×R)
def gW (n:Nat) (T:bA) (p0:R):al (u×R):=
 al.bind (T.cS p0) λy3=>iter (λnext6 (v5:R×(List u))=>al.bind (cN v5.1) λy10=>br (y10.1==124) (gd (dY (y10.2.at_+1)) (al.bind (T.cS (R.mk y10.2.text (y10.2.at_+1))) λy14=>gd (lz 64 (List.length v5.2) (List.length [y14.1])) (next6 (y14.2,v5.2++[y14.1])))) (al.bind (lU 4 v5.2) λy17=>.ok (y17,y10.2))) n (y3.2,[y3.1])
def jL (n:Nat) (T:bA) (p0:R):al (u×R):=
 al.bind (cN p0) λy3=>jn (λ(v4:R)=>gd (dY (v4.at_+1)) (al.bind (oJ n y3.1) λy10=>.ok (y10,(R.mk v4.text (v4.at_+1))))) λj5=>br (decide (y3.2.at_>=(List.length y3.2.text:Int))) (al.bind (dK (List.length y3.2.text:Int) y3.2) λy13=>j5 (y13)) (br (y3.1==40) (al.bind (T.gg y3.2) λy17=>.ok (y17.1,y17.2)) (br (y3.1==91) (al.bind (ls n y3.2) λy21=>.ok (y21.1,y21.2)) (br (y3.1==46) (gd (dY (y3.2.at_+1)) (al.bind (ib n 0 255) λy27=>.ok ((u.mk 2 y27.x0 y27.x1 y27.x2 y27.x3 []),(R.mk y3.2.text (y3.2.at_+1))))) (br (y3.1==92) (gd (dY (y3.2.at_+1)) (br (decide ((y3.2.at_+1)<(List.length y3.2.text:Int))) (gd (dY (y3.2.at_+1)) (el y3.2.text (y3.2.at_+1) λb36=>al.bind (pA n (b36.toNat:Int)) λy40=>br y40.2 (gd (dY (y3.2.at_+2)) (.ok ((u.mk 2 y40.1.x0 y40.1.x1 y40.1.x2 y40.1.x3 []),(R.mk y3.2.text (y3.2.at_+2))))) (al.bind (gQ n 0 y3.2) λy47=>al.bind (oJ n y47.1) λy48=>.ok (y48,y47.2)))) (al.bind (gQ n 0 y3.2) λy50=>al.bind (oJ n y50.1) λy51=>.ok (y51,y50.2)))) (jn (λ(v52:Bool)=>br v52 (al.bind (dK y3.2.at_ y3.2) λy56=>j5 (y56)) (j5 (y3.2))) λj53=>br (decide (y3.1<32)) (j53 (true)) (br (decide (y3.1>126)) (j53 (true)) (al.bind (strings_IndexByte ([40,41,91,93,123,125,124,42,43,63,46,92]:ByS) y3.1) λy59=>j53 ((decide (y59>=0))))))))))
def gN (n:Nat) (T:bA) (p0:R):al (u×R):=
 al.bind (T.cC [] p0) λy5=>iter (λnext8 (v7:R×(List u))=>br (decide (v7.1.at_<(List.length v7.1.text:Int))) (al.bind (cN v7.1) λy13=>br (y13.1 !=124) (al.bind (cN y13.2) λy15=>br (y15.1 !=41) (al.bind (T.cC v7.2 y15.2) λy17=>next8 (y17.2,y17.1)) (al.bind (lU 3 v7.2) λy19=>.ok (y19,y15.2))) (al.bind (lU 3 v7.2) λy21=>.ok (y21,y13.2))) (al.bind (lU 3 v7.2) λy23=>.ok (y23,v7.1))) n (y5.2,y5.1)
def gw (_:Nat) (T:bA) (p0:(List u)) (p1:R):al ((List u)×R):=
 al.bind (T.gh p1) λy1=>gd (lz 64 (List.length p0) (List.length [(u.mk 0 0 0 0 0 [])])) (.ok (p0++[y1.1],y1.2))
def jy (_:Nat) (T:bA) (p0:R):al (u×R):=
 gd (dY (p0.at_+1)) (al.bind (cN (R.mk p0.text (p0.at_+1))) λy6=>br (y6.1==41) (gd (dY (y6.2.at_+1)) (.ok ((u.mk 1 0 0 0 0 []),(R.mk y6.2.text (y6.2.at_+1))))) (al.bind (T.cH y6.2) λy12=>jn (λ(v13:R)=>gd (dY (v13.at_+1)) (.ok (y12.1,(R.mk v13.text (v13.at_+1))))) λj14=>al.bind (cN y12.2) λy20=>br (y20.1 !=41) (al.bind (dK y20.2.at_ y20.2) λy22=>j14 (y22)) (j14 (y20.2))))
def jz (n:Nat) (T:bA) (p0:R):al (u×R):=
 al.bind (T.gz p0) λy3=>iter (λnext5 (v4:R×u)=>jn (λ(v8:R×u)=>gd (dY (v8.1.at_+1)) (next5 ((R.mk v8.1.text (v8.1.at_+1)),v8.2))) λj9=>al.bind (cN v4.1) λy13=>br (y13.1==42) (j9 (y13.2,(u.mk 5 0 0 0 0 [v4.2]))) (br (y13.1==43) (j9 (y13.2,(u.mk 3 0 0 0 0 [v4.2,(u.mk 5 0 0 0 0 [v4.2])]))) (br (y13.1==63) (j9 (y13.2,(u.mk 4 0 0 0 0 [v4.2,(u.mk 1 0 0 0 0 [])]))) (.ok (v4.2,y13.2))))) n (y3.2,y3.1)
def aT:Nat->bA
 | 0=>⟨λ_=>.stuck,λ_=>.stuck,λ_=>.stuck,λ_ _=>.stuck,λ_=>.stuck,λ_=>.stuck⟩
 | n+1=>⟨gW n (aT n),jL n (aT n),gN n (aT n),gw n (aT n),jy n (aT n),jz n (aT n)⟩
def cH (n:Nat) (p0:R):al (u×R):=(aT n).cH p0
def gz (n:Nat) (p0:R):al (u×R):=(aT n).gz p0
def cS (n:Nat) (p0:R):al (u×R):=(aT n).cS p0
def cC (n:Nat) (p0:(List u)) (p1:R):al ((List u)×R):=(aT n).cC p0 p1
def gg (n:Nat) (p0:R):al (u×R):=(aT n).gg p0
def gh (n:Nat) (p0:R):al (u×R):=(aT n).gh p0
structure dv (T:bA):Prop where
 cH:∀ (p0:R),CT Tryz.prog 206 [.ptr 0 0] [.box (aL p0)] (T.cH p0) (λx=>.agg (fq x.1)) (λx=>[.box (aL x.2)])
 gz:∀ (p0:R),CT Tryz.prog 275 [.ptr 0 0] [.box (aL p0)] (T.gz p0) (λx=>.agg (fq x.1)) (λx=>[.box (aL x.2)])
 cS:∀ (p0:R),CT Tryz.prog 238 [.ptr 0 0] [.box (aL p0)] (T.cS p0) (λx=>.agg (fq x.1)) (λx=>[.box (aL x.2)])
 cC:∀ (p0:(List u)) (p1:R),CT Tryz.prog 262 [.ptr 0 0,.ptr 1 0] [.box [.arr 2 (List.length p0)],.box [.ptr 3 0],.arr 137 6 (u.Cs p0),.box (aL p1)] (T.cC p0 p1) (λ_=>.gU []) (λx=>[.box [.arr 2 (List.length x.1)],.box [.ptr 3 0],.arr 137 6 (u.Cs x.1),.box (aL x.2)])
 gg:∀ (p0:R),CT Tryz.prog 290 [.ptr 0 0] [.box (aL p0)] (T.gg p0) (λx=>.agg (fq x.1)) (λx=>[.box (aL x.2)])
 gh:∀ (p0:R),CT Tryz.prog 263 [.ptr 0 0] [.box (aL p0)] (T.gh p0) (λx=>.agg (fq x.1)) (λx=>[.box (aL x.2)])
theorem nT (n:Nat) (T:bA) (hT:dv T) (p0:R):CT Tryz.prog 206 [.ptr 0 0] [.box (aL p0)] (gW n T p0) (λx=>.agg (fq x.1)) (λx=>[.box (aL x.2)]):=by
 refine zC Tryz.func206 O λr hp h hr E hE=>D λ_ hK1=>A (aJ 102 (hE _ O) O4 O ?_);refine zQ hK1 (D λ_ hK2=>A (zm O (zk hp hr h [0] Tryz.call238 (hT.cS p0) O (λ_=>rfl) λy3 h=>I3 106 [y3.1] u.y u.bW (hE _ O) O4 O3 O ?_)));refine za O (aX (la 106 10003 [(0,.ptr 0 0),(2,.ptr 102 0),(3,.arr 10003 (List.length [y3.1]))] [(0,.box (aL y3.2)),(102,.box [I 0,Sc (.int .u64 0),Sc (.int .u64 0),Sc (.int .u64 0),Sc (.int .u64 0),nSl])] (hE _ O) O O O2 ⟨⟨_,O,O,O⟩,⟨_,O,O,O⟩,⟨_,O,O,O⟩,trivial⟩ ⟨⟨_,O,O,O,O,O⟩,⟨_,O,O,O,O,O⟩,trivial⟩) ?_);refine zQ hK2 (D λ_ hK4=>aE (zL hr h (λ(v5:R×(List u))=>[(0,.ptr 0 0),(2,.ptr 102 0),(3,.arr 10003 (List.length v5.2))]) (λ(v5:R×(List u))=>[(0,.box (aL v5.1)),(102,.box [I 0,Sc (.int .u64 0),Sc (.int .u64 0),Sc (.int .u64 0),Sc (.int .u64 0),nSl]),(10003,.app 137 6 (u.Cs v5.2))]) O λ_ v5 _ hK7 h=>D λ_ hK8=>D λ_ hK9=>A (zm O (zk hp hr h [0] Tryz.call239 (cX v5.1) O (λ_=>rfl) λy10 h=>zc O (zQ hK9 (zB O h (λ_ h=>?_) λ_ h=>?_))))))
 ·refine V (hK8 _ _ (aE (D λ_ hK12=>A (zm O (zn O (zf O (zl O (zd hr h λhg13 h=>zo hg13 O (zn O (zf O (zs O (zQ hK12 (A (zm O (zm O (zk hp hr h [0] Tryz.call238 (hT.cS (R.mk y10.2.text (y10.2.at_+1))) O (λ_=>rfl) λy14 h=>cf [y14.1] u.y O2 O ?_))))))))))))))));refine zd hr h λhg15 h=>mT 121 ⟨kH.h,fg.h,u.y,u.bW,u.ju,hE _ O,O,O,(.inl O),O3,hg15⟩ O ?_;refine za O (aX (la 121 10003 [(0,.ptr 0 0),(2,.ptr 102 0),(3,.arr 10003 (List.length (v5.2++[y14.1])))] [(0,.box (aL y14.2)),(102,.box [I 0,Sc (.int .u64 0),Sc (.int .u64 0),Sc (.int .u64 0),Sc (.int .u64 0),nSl])] (hE _ O) O O O2 ⟨⟨_,O,O,O⟩,⟨_,O,O,O⟩,⟨_,O,O,O⟩,trivial⟩ ⟨⟨_,O,O,O,O,O⟩,⟨_,O,O,O,O,O⟩,trivial⟩) ?_);exact N (hK7 _ _ _ h O)
 refine bw (hK4 _ _ (D λ_ hK16=>A (J (nc u.y u.bW O O O) O ?_)));exact zk hp hr h [] Tryz.call240 (ov 4 v5.2) O (λ_=>rfl) λy17 h=>zs O (zQ hK16 (H (zX (.cons (aY O O O) .nil) h O)))
theorem sO (n:Nat) (T:bA) (hT:dv T) (p0:R):CT Tryz.prog 275 [.ptr 0 0] [.box (aL p0)] (jL n T p0) (λx=>.agg (fq x.1)) (λx=>[.box (aL x.2)]):=by
 refine zC Tryz.func275 O λr hp h hr E hE=>?_;refine D λ_ hK1=>?_;refine A ?_;refine aJ 102 (hE _ O) O4 O ?_;refine zQ hK1 ?_;refine D λ_ hK2=>?_;refine A ?_;refine zm O ?_;refine zk hp hr h [0] Tryz.call239 (cX p0) O (λ_=>rfl) λy3 h=>?_;refine za O ?_;refine zQ hK2 ?_;refine zM h (λ(v4:R)=>[(0,.ptr 0 0),(2,.ptr 102 0),(3,Sc (.int .u8 y3.1))]) (λ(v4:R)=>[(0,.box (aL v4)),(102,.box [I 0,Sc (.int .u64 0),Sc (.int .u64 0),Sc (.int .u64 0),Sc (.int .u64 0),nSl])]) (λv4 h=>?_) λ_ _ hK6 h=>?_
 ·refine D λ_ hK7=>?_;refine A ?_;refine zm O ?_;refine zn O ?_;refine zf O ?_;refine zl O ?_;refine zd hr h λhg8 h=>?_;refine zo hg8 O ?_;refine zn O ?_;refine zf O ?_;refine zs O ?_;refine zQ hK7 ?_;refine D λ_ hK9=>?_;refine A ?_;refine zm O ?_;refine zk hp hr h [] Tryz.call294 (sN n y3.1) O (λ_=>rfl) λy10 h=>?_;refine zs O ?_;refine zQ hK9 ?_;refine H ?_;exact zX (.cons (aY O O O) .nil) h O
 refine aE ?_;refine D λ_ hK11=>?_;refine bG [0,1,2,3,4,5,6,7,8,9,10] O (by kernel_rfl) ?_;refine zD O (W O) O ?_;refine zD O (dy O) O ?_;refine zD O (o O) O ?_;refine zD O (bb O O O) O ?_;refine zD O (W O) O ?_;refine zD O (dy O) O ?_;refine zD O (o O) O ?_;refine zD O (bb O O O) O ?_;refine zD O (dC O) O ?_;refine zD O (bq O O O) O ?_;refine gE O O O (aK O) O ?_;refine cY ?_;refine hK11 _ _ ?_;refine zB O h (λ_ h=>?_) λ_ h=>?_
 ·refine A ?_;refine zm O ?_;refine zm O ?_;refine zn O ?_;refine zf O ?_;refine zl O ?_;refine J (dC O) O ?_;refine zk hp hr h [0] Tryz.call207 (eu (List.length y3.2.text:Int) y3.2) O (λ_=>rfl) λy13 h=>?_;refine N ?_;exact hK6 _ _ _ h O
 refine D λ_ hK14=>?_;refine A ?_;refine zm O ?_;refine zc O ?_;refine za O ?_;refine zQ hK14 ?_;refine zB O h (λ_ h=>?_) λ_ h=>?_
 ·refine D λ_ hK16=>?_;refine A ?_;refine zm O ?_;refine zk hp hr h [0] Tryz.call290 (hT.gg y3.2) O (λ_=>rfl) λy17 h=>?_;refine zs O ?_;refine zQ hK16 ?_;refine H ?_;exact zX (.cons (aY O O O) .nil) h O
 refine D λ_ hK18=>?_;refine A ?_;refine zm O ?_;refine zc O ?_;refine za O ?_;refine zQ hK18 ?_;refine zB O h (λ_ h=>?_) λ_ h=>?_
 ·refine D λ_ hK20=>?_;refine A ?_;refine zm O ?_;refine zk hp hr h [0] Tryz.call291 (ug n y3.2) O (λ_=>rfl) λy21 h=>?_;refine zs O ?_;refine zQ hK20 ?_;refine H ?_;exact zX (.cons (aY O O O) .nil) h O
 refine D λ_ hK22=>?_;refine A ?_;refine zm O ?_;refine zc O ?_;refine za O ?_;refine zQ hK22 ?_;refine zB O h (λ_ h=>?_) λ_ h=>?_
 ·refine D λ_ hK24=>?_;refine A ?_;refine zm O ?_;refine zn O ?_;refine zf O ?_;refine zl O ?_;refine zd hr h λhg25 h=>?_;refine zo hg25 O ?_;refine zn O ?_;refine zf O ?_;refine zs O ?_;refine zQ hK24 ?_;refine D λ_ hK26=>?_;refine A ?_;refine zk hp hr h [] Tryz.call292 (ic n 0 255) O (λ_=>rfl) λy27 h=>?_;refine J (dT O O) O ?_;refine zs O ?_;refine zQ hK26 ?_;refine ca (kg 102 O O) ?_;refine H ?_;exact zX (.cons (aY O O O) .nil) h O
 refine D λ_ hK28=>?_;refine A ?_;refine zm O ?_;refine zc O ?_;refine za O ?_;refine zQ hK28 ?_;refine zB O h (λ_ h=>?_) λ_ h=>?_
 ·refine D λ_ hK30=>?_;refine D λ_ hK31=>?_;refine bG [0,1,2,3,4,5,6,7,8,9,10] O (by kernel_rfl) ?_;refine zD O (W O) O ?_;refine zD O (dy O) O ?_;refine zD O (o O) O ?_;refine zD O (bb O O O) O ?_;refine zd hr h λhg32 h=>?_;refine zD O (mg O O hg32) O ?_;refine zD O (W O) O ?_;refine zD O (dy O) O ?_;refine zD O (o O) O ?_;refine zD O (bb O O O) O ?_;refine zD O (dC O) O ?_;refine zD O (bq O O O) O ?_;refine cY ?_;refine hK31 _ _ ?_;refine zB O h (λ_ h=>?_) λ_ h=>?_
  ·refine D λ_ hK34=>?_;refine bG [0,1,2,3,4,5,6,7,8,9,14,10,11,12,13,15,16] O (by kernel_rfl) ?_;refine zD O (W O) O ?_;refine zD O (dy O) O ?_;refine zD O (o O) O ?_;refine zD O (bb O O O) O ?_;refine zD O (W O) O ?_;refine zD O (dy O) O ?_;refine zD O (o O) O ?_;refine zD O (bb O O O) O ?_;refine zd hr h λhg35 h=>?_;refine zD O (mg O O hg35) O ?_;refine ze hr h λb36 h37 h38 h39 h=>?_;refine zD O (eK O O h37 h39) O ?_;refine uA O (bV O) 104 (hE _ O) O5 O4 ?_;refine ej O (bV O) hr h [] Tryz.call293 (xZ n (b36.toNat:Int)) ⟨O,O,O,O,O,O,trivial⟩ O O (λ_=>O3) (λ_=>O2) hp (λy40 h=>⟨aK O,?_⟩);refine zD O (W O) O ?_;refine zD O (qe O O) O ?_;refine zD O (qe O O) O ?_;refine tf O O8 O (λe15 he=>⟨aK O,?_⟩);subst he;refine ub O O O (aK O) O ?_;refine cY ?_;refine hK34 _ _ ?_;refine D λ_ hK41=>?_;refine A ?_;refine zm O ?_;refine zQ hK41 ?_;refine zB O h (λ_ h=>?_) λ_ h=>?_
   ·refine D λ_ hK43=>?_;refine A ?_;refine zm O ?_;refine zn O ?_;refine zf O ?_;refine zl O ?_;refine zd hr h λhg44 h=>?_;refine zo hg44 O ?_;refine zn O ?_;refine zf O ?_;refine zs O ?_;refine zQ hK43 ?_;refine D λ_ hK45=>?_;refine A ?_;refine zA O ?_;refine J (dT O O) O ?_;refine zs O ?_;refine zQ hK45 ?_;refine ca (kg 102 O O) ?_;refine H ?_;exact zX (.cons (aY O O O) .nil) h O
   refine V ?_;refine hK30 _ _ ?_;refine D λ_ hK46=>?_;refine A ?_;refine zm O ?_;refine zk hp hr h [0] Tryz.call295 (kt n 0 y3.2) O (λ_=>rfl) λy47 h=>?_;refine zk hp hr h [] Tryz.call294 (sN n y47.1) O (λ_=>rfl) λy48 h=>?_;refine zs O ?_;refine zQ hK46 ?_;refine H ?_;exact zX (.cons (aY O O O) .nil) h O
  refine V ?_;refine hK30 _ _ ?_;refine D λ_ hK49=>?_;refine A ?_;refine zm O ?_;refine zk hp hr h [0] Tryz.call295 (kt n 0 y3.2) O (λ_=>rfl) λy50 h=>?_;refine zk hp hr h [] Tryz.call294 (sN n y50.1) O (λ_=>rfl) λy51 h=>?_;refine zs O ?_;refine zQ hK49 ?_;refine H ?_;exact zX (.cons (aY O O O) .nil) h O
 refine zM h (λ(v52:Bool)=>[(0,.ptr 0 0),(2,.ptr 102 0),(3,Sc (.int .u8 y3.1)),(89,Bo v52)]) (λ(v52:Bool)=>[(0,.box (aL y3.2)),(102,.box [I 0,Sc (.int .u64 0),Sc (.int .u64 0),Sc (.int .u64 0),Sc (.int .u64 0),nSl])]) (λv52 h=>?_) λ_ _ hK54 h=>?_
 ·refine zB O h (λ_ h=>?_) λ_ h=>?_
  ·refine A ?_;refine zm O ?_;refine zm O ?_;refine zn O ?_;refine zf O ?_;refine zl O ?_;refine zk hp hr h [0] Tryz.call207 (eu y3.2.at_ y3.2) O (λ_=>rfl) λy56 h=>?_;refine N ?_;exact hK6 _ _ _ h O
  refine V ?_;exact hK6 _ _ _ h O
 refine A ?_;refine zm O ?_;refine zc O ?_;refine zm O ?_;refine zb (decide (y3.1<32)) (λhb57=>?_) λhb57=>?_
 ·refine z1 hb57 h λh=>?_;refine zg hb57 O ?_;refine zg hb57 O ?_;refine zy hb57 O ?_;refine zm O ?_;refine zg O O ?_;refine zg O O ?_;refine zg O O ?_;refine zt O ?_;refine za O ?_;refine N ?_;exact hK54 _ _ _ h O
 refine z2 hb57 h λh=>?_;refine zG hb57 O (W O) ?_;refine zG hb57 O (bq O O O) ?_;refine zw hb57 O ?_;refine zm O ?_;refine zb (decide (y3.1>126)) (λhb58=>?_) λhb58=>?_
 ·refine z1 hb58 h λh=>?_;refine zg hb58 O ?_;refine zg hb58 O ?_;refine zg hb58 O ?_;refine zy hb58 O ?_;refine za O ?_;refine N ?_;exact hK54 _ _ _ h O
 refine z2 hb58 h λh=>?_;refine zG hb58 O (W O) ?_;refine zK hb58 O hp hr h [] Tryz.call296 (lB ([40,41,91,93,123,125,124,42,43,63,46,92]:ByS) y3.1) O (λ_=>rfl) λy59 h=>?_;refine zG hb58 O (bq O O O) ?_;refine zw hb58 O ?_;refine za O ?_;refine N ?_;exact hK54 _ _ _ h O
theorem nA (n:Nat) (T:bA) (hT:dv T) (p0:R):CT Tryz.prog 238 [.ptr 0 0] [.box (aL p0)] (gN n T p0) (λx=>.agg (fq x.1)) (λx=>[.box (aL x.2)]):=by
 refine zC Tryz.func238 O λr hp h hr E hE=>D λ_ hK1=>A (eD 101 (hE _ O) O7 O ?_);refine aJ 102 (hE _ O) O4 O ?_;refine zQ hK1 (D λ_ hK2=>A (aJ 103 (hE _ O) O4 O ?_));refine zQ hK2 (D λ_ hK3=>A (J (qm O O) O ?_));refine za O (zQ hK3 (D λ_ hK4=>A (zm O (aX (sE (j:=103) (off:=0) 26592 (sz:=6) (el:=137) (hE _ O) O O O3 O O) ?_))));refine jU hr h [103,101,26592,0] Tryz.call262 (hT.cC [] p0) ⟨O,O,O,O,O,O,⟨hE _ O,trivial⟩⟩ O (λ_=>O3) (λ_=>O2) hp (λy5 h=>?_);refine zQ hK4 (D λ_ hK6=>aE (zL hr h (λ(v7:R×(List u))=>[(0,.ptr 0 0),(1,.ptr 101 0),(2,.ptr 102 0),(3,.ptr 103 0),(4,.fn 262 [] [.ptr 103 0,.ptr 101 0])]) (λ(v7:R×(List u))=>[(0,.box (aL v7.1)),(101,.box [.ptr 0 0]),(102,.box [I 0,Sc (.int .u64 0),Sc (.int .u64 0),Sc (.int .u64 0),Sc (.int .u64 0),nSl]),(103,.box [.arr 26592 (List.length v7.2)]),(26592,.arr 137 6 (u.Cs v7.2))]) O λ_ v7 _ hK9 h=>D λ_ hK10=>D λ_ hK11=>bG [0,1,2,3,4,5,6,7,8,9,10,11,12,13,14,15,16,17,18,19] O (by kernel_rfl) (zD O (bb O O O) O (zD O (dy O) O (zD O (o O) O (zD O (bb O O O) O (zD O (bb O O O) O (zD O (dy O) O (zD O (o O) O (zD O (bb O O O) O (zD O (dC O) O (zD O (bq O O O) O (zD O (W O) O (zb (decide (v7.1.at_<(List.length v7.1.text:Int))) (λhb12=>?_) λhb12=>?_))))))))))))))
 ·refine z1 hb12 h λh=>dH hb12 O O2 (bb O O O) O3 ?_;refine ej O (AW hb12 O O2) hr h [0] Tryz.call239 (cX v7.1) ⟨O,O,O,O,O,O,trivial⟩ O O (λ_=>O3) (λ_=>O2) hp (λy13 h=>⟨aK O,?_⟩);refine dH hb12 O O2 (bq O O O) O3 ?_;refine zD O (dU hb12 O O) O (zD O (W O) O (zb (y13.1 !=124) (λhb14=>?_) λhb14=>?_))
  ·refine z1 hb14 h λh=>dH hb14 O O2 (bb O O O) O3 ?_;refine ej O (AW hb14 O O2) hr h [0] Tryz.call239 (cX y13.2) ⟨O,O,O,O,O,O,trivial⟩ O O (λ_=>O3) (λ_=>O2) hp (λy15 h=>⟨aK O,?_⟩);refine dH hb14 O O2 (bq O O O) O3 ?_;refine zD O (dU hb14 O O) O (cY (hK11 _ _ (zB O h (λ_ h=>?_) λ_ h=>?_)))
   ·refine V (hK10 _ _ (aE (A (zm O (jU hr h [103,101,26592,0] Tryz.call262 (hT.cC v7.2 y15.2) ⟨O,O,O,O,O,O,⟨hE _ O,trivial⟩⟩ O (λ_=>O3) (λ_=>O2) hp (λy17 h=>?_))))));exact N (hK9 _ _ _ h O)
   refine bw (hK6 _ _ (D λ_ hK18=>A (aX (qW (j:=103) (off:=0) u.y u.bW O O O O (hE _ O) O) ?_)));exact zl O (zk hp hr h [] Tryz.call240 (ov 3 v7.2) O (λ_=>rfl) λy19 h=>zs O (zQ hK18 (H (zX (.cons (aY O O O) .nil) h O))))
  refine z2 hb14 h λh=>dF hb14 O O2 O2 ?_;refine vk hb14 O O2 O2 ?_;refine dF hb14 O O2 O2 ?_;refine zD O (dJ hb14 O O) O (cY (hK11 _ _ (df O (λhc=>?_) (λhc=>?_))))
  ·exact absurd (hc) (by simp)
  refine bw (hK6 _ _ (D λ_ hK20=>A (aX (qW (j:=103) (off:=0) u.y u.bW O O O O (hE _ O) O) ?_)));exact zl O (zk hp hr h [] Tryz.call240 (ov 3 v7.2) O (λ_=>rfl) λy21 h=>zs O (zQ hK20 (H (zX (.cons (aY O O O) .nil) h O))))
 refine z2 hb12 h λh=>dF hb12 O O2 O2 ?_;refine vk hb12 O O2 O2 ?_;refine dF hb12 O O2 O2 ?_;refine zD O (dJ hb12 O O) O (zD O (W O) O (dF O O O2 O2 ?_));refine vk O O O2 O2 ?_;refine dF O O O2 O2 ?_;refine zD O (eX O O) O (cY (hK11 _ _ (df O (λhc=>?_) (λhc=>?_))))
 ·exact absurd (hc) (by simp)
 refine bw (hK6 _ _ (D λ_ hK22=>A (aX (qW (j:=103) (off:=0) u.y u.bW O O O O (hE _ O) O) ?_)));exact zl O (zk hp hr h [] Tryz.call240 (ov 3 v7.2) O (λ_=>rfl) λy23 h=>zs O (zQ hK22 (H (zX (.cons (aY O O O) .nil) h O))))
theorem mG (n:Nat) (T:bA) (hT:dv T) (p0:(List u)) (p1:R):CT Tryz.prog 262 [.ptr 0 0,.ptr 1 0] [.box [.arr 2 (List.length p0)],.box [.ptr 3 0],.arr 137 6 (u.Cs p0),.box (aL p1)] (gw n T p0 p1) (λ_=>.gU []) (λx=>[.box [.arr 2 (List.length x.1)],.box [.ptr 3 0],.arr 137 6 (u.Cs x.1),.box (aL x.2)]):=by
 refine zC Tryz.func262 O λr hp h hr E hE=>mL [] ?_;refine qj [0,1,3,4,2,5,6] 7 8 O (by kernel_rfl) ?_;refine zD O (fV [.arr 2 (List.length p0)] O O ⟨.inl O,trivial⟩ O) O (zD O (bb O O O) O (zD O (np O) O (vp [(u.mk 0 0 0 0 0 [])] u.y O (bV O) O3 O2 ?_)));refine ej O (bV O) hr h [3] Tryz.call263 (hT.gh p1) ⟨O,O,O,O,O,O,trivial⟩ O O (λ_=>O3) (λ_=>O2) hp (λy1 h=>⟨cW ⟨trivial,⟨trivial,⟨trivial,⟨⟨⟨_,O,M.fN ⟨.inl O,trivial⟩⟩,trivial⟩,trivial⟩⟩⟩⟩,?_⟩);refine zd hr h λhg2 h=>oo 107 O (bV O) ⟨kH.h,fg.h,u.y,u.bW,u.ju,hE _ O,O,O,(.inl O),O3,hg2⟩ O O ⟨aK O,?_⟩;refine zD O (nk O O (Int.natCast_nonneg _) (ti _ _)) O (tj ?_ ?_)
 ·refine nO p0 O (⟨u.y,u.bW,Int.natCast_nonneg _,kC _ _,O,O,O,O,O,mJ.h,O,O,O⟩:xS _ _ _ _ _ _ _ _ _ 0 _ _ _ _ _ _ y1.1 _ (u.C y1.1)) O ⟨aK O,?_⟩;refine ck O O8 O (λe8 he=>⟨aK O,?_⟩);subst he;refine gV (fJ.trans (nP 0 0 (m':=List.length (p0++[y1.1])) O O (by simp) O) (jV 107 2 [(0,.ptr 0 0),(1,.ptr 1 0)] [(0,.box [.arr 2 (List.length (p0++[y1.1]))]),(1,.box [.ptr 3 0]),(3,.box (aL y1.2))] (hE _ O) O O O2 ⟨⟨_,O,O,O⟩,⟨_,O,O,O⟩,trivial⟩ ⟨⟨_,O,O,O,O,O⟩,⟨_,O,O,O,O,O⟩,⟨_,O,O,O,O,O⟩,trivial⟩)) ?_;exact zY .nil h O
 refine ck O O8 O (λe7 he=>⟨aK O,?_⟩);subst he;refine nO p0 O (⟨u.y,u.bW,Int.natCast_nonneg _,kC _ _,O,O,O,O,O,mJ.h,O,O,O⟩:xS _ _ _ _ _ _ _ _ _ 0 _ _ _ _ _ _ y1.1 _ (u.C y1.1)) O ⟨aK O,?_⟩;refine gV (fJ.trans (nP 0 0 (m':=List.length (p0++[y1.1])) O O (by simp) O) (jV 107 2 [(0,.ptr 0 0),(1,.ptr 1 0)] [(0,.box [.arr 2 (List.length (p0++[y1.1]))]),(1,.box [.ptr 3 0]),(3,.box (aL y1.2))] (hE _ O) O O O2 ⟨⟨_,O,O,O⟩,⟨_,O,O,O⟩,trivial⟩ ⟨⟨_,O,O,O,O,O⟩,⟨_,O,O,O,O,O⟩,⟨_,O,O,O,O,O⟩,trivial⟩)) ?_;exact zY .nil h O
theorem rY (n:Nat) (T:bA) (hT:dv T) (p0:R):CT Tryz.prog 290 [.ptr 0 0] [.box (aL p0)] (jy n T p0) (λx=>.agg (fq x.1)) (λx=>[.box (aL x.2)]):=by
 refine zC Tryz.func290 O λr hp h hr E hE=>D λ_ hK1=>A (aJ 102 (hE _ O) O4 O ?_);refine zQ hK1 (D λ_ hK2=>A (zm O (zn O (zf O (zl O (zd hr h λhg3 h=>zo hg3 O (zn O (zf O (zs O (zQ hK2 (D λ_ hK4=>D λ_ hK5=>A (zm O (zk hp hr h [0] Tryz.call239 (cX (R.mk p0.text (p0.at_+1))) O (λ_=>rfl) λy6 h=>zc O (zQ hK5 (zB O h (λ_ h=>?_) λ_ h=>?_)))))))))))))))
 ·refine D λ_ hK8=>A (zm O (zn O (zf O (zl O (zd hr h λhg9 h=>zo hg9 O (zn O (zf O (zs O (zQ hK8 (D λ_ hK10=>A (J (dT O O) O ?_)))))))))));refine zs O (zQ hK10 (ca (kg 102 O O) ?_));exact H (zX (.cons (aY O O O) .nil) h O)
 refine V (hK4 _ _ (D λ_ hK11=>A (zm O (zk hp hr h [0] Tryz.call206 (hT.cH y6.2) O (λ_=>rfl) λy12 h=>aJ 103 (hE _ O) O4 O ?_))));refine zs O (zQ hK11 (zM h (λ(v13:R)=>[(0,.ptr 0 0),(2,.ptr 102 0),(3,.ptr 103 0)]) (λ(v13:R)=>[(0,.box (aL v13)),(102,.box [I 0,Sc (.int .u64 0),Sc (.int .u64 0),Sc (.int .u64 0),Sc (.int .u64 0),nSl]),(103,.box (fq y12.1))]) (λv13 h=>?_) λ_ _ hK15 h=>?_))
 ·refine D λ_ hK16=>A (zm O (zn O (zf O (zl O (zd hr h λhg17 h=>zo hg17 O (zn O (zf O (zs O (zQ hK16 (D λ_ hK18=>A (zA O ?_)))))))))));exact zs O (zQ hK18 (H (zX (.cons (aY O O O) .nil) h O)))
 refine D λ_ hK19=>A (zm O (zk hp hr h [0] Tryz.call239 (cX y12.2) O (λ_=>rfl) λy20 h=>zc O (zQ hK19 (zB O h (λ_ h=>?_) λ_ h=>?_))))
 ·exact A (zm O (zm O (zn O (zf O (zl O (zk hp hr h [0] Tryz.call207 (eu y20.2.at_ y20.2) O (λ_=>rfl) λy22 h=>N (hK15 _ _ _ h O)))))))
 exact V (hK15 _ _ _ h O)
theorem rZ (n:Nat) (T:bA) (hT:dv T) (p0:R):CT Tryz.prog 263 [.ptr 0 0] [.box (aL p0)] (jz n T p0) (λx=>.agg (fq x.1)) (λx=>[.box (aL x.2)]):=by
 refine zC Tryz.func263 O λr hp h hr E hE=>D λ_ hK1=>A (aJ 102 (hE _ O) O4 O ?_);refine zQ hK1 (D λ_ hK2=>A (zm O (zk hp hr h [0] Tryz.call275 (hT.gz p0) O (λ_=>rfl) λy3 h=>aJ 103 (hE _ O) O4 O ?_)));refine zs O (zQ hK2 (aE (zL hr h (λ(v4:R×u)=>[(0,.ptr 0 0),(2,.ptr 102 0),(3,.ptr 103 0)]) (λ(v4:R×u)=>[(0,.box (aL v4.1)),(102,.box [I 0,Sc (.int .u64 0),Sc (.int .u64 0),Sc (.int .u64 0),Sc (.int .u64 0),nSl]),(103,.box (fq v4.2))]) O λ_ v4 _ hK6 h=>aE (D λ_ hK7=>A (zA O ?_)))));refine cf [v4.2] u.y O2 O ?_;refine J (bQ O O O) O ?_;refine aJ 104 (hE _ O) O4 O ?_;refine zs O (zQ hK7 (zM h (λ(v8:R×u)=>[(0,.ptr 0 0),(2,.ptr 102 0),(3,.ptr 103 0)]) (λ(v8:R×u)=>[(0,.box (aL v8.1)),(102,.box [I 0,Sc (.int .u64 0),Sc (.int .u64 0),Sc (.int .u64 0),Sc (.int .u64 0),nSl]),(103,.box (fq v8.2))]) (λv8 h=>?_) λ_ _ hK10 h=>?_))
 ·exact A (zm O (zn O (zf O (zl O (zd hr h λhg11 h=>zo hg11 O (zn O (zf O (zs O (N (hK6 _ _ _ h O))))))))))
 refine D λ_ hK12=>A (zm O (zk hp hr h [0] Tryz.call239 (cX v4.1) O (λ_=>rfl) λy13 h=>zQ hK12 (aE (D λ_ hK14=>A (zc O (za O (zQ hK14 (zB O h (λ_ h=>?_) λ_ h=>?_))))))))
 ·refine A (zA O ?_);exact zs O (N (hK10 _ _ _ h O))
 refine D λ_ hK16=>A (zc O (za O (zQ hK16 (zB O h (λ_ h=>?_) λ_ h=>?_))))
 ·refine A (zA O ?_);refine zA O ?_;refine cf [v4.2,(u.mk 5 0 0 0 0 [v4.2])] u.y O2 O ?_;refine J (bQ O O O) O ?_;exact zs O (N (hK10 _ _ _ h O))
 refine D λ_ hK18=>A (zc O (za O (zQ hK18 (zB O h (λ_ h=>?_) λ_ h=>?_))))
 ·refine A (zA O ?_);refine J (bQ O O O) O ?_;refine cf [v4.2,(u.mk 1 0 0 0 0 [])] u.y O2 O ?_;refine J (bQ O O O) O ?_;exact zs O (N (hK10 _ _ _ h O))
 refine D λ_ hK20=>A (zA O ?_);exact zs O (zQ hK20 (H (zX (.cons (aY O O O) .nil) h O)))
theorem db:∀ n,dv (aT n)
 | 0=>⟨λ_=>cM,λ_=>cM,λ_=>cM,λ_ _=>cM,λ_=>cM,λ_=>cM⟩
 | n+1=>⟨λp0=>nT n _ (db n) p0,λp0=>sO n _ (db n) p0,λp0=>nA n _ (db n) p0,λp0 p1=>mG n _ (db n) p0 p1,λp0=>rY n _ (db n) p0,λp0=>rZ n _ (db n) p0⟩
theorem ow (n:Nat) (p0:R):CT Tryz.prog 206 [.ptr 0 0] [.box (aL p0)] (cH n p0) (λx=>.agg (fq x.1)) (λx=>[.box (aL x.2)]):=(db n).cH p0
def lY (n:Nat) (p0:ByS):al (u×dz):=
 br (decide ((List.length p0:Int)>1000)) (.ok ((u.mk 0 0 0 0 0 []),(dz.mk 2 0))) (ko (al.bind (cH n (R.mk p0 0)) λy9=>jn (λ(_:R)=>al.bind (sM n y9.1) λy15=>br (y15==9) (.ok ((u.mk 0 0 0 0 0 []),(dz.mk 9 0))) (.ok (y9.1,(dz.mk 0 0)))) λj11=>br (decide (y9.2.at_<(List.length p0:Int))) (al.bind (dK y9.2.at_ y9.2) λy22=>j11 (y22)) (j11 (y9.2))) (λp=>sC 202 p λv25=>al.bind (mw v25) λy26=>.ok (y26.1,y26.2)))
theorem tO (n:Nat) (p0:ByS):CT Tryz.prog 163 [F p0] [] (lY n p0) (λx=>.gU [.agg (fq x.1),.agg [I x.2.Errno,I x.2.At]]) (λ_=>[]):=by
 refine tg Tryz.func163 O O λr h hr E hE=>?_;refine D λ_ hK1=>A (aJ 102 (hE _ O) O4 O ?_);refine aJ 103 (hE _ O) O4 O ?_;refine zQ hK1 (D λ_ hK2=>D λ_ hK3=>A (zm O (J (dC O) O (zc O (zQ hK3 (zB O h (λ_ h=>?_) λ_ h=>?_))))))
 ·refine D λ_ hK5=>A (J (dT O O) O ?_);refine J (bQ O O O) O ?_;refine zs O (zs O (zQ hK5 (ca (kg 102 O O) ?_)));exact H (uB (n:=Tryz.f163.ntmps) (.inl O) (nr (.inl O) _ (.cons (aY O O O) (.cons (aY O O O) .nil)) h.symm (AV.le_refl _) trivial))
 refine V (hK2 _ _ (D λ_ hK6=>A (zm O (J (bQ O O O) O ?_))));refine eD 112 (hE _ O) O7 O ?_;refine aJ 104 (hE _ O) O4 O ?_;refine zs O (zQ hK6 (D λ_ hK7=>A (J (qm O O) O ?_)));refine zP O ?_;have hrO:=hr;obtain ⟨r,hr,h,hc⟩:=wx hr h;refine zQ hK7 (D λ_ hK8=>A (zl O (pO hr h [112] Tryz.call206 (ow n (R.mk p0 0)) ⟨O,O,O,O,O,O,trivial⟩ O O (λ_=>O3) (λ_=>O2) O (λp hp=>?_) (λy9 h=>?_))))
 ·obtain ⟨v24,rfl,hc⟩:=mi hrO (mj hc hp);obtain ⟨hns,hok,_⟩:=k8 hrO hc;repeat (first|refine ml ?_|refine lf ?_)
  refine jc (n:=Tryz.f163.ntmps) [104,102,103,112] Tryz.call205 (lC v24) hns O ⟨O,O,O,O⟩ (λ_=>O2) (λx hx=>?_);exact gG (.inl O) _ (.cons (aY O O O) (.cons (aY O O O) .nil)) (hok x hx).symm (AV.le_refl _) trivial
 refine zs O (zQ hK8 (zM h (λ(v10:R)=>[(0,F p0),(2,.ptr 102 0),(3,.ptr 103 0)]) (λ(v10:R)=>[(102,.box (fq y9.1)),(103,.box [I 0,I 0]),(104,.box [.ptr 112 0]),(112,.box (aL v10))]) (λv10 h=>?_) λ_ _ hK12 h=>?_))
 ·refine D λ_ hK13=>D λ_ hK14=>A (zA O ?_);refine pO hr h [] Tryz.call208 (xY n y9.1) ⟨O,O,O,O,O,O,trivial⟩ O O (λ_=>O3) (λ_=>O2) O (λp hp=>?_) (λy15 h=>?_)
  ·obtain ⟨v19,rfl,hc⟩:=mi hrO (mj hc hp);obtain ⟨hns,hok,_⟩:=k8 hrO hc;repeat (first|refine ml ?_|refine lf ?_)
   refine jc (n:=Tryz.f163.ntmps) [104,102,103,112] Tryz.call205 (lC v19) hns O ⟨O,O,O,O⟩ (λ_=>O2) (λx hx=>?_);exact gG (.inl O) _ (.cons (aY O O O) (.cons (aY O O O) .nil)) (hok x hx).symm (AV.le_refl _) trivial
  refine zc O (zQ hK14 (zB O h (λ_ h=>?_) λ_ h=>?_))
  ·refine D λ_ hK17=>A (J (dT O O) O ?_);refine J (bQ O O O) O ?_;refine zs O (zs O (zQ hK17 (ca (kg 102 O O) ?_)));refine H (lT (n:=Tryz.f163.ntmps) (.inl O) [104,102,103,112] Tryz.call205 (mO [.box [.ptr 3 0],.box [I 0,Sc (.int .u64 0),Sc (.int .u64 0),Sc (.int .u64 0),Sc (.int .u64 0),.pv (.sl (List.length ([]:List u)) (u.Cs []))],.box [I 9,I 0],.box (aL v10)]) ⟨O,O,O,O⟩ O O ?_);exact gG (.inl O) _ (.cons (aY O O O) (.cons (aY O O O) .nil)) (qY hc h.symm) (AV.le_refl _) trivial
  refine V (hK13 _ _ (D λ_ hK18=>A (zA O ?_)));refine J (bQ O O O) O ?_;refine zs O (zs O (zQ hK18 (H (lT (n:=Tryz.f163.ntmps) (.inl O) [104,102,103,112] Tryz.call205 (mO [.box [.ptr 3 0],.box (fq y9.1),.box [I 0,I 0],.box (aL v10)]) ⟨O,O,O,O⟩ O O ?_))));exact gG (.inl O) _ (.cons (aY O O O) (.cons (aY O O O) .nil)) (qY hc h.symm) (AV.le_refl _) trivial
 refine D λ_ hK20=>A (zl O (zn O (zf O (zl O (zm O (J (dC O) O (zc O (zQ hK20 (zB O h (λ_ h=>?_) λ_ h=>?_)))))))))
 ·refine bG [0,1,2,3,4,5] O (by kernel_rfl) (zD O (bb O O O) O (zD O (bb O O O) O (zD O (dy O) O (zD O (o O) O (zD O (bb O O O) O (I5 O (bV O) O hr h [112] Tryz.call207 (eu y9.2.at_ y9.2) ⟨O,O,O,O,O,O,trivial⟩ O O (λ_=>O3) (λ_=>O2) O (λp hp=>?_) (λy22 h=>?_)))))))
  ·obtain ⟨v23,rfl,hc⟩:=mi hrO (mj hc hp);obtain ⟨hns,hok,_⟩:=k8 hrO hc;repeat (first|refine ml ?_|refine lf ?_)
   refine jc (n:=Tryz.f163.ntmps) [104,102,103,112] Tryz.call205 (lC v23) hns O ⟨O,O,O,O⟩ (λ_=>O2) (λx hx=>?_);exact gG (.inl O) _ (.cons (aY O O O) (.cons (aY O O O) .nil)) (hok x hx).symm (AV.le_refl _) trivial
  exact cY (hK12 _ _ _ h O)
 exact V (hK12 _ _ _ h O)
def iO (n:Nat) (p0:L) (p1:aA):al (L×aA):=
 jn (λ(v1:L×aA)=>gd (dY (v1.1.at_+1)) (al.bind (cg n ([93]:ByS) (L.mk v1.1.text v1.1.bd (v1.1.at_+1) v1.1.base v1.1.skip v1.1.pending)) λy6=>.ok (y6,v1.2))) λj2=>al.bind (bK n ([61,126]:ByS) p0) λy8=>br y8.1 (al.bind (ar n y8.2) λy11=>al.bind (lY n y11.1.Text) λy13=>br (y13.2.Errno !=0) (al.bind (aV n (L.mk y11.2.text y11.2.bd y11.2.at_ y8.2.base y11.2.skip y11.2.pending)) λy16=>j2 (y16,(aA.mk p1.Kind p1.cG y11.1.Text p1.bn p1.bu p1.bc p1.Body p1.bT p1.kh p1.Trail p1.Pos))) (j2 ((L.mk y11.2.text y11.2.bd y11.2.at_ y8.2.base y11.2.skip y11.2.pending),(aA.mk p1.Kind p1.cG y11.1.Text p1.bn p1.bu p1.bc p1.Body p1.bT p1.kh p1.Trail p1.Pos)))) (j2 (y8.2,p1))
theorem pf (n:Nat) (p0:L) (p1:aA):CT Tryz.prog 201 [.ptr 0 0,.ptr 1 0] [.box [.ptr 2 0],.box [.ptr 3 0],.box (K p0),.box (ed p1)] (iO n p0 p1) (λ_=>.gU []) (λx=>[.box [.ptr 2 0],.box [.ptr 3 0],.box (K x.1),.box (ed x.2)]):=by
 refine zC Tryz.func201 O λr hp h hr E hE=>zM h (λ(v1:L×aA)=>[(0,.ptr 0 0),(1,.ptr 1 0)]) (λ(v1:L×aA)=>[(0,.box [.ptr 2 0]),(1,.box [.ptr 3 0]),(2,.box (K v1.1)),(3,.box (ed v1.2))]) (λv1 h=>?_) λ_ _ hK3 h=>?_
 ·exact D λ_ hK4=>A (zl O (zn O (zf O (zl O (zd hr h λhg5 h=>zo hg5 O (zn O (zf O (zs O (zQ hK4 (A (zl O (zk hp hr h [2] Tryz.call202 (dS n ([93]:ByS) (L.mk v1.1.text v1.1.bd (v1.1.at_+1) v1.1.base v1.1.skip v1.1.pending)) O (λ_=>rfl) λy6 h=>N (zY .nil h O)))))))))))))
 refine D λ_ hK7=>A (zl O (zk hp hr h [2] Tryz.call76 (dD n ([61,126]:ByS) p0) O (λ_=>rfl) λy8 h=>zQ hK7 (zB O h (λ_ h=>?_) λ_ h=>?_)))
 ·refine D λ_ hK10=>bG [0,1,2,3,4,5,6] O (by kernel_rfl) (zD O (fV [.ptr 3 0] O O ⟨.inl O,trivial⟩ O) O (zD O (bb O O O) O (ej O (bV O) hr h [2] Tryz.call34 (aI n y8.2) ⟨O,O,O,O,O,O,trivial⟩ O O (λ_=>O3) (λ_=>O2) hp (λy11 h=>⟨cW ⟨trivial,⟨⟨⟨_,O,M.fN ⟨.inl O,trivial⟩⟩,trivial⟩,trivial⟩⟩,?_⟩))));refine zD O (k9 O O) O ?_;refine zD O (dy O) O (zD O (o O) O (ck O O8 O (λe6 he=>⟨aK O,?_⟩)));subst he;refine cY (hK10 _ _ (D λ_ hK12=>A (zl O (zn O (zf O (zl O (zk hp hr h [] Tryz.call163 (tO n y11.1.Text) O (λ_=>rfl) λy13 h=>zm O (zx O (zx O (aJ 102 (hE _ O) O4 O ?_))))))))));refine aJ 103 (hE _ O) O4 O ?_;refine zs O (zs O (zQ hK12 (D λ_ hK14=>A (zf O (zl O (zc O (zQ hK14 (zB O h (λ_ h=>?_) λ_ h=>?_))))))))
  ·exact A (zl O (zk hp hr h [2] Tryz.call35 (bC n (L.mk y11.2.text y11.2.bd y11.2.at_ y8.2.base y11.2.skip y11.2.pending)) O (λ_=>rfl) λy16 h=>N (hK3 _ _ _ h O)))
  exact V (hK3 _ _ _ h O)
 exact V (hK3 _ _ _ h O)
def gi (n:Nat) (p0:Bool) (p1:L) (p2:aA):al (L×aA):=
 al.bind (iO n (L.mk p1.text p1.bd p1.at_ p1.base p0 p1.pending) p2) λy4=>.ok ((L.mk y4.1.text y4.1.bd y4.1.at_ y4.1.base p1.skip y4.1.pending),y4.2)
theorem rb (n:Nat) (p0:Bool) (p1:L) (p2:aA):CT Tryz.prog 200 [.ptr 0 0,Bo p0,.fn 201 [] [.ptr 1 0,.ptr 2 0]] [.box (K p1),.box [.ptr 0 0],.box [.ptr 3 0],.box (ed p2)] (gi n p0 p1 p2) (λ_=>.gU []) (λx=>[.box (K x.1),.box [.ptr 0 0],.box [.ptr 3 0],.box (ed x.2)]):=by
 refine zC Tryz.func200 O λr hp h hr E hE=>D λ_ hK1=>A (zm O (zn O (zf O (zl O (za O (zQ hK1 (D λ_ hK2=>A (zm O (zm O (zn O (zf O (zs O (zQ hK2 (D λ_ hK3=>A (zm O (zk hp hr h [1,2,0,3] Tryz.call201 (pf n (L.mk p1.text p1.bd p1.at_ p1.base p0 p1.pending) p2) O (λ_=>rfl) λy4 h=>zQ hK3 (A (zm O (zm O ?_)))))))))))))))))));exact zn O (zf O (zs O (N (zY .nil h O))))
def cK (n:Nat) (p0:L):al (Bool×L):=
 al.bind (ar n p0) λy3=>br (y3.1.Kind==0) (.ok (true,(L.mk y3.2.text y3.2.bd y3.2.at_ p0.base y3.2.skip y3.2.pending))) (al.bind (ar n (L.mk y3.2.text y3.2.bd y3.2.at_ p0.base y3.2.skip y3.2.pending)) λy5=>al.bind (bJ y5.1 ([125]:ByS)) λy6=>.ok (y6,(L.mk y5.2.text y5.2.bd y5.2.at_ p0.base y5.2.skip y5.2.pending)))
theorem nB (n:Nat) (p0:L):CT Tryz.prog 105 [.ptr 0 0] [.box (K p0)] (cK n p0) (λx=>Bo x.1) (λx=>[.box (K x.2)]):=by
 refine zC Tryz.func105 O λr hp h hr E hE=>D λ_ hK1=>A (za O (zQ hK1 (D λ_ hK2=>A (zm O (zk hp hr h [0] Tryz.call34 (aI n p0) O (λ_=>rfl) λy3 h=>J (k9 O O) O ?_)))));refine zc O (zm O (zb (y3.1.Kind==0) (λhb4=>?_) λhb4=>?_))
 ·exact z1 hb4 h λh=>zH 3 O hb4 (zy hb4 O (za O (zQ hK2 (H (z O h O)))))
 exact z2 hb4 h λh=>zG hb4 O (W O) (zK hb4 O hp hr h [0] Tryz.call34 (aI n (L.mk y3.2.text y3.2.bd y3.2.at_ p0.base y3.2.skip y3.2.pending)) O (λ_=>rfl) λy5 h=>zK hb4 O hp hr h [] Tryz.call72 (cT y5.1 ([125]:ByS)) O (λ_=>rfl) λy6 h=>zw hb4 O (za O (zQ hK2 (H (z O h O)))))
def du (n:Nat) (p0:Int) (p1:L):al (Bool×L):=
 iter (λnext5 (v4:Int)=>br (decide (v4<p1.at_)) (el p1.bd v4 λJk=>al.bind (bJ Jk ([44]:ByS)) λy16=>br (!y16) (.ok (false,p1)) (gd (dY (v4+1)) (next5 (v4+1)))) (gd (dY (p0 - 1)) (el p1.bd (p0 - 1) λx22=>el p1.bd p1.at_ λx26=>gd ((0:Int)<=x22.End/\(x22.End:Int)<=x26.Pos/\x26.Pos<=(List.length p1.text:Int)) (al.bind (strings_Contains (sub p1.text x22.End x26.Pos) ([10]:ByS)) λy31=>.ok ((!y31),p1))))) n (p0)
theorem mx (n:Nat) (p0:Int) (p1:L):CT Tryz.prog 106 [.ptr 0 0,I p0] [.box (K p1)] (du n p0 p1) (λx=>Bo x.1) (λx=>[.box (K x.2)]):=by
 refine zC Tryz.func106 O λr hp h hr E hE=>D λ_ hK1=>A (za O (zQ hK1 (D λ_ hK2=>D λ_ hK3=>A (zm O (za O (zQ hK3 (aE (zL hr h (λ(v4:Int)=>[(0,.ptr 0 0),(1,I p0),(5,I v4)]) (λ(v4:Int)=>[(0,.box (K p1))]) O λ_ v4 _ hK6 h=>D λ_ hK7=>D λ_ hK8=>A (zm O (zm O (zn O (zf O (zl O (zc O (zQ hK8 (zB O h (λ_ h=>?_) λ_ h=>?_))))))))))))))))
 ·refine V (hK7 _ _ (D λ_ hK10=>aE (D λ_ hK11=>A (zm O (zn O (zf O (zl O (zm O (ze hr h λJk h13 h14 h15 h=>J (iF aB.y aB.bW h13 h14 h15 O O O) O (J (ji O O) O ?_))))))))));refine zk hp hr h [] Tryz.call72 (cT Jk ([44]:ByS)) O (λ_=>rfl) λy16 h=>J (fu O) O (zQ hK11 (zB O h (λ_ h=>?_) λ_ h=>?_))
  ·exact D λ_ hK18=>A (za O (zQ hK18 (H (z O h O))))
  exact V (hK10 _ _ (A (zm O (zd hr h λhg19 h=>zo hg19 O (za O (N (hK6 _ _ _ h O)))))))
 refine bw (hK2 _ _ (D λ_ hK20=>bG [0,1,2,3,4,5,6,7,8,9,10,11,12,13,14,15,16,17,18,19,20,21,22,23,24,25,26,27] O (by kernel_rfl) (zD O (W O) O (zD O (dy O) O (zD O (o O) O (zD O (bb O O O) O (zD O (W O) O (zD O (dy O) O (zD O (o O) O (zD O (bb O O O) O (zD O (W O) O (zd hr h λhg21 h=>zD O (rM O O hg21) O (ze hr h λx22 h23 h24 h25 h=>zD O (iF aB.y aB.bW h23 h24 h25 O O O) O (zD O (kO O O) O (zD O (gI O O) O (zD O (W O) O (zD O (dy O) O (zD O (o O) O (zD O (bb O O O) O (zD O (W O) O (zD O (dy O) O ?_)))))))))))))))))))));refine zD O (o O) O (zD O (bb O O O) O (ze hr h λx26 h27 h28 h29 h=>zD O (iF aB.y aB.bW h27 h28 h29 O O O) O (zD O (kO O O) O (zD O (gI O O) O (zd hr h λhg30 h=>zD O (wV O O O hg30.1 hg30.2.1 hg30.2.2) O (ej O (bV O) hr h [] Tryz.call94 (kq (sub p1.text x22.End x26.Pos) ([10]:ByS)) ⟨O,O,O,O,O,O,trivial⟩ O O (λ_=>O3) (λ_=>O2) hp (λy31 h=>⟨aK O,?_⟩)))))));exact zD O (fu O) O (gE O O O (aK O) O (cY (hK20 _ _ (H (z O h O)))))
def ig (_:Int):al (ak×Bool):=
 .ok ((ak.mk 0 [] 0 [] [] [] [] [] 0),false)
theorem tA (v:Int):Dj Tryz.prog 316 [.ptr 0 0,.ptr 1 0] [.box [.any,.any,.any,.any,.any,.any,.any,.any,.any],.box [.any]] (some (.iface 86 (.agg #[.int .i64 v]))) (ig v) (λx=>[.box (bf x.1),.box [Bo x.2]]):=by
 refine nt (m:=some (.iface 86 (.agg #[.int .i64 v]))) (mv:=.mI 86 (.agg [I v])) (λg=>.mI 86 (.agg (.cons (.pv (.sc _)) .nil))) Tryz.func316 O O O λr h hr E hE=>?_;refine D λ_ hK1=>A (zm O (J (vn O O) O (zQ hK1 (df O (λhc=>?_) (λhc=>?_)))))
 ·refine A (J (dT O O) O ?_);refine zs O (zs O (aX (kg 0 O O) ?_));exact N (th (.inr O) _ h.symm ⟨O,O,trivial⟩)
 exact absurd (hc) (by simp)
theorem r4 (es:List M):Dj Tryz.prog 316 [.ptr 0 0,.ptr 1 0] es none (al.ok ()) (λ_=>es):=by
 refine nt (m:=none) (mv:=Sc .nilIface) (λg=>.pv (.sc _)) Tryz.func316 O O O λr h hr E hE=>?_;refine D λ_ hK1=>A (zm O (J (vo O) O (zQ hK1 (df O (λhc=>?_) (λhc=>?_)))))
 ·exact absurd (hc) (by simp)
 exact V (pr h)
def pQ (p0:aB):al (Bool):=
 .ok ((p0.Kind==6))
theorem wb (p0:aB):CT Tryz.prog 314 [.agg (gy p0)] [] (pQ p0) (λx=>Bo x) (λ_=>[]):=by
 refine zC Tryz.func314 O λr hp h hr E hE=>D λ_ hK1=>A (eD 101 (hE _ O) O7 O ?_);exact za O (zQ hK1 (D λ_ hK2=>A (zf O (zl O (zc O (za O (zQ hK2 (H (z O h O)))))))))
def je (n:Nat) (p0:(List aB)):al (Int):=
 iter (λnext5 (v4:Int)=>br (decide (v4<(List.length p0:Int))) (el p0 v4 λAy=>al.bind (pQ Ay) λy17=>br y17 (.ok (v4)) (gd (dY (v4+1)) (next5 (v4+1)))) (.ok ((-1)))) n (0)
theorem nU (n:Nat) (p0:(List aB)):CT Tryz.prog 319 [.pv (.sl (List.length p0) (aB.Cs p0)),.fn 314 [] []] [] (je n p0) (λx=>I x) (λ_=>[]):=by
 refine zC Tryz.func319 O λr hp h hr E hE=>D λ_ hK1=>A (za O (zQ hK1 (D λ_ hK2=>D λ_ hK3=>A (zm O (J (cD O) O (zm O (zQ hK3 (aE (zL hr h (λ(v4:Int)=>[(0,.pv (.sl (List.length p0) (aB.Cs p0))),(1,.fn 314 [] []),(7,I (List.length p0:Int)),(8,I v4)]) (λ(v4:Int)=>[]) O λ_ v4 _ hK6 h=>D λ_ hK7=>A (zc O (zQ hK7 (D λ_ hK8=>zB O h (λ_ h=>?_) λ_ h=>?_))))))))))))
 ·refine V (hK8 _ _ (D λ_ hK10=>aE (D λ_ hK11=>A (zm O (za O (zQ hK11 (D λ_ hK12=>A (zm O (zm O (zm O (ze hr h λAy h14 h15 h16 h=>J (iF aB.y aB.bW h14 h15 h16 O O O) O (J (ji O O) O ?_))))))))))));refine zk hp hr h [] Tryz.call314 (wb Ay) O (λ_=>rfl) λy17 h=>zQ hK12 (zB O h (λ_ h=>?_) λ_ h=>?_)
  ·exact D λ_ hK19=>A (zm O (za O (zQ hK19 (H (z O h O)))))
  exact V (hK10 _ _ (A (zd hr h λhg20 h=>zo hg20 O (zm O (N (hK6 _ _ _ h O))))))
 exact bw (hK2 _ _ (D λ_ hK21=>A (za O (zQ hK21 (H (z O h O))))))
def gB (n:Nat) (p0:(List aB)):al (Bool):=
 al.bind (je n p0) λy3=>.ok ((decide (y3>=0)))
theorem mH (n:Nat) (p0:(List aB)):CT Tryz.prog 315 [.pv (.sl (List.length p0) (aB.Cs p0)),.fn 314 [] []] [] (gB n p0) (λx=>Bo x) (λ_=>[]):=by
 exact zC Tryz.func315 O λr hp h hr E hE=>D λ_ hK1=>A (za O (zQ hK1 (D λ_ hK2=>A (zm O (zm O (zk hp hr h [] Tryz.call319 (nU n p0) O (λ_=>rfl) λy3 h=>zc O (za O (zQ hK2 (H (z O h O))))))))))
def aZ (p0:Int) (p1:ByS) (p2:Int) (p3:P):al (P):=
 gd (dY (p3.at_+p2)) (gd (lz 40 (List.length p3.out) (List.length [(aB.mk p0 p1 p3.at_ (p3.at_+p2))])) (gd (dY (p3.at_+p2)) (br (p0==6) (.ok ((P.mk p3.text (p3.at_+p2) (p3.out++[(aB.mk p0 p1 p3.at_ (p3.at_+p2))]) p3.line))) (jn (λ(v9:Bool)=>br v9 (.ok ((P.mk p3.text (p3.at_+p2) (p3.out++[(aB.mk p0 p1 p3.at_ (p3.at_+p2))]) true))) (br (p0==5) (gd (rN ([32]:ByS) p1) (gd (rN (([32]:ByS)++p1) ([32]:ByS)) (al.bind (strings_Contains ([32,95,124,95,32,95,32,46,46,46,32,41,32,93,32,125,32,63,32]:ByS) ((([32]:ByS)++p1)++([32]:ByS))) λy16=>.ok ((P.mk p3.text (p3.at_+p2) (p3.out++[(aB.mk p0 p1 p3.at_ (p3.at_+p2))]) y16))))) (.ok ((P.mk p3.text (p3.at_+p2) (p3.out++[(aB.mk p0 p1 p3.at_ (p3.at_+p2))]) false))))) λj10=>br (p0==1) (j10 ((p0==1))) (br (p0==2) (j10 ((p0==2))) (br (p0==3) (j10 ((p0==3))) (j10 ((p0==4)))))))))
theorem fM (p0:Int) (p1:ByS) (p2:Int) (p3:P):CT Tryz.prog 53 [.ptr 0 0,I p0,F p1,I p2] [.box [F p3.text,I p3.at_,.arr 1 (List.length p3.out),Bo p3.line],.app 49 4 (aB.Cs p3.out)] (aZ p0 p1 p2 p3) (λ_=>.gU []) (λx=>[.box [F x.text,I x.at_,.arr 1 (List.length x.out),Bo x.line],.app 49 4 (aB.Cs x.out)]):=by
 refine zC Tryz.func53 O λr hp h hr E hE=>D λ_ hK1=>mL [] ?_;refine bG [0,1,2,3,4,5,6,7,8,9,10,11,12,13,14,15,16,17,18,19,20,21,22] O (by kernel_rfl) (zD O (W O) O (zD O (W O) O (zD O (dy O) O (zD O (o O) O (zD O (bb O O O) O (zD O (W O) O (zD O (W O) O (zD O (W O) O (zD O (dy O) O (zD O (o O) O (zD O (bb O O O) O (zD O (W O) O (zD O (dy O) O (zD O (o O) O (zD O (bb O O O) O (zD O (W O) O (zd hr h λhg2 h=>zD O (mg O O hg2) O (zD O (bQ O O O) O ?_))))))))))))))))));refine jb [(aB.mk p0 p1 p3.at_ (p3.at_+p2))] aB.y O (bV O) O2 O2 ?_;refine zd hr h λhg3 h=>vl 127 O (bV O) ⟨kH.h,fg.h,aB.y,aB.bW,aB.ju,hE _ O,O,O,(.inl O),O3,hg3⟩ O O ⟨aK O,?_⟩;refine zD O (dy O) O (zD O (o O) O (ck O O8 O (λe22 he=>⟨aK O,?_⟩)));subst he;refine gV (la 127 1 [(0,.ptr 0 0),(1,I p0),(2,F p1),(3,I p2)] [(0,.box [F p3.text,I p3.at_,.arr 1 (List.length (p3.out++[(aB.mk p0 p1 p3.at_ (p3.at_+p2))])),Bo p3.line])] (hE _ O) O O O2 ⟨⟨_,O,O,O⟩,⟨_,O,O,O⟩,⟨_,O,O,O⟩,⟨_,O,O,O⟩,trivial⟩ ⟨⟨_,O,O,O,O,O⟩,trivial⟩) ?_;refine hK1 _ _ (D λ_ hK4=>A (zm O (zn O (zf O (zl O (zm O (zd hr h λhg5 h=>zo hg5 O (zn O (zf O (zs O (zQ hK4 (D λ_ hK6=>A (zm O (zQ hK6 (aE (D λ_ hK7=>A (zc O (za O (zQ hK7 (zB O h (λ_ h=>?_) λ_ h=>?_))))))))))))))))))))
 ·exact V (zY .nil h O)
 refine zM h (λ(v9:Bool)=>[(0,.ptr 0 0),(1,I p0),(2,F p1),(3,I p2),(52,Bo v9)]) (λ(v9:Bool)=>[(0,.box [F p3.text,I (p3.at_+p2),.arr 1 (List.length (p3.out++[(aB.mk p0 p1 p3.at_ (p3.at_+p2))])),Bo p3.line]),(1,.app 49 4 (aB.Cs (p3.out++[(aB.mk p0 p1 p3.at_ (p3.at_+p2))])))]) (λv9 h=>?_) λ_ _ hK11 h=>?_
 ·refine zB O h (λ_ h=>?_) λ_ h=>?_
  ·exact A (zm O (zn O (zf O (zs O (N (zY .nil h O))))))
  refine A (zm O (zm O (zc O (zm O (zb (p0==5) (λhb13=>?_) λhb13=>?_)))))
  ·exact z1 hb13 h λh=>zG hb13 O (W O) (zd hr h λhg14 h=>zG hb13 O (oN O O hg14) (zd hr h λhg15 h=>zG hb13 O (oN O O hg15) (zK hb13 O hp hr h [] Tryz.call94 (kq ([32,95,124,95,32,95,32,46,46,46,32,41,32,93,32,125,32,63,32]:ByS) ((([32]:ByS)++p1)++([32]:ByS))) O (λ_=>rfl) λy16 h=>zy hb13 O (zn O (zf O (zs O (N (zY .nil h O))))))))
  exact z2 hb13 h λh=>zH 4 O hb13 (zw hb13 O (zn O (zf O (zs O (N (zY .nil h O))))))
 refine D λ_ hK17=>A (zc O (za O (zQ hK17 (zB O h (λ_ h=>?_) λ_ h=>?_))))
 ·exact V (hK11 _ _ _ h O)
 refine D λ_ hK19=>A (zc O (za O (zQ hK19 (zB O h (λ_ h=>?_) λ_ h=>?_))))
 ·exact V (hK11 _ _ _ h O)
 refine D λ_ hK21=>A (zc O (za O (zQ hK21 (zB O h (λ_ h=>?_) λ_ h=>?_))))
 ·exact V (hK11 _ _ _ h O)
 exact A (zc O (za O (N (hK11 _ _ _ h O))))
def stringslite_HasPrefix (p0:ByS) (p1:ByS):al (Bool):=
 br (decide ((List.length p0:Int)>=(List.length p1:Int))) (gd ((0:Int)<=(List.length p1:Int)/\(List.length p1:Int)<=(List.length p0:Int)) (.ok (((kB p0 (List.length p1:Int))==p1)))) (.ok (false))
theorem qu (p0:ByS) (p1:ByS):CT Tryz.prog 137 [F p0,F p1] [] (stringslite_HasPrefix p0 p1) (λx=>Bo x) (λ_=>[]):=by
 refine zC Tryz.func137 O λr hp h hr E hE=>D λ_ hK1=>A (za O (zQ hK1 (D λ_ hK2=>A (zm O (J (dC O) O (zm O (J (dC O) O (zc O (zm O (zb (decide ((List.length p0:Int)>=(List.length p1:Int))) (λhb3=>?_) λhb3=>?_))))))))))
 ·exact z1 hb3 h λh=>zG hb3 O (W O) (zG hb3 O (W O) (zG hb3 O (dC O) (zd hr h λhg4 h=>zG hb3 O (qS O O hg4.1 hg4.2) (zG hb3 O (W O) (zG hb3 O (jQ O O) (zy hb3 O (za O (zQ hK2 (H (z O h O))))))))))
 exact z2 hb3 h λh=>zH 6 O hb3 (zw hb3 O (za O (zQ hK2 (H (z O h O)))))
def strings_HasPrefix (p0:ByS) (p1:ByS):al (Bool):=
 al.bind (stringslite_HasPrefix p0 p1) λy3=>.ok (y3)
theorem jM (p0:ByS) (p1:ByS):CT Tryz.prog 95 [F p0,F p1] [] (strings_HasPrefix p0 p1) (λx=>Bo x) (λ_=>[]):=by
 exact zC Tryz.func95 O λr hp h hr E hE=>D λ_ hK1=>A (za O (zQ hK1 (D λ_ hK2=>A (zm O (zm O (zk hp hr h [] Tryz.call137 (qu p0 p1) O (λ_=>rfl) λy3 h=>za O (zQ hK2 (H (z O h O)))))))))
def iG (p0:Int):al (Bool):=
 br (decide (p0>=48)) (.ok ((decide (p0<=57)))) (.ok (false))
theorem lF (p0:Int):CT Tryz.prog 98 [Sc (.int .u8 p0)] [] (iG p0) (λx=>Bo x) (λ_=>[]):=by
 refine zC Tryz.func98 O λr hp h hr E hE=>D λ_ hK1=>A (za O (zQ hK1 (D λ_ hK2=>A (zm O (zc O (zm O (zb (decide (p0>=48)) (λhb3=>?_) λhb3=>?_)))))))
 ·exact z1 hb3 h λh=>zG hb3 O (W O) (zG hb3 O (bq O O O) (zy hb3 O (za O (zQ hK2 (H (z O h O))))))
 exact z2 hb3 h λh=>zH 2 O hb3 (zw hb3 O (za O (zQ hK2 (H (z O h O)))))
def lu (n:Nat) (p0:ByS):al (Int):=
 jn (λ(v3:Int)=>jn (λ(v7:Bool)=>br v7 (gd (dY (v3+1)) (iter (λnext14 (v13:Int)=>br (decide (v13<(List.length p0:Int))) (el p0 v13 λb19=>al.bind (iG (b19.toNat:Int)) λy23=>br y23 (gd (dY (v13+1)) (next14 (v13+1))) (.ok (v13))) (.ok (v13))) n (v3+1))) (.ok (v3))) λj8=>gd (dY (v3+1)) (br (decide ((v3+1)<(List.length p0:Int))) (el p0 v3 λb31=>br ((b31.toNat:Int)==46) (gd (dY (v3+1)) (el p0 (v3+1) λb37=>al.bind (iG (b37.toNat:Int)) λy41=>j8 (y41))) (j8 (false))) (j8 (false)))) λj4=>iter (λnext43 (v42:Int)=>br (decide (v42<(List.length p0:Int))) (el p0 v42 λb48=>al.bind (iG (b48.toNat:Int)) λy52=>br y52 (gd (dY (v42+1)) (next43 (v42+1))) (j4 (v42))) (j4 (v42))) n (0)
theorem xj (n:Nat) (p0:ByS):CT Tryz.prog 99 [F p0] [] (lu n p0) (λx=>I x) (λ_=>[]):=by
 refine zC Tryz.func99 O λr hp h hr E hE=>D λ_ hK1=>A (za O (zQ hK1 (D λ_ hK2=>A (za O (zQ hK2 (zM h (λ(v3:Int)=>[(0,F p0),(3,I v3)]) (λ(v3:Int)=>[]) (λv3 h=>?_) λ_ _ hK5 h=>?_))))))
 ·refine D λ_ hK6=>zM h (λ(v7:Bool)=>[(0,F p0),(3,I v3),(33,Bo v7)]) (λ(v7:Bool)=>[]) (λv7 h=>?_) λ_ _ hK9 h=>?_
  ·refine zB O h (λ_ h=>?_) λ_ h=>?_
   ·refine D λ_ hK11=>A (zm O (zd hr h λhg12 h=>zo hg12 O (za O (zQ hK11 (aE (zL hr h (λ(v13:Int)=>[(0,F p0),(3,I v13)]) (λ(v13:Int)=>[]) O λ_ v13 _ hK15 h=>D λ_ hK16=>D λ_ hK17=>A (zm O (zm O (J (dC O) O (zc O (zm O (zb (decide (v13<(List.length p0:Int))) (λhb18=>?_) λhb18=>?_))))))))))))
    ·refine z1 hb18 h λh=>zG hb18 O (W O) (zG hb18 O (W O) (ze hr h λb19 h20 h21 h22 h=>zG hb18 O (eK O O h20 h22) (zK hb18 O hp hr h [] Tryz.call98 (lF (b19.toNat:Int)) O (λ_=>rfl) λy23 h=>zy hb18 O (zQ hK17 (zB O h (λ_ h=>?_) λ_ h=>?_)))))
     ·exact V (hK16 _ _ (aE (A (zm O (zd hr h λhg25 h=>zo hg25 O (za O (N (hK15 _ _ _ h O))))))))
     exact bw (hK6 _ _ (D λ_ hK26=>A (zm O (za O (zQ hK26 (H (z O h O)))))))
    refine z2 hb18 h λh=>zH 4 O hb18 (zw hb18 O (zQ hK17 (df O (λhc=>?_) (λhc=>?_))))
    ·exact absurd (hc) (by simp)
    exact bw (hK6 _ _ (D λ_ hK27=>A (zm O (za O (zQ hK27 (H (z O h O)))))))
   exact V (hK6 _ _ (D λ_ hK28=>A (zm O (za O (zQ hK28 (H (z O h O)))))))
  refine A (zm O (zd hr h λhg29 h=>zo hg29 O (zm O (J (dC O) O (zc O (zm O (zb (decide ((v3+1)<(List.length p0:Int))) (λhb30=>?_) λhb30=>?_)))))))
  ·refine z1 hb30 h λh=>zG hb30 O (W O) (zG hb30 O (W O) (ze hr h λb31 h32 h33 h34 h=>zG hb30 O (eK O O h32 h34) (zG hb30 O (bq O O O) (zy hb30 O (zm O (zb ((b31.toNat:Int)==46) (λhb35=>?_) λhb35=>?_))))))
   ·exact z1 hb35 h λh=>zG hb35 O (W O) (zG hb35 O (W O) (zd hr h λhg36 h=>zG hb35 O (mg O O hg36) (ze hr h λb37 h38 h39 h40 h=>zG hb35 O (eK O O h38 h40) (zK hb35 O hp hr h [] Tryz.call98 (lF (b37.toNat:Int)) O (λ_=>rfl) λy41 h=>zy hb35 O (N (hK9 _ _ _ h O))))))
   exact z2 hb35 h λh=>zH 5 O hb35 (zw hb35 O (N (hK9 _ _ _ h O)))
  exact z2 hb30 h λh=>zH 4 O hb30 (zw hb30 O (zm O (zH 5 O O (J (eX O O) O (N (hK9 _ _ _ h O))))))
 refine aE (zL hr h (λ(v42:Int)=>[(0,F p0),(3,I v42)]) (λ(v42:Int)=>[]) O λ_ v42 _ hK44 h=>D λ_ hK45=>D λ_ hK46=>A (zm O (zm O (J (dC O) O (zc O (zm O (zb (decide (v42<(List.length p0:Int))) (λhb47=>?_) λhb47=>?_)))))))
 ·refine z1 hb47 h λh=>zG hb47 O (W O) (zG hb47 O (W O) (ze hr h λb48 h49 h50 h51 h=>zG hb47 O (eK O O h49 h51) (zK hb47 O hp hr h [] Tryz.call98 (lF (b48.toNat:Int)) O (λ_=>rfl) λy52 h=>zy hb47 O (zQ hK46 (zB O h (λ_ h=>?_) λ_ h=>?_)))))
  ·exact V (hK45 _ _ (aE (A (zm O (zd hr h λhg54 h=>zo hg54 O (za O (N (hK44 _ _ _ h O))))))))
  exact bw (hK5 _ _ _ h O)
 refine z2 hb47 h λh=>zH 4 O hb47 (zw hb47 O (zQ hK46 (df O (λhc=>?_) (λhc=>?_))))
 ·exact absurd (hc) (by simp)
 exact bw (hK5 _ _ _ h O)
def jX (n:Nat) (p0:ByS):al (ByS):=
 iter (λnext5 (v4:Int)=>br (decide (v4<(List.length [([95,124,95,32,46,46,46]:ByS),([61,61,32,33,61,32,60,61,32,62,61,32,61,126,32,33,126,32,38,38,32,124,124]:ByS),([95,32,40,32,41,32,91,32,93,32,123,32,125,32,58,32,44,32,46,32,63,32,33,32,42,32,38,32,124,32,61,32,60,32,62,32,43,32,45,32,47,32,37]:ByS)]:Int))) (el [([95,124,95,32,46,46,46]:ByS),([61,61,32,33,61,32,60,61,32,62,61,32,61,126,32,33,126,32,38,38,32,124,124]:ByS),([95,32,40,32,41,32,91,32,93,32,123,32,125,32,58,32,44,32,46,32,63,32,33,32,42,32,38,32,124,32,61,32,60,32,62,32,43,32,45,32,47,32,37]:ByS)] v4 λJk=>al.bind (strings_Split Jk ([32]:ByS)) λy17=>iter (λnext19 (v18:Int)=>br (decide (v18<(List.length y17:Int))) (el y17 v18 λx26=>al.bind (strings_HasPrefix p0 x26) λy31=>br y31 (.ok (x26)) (gd (dY (v18+1)) (next19 (v18+1)))) (gd (dY (v4+1)) (next5 (v4+1)))) n (0)) (.ok (([]:ByS)))) n (0)
theorem vr (n:Nat) (p0:ByS):CT Tryz.prog 102 [F p0] [] (jX n p0) (λx=>F x) (λ_=>[]):=by
 refine zC Tryz.func102 O λr hp h hr E hE=>D λ_ hK1=>A (za O (zQ hK1 (D λ_ hK2=>D λ_ hK3=>A (cf [([95,124,95,32,46,46,46]:ByS),([61,61,32,33,61,32,60,61,32,62,61,32,61,126,32,33,126,32,38,38,32,124,124]:ByS),([95,32,40,32,41,32,91,32,93,32,123,32,125,32,58,32,44,32,46,32,63,32,33,32,42,32,38,32,124,32,61,32,60,32,62,32,43,32,45,32,47,32,37]:ByS)] ga O2 O ?_))));refine J (cD O) O (zm O (zQ hK3 (aE (zL hr h (λ(v4:Int)=>[(0,F p0),(7,.pv (.sl (List.length [([95,124,95,32,46,46,46]:ByS),([61,61,32,33,61,32,60,61,32,62,61,32,61,126,32,33,126,32,38,38,32,124,124]:ByS),([95,32,40,32,41,32,91,32,93,32,123,32,125,32,58,32,44,32,46,32,63,32,33,32,42,32,38,32,124,32,61,32,60,32,62,32,43,32,45,32,47,32,37]:ByS)]) (cn [([95,124,95,32,46,46,46]:ByS),([61,61,32,33,61,32,60,61,32,62,61,32,61,126,32,33,126,32,38,38,32,124,124]:ByS),([95,32,40,32,41,32,91,32,93,32,123,32,125,32,58,32,44,32,46,32,63,32,33,32,42,32,38,32,124,32,61,32,60,32,62,32,43,32,45,32,47,32,37]:ByS)]))),(8,I (List.length [([95,124,95,32,46,46,46]:ByS),([61,61,32,33,61,32,60,61,32,62,61,32,61,126,32,33,126,32,38,38,32,124,124]:ByS),([95,32,40,32,41,32,91,32,93,32,123,32,125,32,58,32,44,32,46,32,63,32,33,32,42,32,38,32,124,32,61,32,60,32,62,32,43,32,45,32,47,32,37]:ByS)]:Int)),(9,I v4)]) (λ(v4:Int)=>[]) O λ_ v4 _ hK6 h=>D λ_ hK7=>A (zc O (zQ hK7 (D λ_ hK8=>zB O h (λ_ h=>?_) λ_ h=>?_)))))))
 ·refine V (hK8 _ _ (D λ_ hK10=>aE (D λ_ hK11=>A (ze hr h λJk h13 h14 h15 h=>J (iF ga iU h13 h14 h15 O O O) O (J (gI O O) O (za O (zQ hK11 (D λ_ hK16=>A (zm O (zk hp hr h [] Tryz.call146 (nS Jk ([32]:ByS)) O (λ_=>rfl) λy17 h=>J (cD O) O (zm O (zQ hK16 (aE (zL hr h (λ(v18:Int)=>[(0,F p0),(7,.pv (.sl (List.length [([95,124,95,32,46,46,46]:ByS),([61,61,32,33,61,32,60,61,32,62,61,32,61,126,32,33,126,32,38,38,32,124,124]:ByS),([95,32,40,32,41,32,91,32,93,32,123,32,125,32,58,32,44,32,46,32,63,32,33,32,42,32,38,32,124,32,61,32,60,32,62,32,43,32,45,32,47,32,37]:ByS)]) (cn [([95,124,95,32,46,46,46]:ByS),([61,61,32,33,61,32,60,61,32,62,61,32,61,126,32,33,126,32,38,38,32,124,124]:ByS),([95,32,40,32,41,32,91,32,93,32,123,32,125,32,58,32,44,32,46,32,63,32,33,32,42,32,38,32,124,32,61,32,60,32,62,32,43,32,45,32,47,32,37]:ByS)]))),(8,I (List.length [([95,124,95,32,46,46,46]:ByS),([61,61,32,33,61,32,60,61,32,62,61,32,61,126,32,33,126,32,38,38,32,124,124]:ByS),([95,32,40,32,41,32,91,32,93,32,123,32,125,32,58,32,44,32,46,32,63,32,33,32,42,32,38,32,124,32,61,32,60,32,62,32,43,32,45,32,47,32,37]:ByS)]:Int)),(9,I v4),(14,.pv (.sl (List.length y17) (cn y17))),(15,I (List.length y17:Int)),(16,I v18)]) (λ(v18:Int)=>[]) O λ_ v18 _ hK20 h=>D λ_ hK21=>A (zc O (zQ hK21 (D λ_ hK22=>?_)))))))))))))))));refine zB O h (λ_ h=>?_) λ_ h=>?_
  ·refine V (hK22 _ _ (D λ_ hK24=>aE (D λ_ hK25=>A (ze hr h λx26 h27 h28 h29 h=>J (iF ga iU h27 h28 h29 O O O) O (J (gI O O) O (za O (zQ hK25 (D λ_ hK30=>A (zm O (zm O (zk hp hr h [] Tryz.call95 (jM p0 x26) O (λ_=>rfl) λy31 h=>zQ hK30 (zB O h (λ_ h=>?_) λ_ h=>?_))))))))))))
   ·exact D λ_ hK33=>A (zm O (za O (zQ hK33 (H (z O h O)))))
   exact V (hK24 _ _ (A (zd hr h λhg34 h=>zo hg34 O (zm O (N (hK20 _ _ _ h O))))))
  exact bw (hK10 _ _ (A (zd hr h λhg35 h=>zo hg35 O (zm O (N (hK6 _ _ _ h O))))))
 exact bw (hK2 _ _ (D λ_ hK36=>A (za O (zQ hK36 (H (z O h O))))))
def eS (p0:Int):al (Int):=
 .ok (yz .u8 p0 32)
theorem ei (p0:Int):CT Tryz.prog 250 [Sc (.int .u8 p0)] [] (eS p0) (λx=>Sc (.int .u8 x)) (λ_=>[]):=by
 exact zC Tryz.func250 O λr hp h hr E hE=>D λ_ hK1=>A (za O (zQ hK1 (D λ_ hK2=>A (zm O (J (A1 O O) O (za O (zQ hK2 (H (z O h O)))))))))
end Go.Abs
end
section
namespace Go.Abs
open Go.Proofs al
def nC (n:Nat) (p0:ByS):al (Bool):=
 jn (λ(v4:ByS)=>jn (λ(v8:Int×Int×Bool)=>iter (λnext13 (v12:Int×Int)=>br (decide (v12.2<(List.length v4:Int))) (jn (λ(v18:Int)=>gd (dY (v12.2+1)) (next13 (v18,v12.2+1))) λj19=>jn (λ(_:Unit)=>el v4 v12.2 λb27=>br ((b27.toNat:Int)==95) (br (v12.1 !=48) (.ok (false)) (j19 (95))) (br (v12.1==95) (.ok (false)) (j19 (33)))) λj23=>el v4 v12.2 λb42=>br (decide (48<=(b42.toNat:Int))) (el v4 v12.2 λb47=>br (decide ((b47.toNat:Int)<=57)) (j19 (48)) (br v8.2.2 (el v4 v12.2 λb54=>al.bind (eS (b54.toNat:Int)) λy58=>br (decide (97<=y58)) (el v4 v12.2 λb60=>al.bind (eS (b60.toNat:Int)) λy64=>br (decide (y64<=102)) (j19 (48)) (j23 ())) (j23 ())) (j23 ()))) (br v8.2.2 (el v4 v12.2 λb68=>al.bind (eS (b68.toNat:Int)) λy72=>br (decide (97<=y72)) (el v4 v12.2 λb74=>al.bind (eS (b74.toNat:Int)) λy78=>br (decide (y78<=102)) (j19 (48)) (j23 ())) (j23 ())) (j23 ()))) (.ok ((v12.1 !=95)))) n (v8.1,v8.2.1)) λj9=>jn (λ(v82:Bool)=>br v82 (el v4 1 λb88=>al.bind (eS (b88.toNat:Int)) λy92=>j9 (48,2,(y92==120))) (j9 (94,0,false))) λj83=>br (decide ((List.length v4:Int)>=2)) (el v4 0 λb94=>br ((b94.toNat:Int)==48) (el v4 1 λb99=>al.bind (eS (b99.toNat:Int)) λy103=>br (y103==98) (j83 (true)) (el v4 1 λb105=>al.bind (eS (b105.toNat:Int)) λy109=>br (y109==111) (j83 (true)) (el v4 1 λb111=>al.bind (eS (b111.toNat:Int)) λy115=>j83 ((y115==120))))) (j83 (false))) (j83 (false))) λj5=>br (decide ((List.length p0:Int)>=1)) (el p0 0 λb118=>br ((b118.toNat:Int)==45) (gd ((0:Int)<=1/\1<=(List.length p0:Int)) (j5 (dI p0 1))) (el p0 0 λb124=>br ((b124.toNat:Int)==43) (gd ((0:Int)<=1/\1<=(List.length p0:Int)) (j5 (dI p0 1))) (j5 (p0)))) (j5 (p0))
theorem re (n:Nat) (p0:ByS):CT Tryz.prog 251 [F p0] [] (nC n p0) (λx=>Bo x) (λ_=>[]):=by
 refine zC Tryz.func251 O λr hp h hr E hE=>D λ_ hK1=>A (za O (zQ hK1 (D λ_ hK2=>A (za O (zQ hK2 (D λ_ hK3=>A (za O (zQ hK3 (zM h (λ(v4:ByS)=>[(0,F v4),(3,Sc (.int .i32 94)),(4,I 0)]) (λ(v4:ByS)=>[]) (λv4 h=>?_) λ_ _ hK6 h=>?_)))))))))
 ·refine D λ_ hK7=>A (za O (zQ hK7 (zM h (λ(v8:Int×Int×Bool)=>[(0,F v4),(3,Sc (.int .i32 v8.1)),(4,I v8.2.1),(5,Bo v8.2.2)]) (λ(v8:Int×Int×Bool)=>[]) (λv8 h=>?_) λ_ _ hK10 h=>?_)))
  ·refine D λ_ hK11=>aE (zL hr h (λ(v12:Int×Int)=>[(0,F v4),(3,Sc (.int .i32 v12.1)),(4,I v12.2),(5,Bo v8.2.2)]) (λ(v12:Int×Int)=>[]) O λ_ v12 _ hK14 h=>D λ_ hK15=>D λ_ hK16=>A (zm O (zm O (J (dC O) O (zc O (zQ hK16 (zB O h (λ_ h=>?_) λ_ h=>?_)))))))
   ·refine V (hK15 _ _ (zM h (λ(v18:Int)=>[(0,F v4),(3,Sc (.int .i32 v18)),(4,I v12.2),(5,Bo v8.2.2)]) (λ(v18:Int)=>[]) (λv18 h=>?_) λ_ _ hK20 h=>?_))
    ·exact A (zm O (zd hr h λhg21 h=>zo hg21 O (za O (N (hK14 _ _ _ h O)))))
    refine aE (zM h (λ(v22:Unit)=>[(0,F v4),(3,Sc (.int .i32 v12.1)),(4,I v12.2),(5,Bo v8.2.2)]) (λ(v22:Unit)=>[]) (λv22 h=>?_) λ_ _ hK24 h=>?_)
    ·refine D λ_ hK25=>D λ_ hK26=>A (zm O (zm O (ze hr h λb27 h28 h29 h30 h=>J (eK O O h28 h30) O (zc O (zQ hK26 (zB O h (λ_ h=>?_) λ_ h=>?_))))))
     ·refine D λ_ hK32=>D λ_ hK33=>A (zm O (zc O (zQ hK33 (zB O h (λ_ h=>?_) λ_ h=>?_))))
      ·exact D λ_ hK35=>A (za O (zQ hK35 (H (z O h O))))
      exact V (hK32 _ _ (D λ_ hK36=>A (za O (zQ hK36 (bw (hK20 _ _ _ h O))))))
     refine V (hK25 _ _ (D λ_ hK37=>D λ_ hK38=>A (zm O (zc O (zQ hK38 (zB O h (λ_ h=>?_) λ_ h=>?_))))))
     ·exact D λ_ hK40=>A (za O (zQ hK40 (H (z O h O))))
     exact V (hK37 _ _ (A (za O (N (hK20 _ _ _ h O)))))
    refine D λ_ hK41=>A (zm O (zm O (ze hr h λb42 h43 h44 h45 h=>J (eK O O h43 h45) O (zc O (zm O (zb (decide (48<=(b42.toNat:Int))) (λhb46=>?_) λhb46=>?_))))))
    ·refine z1 hb46 h λh=>zG hb46 O (W O) (zG hb46 O (W O) (ze hr h λb47 h48 h49 h50 h=>zG hb46 O (eK O O h48 h50) (zG hb46 O (bq O O O) (zy hb46 O (zm O (zb (decide ((b47.toNat:Int)<=57)) (λhb51=>?_) λhb51=>?_))))))
     ·refine z1 hb51 h λh=>zH 2 O hb51 (zu O (zu O (zu O (zu O (zu O (zH 2 O hb51 (zu O (zu O (zu O (zu O (zu O (zg hb51 O (zy hb51 O (zQ hK41 (df O (λhc=>?_) (λhc=>?_))))))))))))))))
      ·exact D λ_ hK52=>A (za O (zQ hK52 (bw (hK20 _ _ _ h O))))
      exact absurd (hc) (by simp)
     refine z2 hb51 h λh=>zG hb51 O (W O) (zG hb51 O (W O) (zb v8.2.2 (λhb53=>?_) λhb53=>?_))
     ·refine z1 hb53 h λh=>zG hb53 O (W O) (zG hb53 O (W O) (ze hr h λb54 h55 h56 h57 h=>zG hb53 O (eK O O h55 h57) (zK hb53 O hp hr h [] Tryz.call250 (ei (b54.toNat:Int)) O (λ_=>rfl) λy58 h=>zG hb53 O (bq O O O) (zG hb51 O (dU hb53 O O) (zG hb51 O (W O) (zb (decide (97<=y58)) (λhb59=>?_) λhb59=>?_))))))
      ·refine z1 hb59 h λh=>zG hb59 O (W O) (zG hb59 O (W O) (ze hr h λb60 h61 h62 h63 h=>zG hb59 O (eK O O h61 h63) (zK hb59 O hp hr h [] Tryz.call250 (ei (b60.toNat:Int)) O (λ_=>rfl) λy64 h=>zG hb59 O (bq O O O) (zG hb51 O (dU hb59 O O) (zw hb51 O (zQ hK41 (zB O h (λ_ h=>?_) λ_ h=>?_)))))))
       ·exact D λ_ hK66=>A (za O (zQ hK66 (bw (hK20 _ _ _ h O))))
       exact V (hK24 _ _ _ h O)
      refine z2 hb59 h λh=>zH 5 O hb59 (zG hb51 O (dJ hb59 O O) (zw hb51 O (zQ hK41 (df O (λhc=>?_) (λhc=>?_)))))
      ·exact absurd (hc) (by simp)
      exact V (hK24 _ _ _ h O)
     refine z2 hb53 h λh=>zH 5 O hb53 (zG hb51 O (dJ hb53 O O) (zG hb51 O (W O) (zH 5 O O (zG hb51 O (eX O O) (zw hb51 O (zQ hK41 (df O (λhc=>?_) (λhc=>?_))))))))
     ·exact absurd (hc) (by simp)
     exact V (hK24 _ _ _ h O)
    refine z2 hb46 h λh=>zH 4 O hb46 (zw hb46 O (zm O (zG O O (W O) (zG O O (W O) (zb v8.2.2 (λhb67=>?_) λhb67=>?_)))))
    ·refine z1 hb67 h λh=>zG hb67 O (W O) (zG hb67 O (W O) (ze hr h λb68 h69 h70 h71 h=>zG hb67 O (eK O O h69 h71) (zK hb67 O hp hr h [] Tryz.call250 (ei (b68.toNat:Int)) O (λ_=>rfl) λy72 h=>zG hb67 O (bq O O O) (zG O O (dU hb67 O O) (zG O O (W O) (zb (decide (97<=y72)) (λhb73=>?_) λhb73=>?_))))))
     ·refine z1 hb73 h λh=>zG hb73 O (W O) (zG hb73 O (W O) (ze hr h λb74 h75 h76 h77 h=>zG hb73 O (eK O O h75 h77) (zK hb73 O hp hr h [] Tryz.call250 (ei (b74.toNat:Int)) O (λ_=>rfl) λy78 h=>zG hb73 O (bq O O O) (zG O O (dU hb73 O O) (J (eX O O) O (zQ hK41 (zB O h (λ_ h=>?_) λ_ h=>?_)))))))
      ·exact D λ_ hK80=>A (za O (zQ hK80 (bw (hK20 _ _ _ h O))))
      exact V (hK24 _ _ _ h O)
     refine z2 hb73 h λh=>zH 5 O hb73 (zG O O (dJ hb73 O O) (J (eX O O) O (zQ hK41 (df O (λhc=>?_) (λhc=>?_)))))
     ·exact absurd (hc) (by simp)
     exact V (hK24 _ _ _ h O)
    refine z2 hb67 h λh=>zH 5 O hb67 (zG O O (dJ hb67 O O) (zG O O (W O) (zH 5 O O (zG O O (eX O O) (J (eX O O) O (zQ hK41 (df O (λhc=>?_) (λhc=>?_))))))))
    ·exact absurd (hc) (by simp)
    exact V (hK24 _ _ _ h O)
   exact bw (hK11 _ _ (D λ_ hK81=>A (zm O (zc O (za O (zQ hK81 (H (z O h O))))))))
  refine zM h (λ(v82:Bool)=>[(0,F v4),(3,Sc (.int .i32 94)),(4,I 0),(5,Bo false),(46,Bo v82)]) (λ(v82:Bool)=>[]) (λv82 h=>?_) λ_ _ hK84 h=>?_
  ·refine zB O h (λ_ h=>?_) λ_ h=>?_
   ·exact D λ_ hK86=>A (za O (zQ hK86 (D λ_ hK87=>A (za O (zQ hK87 (A (zm O (ze hr h λb88 h89 h90 h91 h=>J (eK O O h89 h91) O (zk hp hr h [] Tryz.call250 (ei (b88.toNat:Int)) O (λ_=>rfl) λy92 h=>zc O (za O (N (hK10 _ _ _ h O))))))))))))
   exact V (hK10 _ _ _ h O)
  refine A (zm O (J (dC O) O (zc O (zm O (zb (decide ((List.length v4:Int)>=2)) (λhb93=>?_) λhb93=>?_)))))
  ·refine z1 hb93 h λh=>zG hb93 O (W O) (ze hr h λb94 h95 h96 h97 h=>zG hb93 O (eK O O h95 h97) (zG hb93 O (bq O O O) (zy hb93 O (zm O (zb ((b94.toNat:Int)==48) (λhb98=>?_) λhb98=>?_)))))
   ·refine z1 hb98 h λh=>zG hb98 O (W O) (ze hr h λb99 h100 h101 h102 h=>zG hb98 O (eK O O h100 h102) (zK hb98 O hp hr h [] Tryz.call250 (ei (b99.toNat:Int)) O (λ_=>rfl) λy103 h=>zG hb98 O (bq O O O) (zG hb98 O (W O) (zb (y103==98) (λhb104=>?_) λhb104=>?_))))
    ·exact z1 hb104 h λh=>zH 4 O hb104 (zG hb98 O (dU hb104 O O) (zG hb98 O (W O) (zH 4 O O (zG hb98 O (wm O O) (zy hb98 O (N (hK84 _ _ _ h O)))))))
    refine z2 hb104 h λh=>zG hb104 O (W O) (ze hr h λb105 h106 h107 h108 h=>zG hb104 O (eK O O h106 h108) (zK hb104 O hp hr h [] Tryz.call250 (ei (b105.toNat:Int)) O (λ_=>rfl) λy109 h=>zG hb104 O (bq O O O) (zG hb98 O (dJ hb104 O O) (zG hb98 O (W O) (zb (y109==111) (λhb110=>?_) λhb110=>?_)))))
    ·exact z1 hb110 h λh=>zH 4 O hb110 (zG hb98 O (dU hb110 O O) (zy hb98 O (N (hK84 _ _ _ h O))))
    exact z2 hb110 h λh=>zG hb110 O (W O) (ze hr h λb111 h112 h113 h114 h=>zG hb110 O (eK O O h112 h114) (zK hb110 O hp hr h [] Tryz.call250 (ei (b111.toNat:Int)) O (λ_=>rfl) λy115 h=>zG hb110 O (bq O O O) (zG hb98 O (dJ hb110 O O) (zy hb98 O (N (hK84 _ _ _ h O))))))
   exact z2 hb98 h λh=>zH 5 O hb98 (zu O (zu O (zu O (zu O (zH 2 O hb98 (zu O (zu O (zu O (zu O (zg hb98 O (zw hb98 O (N (hK84 _ _ _ h O)))))))))))))
  exact z2 hb93 h λh=>zH 3 O hb93 (zw hb93 O (zm O (zH 5 O O (zu O (zu O (zu O (zu O (zH 2 O O (zu O (zu O (zu O (zu O (zg O O (J (eX O O) O (N (hK84 _ _ _ h O))))))))))))))))
 refine D λ_ hK116=>A (zm O (J (dC O) O (zc O (zm O (zb (decide ((List.length p0:Int)>=1)) (λhb117=>?_) λhb117=>?_)))))
 ·refine z1 hb117 h λh=>zG hb117 O (W O) (ze hr h λb118 h119 h120 h121 h=>zG hb117 O (eK O O h119 h121) (zG hb117 O (bq O O O) (zG hb117 O (W O) (zb ((b118.toNat:Int)==45) (λhb122=>?_) λhb122=>?_))))
  ·refine z1 hb122 h λh=>zH 3 O hb122 (zG hb117 O (dU hb122 O O) (zy hb117 O (zQ hK116 (df O (λhc=>?_) (λhc=>?_)))))
   ·exact A (zm O (zd hr h λhg123 h=>J (iX O O hg123.1 hg123.2) O (za O (N (hK6 _ _ _ h O)))))
   exact absurd (hc) (by simp)
  refine z2 hb122 h λh=>zG hb122 O (W O) (ze hr h λb124 h125 h126 h127 h=>zG hb122 O (eK O O h125 h127) (zG hb122 O (bq O O O) (zG hb117 O (dJ hb122 O O) (zy hb117 O (zQ hK116 (zB O h (λ_ h=>?_) λ_ h=>?_))))))
  ·exact A (zm O (zd hr h λhg129 h=>J (iX O O hg129.1 hg129.2) O (za O (N (hK6 _ _ _ h O)))))
  exact V (hK6 _ _ _ h O)
 refine z2 hb117 h λh=>zH 4 O hb117 (zu O (zu O (zu O (zg hb117 O (zw hb117 O (zQ hK116 (df O (λhc=>?_) (λhc=>?_))))))))
 ·exact absurd (hc) (by simp)
 exact V (hK6 _ _ _ h O)
def jA (n:Nat) (p0:ByS) (p1:Int) (p2:Int):al (Int×Int):=
 br (p0==([]:ByS)) (.ok (0,2)) (jn (λ(v8:ByS×Int)=>jn (λ(v11:Int)=>jn (λ(v15:Int)=>gd ((0:Int)<=(IntKind.wrap .u64 v11)) (iter (λnext25 (v24:Bool×Int×Int)=>br (decide (v24.2.2<(List.length (ofBytes v8.1):Int))) (el (ofBytes v8.1) v24.2.2 λx32=>jn (λ(v37:Int)=>br (decide (v37>=(IntKind.wrap .u8 v8.2))) (.ok (0,2)) (br (decide (v24.2.1>=v15)) (.ok (IntKind.wrap .u64 ((oS .u64 1 (IntKind.wrap .u64 v11)) - 1),1)) (br (decide ((IntKind.wrap .u64 ((IntKind.wrap .u64 (v24.2.1*(IntKind.wrap .u64 v8.2)))+(IntKind.wrap .u64 v37)))<(IntKind.wrap .u64 (v24.2.1*(IntKind.wrap .u64 v8.2))))) (.ok (IntKind.wrap .u64 ((oS .u64 1 (IntKind.wrap .u64 v11)) - 1),1)) (br (decide ((IntKind.wrap .u64 ((IntKind.wrap .u64 (v24.2.1*(IntKind.wrap .u64 v8.2)))+(IntKind.wrap .u64 v37)))>(IntKind.wrap .u64 ((oS .u64 1 (IntKind.wrap .u64 v11)) - 1)))) (.ok (IntKind.wrap .u64 ((oS .u64 1 (IntKind.wrap .u64 v11)) - 1),1)) (gd (dY (v24.2.2+1)) (next25 (v24.1,IntKind.wrap .u64 ((IntKind.wrap .u64 (v24.2.1*(IntKind.wrap .u64 v8.2)))+(IntKind.wrap .u64 v37)),v24.2.2+1))))))) λj38=>jn (λ(v57:Bool)=>br v57 (gd (dY (v24.2.2+1)) (next25 (true,v24.2.1,v24.2.2+1))) (jn (λ(v63:Bool)=>br v63 (j38 (IntKind.wrap .u8 (x32 - 48))) (al.bind (eS x32) λy68=>br (decide (97<=y68)) (al.bind (eS x32) λy70=>br (decide (y70<=122)) (al.bind (eS x32) λy72=>j38 (IntKind.wrap .u8 ((IntKind.wrap .u8 (y72 - 97))+10))) (.ok (0,2))) (.ok (0,2)))) λj64=>br (decide (48<=x32)) (j64 ((decide (x32<=57)))) (j64 (false)))) λj58=>br (x32==95) (j58 ((p1==0))) (j58 (false))) (br v24.1 (al.bind (nC n p0) λy80=>br (!y80) (.ok (0,2)) (.ok (v24.2.1,0))) (.ok (v24.2.1,0)))) n (false,0,0))) λj16=>br (v8.2==10) (j16 (1844674407370955162)) (br (v8.2==16) (j16 (1152921504606846976)) (gd (((IntKind.wrap .u64 v8.2):Int)≠0) (j16 (IntKind.wrap .u64 ((IntKind.wrap .u64 (Int.tdiv 18446744073709551615 (IntKind.wrap .u64 v8.2)))+1)))))) λj12=>br (p2==0) (j12 (64)) (br (decide (p2<0)) (.ok (0,4)) (br (decide (p2>64)) (.ok (0,4)) (j12 (p2))))) λj9=>jn (λ(v98:Bool)=>br v98 (j9 (p0,p1)) (br (p1==0) (el p0 0 λb106=>br ((b106.toNat:Int)==48) (jn (λ(v111:Bool)=>br v111 (gd ((0:Int)<=2/\2<=(List.length p0:Int)) (j9 (dI p0 2,2))) (jn (λ(v117:Bool)=>br v117 (gd ((0:Int)<=2/\2<=(List.length p0:Int)) (j9 (dI p0 2,8))) (br (decide ((List.length p0:Int)>=3)) (el p0 1 λb125=>al.bind (eS (b125.toNat:Int)) λy129=>br (y129==120) (gd ((0:Int)<=2/\2<=(List.length p0:Int)) (j9 (dI p0 2,16))) (gd ((0:Int)<=1/\1<=(List.length p0:Int)) (j9 (dI p0 1,8)))) (gd ((0:Int)<=1/\1<=(List.length p0:Int)) (j9 (dI p0 1,8))))) λj118=>br (decide ((List.length p0:Int)>=3)) (el p0 1 λb138=>al.bind (eS (b138.toNat:Int)) λy142=>j118 ((y142==111))) (j118 (false)))) λj112=>br (decide ((List.length p0:Int)>=3)) (el p0 1 λb144=>al.bind (eS (b144.toNat:Int)) λy148=>j112 ((y148==98))) (j112 (false))) (j9 (p0,10))) (.ok (0,3)))) λj99=>br (decide (2<=p1)) (j99 ((decide (p1<=36)))) (j99 (false)))
theorem rf (n:Nat) (p0:ByS) (p1:Int) (p2:Int):CT Tryz.prog 228 [F p0,I p1,I p2] [] (jA n p0 p1 p2) (λx=>.gU [Sc (.int .u64 x.1),Oi x.2]) (λ_=>[]):=by
 refine zC Tryz.func228 O λr hp h hr E hE=>D λ_ hK1=>A (za O (za O (zQ hK1 (D λ_ hK2=>D λ_ hK3=>A (zm O (J (jQ O O) O (zQ hK3 (zB O h (λ_ h=>?_) λ_ h=>?_))))))))
 ·refine D λ_ hK5=>A (J (ql O) O ?_);exact za O (za O (zQ hK5 (H (zX (.cons (bp O) (.cons (bp O) .nil)) h O))))
 refine V (hK2 _ _ (D λ_ hK6=>A (zm O (zc O (za O (zQ hK6 (D λ_ hK7=>A (zm O (za O (zQ hK7 (zM h (λ(v8:ByS×Int)=>[(0,F v8.1),(1,I v8.2),(2,I p2),(8,Bo (p1==0)),(9,F p0)]) (λ(v8:ByS×Int)=>[]) (λv8 h=>?_) λ_ _ hK10 h=>?_)))))))))))
 ·refine zM h (λ(v11:Int)=>[(0,F v8.1),(1,I v8.2),(2,I v11),(8,Bo (p1==0)),(9,F p0)]) (λ(v11:Int)=>[]) (λv11 h=>?_) λ_ _ hK13 h=>?_
  ·refine D λ_ hK14=>A (za O (zQ hK14 (zM h (λ(v15:Int)=>[(0,F v8.1),(1,I v8.2),(2,I v11),(8,Bo (p1==0)),(9,F p0),(10,Sc (.int .u64 v15))]) (λ(v15:Int)=>[]) (λv15 h=>?_) λ_ _ hK17 h=>?_)))
   ·refine D λ_ hK18=>A (zm O (J (nb O) O (zd hr h λhg19 h=>J (zR O O hg19) O (J (vj O O) O (za O (zQ hK18 (D λ_ hK20=>A (za O (zQ hK20 (D λ_ hK21=>A (za O (zQ hK21 (D λ_ hK22=>D λ_ hK23=>A (zm O (I9 (Cs:=uc) O (λ_=>rfl) O ?_)))))))))))))));refine J (cD O) O (zm O (zQ hK23 (aE (zL hr h (λ(v24:Bool×Int×Int)=>[(0,F v8.1),(1,I v8.2),(2,I v11),(8,Bo (p1==0)),(9,F p0),(10,Sc (.int .u64 v15)),(11,Sc (.int .u64 (IntKind.wrap .u64 ((oS .u64 1 (IntKind.wrap .u64 v11)) - 1)))),(12,Bo v24.1),(13,Sc (.int .u64 v24.2.1)),(99,.pv (.sl (List.length (ofBytes v8.1)) (uc (ofBytes v8.1)))),(100,I (List.length (ofBytes v8.1):Int)),(101,I v24.2.2)]) (λ(v24:Bool×Int×Int)=>[]) O λ_ v24 _ hK26 h=>D λ_ hK27=>A (zc O (zQ hK27 (D λ_ hK28=>zB O h (λ_ h=>?_) λ_ h=>?_)))))))
    ·refine V (hK28 _ _ (D λ_ hK30=>aE (D λ_ hK31=>A (ze hr h λx32 h33 h34 h35 h=>J (iF lp ot h33 h34 h35 O O O) O (J (gI O O) O (za O (zQ hK31 (D λ_ hK36=>A (za O (zQ hK36 (zM h (λ(v37:Int)=>[(0,F v8.1),(1,I v8.2),(2,I v11),(8,Bo (p1==0)),(9,F p0),(10,Sc (.int .u64 v15)),(11,Sc (.int .u64 (IntKind.wrap .u64 ((oS .u64 1 (IntKind.wrap .u64 v11)) - 1)))),(12,Bo v24.1),(13,Sc (.int .u64 v24.2.1)),(16,Sc (.int .u8 v37)),(99,.pv (.sl (List.length (ofBytes v8.1)) (uc (ofBytes v8.1)))),(100,I (List.length (ofBytes v8.1):Int)),(101,I v24.2.2)]) (λ(v37:Int)=>[]) (λv37 h=>?_) λ_ _ hK39 h=>?_)))))))))))
     ·refine D λ_ hK40=>D λ_ hK41=>A (zm O (zm O (J (nb O) O (zc O (zQ hK41 (zB O h (λ_ h=>?_) λ_ h=>?_))))))
      ·refine D λ_ hK43=>A (J (ql O) O ?_);exact za O (za O (zQ hK43 (H (zX (.cons (bp O) (.cons (bp O) .nil)) h O))))
      refine V (hK40 _ _ (D λ_ hK44=>D λ_ hK45=>A (zm O (zm O (zc O (zQ hK45 (zB O h (λ_ h=>?_) λ_ h=>?_)))))))
      ·refine D λ_ hK47=>A (zm O (J (ql O) O ?_));exact za O (za O (zQ hK47 (H (zX (.cons (bp O) (.cons (bp O) .nil)) h O))))
      refine V (hK44 _ _ (D λ_ hK48=>A (zm O (zm O (J (nb O) O (J (IQ O O) O (za O (zQ hK48 (D λ_ hK49=>A (zm O (zm O (J (nb O) O (J (jS O O) O (za O (zQ hK49 (D λ_ hK50=>D λ_ hK51=>A (zm O (zm O (zc O (zm O ?_))))))))))))))))))));refine zb (decide ((IntKind.wrap .u64 ((IntKind.wrap .u64 (v24.2.1*(IntKind.wrap .u64 v8.2)))+(IntKind.wrap .u64 v37)))<(IntKind.wrap .u64 (v24.2.1*(IntKind.wrap .u64 v8.2))))) (λhb52=>?_) λhb52=>?_
      ·refine z1 hb52 h λh=>zH 3 O hb52 (zy hb52 O (zQ hK51 (df O (λhc=>?_) (λhc=>?_))))
       ·refine D λ_ hK53=>A (zm O (J (ql O) O ?_));exact za O (za O (zQ hK53 (H (zX (.cons (bp O) (.cons (bp O) .nil)) h O))))
       exact absurd (hc) (by simp)
      refine z2 hb52 h λh=>zG hb52 O (W O) (zG hb52 O (W O) (zG hb52 O (bq O O O) (zw hb52 O (zQ hK51 (zB O h (λ_ h=>?_) λ_ h=>?_)))))
      ·refine D λ_ hK55=>A (zm O (J (ql O) O ?_));exact za O (za O (zQ hK55 (H (zX (.cons (bp O) (.cons (bp O) .nil)) h O))))
      exact V (hK50 _ _ (A (zm O (za O (zQ hK30 (A (zd hr h λhg56 h=>zo hg56 O (zm O (N (hK26 _ _ _ h O))))))))))
     refine aE (zM h (λ(v57:Bool)=>[(0,F v8.1),(1,I v8.2),(2,I v11),(8,Bo (p1==0)),(9,F p0),(10,Sc (.int .u64 v15)),(11,Sc (.int .u64 (IntKind.wrap .u64 ((oS .u64 1 (IntKind.wrap .u64 v11)) - 1)))),(12,Bo v24.1),(13,Sc (.int .u64 v24.2.1)),(15,Sc (.int .u8 x32)),(99,.pv (.sl (List.length (ofBytes v8.1)) (uc (ofBytes v8.1)))),(100,I (List.length (ofBytes v8.1):Int)),(101,I v24.2.2),(106,Bo v57)]) (λ(v57:Bool)=>[]) (λv57 h=>?_) λ_ _ hK59 h=>?_)
     ·refine zB O h (λ_ h=>?_) λ_ h=>?_
      ·exact D λ_ hK61=>A (za O (zQ hK61 (bw (hK30 _ _ (A (zd hr h λhg62 h=>zo hg62 O (zm O (N (hK26 _ _ _ h O)))))))))
      refine zM h (λ(v63:Bool)=>[(0,F v8.1),(1,I v8.2),(2,I v11),(8,Bo (p1==0)),(9,F p0),(10,Sc (.int .u64 v15)),(11,Sc (.int .u64 (IntKind.wrap .u64 ((oS .u64 1 (IntKind.wrap .u64 v11)) - 1)))),(12,Bo v24.1),(13,Sc (.int .u64 v24.2.1)),(15,Sc (.int .u8 x32)),(99,.pv (.sl (List.length (ofBytes v8.1)) (uc (ofBytes v8.1)))),(100,I (List.length (ofBytes v8.1):Int)),(101,I v24.2.2),(112,Bo v63)]) (λ(v63:Bool)=>[]) (λv63 h=>?_) λ_ _ hK65 h=>?_
      ·refine zB O h (λ_ h=>?_) λ_ h=>?_
       ·exact A (zm O (J (vj O O) O (za O (N (hK39 _ _ _ h O)))))
       refine D λ_ hK67=>A (zm O (zk hp hr h [] Tryz.call250 (ei x32) O (λ_=>rfl) λy68 h=>zc O (zm O (zb (decide (97<=y68)) (λhb69=>?_) λhb69=>?_))))
       ·refine z1 hb69 h λh=>zG hb69 O (W O) (zK hb69 O hp hr h [] Tryz.call250 (ei x32) O (λ_=>rfl) λy70 h=>zG hb69 O (bq O O O) (zy hb69 O (za O (zQ hK67 (zB O h (λ_ h=>?_) λ_ h=>?_)))))
        ·exact A (zm O (zk hp hr h [] Tryz.call250 (ei x32) O (λ_=>rfl) λy72 h=>J (vj O O) O (J (jS O O) O (za O (N (hK39 _ _ _ h O))))))
        refine D λ_ hK73=>A (J (ql O) O ?_);exact za O (za O (zQ hK73 (H (zX (.cons (bp O) (.cons (bp O) .nil)) h O))))
       refine z2 hb69 h λh=>zH 3 O hb69 (zw hb69 O (za O (zQ hK67 (df O (λhc=>?_) (λhc=>?_)))))
       ·exact absurd (hc) (by simp)
       refine D λ_ hK74=>A (J (ql O) O ?_);exact za O (za O (zQ hK74 (H (zX (.cons (bp O) (.cons (bp O) .nil)) h O))))
      refine A (zm O (zc O (zm O (zb (decide (48<=x32)) (λhb75=>?_) λhb75=>?_))))
      ·exact z1 hb75 h λh=>zG hb75 O (W O) (zG hb75 O (bq O O O) (zy hb75 O (za O (N (hK65 _ _ _ h O)))))
      exact z2 hb75 h λh=>zH 2 O hb75 (zw hb75 O (za O (N (hK65 _ _ _ h O))))
     refine A (zm O (zc O (zm O (zb (x32==95) (λhb76=>?_) λhb76=>?_))))
     ·exact z1 hb76 h λh=>zG hb76 O (W O) (zy hb76 O (za O (N (hK59 _ _ _ h O))))
     exact z2 hb76 h λh=>zg hb76 O (zw hb76 O (za O (N (hK59 _ _ _ h O))))
    refine bw (hK22 _ _ (D λ_ hK77=>D λ_ hK78=>A (zm O (zm O (zb v24.1 (λhb79=>?_) λhb79=>?_)))))
    ·refine z1 hb79 h λh=>zG hb79 O (W O) (zK hb79 O hp hr h [] Tryz.call251 (re n p0) O (λ_=>rfl) λy80 h=>zG hb79 O (fu O) (zy hb79 O (zQ hK78 (zB O h (λ_ h=>?_) λ_ h=>?_))))
     ·refine D λ_ hK82=>A (J (ql O) O ?_);exact za O (za O (zQ hK82 (H (zX (.cons (bp O) (.cons (bp O) .nil)) h O))))
     exact V (hK77 _ _ (D λ_ hK83=>A (zm O (za O (za O (zQ hK83 (H (zX (.cons (bp O) (.cons (bp O) .nil)) h O))))))))
    refine z2 hb79 h λh=>zH 3 O hb79 (zw hb79 O (zQ hK78 (df O (λhc=>?_) (λhc=>?_))))
    ·exact absurd (hc) (by simp)
    exact V (hK77 _ _ (D λ_ hK84=>A (zm O (za O (za O (zQ hK84 (H (zX (.cons (bp O) (.cons (bp O) .nil)) h O))))))))
   refine D λ_ hK85=>A (zm O (zQ hK85 (aE (D λ_ hK86=>A (zc O (za O (zQ hK86 (zB O h (λ_ h=>?_) λ_ h=>?_))))))))
   ·exact A (za O (N (hK17 _ _ _ h O)))
   refine D λ_ hK88=>A (zc O (za O (zQ hK88 (zB O h (λ_ h=>?_) λ_ h=>?_))))
   ·exact A (za O (N (hK17 _ _ _ h O)))
   exact A (zm O (J (nb O) O (zd hr h λhg90 h=>J (BS O O hg90) O (J (jS O O) O (za O (N (hK17 _ _ _ h O)))))))
  refine D λ_ hK91=>A (zm O (zc O (zQ hK91 (zB O h (λ_ h=>?_) λ_ h=>?_))))
  ·exact A (za O (N (hK13 _ _ _ h O)))
  refine D λ_ hK93=>A (zm O (zc O (zm O (zb (decide (p2<0)) (λhb94=>?_) λhb94=>?_))))
  ·refine z1 hb94 h λh=>zH 2 O hb94 (zy hb94 O (zQ hK93 (df O (λhc=>?_) (λhc=>?_))))
   ·refine D λ_ hK95=>A (J (ql O) O ?_);exact za O (za O (zQ hK95 (H (zX (.cons (bp O) (.cons (bp O) .nil)) h O))))
   exact absurd (hc) (by simp)
  refine z2 hb94 h λh=>zG hb94 O (W O) (zG hb94 O (bq O O O) (zw hb94 O (zQ hK93 (zB O h (λ_ h=>?_) λ_ h=>?_))))
  ·refine D λ_ hK97=>A (J (ql O) O ?_);exact za O (za O (zQ hK97 (H (zX (.cons (bp O) (.cons (bp O) .nil)) h O))))
  exact V (hK13 _ _ _ h O)
 refine aE (zM h (λ(v98:Bool)=>[(0,F p0),(1,I p1),(2,I p2),(8,Bo (p1==0)),(9,F p0),(25,Bo v98)]) (λ(v98:Bool)=>[]) (λv98 h=>?_) λ_ _ hK100 h=>?_)
 ·refine zB O h (λ_ h=>?_) λ_ h=>?_
  ·exact V (hK10 _ _ _ h O)
  refine D λ_ hK102=>A (zm O (zc O (za O (zQ hK102 (zB O h (λ_ h=>?_) λ_ h=>?_)))))
  ·refine D λ_ hK104=>A (za O (zQ hK104 (D λ_ hK105=>A (zm O (ze hr h λb106 h107 h108 h109 h=>J (eK O O h107 h109) O (zc O (zQ hK105 (zB O h (λ_ h=>?_) λ_ h=>?_))))))))
   ·refine aE (zM h (λ(v111:Bool)=>[(0,F p0),(2,I p2),(8,Bo (p1==0)),(9,F p0),(40,Bo v111)]) (λ(v111:Bool)=>[]) (λv111 h=>?_) λ_ _ hK113 h=>?_)
    ·refine zB O h (λ_ h=>?_) λ_ h=>?_
     ·exact D λ_ hK115=>A (za O (zQ hK115 (A (zm O (zd hr h λhg116 h=>J (iX O O hg116.1 hg116.2) O (za O (N (hK10 _ _ _ h O))))))))
     refine zM h (λ(v117:Bool)=>[(0,F p0),(2,I p2),(8,Bo (p1==0)),(9,F p0),(52,Bo v117)]) (λ(v117:Bool)=>[]) (λv117 h=>?_) λ_ _ hK119 h=>?_
     ·refine zB O h (λ_ h=>?_) λ_ h=>?_
      ·exact D λ_ hK121=>A (za O (zQ hK121 (A (zm O (zd hr h λhg122 h=>J (iX O O hg122.1 hg122.2) O (za O (N (hK10 _ _ _ h O))))))))
      refine D λ_ hK123=>A (zm O (J (dC O) O (zc O (zm O (zb (decide ((List.length p0:Int)>=3)) (λhb124=>?_) λhb124=>?_)))))
      ·refine z1 hb124 h λh=>zG hb124 O (W O) (ze hr h λb125 h126 h127 h128 h=>zG hb124 O (eK O O h126 h128) (zK hb124 O hp hr h [] Tryz.call250 (ei (b125.toNat:Int)) O (λ_=>rfl) λy129 h=>zG hb124 O (bq O O O) (zy hb124 O (za O (zQ hK123 (zB O h (λ_ h=>?_) λ_ h=>?_))))))
       ·exact D λ_ hK131=>A (za O (zQ hK131 (A (zm O (zd hr h λhg132 h=>J (iX O O hg132.1 hg132.2) O (za O (N (hK10 _ _ _ h O))))))))
       exact D λ_ hK133=>A (za O (zQ hK133 (A (zm O (zd hr h λhg134 h=>J (iX O O hg134.1 hg134.2) O (za O (N (hK10 _ _ _ h O))))))))
      refine z2 hb124 h λh=>zH 4 O hb124 (zw hb124 O (za O (zQ hK123 (df O (λhc=>?_) (λhc=>?_)))))
      ·exact absurd (hc) (by simp)
      exact D λ_ hK135=>A (za O (zQ hK135 (A (zm O (zd hr h λhg136 h=>J (iX O O hg136.1 hg136.2) O (za O (N (hK10 _ _ _ h O))))))))
     refine A (zm O (J (dC O) O (zc O (zm O (zb (decide ((List.length p0:Int)>=3)) (λhb137=>?_) λhb137=>?_)))))
     ·exact z1 hb137 h λh=>zG hb137 O (W O) (ze hr h λb138 h139 h140 h141 h=>zG hb137 O (eK O O h139 h141) (zK hb137 O hp hr h [] Tryz.call250 (ei (b138.toNat:Int)) O (λ_=>rfl) λy142 h=>zG hb137 O (bq O O O) (zy hb137 O (za O (N (hK119 _ _ _ h O))))))
     exact z2 hb137 h λh=>zH 4 O hb137 (zw hb137 O (za O (N (hK119 _ _ _ h O))))
    refine A (zm O (J (dC O) O (zc O (zm O (zb (decide ((List.length p0:Int)>=3)) (λhb143=>?_) λhb143=>?_)))))
    ·exact z1 hb143 h λh=>zG hb143 O (W O) (ze hr h λb144 h145 h146 h147 h=>zG hb143 O (eK O O h145 h147) (zK hb143 O hp hr h [] Tryz.call250 (ei (b144.toNat:Int)) O (λ_=>rfl) λy148 h=>zG hb143 O (bq O O O) (zy hb143 O (za O (N (hK113 _ _ _ h O))))))
    exact z2 hb143 h λh=>zH 4 O hb143 (zw hb143 O (za O (N (hK113 _ _ _ h O))))
   exact V (hK10 _ _ _ h O)
  refine D λ_ hK149=>A (J (ql O) O ?_);exact za O (za O (zQ hK149 (H (zX (.cons (bp O) (.cons (bp O) .nil)) h O))))
 refine A (zm O (zc O (zm O (zb (decide (2<=p1)) (λhb150=>?_) λhb150=>?_))))
 ·exact z1 hb150 h λh=>zG hb150 O (W O) (zG hb150 O (bq O O O) (zy hb150 O (za O (N (hK100 _ _ _ h O)))))
 exact z2 hb150 h λh=>zH 2 O hb150 (zw hb150 O (za O (N (hK100 _ _ _ h O))))
def kR (n:Nat) (p0:ByS) (p1:Int) (p2:Int):al (Int×Bool):=
 al.bind (jA n p0 p1 p2) λy3=>br (y3.2 !=0) (al.bind (nR ([80,97,114,115,101,85,105,110,116]:ByS) p0 p1 p2 y3.2) λy8=>.ok (y3.1,y8)) (.ok (y3.1,false))
theorem tB (n:Nat) (p0:ByS) (p1:Int) (p2:Int):CT Tryz.prog 234 [F p0,I p1,I p2] [] (kR n p0 p1 p2) (λx=>.gU [Sc (.int .u64 x.1),Oe 216 x.2]) (λ_=>[]):=by
 refine zC Tryz.func234 O λr hp h hr E hE=>D λ_ hK1=>A (za O (za O (zQ hK1 (D λ_ hK2=>A (zm O (zm O (zm O (jU hr h [] Tryz.call228 (rf n p0 p1 p2) ⟨O,O,O,O,O,O,trivial⟩ O (λ_=>⟨O,O,GK O⟩) (λ_=>⟨Ja,O⟩) hp (λy3 h=>?_)))))))));refine zm O (zx O (zx O (za O (za O (zQ hK2 (D λ_ hK4=>D λ_ hK5=>A (zm O (J (Jb O) O (zQ hK5 (zB O h (λ_ h=>?_) λ_ h=>?_))))))))))
 ·refine D λ_ hK7=>A (zm O (zm O (zm O (zm O (zm O (jU hr h [] Tryz.call191 (uC ([80,97,114,115,101,85,105,110,116]:ByS) p0 p1 p2 y3.2) ⟨O,O,(by simp[AV.gZ.me,AV.gZ,CS]<;>rfl),O,O,O,trivial⟩ O (λ_=>⟨O,O,EW⟩) (λ_=>⟨GJ,O⟩) hp (λy8 h=>?_)))))));exact za O (za O (zQ hK7 (H (zX (.cons (bp O) (.cons (bp O) .nil)) h O))))
 exact V (hK4 _ _ (D λ_ hK9=>A (zm O (za O (za O (zQ hK9 (H (zX (.cons (bp O) (.cons (bp O) .nil)) h O))))))))
def my (n:Nat) (p0:ByS):al (Int×Int):=
 br (decide ((List.length p0:Int)<2)) (.ok (0,0)) (el p0 1 λb8=>jn (λ(v12:Bool)=>br v12 (el p0 1 λb17=>.ok ((b17.toNat:Int),2)) (br ((b8.toNat:Int)==110) (.ok (10,2)) (br ((b8.toNat:Int)==116) (.ok (9,2)) (br ((b8.toNat:Int)==114) (.ok (13,2)) (br ((b8.toNat:Int)==120) (br (decide ((List.length p0:Int)<4)) (.ok (0,0)) (gd ((0:Int)<=2/\(2:Int)<=4/\4<=(List.length p0:Int)) (al.bind (kR n (sub p0 2 4) 16 8) λy38=>br y38.2 (.ok (0,0)) (.ok (IntKind.wrap .u8 y38.1,4))))) (.ok (0,0))))))) λj13=>br ((b8.toNat:Int)==34) (j13 (((b8.toNat:Int)==34))) (j13 (((b8.toNat:Int)==92))))
theorem vt (n:Nat) (p0:ByS):CT Tryz.prog 197 [F p0] [] (my n p0) (λx=>.gU [Sc (.int .u8 x.1),I x.2]) (λ_=>[]):=by
 refine zC Tryz.func197 O λr hp h hr E hE=>D λ_ hK1=>A (za O (za O (zQ hK1 (D λ_ hK2=>D λ_ hK3=>A (zm O (J (dC O) O (zc O (zQ hK3 (zB O h (λ_ h=>?_) λ_ h=>?_)))))))))
 ·exact D λ_ hK5=>A (za O (za O (zQ hK5 (H (zX (.cons (bp O) (.cons (bp O) .nil)) h O)))))
 refine V (hK2 _ _ (D λ_ hK6=>D λ_ hK7=>A (zm O (ze hr h λb8 h9 h10 h11 h=>J (eK O O h9 h11) O (zQ hK7 (aE (zM h (λ(v12:Bool)=>[(0,F p0),(10,Sc (.int .u8 (b8.toNat:Int))),(11,Bo v12)]) (λ(v12:Bool)=>[]) (λv12 h=>?_) λ_ _ hK14 h=>?_)))))))
 ·refine zB O h (λ_ h=>?_) λ_ h=>?_
  ·exact D λ_ hK16=>A (zm O (ze hr h λb17 h18 h19 h20 h=>J (eK O O h18 h20) O (za O (za O (zQ hK16 (H (zX (.cons (bp O) (.cons (bp O) .nil)) h O)))))))
  refine D λ_ hK21=>A (zc O (za O (zQ hK21 (zB O h (λ_ h=>?_) λ_ h=>?_))))
  ·exact D λ_ hK23=>A (za O (za O (zQ hK23 (H (zX (.cons (bp O) (.cons (bp O) .nil)) h O)))))
  refine D λ_ hK24=>A (zc O (za O (zQ hK24 (zB O h (λ_ h=>?_) λ_ h=>?_))))
  ·exact D λ_ hK26=>A (za O (za O (zQ hK26 (H (zX (.cons (bp O) (.cons (bp O) .nil)) h O)))))
  refine D λ_ hK27=>A (zc O (za O (zQ hK27 (zB O h (λ_ h=>?_) λ_ h=>?_))))
  ·exact D λ_ hK29=>A (za O (za O (zQ hK29 (H (zX (.cons (bp O) (.cons (bp O) .nil)) h O)))))
  refine D λ_ hK30=>A (zc O (za O (zQ hK30 (zB O h (λ_ h=>?_) λ_ h=>?_))))
  ·refine D λ_ hK32=>D λ_ hK33=>A (zm O (J (dC O) O (zc O (zQ hK33 (zB O h (λ_ h=>?_) λ_ h=>?_)))))
   ·exact D λ_ hK35=>A (za O (za O (zQ hK35 (H (zX (.cons (bp O) (.cons (bp O) .nil)) h O)))))
   refine V (hK32 _ _ (D λ_ hK36=>A (zm O (zd hr h λhg37 h=>J (wV O O O hg37.1 hg37.2.1 hg37.2.2) O (jU hr h [] Tryz.call234 (tB n (sub p0 2 4) 16 8) ⟨O,O,O,O,O,O,trivial⟩ O (λ_=>⟨O,O,CP O⟩) (λ_=>⟨ES,O⟩) hp (λy38 h=>?_))))));refine zm O (zx O (zx O (za O (za O (zQ hK36 (D λ_ hK39=>D λ_ hK40=>A (zm O (J (EG O) O (zQ hK40 (zB O h (λ_ h=>?_) λ_ h=>?_))))))))))
   ·exact D λ_ hK42=>A (za O (za O (zQ hK42 (H (zX (.cons (bp O) (.cons (bp O) .nil)) h O)))))
   exact V (hK39 _ _ (D λ_ hK43=>A (zm O (J (nb O) O (za O (za O (zQ hK43 (H (zX (.cons (bp O) (.cons (bp O) .nil)) h O)))))))))
  exact V (hK6 _ _ (D λ_ hK44=>A (za O (za O (zQ hK44 (H (zX (.cons (bp O) (.cons (bp O) .nil)) h O)))))))
 refine D λ_ hK45=>A (zc O (za O (zQ hK45 (zB O h (λ_ h=>?_) λ_ h=>?_))))
 ·exact V (hK14 _ _ _ h O)
 exact A (zc O (za O (N (hK14 _ _ _ h O))))
def lG (n:Nat) (p0:ByS):al (ByS×dz):=
 br (decide ((List.length p0:Int)>65536)) (.ok (([]:ByS),(dz.mk 2 0))) (br ((List.length p0:Int)==0) (.ok (([]:ByS),(dz.mk 8 0))) (el p0 0 λb10=>br ((b10.toNat:Int) !=34) (.ok (([]:ByS),(dz.mk 8 0))) (iter (λnext21 (v20:(List Int)×Int)=>br (decide (v20.2>=(List.length p0:Int))) (.ok (([]:ByS),(dz.mk 8 (List.length p0:Int)))) (el p0 v20.2 λb27=>br ((b27.toNat:Int)==34) (gd (dY (v20.2+1)) (br (decide ((v20.2+1)<(List.length p0:Int))) (gd (dY (v20.2+1)) (.ok (([]:ByS),(dz.mk 8 (v20.2+1))))) (.ok (kQ v20.1,(dz.mk 0 0))))) (el p0 v20.2 λb40=>br ((b40.toNat:Int)==92) (gd ((0:Int)<=v20.2/\v20.2<=(List.length p0:Int)) (al.bind (my n (dI p0 v20.2)) λy47=>br (y47.2==0) (.ok (([]:ByS),(dz.mk 8 v20.2))) (gd (lz 1 (List.length v20.1) (List.length [y47.1])) (gd (dY (v20.2+y47.2)) (next21 (v20.1++[y47.1],v20.2+y47.2)))))) (jn (λ(v55:Bool)=>br v55 (.ok (([]:ByS),(dz.mk 8 v20.2))) (el p0 v20.2 λb61=>gd (lz 1 (List.length v20.1) (List.length [(b61.toNat:Int)])) (gd (dY (v20.2+1)) (next21 (v20.1++[(b61.toNat:Int)],v20.2+1))))) λj56=>el p0 v20.2 λb67=>br (decide ((b67.toNat:Int)<32)) (j56 (true)) (el p0 v20.2 λb72=>j56 ((decide ((b72.toNat:Int)>126)))))))) n ([],1))))
theorem rQ (n:Nat) (p0:ByS):CT Tryz.prog 145 [F p0] [] (lG n p0) (λx=>.gU [F x.1,.agg [I x.2.Errno,I x.2.At]]) (λ_=>[]):=by
 refine zC Tryz.func145 O λr hp h hr E hE=>D λ_ hK1=>A (za O (aJ 103 (hE _ O) O4 O ?_));refine zQ hK1 (A6 ?_);refine D λ_ hK2=>D λ_ hK3=>A (zm O (J (dC O) O (zc O (zQ hK3 (zB O h (λ_ h=>?_) λ_ h=>?_)))))
 ·refine D λ_ hK5=>A (J (bQ O O O) O ?_);exact za O (zs O (zQ hK5 (H (zX (.cons (bp O) (.cons (aY O O O) .nil)) h O))))
 refine V (hK2 _ _ (D λ_ hK6=>D λ_ hK7=>A (zm O (J (dC O) O (zc O (zm O (zb ((List.length p0:Int)==0) (λhb8=>?_) λhb8=>?_)))))))
 ·refine z1 hb8 h λh=>zH 3 O hb8 (zy hb8 O (zQ hK7 (df O (λhc=>?_) (λhc=>?_))))
  ·refine D λ_ hK9=>A (J (bQ O O O) O ?_);exact za O (zs O (zQ hK9 (H (zX (.cons (bp O) (.cons (aY O O O) .nil)) h O))))
  exact absurd (hc) (by simp)
 refine z2 hb8 h λh=>zG hb8 O (W O) (ze hr h λb10 h11 h12 h13 h=>zG hb8 O (eK O O h11 h13) (zG hb8 O (bq O O O) (zw hb8 O (zQ hK7 (zB O h (λ_ h=>?_) λ_ h=>?_)))))
 ·refine D λ_ hK15=>A (J (bQ O O O) O ?_);exact za O (zs O (zQ hK15 (H (zX (.cons (bp O) (.cons (aY O O O) .nil)) h O))))
 refine V (hK6 _ _ (D λ_ hK16=>A (za O (zQ hK16 (D λ_ hK17=>A (za O (zQ hK17 (D λ_ hK18=>AI ?_))))))));refine hK18 _ _ (D λ_ hK19=>aE (ca (ua (d:=4) 10004 (sz:=1) (el:=5) (hE _ O) O O3) ?_));refine zL hr h (λ(v20:(List Int)×Int)=>[(0,F p0),(3,.ptr 103 0),(4,.arr 10004 (List.length v20.1)),(5,I v20.2)]) (λ(v20:(List Int)×Int)=>[(103,.box [I 0,I 0]),(10004,.app 5 1 (uc v20.1))]) O λ_ v20 _ hK22 h=>aE (aE (D λ_ hK23=>A (zm O (zm O (J (dC O) O (zc O (za O (zQ hK23 (zB O h (λ_ h=>?_) λ_ h=>?_)))))))))
 ·refine D λ_ hK25=>A (zm O (J (dC O) O (J (bQ O O O) O ?_)));exact za O (zs O (zQ hK25 (H (zX (.cons (bp O) (.cons (aY O O O) .nil)) h O))))
 refine D λ_ hK26=>A (zm O (zm O (ze hr h λb27 h28 h29 h30 h=>J (eK O O h28 h30) O (zc O (za O (zQ hK26 (zB O h (λ_ h=>?_) λ_ h=>?_)))))))
 ·refine bw (hK19 _ _ (D λ_ hK32=>D λ_ hK33=>A (zm O (zd hr h λhg34 h=>zo hg34 O (zm O (J (dC O) O (zc O (zQ hK33 (zB O h (λ_ h=>?_) λ_ h=>?_)))))))))
  ·refine D λ_ hK36=>A (zm O (zd hr h λhg37 h=>zo hg37 O (J (bQ O O O) O ?_)));exact za O (zs O (zQ hK36 (H (zX (.cons (bp O) (.cons (aY O O O) .nil)) h O))))
  refine V (hK32 _ _ (D λ_ hK38=>A (J (nc lp ot O O O) O ?_)));refine J (CO O O) O (J (bQ O O O) O ?_);exact za O (zs O (zQ hK38 (H (zX (.cons (bp O) (.cons (aY O O O) .nil)) h O))))
 refine D λ_ hK39=>A (zm O (zm O (ze hr h λb40 h41 h42 h43 h=>J (eK O O h41 h43) O (zc O (za O (zQ hK39 (zB O h (λ_ h=>?_) λ_ h=>?_)))))))
 ·refine D λ_ hK45=>A (zm O (zm O (zd hr h λhg46 h=>J (iX O O hg46.1 hg46.2) O (zk hp hr h [] Tryz.call197 (vt n (dI p0 v20.2)) O (λ_=>rfl) λy47 h=>zm O (zx O (zx O (za O (za O (zQ hK45 (D λ_ hK48=>D λ_ hK49=>A (zm O (zc O (zQ hK49 (zB O h (λ_ h=>?_) λ_ h=>?_))))))))))))))
  ·refine D λ_ hK51=>A (zm O (J (bQ O O O) O ?_));exact za O (zs O (zQ hK51 (H (zX (.cons (bp O) (.cons (aY O O O) .nil)) h O))))
  refine V (hK48 _ _ (D λ_ hK52=>A (zm O (zm O (cf [y47.1] lp O2 O ?_)))));refine zd hr h λhg53 h=>mT 161 ⟨kH.h,fg.h,lp,ot,wA,hE _ O,O,O,(.inl O),O3,hg53⟩ O ?_;refine za O (aX (la 161 10004 [(0,F p0),(3,.ptr 103 0),(4,.arr 10004 (List.length (v20.1++[y47.1]))),(5,I v20.2),(7,I y47.2)] [(103,.box [I 0,I 0])] (hE _ O) O O O2 ⟨⟨_,O,O,O⟩,⟨_,O,O,O⟩,⟨_,O,O,O⟩,⟨_,O,O,O⟩,⟨_,O,O,O⟩,trivial⟩ ⟨⟨_,O,O,O,O,O⟩,trivial⟩) ?_);exact zQ hK52 (A (zm O (zm O (zd hr h λhg54 h=>zo hg54 O (za O (N (hK22 _ _ _ h O)))))))
 refine zM h (λ(v55:Bool)=>[(0,F p0),(3,.ptr 103 0),(4,.arr 10004 (List.length v20.1)),(5,I v20.2),(65,Bo v55)]) (λ(v55:Bool)=>[(103,.box [I 0,I 0]),(10004,.app 5 1 (uc v20.1))]) (λv55 h=>?_) λ_ _ hK57 h=>?_
 ·refine zB O h (λ_ h=>?_) λ_ h=>?_
  ·refine D λ_ hK59=>A (zm O (J (bQ O O O) O ?_));exact za O (zs O (zQ hK59 (H (zX (.cons (bp O) (.cons (aY O O O) .nil)) h O))))
  refine D λ_ hK60=>A (zm O (zm O (zm O (ze hr h λb61 h62 h63 h64 h=>J (eK O O h62 h64) O (cf [(b61.toNat:Int)] lp O2 O ?_)))));refine zd hr h λhg65 h=>mT 126 ⟨kH.h,fg.h,lp,ot,wA,hE _ O,O,O,(.inl O),O3,hg65⟩ O ?_;refine za O (aX (la 126 10004 [(0,F p0),(3,.ptr 103 0),(4,.arr 10004 (List.length (v20.1++[(b61.toNat:Int)]))),(5,I v20.2)] [(103,.box [I 0,I 0])] (hE _ O) O O O2 ⟨⟨_,O,O,O⟩,⟨_,O,O,O⟩,⟨_,O,O,O⟩,⟨_,O,O,O⟩,trivial⟩ ⟨⟨_,O,O,O,O,O⟩,trivial⟩) ?_);exact zQ hK60 (A (zm O (zd hr h λhg66 h=>zo hg66 O (za O (N (hK22 _ _ _ h O))))))
 refine A (zm O (zm O (ze hr h λb67 h68 h69 h70 h=>J (eK O O h68 h70) O (zc O (zm O (zb (decide ((b67.toNat:Int)<32)) (λhb71=>?_) λhb71=>?_))))))
 ·exact z1 hb71 h λh=>zH 4 O hb71 (zy hb71 O (za O (N (hK57 _ _ _ h O))))
 exact z2 hb71 h λh=>zG hb71 O (W O) (zG hb71 O (W O) (ze hr h λb72 h73 h74 h75 h=>zG hb71 O (eK O O h73 h75) (zG hb71 O (bq O O O) (zw hb71 O (za O (N (hK57 _ _ _ h O)))))))
def lh (p0:(List Int)) (p1:(List aS)) (p2:Int):al ((List Int)×(List aS)×Int):=
 br (decide ((List.length p0:Int)>0)) (gd (lz 32 (List.length p1) (List.length [(aS.mk (kQ p0) false p2)])) (.ok ([],p1++[(aS.mk (kQ p0) false p2)],p2))) (.ok ([],p1,p2))
theorem qv (p0:(List Int)) (p1:(List aS)) (p2:Int):CT Tryz.prog 194 [.ptr 0 0,.ptr 1 0,.ptr 2 0] [.box [.arr 3 (List.length p0)],.box [.arr 4 (List.length p1)],.box [I p2],.app 5 1 (uc p0),.app 189 3 (aS.Cs p1)] (lh p0 p1 p2) (λ_=>.gU []) (λx=>[.box [.arr 3 (List.length x.1)],.box [.arr 4 (List.length x.2.1)],.box [I x.2.2],.app 5 1 (uc x.1),.app 189 3 (aS.Cs x.2.1)]):=by
 refine zC Tryz.func194 O λr hp h hr E hE=>D λ_ hK1=>D λ_ hK2=>A (J (oI lp ot O O O O O) O ?_);refine J (cD O) O (zc O (zQ hK2 (zB O h (λ_ h=>?_) λ_ h=>?_)))
 ·refine A (zl O (J (oI lp ot O O O O O) O ?_));refine J (CO O O) O (zl O (J (bQ O O O) O ?_));refine cf [(aS.mk (kQ p0) false p2)] aS.y O2 O ?_;refine zd hr h λhg4 h=>mT 112 ⟨kH.h,fg.h,aS.y,aS.bW,aS.ju,hE _ O,O,O,(.inl O),O3,hg4⟩ O ?_;refine zs O (aX (la 112 4 [(0,.ptr 0 0),(1,.ptr 1 0),(2,.ptr 2 0)] [(0,.box [.arr 3 (List.length p0)]),(1,.box [.arr 4 (List.length (p1++[(aS.mk (kQ p0) false p2)]))]),(2,.box [I p2]),(3,.app 5 1 (uc p0))] (hE _ O) O O O2 ⟨⟨_,O,O,O⟩,⟨_,O,O,O⟩,⟨_,O,O,O⟩,trivial⟩ ⟨⟨_,O,O,O,O,O⟩,⟨_,O,O,O,O,O⟩,⟨_,O,O,O,O,O⟩,⟨_,O,O,O,O,O⟩,trivial⟩) ?_);refine zQ hK1 (A (zs O (aX (fJ.AB [(0,.ptr 0 0),(1,.ptr 1 0),(2,.ptr 2 0)] [(0,.box [nSl]),(1,.box [.arr 4 (List.length (p1++[(aS.mk (kQ p0) false p2)]))]),(2,.box [I p2]),(4,.app 189 3 (aS.Cs (p1++[(aS.mk (kQ p0) false p2)])))] ⟨O,O,O,trivial⟩ ⟨O,O,O,O,trivial⟩) ?_)));refine aX (qV (j:=0) (off:=0) 3 (sz:=1) (el:=5) (hE _ O) O O O3 O) ?_;exact N (zY .nil h O)
 refine V (hK1 _ _ (A (zs O (aX (fJ.AB [(0,.ptr 0 0),(1,.ptr 1 0),(2,.ptr 2 0)] [(0,.box [nSl]),(1,.box [.arr 4 (List.length p1)]),(2,.box [I p2]),(4,.app 189 3 (aS.Cs p1))] ⟨O,O,O,trivial⟩ ⟨O,O,O,O,trivial⟩) ?_))));refine aX (qV (j:=0) (off:=0) 3 (sz:=1) (el:=5) (hE _ O) O O O3 O) ?_;exact N (zY .nil h O)
def rh (n:Nat) (p0:ByS):al (ByS×Bool):=
 iter (λnext6 (v5:Int×Int)=>br (decide (v5.2<(List.length p0:Int))) (el p0 v5.2 λb14=>br ((b14.toNat:Int)==40) (gd (dY (v5.1+1)) (gd (dY (v5.2+1)) (next6 (v5.1+1,v5.2+1)))) (br ((b14.toNat:Int)==41) (gd (dY (v5.1 - 1)) (br ((v5.1 - 1)==0) (gd ((0:Int)<=1/\(1:Int)<=v5.2/\v5.2<=(List.length p0:Int)) (.ok (sub p0 1 v5.2,true))) (gd (dY (v5.2+1)) (next6 (v5.1 - 1,v5.2+1))))) (gd (dY (v5.2+1)) (next6 (v5.1,v5.2+1))))) (.ok (([]:ByS),false))) n (0,0)
theorem z7 (n:Nat) (p0:ByS):CT Tryz.prog 195 [F p0] [] (rh n p0) (λx=>.gU [F x.1,Bo x.2]) (λ_=>[]):=by
 refine zC Tryz.func195 O λr hp h hr E hE=>D λ_ hK1=>A (za O (za O (zQ hK1 (D λ_ hK2=>A (za O (zQ hK2 (D λ_ hK3=>D λ_ hK4=>A (zm O (J (dC O) O (zm O (zQ hK4 (aE (zL hr h (λ(v5:Int×Int)=>[(0,F p0),(4,I v5.1),(7,I (List.length p0:Int)),(8,I v5.2)]) (λ(v5:Int×Int)=>[]) O λ_ v5 _ hK7 h=>D λ_ hK8=>A (zc O (zQ hK8 (D λ_ hK9=>zB O h (λ_ h=>?_) λ_ h=>?_))))))))))))))))
 ·refine V (hK9 _ _ (D λ_ hK11=>aE (D λ_ hK12=>A (zm O (za O (zQ hK12 (D λ_ hK13=>A (zm O (zm O (ze hr h λb14 h15 h16 h17 h=>J (eK O O h15 h17) O (zQ hK13 (aE (D λ_ hK18=>A (zc O (za O (zQ hK18 (zB O h (λ_ h=>?_) λ_ h=>?_)))))))))))))))))
  ·exact A (zm O (zd hr h λhg20 h=>zo hg20 O (za O (zQ hK11 (A (zd hr h λhg21 h=>zo hg21 O (zm O (N (hK7 _ _ _ h O)))))))))
  refine D λ_ hK22=>A (zc O (za O (zQ hK22 (zB O h (λ_ h=>?_) λ_ h=>?_))))
  ·refine D λ_ hK24=>A (zm O (zd hr h λhg25 h=>J (rM O O hg25) O (za O (zQ hK24 (D λ_ hK26=>A (zm O (zc O (zQ hK26 (zB O h (λ_ h=>?_) λ_ h=>?_)))))))))
   ·exact D λ_ hK28=>A (zm O (zm O (zd hr h λhg29 h=>J (wV O O O hg29.1 hg29.2.1 hg29.2.2) O (za O (za O (zQ hK28 (H (zX (.cons (bp O) (.cons (bp O) .nil)) h O))))))))
   exact V (hK11 _ _ (A (zd hr h λhg30 h=>zo hg30 O (zm O (N (hK7 _ _ _ h O))))))
  exact V (hK11 _ _ (A (zd hr h λhg31 h=>zo hg31 O (zm O (N (hK7 _ _ _ h O))))))
 exact bw (hK3 _ _ (D λ_ hK32=>A (za O (za O (zQ hK32 (H (zX (.cons (bp O) (.cons (bp O) .nil)) h O)))))))
def oz (n:Nat) (p0:ByS):al (Int×Int):=
 jn (λ(v3:Int)=>br (decide ((List.length p0:Int)<v3)) (.ok (0,0)) (gd ((0:Int)<=v3/\v3<=(List.length p0:Int)) (gd (rN ([34]:ByS) (kB p0 v3)) (gd (rN (([34]:ByS)++(kB p0 v3)) ([34]:ByS)) (al.bind (lG n ((([34]:ByS)++(kB p0 v3))++([34]:ByS))) λy14=>br (y14.2.Errno !=0) (.ok (0,0)) (el y14.1 0 λb20=>.ok ((b20.toNat:Int),v3))))))) λj4=>al.bind (strings_HasPrefix p0 ([92,120]:ByS)) λy25=>br y25 (j4 (4)) (j4 (2))
theorem xk (n:Nat) (p0:ByS):CT Tryz.prog 196 [F p0] [] (oz n p0) (λx=>.gU [Sc (.int .u8 x.1),I x.2]) (λ_=>[]):=by
 refine zC Tryz.func196 O λr hp h hr E hE=>D λ_ hK1=>A (za O (za O (zQ hK1 (D λ_ hK2=>A (za O (zQ hK2 (zM h (λ(v3:Int)=>[(0,F p0),(4,I v3)]) (λ(v3:Int)=>[]) (λv3 h=>?_) λ_ _ hK5 h=>?_)))))))
 ·refine D λ_ hK6=>D λ_ hK7=>A (zm O (J (dC O) O (zm O (zc O (zQ hK7 (zB O h (λ_ h=>?_) λ_ h=>?_))))))
  ·exact D λ_ hK9=>A (za O (za O (zQ hK9 (H (zX (.cons (bp O) (.cons (bp O) .nil)) h O)))))
  refine V (hK6 _ _ (D λ_ hK10=>A (zm O (zm O (zd hr h λhg11 h=>J (qS O O hg11.1 hg11.2) O (zd hr h λhg12 h=>J (oN O O hg12) O (zd hr h λhg13 h=>J (oN O O hg13) O (zk hp hr h [] Tryz.call145 (rQ n ((([34]:ByS)++(kB p0 v3))++([34]:ByS))) O (λ_=>rfl) λy14 h=>zm O (zx O (zx O (aJ 106 (hE _ O) O4 O ?_)))))))))));refine za O (zs O (zQ hK10 (D λ_ hK15=>D λ_ hK16=>A (zf O (zl O (zc O (zQ hK16 (zB O h (λ_ h=>?_) λ_ h=>?_))))))))
  ·exact D λ_ hK18=>A (za O (za O (zQ hK18 (H (zX (.cons (bp O) (.cons (bp O) .nil)) h O)))))
  exact V (hK15 _ _ (D λ_ hK19=>A (zm O (ze hr h λb20 h21 h22 h23 h=>J (eK O O h21 h23) O (zm O (za O (za O (zQ hK19 (H (zX (.cons (bp O) (.cons (bp O) .nil)) h O))))))))))
 refine D λ_ hK24=>A (zm O (zk hp hr h [] Tryz.call95 (jM p0 ([92,120]:ByS)) O (λ_=>rfl) λy25 h=>zQ hK24 (zB O h (λ_ h=>?_) λ_ h=>?_)))
 ·exact A (za O (N (hK5 _ _ _ h O)))
 exact V (hK5 _ _ _ h O)
def mz (n:Nat) (p0:ByS):al ((List aS)×dz):=
 iter (λnext9 (v8:(List aS)×(List Int)×Int×Int)=>br (decide (v8.2.2.2<(List.length p0:Int))) (jn (λ(v14:Int)=>gd ((0:Int)<=v8.2.2.2/\v8.2.2.2<=(List.length p0:Int)) (al.bind (strings_HasPrefix (dI p0 v8.2.2.2) ([92,40]:ByS)) λy19=>br y19 (gd (dY (v8.2.2.2+1)) (gd ((0:Int)<=(v8.2.2.2+1)/\(v8.2.2.2+1)<=(List.length p0:Int)) (al.bind (rh n (dI p0 (v8.2.2.2+1))) λy24=>br (!y24.2) (.ok ([],(dz.mk 8 v8.2.2.2))) (al.bind (lh v8.2.1 v8.1 v14) λy30=>gd (dY (v8.2.2.2+2)) (gd (lz 32 (List.length y30.2.1) (List.length [(aS.mk y24.1 true (v8.2.2.2+2))])) (gd (dY ((List.length y24.1:Int)+3)) (gd (dY (v8.2.2.2+((List.length y24.1:Int)+3))) (next9 (y30.2.1++[(aS.mk y24.1 true (v8.2.2.2+2))],y30.1,y30.2.2,v8.2.2.2+((List.length y24.1:Int)+3)))))))))) (el p0 v8.2.2.2 λb37=>br ((b37.toNat:Int)==92) (gd ((0:Int)<=v8.2.2.2/\v8.2.2.2<=(List.length p0:Int)) (al.bind (oz n (dI p0 v8.2.2.2)) λy44=>br (y44.2==0) (.ok ([],(dz.mk 8 v8.2.2.2))) (gd (lz 1 (List.length v8.2.1) (List.length [y44.1])) (gd (dY (v8.2.2.2+y44.2)) (next9 (v8.1,v8.2.1++[y44.1],v14,v8.2.2.2+y44.2)))))) (jn (λ(v52:Bool)=>br v52 (.ok ([],(dz.mk 8 v8.2.2.2))) (el p0 v8.2.2.2 λb58=>gd (lz 1 (List.length v8.2.1) (List.length [(b58.toNat:Int)])) (gd (dY (v8.2.2.2+1)) (next9 (v8.1,v8.2.1++[(b58.toNat:Int)],v14,v8.2.2.2+1))))) λj53=>el p0 v8.2.2.2 λb64=>br (decide ((b64.toNat:Int)<32)) (j53 (true)) (el p0 v8.2.2.2 λb69=>br (decide ((b69.toNat:Int)>126)) (j53 (true)) (el p0 v8.2.2.2 λb74=>j53 (((b74.toNat:Int)==34)))))))) λj15=>br ((List.length v8.2.1:Int)==0) (j15 (v8.2.2.2)) (j15 (v8.2.2.1))) (al.bind (lh v8.2.1 v8.1 v8.2.2.1) λy81=>.ok (y81.2.1,(dz.mk 0 0)))) n ([],[],0,0)
theorem sP (n:Nat) (p0:ByS):CT Tryz.prog 144 [F p0] [] (mz n p0) (λx=>.gU [.pv (.sl (List.length x.1) (aS.Cs x.1)),.agg [I x.2.Errno,I x.2.At]]) (λ_=>[]):=by
 refine zC Tryz.func144 O λr hp h hr E hE=>D λ_ hK1=>A (za O (aJ 103 (hE _ O) O4 O ?_));refine zQ hK1 (D λ_ hK2=>A (aJ 104 (hE _ O) O4 O ?_));refine zQ hK2 (D λ_ hK3=>A (aJ 105 (hE _ O) O4 O ?_));refine zQ hK3 (D λ_ hK4=>A (aJ 106 (hE _ O) O4 O ?_));refine zs O (zQ hK4 (D λ_ hK5=>A (J (qm O O) O ?_)));refine za O (zQ hK5 (D λ_ hK6=>D λ_ hK7=>A (za O (zQ hK7 (aE (ca (qV (j:=104) (off:=0) 26656 (sz:=3) (el:=189) (hE _ O) O O O3 O) ?_))))));refine ca (qV (j:=105) (off:=0) 26720 (sz:=1) (el:=5) (hE _ O) O O O3 O) ?_;refine zL hr h (λ(v8:(List aS)×(List Int)×Int×Int)=>[(0,F p0),(3,.ptr 103 0),(4,.ptr 104 0),(5,.ptr 105 0),(6,.ptr 106 0),(7,.fn 194 [] [.ptr 105 0,.ptr 104 0,.ptr 106 0]),(8,I v8.2.2.2)]) (λ(v8:(List aS)×(List Int)×Int×Int)=>[(103,.box [I 0,I 0]),(104,.box [.arr 26656 (List.length v8.1)]),(105,.box [.arr 26720 (List.length v8.2.1)]),(106,.box [I v8.2.2.1]),(26656,.app 189 3 (aS.Cs v8.1)),(26720,.app 5 1 (uc v8.2.1))]) O λ_ v8 _ hK10 h=>D λ_ hK11=>D λ_ hK12=>A (zm O (zm O (J (dC O) O (zc O (zQ hK12 (zB O h (λ_ h=>?_) λ_ h=>?_))))))
 ·refine V (hK11 _ _ (aE (zM h (λ(v14:Int)=>[(0,F p0),(3,.ptr 103 0),(4,.ptr 104 0),(5,.ptr 105 0),(6,.ptr 106 0),(7,.fn 194 [] [.ptr 105 0,.ptr 104 0,.ptr 106 0]),(8,I v8.2.2.2)]) (λ(v14:Int)=>[(103,.box [I 0,I 0]),(104,.box [.arr 26656 (List.length v8.1)]),(105,.box [.arr 26720 (List.length v8.2.1)]),(106,.box [I v14]),(26656,.app 189 3 (aS.Cs v8.1)),(26720,.app 5 1 (uc v8.2.1))]) (λv14 h=>?_) λ_ _ hK16 h=>?_)))
  ·refine aE (D λ_ hK17=>A (zm O (zm O (zd hr h λhg18 h=>J (iX O O hg18.1 hg18.2) O (zk hp hr h [] Tryz.call95 (jM (dI p0 v8.2.2.2) ([92,40]:ByS)) O (λ_=>rfl) λy19 h=>za O (zQ hK17 (zB O h (λ_ h=>?_) λ_ h=>?_)))))))
   ·refine D λ_ hK21=>A (zm O (zm O (zd hr h λhg22 h=>zo hg22 O (zd hr h λhg23 h=>J (iX O O hg23.1 hg23.2) O (zk hp hr h [] Tryz.call195 (z7 n (dI p0 (v8.2.2.2+1))) O (λ_=>rfl) λy24 h=>zm O (zx O (zx O (za O (za O (zQ hK21 (D λ_ hK25=>D λ_ hK26=>A (zm O (J (fu O) O (zQ hK26 (zB O h (λ_ h=>?_) λ_ h=>?_)))))))))))))))
    ·refine D λ_ hK28=>A (zm O (J (bQ O O O) O ?_));refine za O (zs O (zQ hK28 (ca (AY (d:=2) O O) ?_)));exact H (zX (.cons (bp O) (.cons (aY O O O) .nil)) h O)
    refine V (hK25 _ _ (D λ_ hK29=>A (zm O (jU hr h [105,104,106,26720,26656] Tryz.call194 (qv v8.2.1 v8.1 v14) ⟨O,O,O,O,O,O,⟨hE _ O,⟨hE _ O,trivial⟩⟩⟩ O (λ_=>O3) (λ_=>O2) hp (λy30 h=>?_)))));refine zQ hK29 (D λ_ hK31=>A (zl O (zm O (zm O (zd hr h λhg32 h=>zo hg32 O (J (bQ O O O) O ?_))))));refine cf [(aS.mk y24.1 true (v8.2.2.2+2))] aS.y O2 O ?_;refine zd hr h λhg33 h=>mT 155 ⟨kH.h,fg.h,aS.y,aS.bW,aS.ju,hE _ O,O,O,(.inl O),O3,hg33⟩ O ?_;refine zs O (aX (la 155 26656 [(0,F p0),(3,.ptr 103 0),(4,.ptr 104 0),(5,.ptr 105 0),(6,.ptr 106 0),(7,.fn 194 [] [.ptr 105 0,.ptr 104 0,.ptr 106 0]),(8,I v8.2.2.2),(9,F y24.1)] [(103,.box [I 0,I 0]),(104,.box [.arr 26656 (List.length (y30.2.1++[(aS.mk y24.1 true (v8.2.2.2+2))]))]),(26720,.app 5 1 (uc y30.1)),(105,.box [.arr 26720 (List.length y30.1)]),(106,.box [I y30.2.2])] (hE _ O) O O O2 ⟨⟨_,O,O,O⟩,⟨_,O,O,O⟩,⟨_,O,O,O⟩,⟨_,O,O,O⟩,⟨_,O,O,O⟩,⟨_,O,O,O⟩,⟨_,O,O,O⟩,⟨_,O,O,O⟩,trivial⟩ ⟨⟨_,O,O,O,O,O⟩,⟨_,O,O,O,O,O⟩,⟨_,O,O,O,O,O⟩,⟨_,O,O,O,O,O⟩,⟨_,O,O,O,O,O⟩,trivial⟩) ?_);exact zQ hK31 (A (zm O (zm O (J (dC O) O (zd hr h λhg34 h=>zo hg34 O (zd hr h λhg35 h=>zo hg35 O (za O (N (hK10 _ _ _ h O)))))))))
   refine D λ_ hK36=>A (zm O (zm O (ze hr h λb37 h38 h39 h40 h=>J (eK O O h38 h40) O (zc O (za O (zQ hK36 (zB O h (λ_ h=>?_) λ_ h=>?_)))))))
   ·refine D λ_ hK42=>A (zm O (zm O (zd hr h λhg43 h=>J (iX O O hg43.1 hg43.2) O (zk hp hr h [] Tryz.call196 (xk n (dI p0 v8.2.2.2)) O (λ_=>rfl) λy44 h=>zm O (zx O (zx O (za O (za O (zQ hK42 (D λ_ hK45=>D λ_ hK46=>A (zm O (zc O (zQ hK46 (zB O h (λ_ h=>?_) λ_ h=>?_))))))))))))))
    ·refine D λ_ hK48=>A (zm O (J (bQ O O O) O ?_));refine za O (zs O (zQ hK48 (ca (AY (d:=2) O O) ?_)));exact H (zX (.cons (bp O) (.cons (aY O O O) .nil)) h O)
    refine V (hK45 _ _ (D λ_ hK49=>A (zl O (zm O (cf [y44.1] lp O2 O ?_)))));refine zd hr h λhg50 h=>mT 180 ⟨kH.h,fg.h,lp,ot,wA,hE _ O,O,O,(.inl O),O3,hg50⟩ O ?_;refine zs O (aX (la 180 26720 [(0,F p0),(3,.ptr 103 0),(4,.ptr 104 0),(5,.ptr 105 0),(6,.ptr 106 0),(7,.fn 194 [] [.ptr 105 0,.ptr 104 0,.ptr 106 0]),(8,I v8.2.2.2),(12,I y44.2)] [(103,.box [I 0,I 0]),(26656,.app 189 3 (aS.Cs v8.1)),(104,.box [.arr 26656 (List.length v8.1)]),(105,.box [.arr 26720 (List.length (v8.2.1++[y44.1]))]),(106,.box [I v14])] (hE _ O) O O O2 ⟨⟨_,O,O,O⟩,⟨_,O,O,O⟩,⟨_,O,O,O⟩,⟨_,O,O,O⟩,⟨_,O,O,O⟩,⟨_,O,O,O⟩,⟨_,O,O,O⟩,⟨_,O,O,O⟩,trivial⟩ ⟨⟨_,O,O,O,O,O⟩,⟨_,O,O,O,O,O⟩,⟨_,O,O,O,O,O⟩,⟨_,O,O,O,O,O⟩,⟨_,O,O,O,O,O⟩,trivial⟩) ?_);exact zQ hK49 (A (zm O (zm O (zd hr h λhg51 h=>zo hg51 O (za O (N (hK10 _ _ _ h O)))))))
   refine zM h (λ(v52:Bool)=>[(0,F p0),(3,.ptr 103 0),(4,.ptr 104 0),(5,.ptr 105 0),(6,.ptr 106 0),(7,.fn 194 [] [.ptr 105 0,.ptr 104 0,.ptr 106 0]),(8,I v8.2.2.2),(84,Bo v52)]) (λ(v52:Bool)=>[(103,.box [I 0,I 0]),(104,.box [.arr 26656 (List.length v8.1)]),(105,.box [.arr 26720 (List.length v8.2.1)]),(106,.box [I v14]),(26656,.app 189 3 (aS.Cs v8.1)),(26720,.app 5 1 (uc v8.2.1))]) (λv52 h=>?_) λ_ _ hK54 h=>?_
   ·refine zB O h (λ_ h=>?_) λ_ h=>?_
    ·refine D λ_ hK56=>A (zm O (J (bQ O O O) O ?_));refine za O (zs O (zQ hK56 (ca (AY (d:=2) O O) ?_)));exact H (zX (.cons (bp O) (.cons (aY O O O) .nil)) h O)
    refine D λ_ hK57=>mL [] ?_;refine bG [0,1,2,3,4,5,6] O (by kernel_rfl) (zD O (bb O O O) O (zD O (W O) O (zD O (W O) O (ze hr h λb58 h59 h60 h61 h=>zD O (eK O O h59 h61) O (jb [(b58.toNat:Int)] lp O (bV O) O2 O2 ?_)))));refine zd hr h λhg62 h=>vl 127 O (bV O) ⟨kH.h,fg.h,lp,ot,wA,hE _ O,O,O,(.inl O),O3,hg62⟩ O O ⟨aK O,?_⟩;refine ck O O8 O (λe6 he=>⟨aK O,?_⟩);subst he;refine gV (la 127 26720 [(0,F p0),(3,.ptr 103 0),(4,.ptr 104 0),(5,.ptr 105 0),(6,.ptr 106 0),(7,.fn 194 [] [.ptr 105 0,.ptr 104 0,.ptr 106 0]),(8,I v8.2.2.2)] [(103,.box [I 0,I 0]),(26656,.app 189 3 (aS.Cs v8.1)),(104,.box [.arr 26656 (List.length v8.1)]),(105,.box [.arr 26720 (List.length (v8.2.1++[(b58.toNat:Int)]))]),(106,.box [I v14])] (hE _ O) O O O2 ⟨⟨_,O,O,O⟩,⟨_,O,O,O⟩,⟨_,O,O,O⟩,⟨_,O,O,O⟩,⟨_,O,O,O⟩,⟨_,O,O,O⟩,⟨_,O,O,O⟩,trivial⟩ ⟨⟨_,O,O,O,O,O⟩,⟨_,O,O,O,O,O⟩,⟨_,O,O,O,O,O⟩,⟨_,O,O,O,O,O⟩,⟨_,O,O,O,O,O⟩,trivial⟩) ?_;exact hK57 _ _ (A (zm O (zd hr h λhg63 h=>zo hg63 O (za O (N (hK10 _ _ _ h O))))))
   refine A (zm O (zm O (ze hr h λb64 h65 h66 h67 h=>J (eK O O h65 h67) O (zc O (zm O (zb (decide ((b64.toNat:Int)<32)) (λhb68=>?_) λhb68=>?_))))))
   ·exact z1 hb68 h λh=>zH 4 O hb68 (zy hb68 O (zm O (zH 4 O O (zt O (za O (N (hK54 _ _ _ h O)))))))
   refine z2 hb68 h λh=>zG hb68 O (W O) (zG hb68 O (W O) (ze hr h λb69 h70 h71 h72 h=>zG hb68 O (eK O O h70 h72) (zG hb68 O (bq O O O) (zw hb68 O (zm O (zb (decide ((b69.toNat:Int)>126)) (λhb73=>?_) λhb73=>?_))))))
   ·exact z1 hb73 h λh=>zH 4 O hb73 (zy hb73 O (za O (N (hK54 _ _ _ h O))))
   exact z2 hb73 h λh=>zG hb73 O (W O) (zG hb73 O (W O) (ze hr h λb74 h75 h76 h77 h=>zG hb73 O (eK O O h75 h77) (zG hb73 O (bq O O O) (zw hb73 O (za O (N (hK54 _ _ _ h O)))))))
  refine D λ_ hK78=>A (J (oI lp ot O O O O O) O ?_);refine J (cD O) O (zc O (zQ hK78 (zB O h (λ_ h=>?_) λ_ h=>?_)))
  ·exact A (zm O (zs O (N (hK16 _ _ _ h O))))
  exact V (hK16 _ _ _ h O)
 refine bw (hK6 _ _ (D λ_ hK80=>A (zm O (jU hr h [105,104,106,26720,26656] Tryz.call194 (qv v8.2.1 v8.1 v8.2.2.1) ⟨O,O,O,O,O,O,⟨hE _ O,⟨hE _ O,trivial⟩⟩⟩ O (λ_=>O3) (λ_=>O2) hp (λy81 h=>?_)))));refine zQ hK80 (D λ_ hK82=>A (J (oI aS.y aS.bW O O O O O) O ?_));refine J (bQ O O O) O ?_;exact za O (zs O (zQ hK82 (H (zX (.cons (bp O) (.cons (aY O O O) .nil)) h O))))
def kK (n:Nat) (p0:ByS):al (Int×Bool):=
 iter (λnext6 (v5:Bool×Int)=>br (decide (v5.2<(List.length p0:Int))) (jn (λ(v11:Bool×Int)=>gd (dY (v11.2+1)) (next6 (v11.1,v11.2+1))) λj12=>el p0 v5.2 λb16=>br ((b16.toNat:Int)==34) (gd (dY (v5.2+1)) (.ok (v5.2+1,v5.1))) (el p0 v5.2 λb24=>br ((b24.toNat:Int)==92) (br v5.1 (gd (dY (v5.2+1)) (j12 (true,v5.2+1))) (gd (dY (v5.2+1)) (br (decide ((v5.2+1)<(List.length p0:Int))) (gd (dY (v5.2+1)) (el p0 (v5.2+1) λb35=>gd (dY (v5.2+1)) (j12 (((b35.toNat:Int)==40),v5.2+1)))) (gd (dY (v5.2+1)) (j12 (false,v5.2+1)))))) (j12 (v5.1,v5.2)))) (.ok (0,false))) n (false,1)
theorem wc (n:Nat) (p0:ByS):CT Tryz.prog 143 [F p0] [] (kK n p0) (λx=>.gU [I x.1,Bo x.2]) (λ_=>[]):=by
 refine zC Tryz.func143 O λr hp h hr E hE=>D λ_ hK1=>A (za O (za O (zQ hK1 (D λ_ hK2=>A (za O (zQ hK2 (D λ_ hK3=>D λ_ hK4=>A (za O (zQ hK4 (aE (zL hr h (λ(v5:Bool×Int)=>[(0,F p0),(4,Bo v5.1),(5,I v5.2)]) (λ(v5:Bool×Int)=>[]) O λ_ v5 _ hK7 h=>D λ_ hK8=>D λ_ hK9=>A (zm O (zm O (J (dC O) O (zc O (zQ hK9 ?_))))))))))))))));refine zB O h (λ_ h=>?_) λ_ h=>?_
 ·refine V (hK8 _ _ (zM h (λ(v11:Bool×Int)=>[(0,F p0),(4,Bo v11.1),(5,I v11.2)]) (λ(v11:Bool×Int)=>[]) (λv11 h=>?_) λ_ _ hK13 h=>?_))
  ·exact A (zm O (zd hr h λhg14 h=>zo hg14 O (za O (N (hK7 _ _ _ h O)))))
  refine aE (aE (D λ_ hK15=>A (zm O (zm O (ze hr h λb16 h17 h18 h19 h=>J (eK O O h17 h19) O (zc O (za O (zQ hK15 (zB O h (λ_ h=>?_) λ_ h=>?_)))))))))
  ·exact D λ_ hK21=>A (zm O (zd hr h λhg22 h=>zo hg22 O (zm O (za O (za O (zQ hK21 (H (zX (.cons (bp O) (.cons (bp O) .nil)) h O))))))))
  refine D λ_ hK23=>A (zm O (zm O (ze hr h λb24 h25 h26 h27 h=>J (eK O O h25 h27) O (zc O (za O (zQ hK23 (zB O h (λ_ h=>?_) λ_ h=>?_)))))))
  ·refine D λ_ hK29=>A (zm O (zm O (zb v5.1 (λhb30=>?_) λhb30=>?_)))
   ·exact z1 hb30 h λh=>zH 6 O hb30 (zu O (zu O (zu O (zu O (zu O (zg hb30 O (zy hb30 O (za O (zQ hK29 (A (zm O (zd hr h λhg31 h=>zo hg31 O (za O (N (hK13 _ _ _ h O)))))))))))))))
   refine z2 hb30 h λh=>zG hb30 O (W O) (zd hr h λhg32 h=>zG hb30 O (mg O O hg32) (zG hb30 O (W O) (zG hb30 O (dC O) (zG hb30 O (bq O O O) (zG hb30 O (W O) (zb (decide ((v5.2+1)<(List.length p0:Int))) (λhb33=>?_) λhb33=>?_))))))
   ·exact z1 hb33 h λh=>zG hb33 O (W O) (zG hb33 O (W O) (zd hr h λhg34 h=>zG hb33 O (mg O O hg34) (ze hr h λb35 h36 h37 h38 h=>zG hb33 O (eK O O h36 h38) (zG hb33 O (bq O O O) (zG hb30 O (dU hb33 O O) (zw hb30 O (za O (zQ hK29 (A (zm O (zd hr h λhg39 h=>zo hg39 O (za O (N (hK13 _ _ _ h O))))))))))))))
   exact z2 hb33 h λh=>zH 5 O hb33 (zG hb30 O (dJ hb33 O O) (zw hb30 O (za O (zQ hK29 (A (zm O (zd hr h λhg40 h=>zo hg40 O (za O (N (hK13 _ _ _ h O))))))))))
  exact V (hK13 _ _ _ h O)
 exact bw (hK3 _ _ (D λ_ hK41=>A (za O (za O (zQ hK41 (H (zX (.cons (bp O) (.cons (bp O) .nil)) h O)))))))
def dm (n:Nat) (p0:P):al (Bool×P):=
 gd ((0:Int)<=p0.at_/\p0.at_<=(List.length p0.text:Int)) (al.bind (kK n (dI p0.text p0.at_)) λy4=>br (y4.1==0) (.ok (false,p0)) (gd (dY (p0.at_+y4.1)) (gd ((0:Int)<=p0.at_/\(p0.at_:Int)<=(p0.at_+y4.1)/\(p0.at_+y4.1)<=(List.length p0.text:Int)) (br y4.2 (gd (dY (y4.1 - 1)) (gd ((0:Int)<=1/\(1:Int)<=(y4.1 - 1)/\(y4.1 - 1)<=(List.length (sub p0.text p0.at_ (p0.at_+y4.1)):Int)) (al.bind (mz n (sub (sub p0.text p0.at_ (p0.at_+y4.1)) 1 (y4.1 - 1))) λy19=>br (y19.2.Errno !=0) (.ok (false,p0)) (gd (dY (y4.1 - 1)) (gd ((0:Int)<=1/\(1:Int)<=(y4.1 - 1)/\(y4.1 - 1)<=(List.length (sub p0.text p0.at_ (p0.at_+y4.1)):Int)) (al.bind (aZ 4 (sub (sub p0.text p0.at_ (p0.at_+y4.1)) 1 (y4.1 - 1)) y4.1 p0) λy26=>.ok (true,y26))))))) (al.bind (lG n (sub p0.text p0.at_ (p0.at_+y4.1))) λy29=>br (y29.2.Errno !=0) (.ok (false,p0)) (al.bind (aZ 3 y29.1 y4.1 p0) λy35=>.ok (true,y35)))))))
theorem tC (n:Nat) (p0:P):CT Tryz.prog 101 [.ptr 0 0] [.box [F p0.text,I p0.at_,.arr 1 (List.length p0.out),Bo p0.line],.app 49 4 (aB.Cs p0.out)] (dm n p0) (λx=>Bo x.1) (λx=>[.box [F x.2.text,I x.2.at_,.arr 1 (List.length x.2.out),Bo x.2.line],.app 49 4 (aB.Cs x.2.out)]):=by
 refine zC Tryz.func101 O λr hp h hr E hE=>D λ_ hK1=>A (za O (zQ hK1 (D λ_ hK2=>bG [0,1,2,3,4,5,6,7,8,9,10,11,12,13,14] O (by kernel_rfl) (zD O (W O) O (zD O (dy O) O (zD O (o O) O (zD O (bb O O O) O (zD O (W O) O (zD O (dy O) O (zD O (o O) O (zD O (bb O O O) O (zd hr h λhg3 h=>zD O (iX O O hg3.1 hg3.2) O (ej O (bV O) hr h [] Tryz.call143 (wc n (dI p0.text p0.at_)) ⟨O,O,O,O,O,O,trivial⟩ O O (λ_=>O3) (λ_=>O2) hp (λy4 h=>⟨aK O,?_⟩))))))))))))));refine zD O (W O) O (zD O (qe O O) O (zD O (qe O O) O (gE O O O (aK O) O (gE O O O (aK O) O (cY (hK2 _ _ (D λ_ hK5=>D λ_ hK6=>A (zm O (zc O (zQ hK6 (zB O h (λ_ h=>?_) λ_ h=>?_)))))))))))
 ·exact D λ_ hK8=>A (za O (zQ hK8 (H (z O h O))))
 refine V (hK5 _ _ (D λ_ hK9=>bG [0,1,2,3,4,5,6,7,8,9,10,11,12,13,14,15] O (by kernel_rfl) (zD O (W O) O (zD O (dy O) O (zD O (o O) O (zD O (bb O O O) O (zD O (W O) O (zD O (dy O) O (zD O (o O) O (zD O (bb O O O) O (zD O (W O) O (zD O (dy O) O (zD O (o O) O (zD O (bb O O O) O (zD O (W O) O (zd hr h λhg10 h=>zD O (mg O O hg10) O (zd hr h λhg11 h=>zD O (wV O O O hg11.1 hg11.2.1 hg11.2.2) O (gE O O O (aK O) O (cY (hK9 _ _ (D λ_ hK12=>?_)))))))))))))))))))));refine D λ_ hK13=>A (zm O (zQ hK13 (zB O h (λ_ h=>?_) λ_ h=>?_)))
 ·refine D λ_ hK15=>D λ_ hK16=>A (zm O (zm O (zd hr h λhg17 h=>J (rM O O hg17) O (zd hr h λhg18 h=>J (wV O O O hg18.1 hg18.2.1 hg18.2.2) O (zk hp hr h [] Tryz.call144 (sP n (sub (sub p0.text p0.at_ (p0.at_+y4.1)) 1 (y4.1 - 1))) O (λ_=>rfl) λy19 h=>zm O (zx O (zx O (aJ 107 (hE _ O) O4 O ?_))))))));refine za O (zs O (zQ hK16 (D λ_ hK20=>A (zf O (zl O (zc O (zQ hK20 (zB O h (λ_ h=>?_) λ_ h=>?_))))))))
  ·exact D λ_ hK22=>A (za O (zQ hK22 (H (z O h O))))
  refine V (hK15 _ _ (D λ_ hK23=>A (zm O (zm O (zm O (zd hr h λhg24 h=>J (rM O O hg24) O (zd hr h λhg25 h=>J (wV O O O hg25.1 hg25.2.1 hg25.2.2) O (zm O (jU hr h [0,1] Tryz.call53 (fM 4 (sub (sub p0.text p0.at_ (p0.at_+y4.1)) 1 (y4.1 - 1)) y4.1 p0) ⟨O,O,O,O,O,O,⟨hE _ O,trivial⟩⟩ O (λ_=>O3) (λ_=>O2) hp (λy26 h=>?_))))))))));exact zQ hK23 (D λ_ hK27=>A (za O (zQ hK27 (H (z O h O)))))
 refine V (hK12 _ _ (D λ_ hK28=>A (zm O (zk hp hr h [] Tryz.call145 (rQ n (sub p0.text p0.at_ (p0.at_+y4.1))) O (λ_=>rfl) λy29 h=>zm O (zx O (zx O (aJ 109 (hE _ O) O4 O ?_)))))));refine za O (zs O (zQ hK28 (D λ_ hK30=>D λ_ hK31=>A (zf O (zl O (zc O (zQ hK31 (zB O h (λ_ h=>?_) λ_ h=>?_))))))))
 ·exact D λ_ hK33=>A (za O (zQ hK33 (H (z O h O))))
 refine V (hK30 _ _ (D λ_ hK34=>A (zm O (zm O (zm O (jU hr h [0,1] Tryz.call53 (fM 3 y29.1 y4.1 p0) ⟨O,O,O,O,O,O,⟨hE _ O,trivial⟩⟩ O (λ_=>O3) (λ_=>O2) hp (λy35 h=>?_)))))));exact zQ hK34 (D λ_ hK36=>A (za O (zQ hK36 (H (z O h O)))))
def ku (p0:Int):al (Bool):=
 br (decide (p0>=97)) (br (decide (p0<=122)) (.ok (true)) (br (decide (p0>=65)) (br (decide (p0<=90)) (.ok (true)) (.ok ((p0==95)))) (.ok ((p0==95))))) (br (decide (p0>=65)) (br (decide (p0<=90)) (.ok (true)) (.ok ((p0==95)))) (.ok ((p0==95))))
theorem sQ (p0:Int):CT Tryz.prog 139 [Sc (.int .u8 p0)] [] (ku p0) (λx=>Bo x) (λ_=>[]):=by
 refine zC Tryz.func139 O λr hp h hr E hE=>D λ_ hK1=>A (za O (zQ hK1 (D λ_ hK2=>A (zm O (zc O (zm O (zb (decide (p0>=97)) (λhb3=>?_) λhb3=>?_)))))))
 ·refine z1 hb3 h λh=>zG hb3 O (W O) (zG hb3 O (bq O O O) (zy hb3 O (zm O (zb (decide (p0<=122)) (λhb4=>?_) λhb4=>?_))))
  ·exact z1 hb4 h λh=>zH 3 O hb4 (zu O (zu O (zg hb4 O (zy hb4 O (zm O (zH 2 O O (zt O (za O (zQ hK2 (H (z O h O)))))))))))
  refine z2 hb4 h λh=>zG hb4 O (W O) (zG hb4 O (bq O O O) (zG hb4 O (W O) (zb (decide (p0>=65)) (λhb5=>?_) λhb5=>?_)))
  ·refine z1 hb5 h λh=>zG hb5 O (W O) (zG hb5 O (bq O O O) (zG hb4 O (dU hb5 O O) (zw hb4 O (zm O (zb (decide (p0<=90)) (λhb6=>?_) λhb6=>?_)))))
   ·exact z1 hb6 h λh=>zH 2 O hb6 (zy hb6 O (za O (zQ hK2 (H (z O h O)))))
   exact z2 hb6 h λh=>zG hb6 O (W O) (zG hb6 O (bq O O O) (zw hb6 O (za O (zQ hK2 (H (z O h O))))))
  exact z2 hb5 h λh=>zH 2 O hb5 (zG hb4 O (dJ hb5 O O) (zw hb4 O (zm O (zG O O (W O) (zG O O (bq O O O) (J (eX O O) O (za O (zQ hK2 (H (z O h O))))))))))
 refine z2 hb3 h λh=>zH 2 O hb3 (zw hb3 O (zm O (zG O O (W O) (zG O O (bq O O O) (zG O O (W O) (zb (decide (p0>=65)) (λhb7=>?_) λhb7=>?_))))))
 ·refine z1 hb7 h λh=>zG hb7 O (W O) (zG hb7 O (bq O O O) (zG O O (dU hb7 O O) (J (eX O O) O (zm O (zb (decide (p0<=90)) (λhb8=>?_) λhb8=>?_)))))
  ·exact z1 hb8 h λh=>zH 2 O hb8 (zy hb8 O (za O (zQ hK2 (H (z O h O)))))
  exact z2 hb8 h λh=>zG hb8 O (W O) (zG hb8 O (bq O O O) (zw hb8 O (za O (zQ hK2 (H (z O h O))))))
 exact z2 hb7 h λh=>zH 2 O hb7 (zG O O (dJ hb7 O O) (J (eX O O) O (zm O (zG O O (W O) (zG O O (bq O O O) (J (eX O O) O (za O (zQ hK2 (H (z O h O))))))))))
def mV (n:Nat) (p0:ByS):al (Int):=
 jn (λ(v3:Int)=>br (v3==1) (el p0 0 λb9=>al.bind (ku (b9.toNat:Int)) λy13=>br (!y13) (.ok (0)) (el p0 0 λb16=>br ((b16.toNat:Int)==95) (.ok (0)) (.ok (v3)))) (.ok (v3))) λj4=>iter (λnext25 (v24:Int)=>jn (λ(_:Unit)=>gd (dY (v24+1)) (next25 (v24+1))) λj28=>br (decide (v24<(List.length p0:Int))) (el p0 v24 λb33=>al.bind (ku (b33.toNat:Int)) λy37=>br y37 (j28 ()) (br (decide (v24>0)) (el p0 v24 λb40=>al.bind (iG (b40.toNat:Int)) λy44=>br y44 (j28 ()) (br (v24==0) (el p0 v24 λb47=>br ((b47.toNat:Int)==35) (j28 ()) (j4 (v24))) (j4 (v24)))) (br (v24==0) (el p0 v24 λb53=>br ((b53.toNat:Int)==35) (j28 ()) (j4 (v24))) (j4 (v24))))) (j4 (v24))) n (0)
theorem z8 (n:Nat) (p0:ByS):CT Tryz.prog 97 [F p0] [] (mV n p0) (λx=>I x) (λ_=>[]):=by
 refine zC Tryz.func97 O λr hp h hr E hE=>D λ_ hK1=>A (za O (zQ hK1 (D λ_ hK2=>A (za O (zQ hK2 (zM h (λ(v3:Int)=>[(0,F p0),(3,I v3)]) (λ(v3:Int)=>[]) (λv3 h=>?_) λ_ _ hK5 h=>?_))))))
 ·refine D λ_ hK6=>D λ_ hK7=>A (zm O (zc O (zm O (zb (v3==1) (λhb8=>?_) λhb8=>?_))))
  ·refine z1 hb8 h λh=>zG hb8 O (W O) (ze hr h λb9 h10 h11 h12 h=>zG hb8 O (eK O O h10 h12) (zK hb8 O hp hr h [] Tryz.call139 (sQ (b9.toNat:Int)) O (λ_=>rfl) λy13 h=>zG hb8 O (fu O) (zy hb8 O (zm O (zb (!y13) (λhb14=>?_) λhb14=>?_)))))
   ·refine z1 hb14 h λh=>zH 3 O hb14 (zu O (zu O (zu O (zg hb14 O (zy hb14 O (zQ hK7 (df O (λhc=>?_) (λhc=>?_))))))))
    ·exact D λ_ hK15=>A (za O (zQ hK15 (H (z O h O))))
    exact absurd (hc) (by simp)
   refine z2 hb14 h λh=>zG hb14 O (W O) (zG hb14 O (bq O O O) (zG hb14 O (W O) (zG hb8 O (W O) (ze hr h λb16 h17 h18 h19 h=>zG hb8 O (eK O O h17 h19) (zG hb8 O (bq O O O) (zG hb14 O (dU hb8 O O) (zw hb14 O (zQ hK7 (zB O h (λ_ h=>?_) λ_ h=>?_)))))))))
   ·exact D λ_ hK21=>A (za O (zQ hK21 (H (z O h O))))
   exact V (hK6 _ _ (D λ_ hK22=>A (zm O (za O (zQ hK22 (H (z O h O)))))))
  refine z2 hb8 h λh=>zH 4 O hb8 (zw hb8 O (zm O (zG O O (W O) (zG O O (bq O O O) (zG O O (W O) (zH 3 O hb8 (zG O O (dJ hb8 O O) (J (eX O O) O (zQ hK7 (df O (λhc=>?_) (λhc=>?_)))))))))))
  ·exact absurd (hc) (by simp)
  exact V (hK6 _ _ (D λ_ hK23=>A (zm O (za O (zQ hK23 (H (z O h O)))))))
 refine aE (zL hr h (λ(v24:Int)=>[(0,F p0),(3,I v24)]) (λ(v24:Int)=>[]) O λ_ v24 _ hK26 h=>zM h (λ(v27:Unit)=>[(0,F p0),(3,I v24)]) (λ(v27:Unit)=>[]) (λv27 h=>?_) λ_ _ hK29 h=>?_)
 ·exact aE (A (zm O (zd hr h λhg30 h=>zo hg30 O (za O (N (hK26 _ _ _ h O))))))
 refine D λ_ hK31=>A (zm O (zm O (J (dC O) O (zc O (zm O (zb (decide (v24<(List.length p0:Int))) (λhb32=>?_) λhb32=>?_))))))
 ·refine z1 hb32 h λh=>zG hb32 O (W O) (zG hb32 O (W O) (ze hr h λb33 h34 h35 h36 h=>zG hb32 O (eK O O h34 h36) (zK hb32 O hp hr h [] Tryz.call139 (sQ (b33.toNat:Int)) O (λ_=>rfl) λy37 h=>zG hb32 O (W O) (zb y37 (λhb38=>?_) λhb38=>?_))))
  ·refine z1 hb38 h λh=>zH 3 O hb38 (zu O (zu O (zu O (zu O (zg hb38 O (zG hb32 O (dU hb38 O O) (zG hb32 O (W O) (zH 3 O O (zu O (zu O (zu O (zu O (zg O O (zG hb32 O (wm O O) (zy hb32 O (zQ hK31 (df O (λhc=>?_) (λhc=>?_))))))))))))))))))
   ·exact V (hK29 _ _ _ h O)
   exact absurd (hc) (by simp)
  refine z2 hb38 h λh=>zG hb38 O (W O) (zG hb38 O (bq O O O) (zG hb38 O (W O) (zb (decide (v24>0)) (λhb39=>?_) λhb39=>?_)))
  ·refine z1 hb39 h λh=>zG hb39 O (W O) (zG hb39 O (W O) (ze hr h λb40 h41 h42 h43 h=>zG hb39 O (eK O O h41 h43) (zK hb39 O hp hr h [] Tryz.call98 (lF (b40.toNat:Int)) O (λ_=>rfl) λy44 h=>zG hb38 O (dU hb39 O O) (zG hb32 O (dJ hb38 O O) (zG hb32 O (W O) (zb y44 (λhb45=>?_) λhb45=>?_))))))
   ·refine z1 hb45 h λh=>zH 3 O hb45 (zu O (zu O (zu O (zu O (zg hb45 O (zG hb32 O (dU hb45 O O) (zy hb32 O (zQ hK31 (df O (λhc=>?_) (λhc=>?_))))))))))
    ·exact V (hK29 _ _ _ h O)
    exact absurd (hc) (by simp)
   refine z2 hb45 h λh=>zG hb45 O (W O) (zG hb45 O (bq O O O) (zG hb45 O (W O) (zb (v24==0) (λhb46=>?_) λhb46=>?_)))
   ·refine z1 hb46 h λh=>zG hb46 O (W O) (zG hb46 O (W O) (ze hr h λb47 h48 h49 h50 h=>zG hb46 O (eK O O h48 h50) (zG hb46 O (bq O O O) (zG hb45 O (dU hb46 O O) (zG hb32 O (dJ hb45 O O) (zy hb32 O (zQ hK31 (zB O h (λ_ h=>?_) λ_ h=>?_))))))))
    ·exact V (hK29 _ _ _ h O)
    exact bw (hK5 _ _ _ h O)
   refine z2 hb46 h λh=>zH 4 O hb46 (zG hb45 O (dJ hb46 O O) (zG hb32 O (dJ hb45 O O) (zy hb32 O (zQ hK31 (df O (λhc=>?_) (λhc=>?_))))))
   ·exact absurd (hc) (by simp)
   exact bw (hK5 _ _ _ h O)
  refine z2 hb39 h λh=>zH 4 O hb39 (zG hb38 O (dJ hb39 O O) (zG hb32 O (dJ hb38 O O) (zG hb32 O (W O) (zG O O (W O) (zG O O (bq O O O) (zG O O (W O) (zb (v24==0) (λhb52=>?_) λhb52=>?_)))))))
  ·refine z1 hb52 h λh=>zG hb52 O (W O) (zG hb52 O (W O) (ze hr h λb53 h54 h55 h56 h=>zG hb52 O (eK O O h54 h56) (zG hb52 O (bq O O O) (zG O O (dU hb52 O O) (zG hb32 O (eX O O) (zy hb32 O (zQ hK31 (zB O h (λ_ h=>?_) λ_ h=>?_))))))))
   ·exact V (hK29 _ _ _ h O)
   exact bw (hK5 _ _ _ h O)
  refine z2 hb52 h λh=>zH 4 O hb52 (zG O O (dJ hb52 O O) (zG hb32 O (eX O O) (zy hb32 O (zQ hK31 (df O (λhc=>?_) (λhc=>?_))))))
  ·exact absurd (hc) (by simp)
  exact bw (hK5 _ _ _ h O)
 refine z2 hb32 h λh=>zH 5 O hb32 (zu O (zu O (zu O (zu O (zu O (zu O (zu O (zu O (zH 2 O hb32 (zu O (zu O (zu O (zu O (zu O (zu O (zu O (zu O (zg hb32 O ?_))))))))))))))))));refine zw hb32 O (zQ hK31 (df O (λhc=>?_) (λhc=>?_)))
 ·exact absurd (hc) (by simp)
 exact bw (hK5 _ _ _ h O)
def cy (n:Nat) (p0:P):al (Bool×P):=
 gd ((0:Int)<=p0.at_/\p0.at_<=(List.length p0.text:Int)) (al.bind (strings_HasPrefix (dI p0.text p0.at_) ([47,47]:ByS)) λy6=>br y6 (al.bind (strings_Cut (dI p0.text p0.at_) ([10]:ByS)) λy9=>gd ((0:Int)<=2/\2<=(List.length y9.1:Int)) (al.bind (aZ 6 (dI y9.1 2) (List.length y9.1:Int) p0) λy12=>.ok (true,y12))) (al.bind (mV n (dI p0.text p0.at_)) λy16=>br (decide (y16>0)) (gd ((0:Int)<=y16/\y16<=(List.length (dI p0.text p0.at_):Int)) (al.bind (aZ 1 (kB (dI p0.text p0.at_) y16) y16 p0) λy21=>.ok (true,y21))) (el (dI p0.text p0.at_) 0 λb25=>al.bind (iG (b25.toNat:Int)) λy30=>br y30 (al.bind (lu n (dI p0.text p0.at_)) λy33=>gd ((0:Int)<=y33/\y33<=(List.length (dI p0.text p0.at_):Int)) (al.bind (ny n (kB (dI p0.text p0.at_) y33)) λy37=>br (y37.2 !=0) (.ok (false,p0)) (gd ((0:Int)<=y33/\y33<=(List.length (dI p0.text p0.at_):Int)) (al.bind (aZ 2 (kB (dI p0.text p0.at_) y33) y33 p0) λy42=>.ok (true,y42))))) (br ((b25.toNat:Int)==34) (al.bind (dm n p0) λy47=>.ok (y47.1,y47.2)) (al.bind (jX n (dI p0.text p0.at_)) λy49=>br (y49==([]:ByS)) (.ok (false,p0)) (al.bind (aZ 5 y49 (List.length y49:Int) p0) λy54=>.ok (true,y54)))))))
theorem sR (n:Nat) (p0:P):CT Tryz.prog 54 [.ptr 0 0] [.box [F p0.text,I p0.at_,.arr 1 (List.length p0.out),Bo p0.line],.app 49 4 (aB.Cs p0.out)] (cy n p0) (λx=>Bo x.1) (λx=>[.box [F x.2.text,I x.2.at_,.arr 1 (List.length x.2.out),Bo x.2.line],.app 49 4 (aB.Cs x.2.out)]):=by
 refine zC Tryz.func54 O λr hp h hr E hE=>D λ_ hK1=>A (za O (zQ hK1 (D λ_ hK2=>bG [0,1,2,3,4,5,6,7,8,9] O (by kernel_rfl) (zD O (W O) O (zD O (dy O) O (zD O (o O) O (zD O (bb O O O) O (zD O (W O) O (zD O (dy O) O (zD O (o O) O (zD O (bb O O O) O (zd hr h λhg3 h=>zD O (iX O O hg3.1 hg3.2) O (gE O O O (aK O) O (cY (hK2 _ _ (D λ_ hK4=>D λ_ hK5=>A (zm O (zk hp hr h [] Tryz.call95 (jM (dI p0.text p0.at_) ([47,47]:ByS)) O (λ_=>rfl) λy6 h=>?_))))))))))))))))));refine zQ hK5 (zB O h (λ_ h=>?_) λ_ h=>?_)
 ·refine D λ_ hK8=>A (zm O (zk hp hr h [] Tryz.call96 (xW (dI p0.text p0.at_) ([10]:ByS)) O (λ_=>rfl) λy9 h=>zm O (zx O (zx O (zx O (za O (za O (za O (zQ hK8 (D λ_ hK10=>A (zm O (zm O (zd hr h λhg11 h=>J (iX O O hg11.1 hg11.2) O (zm O (J (dC O) O (jU hr h [0,1] Tryz.call53 (fM 6 (dI y9.1 2) (List.length y9.1:Int) p0) ⟨O,O,O,O,O,O,⟨hE _ O,trivial⟩⟩ O (λ_=>O3) (λ_=>O2) hp (λy12 h=>?_)))))))))))))))));exact zQ hK10 (D λ_ hK13=>A (za O (zQ hK13 (H (z O h O)))))
 refine V (hK4 _ _ (D λ_ hK14=>D λ_ hK15=>A (zm O (zk hp hr h [] Tryz.call97 (z8 n (dI p0.text p0.at_)) O (λ_=>rfl) λy16 h=>za O (zQ hK15 (D λ_ hK17=>A (zm O (zc O (zQ hK17 (zB O h (λ_ h=>?_) λ_ h=>?_))))))))))
 ·refine D λ_ hK19=>A (zm O (zm O (zm O (zd hr h λhg20 h=>J (qS O O hg20.1 hg20.2) O (zm O (jU hr h [0,1] Tryz.call53 (fM 1 (kB (dI p0.text p0.at_) y16) y16 p0) ⟨O,O,O,O,O,O,⟨hE _ O,trivial⟩⟩ O (λ_=>O3) (λ_=>O2) hp (λy21 h=>?_)))))));exact zQ hK19 (D λ_ hK22=>A (za O (zQ hK22 (H (z O h O)))))
 refine V (hK14 _ _ (D λ_ hK23=>D λ_ hK24=>A (zm O (ze hr h λb25 h26 h27 h28 h=>J (eK O O h26 h28) O (za O (zQ hK24 (aE (D λ_ hK29=>A (zm O (zk hp hr h [] Tryz.call98 (lF (b25.toNat:Int)) O (λ_=>rfl) λy30 h=>za O (zQ hK29 (zB O h (λ_ h=>?_) λ_ h=>?_))))))))))))
 ·refine D λ_ hK32=>A (zm O (zk hp hr h [] Tryz.call99 (xj n (dI p0.text p0.at_)) O (λ_=>rfl) λy33 h=>za O (zQ hK32 (D λ_ hK34=>D λ_ hK35=>A (zm O (zm O (zd hr h λhg36 h=>J (qS O O hg36.1 hg36.2) O (zk hp hr h [] Tryz.call100 (tN n (kB (dI p0.text p0.at_) y33)) O (λ_=>rfl) λy37 h=>zm O (zx O (zx O (za O (za O (zQ hK35 (D λ_ hK38=>A (zm O (zc O (zQ hK38 ?_)))))))))))))))));refine zB O h (λ_ h=>?_) λ_ h=>?_
  ·exact D λ_ hK40=>A (za O (zQ hK40 (H (z O h O))))
  refine V (hK34 _ _ (A (zm O (zm O (zm O (zd hr h λhg41 h=>J (qS O O hg41.1 hg41.2) O (zm O (jU hr h [0,1] Tryz.call53 (fM 2 (kB (dI p0.text p0.at_) y33) y33 p0) ⟨O,O,O,O,O,O,⟨hE _ O,trivial⟩⟩ O (λ_=>O3) (λ_=>O2) hp (λy42 h=>?_)))))))));exact zQ hK23 (D λ_ hK43=>A (za O (zQ hK43 (H (z O h O)))))
 refine D λ_ hK44=>A (zm O (zc O (za O (zQ hK44 (zB O h (λ_ h=>?_) λ_ h=>?_)))))
 ·refine D λ_ hK46=>A (zm O (jU hr h [0,1] Tryz.call101 (tC n p0) ⟨O,O,O,O,O,O,⟨hE _ O,trivial⟩⟩ O (λ_=>O3) (λ_=>O2) hp (λy47 h=>?_)));exact za O (zQ hK46 (H (z O h O)))
 refine D λ_ hK48=>A (zm O (zk hp hr h [] Tryz.call102 (vr n (dI p0.text p0.at_)) O (λ_=>rfl) λy49 h=>za O (zQ hK48 (D λ_ hK50=>D λ_ hK51=>A (zm O (J (jQ O O) O (zQ hK51 (zB O h (λ_ h=>?_) λ_ h=>?_))))))))
 ·exact D λ_ hK53=>A (za O (zQ hK53 (H (z O h O))))
 refine V (hK50 _ _ (A (zm O (zm O (zm O (J (dC O) O (jU hr h [0,1] Tryz.call53 (fM 5 y49 (List.length y49:Int) p0) ⟨O,O,O,O,O,O,⟨hE _ O,trivial⟩⟩ O (λ_=>O3) (λ_=>O2) hp (λy54 h=>?_))))))));exact zQ hK23 (D λ_ hK55=>A (za O (zQ hK55 (H (z O h O)))))
def gj (n:Nat) (p0:ByS):al ((List aB)×dz):=
 br (decide ((List.length p0:Int)>65536)) (.ok ([],(dz.mk 2 0))) (iter (λnext10 (v9:P)=>br (decide (v9.at_<(List.length p0:Int))) (el p0 v9.at_ λb16=>jn (λ(_:Unit)=>gd (dY (v9.at_+1)) (next10 ((P.mk v9.text (v9.at_+1) v9.out v9.line)))) λj22=>br ((b16.toNat:Int)==10) (br v9.line (al.bind (aZ 7 ([10]:ByS) 1 v9) λy34=>next10 ((P.mk y34.text y34.at_ y34.out false))) (j22 ())) (br ((b16.toNat:Int)==32) (j22 ()) (br ((b16.toNat:Int)==9) (j22 ()) (br ((b16.toNat:Int)==13) (j22 ()) (al.bind (cy n v9) λy44=>br (!y44.1) (.ok ([],(dz.mk 8 y44.2.at_))) (next10 (y44.2))))))) (al.bind (aZ 0 ([]:ByS) 0 v9) λy48=>.ok (y48.out,(dz.mk 0 0)))) n ((P.mk p0 0 [] false)))
theorem rj (n:Nat) (p0:ByS):CT Tryz.prog 24 [F p0] [] (gj n p0) (λx=>.gU [.pv (.sl (List.length x.1) (aB.Cs x.1)),.agg [I x.2.Errno,I x.2.At]]) (λ_=>[]):=by
 refine zC Tryz.func24 O λr hp h hr E hE=>D λ_ hK1=>A (za O (aJ 103 (hE _ O) O4 O ?_));refine zQ hK1 (A6 ?_);refine D λ_ hK2=>D λ_ hK3=>A (zm O (J (dC O) O (zc O (zQ hK3 (zB O h (λ_ h=>?_) λ_ h=>?_)))))
 ·refine D λ_ hK5=>A (J (bQ O O O) O ?_);refine za O (zs O (zQ hK5 (ca (AY (d:=2) O O) ?_)));exact H (zX (.cons (bp O) (.cons (aY O O O) .nil)) h O)
 refine V (hK2 _ _ (D λ_ hK6=>A (zm O (J (dT O O) O ?_))));refine eD 111 (hE _ O) O7 O ?_;refine za O (zQ hK6 (D λ_ hK7=>AI ?_));refine hK7 _ _ (D λ_ hK8=>aE (ca (qV (j:=111) (off:=2) 27106 (sz:=4) (el:=49) (hE _ O) O O O3 O) ?_));refine zL hr h (λ(v9:P)=>[(0,F p0),(3,.ptr 103 0),(4,.ptr 111 0)]) (λ(v9:P)=>[(103,.box [I 0,I 0]),(111,.box [F v9.text,I v9.at_,.arr 27106 (List.length v9.out),Bo v9.line]),(27106,.app 49 4 (aB.Cs v9.out))]) O λ_ v9 _ hK11 h=>D λ_ hK12=>D λ_ hK13=>A (zm O (zn O (zf O (zl O (zm O (J (dC O) O (zc O (zQ hK13 (zB O h (λ_ h=>?_) λ_ h=>?_)))))))))
 ·refine V (hK12 _ _ (aE (D λ_ hK15=>A (zm O (zm O (zn O (zf O (zl O (ze hr h λb16 h17 h18 h19 h=>J (eK O O h17 h19) O (zQ hK15 (aE (D λ_ hK20=>aE (zM h (λ(v21:Unit)=>[(0,F p0),(3,.ptr 103 0),(4,.ptr 111 0)]) (λ(v21:Unit)=>[(103,.box [I 0,I 0]),(111,.box [F v9.text,I v9.at_,.arr 27106 (List.length v9.out),Bo v9.line]),(27106,.app 49 4 (aB.Cs v9.out))]) (λv21 h=>?_) λ_ _ hK23 h=>?_)))))))))))))
  ·exact D λ_ hK24=>A (zm O (zn O (zf O (zl O (zd hr h λhg25 h=>zo hg25 O (zn O (zf O (zs O (zQ hK24 (bw (hK11 _ _ _ h O)))))))))))
  refine aE (D λ_ hK26=>aE (D λ_ hK27=>D λ_ hK28=>D λ_ hK29=>A (zc O (za O (zQ hK29 (zB O h (λ_ h=>?_) λ_ h=>?_))))))
  ·refine bw (hK26 _ _ (D λ_ hK31=>A (zm O (zn O (zf O (zl O (zQ hK31 (zB O h (λ_ h=>?_) λ_ h=>?_))))))))
   ·refine D λ_ hK33=>A (zm O (jU hr h [111,27106] Tryz.call53 (fM 7 ([10]:ByS) 1 v9) ⟨O,O,O,O,O,O,⟨hE _ O,trivial⟩⟩ O (λ_=>O3) (λ_=>O2) hp (λy34 h=>?_)));exact zQ hK33 (D λ_ hK35=>A (zm O (zn O (zf O (zs O (zQ hK35 (bw (hK11 _ _ _ h O))))))))
   exact V (hK23 _ _ _ h O)
  refine V (hK28 _ _ (D λ_ hK36=>D λ_ hK37=>A (zc O (za O (zQ hK37 (zB O h (λhb38 h=>?_) λ_ h=>?_))))))
  ·refine V (hK36 _ _ (df O (λhc=>?_) (λhc=>?_)))
   ·exact bw (hK23 _ _ _ h O)
   exact absurd (hb38.symm.trans hc) (by simp)
  refine D λ_ hK39=>A (zc O (za O (zQ hK39 (zB O h (λhb40 h=>?_) λ_ h=>?_))))
  ·refine V (hK36 _ _ (df O (λhc=>?_) (λhc=>?_)))
   ·exact bw (hK23 _ _ _ h O)
   exact absurd (hb40.symm.trans hc) (by simp)
  refine A (zc O (za O (zQ hK36 (zB O h (λ_ h=>?_) λ_ h=>?_))))
  ·exact bw (hK23 _ _ _ h O)
  refine V (hK27 _ _ (bw (hK20 _ _ (D λ_ hK42=>D λ_ hK43=>A (zm O (jU hr h [111,27106] Tryz.call54 (sR n v9) ⟨O,O,O,O,O,O,⟨hE _ O,trivial⟩⟩ O (λ_=>O3) (λ_=>O2) hp (λy44 h=>?_)))))));refine J (fu O) O (zQ hK43 (zB O h (λ_ h=>?_) λ_ h=>?_))
  ·refine D λ_ hK46=>bG [0,1,2,3,4,5,6] O (by kernel_rfl) (zD O (W O) O (zD O (dy O) O (zD O (o O) O (zD O (fV [.any,I y44.2.at_,.any,.any] O O ⟨.inr O,.inl O,.inr O,.inr O,trivial⟩ O) O (zD O (bQ O O O) O ?_)))));refine gE O O O (cW ⟨trivial,⟨⟨⟨_,O,M.fN ⟨.inr O,.inl O,.inr O,.inr O,trivial⟩⟩,trivial⟩,⟨trivial,⟨trivial,⟨trivial,trivial⟩⟩⟩⟩⟩) O (ck O O8 O (λe6 he=>⟨aK O,?_⟩));subst he;refine cY (hK46 _ _ (ca (AY (d:=2) O O) ?_));exact H (zX (.cons (bp O) (.cons (aY O O O) .nil)) h O)
  exact V (hK42 _ _ (bw (hK11 _ _ _ h O)))
 refine bw (hK8 _ _ (D λ_ hK47=>A (zm O (jU hr h [111,27106] Tryz.call53 (fM 0 ([]:ByS) 0 v9) ⟨O,O,O,O,O,O,⟨hE _ O,trivial⟩⟩ O (λ_=>O3) (λ_=>O2) hp (λy48 h=>?_)))));refine zQ hK47 (D λ_ hK49=>A (zm O (zn O (zf O (J (oI aB.y aB.bW O O O O O) O ?_)))));refine J (bQ O O O) O ?_;exact za O (zs O (zQ hK49 (H (zX (.cons (bp O) (.cons (aY O O O) .nil)) h O))))
end Go.Abs
end
