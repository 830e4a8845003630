/- PROVED: lemmas of the proof of: valid_card. CONDITIONS: as each lemma states. -/
import Derived.Test.YtkhjeiaafiodeaaGreatDoorF2
set_option linter.all false
section
namespace Go.Abs
open Go.Proofs U
set_option maxRecDepth 100000
set_option maxHeartbeats 2000000
structure bu where
 bo:L->U (ax×L)
 dK:L->U (ax×L)
 bI:L->U (ax×L)
 bA:(List ax)->L->U ((List ax)×L)
 dv:L->U (ax×L)
 dw:L->U (ax×L)
def cR (n:Nat) (T:bu) (p0:L):U (ax×L):=
 U.bind (T.bI p0) λy3=>iter (λnext6 (v5:L×(List ax))=>U.bind (bP v5.1) λy10=>br (y10.1==124) (gd (J (y10.2.at_+1)) (U.bind (T.bI (L.mk y10.2.text (y10.2.at_+1))) λy14=>gd (mV 64 (List.length v5.2) (List.length [y14.1])) (next6 (y14.2,v5.2++[y14.1])))) (U.bind (kl 4 v5.2) λy17=>.ok (y17,y10.2))) n (y3.2,[y3.1])
def fc (n:Nat) (T:bu) (p0:L):U (ax×L):=
 U.bind (bP p0) λy3=>jn (λ(v4:L)=>gd (J (v4.at_+1)) (U.bind (kC n y3.1) λy10=>.ok (y10,(L.mk v4.text (v4.at_+1))))) λj5=>br (decide (y3.2.at_>=(List.length y3.2.text:Int))) (U.bind (dt (List.length y3.2.text:Int) y3.2) λy13=>j5 (y13)) (br (y3.1==40) (U.bind (T.dv y3.2) λy17=>.ok (y17.1,y17.2)) (br (y3.1==91) (U.bind (gk n y3.2) λy21=>.ok (y21.1,y21.2)) (br (y3.1==46) (gd (J (y3.2.at_+1)) (U.bind (fk n 0 255) λy27=>.ok ((ax.mk 2 y27.x0 y27.x1 y27.x2 y27.x3 []),(L.mk y3.2.text (y3.2.at_+1))))) (br (y3.1==92) (gd (J (y3.2.at_+1)) (br (decide ((y3.2.at_+1)<(List.length y3.2.text:Int))) (gd (J (y3.2.at_+1)) (el y3.2.text (y3.2.at_+1) λb36=>U.bind (jW n (b36.toNat:Int)) λy40=>br y40.2 (gd (J (y3.2.at_+2)) (.ok ((ax.mk 2 y40.1.x0 y40.1.x1 y40.1.x2 y40.1.x3 []),(L.mk y3.2.text (y3.2.at_+2))))) (U.bind (cP n 0 y3.2) λy47=>U.bind (kC n y47.1) λy48=>.ok (y48,y47.2)))) (U.bind (cP n 0 y3.2) λy50=>U.bind (kC n y50.1) λy51=>.ok (y51,y50.2)))) (jn (λ(v52:Bool)=>br v52 (U.bind (dt y3.2.at_ y3.2) λy56=>j5 (y56)) (j5 (y3.2))) λj53=>br (decide (y3.1<32)) (j53 (true)) (br (decide (y3.1>126)) (j53 (true)) (U.bind (strings_IndexByte ([40,41,91,93,123,125,124,42,43,63,46,92]:ByS) y3.1) λy59=>j53 ((decide (y59>=0))))))))))
def cG (n:Nat) (T:bu) (p0:L):U (ax×L):=
 U.bind (T.bA [] p0) λy5=>iter (λnext8 (v7:L×(List ax))=>br (decide (v7.1.at_<(List.length v7.1.text:Int))) (U.bind (bP v7.1) λy13=>br (y13.1 !=124) (U.bind (bP y13.2) λy15=>br (y15.1 !=41) (U.bind (T.bA v7.2 y15.2) λy17=>next8 (y17.2,y17.1)) (U.bind (kl 3 v7.2) λy19=>.ok (y19,y15.2))) (U.bind (kl 3 v7.2) λy21=>.ok (y21,y13.2))) (U.bind (kl 3 v7.2) λy23=>.ok (y23,v7.1))) n (y5.2,y5.1)
def cy (n:Nat) (T:bu) (p0:(List ax)) (p1:L):U ((List ax)×L):=
 U.bind (T.dw p1) λy1=>gd (mV 64 (List.length p0) (List.length [(ax.mk 0 0 0 0 0 [])])) (.ok (p0++[y1.1],y1.2))
def eL (n:Nat) (T:bu) (p0:L):U (ax×L):=
 gd (J (p0.at_+1)) (U.bind (bP (L.mk p0.text (p0.at_+1))) λy6=>br (y6.1==41) (gd (J (y6.2.at_+1)) (.ok ((ax.mk 1 0 0 0 0 []),(L.mk y6.2.text (y6.2.at_+1))))) (U.bind (T.bo y6.2) λy12=>jn (λ(v13:L)=>gd (J (v13.at_+1)) (.ok (y12.1,(L.mk v13.text (v13.at_+1))))) λj14=>U.bind (bP y12.2) λy20=>br (y20.1 !=41) (U.bind (dt y20.2.at_ y20.2) λy22=>j14 (y22)) (j14 (y20.2))))
def eM (n:Nat) (T:bu) (p0:L):U (ax×L):=
 U.bind (T.dK p0) λy3=>iter (λnext5 (v4:L×ax)=>jn (λ(v8:L×ax)=>gd (J (v8.1.at_+1)) (next5 ((L.mk v8.1.text (v8.1.at_+1)),v8.2))) λj9=>U.bind (bP v4.1) λy13=>br (y13.1==42) (j9 (y13.2,(ax.mk 5 0 0 0 0 [v4.2]))) (br (y13.1==43) (j9 (y13.2,(ax.mk 3 0 0 0 0 [v4.2,(ax.mk 5 0 0 0 0 [v4.2])]))) (br (y13.1==63) (j9 (y13.2,(ax.mk 4 0 0 0 0 [v4.2,(ax.mk 1 0 0 0 0 [])]))) (.ok (v4.2,y13.2))))) n (y3.2,y3.1)
def aw:Nat->bu
 | 0=>⟨λ_=>.stuck,λ_=>.stuck,λ_=>.stuck,λ_ _=>.stuck,λ_=>.stuck,λ_=>.stuck⟩
 | n+1=>⟨cR n (aw n),fc n (aw n),cG n (aw n),cy n (aw n),eL n (aw n),eM n (aw n)⟩
def bo (n:Nat) (p0:L):U (ax×L):=(aw n).bo p0
def dK (n:Nat) (p0:L):U (ax×L):=(aw n).dK p0
def bI (n:Nat) (p0:L):U (ax×L):=(aw n).bI p0
def bA (n:Nat) (p0:(List ax)) (p1:L):U ((List ax)×L):=(aw n).bA p0 p1
def dv (n:Nat) (p0:L):U (ax×L):=(aw n).dv p0
def dw (n:Nat) (p0:L):U (ax×L):=(aw n).dw p0
class bB (T:bu):Prop where
 bo:∀ (p0:L),CT Tryz.prog 206 [.ptr 0 0] [.box (q p0)] (T.bo p0) (λx=>.agg (ct x.1)) (λx=>[.box (q x.2)])
 dK:∀ (p0:L),CT Tryz.prog 275 [.ptr 0 0] [.box (q p0)] (T.dK p0) (λx=>.agg (ct x.1)) (λx=>[.box (q x.2)])
 bI:∀ (p0:L),CT Tryz.prog 238 [.ptr 0 0] [.box (q p0)] (T.bI p0) (λx=>.agg (ct x.1)) (λx=>[.box (q x.2)])
 bA:∀ (p0:(List ax)) (p1:L),CT Tryz.prog 262 [.ptr 0 0,.ptr 1 0] [.box [.arr 2 (List.length p0)],.box [.ptr 3 0],.arr 137 6 (ax.Cs p0),.box (q p1)] (T.bA p0 p1) (λ_=>.gZ []) (λx=>[.box [.arr 2 (List.length x.1)],.box [.ptr 3 0],.arr 137 6 (ax.Cs x.1),.box (q x.2)])
 dv:∀ (p0:L),CT Tryz.prog 290 [.ptr 0 0] [.box (q p0)] (T.dv p0) (λx=>.agg (ct x.1)) (λx=>[.box (q x.2)])
 dw:∀ (p0:L),CT Tryz.prog 263 [.ptr 0 0] [.box (q p0)] (T.dw p0) (λx=>.agg (ct x.1)) (λx=>[.box (q x.2)])
attribute [instance] bB.bo bB.dK bB.bI bB.bA bB.dv bB.dw
theorem ph (n:Nat) (T:bu) [hT:bB T] (p0:L):CT Tryz.prog 206 [.ptr 0 0] [.box (q p0)] (cR n T p0) (λx=>.agg (ct x.1)) (λx=>[.box (q x.2)]):=by
 refine zC Tryz.func206 O λr hp h hr E hE=>ag λ_ hK1=>ab (aM 102 (hE _ O) O4 O ?_);refine zQ hK1 (ag λ_ hK2=>ab (zm O (zk hp hr h [0] Tryz.call238 (hT.bI p0) O (λ_=>rfl) λy3 h=>Dc 106 [y3.1] ax.bq ax.cw (hE _ O) O4 O3 O ?_)));refine za O (y (lk 106 10003 [(0,.ptr 0 0),(2,.ptr 102 0),(3,.arr 10003 (List.length [y3.1]))] [(0,.box (q y3.2)),(102,.box [I 0,Sc (.int .u64 0),Sc (.int .u64 0),Sc (.int .u64 0),Sc (.int .u64 0),nSl])] (hE _ O) O O O2 ⟨⟨_,O,O,O⟩,⟨_,O,O,O⟩,⟨_,O,O,O⟩,trivial⟩ ⟨⟨_,O,O,O,O,O⟩,⟨_,O,O,O,O,O⟩,trivial⟩) ?_);refine zQ hK2 (ag λ_ hK4=>ba (zL hr h (λ(v5:L×(List ax))=>[(0,.ptr 0 0),(2,.ptr 102 0),(3,.arr 10003 (List.length v5.2))]) (λ(v5:L×(List ax))=>[(0,.box (q v5.1)),(102,.box [I 0,Sc (.int .u64 0),Sc (.int .u64 0),Sc (.int .u64 0),Sc (.int .u64 0),nSl]),(10003,.app 137 6 (ax.Cs v5.2))]) O λ_ v5 _ hK7 h=>ag λ_ hK8=>ag λ_ hK9=>ab (zm O (zk hp hr h [0] Tryz.call239 (dy v5.1) O (λ_=>rfl) λy10 h=>zc O (zQ hK9 (zB O h (λ_ h=>?_) λ_ h=>?_))))))
 ·refine aD (hK8 _ _ (ba (ag λ_ hK12=>ab (zm O (zn O (zf O (zl O (zd hr h λhg13 h=>zo hg13 O (zn O (zf O (zs O (zQ hK12 (ab (zm O (zm O (zk hp hr h [0] Tryz.call238 (hT.bI (L.mk y10.2.text (y10.2.at_+1))) O (λ_=>rfl) λy14 h=>fY [y14.1] ax.bq O2 O ?_))))))))))))))));refine zd hr h λhg15 h=>ng 121 ⟨kI.h,fg.h,ax.bq,ax.cw,ax.kK,hE _ O,O,O,(.inl O),O3,hg15⟩ O ?_;refine za O (y (lk 121 10003 [(0,.ptr 0 0),(2,.ptr 102 0),(3,.arr 10003 (List.length (v5.2++[y14.1])))] [(0,.box (q y14.2)),(102,.box [I 0,Sc (.int .u64 0),Sc (.int .u64 0),Sc (.int .u64 0),Sc (.int .u64 0),nSl])] (hE _ O) O O O2 ⟨⟨_,O,O,O⟩,⟨_,O,O,O⟩,⟨_,O,O,O⟩,trivial⟩ ⟨⟨_,O,O,O,O,O⟩,⟨_,O,O,O,O,O⟩,trivial⟩) ?_);exact aH (hK7 _ _ _ h O)
 refine cx (hK4 _ _ (ag λ_ hK16=>ab (aB (lO ax.bq ax.cw O O O) O ?_)));exact zk hp hr h [] Tryz.call240 (pN 4 v5.2) O (λ_=>rfl) λy17 h=>zs O (zQ hK16 (aN (zX (.cons (aU O O O) .nil) h O)))
theorem tF (n:Nat) (T:bu) [hT:bB T] (p0:L):CT Tryz.prog 275 [.ptr 0 0] [.box (q p0)] (fc n T p0) (λx=>.agg (ct x.1)) (λx=>[.box (q x.2)]):=by
 refine zC Tryz.func275 O λr hp h hr E hE=>?_;refine ag λ_ hK1=>?_;refine ab ?_;refine aM 102 (hE _ O) O4 O ?_;refine zQ hK1 ?_;refine ag λ_ hK2=>?_;refine ab ?_;refine zm O ?_;refine zk hp hr h [0] Tryz.call239 (dy p0) O (λ_=>rfl) λy3 h=>?_;refine za O ?_;refine zQ hK2 ?_;refine zM h (λ(v4:L)=>[(0,.ptr 0 0),(2,.ptr 102 0),(3,Sc (.int .u8 y3.1))]) (λ(v4:L)=>[(0,.box (q v4)),(102,.box [I 0,Sc (.int .u64 0),Sc (.int .u64 0),Sc (.int .u64 0),Sc (.int .u64 0),nSl])]) (λv4 h=>?_) λ_ _ hK6 h=>?_
 ·refine ag λ_ hK7=>?_;refine ab ?_;refine zm O ?_;refine zn O ?_;refine zf O ?_;refine zl O ?_;refine zd hr h λhg8 h=>?_;refine zo hg8 O ?_;refine zn O ?_;refine zf O ?_;refine zs O ?_;refine zQ hK7 ?_;refine ag λ_ hK9=>?_;refine ab ?_;refine zm O ?_;refine zk hp hr h [] Tryz.call294 (tE n y3.1) O (λ_=>rfl) λy10 h=>?_;refine zs O ?_;refine zQ hK9 ?_;refine aN ?_;exact zX (.cons (aU O O O) .nil) h O
 refine ba ?_;refine ag λ_ hK11=>?_;refine cE [0,1,2,3,4,5,6,7,8,9,10] O (by kernel_rfl) ?_;refine zD O (aK O) O ?_;refine zD O (eH O) O ?_;refine zD O (fa O) O ?_;refine zD O (dZ O O O) O ?_;refine zD O (aK O) O ?_;refine zD O (eH O) O ?_;refine zD O (fa O) O ?_;refine zD O (dZ O O O) O ?_;refine zD O (gj O) O ?_;refine zD O (dT O O O) O ?_;refine mu O O O (aQ O) O ?_;refine eR ?_;refine hK11 _ _ ?_;refine zB O h (λ_ h=>?_) λ_ h=>?_
 ·refine ab ?_;refine zm O ?_;refine zm O ?_;refine zn O ?_;refine zf O ?_;refine zl O ?_;refine aB (gj O) O ?_;refine zk hp hr h [0] Tryz.call207 (jK (List.length y3.2.text:Int) y3.2) O (λ_=>rfl) λy13 h=>?_;refine aH ?_;exact hK6 _ _ _ h O
 refine ag λ_ hK14=>?_;refine ab ?_;refine zm O ?_;refine zc O ?_;refine za O ?_;refine zQ hK14 ?_;refine zB O h (λ_ h=>?_) λ_ h=>?_
 ·refine ag λ_ hK16=>?_;refine ab ?_;refine zm O ?_;refine zk hp hr h [0] Tryz.call290 (hT.dv y3.2) O (λ_=>rfl) λy17 h=>?_;refine zs O ?_;refine zQ hK16 ?_;refine aN ?_;exact zX (.cons (aU O O O) .nil) h O
 refine ag λ_ hK18=>?_;refine ab ?_;refine zm O ?_;refine zc O ?_;refine za O ?_;refine zQ hK18 ?_;refine zB O h (λ_ h=>?_) λ_ h=>?_
 ·refine ag λ_ hK20=>?_;refine ab ?_;refine zm O ?_;refine zk hp hr h [0] Tryz.call291 (uJ n y3.2) O (λ_=>rfl) λy21 h=>?_;refine zs O ?_;refine zQ hK20 ?_;refine aN ?_;exact zX (.cons (aU O O O) .nil) h O
 refine ag λ_ hK22=>?_;refine ab ?_;refine zm O ?_;refine zc O ?_;refine za O ?_;refine zQ hK22 ?_;refine zB O h (λ_ h=>?_) λ_ h=>?_
 ·refine ag λ_ hK24=>?_;refine ab ?_;refine zm O ?_;refine zn O ?_;refine zf O ?_;refine zl O ?_;refine zd hr h λhg25 h=>?_;refine zo hg25 O ?_;refine zn O ?_;refine zf O ?_;refine zs O ?_;refine zQ hK24 ?_;refine ag λ_ hK26=>?_;refine ab ?_;refine zk hp hr h [] Tryz.call292 (pO n 0 255) O (λ_=>rfl) λy27 h=>?_;refine aB (cj O O) O ?_;refine zs O ?_;refine zQ hK26 ?_;refine bC (iR 102 O O) ?_;refine aN ?_;exact zX (.cons (aU O O O) .nil) h O
 refine ag λ_ hK28=>?_;refine ab ?_;refine zm O ?_;refine zc O ?_;refine za O ?_;refine zQ hK28 ?_;refine zB O h (λ_ h=>?_) λ_ h=>?_
 ·refine ag λ_ hK30=>?_;refine ag λ_ hK31=>?_;refine cE [0,1,2,3,4,5,6,7,8,9,10] O (by kernel_rfl) ?_;refine zD O (aK O) O ?_;refine zD O (eH O) O ?_;refine zD O (fa O) O ?_;refine zD O (dZ O O O) O ?_;refine zd hr h λhg32 h=>?_;refine zD O (ti O O hg32) O ?_;refine zD O (aK O) O ?_;refine zD O (eH O) O ?_;refine zD O (fa O) O ?_;refine zD O (dZ O O O) O ?_;refine zD O (gj O) O ?_;refine zD O (dT O O O) O ?_;refine eR ?_;refine hK31 _ _ ?_;refine zB O h (λ_ h=>?_) λ_ h=>?_
  ·refine ag λ_ hK34=>?_;refine cE [0,1,2,3,4,5,6,7,8,9,14,10,11,12,13,15,16] O (by kernel_rfl) ?_;refine zD O (aK O) O ?_;refine zD O (eH O) O ?_;refine zD O (fa O) O ?_;refine zD O (dZ O O O) O ?_;refine zD O (aK O) O ?_;refine zD O (eH O) O ?_;refine zD O (fa O) O ?_;refine zD O (dZ O O O) O ?_;refine zd hr h λhg35 h=>?_;refine zD O (ti O O hg35) O ?_;refine ze hr h λb36 h37 h38 h39 h=>?_;refine zD O (gi O O h37 h39) O ?_;refine xM O (da O) 104 (hE _ O) O5 O4 ?_;refine hO O (da O) hr h [] Tryz.call293 (yV n (b36.toNat:Int)) ⟨O,O,O,O,O,O,trivial⟩ O O (λ_=>O3) (λ_=>O2) hp (λy40 h=>⟨aQ O,?_⟩);refine zD O (aK O) O ?_;refine zD O (ns O O) O ?_;refine zD O (ns O O) O ?_;refine Ae O O8 O (λe15 he=>⟨aQ O,?_⟩);subst he;refine uE O O O (aQ O) O ?_;refine eR ?_;refine hK34 _ _ ?_;refine ag λ_ hK41=>?_;refine ab ?_;refine zm O ?_;refine zQ hK41 ?_;refine zB O h (λ_ h=>?_) λ_ h=>?_
   ·refine ag λ_ hK43=>?_;refine ab ?_;refine zm O ?_;refine zn O ?_;refine zf O ?_;refine zl O ?_;refine zd hr h λhg44 h=>?_;refine zo hg44 O ?_;refine zn O ?_;refine zf O ?_;refine zs O ?_;refine zQ hK43 ?_;refine ag λ_ hK45=>?_;refine ab ?_;refine zA O ?_;refine aB (cj O O) O ?_;refine zs O ?_;refine zQ hK45 ?_;refine bC (iR 102 O O) ?_;refine aN ?_;exact zX (.cons (aU O O O) .nil) h O
   refine aD ?_;refine hK30 _ _ ?_;refine ag λ_ hK46=>?_;refine ab ?_;refine zm O ?_;refine zk hp hr h [0] Tryz.call295 (nO n 0 y3.2) O (λ_=>rfl) λy47 h=>?_;refine zk hp hr h [] Tryz.call294 (tE n y47.1) O (λ_=>rfl) λy48 h=>?_;refine zs O ?_;refine zQ hK46 ?_;refine aN ?_;exact zX (.cons (aU O O O) .nil) h O
  refine aD ?_;refine hK30 _ _ ?_;refine ag λ_ hK49=>?_;refine ab ?_;refine zm O ?_;refine zk hp hr h [0] Tryz.call295 (nO n 0 y3.2) O (λ_=>rfl) λy50 h=>?_;refine zk hp hr h [] Tryz.call294 (tE n y50.1) O (λ_=>rfl) λy51 h=>?_;refine zs O ?_;refine zQ hK49 ?_;refine aN ?_;exact zX (.cons (aU O O O) .nil) h O
 refine zM h (λ(v52:Bool)=>[(0,.ptr 0 0),(2,.ptr 102 0),(3,Sc (.int .u8 y3.1)),(89,Bo v52)]) (λ(v52:Bool)=>[(0,.box (q y3.2)),(102,.box [I 0,Sc (.int .u64 0),Sc (.int .u64 0),Sc (.int .u64 0),Sc (.int .u64 0),nSl])]) (λv52 h=>?_) λ_ _ hK54 h=>?_
 ·refine zB O h (λ_ h=>?_) λ_ h=>?_
  ·refine ab ?_;refine zm O ?_;refine zm O ?_;refine zn O ?_;refine zf O ?_;refine zl O ?_;refine zk hp hr h [0] Tryz.call207 (jK y3.2.at_ y3.2) O (λ_=>rfl) λy56 h=>?_;refine aH ?_;exact hK6 _ _ _ h O
  refine aD ?_;exact hK6 _ _ _ h O
 refine ab ?_;refine zm O ?_;refine zc O ?_;refine zm O ?_;refine zb (decide (y3.1<32)) (λhb57=>?_) λhb57=>?_
 ·refine z1 hb57 h λh=>?_;refine zg hb57 O ?_;refine zg hb57 O ?_;refine zy hb57 O ?_;refine zm O ?_;refine zg O O ?_;refine zg O O ?_;refine zg O O ?_;refine zt O ?_;refine za O ?_;refine aH ?_;exact hK54 _ _ _ h O
 refine z2 hb57 h λh=>?_;refine zG hb57 O (aK O) ?_;refine zG hb57 O (dT O O O) ?_;refine zw hb57 O ?_;refine zm O ?_;refine zb (decide (y3.1>126)) (λhb58=>?_) λhb58=>?_
 ·refine z1 hb58 h λh=>?_;refine zg hb58 O ?_;refine zg hb58 O ?_;refine zg hb58 O ?_;refine zy hb58 O ?_;refine za O ?_;refine aH ?_;exact hK54 _ _ _ h O
 refine z2 hb58 h λh=>?_;refine zG hb58 O (aK O) ?_;refine zK hb58 O hp hr h [] Tryz.call296 (ub ([40,41,91,93,123,125,124,42,43,63,46,92]:ByS) y3.1) O (λ_=>rfl) λy59 h=>?_;refine zG hb58 O (dT O O O) ?_;refine zw hb58 O ?_;refine za O ?_;refine aH ?_;exact hK54 _ _ _ h O
theorem oS (n:Nat) (T:bu) [hT:bB T] (p0:L):CT Tryz.prog 238 [.ptr 0 0] [.box (q p0)] (cG n T p0) (λx=>.agg (ct x.1)) (λx=>[.box (q x.2)]):=by
 refine zC Tryz.func238 O λr hp h hr E hE=>ag λ_ hK1=>ab (lp 101 (hE _ O) O7 O ?_);refine aM 102 (hE _ O) O4 O ?_;refine zQ hK1 (ag λ_ hK2=>ab (aM 103 (hE _ O) O4 O ?_));refine zQ hK2 (ag λ_ hK3=>ab (aB (od O O) O ?_));refine za O (zQ hK3 (ag λ_ hK4=>ab (zm O (y (tw (j:=103) (off:=0) 26592 (sz:=6) (el:=137) (hE _ O) O O O3 O O) ?_))));refine oa hr h [103,101,26592,0] Tryz.call262 (hT.bA [] p0) ⟨O,O,O,O,O,O,⟨hE _ O,trivial⟩⟩ O (λ_=>O3) (λ_=>O2) hp (λy5 h=>?_);refine zQ hK4 (ag λ_ hK6=>ba (zL hr h (λ(v7:L×(List ax))=>[(0,.ptr 0 0),(1,.ptr 101 0),(2,.ptr 102 0),(3,.ptr 103 0),(4,.fn 262 [] [.ptr 103 0,.ptr 101 0])]) (λ(v7:L×(List ax))=>[(0,.box (q v7.1)),(101,.box [.ptr 0 0]),(102,.box [I 0,Sc (.int .u64 0),Sc (.int .u64 0),Sc (.int .u64 0),Sc (.int .u64 0),nSl]),(103,.box [.arr 26592 (List.length v7.2)]),(26592,.arr 137 6 (ax.Cs v7.2))]) O λ_ v7 _ hK9 h=>ag λ_ hK10=>ag λ_ hK11=>cE [0,1,2,3,4,5,6,7,8,9,10,11,12,13,14,15,16,17,18,19] O (by kernel_rfl) (zD O (dZ O O O) O (zD O (eH O) O (zD O (fa O) O (zD O (dZ O O O) O (zD O (dZ O O O) O (zD O (eH O) O (zD O (fa O) O (zD O (dZ O O O) O (zD O (gj O) O (zD O (dT O O O) O (zD O (aK O) O (zb (decide (v7.1.at_<(List.length v7.1.text:Int))) (λhb12=>?_) λhb12=>?_))))))))))))))
 ·refine z1 hb12 h λh=>dr hb12 O O2 (dZ O O O) O3 ?_;refine hO O (D4 hb12 O O2) hr h [0] Tryz.call239 (dy v7.1) ⟨O,O,O,O,O,O,trivial⟩ O O (λ_=>O3) (λ_=>O2) hp (λy13 h=>⟨aQ O,?_⟩);refine dr hb12 O O2 (dT O O O) O3 ?_;refine zD O (iN hb12 O O) O (zD O (aK O) O (zb (y13.1 !=124) (λhb14=>?_) λhb14=>?_))
  ·refine z1 hb14 h λh=>dr hb14 O O2 (dZ O O O) O3 ?_;refine hO O (D4 hb14 O O2) hr h [0] Tryz.call239 (dy y13.2) ⟨O,O,O,O,O,O,trivial⟩ O O (λ_=>O3) (λ_=>O2) hp (λy15 h=>⟨aQ O,?_⟩);refine dr hb14 O O2 (dT O O O) O3 ?_;refine zD O (iN hb14 O O) O (eR (hK11 _ _ (zB O h (λ_ h=>?_) λ_ h=>?_)))
   ·refine aD (hK10 _ _ (ba (ab (zm O (oa hr h [103,101,26592,0] Tryz.call262 (hT.bA v7.2 y15.2) ⟨O,O,O,O,O,O,⟨hE _ O,trivial⟩⟩ O (λ_=>O3) (λ_=>O2) hp (λy17 h=>?_))))));exact aH (hK9 _ _ _ h O)
   refine cx (hK6 _ _ (ag λ_ hK18=>ab (y (se (j:=103) (off:=0) ax.bq ax.cw O O O O (hE _ O) O) ?_)));exact zl O (zk hp hr h [] Tryz.call240 (pN 3 v7.2) O (λ_=>rfl) λy19 h=>zs O (zQ hK18 (aN (zX (.cons (aU O O O) .nil) h O))))
  refine z2 hb14 h λh=>bR hb14 O O2 O2 ?_;refine uC hb14 O O2 O2 ?_;refine bR hb14 O O2 O2 ?_;refine zD O (ja hb14 O O) O (eR (hK11 _ _ (iz O (λhc=>?_) (λhc=>?_))))
  ·exact absurd (hc) (by simp)
  refine cx (hK6 _ _ (ag λ_ hK20=>ab (y (se (j:=103) (off:=0) ax.bq ax.cw O O O O (hE _ O) O) ?_)));exact zl O (zk hp hr h [] Tryz.call240 (pN 3 v7.2) O (λ_=>rfl) λy21 h=>zs O (zQ hK20 (aN (zX (.cons (aU O O O) .nil) h O))))
 refine z2 hb12 h λh=>bR hb12 O O2 O2 ?_;refine uC hb12 O O2 O2 ?_;refine bR hb12 O O2 O2 ?_;refine zD O (ja hb12 O O) O (zD O (aK O) O (bR O O O2 O2 ?_));refine uC O O O2 O2 ?_;refine bR O O O2 O2 ?_;refine zD O (jN O O) O (eR (hK11 _ _ (iz O (λhc=>?_) (λhc=>?_))))
 ·exact absurd (hc) (by simp)
 refine cx (hK6 _ _ (ag λ_ hK22=>ab (y (se (j:=103) (off:=0) ax.bq ax.cw O O O O (hE _ O) O) ?_)));exact zl O (zk hp hr h [] Tryz.call240 (pN 3 v7.2) O (λ_=>rfl) λy23 h=>zs O (zQ hK22 (aN (zX (.cons (aU O O O) .nil) h O))))
theorem n8 (n:Nat) (T:bu) [hT:bB T] (p0:(List ax)) (p1:L):CT Tryz.prog 262 [.ptr 0 0,.ptr 1 0] [.box [.arr 2 (List.length p0)],.box [.ptr 3 0],.arr 137 6 (ax.Cs p0),.box (q p1)] (cy n T p0 p1) (λ_=>.gZ []) (λx=>[.box [.arr 2 (List.length x.1)],.box [.ptr 3 0],.arr 137 6 (ax.Cs x.1),.box (q x.2)]):=by
 refine zC Tryz.func262 O λr hp h hr E hE=>oO [] ?_;refine rH [0,1,3,4,2,5,6] 7 8 O (by kernel_rfl) ?_;refine zD O (ju [.arr 2 (List.length p0)] O O ⟨.inl O,trivial⟩ O) O (zD O (dZ O O O) O (zD O (oL O) O (vU [(ax.mk 0 0 0 0 0 [])] ax.bq O (da O) O3 O2 ?_)));refine hO O (da O) hr h [3] Tryz.call263 (hT.dw p1) ⟨O,O,O,O,O,O,trivial⟩ O O (λ_=>O3) (λ_=>O2) hp (λy1 h=>⟨db ⟨trivial,⟨trivial,⟨trivial,⟨⟨⟨_,O,bh.iB ⟨.inl O,trivial⟩⟩,trivial⟩,trivial⟩⟩⟩⟩,?_⟩);refine zd hr h λhg2 h=>pL 107 O (da O) ⟨kI.h,fg.h,ax.bq,ax.cw,ax.kK,hE _ O,O,O,(.inl O),O3,hg2⟩ O O ⟨aQ O,?_⟩;refine zD O (oK O O (Int.natCast_nonneg _) (tV _ _)) O (tW ?_ ?_)
 ·refine pd p0 O (⟨ax.bq,ax.cw,Int.natCast_nonneg _,ly _ _,O,O,O,O,O,nA.h,O,O,O⟩:yP _ _ _ _ _ _ _ _ _ 0 _ _ _ _ _ _ y1.1 _ (ax.C y1.1)) O ⟨aQ O,?_⟩;refine cg O O8 O (λe8 he=>⟨aQ O,?_⟩);subst he;refine iA (fC.trans (pf 0 0 (m':=List.length (p0++[y1.1])) O O (by simp) O) (k2 107 2 [(0,.ptr 0 0),(1,.ptr 1 0)] [(0,.box [.arr 2 (List.length (p0++[y1.1]))]),(1,.box [.ptr 3 0]),(3,.box (q y1.2))] (hE _ O) O O O2 ⟨⟨_,O,O,O⟩,⟨_,O,O,O⟩,trivial⟩ ⟨⟨_,O,O,O,O,O⟩,⟨_,O,O,O,O,O⟩,⟨_,O,O,O,O,O⟩,trivial⟩)) ?_;exact zY .nil h O
 refine cg O O8 O (λe7 he=>⟨aQ O,?_⟩);subst he;refine pd p0 O (⟨ax.bq,ax.cw,Int.natCast_nonneg _,ly _ _,O,O,O,O,O,nA.h,O,O,O⟩:yP _ _ _ _ _ _ _ _ _ 0 _ _ _ _ _ _ y1.1 _ (ax.C y1.1)) O ⟨aQ O,?_⟩;refine iA (fC.trans (pf 0 0 (m':=List.length (p0++[y1.1])) O O (by simp) O) (k2 107 2 [(0,.ptr 0 0),(1,.ptr 1 0)] [(0,.box [.arr 2 (List.length (p0++[y1.1]))]),(1,.box [.ptr 3 0]),(3,.box (q y1.2))] (hE _ O) O O O2 ⟨⟨_,O,O,O⟩,⟨_,O,O,O⟩,trivial⟩ ⟨⟨_,O,O,O,O,O⟩,⟨_,O,O,O,O,O⟩,⟨_,O,O,O,O,O⟩,trivial⟩)) ?_;exact zY .nil h O
theorem sK (n:Nat) (T:bu) [hT:bB T] (p0:L):CT Tryz.prog 290 [.ptr 0 0] [.box (q p0)] (eL n T p0) (λx=>.agg (ct x.1)) (λx=>[.box (q x.2)]):=by
 refine zC Tryz.func290 O λr hp h hr E hE=>ag λ_ hK1=>ab (aM 102 (hE _ O) O4 O ?_);refine zQ hK1 (ag λ_ hK2=>ab (zm O (zn O (zf O (zl O (zd hr h λhg3 h=>zo hg3 O (zn O (zf O (zs O (zQ hK2 (ag λ_ hK4=>ag λ_ hK5=>ab (zm O (zk hp hr h [0] Tryz.call239 (dy (L.mk p0.text (p0.at_+1))) O (λ_=>rfl) λy6 h=>zc O (zQ hK5 (zB O h (λ_ h=>?_) λ_ h=>?_)))))))))))))))
 ·refine ag λ_ hK8=>ab (zm O (zn O (zf O (zl O (zd hr h λhg9 h=>zo hg9 O (zn O (zf O (zs O (zQ hK8 (ag λ_ hK10=>ab (aB (cj O O) O ?_)))))))))));refine zs O (zQ hK10 (bC (iR 102 O O) ?_));exact aN (zX (.cons (aU O O O) .nil) h O)
 refine aD (hK4 _ _ (ag λ_ hK11=>ab (zm O (zk hp hr h [0] Tryz.call206 (hT.bo y6.2) O (λ_=>rfl) λy12 h=>aM 103 (hE _ O) O4 O ?_))));refine zs O (zQ hK11 (zM h (λ(v13:L)=>[(0,.ptr 0 0),(2,.ptr 102 0),(3,.ptr 103 0)]) (λ(v13:L)=>[(0,.box (q v13)),(102,.box [I 0,Sc (.int .u64 0),Sc (.int .u64 0),Sc (.int .u64 0),Sc (.int .u64 0),nSl]),(103,.box (ct y12.1))]) (λv13 h=>?_) λ_ _ hK15 h=>?_))
 ·refine ag λ_ hK16=>ab (zm O (zn O (zf O (zl O (zd hr h λhg17 h=>zo hg17 O (zn O (zf O (zs O (zQ hK16 (ag λ_ hK18=>ab (zA O ?_)))))))))));exact zs O (zQ hK18 (aN (zX (.cons (aU O O O) .nil) h O)))
 refine ag λ_ hK19=>ab (zm O (zk hp hr h [0] Tryz.call239 (dy y12.2) O (λ_=>rfl) λy20 h=>zc O (zQ hK19 (zB O h (λ_ h=>?_) λ_ h=>?_))))
 ·exact ab (zm O (zm O (zn O (zf O (zl O (zk hp hr h [0] Tryz.call207 (jK y20.2.at_ y20.2) O (λ_=>rfl) λy22 h=>aH (hK15 _ _ _ h O)))))))
 exact aD (hK15 _ _ _ h O)
theorem sL (n:Nat) (T:bu) [hT:bB T] (p0:L):CT Tryz.prog 263 [.ptr 0 0] [.box (q p0)] (eM n T p0) (λx=>.agg (ct x.1)) (λx=>[.box (q x.2)]):=by
 refine zC Tryz.func263 O λr hp h hr E hE=>ag λ_ hK1=>ab (aM 102 (hE _ O) O4 O ?_);refine zQ hK1 (ag λ_ hK2=>ab (zm O (zk hp hr h [0] Tryz.call275 (hT.dK p0) O (λ_=>rfl) λy3 h=>aM 103 (hE _ O) O4 O ?_)));refine zs O (zQ hK2 (ba (zL hr h (λ(v4:L×ax)=>[(0,.ptr 0 0),(2,.ptr 102 0),(3,.ptr 103 0)]) (λ(v4:L×ax)=>[(0,.box (q v4.1)),(102,.box [I 0,Sc (.int .u64 0),Sc (.int .u64 0),Sc (.int .u64 0),Sc (.int .u64 0),nSl]),(103,.box (ct v4.2))]) O λ_ v4 _ hK6 h=>ba (ag λ_ hK7=>ab (zA O ?_)))));refine fY [v4.2] ax.bq O2 O ?_;refine aB (cb O O O) O ?_;refine aM 104 (hE _ O) O4 O ?_;refine zs O (zQ hK7 (zM h (λ(v8:L×ax)=>[(0,.ptr 0 0),(2,.ptr 102 0),(3,.ptr 103 0)]) (λ(v8:L×ax)=>[(0,.box (q v8.1)),(102,.box [I 0,Sc (.int .u64 0),Sc (.int .u64 0),Sc (.int .u64 0),Sc (.int .u64 0),nSl]),(103,.box (ct v8.2))]) (λv8 h=>?_) λ_ _ hK10 h=>?_))
 ·exact ab (zm O (zn O (zf O (zl O (zd hr h λhg11 h=>zo hg11 O (zn O (zf O (zs O (aH (hK6 _ _ _ h O))))))))))
 refine ag λ_ hK12=>ab (zm O (zk hp hr h [0] Tryz.call239 (dy v4.1) O (λ_=>rfl) λy13 h=>zQ hK12 (ba (ag λ_ hK14=>ab (zc O (za O (zQ hK14 (zB O h (λ_ h=>?_) λ_ h=>?_))))))))
 ·refine ab (zA O ?_);exact zs O (aH (hK10 _ _ _ h O))
 refine ag λ_ hK16=>ab (zc O (za O (zQ hK16 (zB O h (λ_ h=>?_) λ_ h=>?_))))
 ·refine ab (zA O ?_);refine zA O ?_;refine fY [v4.2,(ax.mk 5 0 0 0 0 [v4.2])] ax.bq O2 O ?_;refine aB (cb O O O) O ?_;exact zs O (aH (hK10 _ _ _ h O))
 refine ag λ_ hK18=>ab (zc O (za O (zQ hK18 (zB O h (λ_ h=>?_) λ_ h=>?_))))
 ·refine ab (zA O ?_);refine aB (cb O O O) O ?_;refine fY [v4.2,(ax.mk 1 0 0 0 0 [])] ax.bq O2 O ?_;refine aB (cb O O O) O ?_;exact zs O (aH (hK10 _ _ _ h O))
 refine ag λ_ hK20=>ab (zA O ?_);exact zs O (zQ hK20 (aN (zX (.cons (aU O O O) .nil) h O)))
theorem kv:∀ n,bB (aw n)
 | 0=>⟨λ_=>cd,λ_=>cd,λ_=>cd,λ_ _=>cd,λ_=>cd,λ_=>cd⟩
 | n+1=>have:=kv n;⟨λp0=>ph n _ p0,λp0=>tF n _ p0,λp0=>oS n _ p0,λp0 p1=>n8 n _ p0 p1,λp0=>sK n _ p0,λp0=>sL n _ p0⟩
instance pP (n:Nat) (p0:L):CT Tryz.prog 206 [.ptr 0 0] [.box (q p0)] (bo n p0) (λx=>.agg (ct x.1)) (λx=>[.box (q x.2)]):=(kv n).bo p0
def iJ (n:Nat) (p0:ByS):U (ax×eS):=
 br (decide ((List.length p0:Int)>1000)) (.ok ((ax.mk 0 0 0 0 0 []),(eS.mk 2 0))) (pc (U.bind (bo n (L.mk p0 0)) λy9=>jn (λ(v10:L)=>U.bind (nt n y9.1) λy15=>br (y15==9) (.ok ((ax.mk 0 0 0 0 0 []),(eS.mk 9 0))) (.ok (y9.1,(eS.mk 0 0)))) λj11=>br (decide (y9.2.at_<(List.length p0:Int))) (U.bind (dt y9.2.at_ y9.2) λy22=>j11 (y22)) (j11 (y9.2))) (λp=>qJ 202 p λv25=>U.bind (nN v25) λy26=>.ok (y26.1,y26.2)))
instance H0 (n:Nat) (p0:ByS):CT Tryz.prog 163 [aZ p0] [] (iJ n p0) (λx=>.gZ [.agg (ct x.1),.agg [I x.2.Errno,I x.2.At]]) (λ_=>[]):=by
 refine tT Tryz.func163 O O λr h hr E hE=>?_;refine ag λ_ hK1=>ab (aM 102 (hE _ O) O4 O ?_);refine aM 103 (hE _ O) O4 O ?_;refine zQ hK1 (ag λ_ hK2=>ag λ_ hK3=>ab (zm O (aB (gj O) O (zc O (zQ hK3 (zB O h (λ_ h=>?_) λ_ h=>?_))))))
 ·refine ag λ_ hK5=>ab (aB (cj O O) O ?_);refine aB (cb O O O) O ?_;refine zs O (zs O (zQ hK5 (bC (iR 102 O O) ?_)));exact aN (vh (n:=Tryz.f163.ntmps) (.inl O) (oN (.inl O) _ (.cons (aU O O O) (.cons (aU O O O) .nil)) h.symm (AV.le_refl _) trivial))
 refine aD (hK2 _ _ (ag λ_ hK6=>ab (zm O (aB (cb O O O) O ?_))));refine lp 112 (hE _ O) O7 O ?_;refine aM 104 (hE _ O) O4 O ?_;refine zs O (zQ hK6 (ag λ_ hK7=>ab (aB (od O O) O ?_)));refine AP O ?_;have hrO:=hr;obtain ⟨r,hr,h,hc⟩:=w7 hr h;refine zQ hK7 (ag λ_ hK8=>ab (zl O (rk hr h [112] Tryz.call206 (pP n (L.mk p0 0)) ⟨O,O,O,O,O,O,trivial⟩ O O (λ_=>O3) (λ_=>O2) O (λp hp=>?_) (λy9 h=>?_))))
 ·obtain ⟨v24,rfl,hc⟩:=qk hrO (nH hc hp);obtain ⟨hns,hok,_⟩:=lY hrO hc;repeat (first|refine nI ?_|refine lZ ?_)
  refine kg (n:=Tryz.f163.ntmps) [104,102,103,112] Tryz.call205 (mG v24) hns O ⟨O,O,O,O⟩ (λ_=>O2) (λx hx=>?_);exact gJ (.inl O) _ (.cons (aU O O O) (.cons (aU O O O) .nil)) (hok x hx).symm (AV.le_refl _) trivial
 refine zs O (zQ hK8 (zM h (λ(v10:L)=>[(0,aZ p0),(2,.ptr 102 0),(3,.ptr 103 0)]) (λ(v10:L)=>[(102,.box (ct y9.1)),(103,.box [I 0,I 0]),(104,.box [.ptr 112 0]),(112,.box (q v10))]) (λv10 h=>?_) λ_ _ hK12 h=>?_))
 ·refine ag λ_ hK13=>ag λ_ hK14=>ab (zA O ?_);refine rk hr h [] Tryz.call208 (yU n y9.1) ⟨O,O,O,O,O,O,trivial⟩ O O (λ_=>O3) (λ_=>O2) O (λp hp=>?_) (λy15 h=>?_)
  ·obtain ⟨v19,rfl,hc⟩:=qk hrO (nH hc hp);obtain ⟨hns,hok,_⟩:=lY hrO hc;repeat (first|refine nI ?_|refine lZ ?_)
   refine kg (n:=Tryz.f163.ntmps) [104,102,103,112] Tryz.call205 (mG v19) hns O ⟨O,O,O,O⟩ (λ_=>O2) (λx hx=>?_);exact gJ (.inl O) _ (.cons (aU O O O) (.cons (aU O O O) .nil)) (hok x hx).symm (AV.le_refl _) trivial
  refine zc O (zQ hK14 (zB O h (λ_ h=>?_) λ_ h=>?_))
  ·refine ag λ_ hK17=>ab (aB (cj O O) O ?_);refine aB (cb O O O) O ?_;refine zs O (zs O (zQ hK17 (bC (iR 102 O O) ?_)));refine aN (ni (n:=Tryz.f163.ntmps) (.inl O) [104,102,103,112] Tryz.call205 (oj [.box [.ptr 3 0],.box [I 0,Sc (.int .u64 0),Sc (.int .u64 0),Sc (.int .u64 0),Sc (.int .u64 0),.pv (.sl (List.length ([]:List ax)) (ax.Cs []))],.box [I 9,I 0],.box (q v10)]) ⟨O,O,O,O⟩ O O ?_);exact gJ (.inl O) _ (.cons (aU O O O) (.cons (aU O O O) .nil)) (sf hc h.symm) (AV.le_refl _) trivial
  refine aD (hK13 _ _ (ag λ_ hK18=>ab (zA O ?_)));refine aB (cb O O O) O ?_;refine zs O (zs O (zQ hK18 (aN (ni (n:=Tryz.f163.ntmps) (.inl O) [104,102,103,112] Tryz.call205 (oj [.box [.ptr 3 0],.box (ct y9.1),.box [I 0,I 0],.box (q v10)]) ⟨O,O,O,O⟩ O O ?_))));exact gJ (.inl O) _ (.cons (aU O O O) (.cons (aU O O O) .nil)) (sf hc h.symm) (AV.le_refl _) trivial
 refine ag λ_ hK20=>ab (zl O (zn O (zf O (zl O (zm O (aB (gj O) O (zc O (zQ hK20 (zB O h (λ_ h=>?_) λ_ h=>?_)))))))))
 ·refine cE [0,1,2,3,4,5] O (by kernel_rfl) (zD O (dZ O O O) O (zD O (dZ O O O) O (zD O (eH O) O (zD O (fa O) O (zD O (dZ O O O) O (KO O (da O) O hr h [112] Tryz.call207 (jK y9.2.at_ y9.2) ⟨O,O,O,O,O,O,trivial⟩ O O (λ_=>O3) (λ_=>O2) O (λp hp=>?_) (λy22 h=>?_)))))))
  ·obtain ⟨v23,rfl,hc⟩:=qk hrO (nH hc hp);obtain ⟨hns,hok,_⟩:=lY hrO hc;repeat (first|refine nI ?_|refine lZ ?_)
   refine kg (n:=Tryz.f163.ntmps) [104,102,103,112] Tryz.call205 (mG v23) hns O ⟨O,O,O,O⟩ (λ_=>O2) (λx hx=>?_);exact gJ (.inl O) _ (.cons (aU O O O) (.cons (aU O O O) .nil)) (hok x hx).symm (AV.le_refl _) trivial
  exact eR (hK12 _ _ _ h O)
 exact aD (hK12 _ _ _ h O)
def fS (n:Nat) (p0:A) (p1:au):U (A×au):=
 lg 0 (λ(v1:A×au)=>[(0,.ptr 0 0),(1,.ptr 1 0)]) (λ(v1:A×au)=>[(0,.box [.ptr 2 0]),(1,.box [.ptr 3 0]),(2,.box (D v1.1)),(3,.box (cZ v1.2))]) (λ(v1:A×au)=>gd (J (v1.1.at_+1)) (U.bind (cH n ([93]:ByS) (A.mk v1.1.text v1.1.F (v1.1.at_+1) v1.1.base v1.1.skip v1.1.pending)) λy6=>.ok (y6,v1.2))) λj2=>U.bind (cq n ([61,126]:ByS) p0) λy8=>br y8.1 (kp [0,1,2,3,4,5,6] (U.bind (aE n y8.2) λy11=>U.bind (iJ n y11.1.Text) λy13=>br (y13.2.Errno !=0) (U.bind (bm n (A.mk y11.2.text y11.2.F y11.2.at_ y8.2.base y11.2.skip y11.2.pending)) λy16=>j2 (y16,(au.mk p1.Kind p1.cX y11.1.Text p1.V p1.aS p1.B p1.Body p1.H p1.lT p1.Trail p1.Pos))) (j2 ((A.mk y11.2.text y11.2.F y11.2.at_ y8.2.base y11.2.skip y11.2.pending),(au.mk p1.Kind p1.cX y11.1.Text p1.V p1.aS p1.B p1.Body p1.H p1.lT p1.Trail p1.Pos))))) (j2 (y8.2,p1))
instance yJ (n:Nat) (p0:A) (p1:au):CT Tryz.prog 201 [.ptr 0 0,.ptr 1 0] [.box [.ptr 2 0],.box [.ptr 3 0],.box (D p0),.box (cZ p1)] (fS n p0 p1) (λ_=>.gZ []) (λx=>[.box [.ptr 2 0],.box [.ptr 3 0],.box (D x.1),.box (cZ x.2)]):=by unfold fS;exact zz Tryz.func201
def fZ (n:Nat) (p0:Bool) (p1:A) (p2:au):U (A×au):=
 U.bind (fS n (A.mk p1.text p1.F p1.at_ p1.base p0 p1.pending) p2) λy4=>.ok ((A.mk y4.1.text y4.1.F y4.1.at_ y4.1.base p1.skip y4.1.pending),y4.2)
instance si (n:Nat) (p0:Bool) (p1:A) (p2:au):CT Tryz.prog 200 [.ptr 0 0,Bo p0,.fn 201 [] [.ptr 1 0,.ptr 2 0]] [.box (D p1),.box [.ptr 0 0],.box [.ptr 3 0],.box (cZ p2)] (fZ n p0 p1 p2) (λ_=>.gZ []) (λx=>[.box (D x.1),.box [.ptr 0 0],.box [.ptr 3 0],.box (cZ x.2)]):=by unfold fZ;exact zz Tryz.func200
def ga (n:Nat) (p0:A):U (Bool×A):=
 U.bind (aE n p0) λy3=>br (y3.1.Kind==0) (.ok (true,(A.mk y3.2.text y3.2.F y3.2.at_ p0.base y3.2.skip y3.2.pending))) (U.bind (aE n (A.mk y3.2.text y3.2.F y3.2.at_ p0.base y3.2.skip y3.2.pending)) λy5=>U.bind (cY y5.1 ([125]:ByS)) λy6=>.ok (y6,(A.mk y5.2.text y5.2.F y5.2.at_ p0.base y5.2.skip y5.2.pending)))
instance oT (n:Nat) (p0:A):CT Tryz.prog 105 [.ptr 0 0] [.box (D p0)] (ga n p0) (λx=>Bo x.1) (λx=>[.box (D x.2)]):=by unfold ga;exact zz Tryz.func105
def fu (n:Nat) (p0:Int) (p1:A):U (Bool×A):=
 gP (λ(v4:Int)=>[(0,.ptr 0 0),(1,I p0),(5,I v4)]) (λ(v4:Int)=>[(0,.box (D p1))]) (λnext5 (v4:Int)=>br (decide (v4<p1.at_)) (el p1.F v4 λwD=>U.bind (cY wD ([44]:ByS)) λy16=>br (!y16) (.ok (false,p1)) (gd (J (v4+1)) (next5 (v4+1)))) (kp [0,1,2,3,4,5,6,7,8,9,10,11,12,13,14,15,16,17,18,19,20,21,22,23,24,25,26,27] (gd (J (p0 - 1)) (el p1.F (p0 - 1) λx22=>el p1.F p1.at_ λx26=>gd ((0:Int)<=x22.End/\(x22.End:Int)<=x26.Pos/\x26.Pos<=(List.length p1.text:Int)) (U.bind (strings_Contains (sub p1.text x22.End x26.Pos) ([10]:ByS)) λy31=>.ok ((!y31),p1)))))) n (p0)
instance nP (n:Nat) (p0:Int) (p1:A):CT Tryz.prog 106 [.ptr 0 0,I p0] [.box (D p1)] (fu n p0 p1) (λx=>Bo x.1) (λx=>[.box (D x.2)]):=by unfold fu;exact zz Tryz.func106
def nQ (v:Int):U (Z×Bool):=
 .ok ((Z.mk 0 [] 0 [] [] [] [] [] 0),false)
theorem uc (v:Int):EU Tryz.prog 316 [.ptr 0 0,.ptr 1 0] [.box [.any,.any,.any,.any,.any,.any,.any,.any,.any],.box [.any]] (some (.iface 86 (.agg #[.int .i64 v]))) (nQ v) (λx=>[.box (K x.1),.box [Bo x.2]]):=by
 refine oQ (m:=some (.iface 86 (.agg #[.int .i64 v]))) (mv:=.ny 86 (.agg [I v])) (λg=>.ny 86 (.agg (.cons (.pv (.sc _)) .nil))) Tryz.func316 O O O λr h hr E hE=>?_;refine ag λ_ hK1=>ab (zm O (aB (qm O O) O (zQ hK1 (iz O (λhc=>?_) (λhc=>?_)))))
 ·refine ab (aB (cj O O) O ?_);refine zs O (zs O (y (iR 0 O O) ?_));exact aH (tU (.inr O) _ h.symm ⟨O,O,trivial⟩)
 exact absurd (hc) (by simp)
theorem sM (es:List bh):EU Tryz.prog 316 [.ptr 0 0,.ptr 1 0] es none (U.ok ()) (λ_=>es):=by
 refine oQ (m:=none) (mv:=Sc .nilIface) (λg=>.pv (.sc _)) Tryz.func316 O O O λr h hr E hE=>?_;refine ag λ_ hK1=>ab (zm O (aB (qn O) O (zQ hK1 (iz O (λhc=>?_) (λhc=>?_)))))
 ·exact absurd (hc) (by simp)
 exact aD (qY h)
def oC (p0:aY):U (Bool):=
 .ok ((p0.Kind==6))
instance Fz (p0:aY):CT Tryz.prog 314 [.agg (gG p0)] [] (oC p0) (λx=>Bo x) (λ_=>[]):=by unfold oC;exact zz Tryz.func314
def iE (n:Nat) (p0:(List aY)):U (Int):=
 gP (λ(v4:Int)=>[(0,.pv (.sl (List.length p0) (aY.Cs p0))),(1,.fn 314 [] []),(7,I (List.length p0:Int)),(8,I v4)]) (λ(v4:Int)=>[]) (λnext5 (v4:Int)=>br (decide (v4<(List.length p0:Int))) (el p0 v4 λCZ=>U.bind (oC CZ) λy17=>br y17 (.ok (v4)) (gd (J (v4+1)) (next5 (v4+1)))) (.ok ((-1)))) n (0)
instance wN (n:Nat) (p0:(List aY)):CT Tryz.prog 319 [.pv (.sl (List.length p0) (aY.Cs p0)),.fn 314 [] []] [] (iE n p0) (λx=>I x) (λ_=>[]):=by unfold iE;exact zz Tryz.func319
def fv (n:Nat) (p0:(List aY)):U (Bool):=
 U.bind (iE n p0) λy3=>.ok ((decide (y3>=0)))
instance n9 (n:Nat) (p0:(List aY)):CT Tryz.prog 315 [.pv (.sl (List.length p0) (aY.Cs p0)),.fn 314 [] []] [] (fv n p0) (λx=>Bo x) (λ_=>[]):=by unfold fv;exact zz Tryz.func315
def du (p0:Int) (p1:ByS) (p2:Int) (p3:bN):U (bN):=
 gd (J (p3.at_+p2)) (gd (mV 40 (List.length p3.out) (List.length [(aY.mk p0 p1 p3.at_ (p3.at_+p2))])) (gd (J (p3.at_+p2)) (br (p0==6) (.ok ((bN.mk p3.text (p3.at_+p2) (p3.out++[(aY.mk p0 p1 p3.at_ (p3.at_+p2))]) p3.line))) (jn (λ(v9:Bool)=>br v9 (.ok ((bN.mk p3.text (p3.at_+p2) (p3.out++[(aY.mk p0 p1 p3.at_ (p3.at_+p2))]) true))) (br (p0==5) (gd (sX ([32]:ByS) p1) (gd (sX (([32]:ByS)++p1) ([32]:ByS)) (U.bind (strings_Contains ([32,95,124,95,32,95,32,46,46,46,32,41,32,93,32,125,32,63,32]:ByS) ((([32]:ByS)++p1)++([32]:ByS))) λy16=>.ok ((bN.mk p3.text (p3.at_+p2) (p3.out++[(aY.mk p0 p1 p3.at_ (p3.at_+p2))]) y16))))) (.ok ((bN.mk p3.text (p3.at_+p2) (p3.out++[(aY.mk p0 p1 p3.at_ (p3.at_+p2))]) false))))) λj10=>br (p0==1) (j10 ((p0==1))) (br (p0==2) (j10 ((p0==2))) (br (p0==3) (j10 ((p0==3))) (j10 ((p0==4)))))))))
instance px (p0:Int) (p1:ByS) (p2:Int) (p3:bN):CT Tryz.prog 53 [.ptr 0 0,I p0,aZ p1,I p2] [.box [aZ p3.text,I p3.at_,.arr 1 (List.length p3.out),Bo p3.line],.app 49 4 (aY.Cs p3.out)] (du p0 p1 p2 p3) (λ_=>.gZ []) (λx=>[.box [aZ x.text,I x.at_,.arr 1 (List.length x.out),Bo x.line],.app 49 4 (aY.Cs x.out)]):=by
 refine zC Tryz.func53 O λr hp h hr E hE=>ag λ_ hK1=>oO [] ?_;refine cE [0,1,2,3,4,5,6,7,8,9,10,11,12,13,14,15,16,17,18,19,20,21,22] O (by kernel_rfl) (zD O (aK O) O (zD O (aK O) O (zD O (eH O) O (zD O (fa O) O (zD O (dZ O O O) O (zD O (aK O) O (zD O (aK O) O (zD O (aK O) O (zD O (eH O) O (zD O (fa O) O (zD O (dZ O O O) O (zD O (aK O) O (zD O (eH O) O (zD O (fa O) O (zD O (dZ O O O) O (zD O (aK O) O (zd hr h λhg2 h=>zD O (ti O O hg2) O (zD O (cb O O O) O ?_))))))))))))))))));refine nh [(aY.mk p0 p1 p3.at_ (p3.at_+p2))] aY.bq O (da O) O2 O2 ?_;refine zd hr h λhg3 h=>AO 127 O (da O) ⟨kI.h,fg.h,aY.bq,aY.cw,aY.kK,hE _ O,O,O,(.inl O),O3,hg3⟩ O O ⟨aQ O,?_⟩;refine zD O (eH O) O (zD O (fa O) O (cg O O8 O (λe22 he=>⟨aQ O,?_⟩)));subst he;refine iA (lk 127 1 [(0,.ptr 0 0),(1,I p0),(2,aZ p1),(3,I p2)] [(0,.box [aZ p3.text,I p3.at_,.arr 1 (List.length (p3.out++[(aY.mk p0 p1 p3.at_ (p3.at_+p2))])),Bo p3.line])] (hE _ O) O O O2 ⟨⟨_,O,O,O⟩,⟨_,O,O,O⟩,⟨_,O,O,O⟩,⟨_,O,O,O⟩,trivial⟩ ⟨⟨_,O,O,O,O,O⟩,trivial⟩) ?_;refine hK1 _ _ (ag λ_ hK4=>ab (zm O (zn O (zf O (zl O (zm O (zd hr h λhg5 h=>zo hg5 O (zn O (zf O (zs O (zQ hK4 (ag λ_ hK6=>ab (zm O (zQ hK6 (ba (ag λ_ hK7=>ab (zc O (za O (zQ hK7 (zB O h (λ_ h=>?_) λ_ h=>?_))))))))))))))))))))
 ·exact aD (zY .nil h O)
 refine zM h (λ(v9:Bool)=>[(0,.ptr 0 0),(1,I p0),(2,aZ p1),(3,I p2),(52,Bo v9)]) (λ(v9:Bool)=>[(0,.box [aZ p3.text,I (p3.at_+p2),.arr 1 (List.length (p3.out++[(aY.mk p0 p1 p3.at_ (p3.at_+p2))])),Bo p3.line]),(1,.app 49 4 (aY.Cs (p3.out++[(aY.mk p0 p1 p3.at_ (p3.at_+p2))])))]) (λv9 h=>?_) λ_ _ hK11 h=>?_
 ·refine zB O h (λ_ h=>?_) λ_ h=>?_
  ·exact ab (zm O (zn O (zf O (zs O (aH (zY .nil h O))))))
  refine ab (zm O (zm O (zc O (zm O (zb (p0==5) (λhb13=>?_) λhb13=>?_)))))
  ·exact z1 hb13 h λh=>zG hb13 O (aK O) (zd hr h λhg14 h=>zG hb13 O (sa O O hg14) (zd hr h λhg15 h=>zG hb13 O (sa O O hg15) (zK hb13 O hp hr h [] Tryz.call94 (uG ([32,95,124,95,32,95,32,46,46,46,32,41,32,93,32,125,32,63,32]:ByS) ((([32]:ByS)++p1)++([32]:ByS))) O (λ_=>rfl) λy16 h=>zy hb13 O (zn O (zf O (zs O (aH (zY .nil h O))))))))
  exact z2 hb13 h λh=>zH 4 O hb13 (zw hb13 O (zn O (zf O (zs O (aH (zY .nil h O))))))
 refine ag λ_ hK17=>ab (zc O (za O (zQ hK17 (zB O h (λ_ h=>?_) λ_ h=>?_))))
 ·exact aD (hK11 _ _ _ h O)
 refine ag λ_ hK19=>ab (zc O (za O (zQ hK19 (zB O h (λ_ h=>?_) λ_ h=>?_))))
 ·exact aD (hK11 _ _ _ h O)
 refine ag λ_ hK21=>ab (zc O (za O (zQ hK21 (zB O h (λ_ h=>?_) λ_ h=>?_))))
 ·exact aD (hK11 _ _ _ h O)
 exact ab (zc O (za O (aH (hK11 _ _ _ h O))))
def stringslite_HasPrefix (p0:ByS) (p1:ByS):U (Bool):=
 br (decide ((List.length p0:Int)>=(List.length p1:Int))) (gd ((0:Int)<=(List.length p1:Int)/\(List.length p1:Int)<=(List.length p0:Int)) (.ok (((ob p0 (List.length p1:Int))==p1)))) (.ok (false))
instance Ak (p0:ByS) (p1:ByS):CT Tryz.prog 137 [aZ p0,aZ p1] [] (stringslite_HasPrefix p0 p1) (λx=>Bo x) (λ_=>[]):=by unfold stringslite_HasPrefix;exact zz Tryz.func137
def strings_HasPrefix (p0:ByS) (p1:ByS):U (Bool):=
 U.bind (stringslite_HasPrefix p0 p1) λy3=>.ok (y3)
instance ud (p0:ByS) (p1:ByS):CT Tryz.prog 95 [aZ p0,aZ p1] [] (strings_HasPrefix p0 p1) (λx=>Bo x) (λ_=>[]):=by unfold strings_HasPrefix;exact zz Tryz.func95
def jk (p0:Int):U (Bool):=
 br (decide (p0>=48)) (.ok ((decide (p0<=57)))) (.ok (false))
instance H3 (p0:Int):CT Tryz.prog 98 [Sc (.int .u8 p0)] [] (jk p0) (λx=>Bo x) (λ_=>[]):=by unfold jk;exact zz Tryz.func98
def nR (n:Nat) (p0:ByS):U (Int):=
 lg 2 (λ(v3:Int)=>[(0,aZ p0),(3,I v3)]) (λ(v3:Int)=>[]) (λ(v3:Int)=>lg 1 (λ(v7:Bool)=>[(0,aZ p0),(3,I v3),(33,Bo v7)]) (λ(v7:Bool)=>[]) (λ(v7:Bool)=>br v7 (gd (J (v3+1)) (gP (λ(v13:Int)=>[(0,aZ p0),(3,I v13)]) (λ(v13:Int)=>[]) (λnext14 (v13:Int)=>br (decide (v13<(List.length p0:Int))) (el p0 v13 λb19=>U.bind (jk (b19.toNat:Int)) λy23=>br y23 (gd (J (v13+1)) (next14 (v13+1))) (.ok (v13))) (.ok (v13))) n (v3+1))) (.ok (v3))) λj8=>gd (J (v3+1)) (br (decide ((v3+1)<(List.length p0:Int))) (el p0 v3 λb31=>br ((b31.toNat:Int)==46) (gd (J (v3+1)) (el p0 (v3+1) λb37=>U.bind (jk (b37.toNat:Int)) λy41=>j8 (y41))) (j8 (false))) (j8 (false)))) λj4=>gP (λ(v42:Int)=>[(0,aZ p0),(3,I v42)]) (λ(v42:Int)=>[]) (λnext43 (v42:Int)=>br (decide (v42<(List.length p0:Int))) (el p0 v42 λb48=>U.bind (jk (b48.toNat:Int)) λy52=>br y52 (gd (J (v42+1)) (next43 (v42+1))) (j4 (v42))) (j4 (v42))) n (0)
instance GR (n:Nat) (p0:ByS):CT Tryz.prog 99 [aZ p0] [] (nR n p0) (λx=>I x) (λ_=>[]):=by unfold nR;exact zz Tryz.func99
def mb (n:Nat) (p0:ByS):U (ByS):=
 gP (λ(v4:Int)=>[(0,aZ p0),(7,.pv (.sl (List.length [([95,124,95,32,46,46,46]:ByS),([61,61,32,33,61,32,60,61,32,62,61,32,61,126,32,33,126,32,38,38,32,124,124]:ByS),([95,32,40,32,41,32,91,32,93,32,123,32,125,32,58,32,44,32,46,32,63,32,33,32,42,32,38,32,124,32,61,32,60,32,62,32,43,32,45,32,47,32,37]:ByS)]) (ck [([95,124,95,32,46,46,46]:ByS),([61,61,32,33,61,32,60,61,32,62,61,32,61,126,32,33,126,32,38,38,32,124,124]:ByS),([95,32,40,32,41,32,91,32,93,32,123,32,125,32,58,32,44,32,46,32,63,32,33,32,42,32,38,32,124,32,61,32,60,32,62,32,43,32,45,32,47,32,37]:ByS)]))),(8,I (List.length [([95,124,95,32,46,46,46]:ByS),([61,61,32,33,61,32,60,61,32,62,61,32,61,126,32,33,126,32,38,38,32,124,124]:ByS),([95,32,40,32,41,32,91,32,93,32,123,32,125,32,58,32,44,32,46,32,63,32,33,32,42,32,38,32,124,32,61,32,60,32,62,32,43,32,45,32,47,32,37]:ByS)]:Int)),(9,I v4)]) (λ(v4:Int)=>[]) (λnext5 (v4:Int)=>br (decide (v4<(List.length [([95,124,95,32,46,46,46]:ByS),([61,61,32,33,61,32,60,61,32,62,61,32,61,126,32,33,126,32,38,38,32,124,124]:ByS),([95,32,40,32,41,32,91,32,93,32,123,32,125,32,58,32,44,32,46,32,63,32,33,32,42,32,38,32,124,32,61,32,60,32,62,32,43,32,45,32,47,32,37]:ByS)]:Int))) (el [([95,124,95,32,46,46,46]:ByS),([61,61,32,33,61,32,60,61,32,62,61,32,61,126,32,33,126,32,38,38,32,124,124]:ByS),([95,32,40,32,41,32,91,32,93,32,123,32,125,32,58,32,44,32,46,32,63,32,33,32,42,32,38,32,124,32,61,32,60,32,62,32,43,32,45,32,47,32,37]:ByS)] v4 λwD=>U.bind (strings_Split wD ([32]:ByS)) λy17=>gP (λ(v18:Int)=>[(0,aZ p0),(7,.pv (.sl (List.length [([95,124,95,32,46,46,46]:ByS),([61,61,32,33,61,32,60,61,32,62,61,32,61,126,32,33,126,32,38,38,32,124,124]:ByS),([95,32,40,32,41,32,91,32,93,32,123,32,125,32,58,32,44,32,46,32,63,32,33,32,42,32,38,32,124,32,61,32,60,32,62,32,43,32,45,32,47,32,37]:ByS)]) (ck [([95,124,95,32,46,46,46]:ByS),([61,61,32,33,61,32,60,61,32,62,61,32,61,126,32,33,126,32,38,38,32,124,124]:ByS),([95,32,40,32,41,32,91,32,93,32,123,32,125,32,58,32,44,32,46,32,63,32,33,32,42,32,38,32,124,32,61,32,60,32,62,32,43,32,45,32,47,32,37]:ByS)]))),(8,I (List.length [([95,124,95,32,46,46,46]:ByS),([61,61,32,33,61,32,60,61,32,62,61,32,61,126,32,33,126,32,38,38,32,124,124]:ByS),([95,32,40,32,41,32,91,32,93,32,123,32,125,32,58,32,44,32,46,32,63,32,33,32,42,32,38,32,124,32,61,32,60,32,62,32,43,32,45,32,47,32,37]:ByS)]:Int)),(9,I v4),(14,.pv (.sl (List.length y17) (ck y17))),(15,I (List.length y17:Int)),(16,I v18)]) (λ(v18:Int)=>[]) (λnext19 (v18:Int)=>br (decide (v18<(List.length y17:Int))) (el y17 v18 λx26=>U.bind (strings_HasPrefix p0 x26) λy31=>br y31 (.ok (x26)) (gd (J (v18+1)) (next19 (v18+1)))) (gd (J (v4+1)) (next5 (v4+1)))) n (0)) (.ok (([]:ByS)))) n (0)
instance E7 (n:Nat) (p0:ByS):CT Tryz.prog 102 [aZ p0] [] (mb n p0) (λx=>aZ x) (λ_=>[]):=by unfold mb;exact zz Tryz.func102
def ew (p0:Int):U (Int):=
 .ok (sJ .u8 p0 32)
instance eh (p0:Int):CT Tryz.prog 250 [Sc (.int .u8 p0)] [] (ew p0) (λx=>Sc (.int .u8 x)) (λ_=>[]):=by unfold ew;exact zz Tryz.func250
end Go.Abs
end
section
namespace Go.Abs
open Go.Proofs U
set_option maxRecDepth 100000
set_option maxHeartbeats 2000000
def jl (n:Nat) (p0:ByS):U (Bool):=
 jn (λ(v4:ByS)=>jn (λ(v8:Int×Int×Bool)=>iter (λnext13 (v12:Int×Int)=>br (decide (v12.2<(List.length v4:Int))) (jn (λ(v18:Int)=>gd (J (v12.2+1)) (next13 (v18,v12.2+1))) λj19=>jn (λ(v22:Unit)=>el v4 v12.2 λb27=>br ((b27.toNat:Int)==95) (br (v12.1 !=48) (.ok (false)) (j19 (95))) (br (v12.1==95) (.ok (false)) (j19 (33)))) λj23=>el v4 v12.2 λb42=>br (decide (48<=(b42.toNat:Int))) (el v4 v12.2 λb47=>br (decide ((b47.toNat:Int)<=57)) (j19 (48)) (br v8.2.2 (el v4 v12.2 λb54=>U.bind (ew (b54.toNat:Int)) λy58=>br (decide (97<=y58)) (el v4 v12.2 λb60=>U.bind (ew (b60.toNat:Int)) λy64=>br (decide (y64<=102)) (j19 (48)) (j23 ())) (j23 ())) (j23 ()))) (br v8.2.2 (el v4 v12.2 λb68=>U.bind (ew (b68.toNat:Int)) λy72=>br (decide (97<=y72)) (el v4 v12.2 λb74=>U.bind (ew (b74.toNat:Int)) λy78=>br (decide (y78<=102)) (j19 (48)) (j23 ())) (j23 ())) (j23 ()))) (.ok ((v12.1 !=95)))) n (v8.1,v8.2.1)) λj9=>jn (λ(v82:Bool)=>br v82 (el v4 1 λb88=>U.bind (ew (b88.toNat:Int)) λy92=>j9 (48,2,(y92==120))) (j9 (94,0,false))) λj83=>br (decide ((List.length v4:Int)>=2)) (el v4 0 λb94=>br ((b94.toNat:Int)==48) (el v4 1 λb99=>U.bind (ew (b99.toNat:Int)) λy103=>br (y103==98) (j83 (true)) (el v4 1 λb105=>U.bind (ew (b105.toNat:Int)) λy109=>br (y109==111) (j83 (true)) (el v4 1 λb111=>U.bind (ew (b111.toNat:Int)) λy115=>j83 ((y115==120))))) (j83 (false))) (j83 (false))) λj5=>br (decide ((List.length p0:Int)>=1)) (el p0 0 λb118=>br ((b118.toNat:Int)==45) (gd ((0:Int)<=1/\1<=(List.length p0:Int)) (j5 (gB p0 1))) (el p0 0 λb124=>br ((b124.toNat:Int)==43) (gd ((0:Int)<=1/\1<=(List.length p0:Int)) (j5 (gB p0 1))) (j5 (p0)))) (j5 (p0))
instance sj (n:Nat) (p0:ByS):CT Tryz.prog 251 [aZ p0] [] (jl n p0) (λx=>Bo x) (λ_=>[]):=by
 refine zC Tryz.func251 O λr hp h hr E hE=>ag λ_ hK1=>ab (za O (zQ hK1 (ag λ_ hK2=>ab (za O (zQ hK2 (ag λ_ hK3=>ab (za O (zQ hK3 (zM h (λ(v4:ByS)=>[(0,aZ v4),(3,Sc (.int .i32 94)),(4,I 0)]) (λ(v4:ByS)=>[]) (λv4 h=>?_) λ_ _ hK6 h=>?_)))))))))
 ·refine ag λ_ hK7=>ab (za O (zQ hK7 (zM h (λ(v8:Int×Int×Bool)=>[(0,aZ v4),(3,Sc (.int .i32 v8.1)),(4,I v8.2.1),(5,Bo v8.2.2)]) (λ(v8:Int×Int×Bool)=>[]) (λv8 h=>?_) λ_ _ hK10 h=>?_)))
  ·refine ag λ_ hK11=>ba (zL hr h (λ(v12:Int×Int)=>[(0,aZ v4),(3,Sc (.int .i32 v12.1)),(4,I v12.2),(5,Bo v8.2.2)]) (λ(v12:Int×Int)=>[]) O λ_ v12 _ hK14 h=>ag λ_ hK15=>ag λ_ hK16=>ab (zm O (zm O (aB (gj O) O (zc O (zQ hK16 (zB O h (λ_ h=>?_) λ_ h=>?_)))))))
   ·refine aD (hK15 _ _ (zM h (λ(v18:Int)=>[(0,aZ v4),(3,Sc (.int .i32 v18)),(4,I v12.2),(5,Bo v8.2.2)]) (λ(v18:Int)=>[]) (λv18 h=>?_) λ_ _ hK20 h=>?_))
    ·exact ab (zm O (zd hr h λhg21 h=>zo hg21 O (za O (aH (hK14 _ _ _ h O)))))
    refine ba (zM h (λ(v22:Unit)=>[(0,aZ v4),(3,Sc (.int .i32 v12.1)),(4,I v12.2),(5,Bo v8.2.2)]) (λ(v22:Unit)=>[]) (λv22 h=>?_) λ_ _ hK24 h=>?_)
    ·refine ag λ_ hK25=>ag λ_ hK26=>ab (zm O (zm O (ze hr h λb27 h28 h29 h30 h=>aB (gi O O h28 h30) O (zc O (zQ hK26 (zB O h (λ_ h=>?_) λ_ h=>?_))))))
     ·refine ag λ_ hK32=>ag λ_ hK33=>ab (zm O (zc O (zQ hK33 (zB O h (λ_ h=>?_) λ_ h=>?_))))
      ·exact ag λ_ hK35=>ab (za O (zQ hK35 (aN (Ek O h O))))
      exact aD (hK32 _ _ (ag λ_ hK36=>ab (za O (zQ hK36 (cx (hK20 _ _ _ h O))))))
     refine aD (hK25 _ _ (ag λ_ hK37=>ag λ_ hK38=>ab (zm O (zc O (zQ hK38 (zB O h (λ_ h=>?_) λ_ h=>?_))))))
     ·exact ag λ_ hK40=>ab (za O (zQ hK40 (aN (Ek O h O))))
     exact aD (hK37 _ _ (ab (za O (aH (hK20 _ _ _ h O)))))
    refine ag λ_ hK41=>ab (zm O (zm O (ze hr h λb42 h43 h44 h45 h=>aB (gi O O h43 h45) O (zc O (zm O (zb (decide (48<=(b42.toNat:Int))) (λhb46=>?_) λhb46=>?_))))))
    ·refine z1 hb46 h λh=>zG hb46 O (aK O) (zG hb46 O (aK O) (ze hr h λb47 h48 h49 h50 h=>zG hb46 O (gi O O h48 h50) (zG hb46 O (dT O O O) (zy hb46 O (zm O (zb (decide ((b47.toNat:Int)<=57)) (λhb51=>?_) λhb51=>?_))))))
     ·refine z1 hb51 h λh=>zH 2 O hb51 (zu O (zu O (zu O (zu O (zu O (zH 2 O hb51 (zu O (zu O (zu O (zu O (zu O (zg hb51 O (zy hb51 O (zQ hK41 (iz O (λhc=>?_) (λhc=>?_))))))))))))))))
      ·exact ag λ_ hK52=>ab (za O (zQ hK52 (cx (hK20 _ _ _ h O))))
      exact absurd (hc) (by simp)
     refine z2 hb51 h λh=>zG hb51 O (aK O) (zG hb51 O (aK O) (zb v8.2.2 (λhb53=>?_) λhb53=>?_))
     ·refine z1 hb53 h λh=>zG hb53 O (aK O) (zG hb53 O (aK O) (ze hr h λb54 h55 h56 h57 h=>zG hb53 O (gi O O h55 h57) (zK hb53 O hp hr h [] Tryz.call250 (eh (b54.toNat:Int)) O (λ_=>rfl) λy58 h=>zG hb53 O (dT O O O) (zG hb51 O (iN hb53 O O) (zG hb51 O (aK O) (zb (decide (97<=y58)) (λhb59=>?_) λhb59=>?_))))))
      ·refine z1 hb59 h λh=>zG hb59 O (aK O) (zG hb59 O (aK O) (ze hr h λb60 h61 h62 h63 h=>zG hb59 O (gi O O h61 h63) (zK hb59 O hp hr h [] Tryz.call250 (eh (b60.toNat:Int)) O (λ_=>rfl) λy64 h=>zG hb59 O (dT O O O) (zG hb51 O (iN hb59 O O) (zw hb51 O (zQ hK41 (zB O h (λ_ h=>?_) λ_ h=>?_)))))))
       ·exact ag λ_ hK66=>ab (za O (zQ hK66 (cx (hK20 _ _ _ h O))))
       exact aD (hK24 _ _ _ h O)
      refine z2 hb59 h λh=>zH 5 O hb59 (zG hb51 O (ja hb59 O O) (zw hb51 O (zQ hK41 (iz O (λhc=>?_) (λhc=>?_)))))
      ·exact absurd (hc) (by simp)
      exact aD (hK24 _ _ _ h O)
     refine z2 hb53 h λh=>zH 5 O hb53 (zG hb51 O (ja hb53 O O) (zG hb51 O (aK O) (zH 5 O O (zG hb51 O (jN O O) (zw hb51 O (zQ hK41 (iz O (λhc=>?_) (λhc=>?_))))))))
     ·exact absurd (hc) (by simp)
     exact aD (hK24 _ _ _ h O)
    refine z2 hb46 h λh=>zH 4 O hb46 (zw hb46 O (zm O (zG O O (aK O) (zG O O (aK O) (zb v8.2.2 (λhb67=>?_) λhb67=>?_)))))
    ·refine z1 hb67 h λh=>zG hb67 O (aK O) (zG hb67 O (aK O) (ze hr h λb68 h69 h70 h71 h=>zG hb67 O (gi O O h69 h71) (zK hb67 O hp hr h [] Tryz.call250 (eh (b68.toNat:Int)) O (λ_=>rfl) λy72 h=>zG hb67 O (dT O O O) (zG O O (iN hb67 O O) (zG O O (aK O) (zb (decide (97<=y72)) (λhb73=>?_) λhb73=>?_))))))
     ·refine z1 hb73 h λh=>zG hb73 O (aK O) (zG hb73 O (aK O) (ze hr h λb74 h75 h76 h77 h=>zG hb73 O (gi O O h75 h77) (zK hb73 O hp hr h [] Tryz.call250 (eh (b74.toNat:Int)) O (λ_=>rfl) λy78 h=>zG hb73 O (dT O O O) (zG O O (iN hb73 O O) (aB (jN O O) O (zQ hK41 (zB O h (λ_ h=>?_) λ_ h=>?_)))))))
      ·exact ag λ_ hK80=>ab (za O (zQ hK80 (cx (hK20 _ _ _ h O))))
      exact aD (hK24 _ _ _ h O)
     refine z2 hb73 h λh=>zH 5 O hb73 (zG O O (ja hb73 O O) (aB (jN O O) O (zQ hK41 (iz O (λhc=>?_) (λhc=>?_)))))
     ·exact absurd (hc) (by simp)
     exact aD (hK24 _ _ _ h O)
    refine z2 hb67 h λh=>zH 5 O hb67 (zG O O (ja hb67 O O) (zG O O (aK O) (zH 5 O O (zG O O (jN O O) (aB (jN O O) O (zQ hK41 (iz O (λhc=>?_) (λhc=>?_))))))))
    ·exact absurd (hc) (by simp)
    exact aD (hK24 _ _ _ h O)
   exact cx (hK11 _ _ (ag λ_ hK81=>ab (zm O (zc O (za O (zQ hK81 (aN (Ek O h O))))))))
  refine zM h (λ(v82:Bool)=>[(0,aZ v4),(3,Sc (.int .i32 94)),(4,I 0),(5,Bo false),(46,Bo v82)]) (λ(v82:Bool)=>[]) (λv82 h=>?_) λ_ _ hK84 h=>?_
  ·refine zB O h (λ_ h=>?_) λ_ h=>?_
   ·exact ag λ_ hK86=>ab (za O (zQ hK86 (ag λ_ hK87=>ab (za O (zQ hK87 (ab (zm O (ze hr h λb88 h89 h90 h91 h=>aB (gi O O h89 h91) O (zk hp hr h [] Tryz.call250 (eh (b88.toNat:Int)) O (λ_=>rfl) λy92 h=>zc O (za O (aH (hK10 _ _ _ h O))))))))))))
   exact aD (hK10 _ _ _ h O)
  refine ab (zm O (aB (gj O) O (zc O (zm O (zb (decide ((List.length v4:Int)>=2)) (λhb93=>?_) λhb93=>?_)))))
  ·refine z1 hb93 h λh=>zG hb93 O (aK O) (ze hr h λb94 h95 h96 h97 h=>zG hb93 O (gi O O h95 h97) (zG hb93 O (dT O O O) (zy hb93 O (zm O (zb ((b94.toNat:Int)==48) (λhb98=>?_) λhb98=>?_)))))
   ·refine z1 hb98 h λh=>zG hb98 O (aK O) (ze hr h λb99 h100 h101 h102 h=>zG hb98 O (gi O O h100 h102) (zK hb98 O hp hr h [] Tryz.call250 (eh (b99.toNat:Int)) O (λ_=>rfl) λy103 h=>zG hb98 O (dT O O O) (zG hb98 O (aK O) (zb (y103==98) (λhb104=>?_) λhb104=>?_))))
    ·exact z1 hb104 h λh=>zH 4 O hb104 (zG hb98 O (iN hb104 O O) (zG hb98 O (aK O) (zH 4 O O (zG hb98 O (tP O O) (zy hb98 O (aH (hK84 _ _ _ h O)))))))
    refine z2 hb104 h λh=>zG hb104 O (aK O) (ze hr h λb105 h106 h107 h108 h=>zG hb104 O (gi O O h106 h108) (zK hb104 O hp hr h [] Tryz.call250 (eh (b105.toNat:Int)) O (λ_=>rfl) λy109 h=>zG hb104 O (dT O O O) (zG hb98 O (ja hb104 O O) (zG hb98 O (aK O) (zb (y109==111) (λhb110=>?_) λhb110=>?_)))))
    ·exact z1 hb110 h λh=>zH 4 O hb110 (zG hb98 O (iN hb110 O O) (zy hb98 O (aH (hK84 _ _ _ h O))))
    exact z2 hb110 h λh=>zG hb110 O (aK O) (ze hr h λb111 h112 h113 h114 h=>zG hb110 O (gi O O h112 h114) (zK hb110 O hp hr h [] Tryz.call250 (eh (b111.toNat:Int)) O (λ_=>rfl) λy115 h=>zG hb110 O (dT O O O) (zG hb98 O (ja hb110 O O) (zy hb98 O (aH (hK84 _ _ _ h O))))))
   exact z2 hb98 h λh=>zH 5 O hb98 (zu O (zu O (zu O (zu O (zH 2 O hb98 (zu O (zu O (zu O (zu O (zg hb98 O (zw hb98 O (aH (hK84 _ _ _ h O)))))))))))))
  exact z2 hb93 h λh=>zH 3 O hb93 (zw hb93 O (zm O (zH 5 O O (zu O (zu O (zu O (zu O (zH 2 O O (zu O (zu O (zu O (zu O (zg O O (aB (jN O O) O (aH (hK84 _ _ _ h O))))))))))))))))
 refine ag λ_ hK116=>ab (zm O (aB (gj O) O (zc O (zm O (zb (decide ((List.length p0:Int)>=1)) (λhb117=>?_) λhb117=>?_)))))
 ·refine z1 hb117 h λh=>zG hb117 O (aK O) (ze hr h λb118 h119 h120 h121 h=>zG hb117 O (gi O O h119 h121) (zG hb117 O (dT O O O) (zG hb117 O (aK O) (zb ((b118.toNat:Int)==45) (λhb122=>?_) λhb122=>?_))))
  ·refine z1 hb122 h λh=>zH 3 O hb122 (zG hb117 O (iN hb122 O O) (zy hb117 O (zQ hK116 (iz O (λhc=>?_) (λhc=>?_)))))
   ·exact ab (zm O (zd hr h λhg123 h=>aB (mr O O hg123.1 hg123.2) O (za O (aH (hK6 _ _ _ h O)))))
   exact absurd (hc) (by simp)
  refine z2 hb122 h λh=>zG hb122 O (aK O) (ze hr h λb124 h125 h126 h127 h=>zG hb122 O (gi O O h125 h127) (zG hb122 O (dT O O O) (zG hb117 O (ja hb122 O O) (zy hb117 O (zQ hK116 (zB O h (λ_ h=>?_) λ_ h=>?_))))))
  ·exact ab (zm O (zd hr h λhg129 h=>aB (mr O O hg129.1 hg129.2) O (za O (aH (hK6 _ _ _ h O)))))
  exact aD (hK6 _ _ _ h O)
 refine z2 hb117 h λh=>zH 4 O hb117 (zu O (zu O (zu O (zg hb117 O (zw hb117 O (zQ hK116 (iz O (λhc=>?_) (λhc=>?_))))))))
 ·exact absurd (hc) (by simp)
 exact aD (hK6 _ _ _ h O)
def gb (n:Nat) (p0:ByS) (p1:Int) (p2:Int):U (Int×Int):=
 br (p0==([]:ByS)) (.ok (0,2)) (jn (λ(v8:ByS×Int)=>jn (λ(v11:Int)=>jn (λ(v15:Int)=>gd ((0:Int)<=(IntKind.wrap .u64 v11)) (iter (λnext25 (v24:Bool×Int×Int)=>br (decide (v24.2.2<(List.length (ofBytes v8.1):Int))) (el (ofBytes v8.1) v24.2.2 λx32=>jn (λ(v37:Int)=>br (decide (v37>=(IntKind.wrap .u8 v8.2))) (.ok (0,2)) (br (decide (v24.2.1>=v15)) (.ok (IntKind.wrap .u64 ((lS .u64 1 (IntKind.wrap .u64 v11)) - 1),1)) (br (decide ((IntKind.wrap .u64 ((IntKind.wrap .u64 (v24.2.1*(IntKind.wrap .u64 v8.2)))+(IntKind.wrap .u64 v37)))<(IntKind.wrap .u64 (v24.2.1*(IntKind.wrap .u64 v8.2))))) (.ok (IntKind.wrap .u64 ((lS .u64 1 (IntKind.wrap .u64 v11)) - 1),1)) (br (decide ((IntKind.wrap .u64 ((IntKind.wrap .u64 (v24.2.1*(IntKind.wrap .u64 v8.2)))+(IntKind.wrap .u64 v37)))>(IntKind.wrap .u64 ((lS .u64 1 (IntKind.wrap .u64 v11)) - 1)))) (.ok (IntKind.wrap .u64 ((lS .u64 1 (IntKind.wrap .u64 v11)) - 1),1)) (gd (J (v24.2.2+1)) (next25 (v24.1,IntKind.wrap .u64 ((IntKind.wrap .u64 (v24.2.1*(IntKind.wrap .u64 v8.2)))+(IntKind.wrap .u64 v37)),v24.2.2+1))))))) λj38=>jn (λ(v57:Bool)=>br v57 (gd (J (v24.2.2+1)) (next25 (true,v24.2.1,v24.2.2+1))) (jn (λ(v63:Bool)=>br v63 (j38 (IntKind.wrap .u8 (x32 - 48))) (U.bind (ew x32) λy68=>br (decide (97<=y68)) (U.bind (ew x32) λy70=>br (decide (y70<=122)) (U.bind (ew x32) λy72=>j38 (IntKind.wrap .u8 ((IntKind.wrap .u8 (y72 - 97))+10))) (.ok (0,2))) (.ok (0,2)))) λj64=>br (decide (48<=x32)) (j64 ((decide (x32<=57)))) (j64 (false)))) λj58=>br (x32==95) (j58 ((p1==0))) (j58 (false))) (br v24.1 (U.bind (jl n p0) λy80=>br (!y80) (.ok (0,2)) (.ok (v24.2.1,0))) (.ok (v24.2.1,0)))) n (false,0,0))) λj16=>br (v8.2==10) (j16 (1844674407370955162)) (br (v8.2==16) (j16 (1152921504606846976)) (gd (((IntKind.wrap .u64 v8.2):Int)≠0) (j16 (IntKind.wrap .u64 ((IntKind.wrap .u64 (Int.tdiv 18446744073709551615 (IntKind.wrap .u64 v8.2)))+1)))))) λj12=>br (p2==0) (j12 (64)) (br (decide (p2<0)) (.ok (0,4)) (br (decide (p2>64)) (.ok (0,4)) (j12 (p2))))) λj9=>jn (λ(v98:Bool)=>br v98 (j9 (p0,p1)) (br (p1==0) (el p0 0 λb106=>br ((b106.toNat:Int)==48) (jn (λ(v111:Bool)=>br v111 (gd ((0:Int)<=2/\2<=(List.length p0:Int)) (j9 (gB p0 2,2))) (jn (λ(v117:Bool)=>br v117 (gd ((0:Int)<=2/\2<=(List.length p0:Int)) (j9 (gB p0 2,8))) (br (decide ((List.length p0:Int)>=3)) (el p0 1 λb125=>U.bind (ew (b125.toNat:Int)) λy129=>br (y129==120) (gd ((0:Int)<=2/\2<=(List.length p0:Int)) (j9 (gB p0 2,16))) (gd ((0:Int)<=1/\1<=(List.length p0:Int)) (j9 (gB p0 1,8)))) (gd ((0:Int)<=1/\1<=(List.length p0:Int)) (j9 (gB p0 1,8))))) λj118=>br (decide ((List.length p0:Int)>=3)) (el p0 1 λb138=>U.bind (ew (b138.toNat:Int)) λy142=>j118 ((y142==111))) (j118 (false)))) λj112=>br (decide ((List.length p0:Int)>=3)) (el p0 1 λb144=>U.bind (ew (b144.toNat:Int)) λy148=>j112 ((y148==98))) (j112 (false))) (j9 (p0,10))) (.ok (0,3)))) λj99=>br (decide (2<=p1)) (j99 ((decide (p1<=36)))) (j99 (false)))
instance sk (n:Nat) (p0:ByS) (p1:Int) (p2:Int):CT Tryz.prog 228 [aZ p0,I p1,I p2] [] (gb n p0 p1 p2) (λx=>.gZ [Sc (.int .u64 x.1),Oi x.2]) (λ_=>[]):=by
 refine zC Tryz.func228 O λr hp h hr E hE=>ag λ_ hK1=>ab (za O (za O (zQ hK1 (ag λ_ hK2=>ag λ_ hK3=>ab (zm O (aB (qT O O) O (zQ hK3 (zB O h (λ_ h=>?_) λ_ h=>?_))))))))
 ·refine ag λ_ hK5=>ab (aB (pq O) O ?_);exact za O (za O (zQ hK5 (aN (zX (.cons (bT O) (.cons (bT O) .nil)) h O))))
 refine aD (hK2 _ _ (ag λ_ hK6=>ab (zm O (zc O (za O (zQ hK6 (ag λ_ hK7=>ab (zm O (za O (zQ hK7 (zM h (λ(v8:ByS×Int)=>[(0,aZ v8.1),(1,I v8.2),(2,I p2),(8,Bo (p1==0)),(9,aZ p0)]) (λ(v8:ByS×Int)=>[]) (λv8 h=>?_) λ_ _ hK10 h=>?_)))))))))))
 ·refine zM h (λ(v11:Int)=>[(0,aZ v8.1),(1,I v8.2),(2,I v11),(8,Bo (p1==0)),(9,aZ p0)]) (λ(v11:Int)=>[]) (λv11 h=>?_) λ_ _ hK13 h=>?_
  ·refine ag λ_ hK14=>ab (za O (zQ hK14 (zM h (λ(v15:Int)=>[(0,aZ v8.1),(1,I v8.2),(2,I v11),(8,Bo (p1==0)),(9,aZ p0),(10,Sc (.int .u64 v15))]) (λ(v15:Int)=>[]) (λv15 h=>?_) λ_ _ hK17 h=>?_)))
   ·refine ag λ_ hK18=>ab (zm O (aB (lN O) O (zd hr h λhg19 h=>aB (tv O O hg19) O (aB (tt O O) O (za O (zQ hK18 (ag λ_ hK20=>ab (za O (zQ hK20 (ag λ_ hK21=>ab (za O (zQ hK21 (ag λ_ hK22=>ag λ_ hK23=>ab (zm O (KS (Cs:=uF) O (λ_=>rfl) O ?_)))))))))))))));refine aB (ko O) O (zm O (zQ hK23 (ba (zL hr h (λ(v24:Bool×Int×Int)=>[(0,aZ v8.1),(1,I v8.2),(2,I v11),(8,Bo (p1==0)),(9,aZ p0),(10,Sc (.int .u64 v15)),(11,Sc (.int .u64 (IntKind.wrap .u64 ((lS .u64 1 (IntKind.wrap .u64 v11)) - 1)))),(12,Bo v24.1),(13,Sc (.int .u64 v24.2.1)),(99,.pv (.sl (List.length (ofBytes v8.1)) (uF (ofBytes v8.1)))),(100,I (List.length (ofBytes v8.1):Int)),(101,I v24.2.2)]) (λ(v24:Bool×Int×Int)=>[]) O λ_ v24 _ hK26 h=>ag λ_ hK27=>ab (zc O (zQ hK27 (ag λ_ hK28=>zB O h (λ_ h=>?_) λ_ h=>?_)))))))
    ·refine aD (hK28 _ _ (ag λ_ hK30=>ba (ag λ_ hK31=>ab (ze hr h λx32 h33 h34 h35 h=>aB (rj mz pM h33 h34 h35 O O O) O (aB (k1 O O) O (za O (zQ hK31 (ag λ_ hK36=>ab (za O (zQ hK36 (zM h (λ(v37:Int)=>[(0,aZ v8.1),(1,I v8.2),(2,I v11),(8,Bo (p1==0)),(9,aZ p0),(10,Sc (.int .u64 v15)),(11,Sc (.int .u64 (IntKind.wrap .u64 ((lS .u64 1 (IntKind.wrap .u64 v11)) - 1)))),(12,Bo v24.1),(13,Sc (.int .u64 v24.2.1)),(16,Sc (.int .u8 v37)),(99,.pv (.sl (List.length (ofBytes v8.1)) (uF (ofBytes v8.1)))),(100,I (List.length (ofBytes v8.1):Int)),(101,I v24.2.2)]) (λ(v37:Int)=>[]) (λv37 h=>?_) λ_ _ hK39 h=>?_)))))))))))
     ·refine ag λ_ hK40=>ag λ_ hK41=>ab (zm O (zm O (aB (lN O) O (zc O (zQ hK41 (zB O h (λ_ h=>?_) λ_ h=>?_))))))
      ·refine ag λ_ hK43=>ab (aB (pq O) O ?_);exact za O (za O (zQ hK43 (aN (zX (.cons (bT O) (.cons (bT O) .nil)) h O))))
      refine aD (hK40 _ _ (ag λ_ hK44=>ag λ_ hK45=>ab (zm O (zm O (zc O (zQ hK45 (zB O h (λ_ h=>?_) λ_ h=>?_)))))))
      ·refine ag λ_ hK47=>ab (zm O (aB (pq O) O ?_));exact za O (za O (zQ hK47 (aN (zX (.cons (bT O) (.cons (bT O) .nil)) h O))))
      refine aD (hK44 _ _ (ag λ_ hK48=>ab (zm O (zm O (aB (lN O) O (aB (vR O O) O (za O (zQ hK48 (ag λ_ hK49=>ab (zm O (zm O (aB (lN O) O (aB (tq O O) O (za O (zQ hK49 (ag λ_ hK50=>ag λ_ hK51=>ab (zm O (zm O (zc O (zm O ?_))))))))))))))))))));refine zb (decide ((IntKind.wrap .u64 ((IntKind.wrap .u64 (v24.2.1*(IntKind.wrap .u64 v8.2)))+(IntKind.wrap .u64 v37)))<(IntKind.wrap .u64 (v24.2.1*(IntKind.wrap .u64 v8.2))))) (λhb52=>?_) λhb52=>?_
      ·refine z1 hb52 h λh=>zH 3 O hb52 (zy hb52 O (zQ hK51 (iz O (λhc=>?_) (λhc=>?_))))
       ·refine ag λ_ hK53=>ab (zm O (aB (pq O) O ?_));exact za O (za O (zQ hK53 (aN (zX (.cons (bT O) (.cons (bT O) .nil)) h O))))
       exact absurd (hc) (by simp)
      refine z2 hb52 h λh=>zG hb52 O (aK O) (zG hb52 O (aK O) (zG hb52 O (dT O O O) (zw hb52 O (zQ hK51 (zB O h (λ_ h=>?_) λ_ h=>?_)))))
      ·refine ag λ_ hK55=>ab (zm O (aB (pq O) O ?_));exact za O (za O (zQ hK55 (aN (zX (.cons (bT O) (.cons (bT O) .nil)) h O))))
      exact aD (hK50 _ _ (ab (zm O (za O (zQ hK30 (ab (zd hr h λhg56 h=>zo hg56 O (zm O (aH (hK26 _ _ _ h O))))))))))
     refine ba (zM h (λ(v57:Bool)=>[(0,aZ v8.1),(1,I v8.2),(2,I v11),(8,Bo (p1==0)),(9,aZ p0),(10,Sc (.int .u64 v15)),(11,Sc (.int .u64 (IntKind.wrap .u64 ((lS .u64 1 (IntKind.wrap .u64 v11)) - 1)))),(12,Bo v24.1),(13,Sc (.int .u64 v24.2.1)),(15,Sc (.int .u8 x32)),(99,.pv (.sl (List.length (ofBytes v8.1)) (uF (ofBytes v8.1)))),(100,I (List.length (ofBytes v8.1):Int)),(101,I v24.2.2),(106,Bo v57)]) (λ(v57:Bool)=>[]) (λv57 h=>?_) λ_ _ hK59 h=>?_)
     ·refine zB O h (λ_ h=>?_) λ_ h=>?_
      ·exact ag λ_ hK61=>ab (za O (zQ hK61 (cx (hK30 _ _ (ab (zd hr h λhg62 h=>zo hg62 O (zm O (aH (hK26 _ _ _ h O)))))))))
      refine zM h (λ(v63:Bool)=>[(0,aZ v8.1),(1,I v8.2),(2,I v11),(8,Bo (p1==0)),(9,aZ p0),(10,Sc (.int .u64 v15)),(11,Sc (.int .u64 (IntKind.wrap .u64 ((lS .u64 1 (IntKind.wrap .u64 v11)) - 1)))),(12,Bo v24.1),(13,Sc (.int .u64 v24.2.1)),(15,Sc (.int .u8 x32)),(99,.pv (.sl (List.length (ofBytes v8.1)) (uF (ofBytes v8.1)))),(100,I (List.length (ofBytes v8.1):Int)),(101,I v24.2.2),(112,Bo v63)]) (λ(v63:Bool)=>[]) (λv63 h=>?_) λ_ _ hK65 h=>?_
      ·refine zB O h (λ_ h=>?_) λ_ h=>?_
       ·exact ab (zm O (aB (tt O O) O (za O (aH (hK39 _ _ _ h O)))))
       refine ag λ_ hK67=>ab (zm O (zk hp hr h [] Tryz.call250 (eh x32) O (λ_=>rfl) λy68 h=>zc O (zm O (zb (decide (97<=y68)) (λhb69=>?_) λhb69=>?_))))
       ·refine z1 hb69 h λh=>zG hb69 O (aK O) (zK hb69 O hp hr h [] Tryz.call250 (eh x32) O (λ_=>rfl) λy70 h=>zG hb69 O (dT O O O) (zy hb69 O (za O (zQ hK67 (zB O h (λ_ h=>?_) λ_ h=>?_)))))
        ·exact ab (zm O (zk hp hr h [] Tryz.call250 (eh x32) O (λ_=>rfl) λy72 h=>aB (tt O O) O (aB (tq O O) O (za O (aH (hK39 _ _ _ h O))))))
        refine ag λ_ hK73=>ab (aB (pq O) O ?_);exact za O (za O (zQ hK73 (aN (zX (.cons (bT O) (.cons (bT O) .nil)) h O))))
       refine z2 hb69 h λh=>zH 3 O hb69 (zw hb69 O (za O (zQ hK67 (iz O (λhc=>?_) (λhc=>?_)))))
       ·exact absurd (hc) (by simp)
       refine ag λ_ hK74=>ab (aB (pq O) O ?_);exact za O (za O (zQ hK74 (aN (zX (.cons (bT O) (.cons (bT O) .nil)) h O))))
      refine ab (zm O (zc O (zm O (zb (decide (48<=x32)) (λhb75=>?_) λhb75=>?_))))
      ·exact z1 hb75 h λh=>zG hb75 O (aK O) (zG hb75 O (dT O O O) (zy hb75 O (za O (aH (hK65 _ _ _ h O)))))
      exact z2 hb75 h λh=>zH 2 O hb75 (zw hb75 O (za O (aH (hK65 _ _ _ h O))))
     refine ab (zm O (zc O (zm O (zb (x32==95) (λhb76=>?_) λhb76=>?_))))
     ·exact z1 hb76 h λh=>zG hb76 O (aK O) (zy hb76 O (za O (aH (hK59 _ _ _ h O))))
     exact z2 hb76 h λh=>zg hb76 O (zw hb76 O (za O (aH (hK59 _ _ _ h O))))
    refine cx (hK22 _ _ (ag λ_ hK77=>ag λ_ hK78=>ab (zm O (zm O (zb v24.1 (λhb79=>?_) λhb79=>?_)))))
    ·refine z1 hb79 h λh=>zG hb79 O (aK O) (zK hb79 O hp hr h [] Tryz.call251 (sj n p0) O (λ_=>rfl) λy80 h=>zG hb79 O (iX O) (zy hb79 O (zQ hK78 (zB O h (λ_ h=>?_) λ_ h=>?_))))
     ·refine ag λ_ hK82=>ab (aB (pq O) O ?_);exact za O (za O (zQ hK82 (aN (zX (.cons (bT O) (.cons (bT O) .nil)) h O))))
     exact aD (hK77 _ _ (ag λ_ hK83=>ab (zm O (za O (za O (zQ hK83 (aN (zX (.cons (bT O) (.cons (bT O) .nil)) h O))))))))
    refine z2 hb79 h λh=>zH 3 O hb79 (zw hb79 O (zQ hK78 (iz O (λhc=>?_) (λhc=>?_))))
    ·exact absurd (hc) (by simp)
    exact aD (hK77 _ _ (ag λ_ hK84=>ab (zm O (za O (za O (zQ hK84 (aN (zX (.cons (bT O) (.cons (bT O) .nil)) h O))))))))
   refine ag λ_ hK85=>ab (zm O (zQ hK85 (ba (ag λ_ hK86=>ab (zc O (za O (zQ hK86 (zB O h (λ_ h=>?_) λ_ h=>?_))))))))
   ·exact ab (za O (aH (hK17 _ _ _ h O)))
   refine ag λ_ hK88=>ab (zc O (za O (zQ hK88 (zB O h (λ_ h=>?_) λ_ h=>?_))))
   ·exact ab (za O (aH (hK17 _ _ _ h O)))
   exact ab (zm O (aB (lN O) O (zd hr h λhg90 h=>aB (vT O O hg90) O (aB (tq O O) O (za O (aH (hK17 _ _ _ h O)))))))
  refine ag λ_ hK91=>ab (zm O (zc O (zQ hK91 (zB O h (λ_ h=>?_) λ_ h=>?_))))
  ·exact ab (za O (aH (hK13 _ _ _ h O)))
  refine ag λ_ hK93=>ab (zm O (zc O (zm O (zb (decide (p2<0)) (λhb94=>?_) λhb94=>?_))))
  ·refine z1 hb94 h λh=>zH 2 O hb94 (zy hb94 O (zQ hK93 (iz O (λhc=>?_) (λhc=>?_))))
   ·refine ag λ_ hK95=>ab (aB (pq O) O ?_);exact za O (za O (zQ hK95 (aN (zX (.cons (bT O) (.cons (bT O) .nil)) h O))))
   exact absurd (hc) (by simp)
  refine z2 hb94 h λh=>zG hb94 O (aK O) (zG hb94 O (dT O O O) (zw hb94 O (zQ hK93 (zB O h (λ_ h=>?_) λ_ h=>?_))))
  ·refine ag λ_ hK97=>ab (aB (pq O) O ?_);exact za O (za O (zQ hK97 (aN (zX (.cons (bT O) (.cons (bT O) .nil)) h O))))
  exact aD (hK13 _ _ _ h O)
 refine ba (zM h (λ(v98:Bool)=>[(0,aZ p0),(1,I p1),(2,I p2),(8,Bo (p1==0)),(9,aZ p0),(25,Bo v98)]) (λ(v98:Bool)=>[]) (λv98 h=>?_) λ_ _ hK100 h=>?_)
 ·refine zB O h (λ_ h=>?_) λ_ h=>?_
  ·exact aD (hK10 _ _ _ h O)
  refine ag λ_ hK102=>ab (zm O (zc O (za O (zQ hK102 (zB O h (λ_ h=>?_) λ_ h=>?_)))))
  ·refine ag λ_ hK104=>ab (za O (zQ hK104 (ag λ_ hK105=>ab (zm O (ze hr h λb106 h107 h108 h109 h=>aB (gi O O h107 h109) O (zc O (zQ hK105 (zB O h (λ_ h=>?_) λ_ h=>?_))))))))
   ·refine ba (zM h (λ(v111:Bool)=>[(0,aZ p0),(2,I p2),(8,Bo (p1==0)),(9,aZ p0),(40,Bo v111)]) (λ(v111:Bool)=>[]) (λv111 h=>?_) λ_ _ hK113 h=>?_)
    ·refine zB O h (λ_ h=>?_) λ_ h=>?_
     ·exact ag λ_ hK115=>ab (za O (zQ hK115 (ab (zm O (zd hr h λhg116 h=>aB (mr O O hg116.1 hg116.2) O (za O (aH (hK10 _ _ _ h O))))))))
     refine zM h (λ(v117:Bool)=>[(0,aZ p0),(2,I p2),(8,Bo (p1==0)),(9,aZ p0),(52,Bo v117)]) (λ(v117:Bool)=>[]) (λv117 h=>?_) λ_ _ hK119 h=>?_
     ·refine zB O h (λ_ h=>?_) λ_ h=>?_
      ·exact ag λ_ hK121=>ab (za O (zQ hK121 (ab (zm O (zd hr h λhg122 h=>aB (mr O O hg122.1 hg122.2) O (za O (aH (hK10 _ _ _ h O))))))))
      refine ag λ_ hK123=>ab (zm O (aB (gj O) O (zc O (zm O (zb (decide ((List.length p0:Int)>=3)) (λhb124=>?_) λhb124=>?_)))))
      ·refine z1 hb124 h λh=>zG hb124 O (aK O) (ze hr h λb125 h126 h127 h128 h=>zG hb124 O (gi O O h126 h128) (zK hb124 O hp hr h [] Tryz.call250 (eh (b125.toNat:Int)) O (λ_=>rfl) λy129 h=>zG hb124 O (dT O O O) (zy hb124 O (za O (zQ hK123 (zB O h (λ_ h=>?_) λ_ h=>?_))))))
       ·exact ag λ_ hK131=>ab (za O (zQ hK131 (ab (zm O (zd hr h λhg132 h=>aB (mr O O hg132.1 hg132.2) O (za O (aH (hK10 _ _ _ h O))))))))
       exact ag λ_ hK133=>ab (za O (zQ hK133 (ab (zm O (zd hr h λhg134 h=>aB (mr O O hg134.1 hg134.2) O (za O (aH (hK10 _ _ _ h O))))))))
      refine z2 hb124 h λh=>zH 4 O hb124 (zw hb124 O (za O (zQ hK123 (iz O (λhc=>?_) (λhc=>?_)))))
      ·exact absurd (hc) (by simp)
      exact ag λ_ hK135=>ab (za O (zQ hK135 (ab (zm O (zd hr h λhg136 h=>aB (mr O O hg136.1 hg136.2) O (za O (aH (hK10 _ _ _ h O))))))))
     refine ab (zm O (aB (gj O) O (zc O (zm O (zb (decide ((List.length p0:Int)>=3)) (λhb137=>?_) λhb137=>?_)))))
     ·exact z1 hb137 h λh=>zG hb137 O (aK O) (ze hr h λb138 h139 h140 h141 h=>zG hb137 O (gi O O h139 h141) (zK hb137 O hp hr h [] Tryz.call250 (eh (b138.toNat:Int)) O (λ_=>rfl) λy142 h=>zG hb137 O (dT O O O) (zy hb137 O (za O (aH (hK119 _ _ _ h O))))))
     exact z2 hb137 h λh=>zH 4 O hb137 (zw hb137 O (za O (aH (hK119 _ _ _ h O))))
    refine ab (zm O (aB (gj O) O (zc O (zm O (zb (decide ((List.length p0:Int)>=3)) (λhb143=>?_) λhb143=>?_)))))
    ·exact z1 hb143 h λh=>zG hb143 O (aK O) (ze hr h λb144 h145 h146 h147 h=>zG hb143 O (gi O O h145 h147) (zK hb143 O hp hr h [] Tryz.call250 (eh (b144.toNat:Int)) O (λ_=>rfl) λy148 h=>zG hb143 O (dT O O O) (zy hb143 O (za O (aH (hK113 _ _ _ h O))))))
    exact z2 hb143 h λh=>zH 4 O hb143 (zw hb143 O (za O (aH (hK113 _ _ _ h O))))
   exact aD (hK10 _ _ _ h O)
  refine ag λ_ hK149=>ab (aB (pq O) O ?_);exact za O (za O (zQ hK149 (aN (zX (.cons (bT O) (.cons (bT O) .nil)) h O))))
 refine ab (zm O (zc O (zm O (zb (decide (2<=p1)) (λhb150=>?_) λhb150=>?_))))
 ·exact z1 hb150 h λh=>zG hb150 O (aK O) (zG hb150 O (dT O O O) (zy hb150 O (za O (aH (hK100 _ _ _ h O)))))
 exact z2 hb150 h λh=>zH 2 O hb150 (zw hb150 O (za O (aH (hK100 _ _ _ h O))))
def iF (n:Nat) (p0:ByS) (p1:Int) (p2:Int):U (Int×Bool):=
 U.bind (gb n p0 p1 p2) λy3=>br (y3.2 !=0) (U.bind (pg ([80,97,114,115,101,85,105,110,116]:ByS) p0 p1 p2 y3.2) λy8=>.ok (y3.1,y8)) (.ok (y3.1,false))
instance ue (n:Nat) (p0:ByS) (p1:Int) (p2:Int):CT Tryz.prog 234 [aZ p0,I p1,I p2] [] (iF n p0 p1 p2) (λx=>.gZ [Sc (.int .u64 x.1),Oe 216 x.2]) (λ_=>[]):=by
 refine zC Tryz.func234 O λr hp h hr E hE=>ag λ_ hK1=>ab (za O (za O (zQ hK1 (ag λ_ hK2=>ab (zm O (zm O (zm O (oa hr h [] Tryz.call228 (sk n p0 p1 p2) ⟨O,O,O,O,O,O,trivial⟩ O (λ_=>⟨O,O,IL O⟩) (λ_=>⟨KT,O⟩) hp (λy3 h=>?_)))))))));refine zm O (zx O (zx O (za O (za O (zQ hK2 (ag λ_ hK4=>ag λ_ hK5=>ab (zm O (aB (KU O) O (zQ hK5 (zB O h (λ_ h=>?_) λ_ h=>?_))))))))))
 ·refine ag λ_ hK7=>ab (zm O (zm O (zm O (zm O (zm O (oa hr h [] Tryz.call191 (vi ([80,97,114,115,101,85,105,110,116]:ByS) p0 p1 p2 y3.2) ⟨O,O,(by simp[AV.hQ.mE,AV.hQ,Ei]<;>rfl),O,O,O,trivial⟩ O (λ_=>⟨O,O,GB⟩) (λ_=>⟨IK,O⟩) hp (λy8 h=>?_)))))));exact za O (za O (zQ hK7 (aN (zX (.cons (bT O) (.cons (bT O) .nil)) h O))))
 exact aD (hK4 _ _ (ag λ_ hK9=>ab (zm O (za O (za O (zQ hK9 (aN (zX (.cons (bT O) (.cons (bT O) .nil)) h O))))))))
def km (n:Nat) (p0:ByS):U (Int×Int):=
 br (decide ((List.length p0:Int)<2)) (.ok (0,0)) (el p0 1 λb8=>jn (λ(v12:Bool)=>br v12 (el p0 1 λb17=>.ok ((b17.toNat:Int),2)) (br ((b8.toNat:Int)==110) (.ok (10,2)) (br ((b8.toNat:Int)==116) (.ok (9,2)) (br ((b8.toNat:Int)==114) (.ok (13,2)) (br ((b8.toNat:Int)==120) (br (decide ((List.length p0:Int)<4)) (.ok (0,0)) (gd ((0:Int)<=2/\(2:Int)<=4/\4<=(List.length p0:Int)) (U.bind (iF n (sub p0 2 4) 16 8) λy38=>br y38.2 (.ok (0,0)) (.ok (IntKind.wrap .u8 y38.1,4))))) (.ok (0,0))))))) λj13=>br ((b8.toNat:Int)==34) (j13 (((b8.toNat:Int)==34))) (j13 (((b8.toNat:Int)==92))))
instance vY (n:Nat) (p0:ByS):CT Tryz.prog 197 [aZ p0] [] (km n p0) (λx=>.gZ [Sc (.int .u8 x.1),I x.2]) (λ_=>[]):=by
 refine zC Tryz.func197 O λr hp h hr E hE=>ag λ_ hK1=>ab (za O (za O (zQ hK1 (ag λ_ hK2=>ag λ_ hK3=>ab (zm O (aB (gj O) O (zc O (zQ hK3 (zB O h (λ_ h=>?_) λ_ h=>?_)))))))))
 ·exact ag λ_ hK5=>ab (za O (za O (zQ hK5 (aN (zX (.cons (bT O) (.cons (bT O) .nil)) h O)))))
 refine aD (hK2 _ _ (ag λ_ hK6=>ag λ_ hK7=>ab (zm O (ze hr h λb8 h9 h10 h11 h=>aB (gi O O h9 h11) O (zQ hK7 (ba (zM h (λ(v12:Bool)=>[(0,aZ p0),(10,Sc (.int .u8 (b8.toNat:Int))),(11,Bo v12)]) (λ(v12:Bool)=>[]) (λv12 h=>?_) λ_ _ hK14 h=>?_)))))))
 ·refine zB O h (λ_ h=>?_) λ_ h=>?_
  ·exact ag λ_ hK16=>ab (zm O (ze hr h λb17 h18 h19 h20 h=>aB (gi O O h18 h20) O (za O (za O (zQ hK16 (aN (zX (.cons (bT O) (.cons (bT O) .nil)) h O)))))))
  refine ag λ_ hK21=>ab (zc O (za O (zQ hK21 (zB O h (λ_ h=>?_) λ_ h=>?_))))
  ·exact ag λ_ hK23=>ab (za O (za O (zQ hK23 (aN (zX (.cons (bT O) (.cons (bT O) .nil)) h O)))))
  refine ag λ_ hK24=>ab (zc O (za O (zQ hK24 (zB O h (λ_ h=>?_) λ_ h=>?_))))
  ·exact ag λ_ hK26=>ab (za O (za O (zQ hK26 (aN (zX (.cons (bT O) (.cons (bT O) .nil)) h O)))))
  refine ag λ_ hK27=>ab (zc O (za O (zQ hK27 (zB O h (λ_ h=>?_) λ_ h=>?_))))
  ·exact ag λ_ hK29=>ab (za O (za O (zQ hK29 (aN (zX (.cons (bT O) (.cons (bT O) .nil)) h O)))))
  refine ag λ_ hK30=>ab (zc O (za O (zQ hK30 (zB O h (λ_ h=>?_) λ_ h=>?_))))
  ·refine ag λ_ hK32=>ag λ_ hK33=>ab (zm O (aB (gj O) O (zc O (zQ hK33 (zB O h (λ_ h=>?_) λ_ h=>?_)))))
   ·exact ag λ_ hK35=>ab (za O (za O (zQ hK35 (aN (zX (.cons (bT O) (.cons (bT O) .nil)) h O)))))
   refine aD (hK32 _ _ (ag λ_ hK36=>ab (zm O (zd hr h λhg37 h=>aB (JY O O O hg37.1 hg37.2.1 hg37.2.2) O (oa hr h [] Tryz.call234 (ue n (sub p0 2 4) 16 8) ⟨O,O,O,O,O,O,trivial⟩ O (λ_=>⟨O,O,Eh O⟩) (λ_=>⟨Gx,O⟩) hp (λy38 h=>?_))))));refine zm O (zx O (zx O (za O (za O (zQ hK36 (ag λ_ hK39=>ag λ_ hK40=>ab (zm O (aB (Gl O) O (zQ hK40 (zB O h (λ_ h=>?_) λ_ h=>?_))))))))))
   ·exact ag λ_ hK42=>ab (za O (za O (zQ hK42 (aN (zX (.cons (bT O) (.cons (bT O) .nil)) h O)))))
   exact aD (hK39 _ _ (ag λ_ hK43=>ab (zm O (aB (lN O) O (za O (za O (zQ hK43 (aN (zX (.cons (bT O) (.cons (bT O) .nil)) h O)))))))))
  exact aD (hK6 _ _ (ag λ_ hK44=>ab (za O (za O (zQ hK44 (aN (zX (.cons (bT O) (.cons (bT O) .nil)) h O)))))))
 refine ag λ_ hK45=>ab (zc O (za O (zQ hK45 (zB O h (λ_ h=>?_) λ_ h=>?_))))
 ·exact aD (hK14 _ _ _ h O)
 exact ab (zc O (za O (aH (hK14 _ _ _ h O))))
def jX (n:Nat) (p0:ByS):U (ByS×eS):=
 br (decide ((List.length p0:Int)>65536)) (.ok (([]:ByS),(eS.mk 2 0))) (br ((List.length p0:Int)==0) (.ok (([]:ByS),(eS.mk 8 0))) (el p0 0 λb10=>br ((b10.toNat:Int) !=34) (.ok (([]:ByS),(eS.mk 8 0))) (iter (λnext21 (v20:(List Int)×Int)=>br (decide (v20.2>=(List.length p0:Int))) (.ok (([]:ByS),(eS.mk 8 (List.length p0:Int)))) (el p0 v20.2 λb27=>br ((b27.toNat:Int)==34) (gd (J (v20.2+1)) (br (decide ((v20.2+1)<(List.length p0:Int))) (gd (J (v20.2+1)) (.ok (([]:ByS),(eS.mk 8 (v20.2+1))))) (.ok (lP v20.1,(eS.mk 0 0))))) (el p0 v20.2 λb40=>br ((b40.toNat:Int)==92) (gd ((0:Int)<=v20.2/\v20.2<=(List.length p0:Int)) (U.bind (km n (gB p0 v20.2)) λy47=>br (y47.2==0) (.ok (([]:ByS),(eS.mk 8 v20.2))) (gd (mV 1 (List.length v20.1) (List.length [y47.1])) (gd (J (v20.2+y47.2)) (next21 (v20.1++[y47.1],v20.2+y47.2)))))) (jn (λ(v55:Bool)=>br v55 (.ok (([]:ByS),(eS.mk 8 v20.2))) (el p0 v20.2 λb61=>gd (mV 1 (List.length v20.1) (List.length [(b61.toNat:Int)])) (gd (J (v20.2+1)) (next21 (v20.1++[(b61.toNat:Int)],v20.2+1))))) λj56=>el p0 v20.2 λb67=>br (decide ((b67.toNat:Int)<32)) (j56 (true)) (el p0 v20.2 λb72=>j56 ((decide ((b72.toNat:Int)>126)))))))) n ([],1))))
instance FA (n:Nat) (p0:ByS):CT Tryz.prog 145 [aZ p0] [] (jX n p0) (λx=>.gZ [aZ x.1,.agg [I x.2.Errno,I x.2.At]]) (λ_=>[]):=by
 refine zC Tryz.func145 O λr hp h hr E hE=>ag λ_ hK1=>ab (za O (aM 103 (hE _ O) O4 O ?_));refine zQ hK1 (B6 ?_);refine ag λ_ hK2=>ag λ_ hK3=>ab (zm O (aB (gj O) O (zc O (zQ hK3 (zB O h (λ_ h=>?_) λ_ h=>?_)))))
 ·refine ag λ_ hK5=>ab (aB (cb O O O) O ?_);exact za O (zs O (zQ hK5 (aN (zX (.cons (bT O) (.cons (aU O O O) .nil)) h O))))
 refine aD (hK2 _ _ (ag λ_ hK6=>ag λ_ hK7=>ab (zm O (aB (gj O) O (zc O (zm O (zb ((List.length p0:Int)==0) (λhb8=>?_) λhb8=>?_)))))))
 ·refine z1 hb8 h λh=>zH 3 O hb8 (zy hb8 O (zQ hK7 (iz O (λhc=>?_) (λhc=>?_))))
  ·refine ag λ_ hK9=>ab (aB (cb O O O) O ?_);exact za O (zs O (zQ hK9 (aN (zX (.cons (bT O) (.cons (aU O O O) .nil)) h O))))
  exact absurd (hc) (by simp)
 refine z2 hb8 h λh=>zG hb8 O (aK O) (ze hr h λb10 h11 h12 h13 h=>zG hb8 O (gi O O h11 h13) (zG hb8 O (dT O O O) (zw hb8 O (zQ hK7 (zB O h (λ_ h=>?_) λ_ h=>?_)))))
 ·refine ag λ_ hK15=>ab (aB (cb O O O) O ?_);exact za O (zs O (zQ hK15 (aN (zX (.cons (bT O) (.cons (aU O O O) .nil)) h O))))
 refine aD (hK6 _ _ (ag λ_ hK16=>ab (za O (zQ hK16 (ag λ_ hK17=>ab (za O (zQ hK17 (ag λ_ hK18=>BC ?_))))))));refine hK18 _ _ (ag λ_ hK19=>ba (bC (uD (d:=4) 10004 (sz:=1) (el:=5) (hE _ O) O O3) ?_));refine zL hr h (λ(v20:(List Int)×Int)=>[(0,aZ p0),(3,.ptr 103 0),(4,.arr 10004 (List.length v20.1)),(5,I v20.2)]) (λ(v20:(List Int)×Int)=>[(103,.box [I 0,I 0]),(10004,.app 5 1 (uF v20.1))]) O λ_ v20 _ hK22 h=>ba (ba (ag λ_ hK23=>ab (zm O (zm O (aB (gj O) O (zc O (za O (zQ hK23 (zB O h (λ_ h=>?_) λ_ h=>?_)))))))))
 ·refine ag λ_ hK25=>ab (zm O (aB (gj O) O (aB (cb O O O) O ?_)));exact za O (zs O (zQ hK25 (aN (zX (.cons (bT O) (.cons (aU O O O) .nil)) h O))))
 refine ag λ_ hK26=>ab (zm O (zm O (ze hr h λb27 h28 h29 h30 h=>aB (gi O O h28 h30) O (zc O (za O (zQ hK26 (zB O h (λ_ h=>?_) λ_ h=>?_)))))))
 ·refine cx (hK19 _ _ (ag λ_ hK32=>ag λ_ hK33=>ab (zm O (zd hr h λhg34 h=>zo hg34 O (zm O (aB (gj O) O (zc O (zQ hK33 (zB O h (λ_ h=>?_) λ_ h=>?_)))))))))
  ·refine ag λ_ hK36=>ab (zm O (zd hr h λhg37 h=>zo hg37 O (aB (cb O O O) O ?_)));exact za O (zs O (zQ hK36 (aN (zX (.cons (bT O) (.cons (aU O O O) .nil)) h O))))
  refine aD (hK32 _ _ (ag λ_ hK38=>ab (aB (lO mz pM O O O) O ?_)));refine aB (sg O O) O (aB (cb O O O) O ?_);exact za O (zs O (zQ hK38 (aN (zX (.cons (bT O) (.cons (aU O O O) .nil)) h O))))
 refine ag λ_ hK39=>ab (zm O (zm O (ze hr h λb40 h41 h42 h43 h=>aB (gi O O h41 h43) O (zc O (za O (zQ hK39 (zB O h (λ_ h=>?_) λ_ h=>?_)))))))
 ·refine ag λ_ hK45=>ab (zm O (zm O (zd hr h λhg46 h=>aB (mr O O hg46.1 hg46.2) O (zk hp hr h [] Tryz.call197 (vY n (gB p0 v20.2)) O (λ_=>rfl) λy47 h=>zm O (zx O (zx O (za O (za O (zQ hK45 (ag λ_ hK48=>ag λ_ hK49=>ab (zm O (zc O (zQ hK49 (zB O h (λ_ h=>?_) λ_ h=>?_))))))))))))))
  ·refine ag λ_ hK51=>ab (zm O (aB (cb O O O) O ?_));exact za O (zs O (zQ hK51 (aN (zX (.cons (bT O) (.cons (aU O O O) .nil)) h O))))
  refine aD (hK48 _ _ (ag λ_ hK52=>ab (zm O (zm O (fY [y47.1] mz O2 O ?_)))));refine zd hr h λhg53 h=>ng 161 ⟨kI.h,fg.h,mz,pM,w9,hE _ O,O,O,(.inl O),O3,hg53⟩ O ?_;refine za O (y (lk 161 10004 [(0,aZ p0),(3,.ptr 103 0),(4,.arr 10004 (List.length (v20.1++[y47.1]))),(5,I v20.2),(7,I y47.2)] [(103,.box [I 0,I 0])] (hE _ O) O O O2 ⟨⟨_,O,O,O⟩,⟨_,O,O,O⟩,⟨_,O,O,O⟩,⟨_,O,O,O⟩,⟨_,O,O,O⟩,trivial⟩ ⟨⟨_,O,O,O,O,O⟩,trivial⟩) ?_);exact zQ hK52 (ab (zm O (zm O (zd hr h λhg54 h=>zo hg54 O (za O (aH (hK22 _ _ _ h O)))))))
 refine zM h (λ(v55:Bool)=>[(0,aZ p0),(3,.ptr 103 0),(4,.arr 10004 (List.length v20.1)),(5,I v20.2),(65,Bo v55)]) (λ(v55:Bool)=>[(103,.box [I 0,I 0]),(10004,.app 5 1 (uF v20.1))]) (λv55 h=>?_) λ_ _ hK57 h=>?_
 ·refine zB O h (λ_ h=>?_) λ_ h=>?_
  ·refine ag λ_ hK59=>ab (zm O (aB (cb O O O) O ?_));exact za O (zs O (zQ hK59 (aN (zX (.cons (bT O) (.cons (aU O O O) .nil)) h O))))
  refine ag λ_ hK60=>ab (zm O (zm O (zm O (ze hr h λb61 h62 h63 h64 h=>aB (gi O O h62 h64) O (fY [(b61.toNat:Int)] mz O2 O ?_)))));refine zd hr h λhg65 h=>ng 126 ⟨kI.h,fg.h,mz,pM,w9,hE _ O,O,O,(.inl O),O3,hg65⟩ O ?_;refine za O (y (lk 126 10004 [(0,aZ p0),(3,.ptr 103 0),(4,.arr 10004 (List.length (v20.1++[(b61.toNat:Int)]))),(5,I v20.2)] [(103,.box [I 0,I 0])] (hE _ O) O O O2 ⟨⟨_,O,O,O⟩,⟨_,O,O,O⟩,⟨_,O,O,O⟩,⟨_,O,O,O⟩,trivial⟩ ⟨⟨_,O,O,O,O,O⟩,trivial⟩) ?_);exact zQ hK60 (ab (zm O (zd hr h λhg66 h=>zo hg66 O (za O (aH (hK22 _ _ _ h O))))))
 refine ab (zm O (zm O (ze hr h λb67 h68 h69 h70 h=>aB (gi O O h68 h70) O (zc O (zm O (zb (decide ((b67.toNat:Int)<32)) (λhb71=>?_) λhb71=>?_))))))
 ·exact z1 hb71 h λh=>zH 4 O hb71 (zy hb71 O (za O (aH (hK57 _ _ _ h O))))
 exact z2 hb71 h λh=>zG hb71 O (aK O) (zG hb71 O (aK O) (ze hr h λb72 h73 h74 h75 h=>zG hb71 O (gi O O h73 h75) (zG hb71 O (dT O O O) (zw hb71 O (za O (aH (hK57 _ _ _ h O)))))))
def kn (p0:(List Int)) (p1:(List aR)) (p2:Int):U ((List Int)×(List aR)×Int):=
 br (decide ((List.length p0:Int)>0)) (gd (mV 32 (List.length p1) (List.length [(aR.mk (lP p0) false p2)])) (.ok ([],p1++[(aR.mk (lP p0) false p2)],p2))) (.ok ([],p1,p2))
instance rP (p0:(List Int)) (p1:(List aR)) (p2:Int):CT Tryz.prog 194 [.ptr 0 0,.ptr 1 0,.ptr 2 0] [.box [.arr 3 (List.length p0)],.box [.arr 4 (List.length p1)],.box [I p2],.app 5 1 (uF p0),.app 189 3 (aR.Cs p1)] (kn p0 p1 p2) (λ_=>.gZ []) (λx=>[.box [.arr 3 (List.length x.1)],.box [.arr 4 (List.length x.2.1)],.box [I x.2.2],.app 5 1 (uF x.1),.app 189 3 (aR.Cs x.2.1)]):=by
 refine zC Tryz.func194 O λr hp h hr E hE=>ag λ_ hK1=>ag λ_ hK2=>ab (aB (pY mz pM O O O O O) O ?_);refine aB (ko O) O (zc O (zQ hK2 (zB O h (λ_ h=>?_) λ_ h=>?_)))
 ·refine ab (zl O (aB (pY mz pM O O O O O) O ?_));refine aB (sg O O) O (zl O (aB (cb O O O) O ?_));refine fY [(aR.mk (lP p0) false p2)] aR.bq O2 O ?_;refine zd hr h λhg4 h=>ng 112 ⟨kI.h,fg.h,aR.bq,aR.cw,aR.kK,hE _ O,O,O,(.inl O),O3,hg4⟩ O ?_;refine zs O (y (lk 112 4 [(0,.ptr 0 0),(1,.ptr 1 0),(2,.ptr 2 0)] [(0,.box [.arr 3 (List.length p0)]),(1,.box [.arr 4 (List.length (p1++[(aR.mk (lP p0) false p2)]))]),(2,.box [I p2]),(3,.app 5 1 (uF p0))] (hE _ O) O O O2 ⟨⟨_,O,O,O⟩,⟨_,O,O,O⟩,⟨_,O,O,O⟩,trivial⟩ ⟨⟨_,O,O,O,O,O⟩,⟨_,O,O,O,O,O⟩,⟨_,O,O,O,O,O⟩,⟨_,O,O,O,O,O⟩,trivial⟩) ?_);refine zQ hK1 (ab (zs O (y (fC.Bw [(0,.ptr 0 0),(1,.ptr 1 0),(2,.ptr 2 0)] [(0,.box [nSl]),(1,.box [.arr 4 (List.length (p1++[(aR.mk (lP p0) false p2)]))]),(2,.box [I p2]),(4,.app 189 3 (aR.Cs (p1++[(aR.mk (lP p0) false p2)])))] ⟨O,O,O,trivial⟩ ⟨O,O,O,O,trivial⟩) ?_)));refine y (tS (j:=0) (off:=0) 3 (sz:=1) (el:=5) (hE _ O) O O O3 O) ?_;exact aH (zY .nil h O)
 refine aD (hK1 _ _ (ab (zs O (y (fC.Bw [(0,.ptr 0 0),(1,.ptr 1 0),(2,.ptr 2 0)] [(0,.box [nSl]),(1,.box [.arr 4 (List.length p1)]),(2,.box [I p2]),(4,.app 189 3 (aR.Cs p1))] ⟨O,O,O,trivial⟩ ⟨O,O,O,O,trivial⟩) ?_))));refine y (tS (j:=0) (off:=0) 3 (sz:=1) (el:=5) (hE _ O) O O O3 O) ?_;exact aH (zY .nil h O)
def mc (n:Nat) (p0:ByS):U (ByS×Bool):=
 gP (λ(v5:Int×Int)=>[(0,aZ p0),(4,I v5.1),(7,I (List.length p0:Int)),(8,I v5.2)]) (λ(v5:Int×Int)=>[]) (λnext6 (v5:Int×Int)=>br (decide (v5.2<(List.length p0:Int))) (el p0 v5.2 λb14=>br ((b14.toNat:Int)==40) (gd (J (v5.1+1)) (gd (J (v5.2+1)) (next6 (v5.1+1,v5.2+1)))) (br ((b14.toNat:Int)==41) (gd (J (v5.1 - 1)) (br ((v5.1 - 1)==0) (gd ((0:Int)<=1/\(1:Int)<=v5.2/\v5.2<=(List.length p0:Int)) (.ok (sub p0 1 v5.2,true))) (gd (J (v5.2+1)) (next6 (v5.1 - 1,v5.2+1))))) (gd (J (v5.2+1)) (next6 (v5.1,v5.2+1))))) (.ok (([]:ByS),false))) n (0,0)
instance AX (n:Nat) (p0:ByS):CT Tryz.prog 195 [aZ p0] [] (mc n p0) (λx=>.gZ [aZ x.1,Bo x.2]) (λ_=>[]):=by unfold mc;exact zz Tryz.func195
def kM (n:Nat) (p0:ByS):U (Int×Int):=
 lg 2 (λ(v3:Int)=>[(0,aZ p0),(4,I v3)]) (λ(v3:Int)=>[]) (λ(v3:Int)=>br (decide ((List.length p0:Int)<v3)) (.ok (0,0)) (gd ((0:Int)<=v3/\v3<=(List.length p0:Int)) (gd (sX ([34]:ByS) (ob p0 v3)) (gd (sX (([34]:ByS)++(ob p0 v3)) ([34]:ByS)) (U.bind (jX n ((([34]:ByS)++(ob p0 v3))++([34]:ByS))) λy14=>br (y14.2.Errno !=0) (.ok (0,0)) (el y14.1 0 λb20=>.ok ((b20.toNat:Int),v3))))))) λj4=>U.bind (strings_HasPrefix p0 ([92,120]:ByS)) λy25=>br y25 (j4 (4)) (j4 (2))
instance yc (n:Nat) (p0:ByS):CT Tryz.prog 196 [aZ p0] [] (kM n p0) (λx=>.gZ [Sc (.int .u8 x.1),I x.2]) (λ_=>[]):=by unfold kM;exact zz Tryz.func196
def gm (n:Nat) (p0:ByS):U ((List aR)×eS):=
 iter (λnext9 (v8:(List aR)×(List Int)×Int×Int)=>br (decide (v8.2.2.2<(List.length p0:Int))) (jn (λ(v14:Int)=>gd ((0:Int)<=v8.2.2.2/\v8.2.2.2<=(List.length p0:Int)) (U.bind (strings_HasPrefix (gB p0 v8.2.2.2) ([92,40]:ByS)) λy19=>br y19 (gd (J (v8.2.2.2+1)) (gd ((0:Int)<=(v8.2.2.2+1)/\(v8.2.2.2+1)<=(List.length p0:Int)) (U.bind (mc n (gB p0 (v8.2.2.2+1))) λy24=>br (!y24.2) (.ok ([],(eS.mk 8 v8.2.2.2))) (U.bind (kn v8.2.1 v8.1 v14) λy30=>gd (J (v8.2.2.2+2)) (gd (mV 32 (List.length y30.2.1) (List.length [(aR.mk y24.1 true (v8.2.2.2+2))])) (gd (J ((List.length y24.1:Int)+3)) (gd (J (v8.2.2.2+((List.length y24.1:Int)+3))) (next9 (y30.2.1++[(aR.mk y24.1 true (v8.2.2.2+2))],y30.1,y30.2.2,v8.2.2.2+((List.length y24.1:Int)+3)))))))))) (el p0 v8.2.2.2 λb37=>br ((b37.toNat:Int)==92) (gd ((0:Int)<=v8.2.2.2/\v8.2.2.2<=(List.length p0:Int)) (U.bind (kM n (gB p0 v8.2.2.2)) λy44=>br (y44.2==0) (.ok ([],(eS.mk 8 v8.2.2.2))) (gd (mV 1 (List.length v8.2.1) (List.length [y44.1])) (gd (J (v8.2.2.2+y44.2)) (next9 (v8.1,v8.2.1++[y44.1],v14,v8.2.2.2+y44.2)))))) (jn (λ(v52:Bool)=>br v52 (.ok ([],(eS.mk 8 v8.2.2.2))) (el p0 v8.2.2.2 λb58=>gd (mV 1 (List.length v8.2.1) (List.length [(b58.toNat:Int)])) (gd (J (v8.2.2.2+1)) (next9 (v8.1,v8.2.1++[(b58.toNat:Int)],v14,v8.2.2.2+1))))) λj53=>el p0 v8.2.2.2 λb64=>br (decide ((b64.toNat:Int)<32)) (j53 (true)) (el p0 v8.2.2.2 λb69=>br (decide ((b69.toNat:Int)>126)) (j53 (true)) (el p0 v8.2.2.2 λb74=>j53 (((b74.toNat:Int)==34)))))))) λj15=>br ((List.length v8.2.1:Int)==0) (j15 (v8.2.2.2)) (j15 (v8.2.2.1))) (U.bind (kn v8.2.1 v8.1 v8.2.2.1) λy81=>.ok (y81.2.1,(eS.mk 0 0)))) n ([],[],0,0)
instance yd (n:Nat) (p0:ByS):CT Tryz.prog 144 [aZ p0] [] (gm n p0) (λx=>.gZ [.pv (.sl (List.length x.1) (aR.Cs x.1)),.agg [I x.2.Errno,I x.2.At]]) (λ_=>[]):=by
 refine zC Tryz.func144 O λr hp h hr E hE=>ag λ_ hK1=>ab (za O (aM 103 (hE _ O) O4 O ?_));refine zQ hK1 (ag λ_ hK2=>ab (aM 104 (hE _ O) O4 O ?_));refine zQ hK2 (ag λ_ hK3=>ab (aM 105 (hE _ O) O4 O ?_));refine zQ hK3 (ag λ_ hK4=>ab (aM 106 (hE _ O) O4 O ?_));refine zs O (zQ hK4 (ag λ_ hK5=>ab (aB (od O O) O ?_)));refine za O (zQ hK5 (ag λ_ hK6=>ag λ_ hK7=>ab (za O (zQ hK7 (ba (bC (tS (j:=104) (off:=0) 26656 (sz:=3) (el:=189) (hE _ O) O O O3 O) ?_))))));refine bC (tS (j:=105) (off:=0) 26720 (sz:=1) (el:=5) (hE _ O) O O O3 O) ?_;refine zL hr h (λ(v8:(List aR)×(List Int)×Int×Int)=>[(0,aZ p0),(3,.ptr 103 0),(4,.ptr 104 0),(5,.ptr 105 0),(6,.ptr 106 0),(7,.fn 194 [] [.ptr 105 0,.ptr 104 0,.ptr 106 0]),(8,I v8.2.2.2)]) (λ(v8:(List aR)×(List Int)×Int×Int)=>[(103,.box [I 0,I 0]),(104,.box [.arr 26656 (List.length v8.1)]),(105,.box [.arr 26720 (List.length v8.2.1)]),(106,.box [I v8.2.2.1]),(26656,.app 189 3 (aR.Cs v8.1)),(26720,.app 5 1 (uF v8.2.1))]) O λ_ v8 _ hK10 h=>ag λ_ hK11=>ag λ_ hK12=>ab (zm O (zm O (aB (gj O) O (zc O (zQ hK12 (zB O h (λ_ h=>?_) λ_ h=>?_))))))
 ·refine aD (hK11 _ _ (ba (zM h (λ(v14:Int)=>[(0,aZ p0),(3,.ptr 103 0),(4,.ptr 104 0),(5,.ptr 105 0),(6,.ptr 106 0),(7,.fn 194 [] [.ptr 105 0,.ptr 104 0,.ptr 106 0]),(8,I v8.2.2.2)]) (λ(v14:Int)=>[(103,.box [I 0,I 0]),(104,.box [.arr 26656 (List.length v8.1)]),(105,.box [.arr 26720 (List.length v8.2.1)]),(106,.box [I v14]),(26656,.app 189 3 (aR.Cs v8.1)),(26720,.app 5 1 (uF v8.2.1))]) (λv14 h=>?_) λ_ _ hK16 h=>?_)))
  ·refine ba (ag λ_ hK17=>ab (zm O (zm O (zd hr h λhg18 h=>aB (mr O O hg18.1 hg18.2) O (zk hp hr h [] Tryz.call95 (ud (gB p0 v8.2.2.2) ([92,40]:ByS)) O (λ_=>rfl) λy19 h=>za O (zQ hK17 (zB O h (λ_ h=>?_) λ_ h=>?_)))))))
   ·refine ag λ_ hK21=>ab (zm O (zm O (zd hr h λhg22 h=>zo hg22 O (zd hr h λhg23 h=>aB (mr O O hg23.1 hg23.2) O (zk hp hr h [] Tryz.call195 (AX n (gB p0 (v8.2.2.2+1))) O (λ_=>rfl) λy24 h=>zm O (zx O (zx O (za O (za O (zQ hK21 (ag λ_ hK25=>ag λ_ hK26=>ab (zm O (aB (iX O) O (zQ hK26 (zB O h (λ_ h=>?_) λ_ h=>?_)))))))))))))))
    ·refine ag λ_ hK28=>ab (zm O (aB (cb O O O) O ?_));refine za O (zs O (zQ hK28 (bC (BW (d:=2) O O) ?_)));exact aN (zX (.cons (bT O) (.cons (aU O O O) .nil)) h O)
    refine aD (hK25 _ _ (ag λ_ hK29=>ab (zm O (oa hr h [105,104,106,26720,26656] Tryz.call194 (rP v8.2.1 v8.1 v14) ⟨O,O,O,O,O,O,⟨hE _ O,⟨hE _ O,trivial⟩⟩⟩ O (λ_=>O3) (λ_=>O2) hp (λy30 h=>?_)))));refine zQ hK29 (ag λ_ hK31=>ab (zl O (zm O (zm O (zd hr h λhg32 h=>zo hg32 O (aB (cb O O O) O ?_))))));refine fY [(aR.mk y24.1 true (v8.2.2.2+2))] aR.bq O2 O ?_;refine zd hr h λhg33 h=>ng 155 ⟨kI.h,fg.h,aR.bq,aR.cw,aR.kK,hE _ O,O,O,(.inl O),O3,hg33⟩ O ?_;refine zs O (y (lk 155 26656 [(0,aZ p0),(3,.ptr 103 0),(4,.ptr 104 0),(5,.ptr 105 0),(6,.ptr 106 0),(7,.fn 194 [] [.ptr 105 0,.ptr 104 0,.ptr 106 0]),(8,I v8.2.2.2),(9,aZ y24.1)] [(103,.box [I 0,I 0]),(104,.box [.arr 26656 (List.length (y30.2.1++[(aR.mk y24.1 true (v8.2.2.2+2))]))]),(26720,.app 5 1 (uF y30.1)),(105,.box [.arr 26720 (List.length y30.1)]),(106,.box [I y30.2.2])] (hE _ O) O O O2 ⟨⟨_,O,O,O⟩,⟨_,O,O,O⟩,⟨_,O,O,O⟩,⟨_,O,O,O⟩,⟨_,O,O,O⟩,⟨_,O,O,O⟩,⟨_,O,O,O⟩,⟨_,O,O,O⟩,trivial⟩ ⟨⟨_,O,O,O,O,O⟩,⟨_,O,O,O,O,O⟩,⟨_,O,O,O,O,O⟩,⟨_,O,O,O,O,O⟩,⟨_,O,O,O,O,O⟩,trivial⟩) ?_);exact zQ hK31 (ab (zm O (zm O (aB (gj O) O (zd hr h λhg34 h=>zo hg34 O (zd hr h λhg35 h=>zo hg35 O (za O (aH (hK10 _ _ _ h O)))))))))
   refine ag λ_ hK36=>ab (zm O (zm O (ze hr h λb37 h38 h39 h40 h=>aB (gi O O h38 h40) O (zc O (za O (zQ hK36 (zB O h (λ_ h=>?_) λ_ h=>?_)))))))
   ·refine ag λ_ hK42=>ab (zm O (zm O (zd hr h λhg43 h=>aB (mr O O hg43.1 hg43.2) O (zk hp hr h [] Tryz.call196 (yc n (gB p0 v8.2.2.2)) O (λ_=>rfl) λy44 h=>zm O (zx O (zx O (za O (za O (zQ hK42 (ag λ_ hK45=>ag λ_ hK46=>ab (zm O (zc O (zQ hK46 (zB O h (λ_ h=>?_) λ_ h=>?_))))))))))))))
    ·refine ag λ_ hK48=>ab (zm O (aB (cb O O O) O ?_));refine za O (zs O (zQ hK48 (bC (BW (d:=2) O O) ?_)));exact aN (zX (.cons (bT O) (.cons (aU O O O) .nil)) h O)
    refine aD (hK45 _ _ (ag λ_ hK49=>ab (zl O (zm O (fY [y44.1] mz O2 O ?_)))));refine zd hr h λhg50 h=>ng 180 ⟨kI.h,fg.h,mz,pM,w9,hE _ O,O,O,(.inl O),O3,hg50⟩ O ?_;refine zs O (y (lk 180 26720 [(0,aZ p0),(3,.ptr 103 0),(4,.ptr 104 0),(5,.ptr 105 0),(6,.ptr 106 0),(7,.fn 194 [] [.ptr 105 0,.ptr 104 0,.ptr 106 0]),(8,I v8.2.2.2),(12,I y44.2)] [(103,.box [I 0,I 0]),(26656,.app 189 3 (aR.Cs v8.1)),(104,.box [.arr 26656 (List.length v8.1)]),(105,.box [.arr 26720 (List.length (v8.2.1++[y44.1]))]),(106,.box [I v14])] (hE _ O) O O O2 ⟨⟨_,O,O,O⟩,⟨_,O,O,O⟩,⟨_,O,O,O⟩,⟨_,O,O,O⟩,⟨_,O,O,O⟩,⟨_,O,O,O⟩,⟨_,O,O,O⟩,⟨_,O,O,O⟩,trivial⟩ ⟨⟨_,O,O,O,O,O⟩,⟨_,O,O,O,O,O⟩,⟨_,O,O,O,O,O⟩,⟨_,O,O,O,O,O⟩,⟨_,O,O,O,O,O⟩,trivial⟩) ?_);exact zQ hK49 (ab (zm O (zm O (zd hr h λhg51 h=>zo hg51 O (za O (aH (hK10 _ _ _ h O)))))))
   refine zM h (λ(v52:Bool)=>[(0,aZ p0),(3,.ptr 103 0),(4,.ptr 104 0),(5,.ptr 105 0),(6,.ptr 106 0),(7,.fn 194 [] [.ptr 105 0,.ptr 104 0,.ptr 106 0]),(8,I v8.2.2.2),(84,Bo v52)]) (λ(v52:Bool)=>[(103,.box [I 0,I 0]),(104,.box [.arr 26656 (List.length v8.1)]),(105,.box [.arr 26720 (List.length v8.2.1)]),(106,.box [I v14]),(26656,.app 189 3 (aR.Cs v8.1)),(26720,.app 5 1 (uF v8.2.1))]) (λv52 h=>?_) λ_ _ hK54 h=>?_
   ·refine zB O h (λ_ h=>?_) λ_ h=>?_
    ·refine ag λ_ hK56=>ab (zm O (aB (cb O O O) O ?_));refine za O (zs O (zQ hK56 (bC (BW (d:=2) O O) ?_)));exact aN (zX (.cons (bT O) (.cons (aU O O O) .nil)) h O)
    refine ag λ_ hK57=>oO [] ?_;refine cE [0,1,2,3,4,5,6] O (by kernel_rfl) (zD O (dZ O O O) O (zD O (aK O) O (zD O (aK O) O (ze hr h λb58 h59 h60 h61 h=>zD O (gi O O h59 h61) O (nh [(b58.toNat:Int)] mz O (da O) O2 O2 ?_)))));refine zd hr h λhg62 h=>AO 127 O (da O) ⟨kI.h,fg.h,mz,pM,w9,hE _ O,O,O,(.inl O),O3,hg62⟩ O O ⟨aQ O,?_⟩;refine cg O O8 O (λe6 he=>⟨aQ O,?_⟩);subst he;refine iA (lk 127 26720 [(0,aZ p0),(3,.ptr 103 0),(4,.ptr 104 0),(5,.ptr 105 0),(6,.ptr 106 0),(7,.fn 194 [] [.ptr 105 0,.ptr 104 0,.ptr 106 0]),(8,I v8.2.2.2)] [(103,.box [I 0,I 0]),(26656,.app 189 3 (aR.Cs v8.1)),(104,.box [.arr 26656 (List.length v8.1)]),(105,.box [.arr 26720 (List.length (v8.2.1++[(b58.toNat:Int)]))]),(106,.box [I v14])] (hE _ O) O O O2 ⟨⟨_,O,O,O⟩,⟨_,O,O,O⟩,⟨_,O,O,O⟩,⟨_,O,O,O⟩,⟨_,O,O,O⟩,⟨_,O,O,O⟩,⟨_,O,O,O⟩,trivial⟩ ⟨⟨_,O,O,O,O,O⟩,⟨_,O,O,O,O,O⟩,⟨_,O,O,O,O,O⟩,⟨_,O,O,O,O,O⟩,⟨_,O,O,O,O,O⟩,trivial⟩) ?_;exact hK57 _ _ (ab (zm O (zd hr h λhg63 h=>zo hg63 O (za O (aH (hK10 _ _ _ h O))))))
   refine ab (zm O (zm O (ze hr h λb64 h65 h66 h67 h=>aB (gi O O h65 h67) O (zc O (zm O (zb (decide ((b64.toNat:Int)<32)) (λhb68=>?_) λhb68=>?_))))))
   ·exact z1 hb68 h λh=>zH 4 O hb68 (zy hb68 O (zm O (zH 4 O O (zt O (za O (aH (hK54 _ _ _ h O)))))))
   refine z2 hb68 h λh=>zG hb68 O (aK O) (zG hb68 O (aK O) (ze hr h λb69 h70 h71 h72 h=>zG hb68 O (gi O O h70 h72) (zG hb68 O (dT O O O) (zw hb68 O (zm O (zb (decide ((b69.toNat:Int)>126)) (λhb73=>?_) λhb73=>?_))))))
   ·exact z1 hb73 h λh=>zH 4 O hb73 (zy hb73 O (za O (aH (hK54 _ _ _ h O))))
   exact z2 hb73 h λh=>zG hb73 O (aK O) (zG hb73 O (aK O) (ze hr h λb74 h75 h76 h77 h=>zG hb73 O (gi O O h75 h77) (zG hb73 O (dT O O O) (zw hb73 O (za O (aH (hK54 _ _ _ h O)))))))
  refine ag λ_ hK78=>ab (aB (pY mz pM O O O O O) O ?_);refine aB (ko O) O (zc O (zQ hK78 (zB O h (λ_ h=>?_) λ_ h=>?_)))
  ·exact ab (zm O (zs O (aH (hK16 _ _ _ h O))))
  exact aD (hK16 _ _ _ h O)
 refine cx (hK6 _ _ (ag λ_ hK80=>ab (zm O (oa hr h [105,104,106,26720,26656] Tryz.call194 (rP v8.2.1 v8.1 v8.2.2.1) ⟨O,O,O,O,O,O,⟨hE _ O,⟨hE _ O,trivial⟩⟩⟩ O (λ_=>O3) (λ_=>O2) hp (λy81 h=>?_)))));refine zQ hK80 (ag λ_ hK82=>ab (aB (pY aR.bq aR.cw O O O O O) O ?_));refine aB (cb O O O) O ?_;exact za O (zs O (zQ hK82 (aN (zX (.cons (bT O) (.cons (aU O O O) .nil)) h O))))
end Go.Abs
end
section
namespace Go.Abs
open Go.Proofs U
set_option maxRecDepth 100000
set_option maxHeartbeats 2000000
def kS (n:Nat) (p0:ByS):U (Int×Bool):=
 gP (λ(v5:Bool×Int)=>[(0,aZ p0),(4,Bo v5.1),(5,I v5.2)]) (λ(v5:Bool×Int)=>[]) (λnext6 (v5:Bool×Int)=>br (decide (v5.2<(List.length p0:Int))) (lg 0 (λ(v11:Bool×Int)=>[(0,aZ p0),(4,Bo v11.1),(5,I v11.2)]) (λ(v11:Bool×Int)=>[]) (λ(v11:Bool×Int)=>gd (J (v11.2+1)) (next6 (v11.1,v11.2+1))) λj12=>el p0 v5.2 λb16=>br ((b16.toNat:Int)==34) (gd (J (v5.2+1)) (.ok (v5.2+1,v5.1))) (el p0 v5.2 λb24=>br ((b24.toNat:Int)==92) (br v5.1 (gd (J (v5.2+1)) (j12 (true,v5.2+1))) (gd (J (v5.2+1)) (br (decide ((v5.2+1)<(List.length p0:Int))) (gd (J (v5.2+1)) (el p0 (v5.2+1) λb35=>gd (J (v5.2+1)) (j12 (((b35.toNat:Int)==40),v5.2+1)))) (gd (J (v5.2+1)) (j12 (false,v5.2+1)))))) (j12 (v5.1,v5.2)))) (.ok (0,false))) n (false,1)
instance FB (n:Nat) (p0:ByS):CT Tryz.prog 143 [aZ p0] [] (kS n p0) (λx=>.gZ [I x.1,Bo x.2]) (λ_=>[]):=by unfold kS;exact zz Tryz.func143
def iG (n:Nat) (p0:bN):U (Bool×bN):=
 kp [0,1,2,3,4,5,6,7,8,9,10,11,12,13,14] (gd ((0:Int)<=p0.at_/\p0.at_<=(List.length p0.text:Int)) (U.bind (kS n (gB p0.text p0.at_)) λy4=>br (y4.1==0) (.ok (false,p0)) (kp [0,1,2,3,4,5,6,7,8,9,10,11,12,13,14,15] (gd (J (p0.at_+y4.1)) (gd ((0:Int)<=p0.at_/\(p0.at_:Int)<=(p0.at_+y4.1)/\(p0.at_+y4.1)<=(List.length p0.text:Int)) (br y4.2 (gd (J (y4.1 - 1)) (gd ((0:Int)<=1/\(1:Int)<=(y4.1 - 1)/\(y4.1 - 1)<=(List.length (sub p0.text p0.at_ (p0.at_+y4.1)):Int)) (U.bind (gm n (sub (sub p0.text p0.at_ (p0.at_+y4.1)) 1 (y4.1 - 1))) λy19=>br (y19.2.Errno !=0) (.ok (false,p0)) (gd (J (y4.1 - 1)) (gd ((0:Int)<=1/\(1:Int)<=(y4.1 - 1)/\(y4.1 - 1)<=(List.length (sub p0.text p0.at_ (p0.at_+y4.1)):Int)) (U.bind (du 4 (sub (sub p0.text p0.at_ (p0.at_+y4.1)) 1 (y4.1 - 1)) y4.1 p0) λy26=>.ok (true,y26))))))) (U.bind (jX n (sub p0.text p0.at_ (p0.at_+y4.1))) λy29=>br (y29.2.Errno !=0) (.ok (false,p0)) (U.bind (du 3 y29.1 y4.1 p0) λy35=>.ok (true,y35)))))))))
instance C0 (n:Nat) (p0:bN):CT Tryz.prog 101 [.ptr 0 0] [.box [aZ p0.text,I p0.at_,.arr 1 (List.length p0.out),Bo p0.line],.app 49 4 (aY.Cs p0.out)] (iG n p0) (λx=>Bo x.1) (λx=>[.box [aZ x.2.text,I x.2.at_,.arr 1 (List.length x.2.out),Bo x.2.line],.app 49 4 (aY.Cs x.2.out)]):=by unfold iG;exact zz Tryz.func101
def mA (p0:Int):U (Bool):=
 br (decide (p0>=97)) (br (decide (p0<=122)) (.ok (true)) (br (decide (p0>=65)) (br (decide (p0<=90)) (.ok (true)) (.ok ((p0==95)))) (.ok ((p0==95))))) (br (decide (p0>=65)) (br (decide (p0<=90)) (.ok (true)) (.ok ((p0==95)))) (.ok ((p0==95))))
instance GS (p0:Int):CT Tryz.prog 139 [Sc (.int .u8 p0)] [] (mA p0) (λx=>Bo x) (λ_=>[]):=by unfold mA;exact zz Tryz.func139
def qq (n:Nat) (p0:ByS):U (Int):=
 lg 2 (λ(v3:Int)=>[(0,aZ p0),(3,I v3)]) (λ(v3:Int)=>[]) (λ(v3:Int)=>br (v3==1) (el p0 0 λb9=>U.bind (mA (b9.toNat:Int)) λy13=>br (!y13) (.ok (0)) (el p0 0 λb16=>br ((b16.toNat:Int)==95) (.ok (0)) (.ok (v3)))) (.ok (v3))) λj4=>gP (λ(v24:Int)=>[(0,aZ p0),(3,I v24)]) (λ(v24:Int)=>[]) (λnext25 (v24:Int)=>lg 0 (λ(v27:Unit)=>[(0,aZ p0),(3,I v24)]) (λ(v27:Unit)=>[]) (λ(v27:Unit)=>gd (J (v24+1)) (next25 (v24+1))) λj28=>br (decide (v24<(List.length p0:Int))) (el p0 v24 λb33=>U.bind (mA (b33.toNat:Int)) λy37=>br y37 (j28 ()) (br (decide (v24>0)) (el p0 v24 λb40=>U.bind (jk (b40.toNat:Int)) λy44=>br y44 (j28 ()) (br (v24==0) (el p0 v24 λb47=>br ((b47.toNat:Int)==35) (j28 ()) (j4 (v24))) (j4 (v24)))) (br (v24==0) (el p0 v24 λb53=>br ((b53.toNat:Int)==35) (j28 ()) (j4 (v24))) (j4 (v24))))) (j4 (v24))) n (0)
instance I0 (n:Nat) (p0:ByS):CT Tryz.prog 97 [aZ p0] [] (qq n p0) (λx=>I x) (λ_=>[]):=by unfold qq;exact zz Tryz.func97
def hU (n:Nat) (p0:bN):U (Bool×bN):=
 kp [0,1,2,3,4,5,6,7,8,9] (gd ((0:Int)<=p0.at_/\p0.at_<=(List.length p0.text:Int)) (U.bind (strings_HasPrefix (gB p0.text p0.at_) ([47,47]:ByS)) λy6=>br y6 (U.bind (strings_Cut (gB p0.text p0.at_) ([10]:ByS)) λy9=>gd ((0:Int)<=2/\2<=(List.length y9.1:Int)) (U.bind (du 6 (gB y9.1 2) (List.length y9.1:Int) p0) λy12=>.ok (true,y12))) (U.bind (qq n (gB p0.text p0.at_)) λy16=>br (decide (y16>0)) (gd ((0:Int)<=y16/\y16<=(List.length (gB p0.text p0.at_):Int)) (U.bind (du 1 (ob (gB p0.text p0.at_) y16) y16 p0) λy21=>.ok (true,y21))) (el (gB p0.text p0.at_) 0 λb25=>U.bind (jk (b25.toNat:Int)) λy30=>br y30 (U.bind (nR n (gB p0.text p0.at_)) λy33=>gd ((0:Int)<=y33/\y33<=(List.length (gB p0.text p0.at_):Int)) (U.bind (ll n (ob (gB p0.text p0.at_) y33)) λy37=>br (y37.2 !=0) (.ok (false,p0)) (gd ((0:Int)<=y33/\y33<=(List.length (gB p0.text p0.at_):Int)) (U.bind (du 2 (ob (gB p0.text p0.at_) y33) y33 p0) λy42=>.ok (true,y42))))) (br ((b25.toNat:Int)==34) (U.bind (iG n p0) λy47=>.ok (y47.1,y47.2)) (U.bind (mb n (gB p0.text p0.at_)) λy49=>br (y49==([]:ByS)) (.ok (false,p0)) (U.bind (du 5 y49 (List.length y49:Int) p0) λy54=>.ok (true,y54))))))))
instance tG (n:Nat) (p0:bN):CT Tryz.prog 54 [.ptr 0 0] [.box [aZ p0.text,I p0.at_,.arr 1 (List.length p0.out),Bo p0.line],.app 49 4 (aY.Cs p0.out)] (hU n p0) (λx=>Bo x.1) (λx=>[.box [aZ x.2.text,I x.2.at_,.arr 1 (List.length x.2.out),Bo x.2.line],.app 49 4 (aY.Cs x.2.out)]):=by unfold hU;exact zz Tryz.func54
def me (n:Nat) (p0:ByS):U ((List aY)×eS):=
 br (decide ((List.length p0:Int)>65536)) (.ok ([],(eS.mk 2 0))) (iter (λnext10 (v9:bN)=>br (decide (v9.at_<(List.length p0:Int))) (el p0 v9.at_ λb16=>jn (λ(v21:Unit)=>gd (J (v9.at_+1)) (next10 ((bN.mk v9.text (v9.at_+1) v9.out v9.line)))) λj22=>br ((b16.toNat:Int)==10) (br v9.line (U.bind (du 7 ([10]:ByS) 1 v9) λy34=>next10 ((bN.mk y34.text y34.at_ y34.out false))) (j22 ())) (br ((b16.toNat:Int)==32) (j22 ()) (br ((b16.toNat:Int)==9) (j22 ()) (br ((b16.toNat:Int)==13) (j22 ()) (U.bind (hU n v9) λy44=>br (!y44.1) (.ok ([],(eS.mk 8 y44.2.at_))) (next10 (y44.2))))))) (U.bind (du 0 ([]:ByS) 0 v9) λy48=>.ok (y48.out,(eS.mk 0 0)))) n ((bN.mk p0 0 [] false)))
instance sn (n:Nat) (p0:ByS):CT Tryz.prog 24 [aZ p0] [] (me n p0) (λx=>.gZ [.pv (.sl (List.length x.1) (aY.Cs x.1)),.agg [I x.2.Errno,I x.2.At]]) (λ_=>[]):=by
 refine zC Tryz.func24 O λr hp h hr E hE=>ag λ_ hK1=>ab (za O (aM 103 (hE _ O) O4 O ?_));refine zQ hK1 (B6 ?_);refine ag λ_ hK2=>ag λ_ hK3=>ab (zm O (aB (gj O) O (zc O (zQ hK3 (zB O h (λ_ h=>?_) λ_ h=>?_)))))
 ·refine ag λ_ hK5=>ab (aB (cb O O O) O ?_);refine za O (zs O (zQ hK5 (bC (BW (d:=2) O O) ?_)));exact aN (zX (.cons (bT O) (.cons (aU O O O) .nil)) h O)
 refine aD (hK2 _ _ (ag λ_ hK6=>ab (zm O (aB (cj O O) O ?_))));refine lp 111 (hE _ O) O7 O ?_;refine za O (zQ hK6 (ag λ_ hK7=>BC ?_));refine hK7 _ _ (ag λ_ hK8=>ba (bC (tS (j:=111) (off:=2) 27106 (sz:=4) (el:=49) (hE _ O) O O O3 O) ?_));refine zL hr h (λ(v9:bN)=>[(0,aZ p0),(3,.ptr 103 0),(4,.ptr 111 0)]) (λ(v9:bN)=>[(103,.box [I 0,I 0]),(111,.box [aZ v9.text,I v9.at_,.arr 27106 (List.length v9.out),Bo v9.line]),(27106,.app 49 4 (aY.Cs v9.out))]) O λ_ v9 _ hK11 h=>ag λ_ hK12=>ag λ_ hK13=>ab (zm O (zn O (zf O (zl O (zm O (aB (gj O) O (zc O (zQ hK13 (zB O h (λ_ h=>?_) λ_ h=>?_)))))))))
 ·refine aD (hK12 _ _ (ba (ag λ_ hK15=>ab (zm O (zm O (zn O (zf O (zl O (ze hr h λb16 h17 h18 h19 h=>aB (gi O O h17 h19) O (zQ hK15 (ba (ag λ_ hK20=>ba (zM h (λ(v21:Unit)=>[(0,aZ p0),(3,.ptr 103 0),(4,.ptr 111 0)]) (λ(v21:Unit)=>[(103,.box [I 0,I 0]),(111,.box [aZ v9.text,I v9.at_,.arr 27106 (List.length v9.out),Bo v9.line]),(27106,.app 49 4 (aY.Cs v9.out))]) (λv21 h=>?_) λ_ _ hK23 h=>?_)))))))))))))
  ·exact ag λ_ hK24=>ab (zm O (zn O (zf O (zl O (zd hr h λhg25 h=>zo hg25 O (zn O (zf O (zs O (zQ hK24 (cx (hK11 _ _ _ h O)))))))))))
  refine ba (ag λ_ hK26=>ba (ag λ_ hK27=>ag λ_ hK28=>ag λ_ hK29=>ab (zc O (za O (zQ hK29 (zB O h (λ_ h=>?_) λ_ h=>?_))))))
  ·refine cx (hK26 _ _ (ag λ_ hK31=>ab (zm O (zn O (zf O (zl O (zQ hK31 (zB O h (λ_ h=>?_) λ_ h=>?_))))))))
   ·refine ag λ_ hK33=>ab (zm O (oa hr h [111,27106] Tryz.call53 (px 7 ([10]:ByS) 1 v9) ⟨O,O,O,O,O,O,⟨hE _ O,trivial⟩⟩ O (λ_=>O3) (λ_=>O2) hp (λy34 h=>?_)));exact zQ hK33 (ag λ_ hK35=>ab (zm O (zn O (zf O (zs O (zQ hK35 (cx (hK11 _ _ _ h O))))))))
   exact aD (hK23 _ _ _ h O)
  refine aD (hK28 _ _ (ag λ_ hK36=>ag λ_ hK37=>ab (zc O (za O (zQ hK37 (zB O h (λhb38 h=>?_) λ_ h=>?_))))))
  ·refine aD (hK36 _ _ (iz O (λhc=>?_) (λhc=>?_)))
   ·exact cx (hK23 _ _ _ h O)
   exact absurd (hb38.symm.trans hc) (by simp)
  refine ag λ_ hK39=>ab (zc O (za O (zQ hK39 (zB O h (λhb40 h=>?_) λ_ h=>?_))))
  ·refine aD (hK36 _ _ (iz O (λhc=>?_) (λhc=>?_)))
   ·exact cx (hK23 _ _ _ h O)
   exact absurd (hb40.symm.trans hc) (by simp)
  refine ab (zc O (za O (zQ hK36 (zB O h (λ_ h=>?_) λ_ h=>?_))))
  ·exact cx (hK23 _ _ _ h O)
  refine aD (hK27 _ _ (cx (hK20 _ _ (ag λ_ hK42=>ag λ_ hK43=>ab (zm O (oa hr h [111,27106] Tryz.call54 (tG n v9) ⟨O,O,O,O,O,O,⟨hE _ O,trivial⟩⟩ O (λ_=>O3) (λ_=>O2) hp (λy44 h=>?_)))))));refine aB (iX O) O (zQ hK43 (zB O h (λ_ h=>?_) λ_ h=>?_))
  ·refine ag λ_ hK46=>cE [0,1,2,3,4,5,6] O (by kernel_rfl) (zD O (aK O) O (zD O (eH O) O (zD O (fa O) O (zD O (ju [.any,I y44.2.at_,.any,.any] O O ⟨.inr O,.inl O,.inr O,.inr O,trivial⟩ O) O (zD O (cb O O O) O ?_)))));refine mu O O O (db ⟨trivial,⟨⟨⟨_,O,bh.iB ⟨.inr O,.inl O,.inr O,.inr O,trivial⟩⟩,trivial⟩,⟨trivial,⟨trivial,⟨trivial,trivial⟩⟩⟩⟩⟩) O (cg O O8 O (λe6 he=>⟨aQ O,?_⟩));subst he;refine eR (hK46 _ _ (bC (BW (d:=2) O O) ?_));exact aN (zX (.cons (bT O) (.cons (aU O O O) .nil)) h O)
  exact aD (hK42 _ _ (cx (hK11 _ _ _ h O)))
 refine cx (hK8 _ _ (ag λ_ hK47=>ab (zm O (oa hr h [111,27106] Tryz.call53 (px 0 ([]:ByS) 0 v9) ⟨O,O,O,O,O,O,⟨hE _ O,trivial⟩⟩ O (λ_=>O3) (λ_=>O2) hp (λy48 h=>?_)))));refine zQ hK47 (ag λ_ hK49=>ab (zm O (zn O (zf O (aB (pY aY.bq aY.cw O O O O O) O ?_)))));refine aB (cb O O O) O ?_;exact za O (zs O (zQ hK49 (aN (zX (.cons (bT O) (.cons (aU O O O) .nil)) h O))))
end Go.Abs
end
