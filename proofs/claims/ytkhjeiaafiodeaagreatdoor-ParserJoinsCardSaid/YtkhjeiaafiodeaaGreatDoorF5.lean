/- PROVED: lemmas of the proof of: a law CONDITIONS: as each lemma states. -/
import Derived.Test.YtkhjeiaafiodeaaGreatDoorF4
section
namespace Go.Abs
open Go.Proofs al
def cV (n:Nat) (p0:L):al (bY×L):=
 al.bind (be n p0) λy3=>gd (dY (y3.2.at_+1)) (jn (λ(v6:L×bY)=>al.bind (ar n v6.1) λy10=>jn (λ(v11:L)=>jn (λ(v15:L×bY)=>gd (dY (v15.1.at_+1)) (al.bind (c7 n (L.mk v15.1.text v15.1.bd (v15.1.at_+1) v15.1.base v15.1.skip v15.1.pending)) λy21=>.ok (v15.2,y21))) λj16=>br (v6.2.Name==([]:ByS)) (al.bind (strings_LastIndex y10.1.Text ([47]:ByS)) λy26=>gd (dY (y26+1)) (gd ((0:Int)<=(y26+1)/\(y26+1)<=(List.length y10.1.Text:Int)) (al.bind (fv n (dI y10.1.Text (y26+1))) λy30=>br (!y30) (al.bind (aV n v11) λy32=>j16 (y32,(bY.mk (dI y10.1.Text (y26+1)) y10.1.Text v6.2.Pos))) (j16 (v11,(bY.mk (dI y10.1.Text (y26+1)) y10.1.Text v6.2.Pos)))))) (j16 (v11,(bY.mk v6.2.Name y10.1.Text v6.2.Pos)))) λj12=>br (y10.1.Kind !=3) (al.bind (aV n (L.mk y10.2.text y10.2.bd y10.2.at_ v6.1.base y10.2.skip y10.2.pending)) λy35=>j12 (y35)) (j12 ((L.mk y10.2.text y10.2.bd y10.2.at_ v6.1.base y10.2.skip y10.2.pending)))) λj7=>al.bind (ar n (L.mk y3.2.text y3.2.bd (y3.2.at_+1) y3.2.base y3.2.skip y3.2.pending)) λy37=>br (y37.1.Kind==1) (al.bind (cx n (L.mk y37.2.text y37.2.bd y37.2.at_ y3.2.base y37.2.skip y37.2.pending)) λy39=>j7 (y39.2,(bY.mk y39.1 [] y3.1))) (j7 ((L.mk y37.2.text y37.2.bd y37.2.at_ y3.2.base y37.2.skip y37.2.pending),(bY.mk [] [] y3.1))))
theorem lJ (n:Nat) (p0:L):CT Tryz.prog 59 [.ptr 0 0] [.box (K p0)] (cV n p0) (λx=>.agg [F x.1.Name,F x.1.Path,I x.1.Pos]) (λx=>[.box (K x.2)]):=by
 refine zC Tryz.func59 O λr hp h hr E hE=>D λ_ hK1=>A (aJ 102 (hE _ O) O4 O ?_);refine zQ hK1 (D λ_ hK2=>A (zm O (zk hp hr h [0] Tryz.call75 (cq n p0) O (λ_=>rfl) λy3 h=>J (bQ O O O) O ?_)));refine aJ 103 (hE _ O) O4 O ?_;refine zs O (zQ hK2 (D λ_ hK4=>A (zm O (zn O (zf O (zl O (zd hr h λhg5 h=>zo hg5 O (zn O (zf O (zs O (zQ hK4 (zM h (λ(v6:L×bY)=>[(0,.ptr 0 0),(2,.ptr 102 0),(3,.ptr 103 0)]) (λ(v6:L×bY)=>[(0,.box (K v6.1)),(102,.box [F [],F [],I 0]),(103,.box [F v6.2.Name,F v6.2.Path,I v6.2.Pos])]) (λv6 h=>?_) λ_ _ hK8 h=>?_))))))))))))
 ·refine D λ_ hK9=>A (zm O (zk hp hr h [0] Tryz.call34 (aI n v6.1) O (λ_=>rfl) λy10 h=>aJ 104 (hE _ O) O4 O ?_));refine zs O (zQ hK9 (zM h (λ(v11:L)=>[(0,.ptr 0 0),(2,.ptr 102 0),(3,.ptr 103 0),(4,.ptr 104 0)]) (λ(v11:L)=>[(0,.box (K v11)),(102,.box [F [],F [],I 0]),(103,.box [F v6.2.Name,F v6.2.Path,I v6.2.Pos]),(104,.box (gy y10.1))]) (λv11 h=>?_) λ_ _ hK13 h=>?_))
  ·refine D λ_ hK14=>A (zf O (zl O (zf O (zs O (zQ hK14 (zM h (λ(v15:L×bY)=>[(0,.ptr 0 0),(2,.ptr 102 0),(3,.ptr 103 0)]) (λ(v15:L×bY)=>[(0,.box (K v15.1)),(102,.box [F [],F [],I 0]),(103,.box [F v15.2.Name,F v15.2.Path,I v15.2.Pos])]) (λv15 h=>?_) λ_ _ hK17 h=>?_))))))
   ·refine D λ_ hK18=>A (zm O (zn O (zf O (zl O (zd hr h λhg19 h=>zo hg19 O (zn O (zf O (zs O (zQ hK18 (D λ_ hK20=>A (zm O (zk hp hr h [0] Tryz.call58 (lA n (L.mk v15.1.text v15.1.bd (v15.1.at_+1) v15.1.base v15.1.skip v15.1.pending)) O (λ_=>rfl) λy21 h=>zQ hK20 (D λ_ hK22=>A (zA O ?_))))))))))))));exact zs O (zQ hK22 (H (zX (.cons (aY O O O) .nil) h O)))
   refine D λ_ hK23=>A (zf O (zl O (J (jQ O O) O (zQ hK23 (zB O h (λ_ h=>?_) λ_ h=>?_)))))
   ·refine D λ_ hK25=>bG [0,1,2,3,4,5,6,7,8] O (by kernel_rfl) (zD O (o O) O (zD O (fV [.any,F y10.1.Text,.any] O O ⟨.inr O,.inl O,.inr O,trivial⟩ O) O (zD O (o O) O (zD O (bb O O O) O (ej O (bV O) hr h [] Tryz.call104 (tz y10.1.Text ([47]:ByS)) ⟨O,O,O,O,O,O,trivial⟩ O O (λ_=>O3) (λ_=>O2) hp (λy26 h=>⟨cW ⟨trivial,⟨trivial,⟨⟨⟨_,O,M.fN ⟨.inr O,.inl O,.inr O,trivial⟩⟩,trivial⟩,⟨trivial,trivial⟩⟩⟩⟩,?_⟩))))));refine zd hr h λhg27 h=>zD O (mg O O hg27) O (zd hr h λhg28 h=>zD O (iX O O hg28.1 hg28.2) O (zD O (o O) O (ck O O8 O (λe8 he=>⟨aK O,?_⟩))));subst he;refine cY (hK25 _ _ (D λ_ hK29=>A (zf O (zl O (zk hp hr h [] Tryz.call62 (gY n (dI y10.1.Text (y26+1))) O (λ_=>rfl) λy30 h=>J (fu O) O (zQ hK29 (zB O h (λ_ h=>?_) λ_ h=>?_)))))))
    ·exact A (zm O (zk hp hr h [0] Tryz.call35 (bC n v11) O (λ_=>rfl) λy32 h=>N (hK17 _ _ _ h O)))
    exact V (hK17 _ _ _ h O)
   exact V (hK17 _ _ _ h O)
  refine D λ_ hK33=>A (zf O (zl O (zc O (zQ hK33 (zB O h (λ_ h=>?_) λ_ h=>?_)))))
  ·exact A (zm O (zk hp hr h [0] Tryz.call35 (bC n (L.mk y10.2.text y10.2.bd y10.2.at_ v6.1.base y10.2.skip y10.2.pending)) O (λ_=>rfl) λy35 h=>N (hK13 _ _ _ h O)))
  exact V (hK13 _ _ _ h O)
 refine D λ_ hK36=>A (zm O (zk hp hr h [0] Tryz.call34 (aI n (L.mk y3.2.text y3.2.bd (y3.2.at_+1) y3.2.base y3.2.skip y3.2.pending)) O (λ_=>rfl) λy37 h=>J (k9 O O) O ?_));refine zc O (zQ hK36 (zB O h (λ_ h=>?_) λ_ h=>?_))
 ·exact A (zm O (zk hp hr h [0] Tryz.call57 (gP n (L.mk y37.2.text y37.2.bd y37.2.at_ y3.2.base y37.2.skip y37.2.pending)) O (λ_=>rfl) λy39 h=>zf O (zs O (N (hK8 _ _ _ h O)))))
 exact V (hK8 _ _ _ h O)
def cL (n:Nat) (p0:L):al (cu×L):=
 al.bind (cl n p0) λy4=>jn (λ(v5:L×cu×(List ByS))=>jn (λ(v8:L×cu)=>al.bind (dX n v5.2.2 true v8.1) λy12=>al.bind (ar n y12.2.2) λy15=>br (y15.1.Kind !=0) (al.bind (aV n (L.mk y15.2.text y15.2.bd y15.2.at_ y12.2.2.base y15.2.skip y15.2.pending)) λy17=>.ok ((cu.mk v8.2.cb v8.2.bo y12.1 y12.2.1),y17)) (.ok ((cu.mk v8.2.cb v8.2.bo y12.1 y12.2.1),(L.mk y15.2.text y15.2.bd y15.2.at_ y12.2.2.base y15.2.skip y15.2.pending)))) λj9=>iter (λnext21 (v20:L×cu)=>al.bind (ar n v20.1) λy25=>al.bind (bI y25.1 ([105,109,112,111,114,116]:ByS)) λy26=>br y26 (br ((List.length v20.2.bo:Int)==0) (al.bind (cV n (L.mk y25.2.text y25.2.bd y25.2.at_ v20.1.base y25.2.skip y25.2.pending)) λy29=>gd (lz 40 (List.length v20.2.bo) (List.length [y29.1])) (next21 (y29.2,(cu.mk v20.2.cb (v20.2.bo++[y29.1]) [] [])))) (gd (dY (y25.2.at_ - 1)) (el y25.2.bd (y25.2.at_ - 1) λx32=>br (x32.Kind !=6) (al.bind (cV n (L.mk y25.2.text y25.2.bd y25.2.at_ v20.1.base y25.2.skip y25.2.pending)) λy37=>gd (lz 40 (List.length v20.2.bo) (List.length [y37.1])) (next21 (y37.2,(cu.mk v20.2.cb (v20.2.bo++[y37.1]) [] [])))) (j9 ((L.mk y25.2.text y25.2.bd y25.2.at_ v20.1.base y25.2.skip y25.2.pending),(cu.mk v20.2.cb v20.2.bo [] [])))))) (j9 ((L.mk y25.2.text y25.2.bd y25.2.at_ v20.1.base y25.2.skip y25.2.pending),(cu.mk v20.2.cb v20.2.bo [] [])))) n (v5.1,(cu.mk v5.2.1.cb [] [] []))) λj6=>al.bind (ar n y4.2) λy40=>al.bind (bI y40.1 ([112,97,99,107,97,103,101]:ByS)) λy41=>br y41 (gd (dY (y40.2.at_+1)) (al.bind (cx n (L.mk y40.2.text y40.2.bd (y40.2.at_+1) y4.2.base y40.2.skip y40.2.pending)) λy46=>al.bind (c7 n y46.2) λy48=>al.bind (iu n y48) λy49=>gd (lz 16 (List.length y4.1) (List.length y49.1)) (j6 (y49.2,(cu.mk y46.1 [] [] []),y4.1++y49.1)))) (j6 ((L.mk y40.2.text y40.2.bd y40.2.at_ y4.2.base y40.2.skip y40.2.pending),(cu.mk [] [] [] []),y4.1))
theorem sV (n:Nat) (p0:L):CT Tryz.prog 27 [.ptr 0 0] [.box (K p0)] (cL n p0) (λx=>.agg (kp x.1)) (λx=>[.box (K x.2)]):=by
 refine zC Tryz.func27 O λr hp h hr E hE=>D λ_ hK1=>A (aJ 102 (hE _ O) O4 O ?_);refine zQ hK1 (D λ_ hK2=>A (aJ 103 (hE _ O) O4 O ?_));refine zQ hK2 (D λ_ hK3=>A (zm O (aX (EJ 3106 (sz:=1) (el:=9) (hE _ O) O3) ?_)));refine jU hr h [0,3106] Tryz.call55 (pY n p0) ⟨O,O,O,O,O,O,⟨hE _ O,trivial⟩⟩ O (λ_=>O3) (λ_=>O2) hp (λy4 h=>?_);refine za O (aX (la 3106 10004 [(0,.ptr 0 0),(2,.ptr 102 0),(3,.ptr 103 0),(4,.arr 10004 (List.length y4.1))] [(0,.box (K y4.2)),(102,.box [F [],nSl,nSl,nSl]),(103,.box [F [],nSl,nSl,nSl])] (hE _ O) O O O2 ⟨⟨_,O,O,O⟩,⟨_,O,O,O⟩,⟨_,O,O,O⟩,⟨_,O,O,O⟩,trivial⟩ ⟨⟨_,O,O,O,O,O⟩,⟨_,O,O,O,O,O⟩,⟨_,O,O,O,O,O⟩,trivial⟩) ?_);refine zQ hK3 (zM h (λ(v5:L×cu×(List ByS))=>[(0,.ptr 0 0),(2,.ptr 102 0),(3,.ptr 103 0),(4,.arr 10004 (List.length v5.2.2))]) (λ(v5:L×cu×(List ByS))=>[(0,.box (K v5.1)),(102,.box [F [],nSl,nSl,nSl]),(103,.box [F v5.2.1.cb,nSl,nSl,nSl]),(10004,.app 9 1 (cn v5.2.2))]) (λv5 h=>?_) λ_ _ hK7 h=>?_)
 ·refine zM h (λ(v8:L×cu)=>[(0,.ptr 0 0),(2,.ptr 102 0),(3,.ptr 103 0),(4,.arr 10004 (List.length v5.2.2))]) (λ(v8:L×cu)=>[(0,.box (K v8.1)),(102,.box [F [],nSl,nSl,nSl]),(103,.box [F v8.2.cb,.arr 26593 (List.length v8.2.bo),nSl,nSl]),(10004,.app 9 1 (cn v5.2.2)),(26593,.app 65 3 (bY.Cs v8.2.bo))]) (λv8 h=>?_) λ_ _ hK10 h=>?_
  ·refine D λ_ hK11=>A (zm O (zm O (IS [(0,.ptr 0 0),(2,.ptr 102 0),(3,.ptr 103 0),(58,.ptr 0 0)] ⟨O,O,O,O,trivial⟩ hr h [0,10004] Tryz.call60 (se n v5.2.2 true v8.1) ⟨O,O,O,O,O,O,⟨hE _ O,trivial⟩⟩ O (λ_=>O3) (λ_=>O2) hp (λy12 h=>?_))));refine zm O (zx O (zx O (zf O (zs O (zf O (zs O (zQ hK11 (D λ_ hK13=>D λ_ hK14=>A (zm O (zk hp hr h [0] Tryz.call34 (aI n y12.2.2) O (λ_=>rfl) λy15 h=>J (k9 O O) O ?_))))))))));refine zc O (zQ hK14 (zB O h (λ_ h=>?_) λ_ h=>?_))
   ·refine A (zm O (zk hp hr h [0] Tryz.call35 (bC n (L.mk y15.2.text y15.2.bd y15.2.at_ y12.2.2.base y15.2.skip y15.2.pending)) O (λ_=>rfl) λy17 h=>zQ hK13 (D λ_ hK18=>A (aX (w7 (j:=103) (off:=1) bY.y bY.bW O O O O O) ?_))));refine zA O ?_;exact zs O (zQ hK18 (H (zX (.cons (aY O O O) .nil) h O)))
   refine V (hK13 _ _ (D λ_ hK19=>A (aX (w7 (j:=103) (off:=1) bY.y bY.bW O O O O O) ?_)));refine zA O ?_;exact zs O (zQ hK19 (H (zX (.cons (aY O O O) .nil) h O)))
  refine aE (ca (qV (j:=103) (off:=1) 26593 (sz:=3) (el:=65) (hE _ O) O O O3 O) ?_);refine zL hr h (λ(v20:L×cu)=>[(0,.ptr 0 0),(2,.ptr 102 0),(3,.ptr 103 0),(4,.arr 10004 (List.length v5.2.2))]) (λ(v20:L×cu)=>[(0,.box (K v20.1)),(102,.box [F [],nSl,nSl,nSl]),(103,.box [F v20.2.cb,.arr 26593 (List.length v20.2.bo),nSl,nSl]),(10004,.app 9 1 (cn v5.2.2)),(26593,.app 65 3 (bY.Cs v20.2.bo))]) O λ_ v20 _ hK22 h=>D λ_ hK23=>D λ_ hK24=>bG [0,1,2,3,4,5,6,7,8,9,10,11,12,13,14,15,16,17,18,19,20,21,22,23] O (by kernel_rfl) (zD O (W O) O (ej O (bV O) hr h [0] Tryz.call34 (aI n v20.1) ⟨O,O,O,O,O,O,trivial⟩ O O (λ_=>O3) (λ_=>O2) hp (λy25 h=>⟨aK O,?_⟩)));refine ej O (bV O) hr h [] Tryz.call56 (iB y25.1 ([105,109,112,111,114,116]:ByS)) ⟨O,O,O,O,O,O,trivial⟩ O O (λ_=>O3) (λ_=>O2) hp (λy26 h=>⟨aK O,?_⟩);refine zD O (W O) O (zb y26 (λhb27=>?_) λhb27=>?_)
  ·refine z1 hb27 h λh=>dH hb27 O O2 (o O) O3 ?_;refine dH hb27 O O2 (oI bY.y bY.bW O O O O O) O3 ?_;refine dH hb27 O O2 (cD O) O3 ?_;refine dH hb27 O O2 (bq O O O) O3 ?_;refine dH hb27 O O2 (W O) O3 ?_;refine zb ((List.length v20.2.bo:Int)==0) (λhb28=>?_) λhb28=>?_
   ·refine z1 hb28 h λh=>dF hb28 O O2 O2 ?_;refine dF hb28 O O2 O2 ?_;refine dF hb28 O O2 O2 ?_;refine dF hb28 O O2 O2 ?_;refine dF hb28 O O2 O2 ?_;refine dF hb28 O O2 O2 ?_;refine dF hb28 O O2 O2 ?_;refine dF hb28 O O2 O2 ?_;refine dF hb28 O O2 O2 ?_;refine dF hb28 O O2 O2 ?_;refine dF hb28 O O2 O2 ?_;refine dF hb28 O O2 O2 ?_;refine dF hb28 O O2 O2 ?_;refine dH hb27 O O2 (dU hb28 O O) O3 ?_;refine zD O (dU hb27 O O) O (cY (hK24 _ _ (df O (λhc=>?_) (λhc=>?_))))
    ·refine V (hK23 _ _ (aE (mL [] ?_)));refine bG [0,1,2,3,4,5,6,7] O (by kernel_rfl) (zD O (o O) O (zD O (fV [.any,.arr 26593 (List.length v20.2.bo),.any,.any] O O ⟨.inr O,.inl O,.inr O,.inr O,trivial⟩ O) O (zD O (W O) O (ej O (bV O) hr h [0] Tryz.call59 (lJ n (L.mk y25.2.text y25.2.bd y25.2.at_ v20.1.base y25.2.skip y25.2.pending)) ⟨O,O,O,O,O,O,trivial⟩ O O (λ_=>O3) (λ_=>O2) hp (λy29 h=>⟨cW ⟨trivial,⟨⟨⟨_,O,M.fN ⟨.inr O,.inl O,.inr O,.inr O,trivial⟩⟩,trivial⟩,⟨trivial,trivial⟩⟩⟩,?_⟩)))));refine jb [y29.1] bY.y O (bV O) O2 O2 ?_;refine zd hr h λhg30 h=>vl 155 O (bV O) ⟨kH.h,fg.h,bY.y,bY.bW,bY.ju,hE _ O,O,O,(.inl O),O3,hg30⟩ O O ⟨aK O,?_⟩;refine zD O (o O) O (ck O O8 O (λe7 he=>⟨aK O,?_⟩));subst he;refine gV (la 155 26593 [(0,.ptr 0 0),(2,.ptr 102 0),(3,.ptr 103 0),(4,.arr 10004 (List.length v5.2.2))] [(10004,.app 9 1 (cn v5.2.2)),(0,.box (K y29.2)),(102,.box [F [],nSl,nSl,nSl]),(103,.box [F v20.2.cb,.arr 26593 (List.length (v20.2.bo++[y29.1])),nSl,nSl])] (hE _ O) O O O2 ⟨⟨_,O,O,O⟩,⟨_,O,O,O⟩,⟨_,O,O,O⟩,⟨_,O,O,O⟩,trivial⟩ ⟨⟨_,O,O,O,O,O⟩,⟨_,O,O,O,O,O⟩,⟨_,O,O,O,O,O⟩,⟨_,O,O,O,O,O⟩,trivial⟩) ?_;exact hK22 _ _ _ h O
    exact absurd (hc) (by simp)
   refine z2 hb28 h λh=>dH hb28 O O2 (W O) O3 ?_;refine dH hb28 O O2 (dy O) O3 ?_;refine dH hb28 O O2 (o O) O3 ?_;refine dH hb28 O O2 (bb O O O) O3 ?_;refine dH hb28 O O2 (W O) O3 ?_;refine dH hb28 O O2 (dy O) O3 ?_;refine dH hb28 O O2 (o O) O3 ?_;refine dH hb28 O O2 (bb O O O) O3 ?_;refine zd hr h λhg31 h=>dH hb28 O O2 (rM O O hg31) O3 ?_;refine ze hr h λx32 h33 h34 h35 h=>dH hb28 O O2 (iF aB.y aB.bW h33 h34 h35 O O O) O3 ?_;refine dH hb28 O O2 (kO O O) O3 ?_;refine dH hb28 O O2 (gI O O) O3 ?_;refine dH hb28 O O2 (bq O O O) O3 ?_;refine dH hb27 O O2 (dJ hb28 O O) O3 ?_;refine zD O (dU hb27 O O) O (cY (hK24 _ _ (zB O h (λ_ h=>?_) λ_ h=>?_)))
   ·refine V (hK23 _ _ (aE (mL [] ?_)));refine bG [0,1,2,3,4,5,6,7] O (by kernel_rfl) (zD O (o O) O (zD O (fV [.any,.arr 26593 (List.length v20.2.bo),.any,.any] O O ⟨.inr O,.inl O,.inr O,.inr O,trivial⟩ O) O (zD O (W O) O (ej O (bV O) hr h [0] Tryz.call59 (lJ n (L.mk y25.2.text y25.2.bd y25.2.at_ v20.1.base y25.2.skip y25.2.pending)) ⟨O,O,O,O,O,O,trivial⟩ O O (λ_=>O3) (λ_=>O2) hp (λy37 h=>⟨cW ⟨trivial,⟨⟨⟨_,O,M.fN ⟨.inr O,.inl O,.inr O,.inr O,trivial⟩⟩,trivial⟩,⟨trivial,trivial⟩⟩⟩,?_⟩)))));refine jb [y37.1] bY.y O (bV O) O2 O2 ?_;refine zd hr h λhg38 h=>vl 155 O (bV O) ⟨kH.h,fg.h,bY.y,bY.bW,bY.ju,hE _ O,O,O,(.inl O),O3,hg38⟩ O O ⟨aK O,?_⟩;refine zD O (o O) O (ck O O8 O (λe7 he=>⟨aK O,?_⟩));subst he;refine gV (la 155 26593 [(0,.ptr 0 0),(2,.ptr 102 0),(3,.ptr 103 0),(4,.arr 10004 (List.length v5.2.2))] [(10004,.app 9 1 (cn v5.2.2)),(0,.box (K y37.2)),(102,.box [F [],nSl,nSl,nSl]),(103,.box [F v20.2.cb,.arr 26593 (List.length (v20.2.bo++[y37.1])),nSl,nSl])] (hE _ O) O O O2 ⟨⟨_,O,O,O⟩,⟨_,O,O,O⟩,⟨_,O,O,O⟩,⟨_,O,O,O⟩,trivial⟩ ⟨⟨_,O,O,O,O,O⟩,⟨_,O,O,O,O,O⟩,⟨_,O,O,O,O,O⟩,⟨_,O,O,O,O,O⟩,trivial⟩) ?_;exact hK22 _ _ _ h O
   exact bw (hK10 _ _ _ h O)
  refine z2 hb27 h λh=>dF hb27 O O2 O2 ?_;refine dF hb27 O O2 O2 ?_;refine dF hb27 O O2 O2 ?_;refine dF hb27 O O2 O2 ?_;refine dF hb27 O O2 O2 ?_;refine qk O O2 O2 ?_;refine qk O O2 O2 ?_;refine qk O O2 O2 ?_;refine qk O O2 O2 ?_;refine qk O O2 O2 ?_;refine qk O O2 O2 ?_;refine qk O O2 O2 ?_;refine qk O O2 O2 ?_;refine qk O O2 O2 ?_;refine qk O O2 O2 ?_;refine qk O O2 O2 ?_;refine qk O O2 O2 ?_;refine qk O O2 O2 ?_;refine dF hb27 O O2 O2 ?_;refine zD O (dJ hb27 O O) O (cY (hK24 _ _ (df O (λhc=>?_) (λhc=>?_))))
  ·exact absurd (hc) (by simp)
  exact bw (hK10 _ _ _ h O)
 refine D λ_ hK39=>A (zm O (zk hp hr h [0] Tryz.call34 (aI n y4.2) O (λ_=>rfl) λy40 h=>zk hp hr h [] Tryz.call56 (iB y40.1 ([112,97,99,107,97,103,101]:ByS)) O (λ_=>rfl) λy41 h=>zQ hK39 (zB O h (λ_ h=>?_) λ_ h=>?_)))
 ·refine D λ_ hK43=>A (zm O (zn O (zf O (zl O (zd hr h λhg44 h=>zo hg44 O (zn O (zf O (zs O (zQ hK43 (D λ_ hK45=>A (zm O (zk hp hr h [0] Tryz.call57 (gP n (L.mk y40.2.text y40.2.bd (y40.2.at_+1) y4.2.base y40.2.skip y40.2.pending)) O (λ_=>rfl) λy46 h=>zf O (zs O (zQ hK45 (D λ_ hK47=>A (zm O (zk hp hr h [0] Tryz.call58 (lA n y46.2) O (λ_=>rfl) λy48 h=>zQ hK47 (A ?_))))))))))))))))));refine zm O (zm O (zk hp hr h [0] Tryz.call55 (oA n y48) O (λ_=>rfl) λy49 h=>zd hr h λhg50 h=>mT 125 ⟨kH.h,fg.h,ga,iU,sG,hE _ O,O,O,(.inl O),O3,hg50⟩ O ?_));refine za O (aX (la 125 10004 [(0,.ptr 0 0),(2,.ptr 102 0),(3,.ptr 103 0),(4,.arr 10004 (List.length (y4.1++y49.1)))] [(0,.box (K y49.2)),(102,.box [F [],nSl,nSl,nSl]),(103,.box [F y46.1,nSl,nSl,nSl])] (hE _ O) O O O2 ⟨⟨_,O,O,O⟩,⟨_,O,O,O⟩,⟨_,O,O,O⟩,⟨_,O,O,O⟩,trivial⟩ ⟨⟨_,O,O,O,O,O⟩,⟨_,O,O,O,O,O⟩,⟨_,O,O,O,O,O⟩,trivial⟩) ?_);exact N (hK7 _ _ _ h O)
 exact V (hK7 _ _ _ h O)
def eo (n:Nat) (p0:cu):al (Int):=
 jn (λ(v3:X)=>iter (λnext9 (v8:X×Int)=>br (decide (v8.2<(List.length p0.bo:Int))) (el p0.bo v8.2 λIi=>al.bind (fv n Ii.Name) λy20=>al.bind (az n [y20] v8.1) λy21=>gd (dY (v8.2+1)) (next9 (y21,v8.2+1))) (al.bind (bM n p0.Decls true 1 v8.1) λy24=>al.bind (dG y24) λy26=>.ok (y26.1))) n (v3,0)) λj4=>br (p0.cb==([]:ByS)) (al.bind (eO n p0.bT) λy28=>al.bind (az n [true,y28] (X.mk false false)) λy29=>j4 (y29)) (al.bind (fv n p0.cb) λy30=>al.bind (eO n p0.bT) λy31=>al.bind (az n [y30,y31] (X.mk false false)) λy32=>j4 (y32))
theorem xm (n:Nat) (p0:cu):CT Tryz.prog 28 [.agg (kp p0)] [] (eo n p0) (λx=>I x) (λ_=>[]):=by
 refine zC Tryz.func28 O λr hp h hr E hE=>D λ_ hK1=>A (eD 101 (hE _ O) O7 O ?_);refine za O (zQ hK1 (D λ_ hK2=>A (J (bQ O O O) O ?_)));refine eD 107 (hE _ O) O7 O ?_;refine za O (zQ hK2 (zM h (λ(v3:X)=>[(0,.agg (kp p0)),(1,.ptr 101 0),(3,.ptr 107 0)]) (λ(v3:X)=>[(101,.box (kp p0)),(107,.box (aH v3))]) (λv3 h=>?_) λ_ _ hK5 h=>?_))
 ·refine D λ_ hK6=>D λ_ hK7=>A (zf O (zl O (J (cD O) O (zm O (zQ hK7 (aE (zL hr h (λ(v8:X×Int)=>[(0,.agg (kp p0)),(1,.ptr 101 0),(3,.ptr 107 0),(23,.pv (.sl (List.length p0.bo) (bY.Cs p0.bo))),(24,I (List.length p0.bo:Int)),(25,I v8.2)]) (λ(v8:X×Int)=>[(101,.box (kp p0)),(107,.box (aH v8.1))]) O λ_ v8 _ hK10 h=>D λ_ hK11=>A (zc O (zQ hK11 (D λ_ hK12=>zB O h (λ_ h=>?_) λ_ h=>?_))))))))))
  ·refine V (hK12 _ _ (D λ_ hK14=>aE (D λ_ hK15=>A (ze hr h λIi h17 h18 h19 h=>J (iF bY.y bY.bW h17 h18 h19 O O O) O (J (ji O O) O ?_)))));refine aJ 105 (hE _ O) O4 O ?_;refine zs O (zQ hK15 (A (zm O (zf O (zl O (zk hp hr h [] Tryz.call62 (gY n Ii.Name) O (λ_=>rfl) λy20 h=>cf [y20] bE O2 O ?_))))));exact zk hp hr h [107] Tryz.call61 (aC n [y20] v8.1) O (λ_=>rfl) λy21 h=>zQ hK14 (A (zd hr h λhg22 h=>zo hg22 O (zm O (N (hK10 _ _ _ h O)))))
  exact bw (hK6 _ _ (D λ_ hK23=>A (zm O (zf O (zl O (zk hp hr h [107] Tryz.call64 (ru n p0.Decls true 1 v8.1) O (λ_=>rfl) λy24 h=>zQ hK23 (D λ_ hK25=>A (zm O (zk hp hr h [107] Tryz.call65 (mA y24) O (λ_=>rfl) λy26 h=>za O (zQ hK25 (H (z O h O))))))))))))
 refine bG [0,1,2,3,4,5,6,9,10,7,8,11,12,13] O (by kernel_rfl) (zD O (W O) O (zD O (o O) O (zD O (bb O O O) O (zD O (jQ O O) O (zD O (W O) O (zb (p0.cb==([]:ByS)) (λhb27=>?_) λhb27=>?_))))))
 ·refine z1 hb27 h λh=>dF hb27 O O2 O2 ?_;refine dF hb27 O O2 O2 ?_;refine zD O (o O) O (zD O (fV [.any,.any,.any,.pv (.sl (List.length p0.bT) (cn p0.bT))] O O ⟨.inr O,.inr O,.inr O,.inl O,trivial⟩ O) O (vk hb27 O O2 O2 ?_));refine zD O (dU hb27 O O) O (ej O (bV O) hr h [] Tryz.call63 (jf n p0.bT) ⟨O,O,O,O,O,O,trivial⟩ O O (λ_=>O3) (λ_=>O2) hp (λy28 h=>⟨aK O,?_⟩));refine jb [true,y28] bE O (bV O) O2 O2 ?_;refine ej O (bV O) hr h [107] Tryz.call61 (aC n [true,y28] (X.mk false false)) ⟨O,O,O,O,O,O,trivial⟩ O O (λ_=>O3) (λ_=>O2) hp (λy29 h=>⟨aK O,?_⟩);exact cY (hK5 _ _ _ h O)
 refine z2 hb27 h λh=>dH hb27 O O2 (o O) O3 ?_;refine dH hb27 O O2 (bb O O O) O3 ?_;refine zD O (o O) O (zD O (fV [.any,.any,.any,.pv (.sl (List.length p0.bT) (cn p0.bT))] O O ⟨.inr O,.inr O,.inr O,.inl O,trivial⟩ O) O (ej O (AW hb27 O O2) hr h [] Tryz.call62 (gY n p0.cb) ⟨O,O,O,O,O,O,trivial⟩ O O (λ_=>O3) (λ_=>O2) hp (λy30 h=>⟨cW ⟨⟨⟨_,O,M.fN ⟨.inr O,.inr O,.inr O,.inl O,trivial⟩⟩,trivial⟩,⟨trivial,⟨trivial,⟨trivial,⟨trivial,⟨trivial,⟨trivial,⟨trivial,⟨trivial,trivial⟩⟩⟩⟩⟩⟩⟩⟩⟩,?_⟩)));refine zD O (dJ hb27 O O) O (ej O (bV O) hr h [] Tryz.call63 (jf n p0.bT) ⟨O,O,O,O,O,O,trivial⟩ O O (λ_=>O3) (λ_=>O2) hp (λy31 h=>⟨aK O,?_⟩));refine jb [y30,y31] bE O (bV O) O2 O2 ?_;refine ej O (bV O) hr h [107] Tryz.call61 (aC n [y30,y31] (X.mk false false)) ⟨O,O,O,O,O,O,trivial⟩ O O (λ_=>O3) (λ_=>O2) hp (λy32 h=>⟨aK O,?_⟩);exact cY (hK5 _ _ _ h O)
def dx (n:Nat) (p0:ByS):al (cu×dz):=
 al.bind (gj n p0) λy3=>br (y3.2.Errno !=0) (.ok ((cu.mk [] [] [] []),y3.2)) (ko (al.bind (cL n (L.mk p0 y3.1 0 0 false none)) λy12=>al.bind (eo n y12.1) λy15=>br (y15==9) (.ok ((cu.mk [] [] [] []),(dz.mk 9 0))) (.ok (y12.1,(dz.mk 0 0)))) (λp=>sC 86 p λv21=>al.bind (jB v21) λy22=>.ok (y22.1,y22.2)))
theorem jG (n:Nat) (p0:ByS):CT Tryz.prog 12 [F p0] [] (dx n p0) (λx=>.gU [.agg (kp x.1),.agg [I x.2.Errno,I x.2.At]]) (λ_=>[]):=by
 refine tg Tryz.func12 O O λr h hr E hE=>?_;refine D λ_ hK1=>A (aJ 102 (hE _ O) O4 O ?_);refine aJ 103 (hE _ O) O4 O ?_;refine zQ hK1 (D λ_ hK2=>A (zm O (jU hr h [] Tryz.call24 (rj n p0) ⟨O,O,O,O,O,O,trivial⟩ O (λ_=>O3) (λ_=>O2) (λ_ _ _ hd hp=>wy (P:=Tryz.prog) (fn:=Tryz.f12) hd hp) (λy3 h=>?_))));refine zm O (zx O (zx O (za O (zs O (zQ hK2 (D λ_ hK4=>D λ_ hK5=>A (zf O (zl O (zc O (zQ hK5 (zB O h (λ_ h=>?_) λ_ h=>?_)))))))))))
 ·refine D λ_ hK7=>bG [0,1,2,3] O (by kernel_rfl) (zD O (dT O O) O ?_);refine zD O (kj O O O O) O ?_;refine ck O O8 O (λe2 he=>⟨cW ⟨⟨⟨_,O,M.le_refl _⟩,trivial⟩,⟨trivial,trivial⟩⟩,?_⟩);subst he;refine ck O O8 O (λe3 he=>⟨aK O,?_⟩);subst he;refine cY (hK7 _ _ (ca (kg 102 O O) ?_));exact H (uB (n:=Tryz.f12.ntmps) (.inl O) (nr (.inl O) _ (.cons (aY O O O) (.cons (aY O O O) .nil)) h.symm (AV.le_refl _) trivial))
 refine V (hK4 _ _ (D λ_ hK8=>A (J (qm O O) O ?_)));refine zP O ?_;have hrO:=hr;obtain ⟨r,hr,h,hc⟩:=wx hr h;refine zQ hK8 (D λ_ hK9=>A (zm O (zm O (J (dT O O) O ?_))));refine eD 121 (hE _ O) O7 O ?_;refine za O (zQ hK9 (D λ_ hK10=>A (zm O (J (qm O O) O ?_))));refine za O (zQ hK10 (D λ_ hK11=>A (zm O (aX (kg 121 O O) ?_))));refine pO hr h [121] Tryz.call27 (sV n (L.mk p0 y3.1 0 0 false none)) ⟨O,O,O,O,O,O,trivial⟩ O O (λ_=>O3) (λ_=>O2) O (λp hp=>?_) (λy12 h=>?_)
 ·obtain ⟨v20,rfl,hc⟩:=mi hrO (mj hc hp);obtain ⟨hns,hok,_⟩:=k8 hrO hc;repeat (first|refine ml ?_|refine lf ?_)
  refine jc (n:=Tryz.f12.ntmps) [102,103] Tryz.call25 (n8 v20) hns O ⟨O,O,O,O⟩ (λ_=>O2) (λx hx=>?_);exact gG (.inl O) _ (.cons (aY O O O) (.cons (aY O O O) .nil)) (hok x hx).symm (AV.le_refl _) trivial
 refine zs O (zQ hK11 (D λ_ hK13=>D λ_ hK14=>A (zA O ?_)));refine pO hr h [] Tryz.call28 (xm n y12.1) ⟨O,O,O,O,O,O,trivial⟩ O O (λ_=>O3) (λ_=>O2) O (λp hp=>?_) (λy15 h=>?_)
 ·obtain ⟨v19,rfl,hc⟩:=mi hrO (mj hc hp);obtain ⟨hns,hok,_⟩:=k8 hrO hc;repeat (first|refine ml ?_|refine lf ?_)
  refine jc (n:=Tryz.f12.ntmps) [102,103] Tryz.call25 (n8 v19) hns O ⟨O,O,O,O⟩ (λ_=>O2) (λx hx=>?_);exact gG (.inl O) _ (.cons (aY O O O) (.cons (aY O O O) .nil)) (hok x hx).symm (AV.le_refl _) trivial
 refine zc O (zQ hK14 (zB O h (λ_ h=>?_) λ_ h=>?_))
 ·refine D λ_ hK17=>A (J (dT O O) O ?_);refine J (bQ O O O) O ?_;refine zs O (zs O (zQ hK17 (ca (kg 102 O O) ?_)));refine H (lT (n:=Tryz.f12.ntmps) (.inl O) [102,103] Tryz.call25 (mP [.box [F [],.pv (.sl (List.length ([]:List bY)) (bY.Cs [])),.pv (.sl (List.length ([]:List aA)) (aA.Cs [])),.pv (.sl (List.length ([]:List ByS)) (cn []))],.box [I 9,I 0]]) ⟨O,O,O,O⟩ O O ?_);exact gG (.inl O) _ (.cons (aY O O O) (.cons (aY O O O) .nil)) (qY hc h.symm) (AV.le_refl _) trivial
 refine V (hK13 _ _ (D λ_ hK18=>A (zA O ?_)));refine J (bQ O O O) O ?_;refine zs O (zs O (zQ hK18 (H (lT (n:=Tryz.f12.ntmps) (.inl O) [102,103] Tryz.call25 (mP [.box (kp y12.1),.box [I 0,I 0]]) ⟨O,O,O,O⟩ O O ?_))));exact gG (.inl O) _ (.cons (aY O O O) (.cons (aY O O O) .nil)) (qY hc h.symm) (AV.le_refl _) trivial
def iH (n:Nat):al (Bool):=
 al.bind (dx n ([97,58,32,49,44,32,98,58,32,97,32,38,32,105,110,116]:ByS)) λy3=>al.bind (vR n ([42,49]:ByS)) λy5=>al.bind (dx n ([97,58,32,42,49]:ByS)) λy7=>al.bind (dx n ([120,58,32,123,121,58,32,122,125]:ByS)) λy9=>al.bind (dx n ([120,58,32,49,32,124,32,123,121,58,32,122,125]:ByS)) λy11=>jn (λ(v13:Bool)=>br v13 (.ok (false)) (br ((y5.2.Errno==8)&&(y5.2.At==2)) (br ((y7.2.Errno==8)&&(y7.2.At==5)) (el y3.1.Decls 1 λx21=>el x21.bc 0 λx25=>br (x25.Kind==16) (el y9.1.Decls 0 λx30=>el x30.bc 0 λx34=>br (x34.Kind==13) (el y11.1.Decls 0 λx39=>el x39.bc 0 λx43=>el x43.bc 1 λx47=>.ok ((x47.Kind==22))) (.ok (false))) (.ok (false))) (.ok (false))) (.ok (false)))) λj14=>br (y3.2.Errno !=0) (j14 (true)) (br (y9.2.Errno !=0) (j14 (true)) (br (y11.2.Errno !=0) (j14 (true)) (br ((List.length y3.1.Decls:Int) !=2) (j14 (true)) (br ((List.length y9.1.Decls:Int) !=1) (j14 (true)) (br ((List.length y11.1.Decls:Int) !=1) (j14 (true)) (el y3.1.Decls 1 λx57=>br ((List.length x57.bc:Int) !=1) (j14 (true)) (el y9.1.Decls 0 λx62=>br ((List.length x62.bc:Int) !=1) (j14 (true)) (el y11.1.Decls 0 λx67=>br ((List.length x67.bc:Int) !=1) (j14 (true)) (el y11.1.Decls 0 λx72=>el x72.bc 0 λx76=>j14 (((List.length x76.bc:Int) !=2)))))))))))
theorem iY (n:Nat):CT Tryz.prog 11 [] [] (iH n) (λx=>Bo x) (λ_=>[]):=by
 refine zC Tryz.func11 O λr hp h hr E hE=>D λ_ hK1=>A (za O (zQ hK1 (D λ_ hK2=>A (zk hp hr h [] Tryz.call12 (jG n ([97,58,32,49,44,32,98,58,32,97,32,38,32,105,110,116]:ByS)) O (λ_=>rfl) λy3 h=>zm O (zx O (zx O (aJ 101 (hE _ O) O4 O ?_)))))));refine aJ 102 (hE _ O) O4 O ?_;refine zs O (zs O (zQ hK2 (D λ_ hK4=>A (zk hp hr h [] Tryz.call15 (x9 n ([42,49]:ByS)) O (λ_=>rfl) λy5 h=>zm O (zx O (zx O (aJ 103 (hE _ O) O4 O ?_)))))));refine aJ 104 (hE _ O) O4 O ?_;refine zs O (zs O (zQ hK4 (D λ_ hK6=>A (zk hp hr h [] Tryz.call12 (jG n ([97,58,32,42,49]:ByS)) O (λ_=>rfl) λy7 h=>zm O (zx O (zx O (aJ 105 (hE _ O) O4 O ?_)))))));refine aJ 106 (hE _ O) O4 O ?_;refine zs O (zs O (zQ hK6 (D λ_ hK8=>A (zk hp hr h [] Tryz.call12 (jG n ([120,58,32,123,121,58,32,122,125]:ByS)) O (λ_=>rfl) λy9 h=>zm O (zx O (zx O (aJ 107 (hE _ O) O4 O ?_)))))));refine aJ 108 (hE _ O) O4 O ?_;refine zs O (zs O (zQ hK8 (D λ_ hK10=>A (zk hp hr h [] Tryz.call12 (jG n ([120,58,32,49,32,124,32,123,121,58,32,122,125]:ByS)) O (λ_=>rfl) λy11 h=>zm O (zx O (zx O (aJ 109 (hE _ O) O4 O ?_)))))));refine aJ 110 (hE _ O) O4 O ?_;refine zs O (zs O (zQ hK10 (D λ_ hK12=>zM h (λ(v13:Bool)=>[(1,.ptr 101 0),(4,.ptr 104 0),(6,.ptr 106 0),(7,.ptr 107 0),(9,.ptr 109 0),(100,Bo v13)]) (λ(v13:Bool)=>[(101,.box (kp y3.1)),(104,.box [I y5.2.Errno,I y5.2.At]),(106,.box [I y7.2.Errno,I y7.2.At]),(107,.box (kp y9.1)),(109,.box (kp y11.1))]) (λv13 h=>?_) λ_ _ hK15 h=>?_)))
 ·refine zB O h (λ_ h=>?_) λ_ h=>?_
  ·exact D λ_ hK17=>A (za O (zQ hK17 (H (z O h O))))
  refine V (hK12 _ _ (D λ_ hK18=>A (zA O ?_)));refine J (bQ O O O) O ?_;refine J (Ih O O) O (zm O (zb ((y5.2.Errno==8)&&(y5.2.At==2)) (λhb19=>?_) λhb19=>?_))
  ·refine z1 hb19 h λh=>zG hb19 O (kj O O O O) ?_;refine zG hb19 O (bQ O O O) ?_;refine zG hb19 O (Ih O O) (zy hb19 O (zm O (zb ((y7.2.Errno==8)&&(y7.2.At==5)) (λhb20=>?_) λhb20=>?_)))
   ·refine z1 hb20 h λh=>zG hb20 O (o O) (zG hb20 O (bb O O O) (ze hr h λx21 h22 h23 h24 h=>zG hb20 O (iF aA.y aA.bW h22 h23 h24 O O O) (zG hb20 O (kO O O) (zG hb20 O (gI O O) (ze hr h λx25 h26 h27 h28 h=>zG hb20 O (iF ak.y ak.bW h26 h27 h28 O O O) (zG hb20 O (kO O O) (zG hb20 O (gI O O) (zG hb20 O (bq O O O) (zy hb20 O (zm O (zb (x25.Kind==16) (λhb29=>?_) λhb29=>?_)))))))))))
    ·refine z1 hb29 h λh=>zG hb29 O (o O) (zG hb29 O (bb O O O) (ze hr h λx30 h31 h32 h33 h=>zG hb29 O (iF aA.y aA.bW h31 h32 h33 O O O) (zG hb29 O (kO O O) (zG hb29 O (gI O O) (ze hr h λx34 h35 h36 h37 h=>zG hb29 O (iF ak.y ak.bW h35 h36 h37 O O O) (zG hb29 O (kO O O) (zG hb29 O (gI O O) (zG hb29 O (bq O O O) (zy hb29 O (zm O (zb (x34.Kind==13) (λhb38=>?_) λhb38=>?_)))))))))))
     ·exact z1 hb38 h λh=>zG hb38 O (o O) (zG hb38 O (bb O O O) (ze hr h λx39 h40 h41 h42 h=>zG hb38 O (iF aA.y aA.bW h40 h41 h42 O O O) (zG hb38 O (kO O O) (zG hb38 O (gI O O) (ze hr h λx43 h44 h45 h46 h=>zG hb38 O (iF ak.y ak.bW h44 h45 h46 O O O) (zG hb38 O (kO O O) (zG hb38 O (gI O O) (ze hr h λx47 h48 h49 h50 h=>zG hb38 O (iF ak.y ak.bW h48 h49 h50 O O O) (zG hb38 O (kO O O) (zG hb38 O (gI O O) (zG hb38 O (bq O O O) (zy hb38 O (za O (zQ hK18 (H (z O h O))))))))))))))))
     exact z2 hb38 h λh=>zH 12 O hb38 (zw hb38 O (za O (zQ hK18 (H (z O h O)))))
    refine z2 hb29 h λh=>zH 9 O hb29 (zw hb29 O (zm O (zH 12 O O (J (eX O O) O ?_))));exact za O (zQ hK18 (H (z O h O)))
   refine z2 hb20 h λh=>zH 9 O hb20 (zw hb20 O (zm O (zH 9 O O (J (eX O O) O (zm O (zH 2 O O ?_))))));exact zH 10 O O (J (eX O O) O (za O (zQ hK18 (H (z O h O)))))
  refine z2 hb19 h λh=>zH 3 O hb19 (zw hb19 O (zm O (zH 9 O O (J (eX O O) O (zm O (zH 8 O O ?_))))));exact zg O O (J (eX O O) O (zm O (zH 12 O O (J (eX O O) O (za O (zQ hK18 (H (z O h O))))))))
 refine A (zf O (zl O (zc O (zm O (zb (y3.2.Errno !=0) (λhb51=>?_) λhb51=>?_)))))
 ·refine z1 hb51 h λh=>zH 3 O hb51 (zy hb51 O (zm O (zH 3 O O (zt O (zm O (zH 4 O O (zt O (zm O (zH 4 O O (zt O (zm O (zH 2 O O ?_))))))))))));refine zH 2 O O (zt O (zm O (zH 7 O O (zt O (zm O (zH 7 O O (zt O (zm O (zH 3 O O ?_)))))))));exact zH 4 O O (zt O (zm O (zH 10 O O (zt O (N (hK15 _ _ _ h O))))))
 refine z2 hb51 h λh=>zG hb51 O (o O) (zG hb51 O (bb O O O) (zG hb51 O (bq O O O) (zw hb51 O (zm O (zb (y9.2.Errno !=0) (λhb52=>?_) λhb52=>?_)))))
 ·refine z1 hb52 h λh=>zH 3 O hb52 (zy hb52 O (zm O (zH 4 O O (zt O (zm O (zH 4 O O (zt O (zm O (zH 4 O O (zt O (zm O (zg O O ?_))))))))))));refine zH 6 O O (zt O (zm O (zH 7 O O (zt O (zm O (zH 7 O O (zt O ?_)))))));exact zm O (zH 10 O O (zt O (N (hK15 _ _ _ h O))))
 refine z2 hb52 h λh=>zG hb52 O (o O) (zG hb52 O (bb O O O) (zG hb52 O (bq O O O) (zw hb52 O (zm O (zb (y11.2.Errno !=0) (λhb53=>?_) λhb53=>?_)))))
 ·refine z1 hb53 h λh=>zH 4 O hb53 (zy hb53 O (zm O (zH 4 O O (zt O (zm O (zH 4 O O (zt O (zm O (zH 6 O O ?_)))))))));refine zg O O (zt O (zm O (zH 7 O O (zt O (zm O (zH 7 O O (zt O (zm O (zH 4 O O ?_)))))))));exact zH 6 O O (zt O (N (hK15 _ _ _ h O)))
 refine z2 hb53 h λh=>zG hb53 O (o O) (zG hb53 O (bb O O O) (zG hb53 O (cD O) (zG hb53 O (bq O O O) (zw hb53 O (zm O (zb ((List.length y3.1.Decls:Int) !=2) (λhb54=>?_) λhb54=>?_))))))
 ·refine z1 hb54 h λh=>zH 4 O hb54 (zy hb54 O (zm O (zH 4 O O (zt O (zm O (zH 7 O O (zt O (zm O (zH 3 O O ?_)))))))));refine zH 4 O O (zt O (zm O (zH 7 O O (zt O (zm O (zH 10 O O ?_))))));exact zt O (N (hK15 _ _ _ h O))
 refine z2 hb54 h λh=>zG hb54 O (o O) (zG hb54 O (bb O O O) (zG hb54 O (cD O) (zG hb54 O (bq O O O) (zw hb54 O (zm O (zb ((List.length y9.1.Decls:Int) !=1) (λhb55=>?_) λhb55=>?_))))))
 ·refine z1 hb55 h λh=>zH 4 O hb55 (zy hb55 O (zm O (zH 7 O O (zt O (zm O (zH 7 O O (zt O (zm O ?_))))))));exact zH 7 O O (zt O (zm O (zH 10 O O (zt O (N (hK15 _ _ _ h O))))))
 refine z2 hb55 h λh=>zG hb55 O (o O) (zG hb55 O (bb O O O) (zG hb55 O (cD O) (zG hb55 O (bq O O O) (zw hb55 O (zm O (zb ((List.length y11.1.Decls:Int) !=1) (λhb56=>?_) λhb56=>?_))))))
 ·refine z1 hb56 h λh=>zH 7 O hb56 (zy hb56 O (zm O (zH 7 O O (zt O (zm O (zH 6 O O ?_))))));exact zg O O (zt O (zm O (zH 10 O O (zt O (N (hK15 _ _ _ h O))))))
 refine z2 hb56 h λh=>zG hb56 O (o O) (zG hb56 O (bb O O O) (ze hr h λx57 h58 h59 h60 h=>zG hb56 O (iF aA.y aA.bW h58 h59 h60 O O O) (zG hb56 O (kO O O) (zG hb56 O (gI O O) (zG hb56 O (cD O) (zG hb56 O (bq O O O) (zw hb56 O (zm O (zb ((List.length x57.bc:Int) !=1) (λhb61=>?_) λhb61=>?_)))))))))
 ·refine z1 hb61 h λh=>zH 7 O hb61 (zy hb61 O (zm O (zH 7 O O (zt O (zm O (zH 6 O O ?_))))));exact zH 4 O O (zt O (N (hK15 _ _ _ h O)))
 refine z2 hb61 h λh=>zG hb61 O (o O) (zG hb61 O (bb O O O) (ze hr h λx62 h63 h64 h65 h=>zG hb61 O (iF aA.y aA.bW h63 h64 h65 O O O) (zG hb61 O (kO O O) (zG hb61 O (gI O O) (zG hb61 O (cD O) (zG hb61 O (bq O O O) (zw hb61 O (zm O (zb ((List.length x62.bc:Int) !=1) (λhb66=>?_) λhb66=>?_)))))))))
 ·exact z1 hb66 h λh=>zH 7 O hb66 (zy hb66 O (zm O (zH 10 O O (zt O (N (hK15 _ _ _ h O))))))
 refine z2 hb66 h λh=>zG hb66 O (o O) (zG hb66 O (bb O O O) (ze hr h λx67 h68 h69 h70 h=>zG hb66 O (iF aA.y aA.bW h68 h69 h70 O O O) (zG hb66 O (kO O O) (zG hb66 O (gI O O) (zG hb66 O (cD O) (zG hb66 O (bq O O O) (zw hb66 O (zm O (zb ((List.length x67.bc:Int) !=1) (λhb71=>?_) λhb71=>?_)))))))))
 ·exact z1 hb71 h λh=>zH 10 O hb71 (zy hb71 O (N (hK15 _ _ _ h O)))
 exact z2 hb71 h λh=>zG hb71 O (o O) (zG hb71 O (bb O O O) (ze hr h λx72 h73 h74 h75 h=>zG hb71 O (iF aA.y aA.bW h73 h74 h75 O O O) (zG hb71 O (kO O O) (zG hb71 O (gI O O) (ze hr h λx76 h77 h78 h79 h=>zG hb71 O (iF ak.y ak.bW h77 h78 h79 O O O) (zG hb71 O (kO O O) (zG hb71 O (gI O O) (zG hb71 O (cD O) (zG hb71 O (bq O O O) (zw hb71 O (N (hK15 _ _ _ h O))))))))))))
end Go.Abs
end
section
namespace Go.Abs
open Go.Proofs al
def iR (n:Nat) (p0:(List ByS)) (p1:(List ByS)):al (Bool):=
 br ((List.length p0:Int) !=(List.length p1:Int)) (.ok (false)) (iter (λnext9 (v8:Int)=>br (decide (v8<(List.length p0:Int))) (el p0 v8 λvw=>el p1 v8 λx21=>br (vw !=x21) (.ok (false)) (gd (dY (v8+1)) (next9 (v8+1)))) (.ok (true))) n (0))
theorem kU (n:Nat) (p0:(List ByS)) (p1:(List ByS)):CT Tryz.prog 51 [.pv (.sl (List.length p0) (cn p0)),.pv (.sl (List.length p1) (cn p1))] [] (iR n p0 p1) (λx=>Bo x) (λ_=>[]):=by
 refine zC Tryz.func51 O λr hp h hr E hE=>D λ_ hK1=>A (za O (zQ hK1 (D λ_ hK2=>D λ_ hK3=>A (zm O (J (cD O) O (zm O (J (cD O) O (zc O (zQ hK3 (zB O h (λ_ h=>?_) λ_ h=>?_))))))))))
 ·exact D λ_ hK5=>A (za O (zQ hK5 (H (z O h O))))
 refine V (hK2 _ _ (D λ_ hK6=>D λ_ hK7=>A (zm O (J (cD O) O (zm O (zQ hK7 (aE (zL hr h (λ(v8:Int)=>[(0,.pv (.sl (List.length p0) (cn p0))),(1,.pv (.sl (List.length p1) (cn p1))),(12,I (List.length p0:Int)),(13,I v8)]) (λ(v8:Int)=>[]) O λ_ v8 _ hK10 h=>D λ_ hK11=>A (zc O (zQ hK11 (D λ_ hK12=>zB O h (λ_ h=>?_) λ_ h=>?_)))))))))))
 ·refine V (hK12 _ _ (D λ_ hK14=>aE (D λ_ hK15=>A (zm O (za O (zQ hK15 (D λ_ hK16=>bG [0,1,2,3,4,5,6,7,8] O (by kernel_rfl) (zD O (W O) O (zD O (W O) O (ze hr h λvw h18 h19 h20 h=>zD O (iF ga iU h18 h19 h20 O O O) O (zD O (gI O O) O (zD O (W O) O (zD O (W O) O (ze hr h λx21 h22 h23 h24 h=>zD O (iF ga iU h22 h23 h24 O O O) O (zD O (gI O O) O (zD O (rL O O) O (cY (hK16 _ _ (zB O h (λ_ h=>?_) λ_ h=>?_)))))))))))))))))))
  ·exact D λ_ hK26=>A (za O (zQ hK26 (H (z O h O))))
  exact V (hK14 _ _ (A (zd hr h λhg27 h=>zo hg27 O (zm O (N (hK10 _ _ _ h O))))))
 exact bw (hK6 _ _ (D λ_ hK28=>A (za O (zQ hK28 (H (z O h O))))))
structure gT where
 dR:(List aA)->(List aA)->al (Bool)
 gv:ak->ak->al (Bool)
def iw (n:Nat) (T:gT) (p0:(List aA)) (p1:(List aA)):al (Bool):=
 br ((List.length p0:Int) !=(List.length p1:Int)) (.ok (false)) (iter (λnext9 (v8:Int)=>br (decide (v8<(List.length p0:Int))) (el p0 v8 λvw=>el p1 v8 λx21=>br (vw.Kind !=x21.Kind) (.ok (false)) (br (vw.cG !=x21.cG) (.ok (false)) (br (vw.Label !=x21.Label) (.ok (false)) (br (!((vw.bn==x21.bn)&&(vw.bu==x21.bu))) (.ok (false)) (br (vw.Trail !=x21.Trail) (.ok (false)) (br ((List.length vw.bc:Int) !=(List.length x21.bc:Int)) (.ok (false)) (al.bind (iR n vw.kh x21.kh) λy41=>br (!y41) (.ok (false)) (al.bind (iR n vw.bT x21.bT) λy44=>br (!y44) (.ok (false)) (al.bind (T.dR vw.Body x21.Body) λy47=>br (!y47) (.ok (false)) (iter (λnext52 (v51:Int)=>br (decide (v51<(List.length vw.bc:Int))) (el vw.bc v51 λx60=>el x21.bc v51 λx64=>al.bind (T.gv x60 x64) λy68=>br (!y68) (.ok (false)) (gd (dY (v51+1)) (next52 (v51+1)))) (gd (dY (v8+1)) (next9 (v8+1)))) n (0))))))))))) (.ok (true))) n (0))
def kV (n:Nat) (T:gT) (p0:ak) (p1:ak):al (Bool):=
 br (p0.Kind !=p1.Kind) (.ok (false)) (br (p0.Text !=p1.Text) (.ok (false)) (br (p0.kl !=p1.kl) (.ok (false)) (br (!((p0.bn==p1.bn)&&(p0.bu==p1.bu))) (.ok (false)) (br ((List.length p0.bc:Int) !=(List.length p1.bc:Int)) (.ok (false)) (al.bind (iR n p0.bT p1.bT) λy14=>br (!y14) (.ok (false)) (iter (λnext20 (v19:Int)=>br (decide (v19<(List.length p0.bc:Int))) (el p0.bc v19 λx28=>el p1.bc v19 λx32=>al.bind (T.gv x28 x32) λy36=>br (!y36) (.ok (false)) (gd (dY (v19+1)) (next20 (v19+1)))) (al.bind (T.dR p0.Decls p1.Decls) λy41=>.ok (y41))) n (0)))))))
def eW:Nat->gT
 | 0=>⟨λ_ _=>.stuck,λ_ _=>.stuck⟩
 | n+1=>⟨iw n (eW n),kV n (eW n)⟩
def dR (n:Nat) (p0:(List aA)) (p1:(List aA)):al (Bool):=(eW n).dR p0 p1
def gv (n:Nat) (p0:ak) (p1:ak):al (Bool):=(eW n).gv p0 p1
structure kv (T:gT):Prop where
 dR:∀ (p0:(List aA)) (p1:(List aA)),CT Tryz.prog 52 [.pv (.sl (List.length p0) (aA.Cs p0)),.pv (.sl (List.length p1) (aA.Cs p1))] [] (T.dR p0 p1) (λx=>Bo x) (λ_=>[])
 gv:∀ (p0:ak) (p1:ak),CT Tryz.prog 23 [.agg (bf p0),.agg (bf p1)] [] (T.gv p0 p1) (λx=>Bo x) (λ_=>[])
theorem tE (n:Nat) (T:gT) (hT:kv T) (p0:(List aA)) (p1:(List aA)):CT Tryz.prog 52 [.pv (.sl (List.length p0) (aA.Cs p0)),.pv (.sl (List.length p1) (aA.Cs p1))] [] (iw n T p0 p1) (λx=>Bo x) (λ_=>[]):=by
 refine zC Tryz.func52 O λr hp h hr E hE=>D λ_ hK1=>A (za O (zQ hK1 (D λ_ hK2=>D λ_ hK3=>A (zm O (J (cD O) O (zm O (J (cD O) O (zc O (zQ hK3 (zB O h (λ_ h=>?_) λ_ h=>?_))))))))))
 ·exact D λ_ hK5=>A (za O (zQ hK5 (H (z O h O))))
 refine V (hK2 _ _ (D λ_ hK6=>D λ_ hK7=>A (zm O (J (cD O) O (zm O (zQ hK7 (aE (zL hr h (λ(v8:Int)=>[(0,.pv (.sl (List.length p0) (aA.Cs p0))),(1,.pv (.sl (List.length p1) (aA.Cs p1))),(15,I (List.length p0:Int)),(16,I v8)]) (λ(v8:Int)=>[]) O λ_ v8 _ hK10 h=>D λ_ hK11=>A (zc O (zQ hK11 (D λ_ hK12=>zB O h (λ_ h=>?_) λ_ h=>?_)))))))))))
 ·refine V (hK12 _ _ (D λ_ hK14=>aE (D λ_ hK15=>A (zm O (za O (zQ hK15 (D λ_ hK16=>bG [0,1,2,3,4,5,6,7,8,9,10,11] O (by kernel_rfl) (zD O (W O) O (zD O (W O) O (ze hr h λvw h18 h19 h20 h=>zD O (iF aA.y aA.bW h18 h19 h20 O O O) O (zD O (ji O O) O ?_)))))))))));refine zD O (W O) O (zD O (W O) O (ze hr h λx21 h22 h23 h24 h=>zD O (iF aA.y aA.bW h22 h23 h24 O O O) O (zD O (ji O O) O ?_)));refine uA O (bV O) 106 (hE _ O) O5 O4 ?_;refine uA O (bV O) 107 (hE _ O) O5 O4 ?_;refine tf O O8 O (λe10 he=>⟨aK O,?_⟩);subst he;refine tf O O8 O (λe11 he=>⟨aK O,?_⟩);subst he;refine cY (hK16 _ _ (D λ_ hK25=>D λ_ hK26=>A (zf O (zl O (zf O (zl O (zc O (zm O (zb (vw.Kind !=x21.Kind) (λhb27=>?_) λhb27=>?_)))))))))
  ·refine z1 hb27 h λh=>zH 5 O hb27 (zy hb27 O (zm O (zH 5 O O (zt O (zm O (zH 5 O O (zt O (zm O (zH 3 O O ?_)))))))));refine zH 2 O O (zt O (zm O (zH 7 O O (zt O (zQ hK26 (df O (λhc=>?_) (λhc=>?_)))))))
   ·exact D λ_ hK28=>A (za O (zQ hK28 (H (z O h O))))
   exact absurd (hc) (by simp)
  refine z2 hb27 h λh=>zG hb27 O (o O) (zG hb27 O (bb O O O) (zG hb27 O (o O) (zG hb27 O (bb O O O) (zG hb27 O (bq O O O) (zw hb27 O (zm O (zb (vw.cG !=x21.cG) (λhb29=>?_) λhb29=>?_)))))))
  ·refine z1 hb29 h λh=>zH 5 O hb29 (zy hb29 O (zm O (zH 5 O O (zt O (zm O (zH 5 O O (zt O (zm O (zH 3 O O ?_)))))))));refine zH 4 O O (zt O (zQ hK26 (df O (λhc=>?_) (λhc=>?_))))
   ·exact D λ_ hK30=>A (za O (zQ hK30 (H (z O h O))))
   exact absurd (hc) (by simp)
  refine z2 hb29 h λh=>zG hb29 O (o O) (zG hb29 O (bb O O O) (zG hb29 O (o O) (zG hb29 O (bb O O O) (zG hb29 O (rL O O) (zw hb29 O (zm O (zb (vw.Label !=x21.Label) (λhb31=>?_) λhb31=>?_)))))))
  ·refine z1 hb31 h λh=>zH 5 O hb31 (zy hb31 O (zm O (zH 5 O O (zt O (zm O (zH 7 O O (zt O (zQ hK26 (df O (λhc=>?_) (λhc=>?_))))))))))
   ·exact D λ_ hK32=>A (za O (zQ hK32 (H (z O h O))))
   exact absurd (hc) (by simp)
  refine z2 hb31 h λh=>zG hb31 O (o O) (zG hb31 O (kj O O O O) ?_);refine zG hb31 O (o O) (zG hb31 O (kj O O O O) ?_);refine zG hb31 O (E7 O O) (zw hb31 O (zm O (zb (!((vw.bn==x21.bn)&&(vw.bu==x21.bu))) (λhb33=>?_) λhb33=>?_)))
  ·refine z1 hb33 h λh=>zH 5 O hb33 (zy hb33 O (zm O (zH 7 O O (zt O (zQ hK26 (df O (λhc=>?_) (λhc=>?_)))))))
   ·exact D λ_ hK34=>A (za O (zQ hK34 (H (z O h O))))
   exact absurd (hc) (by simp)
  refine z2 hb33 h λh=>zG hb33 O (o O) (zG hb33 O (bb O O O) (zG hb33 O (o O) (zG hb33 O (bb O O O) (zG hb33 O (rL O O) (zw hb33 O (zm O (zb (vw.Trail !=x21.Trail) (λhb35=>?_) λhb35=>?_)))))))
  ·refine z1 hb35 h λh=>zH 7 O hb35 (zy hb35 O (zQ hK26 (df O (λhc=>?_) (λhc=>?_))))
   ·exact D λ_ hK36=>A (za O (zQ hK36 (H (z O h O))))
   exact absurd (hc) (by simp)
  refine z2 hb35 h λh=>zG hb35 O (o O) (zG hb35 O (bb O O O) (zG hb35 O (cD O) (zG hb35 O (o O) (zG hb35 O (bb O O O) (zG hb35 O (cD O) (zG hb35 O (bq O O O) (zw hb35 O (zQ hK26 (zB O h (λ_ h=>?_) λ_ h=>?_)))))))))
  ·exact D λ_ hK38=>A (za O (zQ hK38 (H (z O h O))))
  refine V (hK25 _ _ (D λ_ hK39=>D λ_ hK40=>A (zf O (zl O (zf O (zl O (zk hp hr h [] Tryz.call51 (kU n vw.kh x21.kh) O (λ_=>rfl) λy41 h=>J (fu O) O (zm O (zb (!y41) (λhb42=>?_) λhb42=>?_)))))))))
  ·refine z1 hb42 h λh=>zH 6 O hb42 (zy hb42 O (zm O (zH 6 O O (zt O (zQ hK40 (df O (λhc=>?_) (λhc=>?_)))))))
   ·exact D λ_ hK43=>A (za O (zQ hK43 (H (z O h O))))
   exact absurd (hc) (by simp)
  refine z2 hb42 h λh=>zG hb42 O (o O) (zG hb42 O (bb O O O) (zG hb42 O (o O) (zG hb42 O (bb O O O) (zK hb42 O hp hr h [] Tryz.call51 (kU n vw.bT x21.bT) O (λ_=>rfl) λy44 h=>zG hb42 O (fu O) (zw hb42 O (zm O (zb (!y44) (λhb45=>?_) λhb45=>?_)))))))
  ·refine z1 hb45 h λh=>zH 6 O hb45 (zy hb45 O (zQ hK40 (df O (λhc=>?_) (λhc=>?_))))
   ·exact D λ_ hK46=>A (za O (zQ hK46 (H (z O h O))))
   exact absurd (hc) (by simp)
  refine z2 hb45 h λh=>zG hb45 O (o O) (zG hb45 O (bb O O O) (zG hb45 O (o O) (zG hb45 O (bb O O O) (zK hb45 O hp hr h [] Tryz.call52 (hT.dR vw.Body x21.Body) O (λ_=>rfl) λy47 h=>zG hb45 O (fu O) (zw hb45 O (zQ hK40 (zB O h (λ_ h=>?_) λ_ h=>?_)))))))
  ·exact D λ_ hK49=>A (za O (zQ hK49 (H (z O h O))))
  refine V (hK39 _ _ (D λ_ hK50=>A (zf O (zl O (J (cD O) O (zm O (zQ hK50 (aE (zL hr h (λ(v51:Int)=>[(0,.pv (.sl (List.length p0) (aA.Cs p0))),(1,.pv (.sl (List.length p1) (aA.Cs p1))),(6,.ptr 106 0),(7,.ptr 107 0),(15,I (List.length p0:Int)),(16,I v8),(93,I (List.length vw.bc:Int)),(94,I v51)]) (λ(v51:Int)=>[(106,.box (ed vw)),(107,.box (ed x21))]) O λ_ v51 _ hK53 h=>D λ_ hK54=>A (zc O (zQ hK54 (D λ_ hK55=>zB O h (λ_ h=>?_) λ_ h=>?_))))))))))))
  ·refine V (hK55 _ _ (D λ_ hK57=>aE (D λ_ hK58=>A (zm O (za O (zQ hK58 (D λ_ hK59=>bG [0,1,2,3,4,5,6,7,8,9,10,11] O (by kernel_rfl) (zD O (o O) O (zD O (bb O O O) O (zD O (W O) O (ze hr h λx60 h61 h62 h63 h=>zD O (iF ak.y ak.bW h61 h62 h63 O O O) O (zD O (ji O O) O ?_))))))))))));refine zD O (o O) O (zD O (bb O O O) O (zD O (W O) O (ze hr h λx64 h65 h66 h67 h=>zD O (iF ak.y ak.bW h65 h66 h67 O O O) O (zD O (ji O O) O ?_))));refine ej O (bV O) hr h [] Tryz.call23 (hT.gv x60 x64) ⟨O,O,O,O,O,O,trivial⟩ O O (λ_=>O3) (λ_=>O2) hp (λy68 h=>⟨aK O,?_⟩);refine zD O (fu O) O (cY (hK59 _ _ (zB O h (λ_ h=>?_) λ_ h=>?_)))
   ·exact D λ_ hK70=>A (za O (zQ hK70 (H (z O h O))))
   exact V (hK57 _ _ (A (zd hr h λhg71 h=>zo hg71 O (zm O (N (hK53 _ _ _ h O))))))
  exact bw (hK14 _ _ (A (zd hr h λhg72 h=>zo hg72 O (zm O (N (hK10 _ _ _ h O))))))
 exact bw (hK6 _ _ (D λ_ hK73=>A (za O (zQ hK73 (H (z O h O))))))
theorem ui (n:Nat) (T:gT) (hT:kv T) (p0:ak) (p1:ak):CT Tryz.prog 23 [.agg (bf p0),.agg (bf p1)] [] (kV n T p0 p1) (λx=>Bo x) (λ_=>[]):=by
 refine zC Tryz.func23 O λr hp h hr E hE=>D λ_ hK1=>A (eD 102 (hE _ O) O7 O ?_);refine eD 103 (hE _ O) O7 O ?_;refine za O (zQ hK1 (D λ_ hK2=>D λ_ hK3=>A (zf O (zl O (zf O (zl O (zc O (zm O (zb (p0.Kind !=p1.Kind) (λhb4=>?_) λhb4=>?_)))))))))
 ·refine z1 hb4 h λh=>zH 5 O hb4 (zy hb4 O (zm O (zH 5 O O (zt O (zm O (zH 5 O O (zt O (zm O (zH 3 O O ?_)))))))));refine zH 4 O O (zt O (zm O (zH 6 O O (zt O (zQ hK3 (df O (λhc=>?_) (λhc=>?_)))))))
  ·exact D λ_ hK5=>A (za O (zQ hK5 (H (z O h O))))
  exact absurd (hc) (by simp)
 refine z2 hb4 h λh=>zG hb4 O (o O) (zG hb4 O (bb O O O) (zG hb4 O (o O) (zG hb4 O (bb O O O) (zG hb4 O (rL O O) (zw hb4 O (zm O (zb (p0.Text !=p1.Text) (λhb6=>?_) λhb6=>?_)))))))
 ·refine z1 hb6 h λh=>zH 5 O hb6 (zy hb6 O (zm O (zH 5 O O (zt O (zm O (zH 7 O O (zt O (zm O (zg O O ?_)))))))));refine zH 5 O O (zt O (zQ hK3 (df O (λhc=>?_) (λhc=>?_))))
  ·exact D λ_ hK7=>A (za O (zQ hK7 (H (z O h O))))
  exact absurd (hc) (by simp)
 refine z2 hb6 h λh=>zG hb6 O (o O) (zG hb6 O (bb O O O) (zG hb6 O (o O) (zG hb6 O (bb O O O) (zG hb6 O (bq O O O) (zw hb6 O (zm O (zb (p0.kl !=p1.kl) (λhb8=>?_) λhb8=>?_)))))))
 ·refine z1 hb8 h λh=>zH 5 O hb8 (zy hb8 O (zm O (zH 7 O O (zt O (zm O (zH 6 O O (zt O (zQ hK3 ?_))))))));refine df O (λhc=>?_) (λhc=>?_)
  ·exact D λ_ hK9=>A (za O (zQ hK9 (H (z O h O))))
  exact absurd (hc) (by simp)
 refine z2 hb8 h λh=>zG hb8 O (o O) (zG hb8 O (kj O O O O) ?_);refine zG hb8 O (o O) (zG hb8 O (kj O O O O) ?_);refine zG hb8 O (E7 O O) (zw hb8 O (zm O (zb (!((p0.bn==p1.bn)&&(p0.bu==p1.bu))) (λhb10=>?_) λhb10=>?_)))
 ·refine z1 hb10 h λh=>zH 7 O hb10 (zy hb10 O (zm O (zH 6 O O (zt O (zQ hK3 (df O (λhc=>?_) (λhc=>?_)))))))
  ·exact D λ_ hK11=>A (za O (zQ hK11 (H (z O h O))))
  exact absurd (hc) (by simp)
 refine z2 hb10 h λh=>zG hb10 O (o O) (zG hb10 O (bb O O O) (zG hb10 O (cD O) (zG hb10 O (o O) (zG hb10 O (bb O O O) (zG hb10 O (cD O) (zG hb10 O (bq O O O) (zw hb10 O (zm O (zb ((List.length p0.bc:Int) !=(List.length p1.bc:Int)) (λhb12=>?_) λhb12=>?_)))))))))
 ·refine z1 hb12 h λh=>zH 6 O hb12 (zy hb12 O (zQ hK3 (df O (λhc=>?_) (λhc=>?_))))
  ·exact D λ_ hK13=>A (za O (zQ hK13 (H (z O h O))))
  exact absurd (hc) (by simp)
 refine z2 hb12 h λh=>zG hb12 O (o O) (zG hb12 O (bb O O O) (zG hb12 O (o O) (zG hb12 O (bb O O O) (zK hb12 O hp hr h [] Tryz.call51 (kU n p0.bT p1.bT) O (λ_=>rfl) λy14 h=>zG hb12 O (fu O) (zw hb12 O (zQ hK3 (zB O h (λ_ h=>?_) λ_ h=>?_)))))))
 ·exact D λ_ hK16=>A (za O (zQ hK16 (H (z O h O))))
 refine V (hK2 _ _ (D λ_ hK17=>D λ_ hK18=>A (zf O (zl O (J (cD O) O (zm O (zQ hK18 (aE (zL hr h (λ(v19:Int)=>[(0,.agg (bf p0)),(1,.agg (bf p1)),(2,.ptr 102 0),(3,.ptr 103 0),(51,I (List.length p0.bc:Int)),(52,I v19)]) (λ(v19:Int)=>[(102,.box (bf p0)),(103,.box (bf p1))]) O λ_ v19 _ hK21 h=>D λ_ hK22=>A (zc O (zQ hK22 (D λ_ hK23=>zB O h (λ_ h=>?_) λ_ h=>?_))))))))))))
 ·refine V (hK23 _ _ (D λ_ hK25=>aE (D λ_ hK26=>A (zm O (za O (zQ hK26 (D λ_ hK27=>bG [0,1,2,3,4,5,6,7,8,9,10,11] O (by kernel_rfl) (zD O (o O) O (zD O (bb O O O) O (zD O (W O) O (ze hr h λx28 h29 h30 h31 h=>zD O (iF ak.y ak.bW h29 h30 h31 O O O) O (zD O (ji O O) O ?_))))))))))));refine zD O (o O) O (zD O (bb O O O) O (zD O (W O) O (ze hr h λx32 h33 h34 h35 h=>zD O (iF ak.y ak.bW h33 h34 h35 O O O) O (zD O (ji O O) O ?_))));refine ej O (bV O) hr h [] Tryz.call23 (hT.gv x28 x32) ⟨O,O,O,O,O,O,trivial⟩ O O (λ_=>O3) (λ_=>O2) hp (λy36 h=>⟨aK O,?_⟩);refine zD O (fu O) O (cY (hK27 _ _ (zB O h (λ_ h=>?_) λ_ h=>?_)))
  ·exact D λ_ hK38=>A (za O (zQ hK38 (H (z O h O))))
  exact V (hK25 _ _ (A (zd hr h λhg39 h=>zo hg39 O (zm O (N (hK21 _ _ _ h O))))))
 exact bw (hK17 _ _ (D λ_ hK40=>A (zf O (zl O (zf O (zl O (zk hp hr h [] Tryz.call52 (hT.dR p0.Decls p1.Decls) O (λ_=>rfl) λy41 h=>za O (zQ hK40 (H (z O h O))))))))))
theorem jH:∀ n,kv (eW n)
 | 0=>⟨λ_ _=>cM,λ_ _=>cM⟩
 | n+1=>⟨λp0 p1=>tE n _ (jH n) p0 p1,λp0 p1=>ui n _ (jH n) p0 p1⟩
theorem uj (n:Nat) (p0:(List aA)) (p1:(List aA)):CT Tryz.prog 52 [.pv (.sl (List.length p0) (aA.Cs p0)),.pv (.sl (List.length p1) (aA.Cs p1))] [] (dR n p0 p1) (λx=>Bo x) (λ_=>[]):=(jH n).dR p0 p1
def pG (n:Nat) (p0:cu) (p1:cu):al (Bool):=
 br (p0.cb !=p1.cb) (.ok (false)) (br ((List.length p0.bo:Int) !=(List.length p1.bo:Int)) (.ok (false)) (al.bind (iR n p0.bT p1.bT) λy8=>br (!y8) (.ok (false)) (iter (λnext14 (v13:Int)=>br (decide (v13<(List.length p0.bo:Int))) (el p0.bo v13 λx22=>el p1.bo v13 λx26=>br (x22.Name !=x26.Name) (.ok (false)) (el p0.bo v13 λx32=>el p1.bo v13 λx36=>br (x32.Path !=x36.Path) (.ok (false)) (gd (dY (v13+1)) (next14 (v13+1))))) (al.bind (dR n p0.Decls p1.Decls) λy44=>.ok (y44))) n (0))))
theorem ya (n:Nat) (p0:cu) (p1:cu):CT Tryz.prog 22 [.agg (kp p0),.agg (kp p1)] [] (pG n p0 p1) (λx=>Bo x) (λ_=>[]):=by
 refine zC Tryz.func22 O λr hp h hr E hE=>D λ_ hK1=>A (eD 102 (hE _ O) O7 O ?_);refine eD 103 (hE _ O) O7 O ?_;refine za O (zQ hK1 (D λ_ hK2=>D λ_ hK3=>A (zf O (zl O (zf O (zl O (J (rL O O) O (zm O (zb (p0.cb !=p1.cb) (λhb4=>?_) λhb4=>?_)))))))))
 ·refine z1 hb4 h λh=>zH 7 O hb4 (zy hb4 O (zm O (zH 6 O O (zt O (zQ hK3 (df O (λhc=>?_) (λhc=>?_)))))))
  ·exact D λ_ hK5=>A (za O (zQ hK5 (H (z O h O))))
  exact absurd (hc) (by simp)
 refine z2 hb4 h λh=>zG hb4 O (o O) (zG hb4 O (bb O O O) (zG hb4 O (cD O) (zG hb4 O (o O) (zG hb4 O (bb O O O) (zG hb4 O (cD O) (zG hb4 O (bq O O O) (zw hb4 O (zm O (zb ((List.length p0.bo:Int) !=(List.length p1.bo:Int)) (λhb6=>?_) λhb6=>?_)))))))))
 ·refine z1 hb6 h λh=>zH 6 O hb6 (zy hb6 O (zQ hK3 (df O (λhc=>?_) (λhc=>?_))))
  ·exact D λ_ hK7=>A (za O (zQ hK7 (H (z O h O))))
  exact absurd (hc) (by simp)
 refine z2 hb6 h λh=>zG hb6 O (o O) (zG hb6 O (bb O O O) (zG hb6 O (o O) (zG hb6 O (bb O O O) (zK hb6 O hp hr h [] Tryz.call51 (kU n p0.bT p1.bT) O (λ_=>rfl) λy8 h=>zG hb6 O (fu O) (zw hb6 O (zQ hK3 (zB O h (λ_ h=>?_) λ_ h=>?_)))))))
 ·exact D λ_ hK10=>A (za O (zQ hK10 (H (z O h O))))
 refine V (hK2 _ _ (D λ_ hK11=>D λ_ hK12=>A (zf O (zl O (J (cD O) O (zm O (zQ hK12 (aE (zL hr h (λ(v13:Int)=>[(0,.agg (kp p0)),(1,.agg (kp p1)),(2,.ptr 102 0),(3,.ptr 103 0),(30,I (List.length p0.bo:Int)),(31,I v13)]) (λ(v13:Int)=>[(102,.box (kp p0)),(103,.box (kp p1))]) O λ_ v13 _ hK15 h=>D λ_ hK16=>A (zc O (zQ hK16 (D λ_ hK17=>zB O h (λ_ h=>?_) λ_ h=>?_))))))))))))
 ·refine V (hK17 _ _ (D λ_ hK19=>aE (D λ_ hK20=>A (zm O (za O (zQ hK20 (D λ_ hK21=>bG [0,1,2,3,4,5,6,7,8,9,10,11,12,13,14,15,16,17,18,19,20,21,22,23,24,25,26,27] O (by kernel_rfl) (zD O (o O) O (zD O (bb O O O) O (zD O (W O) O (ze hr h λx22 h23 h24 h25 h=>zD O (iF bY.y bY.bW h23 h24 h25 O O O) O (zD O (kO O O) O (zD O (gI O O) O (zD O (o O) O (zD O (bb O O O) O (zD O (W O) O (ze hr h λx26 h27 h28 h29 h=>zD O (iF bY.y bY.bW h27 h28 h29 O O O) O (zD O (kO O O) O (zD O (gI O O) O ?_)))))))))))))))))));refine zD O (rL O O) O (zD O (W O) O (zb (x22.Name !=x26.Name) (λhb30=>?_) λhb30=>?_))
  ·refine z1 hb30 h λh=>dF hb30 O O2 O2 ?_;refine dF hb30 O O2 O2 ?_;refine dF hb30 O O2 O2 ?_;refine dF hb30 O O2 O2 ?_;refine dF hb30 O O2 O2 ?_;refine dF hb30 O O2 O2 ?_;refine dF hb30 O O2 O2 ?_;refine dF hb30 O O2 O2 ?_;refine dF hb30 O O2 O2 ?_;refine dF hb30 O O2 O2 ?_;refine dF hb30 O O2 O2 ?_;refine dF hb30 O O2 O2 ?_;refine dF hb30 O O2 O2 ?_;refine zD O (dU hb30 O O) O (cY (hK21 _ _ (df O (λhc=>?_) (λhc=>?_))))
   ·exact D λ_ hK31=>A (za O (zQ hK31 (H (z O h O))))
   exact absurd (hc) (by simp)
  refine z2 hb30 h λh=>dH hb30 O O2 (o O) O3 ?_;refine dH hb30 O O2 (bb O O O) O3 ?_;refine dH hb30 O O2 (W O) O3 ?_;refine ze hr h λx32 h33 h34 h35 h=>dH hb30 O O2 (iF bY.y bY.bW h33 h34 h35 O O O) O3 ?_;refine dH hb30 O O2 (kO O O) O3 ?_;refine dH hb30 O O2 (gI O O) O3 ?_;refine dH hb30 O O2 (o O) O3 ?_;refine dH hb30 O O2 (bb O O O) O3 ?_;refine dH hb30 O O2 (W O) O3 ?_;refine ze hr h λx36 h37 h38 h39 h=>dH hb30 O O2 (iF bY.y bY.bW h37 h38 h39 O O O) O3 ?_;refine dH hb30 O O2 (kO O O) O3 ?_;refine dH hb30 O O2 (gI O O) O3 ?_;refine dH hb30 O O2 (rL O O) O3 ?_;refine zD O (dJ hb30 O O) O (cY (hK21 _ _ (zB O h (λ_ h=>?_) λ_ h=>?_)))
  ·exact D λ_ hK41=>A (za O (zQ hK41 (H (z O h O))))
  exact V (hK19 _ _ (A (zd hr h λhg42 h=>zo hg42 O (zm O (N (hK15 _ _ _ h O))))))
 exact bw (hK11 _ _ (D λ_ hK43=>A (zf O (zl O (zf O (zl O (zk hp hr h [] Tryz.call52 (uj n p0.Decls p1.Decls) O (λ_=>rfl) λy44 h=>za O (zQ hK43 (H (z O h O))))))))))
end Go.Abs
end
section
namespace Go.Abs
open al
abbrev jm:rW->Prop:=λ_=>False
theorem rv {m:Nat->Nat} (hm:di m) {l:List ByS} {s:ByS} (hl:l.length<=1099511627776):Ev (λi=>slices_Index_string (m i) l s) (λ_=>True) jm:=by
 unfold slices_Index_string;refine Ev.iter hm (λ(v:Int)=>0<=v/\v<=l.length) (λv=>(l.length - v).toNat) (by omega) ?_;intro v hv next hn
 (repeat' (with_reducible first|refine Ev.gA ?_|refine Ev.eA (λ_ _=>?_)|apply Ev.de|apply Ev.cR|(first|apply Ev.aW|apply Ev.bH|apply Ev.bU|apply Ev.bz|apply Ev.br)<;>intro _|(apply Ev.lk;try dsimp only)))
 all_goals first|exact Ev.ok trivial|exact hn _ (by (first|omega|(simp[dY,lz,rN,maxLen]<;>omega))) (by (first|omega|(simp[dY,lz,rN,maxLen]<;>omega)))
theorem jk {m:Nat->Nat} (hm:di m) {l:List ByS} {s:ByS} (hl:l.length<=1099511627776):Ev (λi=>slices_Contains_string (m i) l s) (λ_=>True) jm:=by
 unfold slices_Contains_string;exact Ev.aQ (rv hm hl) λ_ _=>Ev.ok trivial
theorem rS {c:Int}:Ev (λ_=>mu c) (λ_=>True) jm:=by
 unfold mu
 (repeat' (with_reducible first|refine Ev.gA ?_|refine Ev.eA (λ_ _=>?_)|apply Ev.de|apply Ev.cR|(first|apply Ev.aW|apply Ev.bH|apply Ev.bU|apply Ev.bz|apply Ev.br)<;>intro _|(apply Ev.lk;try dsimp only)))
 all_goals exact Ev.ok trivial
theorem gK {m:Nat->Nat} (hm:di m) {s:ByS}:Ev (λi=>fv (m i) s) (λ_=>True) jm:=by
 unfold fv;refine Ev.aW (λ_=>Ev.ok trivial) (λh=>?_);refine Ev.aQ (jk hm (by simp)) λy _=>?_;refine Ev.br (λ_=>Ev.ok trivial) (λ_=>?_);refine Ev.jn (λv=>v.length<=32) (λv hv=>?_) (λj hj=>?_)
 ·(repeat' (with_reducible first|refine Ev.gA ?_|refine Ev.eA (λ_ _=>?_)|apply Ev.de|apply Ev.cR|(first|apply Ev.aW|apply Ev.bH|apply Ev.bU|apply Ev.bz|apply Ev.br)<;>intro _|(apply Ev.lk;try dsimp only)))
  ·exact Ev.ok trivial
  refine Ev.aQ rS λy _=>?_
  (repeat' (with_reducible first|refine Ev.gA ?_|refine Ev.eA (λ_ _=>?_)|apply Ev.de|apply Ev.cR|(first|apply Ev.aW|apply Ev.bH|apply Ev.bU|apply Ev.bz|apply Ev.br)<;>intro _|(apply Ev.lk;try dsimp only)))
  ·exact Ev.ok trivial
  refine Ev.iter hm (λ(x:Int)=>0<=x/\x<=v.length) (λx=>(v.length - x).toNat) (by omega) ?_;intro x hx next hn
  (repeat' (with_reducible first|refine Ev.gA ?_|refine Ev.eA (λ_ _=>?_)|apply Ev.de|apply Ev.cR|(first|apply Ev.aW|apply Ev.bH|apply Ev.bU|apply Ev.bz|apply Ev.br)<;>intro _|(apply Ev.lk;try dsimp only)))
  ·refine Ev.aQ rS λy _=>?_
   (repeat' (with_reducible first|refine Ev.gA ?_|refine Ev.eA (λ_ _=>?_)|apply Ev.de|apply Ev.cR|(first|apply Ev.aW|apply Ev.bH|apply Ev.bU|apply Ev.bz|apply Ev.br)<;>intro _|(apply Ev.lk;try dsimp only)))
   all_goals first|exact Ev.ok trivial|exact hn _ (by (first|omega|(simp[dY,lz,rN,maxLen]<;>omega))) (by (first|omega|(simp[dY,lz,rN,maxLen]<;>omega)))
  exact Ev.ok trivial
 (repeat' (with_reducible first|refine Ev.gA ?_|refine Ev.eA (λ_ _=>?_)|apply Ev.de|apply Ev.cR|(first|apply Ev.aW|apply Ev.bH|apply Ev.bU|apply Ev.bz|apply Ev.br)<;>intro _|(apply Ev.lk;try dsimp only)))
 all_goals refine hj _ ?_
 all_goals first|omega|(have:=lq (c:=s) (i:=1) (by omega) (by omega);omega)
theorem o5 {c:Int}:Ev (λ_=>lX c) (λr=>r=true->-1000000000000000<=c/\c<=1000000000000000) jm:=by
 unfold lX
 (repeat' (with_reducible first|refine Ev.gA ?_|refine Ev.eA (λ_ _=>?_)|apply Ev.de|apply Ev.cR|(first|apply Ev.aW|apply Ev.bH|apply Ev.bU|apply Ev.bz|apply Ev.br)<;>intro _|(apply Ev.lk;try dsimp only)))
 all_goals first|exact Ev.ok (by simp;omega)|exact Ev.ok (by simp)
theorem yb {c:Int}:Ev (λ_=>qZ c) (λr=>0<=r/\r<18446744073709551616) jm:=by
 unfold qZ
 (repeat' (with_reducible first|refine Ev.gA ?_|refine Ev.eA (λ_ _=>?_)|apply Ev.de|apply Ev.cR|(first|apply Ev.aW|apply Ev.bH|apply Ev.bU|apply Ev.bz|apply Ev.br)<;>intro _|(apply Ev.lk;try dsimp only)))
 all_goals exact Ev.ok (wrap_u64 _)
theorem tP {a:Int} (h:0<=a/\a<18446744073709551616):Ev (λ_=>jd a 10) (λr=>1<=r.length/\r.length<=20) jm:=by
 unfold jd;refine Ev.gd ⟨rfl,h.1,h.2⟩ (Ev.ok ⟨E5 19 _,A8 20 _⟩)
theorem yc {m:Nat->Nat} (hm:di m) {c:Int}:Ev (λi=>ra (m i) c) (λ_=>True) jm:=by
 unfold ra;refine Ev.aQ o5 λy _=>?_;refine Ev.bz (λ_=>Ev.ok trivial) (λ_=>?_);refine Ev.aQ yb λy _=>?_;refine Ev.gA (Ev.aQ (tP (wrap_u64 _)) λy hy=>?_);refine Ev.jn (λv=>v.length<=30) (λv hv=>?_) (λj hj=>?_)
 ·refine Ev.gA (Ev.aQ (tP (wrap_u64 _)) λy hy=>?_);refine Ev.gA ?_;refine Ev.jn (λv=>v.length<=30) (λv hv=>?_) (λj hj=>?_)
  ·(repeat' (with_reducible first|refine Ev.gA ?_|refine Ev.eA (λ_ _=>?_)|apply Ev.de|apply Ev.cR|(first|apply Ev.aW|apply Ev.bH|apply Ev.bU|apply Ev.bz|apply Ev.br)<;>intro _|(apply Ev.lk;try dsimp only)))
   all_goals exact Ev.ok trivial
  refine Ev.iter hm (λx=>x.length<=30) (λx=>x.length) ?_ ?_
  ·have:=lq (c:=y) (i:=1) (by omega) (by omega);omega
  intro x hx next hn
  (repeat' (with_reducible first|refine Ev.gA ?_|refine Ev.eA (λ_ _=>?_)|apply Ev.de|apply Ev.cR|(first|apply Ev.aW|apply Ev.bH|apply Ev.bU|apply Ev.bz|apply Ev.br)<;>intro _|(apply Ev.lk;try dsimp only)))
  ·have:=yC (c:=x) (j:=x.length - 1) (by omega) (by omega);exact hn _ (by omega) (by omega)
  ·exact hj _ (by omega)
  exact hj _ (by omega)
 (repeat' (with_reducible first|refine Ev.gA ?_|refine Ev.eA (λ_ _=>?_)|apply Ev.de|apply Ev.cR|(first|apply Ev.aW|apply Ev.bH|apply Ev.bU|apply Ev.bz|apply Ev.br)<;>intro _|(apply Ev.lk;try dsimp only)))
 all_goals exact hj _ (by (first|omega|(simp<;>omega)))
theorem sW {m:Nat->Nat} (hm:di m) {s:ByS}:Ev (λi=>ny (m i) s) (λ_=>True) jm:=by
 unfold ny;refine Ev.aW (λ_=>Ev.ok trivial) (λh=>?_);refine Ev.jn (λv=>v.1.length<=20/\v.2.length<=20) (λv hv=>?_) (λj hj=>?_)
 ·refine Ev.iter hm (λx=>x.length<=20) (λx=>20 - x.length) hv.2 ?_;intro x hx next hn
  (repeat' (with_reducible first|refine Ev.gA ?_|refine Ev.eA (λ_ _=>?_)|apply Ev.de|apply Ev.cR|(first|apply Ev.aW|apply Ev.bH|apply Ev.bU|apply Ev.bz|apply Ev.br)<;>intro _|(apply Ev.lk;try dsimp only)))
  ·exact hn _ (by (first|omega|(simp<;>omega))) (by (first|omega|(simp<;>omega)))
  ·exact Ev.ok trivial
  refine Ev.fX (Q:=λ_=>True) ?_ λy _=>?_
  ·unfold mU;exact Ev.gA (Ev.ok trivial)
  refine Ev.br (λ_=>Ev.ok trivial) (λ_=>?_);refine Ev.aQ o5 λy _=>?_;refine Ev.bz (λ_=>Ev.ok trivial) (λ_=>?_);refine Ev.aQ (yc hm) λy _=>?_;refine Ev.br (λ_=>Ev.ok trivial) (λ_=>Ev.ok trivial)
 refine Ev.iter hm (λ(x:Int)=>0<=x/\x<=s.length) (λx=>(s.length - x).toNat) (by omega) ?_;intro x hx next hn
 (repeat' (with_reducible first|refine Ev.gA ?_|refine Ev.eA (λ_ _=>?_)|apply Ev.de|apply Ev.cR|(first|apply Ev.aW|apply Ev.bH|apply Ev.bU|apply Ev.bz|apply Ev.br)<;>intro _|(apply Ev.lk;try dsimp only)))
 ·have h1:=xd (c:=s) (j:=x);have h2:=lq (c:=s) (i:=x+1) (by omega) (by omega);exact hj _ (by dsimp only;omega)
 ·exact hn _ (by (first|omega|(simp[dY,lz,rN,maxLen]<;>omega))) (by (first|omega|(simp[dY,lz,rN,maxLen]<;>omega)))
 exact hj _ (by dsimp only;simp;omega)
theorem ry {s p:ByS}:Ev (λ_=>strings_HasPrefix s p) (λr=>r=true->p.length<=s.length) jm:=by
 unfold strings_HasPrefix stringslite_HasPrefix;refine Ev.aQ (Q:=λr=>r=true->p.length<=s.length) ?_ λ_ h=>Ev.ok h
 (repeat' (with_reducible first|refine Ev.gA ?_|refine Ev.eA (λ_ _=>?_)|apply Ev.de|apply Ev.cR|(first|apply Ev.aW|apply Ev.bH|apply Ev.bU|apply Ev.bz|apply Ev.br)<;>intro _|(apply Ev.lk;try dsimp only)))
 ·exact Ev.ok (λ_=>by omega)
 exact Ev.ok (by simp)
theorem xn {a b:ByS} (h:1<=b.length) (ha:a.length<4294967281):Ev (λ_=>strings_Split a b) (λr=>r.length<=a.length+2) jm:=by
 unfold strings_Split;exact Ev.gd ⟨h,ha⟩ (Ev.ok (xe _ _ _))
theorem pH {a b:ByS} (ha:a.length<4294967281):Ev (λ_=>strings_Contains a b) (λ_=>True) jm:=by
 unfold strings_Contains;exact Ev.gd ha (Ev.ok trivial)
theorem lj {c:Int}:Ev (λ_=>iG c) (λr=>r=decide (48<=c/\c<=57)) jm:=by
 unfold iG
 (repeat' (with_reducible first|refine Ev.gA ?_|refine Ev.eA (λ_ _=>?_)|apply Ev.de|apply Ev.cR|(first|apply Ev.aW|apply Ev.bH|apply Ev.bU|apply Ev.bz|apply Ev.br)<;>intro _|(apply Ev.lk;try dsimp only)))
 ·exact Ev.ok (by simp;omega)
 exact Ev.ok (by simp;omega)
theorem rT {c:Int}:Ev (λ_=>ku c) (λ_=>True) jm:=by
 unfold ku
 (repeat' (with_reducible first|refine Ev.gA ?_|refine Ev.eA (λ_ _=>?_)|apply Ev.de|apply Ev.cR|(first|apply Ev.aW|apply Ev.bH|apply Ev.bU|apply Ev.bz|apply Ev.br)<;>intro _|(apply Ev.lk;try dsimp only)))
 all_goals exact Ev.ok trivial
theorem we {m:Nat->Nat} (hm:di m) {s:ByS} (hs:s.length<=65536) :
  Ev (λi=>lu (m i) s) (λr=>0<=r/\r<=s.length/\∀ b:UInt8,s[0]?=some b->48<=(b.toNat:Int)->(b.toNat:Int)<=57->1<=r) jm:=by
 unfold lu
 refine Ev.jn (λv=>0<=v/\v<=s.length/\∀ b:UInt8,s[0]?=some b->48<=(b.toNat:Int)->(b.toNat:Int)<=57->1<=v) (λv hv=>?_) (λj hj=>?_)
 ·refine Ev.jn (λb=>b=true->v+1<=s.length) (λb hb=>?_) (λj hj=>?_)
  ·refine Ev.br (λh=>?_) (λ_=>Ev.ok hv)
   have:=hb h
   refine Ev.gA ?_
   refine Ev.iter hm (λ(x:Int)=>v+1<=x/\x<=s.length) (λx=>(s.length - x).toNat) (by omega) ?_
   intro x hx next hn
   (repeat' (with_reducible first|refine Ev.gA ?_|refine Ev.eA (λ_ _=>?_)|apply Ev.de|apply Ev.cR|(first|apply Ev.aW|apply Ev.bH|apply Ev.bU|apply Ev.bz|apply Ev.br)<;>intro _|(apply Ev.lk;try dsimp only)))
   ·refine Ev.aQ lj λy _=>?_
    (repeat' (with_reducible first|refine Ev.gA ?_|refine Ev.eA (λ_ _=>?_)|apply Ev.de|apply Ev.cR|(first|apply Ev.aW|apply Ev.bH|apply Ev.bU|apply Ev.bz|apply Ev.br)<;>intro _|(apply Ev.lk;try dsimp only)))
    ·exact hn _ (by (first|omega|(simp[dY,lz,rN,maxLen]<;>omega))) (by (first|omega|(simp[dY,lz,rN,maxLen]<;>omega)))
    ·exact Ev.ok ⟨by omega,by omega,λ_ _ _ _=>by omega⟩
   ·exact Ev.ok ⟨by omega,by omega,λ_ _ _ _=>by omega⟩
  ·(repeat' (with_reducible first|refine Ev.gA ?_|refine Ev.eA (λ_ _=>?_)|apply Ev.de|apply Ev.cR|(first|apply Ev.aW|apply Ev.bH|apply Ev.bU|apply Ev.bz|apply Ev.br)<;>intro _|(apply Ev.lk;try dsimp only)))
   ·refine Ev.aQ lj λy _=>?_
    exact hj _ (λ_=>by omega)
   all_goals exact hj _ (by simp)
 ·refine Ev.iter hm (λ(x:Int)=>0<=x/\x<=s.length) (λx=>(s.length - x).toNat) (by omega) ?_
  intro x hx next hn
  refine Ev.aW (λh=>?_) (λh=>?_)
  ·refine Ev.eA (λb hb=>?_)
   refine Ev.aQ lj λy hy=>?_
   refine Ev.br (λ_=>?_) (λh2=>?_)
   ·(repeat' (with_reducible first|refine Ev.gA ?_|refine Ev.eA (λ_ _=>?_)|apply Ev.de|apply Ev.cR|(first|apply Ev.aW|apply Ev.bH|apply Ev.bU|apply Ev.bz|apply Ev.br)<;>intro _|(apply Ev.lk;try dsimp only)))
    exact hn _ (by (first|omega|(simp[dY,lz,rN,maxLen]<;>omega))) (by (first|omega|(simp[dY,lz,rN,maxLen]<;>omega)))
   ·refine hj _ ⟨hx.1,hx.2,λb' hb' h3 h4=>?_⟩
    rcases Int.lt_or_le x 1 with q|q
    ·have:x=0:=by omega
     subst this
     simp only[Int.toNat_zero] at hb
     rw[hb] at hb';cases hb'
     rw[hy] at h2
     exact absurd ⟨h3,h4⟩ (of_decide_eq_false h2)
    ·exact q
  ·refine hj _ ⟨hx.1,hx.2,λb' hb' _ _=>?_⟩
   have:=(List.getElem?_eq_some_iff.1 hb').1
   omega
theorem uD {m:Nat->Nat} (hm:di m) {s:ByS}:Ev (λi=>jX (m i) s) (λr=>r.length<=s.length) jm:=by
 unfold jX;refine Ev.iter hm (λ(x:Int)=>0<=x/\x<=3) (λx=>(3 - x).toNat) (by omega) ?_;intro x hx next hn;refine Ev.aW (λh=>?_) (λh=>Ev.ok (by simp));simp only[List.length_cons,List.length_nil] at h;refine Ev.el (by omega) (by simp;omega) (λa ha=>?_);have hal:a.length<=60:=by
  have hm:=List.mem_of_getElem? ha;simp only[List.mem_cons,List.not_mem_nil,or_false] at hm;rcases hm with rfl|rfl|rfl<;>simp
 refine Ev.aQ (xn (by simp) (by omega)) λl hl=>?_;refine Ev.iter hm (λ(z:Int)=>0<=z/\z<=l.length) (λz=>(l.length - z).toNat) (by omega) ?_;intro z hz next2 hn2
 (repeat' (with_reducible first|refine Ev.gA ?_|refine Ev.eA (λ_ _=>?_)|apply Ev.de|apply Ev.cR|(first|apply Ev.aW|apply Ev.bH|apply Ev.bU|apply Ev.bz|apply Ev.br)<;>intro _|(apply Ev.lk;try dsimp only)))
 ·refine Ev.aQ ry λy hy=>?_;refine Ev.br (λh=>Ev.ok (hy h)) (λ_=>?_)
  (repeat' (with_reducible first|refine Ev.gA ?_|refine Ev.eA (λ_ _=>?_)|apply Ev.de|apply Ev.cR|(first|apply Ev.aW|apply Ev.bH|apply Ev.bU|apply Ev.bz|apply Ev.br)<;>intro _|(apply Ev.lk;try dsimp only)))
  exact hn2 _ (by (first|omega|(simp[dY,lz,rN,maxLen]<;>omega))) (by (first|omega|(simp[dY,lz,rN,maxLen]<;>omega)))
 exact hn _ (by (first|omega|(simp[dY,lz,rN,maxLen]<;>omega))) (by (first|omega|(simp[dY,lz,rN,maxLen]<;>omega)))
theorem yd {m:Nat->Nat} (hm:di m) {s:ByS} (hs:s.length<=65536):Ev (λi=>mV (m i) s) (λr=>0<=r/\r<=s.length) jm:=by
 unfold mV;refine Ev.jn (λv=>0<=v/\v<=s.length) (λv hv=>?_) (λj hj=>?_)
 ·refine Ev.bH (λh=>?_) (λ_=>Ev.ok hv);refine Ev.eA (λb _=>?_);refine Ev.aQ rT λy _=>?_
  (repeat' (with_reducible first|refine Ev.gA ?_|refine Ev.eA (λ_ _=>?_)|apply Ev.de|apply Ev.cR|(first|apply Ev.aW|apply Ev.bH|apply Ev.bU|apply Ev.bz|apply Ev.br)<;>intro _|(apply Ev.lk;try dsimp only)))
  all_goals exact Ev.ok (by omega)
 refine Ev.iter hm (λ(x:Int)=>0<=x/\x<=s.length) (λx=>(s.length - x).toNat) (by omega) ?_;intro x hx next hn;refine Ev.jn (λ_=>x<s.length) (λ_ h=>?_) (λj2 hj2=>?_)
 ·(repeat' (with_reducible first|refine Ev.gA ?_|refine Ev.eA (λ_ _=>?_)|apply Ev.de|apply Ev.cR|(first|apply Ev.aW|apply Ev.bH|apply Ev.bU|apply Ev.bz|apply Ev.br)<;>intro _|(apply Ev.lk;try dsimp only)))
  exact hn _ (by (first|omega|(simp[dY,lz,rN,maxLen]<;>omega))) (by (first|omega|(simp[dY,lz,rN,maxLen]<;>omega)))
 refine Ev.aW (λh=>?_) (λ_=>hj _ hx);refine Ev.eA (λb _=>?_);refine Ev.aQ rT λy _=>?_;refine Ev.br (λ_=>hj2 _ h) (λ_=>?_)
 (repeat' (with_reducible first|refine Ev.gA ?_|refine Ev.eA (λ_ _=>?_)|apply Ev.de|apply Ev.cR|(first|apply Ev.aW|apply Ev.bH|apply Ev.bU|apply Ev.bz|apply Ev.br)<;>intro _|(apply Ev.lk;try dsimp only)))
 ·refine Ev.aQ lj λy _=>?_
  (repeat' (with_reducible first|refine Ev.gA ?_|refine Ev.eA (λ_ _=>?_)|apply Ev.de|apply Ev.cR|(first|apply Ev.aW|apply Ev.bH|apply Ev.bU|apply Ev.bz|apply Ev.br)<;>intro _|(apply Ev.lk;try dsimp only)))
  all_goals first|exact hj2 _ h|exact hj _ hx
 all_goals first|exact hj2 _ h|exact hj _ hx
theorem vx {m:Nat->Nat} (hm:di m) {s:ByS} (hs:s.length<=65536):Ev (λi=>kK (m i) s) (λr=>r.1=0\/2<=r.1/\r.1<=s.length) jm:=by
 unfold kK;refine Ev.iter hm (λx=>1<=x.2/\x.2<=65540) (λx=>(65540 - x.2).toNat) (by simp) ?_;intro x hx next hn;refine Ev.aW (λh=>?_) (λ_=>Ev.ok (by simp));refine Ev.jn (λv=>x.2<=v.2/\v.2<=s.length+1) (λv hv=>?_) (λj hj=>?_)
 ·refine Ev.gA (hn _ (by dsimp only;omega) (by dsimp only;omega))
 (repeat' (with_reducible first|refine Ev.gA ?_|refine Ev.eA (λ_ _=>?_)|apply Ev.de|apply Ev.cR|(first|apply Ev.aW|apply Ev.bH|apply Ev.bU|apply Ev.bz|apply Ev.br)<;>intro _|(apply Ev.lk;try dsimp only)))
 all_goals first|exact Ev.ok (.inr ⟨by (first|omega|(simp[dY,lz,rN,maxLen]<;>omega)),by (first|omega|(simp[dY,lz,rN,maxLen]<;>omega))⟩)|exact hj _ (by dsimp only;omega)
theorem wg {m:Nat->Nat} (hm:di m) {s:ByS} (hs:s.length<=70000):Ev (λi=>jA (m i) s 16 8) (λr=>r.2=0\/r.2=1\/r.2=2) jm:=by
 unfold jA;refine Ev.br (λ_=>Ev.ok (.inr (.inr rfl))) (λ_=>?_);refine Ev.jn (λv=>v=(s,16)) (λv hv=>?_) (λj9 hj9=>?_)
 ·subst hv;dsimp only;refine Ev.jn (λv=>v=8) (λv hv=>?_) (λj12 hj12=>?_)
  ·subst hv;refine Ev.jn (λ_=>True) (λv _=>?_) (λj hj=>?_)
   ·refine Ev.gd (wrap_u64 _).1 ?_;have hl:(ofBytes s).length<=70000:=by simpa[ofBytes] using hs
    refine Ev.iter hm (λ(x:Bool×Int×Int)=>x.1=false/\0<=x.2.2/\x.2.2<=(ofBytes s).length) (λx=>((ofBytes s).length - x.2.2).toNat) (by simp) ?_;intro x hx next hn;refine Ev.aW (λhlt=>?_) (λ_=>Ev.br (λh=>by rw[hx.1] at h;cases h) (λ_=>Ev.ok (.inl rfl)));refine Ev.eA λc _=>?_;refine Ev.jn (λ_=>True) (λv _=>?_) (λj38 hj38=>?_)
    ·refine Ev.br (λ_=>Ev.ok (.inr (.inr rfl))) (λ_=>Ev.br (λ_=>Ev.ok (.inr (.inl rfl))) (λ_=>Ev.br (λ_=>Ev.ok (.inr (.inl rfl))) (λ_=>Ev.br (λ_=>Ev.ok (.inr (.inl rfl))) (λ_=>?_))));exact Ev.gA (hn _ ⟨hx.1,by dsimp only;omega,by dsimp only;omega⟩ (by dsimp only;omega))
    refine Ev.jn (λv=>v=false) (λv hv=>?_) (λj58 hj58=>?_)
    ·subst hv;refine Ev.cR ?_;refine Ev.jn (λ_=>True) (λv _=>?_) (λj64 hj64=>Ev.br (λ_=>hj64 _ trivial) (λ_=>hj64 _ trivial));refine Ev.br (λ_=>hj38 _ trivial) (λ_=>Ev.pw rfl (Ev.br (λ_=>Ev.pw rfl (Ev.br (λ_=>Ev.pw rfl (hj38 _ trivial)) (λ_=>Ev.ok (.inr (.inr rfl))))) (λ_=>Ev.ok (.inr (.inr rfl)))))
    exact Ev.br (λ_=>hj58 _ rfl) (λ_=>hj58 _ rfl)
   exact Ev.br (λh=>by simp at h) (λ_=>Ev.br (λ_=>hj _ trivial) (λh=>by simp at h))
  exact Ev.br (λh=>by simp at h) (λ_=>Ev.br (λh=>by simp at h) (λ_=>Ev.br (λh=>by simp at h) (λ_=>hj12 _ rfl)))
 refine Ev.jn (λv=>v=true) (λv hv=>?_) (λj99 hj99=>?_)
 ·subst hv;exact Ev.de (hj9 _ rfl)
 exact Ev.br (λ_=>hj99 _ (by simp)) (λh=>by simp at h)
theorem Ab {m:Nat->Nat} (hm:di m) {s:ByS} (hs:s.length<=70000):Ev (λi=>kR (m i) s 16 8) (λ_=>True) jm:=by
 unfold kR;refine Ev.aQ (wg hm hs) λy hy=>Ev.bU (λh=>?_) (λ_=>Ev.ok trivial);refine Ev.pw (a:=true) ?_ (Ev.ok trivial);unfold nR;simp only[al.gd];rw[if_pos ⟨by omega,by omega⟩]
theorem uE {m:Nat->Nat} (hm:di m) {s:ByS} (hs:s.length<=70000):Ev (λi=>my (m i) s) (λr=>0<=r.2/\r.2<=s.length) jm:=by
 unfold my;refine Ev.aW (λ_=>Ev.ok (by simp)) (λh=>?_);refine Ev.eA (λb _=>?_);refine Ev.jn (λ_=>True) (λv _=>?_) (λj hj=>?_)
 ·(repeat' (with_reducible first|refine Ev.gA ?_|refine Ev.eA (λ_ _=>?_)|apply Ev.de|apply Ev.cR|(first|apply Ev.aW|apply Ev.bH|apply Ev.bU|apply Ev.bz|apply Ev.br)<;>intro _|(apply Ev.lk;try dsimp only)))
  all_goals first|exact Ev.ok (by dsimp only;omega)|skip
  refine Ev.aQ (Ab hm (by have:=tp (c:=s) (i:=2) (j:=4) (by omega) (by omega) (by omega);omega)) λy _=>?_
  (repeat' (with_reducible first|refine Ev.gA ?_|refine Ev.eA (λ_ _=>?_)|apply Ev.de|apply Ev.cR|(first|apply Ev.aW|apply Ev.bH|apply Ev.bU|apply Ev.bz|apply Ev.br)<;>intro _|(apply Ev.lk;try dsimp only)))
  all_goals exact Ev.ok (by dsimp only;omega)
 (repeat' (with_reducible first|refine Ev.gA ?_|refine Ev.eA (λ_ _=>?_)|apply Ev.de|apply Ev.cR|(first|apply Ev.aW|apply Ev.bH|apply Ev.bU|apply Ev.bz|apply Ev.br)<;>intro _|(apply Ev.lk;try dsimp only)))
 all_goals exact hj _ trivial
theorem qF {m:Nat->Nat} (hm:di m) {s:ByS} :
  Ev (λi=>lG (m i) s) (λr=>r.1.length<=s.length/\∀ c:UInt8,s[1]?=some c->c.toNat≠34->r.2.Errno=0->1<=r.1.length) jm:=by
 unfold lG
 refine Ev.aW (λ_=>Ev.ok ⟨by simp,λ_ _ _ h=>by simp at h⟩) (λh=>?_)
 refine Ev.bH (λ_=>Ev.ok ⟨by simp,λ_ _ _ h=>by simp at h⟩) (λh=>?_)
 refine Ev.eA (λb _=>?_)
 refine Ev.bU (λ_=>Ev.ok ⟨by simp,λ_ _ _ h=>by simp at h⟩) (λh=>?_)
 refine Ev.iter hm (λ(x:List Int×Int)=>1<=x.2/\x.2<=s.length/\x.1.length<=x.2/\(x.2=1\/1<=x.1.length)) (λx=>(s.length - x.2).toNat) (by simp;omega) ?_
 intro x hx next hn
 refine Ev.aW (λ_=>Ev.ok ⟨by simp,λ_ _ _ h=>by simp at h⟩) (λh=>?_)
 refine Ev.eA (λb hb=>?_)
 refine Ev.bH (λh34=>?_) (λh34=>?_)
 ·refine Ev.gA (Ev.aW (λ_=>Ev.gA (Ev.ok ⟨by simp,λ_ _ _ h=>by simp at h⟩)) (λ_=>?_))
  refine Ev.ok ⟨by simp[kQ];omega,λc hc hc2 _=>?_⟩
  rcases hx.2.2.2 with q|q
  ·rw[q] at hb
   simp only[Int.toNat_one] at hb
   rw[hb] at hc;cases hc
   omega
  ·simpa[kQ] using q
 ·refine Ev.eA (λb2 _=>?_)
  refine Ev.bH (λ_=>?_) (λ_=>?_)
  ·refine Ev.gA ?_
   have hl:=lq (c:=s) (i:=x.2) (by omega) (by omega)
   refine Ev.aQ (uE hm (by omega)) λy hy=>?_
   refine Ev.bH (λ_=>Ev.ok ⟨by simp,λ_ _ _ h=>by simp at h⟩) (λh0=>?_)
   (repeat' (with_reducible first|refine Ev.gA ?_|refine Ev.eA (λ_ _=>?_)|apply Ev.de|apply Ev.cR|(first|apply Ev.aW|apply Ev.bH|apply Ev.bU|apply Ev.bz|apply Ev.br)<;>intro _|(apply Ev.lk;try dsimp only)))
   exact hn _ (by simp;omega) (by (first|omega|(simp[dY,lz,rN,maxLen]<;>omega)))
  ·refine Ev.jn (λ_=>True) (λv _=>?_) (λj hj=>?_)
   ·refine Ev.br (λ_=>Ev.ok ⟨by simp,λ_ _ _ h=>by simp at h⟩) (λ_=>?_)
    (repeat' (with_reducible first|refine Ev.gA ?_|refine Ev.eA (λ_ _=>?_)|apply Ev.de|apply Ev.cR|(first|apply Ev.aW|apply Ev.bH|apply Ev.bU|apply Ev.bz|apply Ev.br)<;>intro _|(apply Ev.lk;try dsimp only)))
    exact hn _ (by simp;omega) (by (first|omega|(simp[dY,lz,rN,maxLen]<;>omega)))
   ·(repeat' (with_reducible first|refine Ev.gA ?_|refine Ev.eA (λ_ _=>?_)|apply Ev.de|apply Ev.cR|(first|apply Ev.aW|apply Ev.bH|apply Ev.bU|apply Ev.bz|apply Ev.br)<;>intro _|(apply Ev.lk;try dsimp only)))
    all_goals exact hj _ trivial
theorem ye {m:Nat->Nat} (hm:di m) {s:ByS} (hs:s.length<=65536):Ev (λi=>rh (m i) s) (λr=>r.2=true->r.1.length+2<=s.length) jm:=by
 unfold rh;refine Ev.iter hm (λ(x:Int×Int)=>0<=x.2/\x.2<=s.length/\x.1<=x.2/\ -x.2<=x.1) (λx=>(s.length - x.2).toNat) (by simp) ?_;intro x hx next hn
 (repeat' (with_reducible first|refine Ev.gA ?_|refine Ev.eA (λ_ _=>?_)|apply Ev.de|apply Ev.cR|(first|apply Ev.aW|apply Ev.bH|apply Ev.bU|apply Ev.bz|apply Ev.br)<;>intro _|(apply Ev.lk;try dsimp only)))
 ·exact hn _ (by dsimp only;omega) (by dsimp only;omega)
 ·have:=tp (c:=s) (i:=1) (j:=x.2) (by omega) (by omega) (by omega);exact Ev.ok λ_=>by dsimp only;omega
 ·exact hn _ (by dsimp only;omega) (by dsimp only;omega)
 ·exact hn _ (by dsimp only;omega) (by dsimp only;omega)
 exact Ev.ok (by simp)
theorem wh {m:Nat->Nat} (hm:di m) {s:ByS} (hs:s.length<=65536) (h0:s[0]?=some 92):Ev (λi=>oz (m i) s) (λr=>r.2=0\/2<=r.2/\r.2<=s.length) jm:=by
 unfold oz;refine Ev.jn (λv=>2<=v) (λv hv=>?_) (λj hj=>?_)
 ·refine Ev.aW (λ_=>Ev.ok (.inl rfl)) (λh=>?_);refine Ev.gA ?_;have hl:=yC (c:=s) (j:=v) (by omega) (by omega);refine Ev.gA (Ev.gA ?_);refine Ev.aQ (qF hm) λy hy=>?_;refine Ev.bU (λ_=>Ev.ok (.inl rfl)) (λhe=>?_);have h1:([34]++kB s v++[34])[1]?=some (92:UInt8):=by
   cases s with
   | nil=>simp at h0
   | cons a s=>
    simp at h0;subst h0
    have:v.toNat=(v.toNat - 1)+1:=by omega
    simp[kB];rw[this];simp
  have:=hy.2 _ h1 (by decide) he;refine Ev.eA λb _=>Ev.ok (.inr ⟨hv,by dsimp only;omega⟩)
 refine Ev.aQ ry λy _=>?_
 (repeat' (with_reducible first|refine Ev.gA ?_|refine Ev.eA (λ_ _=>?_)|apply Ev.de|apply Ev.cR|(first|apply Ev.aW|apply Ev.bH|apply Ev.bU|apply Ev.bz|apply Ev.br)<;>intro _|(apply Ev.lk;try dsimp only)))
 all_goals exact hj _ (by omega)
def BW (n:Nat) (x:aS):Prop:=0<=x.Pos/\x.Pos<=n/\(x.Code=true->x.Pos+x.Text.length<n)
theorem pI {t:List Int} {out:List aS} {f:Int} (ho:out.length<=70000) :
  Ev (λ_=>lh t out f) (λr=>r.1=[]/\r.2.2=f/\((t=[]/\r.2.1=out)\/(1<=t.length/\∃ x:aS,r.2.1=out++[x]/\x.Code=false/\x.Pos=f))) jm:=by
 unfold lh
 (repeat' (with_reducible first|refine Ev.gA ?_|refine Ev.eA (λ_ _=>?_)|apply Ev.de|apply Ev.cR|(first|apply Ev.aW|apply Ev.bH|apply Ev.bU|apply Ev.bz|apply Ev.br)<;>intro _|(apply Ev.lk;try dsimp only)))
 ·exact Ev.ok ⟨rfl,rfl,.inr ⟨by omega,_,rfl,rfl,rfl⟩⟩
 ·exact Ev.ok ⟨rfl,rfl,.inl ⟨List.eq_nil_of_length_eq_zero (by omega),rfl⟩⟩
theorem rU {m:Nat->Nat} (hm:di m) {s:ByS} (hs:s.length<=65536):Ev (λi=>mz (m i) s) (λr=>r.1.length<=s.length/\∀ x,x∈r.1->BW s.length x) jm:=by
 unfold mz;refine Ev.iter hm (λ(x:List aS×List Int×Int×Int)=>0<=x.2.2.2/\x.2.2.2<=s.length/\0<=x.2.2.1/\x.2.2.1<=s.length/\(x.1.length:Int)+min 1 x.2.1.length<=x.2.2.2/\(x.2.1.length:Int)<=x.2.2.2/\∀ p,p∈x.1->BW s.length p)
  (λx=>(s.length - x.2.2.2).toNat) (by simp) ?_
 rintro ⟨out,t,f,i⟩ ⟨h1,h2,h3,h4,h5,h6,h7⟩ next hn;dsimp only at h1 h2 h3 h4 h5 h6 h7 hn ⊢;refine Ev.aW (λhi=>?_) (λhi=>?_)
 ·refine Ev.jn (λv=>0<=v/\v<=s.length) (λv hv=>?_) (λj hj=>?_)
  ·refine Ev.gA (Ev.aQ ry λy hy=>?_);refine Ev.br (λhp=>?_) (λ_=>?_)
   ·refine Ev.gA (Ev.gA ?_);have hl:=lq (c:=s) (i:=i+1) (by omega) (by omega);refine Ev.aQ (ye hm (by omega)) λc hc=>?_;refine Ev.bz (λ_=>Ev.ok ⟨by simp,λ_ h=>by cases h⟩) (λhct=>?_);have hc2:=hc hct;refine Ev.aQ (pI (by omega)) λr hr=>?_;obtain ⟨r1,r2,r3⟩:=hr;have hr4:(r.2.1.length:Int)<=i/\∀ p,p∈r.2.1->BW s.length p:=by
     rcases r3 with ⟨a,b⟩|⟨a,x,b,c1,c2⟩
     ·rw[b];subst a;exact ⟨by simp at h5;omega,h7⟩
     rw[b];refine ⟨by simp;omega,λp hp=>?_⟩;rcases List.mem_append.1 hp with q|q
     ·exact h7 p q
     simp at q;subst q;exact ⟨by omega,by omega,λq=>by rw[c1] at q;cases q⟩
    (repeat' (with_reducible first|refine Ev.gA ?_|refine Ev.eA (λ_ _=>?_)|apply Ev.de|apply Ev.cR|(first|apply Ev.aW|apply Ev.bH|apply Ev.bU|apply Ev.bz|apply Ev.br)<;>intro _|(apply Ev.lk;try dsimp only)))
    refine hn _ ⟨by dsimp only;omega,by dsimp only;omega,by dsimp only;omega,by dsimp only;omega,by rw[r1];simp;omega,by rw[r1];simp;omega,λp hp=>?_⟩ (by dsimp only;omega);rcases List.mem_append.1 hp with q|q
    ·exact hr4.2 p q
    simp at q;subst q;exact ⟨by dsimp only;omega,by dsimp only;omega,λ_=>by dsimp only;omega⟩
   refine Ev.eA (λb hb=>?_);refine Ev.bH (λh92=>?_) (λ_=>?_)
   ·refine Ev.gA ?_;have hl:=lq (c:=s) (i:=i) (by omega) (by omega);have h0:(dI s i)[0]?=some (92:UInt8):=by
     simp only[dI,List.getElem?_drop,Nat.add_zero,hb];congr 1;apply UInt8.toNat_inj.1;show b.toNat=92;omega
    refine Ev.aQ (wh hm (by omega) h0) λe he=>?_;refine Ev.bH (λ_=>Ev.ok ⟨by simp,λ_ h=>by cases h⟩) (λhne=>?_)
    (repeat' (with_reducible first|refine Ev.gA ?_|refine Ev.eA (λ_ _=>?_)|apply Ev.de|apply Ev.cR|(first|apply Ev.aW|apply Ev.bH|apply Ev.bU|apply Ev.bz|apply Ev.br)<;>intro _|(apply Ev.lk;try dsimp only)))
    exact hn _ ⟨by dsimp only;omega,by dsimp only;omega,hv.1,hv.2,by simp;omega,by simp;omega,h7⟩ (by dsimp only;omega)
   refine Ev.jn (λ_=>True) (λw _=>?_) (λj2 hj2=>?_)
   ·refine Ev.br (λ_=>Ev.ok ⟨by simp,λ_ h=>by cases h⟩) (λ_=>?_)
    (repeat' (with_reducible first|refine Ev.gA ?_|refine Ev.eA (λ_ _=>?_)|apply Ev.de|apply Ev.cR|(first|apply Ev.aW|apply Ev.bH|apply Ev.bU|apply Ev.bz|apply Ev.br)<;>intro _|(apply Ev.lk;try dsimp only)))
    exact hn _ ⟨by dsimp only;omega,by dsimp only;omega,hv.1,hv.2,by simp;omega,by simp;omega,h7⟩ (by dsimp only;omega)
   (repeat' (with_reducible first|refine Ev.gA ?_|refine Ev.eA (λ_ _=>?_)|apply Ev.de|apply Ev.cR|(first|apply Ev.aW|apply Ev.bH|apply Ev.bU|apply Ev.bz|apply Ev.br)<;>intro _|(apply Ev.lk;try dsimp only)))
   all_goals exact hj2 _ trivial
  (repeat' (with_reducible first|refine Ev.gA ?_|refine Ev.eA (λ_ _=>?_)|apply Ev.de|apply Ev.cR|(first|apply Ev.aW|apply Ev.bH|apply Ev.bU|apply Ev.bz|apply Ev.br)<;>intro _|(apply Ev.lk;try dsimp only)))
  all_goals exact hj _ (by omega)
 refine Ev.aQ (pI (by omega)) λr hr=>?_;obtain ⟨r1,r2,r3⟩:=hr;refine Ev.ok ?_;rcases r3 with ⟨a,b⟩|⟨a,x,b,c1,c2⟩
 ·dsimp only;rw[b];exact ⟨by omega,h7⟩
 dsimp only;rw[b];refine ⟨by simp;omega,λp hp=>?_⟩;rcases List.mem_append.1 hp with q|q
 ·exact h7 p q
 simp at q;subst q;exact ⟨by omega,by omega,λq=>by rw[c1] at q;cases q⟩
structure Kr (a:Int) (t:aB):Prop where
 p0:0<=t.Pos
 pe:t.Pos<t.End
 e:t.End<=a
 k:t.Kind≠0
 ip:t.Kind=4->(t.Text.length:Int)+2<=t.End - t.Pos
 tl:t.Text.length<=65536
structure vS (a:Int) (l:List aB):Prop where
 len:(l.length:Int)<=a
 ok:∀ t,t∈l->Kr a t
 sorted:l.Pairwise λt u=>t.End<=u.Pos
theorem vS.snoc {a:Int} {l:List aB} (h:vS a l) {t:aB} (h1:t.Pos=a) (h2:a<t.End) (h0:0<=a) (hk:t.Kind≠0) (hi:t.Kind=4->(t.Text.length:Int)+2<=t.End - t.Pos) (hl:t.Text.length<=65536):vS t.End (l++[t]):=by
 refine ⟨by have:=h.len;simp;omega,λu hu=>?_,?_⟩
 ·rcases List.mem_append.1 hu with q|q
  ·obtain ⟨a1,a2,a3,a4,a5,a6⟩:=h.ok u q;exact ⟨a1,a2,by omega,a4,a5,a6⟩
  simp at q;subst q;exact ⟨by omega,by omega,by omega,hk,hi,hl⟩
 refine List.pairwise_append.2 ⟨h.sorted,by simp,λu hu v hv=>?_⟩;simp at hv;subst hv;have:=(h.ok u hu).e;omega
theorem vS.mono {a b:Int} {l:List aB} (h:vS a l) (hab:a<=b):vS b l:=
 ⟨by have:=h.len;omega,λt ht=>let q:=h.ok t ht;⟨q.p0,q.pe,by have:=q.e;omega,q.k,q.ip,q.tl⟩,h.sorted⟩
structure Br (s:ByS) (x:P):Prop where
 text:x.text=s
 xO:0<=x.at_
 yD:x.at_<=s.length
 out:vS x.at_ x.out
theorem nE {k n:Int} {t:ByS} {x:P} (h0:0<=x.at_) (h1:x.at_<=70000) (hn:0<=n) (hn2:n<=70000) (ho:x.out.length<=70000) (ht:t.length<=70000) :
  Ev (λ_=>aZ k t n x) (λr=>r.text=x.text/\r.at_=x.at_+n/\r.out=x.out++[aB.mk k t x.at_ (x.at_+n)]) jm:=by
 unfold aZ
 refine Ev.gA (Ev.gA (Ev.gA (Ev.bH (λ_=>Ev.ok ⟨rfl,rfl,rfl⟩) (λ_=>?_))))
 refine Ev.jn (λ_=>True) (λv _=>?_) (λj hj=>?_)
 ·refine Ev.br (λ_=>Ev.ok ⟨rfl,rfl,rfl⟩) (λ_=>?_)
  refine Ev.bH (λ_=>?_) (λ_=>Ev.ok ⟨rfl,rfl,rfl⟩)
  (repeat' (with_reducible first|refine Ev.gA ?_|refine Ev.eA (λ_ _=>?_)|apply Ev.de|apply Ev.cR|(first|apply Ev.aW|apply Ev.bH|apply Ev.bU|apply Ev.bz|apply Ev.br)<;>intro _|(apply Ev.lk;try dsimp only)))
  exact Ev.aQ (pH (by simp)) λy _=>Ev.ok ⟨rfl,rfl,rfl⟩
 ·(repeat' (with_reducible first|refine Ev.gA ?_|refine Ev.eA (λ_ _=>?_)|apply Ev.de|apply Ev.cR|(first|apply Ev.aW|apply Ev.bH|apply Ev.bU|apply Ev.bz|apply Ev.br)<;>intro _|(apply Ev.lk;try dsimp only)))
  all_goals exact hj _ trivial
theorem Br.add {s:ByS} (hs:s.length<=65536) {x:P} (h:Br s x) {k n:Int} {t:ByS} (hn:1<=n) (hn2:x.at_+n<=s.length) (ht:t.length<=65536) (hk:k≠0) (hi:k=4->(t.length:Int)+2<=n) :
  Ev (λ_=>aZ k t n x) (λr=>Br s r/\x.at_<r.at_) jm:=by
 have hl:=h.out.len
 have h0:=h.xO
 have h1:=h.yD
 refine (nE (k:=k) (t:=t) h0 (by omega) (by omega) (by omega) (by omega) (by omega)).Ig λr hr=>?_
 refine ⟨⟨by rw[hr.1];exact h.text,by omega,by omega,?_⟩,by omega⟩
 rw[hr.2.1,hr.2.2]
 have:=h.out.snoc (t:=aB.mk k t x.at_ (x.at_+n)) rfl (by dsimp only;omega) h0 hk (λq=>by have:=hi q;dsimp only;omega) ht
 exact this
theorem sX {m:Nat->Nat} (hm:di m) {s:ByS} (hs:s.length<=65536) {x:P} (h:Br s x) :
  Ev (λi=>dm (m i) x) (λr=>Br s r.2/\(r.1=true->x.at_<r.2.at_)) jm:=by
 have hl:=h.out.len
 have h0:=h.xO
 have h1:=h.yD
 have ht:=h.text
 unfold dm
 simp only[ht]
 refine Ev.gA ?_
 have hq:=lq (c:=s) (i:=x.at_) (by omega) (by omega)
 refine Ev.aQ (vx hm (by omega)) λy hy=>?_
 refine Ev.bH (λ_=>Ev.ok ⟨h,by simp⟩) (λhne=>?_)
 refine Ev.gA (Ev.gA ?_)
 have hq2:=tp (c:=s) (i:=x.at_) (j:=x.at_+y.1) (by omega) (by omega) (by omega)
 refine Ev.br (λ_=>?_) (λ_=>?_)
 ·refine Ev.gA (Ev.gA ?_)
  have hq3:=tp (c:=sub s x.at_ (x.at_+y.1)) (i:=1) (j:=y.1 - 1) (by omega) (by omega) (by omega)
  refine Ev.aQ (rU hm (by omega)) λz _=>?_
  refine Ev.bU (λ_=>Ev.ok ⟨h,by simp⟩) (λ_=>?_)
  refine Ev.gA (Ev.gA ?_)
  refine Ev.aQ (h.add hs (by omega) (by omega) (by omega) (by decide) (λ_=>by omega)) λr hr=>Ev.ok ⟨hr.1,λ_=>hr.2⟩
 ·refine Ev.aQ (qF hm) λz hz=>?_
  refine Ev.bU (λ_=>Ev.ok ⟨h,by simp⟩) (λ_=>?_)
  refine Ev.aQ (h.add hs (by omega) (by omega) (by omega) (by decide) (λq=>by simp at q)) λr hr=>Ev.ok ⟨hr.1,λ_=>hr.2⟩
theorem CY:∀ (s p:ByS) (i:Nat),l8 s p=some i->i<=s.length
 | [],p,i,h=>by
  unfold l8 at h;split at h
  ·cases h;simp
  cases h
 | b::l,p,i,h=>by
  unfold l8 at h;split at h
  ·cases h;simp
  cases q:l8 l p with
  | none=>rw[q] at h;cases h
  | some k=>rw[q] at h;cases h;have:=CY l p k q;simp;omega
theorem Dv {s p:ByS} (h:(kB s p.length==p)=true):∃ r,s=p++r:=by
 have:=beq_iff_eq.1 h;simp only[kB,Int.toNat_natCast] at this;exact ⟨s.drop p.length,by conv=>lhs;rw[<- List.take_append_drop p.length s,this]⟩
theorem yf {s p:ByS}:Ev (λ_=>strings_HasPrefix s p) (λr=>r=true->∃ q,s=p++q) jm:=by
 unfold strings_HasPrefix stringslite_HasPrefix;refine Ev.aQ (Q:=λr=>r=true->∃ q,s=p++q) ?_ λ_ h=>Ev.ok h
 (repeat' (with_reducible first|refine Ev.gA ?_|refine Ev.eA (λ_ _=>?_)|apply Ev.de|apply Ev.cR|(first|apply Ev.aW|apply Ev.bH|apply Ev.bU|apply Ev.bz|apply Ev.br)<;>intro _|(apply Ev.lk;try dsimp only)))
 ·exact Ev.ok (λh=>Dv h)
 exact Ev.ok (by simp)
theorem sf {m:Nat->Nat} (hm:di m) {s:ByS} (hs:s.length<=65536) {x:P} (h:Br s x) (hlt:x.at_<s.length) :
  Ev (λi=>cy (m i) x) (λr=>Br s r.2/\(r.1=true->x.at_<r.2.at_)) jm:=by
 have hl:=h.out.len
 have h0:=h.xO
 have h1:=h.yD
 have ht:=h.text
 unfold cy
 simp only[ht]
 refine Ev.gA ?_
 have hq:=lq (c:=s) (i:=x.at_) (by omega) (by omega)
 refine Ev.aQ yf λy hy=>?_
 refine Ev.br (λhp=>?_) (λ_=>?_)
 ·obtain ⟨r,hr⟩:=hy hp
  rw[hr] at hq ⊢
  refine Ev.fX (Q:=λc=>2<=c.1.length/\c.1.length<=([47,47]++r:ByS).length) ?_ λc hc=>?_
  ·unfold strings_Cut
   refine Ev.gA (Ev.ok ?_)
   split
   ·rename_i i hi
    have:=CY _ _ _ hi
    refine ⟨?_,by simp;omega⟩
    have h2:2<=i:=by
     cases q:l8 r [10] with
     | none=>simp[l8,q] at hi
     | some k=>simp[l8,q] at hi;omega
    simp at this ⊢;omega
   ·simp
  ·refine Ev.gA ?_
   have:=lq (c:=c.1) (i:=2) (by omega) (by omega)
   refine Ev.aQ (h.add hs (by omega) (by omega) (by omega) (by decide) (λq=>by simp at q)) λr hr=>Ev.ok ⟨hr.1,λ_=>hr.2⟩
 ·refine Ev.aQ (yd hm (by omega)) λy hy=>?_
  refine Ev.aW (λhp=>?_) (λ_=>?_)
  ·refine Ev.gA ?_
   have:=xd (c:=dI s x.at_) (j:=y)
   refine Ev.aQ (h.add hs (by omega) (by omega) (by omega) (by decide) (λq=>by simp at q)) λr hr=>Ev.ok ⟨hr.1,λ_=>hr.2⟩
  ·refine Ev.eA (λb hb=>?_)
   refine Ev.aQ lj λd hd=>?_
   refine Ev.br (λhdt=>?_) (λ_=>?_)
   ·rw[hd] at hdt
    have hdd:=of_decide_eq_true hdt
    refine Ev.aQ (we hm (by omega)) λy hy=>?_
    have hy1:=hy.2.2 b hb hdd.1 hdd.2
    refine Ev.gA ?_
    have:=xd (c:=dI s x.at_) (j:=y)
    refine Ev.aQ (sW hm) λz _=>?_
    refine Ev.bU (λ_=>Ev.ok ⟨h,by simp⟩) (λ_=>?_)
    refine Ev.gA ?_
    refine Ev.aQ (h.add hs (by omega) (by omega) (by omega) (by decide) (λq=>by simp at q)) λr hr=>Ev.ok ⟨hr.1,λ_=>hr.2⟩
   ·refine Ev.bH (λ_=>?_) (λ_=>?_)
    ·exact Ev.aQ (sX hm hs h) λr hr=>Ev.ok hr
    ·refine Ev.aQ (uD hm) λy hy=>?_
     refine Ev.bH (λ_=>Ev.ok ⟨h,by simp⟩) (λhne=>?_)
     have:1<=y.length:=by
      cases y with
      | nil=>exact absurd rfl hne
      | cons=>simp
     refine Ev.aQ (h.add hs (by omega) (by omega) (by omega) (by decide) (λq=>by simp at q)) λr hr=>Ev.ok ⟨hr.1,λ_=>hr.2⟩
structure Fa (s:ByS) (bd:List aB):Prop where
 Lt:s.length<=65536
 is:∃ l,bd=l++[aB.mk 0 [] s.length s.length]/\vS s.length l
theorem pZ {m:Nat->Nat} (hm:di m) {s:ByS}:Ev (λi=>gj (m i) s) (λr=>0<=r.2.At/\r.2.At<=s.length/\(r.2.Errno=0->r.2.At=0/\Fa s r.1)) jm:=by
 unfold gj;refine Ev.aW (λ_=>Ev.ok ⟨by simp,by simp,by simp⟩) (λh=>?_);refine Ev.iter hm (λ(x:P)=>Br s x) (λx=>(s.length - x.at_).toNat) ⟨rfl,by simp,by simp,by simp,by simp,by simp⟩ ?_;intro x hx next hn;have hl:=hx.out.len;have h0:=hx.xO;have h1:=hx.yD;refine Ev.aW (λhlt=>?_) (λhge=>?_)
 ·refine Ev.eA (λb hb=>?_);refine Ev.jn (λ_=>True) (λv _=>?_) (λj hj=>?_)
  ·refine Ev.gA (hn _ ⟨hx.text,by dsimp only;omega,by dsimp only;omega,hx.out.mono (by dsimp only;omega)⟩ (by dsimp only;omega))
  refine Ev.bH (λ_=>?_) (λ_=>?_)
  ·refine Ev.br (λ_=>?_) (λ_=>hj _ trivial);refine Ev.aQ (hx.add (by omega) (by omega) (by omega) (by simp) (by decide) (λq=>by simp at q)) λr hr=>?_;exact hn _ ⟨hr.1.text,hr.1.xO,hr.1.yD,hr.1.out⟩ (by have:=hr.1.yD;dsimp only;omega)
  (repeat' (with_reducible first|refine Ev.gA ?_|refine Ev.eA (λ_ _=>?_)|apply Ev.de|apply Ev.cR|(first|apply Ev.aW|apply Ev.bH|apply Ev.bU|apply Ev.bz|apply Ev.br)<;>intro _|(apply Ev.lk;try dsimp only)))
  all_goals first|exact hj _ trivial|skip
  refine Ev.aQ (sf hm (by omega) hx hlt) λr hr=>?_;refine Ev.bz (λ_=>Ev.ok ⟨hr.1.xO,hr.1.yD,by simp⟩) (λhb=>hn _ hr.1 (by have:=hr.1.yD;have:=hr.2 hb;omega))
 have:x.at_=s.length:=by omega
 refine Ev.aQ (nE (by omega) (by omega) (by omega) (by omega) (by omega) (by simp)) λr hr=>?_;refine Ev.ok ⟨by simp,by simp,λ_=>⟨rfl,by omega,x.out,?_,this▸hx.out⟩⟩;rw[hr.2.2,this];simp
theorem wrap_i64 {x:Int} (h0:-9223372036854775808<=x) (h1:x<=9223372036854775807):IntKind.wrap .i64 x=x:=by
 have:IntKind.wrap .i64 x=if x % 18446744073709551616>=9223372036854775808 then x % 18446744073709551616 - 18446744073709551616 else x % 18446744073709551616:=by
  simp[IntKind.wrap,IntKind.bits,IntKind.signed]
 rw[this];split<;>omega
theorem G9 {v:Int} (h0:0<=v) (h1:v<256):0<=IntKind.wrap .i64 (Int.tdiv v 64)/\IntKind.wrap .i64 (Int.tdiv v 64)<4:=by
 have:Int.tdiv v 64=v / 64:=Int.tdiv_eq_ediv_of_nonneg h0;rw[this,wrap_i64 (by omega) (by omega)];omega
theorem gL {m:Nat->Nat} (hm:di m) {a b:Int}:Ev (λi=>ib (m i) a b) (λ_=>True) jm:=by
 unfold ib;refine Ev.iter hm (λ(x:gb×Int)=>0<=x.2/\x.2<=256) (λx=>(256 - x.2).toNat) (by simp) ?_;intro x hx next hn;refine Ev.aW (λh=>?_) (λ_=>Ev.ok trivial);have hw:=G9 hx.1 h;have ht:0<=Int.tmod x.2 64:=Int.tmod_nonneg _ hx.1;refine Ev.jn (λ_=>True) (λv _=>?_) (λj hj=>?_)
 ·refine Ev.br (λ_=>?_) (λ_=>?_)
  ·refine Ev.gA (Ev.gd hw (Ev.gA (Ev.gd ht (Ev.gd hw (Ev.gA ?_)))));exact hn _ (by dsimp only;omega) (by dsimp only;omega)
  refine Ev.gA ?_;exact hn _ (by dsimp only;omega) (by dsimp only;omega)
 (repeat' (with_reducible first|refine Ev.gA ?_|refine Ev.eA (λ_ _=>?_)|apply Ev.de|apply Ev.cR|(first|apply Ev.aW|apply Ev.bH|apply Ev.bU|apply Ev.bz|apply Ev.br)<;>intro _|(apply Ev.lk;try dsimp only)))
 all_goals exact hj _ trivial
theorem jI {m:Nat->Nat} (hm:di m) {a b:gb}:Ev (λi=>jE (m i) a b) (λ_=>True) jm:=by
 unfold jE;refine Ev.iter hm (λ(x:gb×Int)=>0<=x.2/\x.2<=4) (λx=>(4 - x.2).toNat) (by simp) ?_;intro x hx next hn
 (repeat' (with_reducible first|refine Ev.gA ?_|refine Ev.eA (λ_ _=>?_)|apply Ev.de|apply Ev.cR|(first|apply Ev.aW|apply Ev.bH|apply Ev.bU|apply Ev.bz|apply Ev.br)<;>intro _|(apply Ev.lk;try dsimp only)))
 ·exact hn _ (by dsimp only;omega) (by dsimp only;omega)
 exact Ev.ok trivial
theorem xo {m:Nat->Nat} (hm:di m) {a:gb}:Ev (λi=>pF (m i) a) (λ_=>True) jm:=by
 unfold pF;refine Ev.iter hm (λ(x:gb×Int)=>0<=x.2/\x.2<=4) (λx=>(4 - x.2).toNat) (by simp) ?_;intro x hx next hn
 (repeat' (with_reducible first|refine Ev.gA ?_|refine Ev.eA (λ_ _=>?_)|apply Ev.de|apply Ev.cR|(first|apply Ev.aW|apply Ev.bH|apply Ev.bU|apply Ev.bz|apply Ev.br)<;>intro _|(apply Ev.lk;try dsimp only)))
 ·exact hn _ (by dsimp only;omega) (by dsimp only;omega)
 exact Ev.ok trivial
inductive yg:u->Prop where
 | mk {k a b c d:Int} {l:List u} (h:l.length<=70000) (hs:∀ x,x∈l->yg x):yg (u.mk k a b c d l)
theorem yg.leaf {k a b c d:Int}:yg (u.mk k a b c d []):=.mk (by simp) (by simp)
theorem xp {m:Nat->Nat} (hm:di m) {c:Int}:Ev (λi=>pA (m i) c) (λ_=>True) jm:=by
 unfold pA;refine Ev.aQ (gL hm) λ_ _=>?_
 (repeat' (with_reducible first|refine Ev.gA ?_|refine Ev.eA (λ_ _=>?_)|apply Ev.de|apply Ev.cR|(first|apply Ev.aW|apply Ev.bH|apply Ev.bU|apply Ev.bz|apply Ev.br)<;>intro _|(apply Ev.lk;try dsimp only)))
 ·exact Ev.ok trivial
 ·refine Ev.aQ (gL hm) λ_ _=>Ev.aQ (gL hm) λ_ _=>Ev.aQ (jI hm) λ_ _=>Ev.aQ (jI hm) λ_ _=>Ev.aQ (gL hm) λ_ _=>Ev.aQ (jI hm) λ_ _=>Ev.ok trivial
 ·refine Ev.aQ (gL hm) λ_ _=>Ev.aQ (gL hm) λ_ _=>Ev.aQ (jI hm) λ_ _=>Ev.aQ (gL hm) λ_ _=>Ev.aQ (jI hm) λ_ _=>Ev.ok trivial
 exact Ev.ok trivial
theorem rA {m:Nat->Nat} (hm:di m) {c:Int}:Ev (λi=>oJ (m i) c) yg jm:=by
 unfold oJ;exact Ev.aQ (gL hm) λ_ _=>Ev.ok .leaf
def RP:rW->Prop:=λp=>∃ v:Int,p=⟨202,[.sc (.int .i64 v)]⟩
theorem tQ {α:Type} {a:Int} {p:R} {K:Nat->R->al α} {Q:α->Prop}:Ev (λi=>al.bind (dK a p) (K i)) Q RP:=by
 unfold dK;exact Ev.kA ⟨a,rfl⟩
structure RI (s:ByS) (p:R):Prop where
 text:p.text=s
 xO:0<=p.at_
 yD:p.at_<=s.length
theorem cO {s:ByS} {p:R} (h:RI s p):Ev (λ_=>cN p) (λr=>r.2=p/\(r.1≠0->p.at_<s.length)) jm:=by
 have h0:=h.xO;have ht:=h.text;unfold cN;rw[ht]
 (repeat' (with_reducible first|refine Ev.gA ?_|refine Ev.eA (λ_ _=>?_)|apply Ev.de|apply Ev.cR|(first|apply Ev.aW|apply Ev.bH|apply Ev.bU|apply Ev.bz|apply Ev.br)<;>intro _|(apply Ev.lk;try dsimp only)))
 ·exact Ev.ok ⟨rfl,λ_=>by omega⟩
 exact Ev.ok ⟨rfl,λh=>absurd rfl h⟩
theorem xq {c:Int}:Ev (λ_=>pE c) (λr=>r.2=true->c≠0) jm:=by
 unfold pE;refine Ev.jn (λv=>v=true->c≠0) (λv hv=>?_) (λj hj=>?_)
 ·refine Ev.br (λh=>Ev.ok λ_=>hv h) (λ_=>?_);refine Ev.jn (λv=>v=true->c≠0) (λv hv=>?_) (λj hj=>?_)
  ·refine Ev.br (λh=>Ev.ok λ_=>hv h) (λ_=>?_)
   (repeat' (with_reducible first|refine Ev.gA ?_|refine Ev.eA (λ_ _=>?_)|apply Ev.de|apply Ev.cR|(first|apply Ev.aW|apply Ev.bH|apply Ev.bU|apply Ev.bz|apply Ev.br)<;>intro _|(apply Ev.lk;try dsimp only)))
   ·exact Ev.ok λ_=>by omega
   all_goals exact Ev.ok (by simp)
  (repeat' (with_reducible first|refine Ev.gA ?_|refine Ev.eA (λ_ _=>?_)|apply Ev.de|apply Ev.cR|(first|apply Ev.aW|apply Ev.bH|apply Ev.bU|apply Ev.bz|apply Ev.br)<;>intro _|(apply Ev.lk;try dsimp only)))
  ·exact hj _ λ_=>by omega
  exact hj _ (by simp)
 (repeat' (with_reducible first|refine Ev.gA ?_|refine Ev.eA (λ_ _=>?_)|apply Ev.de|apply Ev.cR|(first|apply Ev.aW|apply Ev.bH|apply Ev.bU|apply Ev.bz|apply Ev.br)<;>intro _|(apply Ev.lk;try dsimp only)))
 ·exact hj _ λ_=>by omega
 exact hj _ (by simp)
theorem oB {m:Nat->Nat} (hm:di m) {s:ByS} (hs:s.length<=70000) {p:R} (h:RI s p) (hlt:p.at_<s.length) {c:Int} :
  Ev (λi=>iC (m i) c p) (λr=>RI s r.2/\p.at_<r.2.at_) RP:=by
 have h0:=h.xO
 unfold iC
 refine Ev.iter hm (λ(x:R×Int×Int)=>RI s x.1/\x.1.at_<s.length/\p.at_<=x.1.at_/\0<=x.2.2/\x.2.2<=2) (λx=>(2 - x.2.2).toNat) ⟨h,hlt,by simp,by simp,by simp⟩ ?_
 rintro x ⟨h1,h2,h3,h4,h5⟩ next hn
 have h6:=h1.xO
 refine Ev.aW (λhi=>?_) (λhi=>?_)
 ·refine Ev.gA (Ev.gA ?_)
  have hR:RI s (R.mk x.1.text (x.1.at_+1)):=⟨h1.text,by dsimp only;omega,by dsimp only;omega⟩
  refine Ev.fX (cO hR) λy hy=>?_
  refine Ev.fX xq λd hd=>?_
  refine Ev.gA ?_
  refine Ev.jn (λv=>v=false->d.2=true) (λv hv=>?_) (λj hj=>?_)
  ·refine Ev.br (λ_=>tQ) (λhf=>?_)
   have:=hy.2 (hd (hv hf))
   rw[hy.1]
   refine Ev.gA (hn _ ⟨hR,this,?_,?_,?_⟩ ?_)
   all_goals (dsimp only at *;omega)
  ·refine Ev.bz (λ_=>hj _ (by simp)) (λhd2=>?_)
   (repeat' (with_reducible first|refine Ev.gA ?_|refine Ev.eA (λ_ _=>?_)|apply Ev.de|apply Ev.cR|(first|apply Ev.aW|apply Ev.bH|apply Ev.bU|apply Ev.bz|apply Ev.br)<;>intro _|(apply Ev.lk;try dsimp only)))
   all_goals exact hj _ (λ_=>hd2)
 ·refine Ev.gA (Ev.ok ⟨⟨h1.text,?_,?_⟩,?_⟩)
  all_goals (dsimp only;omega)
theorem jY {m:Nat->Nat} (hm:di m) {s:ByS} (hs:s.length<=70000) {p:R} (h:RI s p) (hlt:p.at_<s.length) {c:Int} :
  Ev (λi=>gQ (m i) c p) (λr=>RI s r.2/\p.at_<r.2.at_) RP:=by
 have h0:=h.xO
 unfold gQ
 rw[h.text]
 refine Ev.gA ?_
 have hR:RI s (R.mk s (p.at_+1)):=⟨rfl,by dsimp only;omega,by dsimp only;omega⟩
 refine Ev.fX (cO hR) λy hy=>?_
 rw[hy.1];dsimp only
 refine Ev.jn (λv=>v.1=(R.mk s (p.at_+1))/\p.at_+1<s.length) (λv hv=>?_) (λj hj=>?_)
 ·refine Ev.jn (λv=>v=(R.mk s (p.at_+1))) (λv2 hv2=>?_) (λj hj=>?_)
  ·subst hv2
   refine Ev.gA (Ev.ok ⟨⟨rfl,?_,?_⟩,?_⟩)
   all_goals (dsimp only;omega)
  ·exact Ev.aW (λ_=>tQ) (λ_=>hj _ hv.1)
 ·refine Ev.aW (λ_=>tQ) (λhlt2=>?_)
  have hlt3:p.at_+1<s.length:=by omega
  (repeat' (with_reducible first|refine Ev.gA ?_|refine Ev.eA (λ_ _=>?_)|apply Ev.de|apply Ev.cR|(first|apply Ev.aW|apply Ev.bH|apply Ev.bU|apply Ev.bz|apply Ev.br)<;>intro _|(apply Ev.lk;try dsimp only)))
  ·refine (Ev.aQ (oB hm hs hR (by dsimp only;omega)) λz hz=>Ev.ok ⟨hz.1,?_⟩)
   have:=hz.2;dsimp only at *;omega
  ·exact hj _ ⟨rfl,hlt3⟩
  ·exact hj _ ⟨rfl,hlt3⟩
  ·exact hj _ ⟨rfl,hlt3⟩
  ·refine Ev.fX (Q:=λ_=>True) (Ev.ok trivial) λz _=>?_
   exact Ev.aW (λ_=>tQ) (λ_=>hj _ ⟨rfl,hlt3⟩)
theorem nG {m:Nat->Nat} (hm:di m) {s:ByS} (hs:s.length<=70000) {p:R} (h:RI s p) {c:Int} :
  Ev (λi=>jx (m i) c p) (λr=>RI s r.2/\p.at_<r.2.at_) RP:=by
 have h0:=h.xO
 have h1:=h.yD
 unfold jx
 refine Ev.fX (cO h) λy hy=>?_
 rw[hy.1]
 refine Ev.jn (λv=>v=p/\p.at_<s.length) (λv hv=>?_) (λj hj=>?_)
 ·rw[hv.1]
  refine Ev.gA (Ev.ok ⟨⟨h.text,?_,?_⟩,?_⟩)
  all_goals (dsimp only;omega)
 ·rw[h.text]
  refine Ev.aW (λ_=>tQ) (λhlt2=>?_)
  have hlt:p.at_<s.length:=by omega
  refine Ev.bH (λ_=>?_) (λ_=>?_)
  ·exact Ev.aQ (jY hm hs h hlt) λz hz=>Ev.ok hz
  ·refine Ev.jn (λ_=>True) (λv _=>?_) (λj2 hj2=>?_)
   ·exact Ev.br (λ_=>tQ) (λ_=>hj _ ⟨rfl,hlt⟩)
   ·(repeat' (with_reducible first|refine Ev.gA ?_|refine Ev.eA (λ_ _=>?_)|apply Ev.de|apply Ev.cR|(first|apply Ev.aW|apply Ev.bH|apply Ev.bU|apply Ev.bz|apply Ev.br)<;>intro _|(apply Ev.lk;try dsimp only)))
    ·exact hj2 _ trivial
    ·exact hj2 _ trivial
    ·exact hj2 _ trivial
    ·exact Ev.fX (Q:=λ_=>True) (Ev.ok trivial) λz _=>hj2 _ trivial
theorem tF {m:Nat->Nat} (hm:di m) {s:ByS} (hs:s.length<=70000) {p:R} (h:RI s p) (hlt:p.at_<s.length) :
  Ev (λi=>ls (m i) p) (λr=>RI s r.2/\p.at_<r.2.at_/\yg r.1) RP:=by
 have h0:=h.xO
 unfold ls
 refine Ev.gA ?_
 have hR:RI s (R.mk p.text (p.at_+1)):=⟨h.text,by dsimp only;omega,by dsimp only;omega⟩
 refine Ev.fX (cO hR) λy hy=>?_
 rw[hy.1];dsimp only
 have hy2:=hy.2;dsimp only at hy2
 refine Ev.jn (λv=>RI s v/\p.at_<v.at_) (λv hv=>?_) (λj hj=>?_)
 ·refine Ev.jn (λw=>RI s w.1/\p.at_<w.1.at_/\(w.2=true->w.1.at_<s.length)) (λw hw=>?_) (λj hj=>?_)
  ·have hw0:=hw.1.xO
   have hw1:=hw.1.yD
   refine Ev.br (λhb=>?_) (λ_=>?_)
   ·have:=hw.2.2 hb
    refine Ev.gA (Ev.ok ⟨⟨hw.1.text,?_,?_⟩,?_,.leaf⟩)
    all_goals (dsimp only;omega)
   ·refine Ev.iter hm (λ(x:R×gb×Bool)=>RI s x.1/\p.at_<x.1.at_) (λx=>(s.length - x.1.at_).toNat) ⟨hw.1,hw.2.1⟩ ?_
    rintro x ⟨hx1,hx2⟩ next hn
    have hx0:=hx1.xO
    have hx3:=hx1.yD
    refine Ev.jn (λv=>v=x.1) (λv hv=>?_) (λj hj=>?_)
    ·subst hv
     refine Ev.aQ (nG hm hs hx1) λz hz=>?_
     have hz0:=hz.1.xO
     have hz1:=hz.1.yD
     have hz2:=hz.2
     refine Ev.fX (cO hz.1) λz2 hz2=>?_
     rw[hz2.1]
     refine Ev.bH (λhq=>?_) (λ_=>?_)
     ·have:=hz2.2 (by omega)
      have hR2:RI s (R.mk z.2.text (z.2.at_+1)):=⟨hz.1.text,by dsimp only;omega,by dsimp only;omega⟩
      refine Ev.gA (Ev.aQ (nG hm hs hR2) λz3 hz3=>?_)
      have hz4:=hz3.1.yD
      have hz5:=hz3.2;dsimp only at hz5
      refine Ev.fX (gL hm) λ_ _=>Ev.fX (jI hm) λ_ _=>hn _ ⟨hz3.1,?_⟩ ?_
      all_goals (dsimp only;omega)
     ·refine Ev.fX (gL hm) λ_ _=>Ev.fX (jI hm) λ_ _=>hn _ ⟨hz.1,?_⟩ ?_
      all_goals (dsimp only;omega)
    ·refine Ev.br (λ_=>hj _ rfl) (λ_=>?_)
     refine Ev.fX (cO hx1) λz2 hz2=>?_
     rw[hz2.1]
     refine Ev.bU (λ_=>hj _ rfl) (λhq=>?_)
     have:=hz2.2 (by omega)
     refine Ev.gA ?_
     (repeat' (with_reducible first|refine Ev.gA ?_|refine Ev.eA (λ_ _=>?_)|apply Ev.de|apply Ev.cR|(first|apply Ev.aW|apply Ev.bH|apply Ev.bU|apply Ev.bz|apply Ev.br)<;>intro _|(apply Ev.lk;try dsimp only)))
     ·refine Ev.fX (xo hm) λ_ _=>Ev.ok ⟨⟨hx1.text,?_,?_⟩,?_,.leaf⟩
      all_goals (dsimp only;omega)
     ·refine Ev.ok ⟨⟨hx1.text,?_,?_⟩,?_,.leaf⟩
      all_goals (dsimp only;omega)
  ·refine Ev.bz (λ_=>?_) (λ_=>hj _ ⟨hv.1,hv.2,by simp⟩)
   refine Ev.fX (cO hv.1) λz2 hz2=>?_
   rw[hz2.1]
   refine hj _ ⟨hv.1,hv.2,λhq=>hz2.2 ?_⟩
   have:=beq_iff_eq.1 hq
   omega
 ·refine Ev.bH (λhq=>?_) (λ_=>hj _ ⟨hR,by dsimp only;omega⟩)
  have:=hy2 (by omega)
  refine Ev.gA (hj _ ⟨⟨h.text,?_,?_⟩,?_⟩)
  all_goals (dsimp only;omega)
theorem nf {k:Int} {l:List u} (h:l.length<=70000) (hs:∀ x,x∈l->yg x):Ev (λ_=>lU k l) yg jm:=by
 unfold lU;refine Ev.bH (λ_=>?_) (λ_=>Ev.ok (.mk h hs));exact Ev.eA λx hx=>Ev.ok (hs x (List.mem_of_getElem? hx))
structure RG (s:ByS) (k:Nat):Prop where
 alt:∀ {m:Nat->Nat} {p:R},di m->RI s p->8*(s.length - p.at_).toNat+6<k->Ev (λi=>cH (m i) p) (λr=>RI s r.2/\p.at_<r.2.at_/\yg r.1) RP
 Ks:∀ {m:Nat->Nat} {p:R},di m->RI s p->8*(s.length - p.at_).toNat+5<k->Ev (λi=>cS (m i) p) (λr=>RI s r.2/\p.at_<r.2.at_/\yg r.1) RP
 Ij:∀ {m:Nat->Nat} {p:R} {l:List u},di m->RI s p->8*(s.length - p.at_).toNat+4<k->l.length<=70000->(∀ x,x∈l->yg x)->
  Ev (λi=>cC (m i) l p) (λr=>RI s r.2/\p.at_<r.2.at_/\r.1.length=l.length+1/\∀ x,x∈r.1->yg x) RP
 piece:∀ {m:Nat->Nat} {p:R},di m->RI s p->8*(s.length - p.at_).toNat+3<k->Ev (λi=>gh (m i) p) (λr=>RI s r.2/\p.at_<r.2.at_/\yg r.1) RP
 atom:∀ {m:Nat->Nat} {p:R},di m->RI s p->8*(s.length - p.at_).toNat+2<k->Ev (λi=>gz (m i) p) (λr=>RI s r.2/\p.at_<r.2.at_/\yg r.1) RP
 group:∀ {m:Nat->Nat} {p:R},di m->RI s p->p.at_<s.length->8*(s.length - p.at_).toNat+1<k->Ev (λi=>gg (m i) p) (λr=>RI s r.2/\p.at_<r.2.at_/\yg r.1) RP
theorem Jl {s:ByS} (hs:s.length<=60000):∀ k,RG s k:=by
 intro k
 induction k with
 | zero=>exact ⟨λ_ _ h=>absurd h (Nat.not_lt_zero _),λ_ _ h=>absurd h (Nat.not_lt_zero _),λ_ _ h=>absurd h (Nat.not_lt_zero _),λ_ _ h=>absurd h (Nat.not_lt_zero _),λ_ _ h=>absurd h (Nat.not_lt_zero _),λ_ _ _ h=>absurd h (Nat.not_lt_zero _)⟩
 | succ k ih=>
  refine ⟨?_,?_,?_,?_,?_,?_⟩
  ·intro m p hm h hk;have h0:=h.xO;refine Ev.grow (F:=λn=>cH n p) hm λm hm=>?_;show Ev (λi=>gW (m i) (aT (m i)) p) _ _;unfold gW;refine Ev.aQ (ih.Ks hm h (by omega)) λy hy=>?_;refine Ev.iter hm (λ(x:R×List u)=>RI s x.1/\p.at_<x.1.at_/\x.2.length<=x.1.at_/\∀ z,z∈x.2->yg z) (λx=>(s.length - x.1.at_).toNat) ⟨hy.1,hy.2.1,by simp;omega,by simpa using hy.2.2⟩ ?_;rintro x ⟨hx1,hx2,hx3,hx4⟩ next hn;have hx5:=hx1.yD;refine Ev.fX (cO hx1) λz hz=>?_;rw[hz.1];refine Ev.bH (λhq=>?_) (λ_=>?_)
   ·have:=hz.2 (by omega);have hR:RI s (R.mk x.1.text (x.1.at_+1)):=⟨hx1.text,by dsimp only;omega,by dsimp only;omega⟩;refine Ev.gA (Ev.aQ (ih.Ks hm hR (by dsimp only;omega)) λw hw=>?_);have hw1:=hw.2.1;dsimp only at hw1;have hw2:=hw.1.yD;refine Ev.gA (hn _ ⟨hw.1,by dsimp only;omega,by simp;omega,λz hz=>?_⟩ (by dsimp only;omega));rcases List.mem_append.1 hz with q|q
    ·exact hx4 z q
    simp at q;subst q;exact hw.2.2
   exact Ev.fX (nf (by omega) hx4) λw hw=>Ev.ok ⟨hx1,hx2,hw⟩
  ·intro m p hm h hk;have h0:=h.xO;refine Ev.grow (F:=λn=>cS n p) hm λm hm=>?_;show Ev (λi=>gN (m i) (aT (m i)) p) _ _;unfold gN;refine Ev.aQ (ih.Ij (l:=[]) hm h (by omega) (by simp) (by simp)) λy hy=>?_;have hy3:=hy.2.2.1;refine Ev.iter hm (λ(x:R×List u)=>RI s x.1/\p.at_<x.1.at_/\x.2.length<=x.1.at_/\∀ z,z∈x.2->yg z) (λx=>(s.length - x.1.at_).toNat) ⟨hy.1,hy.2.1,by simp at hy3;dsimp only;omega,hy.2.2.2⟩ ?_;rintro x ⟨hx1,hx2,hx3,hx4⟩ next hn;have hx5:=hx1.yD;refine Ev.aW (λhlt=>?_) (λ_=>?_)
   ·refine Ev.fX (cO hx1) λz hz=>?_;rw[hz.1];refine Ev.bU (λ_=>?_) (λ_=>?_)
    ·refine Ev.fX (cO hx1) λz hz=>?_;rw[hz.1];refine Ev.bU (λ_=>?_) (λ_=>?_)
     ·rw[hx1.text] at hlt;refine Ev.aQ (ih.Ij hm hx1 (by omega) (by omega) hx4) λw hw=>?_;have hw1:=hw.2.1;have hw2:=hw.1.yD;have hw3:=hw.2.2.1;exact hn _ ⟨hw.1,by dsimp only;omega,by dsimp only;omega,hw.2.2.2⟩ (by dsimp only;omega)
     exact Ev.fX (nf (by omega) hx4) λw hw=>Ev.ok ⟨hx1,hx2,hw⟩
    exact Ev.fX (nf (by omega) hx4) λw hw=>Ev.ok ⟨hx1,hx2,hw⟩
   exact Ev.fX (nf (by omega) hx4) λw hw=>Ev.ok ⟨hx1,hx2,hw⟩
  ·intro m p l hm h hk hl hls;refine Ev.grow (F:=λn=>cC n l p) hm λm hm=>?_;show Ev (λi=>gw (m i) (aT (m i)) l p) _ _;unfold gw;refine Ev.aQ (ih.piece hm h (by omega)) λy hy=>?_;refine Ev.gA (Ev.ok ⟨hy.1,hy.2.1,by simp,λz hz=>?_⟩);rcases List.mem_append.1 hz with q|q
   ·exact hls z q
   simp at q;subst q;exact hy.2.2
  ·intro m p hm h hk;refine Ev.grow (F:=λn=>gh n p) hm λm hm=>?_;show Ev (λi=>jz (m i) (aT (m i)) p) _ _;unfold jz;refine Ev.aQ (ih.atom hm h (by omega)) λy hy=>?_;refine Ev.iter hm (λ(x:R×u)=>RI s x.1/\p.at_<x.1.at_/\yg x.2) (λx=>(s.length - x.1.at_).toNat) ⟨hy.1,hy.2.1,hy.2.2⟩ ?_;rintro x ⟨hx1,hx2,hx3⟩ next hn;have hx0:=hx1.xO;have hx5:=hx1.yD;refine Ev.jn (λv=>v.1=x.1/\x.1.at_<s.length/\yg v.2) (λv hv=>?_) (λj hj=>?_)
   ·rw[hv.1];have:=hv.2.1;refine Ev.gA (hn _ ⟨⟨hx1.text,?_,?_⟩,?_,hv.2.2⟩ ?_);all_goals (dsimp only;omega)
   refine Ev.fX (cO hx1) λz hz=>?_;rw[hz.1];have hs1:yg (u.mk 5 0 0 0 0 [x.2]):=.mk (by simp) (by simpa using hx3);refine Ev.bH (λhq=>hj _ ⟨rfl,hz.2 (by omega),hs1⟩) (λ_=>?_);refine Ev.bH (λhq=>hj _ ⟨rfl,hz.2 (by omega),.mk (by simp) ?_⟩) (λ_=>?_)
   ·intro w hw;simp at hw;rcases hw with rfl|rfl
    ·exact hx3
    exact hs1
   refine Ev.bH (λhq=>hj _ ⟨rfl,hz.2 (by omega),.mk (by simp) ?_⟩) (λ_=>Ev.ok ⟨hx1,hx2,hx3⟩);intro w hw;simp at hw;rcases hw with rfl|rfl
   ·exact hx3
   exact .leaf
  ·intro m p hm h hk;have h0:=h.xO;have h1:=h.yD;refine Ev.grow (F:=λn=>gz n p) hm λm hm=>?_;show Ev (λi=>jL (m i) (aT (m i)) p) _ _;unfold jL;refine Ev.fX (cO h) λy hy=>?_;rw[hy.1];refine Ev.jn (λv=>v=p/\p.at_<s.length) (λv hv=>?_) (λj hj=>?_)
   ·rw[hv.1];refine Ev.gA (Ev.fX (rA hm) λz hz=>Ev.ok ⟨⟨h.text,?_,?_⟩,?_,hz⟩);all_goals (dsimp only;omega)
   rw[h.text];refine Ev.aW (λ_=>tQ) (λhlt2=>?_);have hlt:p.at_<s.length:=by omega
   refine Ev.bH (λ_=>?_) (λ_=>?_)
   ·exact Ev.aQ (ih.group hm h hlt (by omega)) λz hz=>Ev.ok hz
   refine Ev.bH (λ_=>?_) (λ_=>?_)
   ·exact Ev.aQ (tF hm (by omega) h hlt) λz hz=>Ev.ok hz
   refine Ev.bH (λ_=>?_) (λ_=>?_)
   ·refine Ev.gA (Ev.fX (gL hm) λz _=>Ev.ok ⟨⟨rfl,?_,?_⟩,?_,.leaf⟩);all_goals (dsimp only;omega)
   refine Ev.bH (λ_=>?_) (λ_=>?_)
   ·refine Ev.gA (Ev.aW (λ_=>?_) (λ_=>?_))
    ·refine Ev.gA (Ev.eA (λb _=>?_));refine Ev.fX (xp hm) λz _=>?_;refine Ev.br (λ_=>?_) (λ_=>?_)
     ·refine Ev.gA (Ev.ok ⟨⟨rfl,?_,?_⟩,?_,.leaf⟩);all_goals (dsimp only;omega)
     exact Ev.aQ (jY hm (by omega) h hlt) λz hz=>Ev.fX (rA hm) λw hw=>Ev.ok ⟨hz.1,hz.2,hw⟩
    exact Ev.aQ (jY hm (by omega) h hlt) λz hz=>Ev.fX (rA hm) λw hw=>Ev.ok ⟨hz.1,hz.2,hw⟩
   refine Ev.jn (λ_=>True) (λv _=>?_) (λj2 hj2=>?_)
   ·exact Ev.br (λ_=>tQ) (λ_=>hj _ ⟨rfl,hlt⟩)
   (repeat' (with_reducible first|refine Ev.gA ?_|refine Ev.eA (λ_ _=>?_)|apply Ev.de|apply Ev.cR|(first|apply Ev.aW|apply Ev.bH|apply Ev.bU|apply Ev.bz|apply Ev.br)<;>intro _|(apply Ev.lk;try dsimp only)))
   ·exact hj2 _ trivial
   ·exact hj2 _ trivial
   exact Ev.fX (Q:=λ_=>True) (Ev.ok trivial) λz _=>hj2 _ trivial
  ·intro m p hm h hlt hk;have h0:=h.xO;refine Ev.grow (F:=λn=>gg n p) hm λm hm=>?_;show Ev (λi=>jy (m i) (aT (m i)) p) _ _;unfold jy;refine Ev.gA ?_;have hR:RI s (R.mk p.text (p.at_+1)):=⟨h.text,by dsimp only;omega,by dsimp only;omega⟩;refine Ev.fX (cO hR) λy hy=>?_;rw[hy.1];dsimp only;have hy2:=hy.2;dsimp only at hy2;refine Ev.bH (λhq=>?_) (λ_=>?_)
   ·have:=hy2 (by omega);refine Ev.gA (Ev.ok ⟨⟨h.text,?_,?_⟩,?_,.leaf⟩);all_goals (dsimp only;omega)
   refine Ev.aQ (ih.alt hm hR (by dsimp only;omega)) λz hz=>?_;have hz0:=hz.1.xO;have hz1:=hz.2.1;dsimp only at hz1;refine Ev.jn (λv=>v=z.2/\z.2.at_<s.length) (λv hv=>?_) (λj hj=>?_)
   ·rw[hv.1];refine Ev.gA (Ev.ok ⟨⟨hz.1.text,?_,?_⟩,?_,hz.2.2⟩);all_goals (dsimp only;omega)
   refine Ev.fX (cO hz.1) λw hw=>?_;rw[hw.1];exact Ev.bU (λ_=>tQ) (λhq=>hj _ ⟨rfl,hw.2 (by omega)⟩)
theorem xr:∀ (d:Nat) {m:Nat->Nat} {r:u} {l:Int},di m->yg r->0<=l->(17 - l).toNat<=d->Ev (λi=>ik (m i) r l) (λ_=>True) jm:=by
 intro d
 induction d with
 | zero=>
  intro m r l hm _ h0 hd
  refine Ev.grow (F:=λn=>ik n r l) hm λm hm=>?_
  show Ev (λi=>kJ (m i) (jW (m i)) r l) _ _
  unfold kJ
  exact Ev.aW (λ_=>Ev.ok trivial) (λ_=>by omega)
 | succ d ih=>
  intro m r l hm hr h0 hd
  refine Ev.grow (F:=λn=>ik n r l) hm λm hm=>?_
  show Ev (λi=>kJ (m i) (jW (m i)) r l) _ _
  unfold kJ
  cases hr with
  | @mk k a b c d' subs hl hs=>
   refine Ev.aW (λ_=>Ev.ok trivial) (λ_=>?_)
   refine Ev.jn (λ_=>True) (λv _=>?_) (λj hj=>?_)
   ·refine Ev.jn (λ_=>True) (λv _=>?_) (λj hj=>?_)
    ·refine Ev.iter hm (λ(x:Int)=>0<=x/\x<=subs.length) (λx=>(subs.length - x).toNat) (by omega) ?_;intro x hx next hn;show Ev (λi=>al.br (decide (x<(subs.length:Int))) (al.el subs x _) _) _ _;refine Ev.aW (λh=>?_) (λ_=>Ev.ok trivial);refine Ev.eA (λz hz=>?_);refine Ev.gA (Ev.aQ (ih hm (hs z (List.mem_of_getElem? hz)) (by omega) (by omega)) λw _=>?_)
     (repeat' (with_reducible first|refine Ev.gA ?_|refine Ev.eA (λ_ _=>?_)|apply Ev.de|apply Ev.cR|(first|apply Ev.aW|apply Ev.bH|apply Ev.bU|apply Ev.bz|apply Ev.br)<;>intro _|(apply Ev.lk;try dsimp only)))
     ·exact Ev.ok trivial
     exact hn _ (by omega) (by omega)
    (repeat' (with_reducible first|refine Ev.gA ?_|refine Ev.eA (λ_ _=>?_)|apply Ev.de|apply Ev.cR|(first|apply Ev.aW|apply Ev.bH|apply Ev.bU|apply Ev.bz|apply Ev.br)<;>intro _|(apply Ev.lk;try dsimp only)))
    all_goals first|exact Ev.ok trivial|exact hj _ trivial
   ·(repeat' (with_reducible first|refine Ev.gA ?_|refine Ev.eA (λ_ _=>?_)|apply Ev.de|apply Ev.cR|(first|apply Ev.aW|apply Ev.bH|apply Ev.bU|apply Ev.bz|apply Ev.br)<;>intro _|(apply Ev.lk;try dsimp only)))
    all_goals first|exact Ev.ok trivial|exact hj _ trivial
theorem sY {m:Nat->Nat} (hm:di m) {s:ByS}:Ev (λi=>lY (m i) s) (λ_=>True) jm:=by
 unfold lY;refine Ev.aW (λ_=>Ev.ok trivial) (λ_=>?_);refine Ev.A7 (R':=RP) ?_ ?_
 ·refine Ev.aQ ((Jl (s:=s) (by omega) (8*(s.length - 0:Int).toNat+7)).alt hm ⟨rfl,by simp,by simp⟩ (by simp)) λy hy=>?_;refine Ev.jn (λ_=>True) (λv _=>?_) (λj hj=>?_)
  ·unfold sM;refine Ev.fX (Ev.bind (xr 17 hm hy.2.2 (by omega) (by simp)) (λ_ q=>q) λz _=>Ev.ok trivial) λz (_:True)=>?_
   (repeat' (with_reducible first|refine Ev.gA ?_|refine Ev.eA (λ_ _=>?_)|apply Ev.de|apply Ev.cR|(first|apply Ev.aW|apply Ev.bH|apply Ev.bU|apply Ev.bz|apply Ev.br)<;>intro _|(apply Ev.lk;try dsimp only)))
   all_goals exact Ev.ok trivial
  exact Ev.aW (λ_=>tQ) (λ_=>hj _ trivial)
 rintro p ⟨v,rfl⟩;refine Ev.sC ?_;unfold mw;exact Ev.ok trivial
theorem nY:∀ (p s:ByS),p.isPrefixOf s=(s.take p.length==p)
 | [],s=>by simp
 | a::p,[]=>by simp
 | a::p,b::s=>by
  rw[List.isPrefixOf_cons_cons,nY p s];simp only[List.length_cons,List.take_succ_cons];rw[Bool.eq_iff_iff];simp;exact λ_=>⟨λh=>h.symm,λh=>h.symm⟩
theorem oC (s p:ByS):strings_HasPrefix s p=.ok (p.isPrefixOf s):=by
 unfold strings_HasPrefix stringslite_HasPrefix;rw[nY];by_cases h:p.length<=s.length
 ·have e:decide ((s.length:Int)>=(p.length:Int))=true:=by simp;omega
  rw[e];simp only[al.br,al.gd];rw[if_pos ⟨by omega,by omega⟩];simp[al.bind,kB]
 have e:decide ((s.length:Int)>=(p.length:Int))=false:=by simp;omega
 rw[e];simp only[al.br,al.bind];congr 1;symm;apply beq_eq_false_iff_ne.2;intro q;have:=congrArg List.length q;simp at this;omega
theorem Ik {a b:UInt8}:a<=b↔(a.toNat:Int)<=(b.toNat:Int):=by rw[UInt8.le_iff_toNat_le];omega
theorem Il {a b:UInt8}:a=b↔(a.toNat:Int)=(b.toNat:Int):=by
 constructor
 ·rintro rfl;rfl
 intro h;exact UInt8.toNat_inj.1 (by omega)
theorem Jm (b:UInt8):Gg b=(decide (97<=(b.toNat:Int)/\(b.toNat:Int)<=122)||decide (65<=(b.toNat:Int)/\(b.toNat:Int)<=90)||decide ((b.toNat:Int)=95)):=by
 unfold Gg;rw[Bool.eq_iff_iff];simp only[Bool.or_eq_true,Bool.and_eq_true,decide_eq_true_eq,beq_iff_eq,Ik,Il];exact Iff.rfl
theorem Jn (b:UInt8):xT b=decide (48<=(b.toNat:Int)/\(b.toNat:Int)<=57):=by
 unfold xT;rw[Bool.eq_iff_iff];simp only[Bool.and_eq_true,decide_eq_true_eq,Ik];exact Iff.rfl
section
variable {α:Type} {Q:α->Prop} {R:rW->Prop} {m:Nat->Nat} {s:ByS} {a:Int}
theorem Fb {v:Int} (h0:0<=a) (hv:a<=v):(s.drop a.toNat)[(v - a).toNat]?=s[v.toNat]?:=by
 rw[List.getElem?_drop,show a.toNat+(v - a).toNat=v.toNat by omega]
theorem Ha {p:Nat->UInt8->Bool} {i:Nat} (h0:0<=a) (h1:a<=s.length):a+run p i (s.drop a.toNat)<=s.length:=by
 have:=sH (p:=p) (u:=s.drop a.toNat) (i:=i);simp at this;omega
theorem yh {b:UInt8} (k:Int) (c:UInt8) (hc:(c.toNat:Int)=k):((b.toNat:Int)==k)=(b==c):=by
 subst hc;rw[Bool.eq_iff_iff,beq_iff_eq,beq_iff_eq,Il]
theorem Im:pD=λ_=>xT:=rfl
theorem Hb {f:ByS->Bool} {v:Nat}:∀ {l:List ByS} {o:ByS},(∀ i p,i<v->l[i]?=some p->f p=false)->l[v]?=some o->f o=true->l.find? f=some o:=by
 induction v with
 | zero=>
  intro l o _ ho hf
  cases l with
  | nil=>cases ho
  | cons p l=>simp at ho;subst ho;simp[List.find?,hf]
 | succ v ih=>
  intro l o h ho hf
  cases l with
  | nil=>cases ho
  | cons p l=>
   have:=h 0 p (by omega) rfl
   simp only[List.find?,this]
   exact ih (λi q hi hq=>h (i+1) q (by omega) (by simpa using hq)) (by simpa using ho) hf
theorem Hc {u:ByS}:gJ (34::u)=some (1,false):=by cases u<;>simp[gJ]
theorem He {d:UInt8} {u:ByS}:gJ (92::d::u)=(gJ u).map λx=>(x.1+2,x.2||d==40):=by simp[gJ]
theorem Hf {b:UInt8} {u:ByS} (h1:b≠34) (h2:b≠92):gJ (b::u)=(gJ u).map λx=>(x.1+1,x.2):=by
 cases u with
 | nil=>simp[gJ,h1]
 | cons d u=>simp[gJ,h1,h2]
end
def RS {α β:Type} (V:α->β->Prop) (x:al α) (y:al β):Prop:=∀ a,x=.ok a->y=.stuck\/∃ b,y=.ok b/\V a b
section
variable {α β γ δ X Y:Type} {V V':α->β->Prop} {W:γ->δ->Prop}
theorem RS.ok {a:α} {b:β} (h:V a b):RS V (.ok a) (.ok b):=λ_ e=>by cases e;exact .inr ⟨b,rfl,h⟩
theorem RS.nil {y:al β}:RS V .stuck y:=λ_ e=>by cases e
theorem RS.o6 {x:al α}:RS V x .stuck:=λ_ _=>.inl rfl
theorem RS.bind {x:al γ} {y:al δ} {f:γ->al α} {g:δ->al β} (h:RS W x y) (hk:∀ a b,W a b->RS V (f a) (g b)):RS V (al.bind x f) (al.bind y g):=by
 intro a e;cases x with
 | stuck=>cases e
 | kA p=>cases e
 | ok c=>
  rcases h c rfl with q|⟨d,q,hd⟩
  ·subst q;exact .inl rfl
  ·subst q;exact hk c d hd a e
theorem RS.same {x:al γ} {f:γ->al α} {g:γ->al β} (hk:∀ a,x=.ok a->RS V (f a) (g a)):RS V (al.bind x f) (al.bind x g):=
 RS.bind (W:=λa b=>x=.ok a/\b=a) (λa e=>.inr ⟨a,e,e,rfl⟩) λa b h=>by rw[h.2];exact hk a h.1
theorem RS.br {b c:Bool} {x x':al α} {y y':al β} (h:c=b) (ht:b=true->RS V x y) (hf:b=false->RS V x' y'):RS V (al.br b x x') (al.br c y y'):=by
 subst h;cases c with
 | true=>exact ht rfl
 | false=>exact hf rfl
theorem RS.gd {p p':Prop} [Decidable p] [Decidable p'] {x:al α} {y:al β} (h:p->p'->RS V x y):RS V (al.gd p x) (al.gd p' y):=by
 unfold al.gd;split
 ·split
  ·exact h ‹_› ‹_›
  exact RS.o6
 exact RS.nil
theorem RS.el {l:List X} {l':List Y} {j j':Int} {K:X->al α} {K':Y->al β} (h:∀ x y,0<=j->0<=j'->l[j.toNat]?=some x->l'[j'.toNat]?=some y->RS V (K x) (K' y)):RS V (al.el l j K) (al.el l' j' K'):=by
 unfold al.el;split
 ·split
  ·split
   ·split
    ·exact h _ _ ‹_› ‹_› ‹_› ‹_›
    exact RS.o6
   exact RS.o6
  exact RS.nil
 exact RS.nil
theorem RS.jn {j:X->al α} {j':Y->al β} {p:(X->al α)->al α} {p':(Y->al β)->al β} (J:X->Y->Prop) (hj:∀ v w,J v w->RS V (j v) (j' w))
 (hp:∀ (j:X->al α) (j':Y->al β),(∀ v w,J v w->RS V (j v) (j' w))->RS V (p j) (p' j')):RS V (al.jn j p) (al.jn j' p'):=hp j j' hj
theorem RS.iter {body:(X->al α)->X->al α} {body':(Y->al β)->Y->al β} (I:X->Y->Prop)
  (hb:∀ x y,I x y->∀ (next:X->al α) (next':Y->al β),(∀ v w,I v w->RS V (next v) (next' w))->RS V (body next x) (body' next' y)) :
  ∀ (n n':Nat) {x:X} {y:Y},I x y->RS V (al.iter body n x) (al.iter body' n' y)
 | 0,_,_,_,_=>RS.nil
 | _+1,0,_,_,_=>RS.o6
 | n+1,n'+1,x,y,h=>hb x y h _ _ λ_ _ q=>RS.iter I hb n n' q
end
def LR {X Y:Type} (R:X->Y->Prop) (l:List X) (l':List Y):Prop:=l.length=l'.length/\∀ (i:Nat) x y,l[i]?=some x->l'[i]?=some y->R x y
section
variable {X Y:Type} {R:X->Y->Prop}
theorem LR.nil:LR R [] []:=⟨rfl,λi x y h=>by simp at h⟩
theorem LR.cons {l:List X} {l':List Y} {x:X} {y:Y} (h:R x y) (h':LR R l l'):LR R (x::l) (y::l'):=by
 refine ⟨by simp[h'.1],λi a b ha hb=>?_⟩;cases i with
 | zero=>simp at ha hb;subst ha hb;exact h
 | succ i=>simp at ha hb;exact h'.2 i a b ha hb
theorem LR.one {x:X} {y:Y} (h:R x y):LR R [x] [y]:=.cons h .nil
theorem LR.two {x a:X} {y b:Y} (h:R x y) (h':R a b):LR R [x,a] [y,b]:=.cons h (.one h')
theorem LR.snoc {l:List X} {l':List Y} {x:X} {y:Y} (h':LR R l l') (h:R x y):LR R (l++[x]) (l'++[y]):=by
 refine ⟨by simp[h'.1],λi a b ha hb=>?_⟩;have hl:=h'.1;by_cases q:i<l.length
 ·rw[List.getElem?_append_left q] at ha;rw[List.getElem?_append_left (by omega)] at hb;exact h'.2 i a b ha hb
 rw[List.getElem?_append_right (by omega)] at ha;rw[List.getElem?_append_right (by omega)] at hb;have:=(List.getElem?_eq_some_iff.1 ha).1;simp at this;rw[show i - l.length=0 by omega] at ha;rw[show i - l'.length=0 by omega] at hb;simp at ha hb;subst ha hb;exact h
theorem LR.set {l:List X} {l':List Y} {x:X} {y:Y} (h':LR R l l') (h:R x y) (j:Nat):LR R (l.set j x) (l'.set j y):=by
 refine ⟨by simp[h'.1],λi a b ha hb=>?_⟩;have hl:=h'.1;by_cases q:j=i
 ·subst q;have h1:=(List.getElem?_eq_some_iff.1 ha).1;have h2:=(List.getElem?_eq_some_iff.1 hb).1;simp at h1 h2;rw[List.getElem?_set_self h1] at ha;rw[List.getElem?_set_self h2] at hb;cases ha;cases hb;exact h
 rw[List.getElem?_set_ne q] at ha hb;exact h'.2 i a b ha hb
end
def Tk {α:Type} (x:al α) (a:α):Prop:=x=.stuck\/x=.ok a
section
variable {α β X:Type} {a:α}
theorem Tk.of {b:α} (h:b=a):Tk (.ok b) a:=.inr (by rw[h])
theorem Tk.pw {x:al β} {c:β} {f:β->al α} (h:x=.ok c) (hf:Tk (f c) a):Tk (al.bind x f) a:=by subst h;exact hf
theorem Tk.br {b:Bool} {x y:al α} (ht:b=true->Tk x a) (hf:b=false->Tk y a):Tk (al.br b x y) a:=by
 cases b with
 | true=>exact ht rfl
 | false=>exact hf rfl
theorem Tk.gd {p:Prop} [Decidable p] {x:al α} (h:p->Tk x a):Tk (al.gd p x) a:=by
 unfold al.gd;split
 ·exact h ‹_›
 exact .inl rfl
theorem Tk.el {l:List X} {v:Int} {K:X->al α} (h:∀ x,0<=v->l[v.toNat]?=some x->Tk (K x) a):Tk (al.el l v K) a:=by
 unfold al.el;split
 ·split
  ·exact h _ ‹_› ‹_›
  exact .inl rfl
 exact .inl rfl
theorem Tk.jn {j:X->al α} {p:(X->al α)->al α} (J:X->Prop) (hj:∀ v,J v->Tk (j v) a) (hp:∀ j:X->al α,(∀ v,J v->Tk (j v) a)->Tk (p j) a):Tk (al.jn j p) a:=hp j hj
theorem Tk.iter {body:(X->al α)->X->al α} (I:X->Prop) (hb:∀ x,I x->∀ next:X->al α,(∀ y,I y->Tk (next y) a)->Tk (body next x) a):∀ (n:Nat) {x:X},I x->Tk (al.iter body n x) a
 | 0,_,_=>.inl rfl
 | n+1,x,h=>hb x h _ λ_ q=>Tk.iter I hb n q
theorem Tk.rs {γ δ:Type} {V:γ->δ->Prop} {x:al α} {y:al β} {c:α} {d:β} {f:α->al γ} {g:β->al δ} (h:Tk x c) (h':Tk y d) (hk:RS V (f c) (g d)):RS V (al.bind x f) (al.bind y g):=by
 rcases h with rfl|rfl
 ·exact RS.nil
 rcases h' with rfl|rfl
 ·exact RS.o6
 exact hk
end
theorem yE (b:UInt8):ku (b.toNat:Int)=.ok (Gg b):=by
 rw[Jm];unfold ku;by_cases h1:(97:Int)<=b.toNat<;>by_cases h2:(b.toNat:Int)<=122<;>by_cases h3:(65:Int)<=b.toNat<;>by_cases h4:(b.toNat:Int)<=90<;>by_cases h5:(b.toNat:Int)=95<;>first|omega|simp[h1,h2,h3,h4,h5,al.br]
theorem qG (b:UInt8):iG (b.toNat:Int)=.ok (xT b):=by
 rw[Jn];unfold iG;by_cases h1:(48:Int)<=b.toNat<;>simp[h1,al.br]
section
variable {α:Type} {m:Nat} {u:ByS}
theorem CZ {F:UInt8->al Bool} {p:UInt8->Bool} (hF:∀ b,F b=.ok (p b)) {j:Int->al α} {a:α} {v0:Int} (h0:0<=v0) (hv:v0<=u.length) (hj:Tk (j (v0+run (λ_=>p) 0 (u.drop v0.toNat))) a) :
  Tk (al.iter (λnext (v:Int)=>al.br (decide (v<(List.length u:Int))) (al.el u v λb=>al.bind (F b) λy=>al.br y (al.gd (dY (v+1)) (next (v+1))) (j v)) (j v)) m v0) a:=by
 have hl:=Ha (p:=λ_=>p) (i:=0) h0 hv
 refine Tk.iter (λv=>v0<=v/\v<=v0+run (λ_=>p) 0 (u.drop v0.toNat)) (λv hv2 next hn=>?_) m ⟨by omega,by omega⟩
 have hat:∀ x,u[v.toNat]?=some x->p x=decide (v<v0+run (λ_=>p) 0 (u.drop v0.toNat)):=by
  intro x hx
  rw[<- Fb h0 hv2.1] at hx
  by_cases q:v<v0+run (λ_=>p) 0 (u.drop v0.toNat)
  ·obtain ⟨b,h1,h2⟩:=ud (p:=λ_=>p) (u:=u.drop v0.toNat) (i:=0) (j:=(v - v0).toNat) (by omega)
   rw[hx] at h1;cases h1
   rw[h2,decide_eq_true q]
  ·have e:v - v0=run (λ_=>p) 0 (u.drop v0.toNat):=by omega
   rw[e] at hx
   have:=oT (p:=λ_=>p) (u:=u.drop v0.toNat) (i:=0) (b:=x) (by simpa using hx)
   rw[this,decide_eq_false q]
 refine Tk.br (λhlt=>Tk.el λx _ hx=>Tk.pw (hF x) (Tk.br (λh=>Tk.gd λ_=>hn _ ?_) (λh=>?_))) (λhge=>?_)
 ·rw[hat x hx] at h
  have:=of_decide_eq_true h
  omega
 ·rw[hat x hx] at h
  have:=of_decide_eq_false h
  rw[show v=v0+run (λ_=>p) 0 (u.drop v0.toNat) by omega];exact hj
 ·have:=of_decide_eq_false hge
  rw[show v=v0+run (λ_=>p) 0 (u.drop v0.toNat) by omega];exact hj
theorem yF:Tk (lu m u) (xU u:Int):=by
 unfold lu;have hl:=sH (p:=pD) (i:=0) (u:=u);refine Tk.jn (λv=>v=run pD 0 u) (λv hv=>?_) (λj hj=>CZ (p:=xT) qG (Int.le_refl 0) (by omega) (hj _ (by simp[Im])));subst hv;refine Tk.jn (λz=>z=tx u (run pD 0 u)) (λz hz=>?_) (λj hj=>Tk.gd λ_=>?_)
 ·refine Tk.br (λh=>Tk.gd λ_=>?_) (λh=>?_)
  ·rw[h] at hz;have hd:=hz.symm;unfold tx at hd;simp only[Bool.and_eq_true,beq_iff_eq] at hd;have:=(List.getElem?_eq_some_iff.1 hd.1).1;refine CZ (p:=xT) qG (by omega) (by omega) (Tk.of ?_);unfold xU;rw[if_pos hz.symm,show ((run pD 0 u:Int)+1).toNat=run pD 0 u+1 by omega,Im];omega
  rw[h] at hz;refine Tk.of ?_;unfold xU;rw[if_neg (by rw[<- hz];simp)]
 have g0:((run pD 0 u:Int)).toNat=run pD 0 u:=by omega
 have g1:((run pD 0 u:Int)+1).toNat=run pD 0 u+1:=by omega
 refine Tk.br (λh2=>Tk.el λx _ hx=>Tk.br (λh3=>Tk.gd λ_=>Tk.el λy _ hy=>Tk.pw (qG y) (hj _ ?_)) (λh3=>hj _ ?_)) (λh2=>hj _ ?_)
 ·rw[g0] at hx;rw[g1] at hy;rw[yh 46 46 rfl] at h3;unfold tx;rw[hx,hy,beq_iff_eq.1 h3];simp
 ·rw[g0] at hx;rw[yh 46 46 rfl] at h3;unfold tx;rw[hx];have:(some x==some (46:UInt8))=false:=h3;rw[this];rfl
 have:=of_decide_eq_false h2;unfold tx;rw[List.getElem?_eq_none (l:=u) (i:=run pD 0 u+1) (by omega)];simp
theorem Ac:Tk (mV m u) (mo u:Int):=by
 unfold mV;refine Tk.jn (λv=>v=run pW 0 u) (λv hv=>?_) (λj hj=>?_)
 ·subst hv;refine Tk.br (λh=>?_) (λh=>Tk.of ?_)
  ·have h1:run pW 0 u=1:=by have:=beq_iff_eq.1 h;omega
   obtain ⟨b,hb,hp⟩:=ud (p:=pW) (u:=u) (i:=0) (j:=0) (by omega);have hp:(Gg b||b==35)=true:=by simpa[pW] using hp
   refine Tk.el λx _ hx=>Tk.pw (yE x) (Tk.br (λh2=>Tk.of ?_) (λh2=>Tk.el λy _ hy=>Tk.br (λh3=>Tk.of ?_) (λh3=>Tk.of ?_)))
   ·have hx:u[0]?=some x:=hx;rw[hb] at hx;cases hx;simp at h2;rw[h2] at hp;have h35:b=35:=by simpa using hp
    unfold mo;rw[if_pos ⟨h1,.inl (by rw[hb,h35])⟩];rfl
   ·have hy:u[0]?=some y:=hy;rw[yh 95 95 rfl,beq_iff_eq] at h3;unfold mo;rw[if_pos ⟨h1,.inr (by rw[hy,h3])⟩];rfl
   have hx:u[0]?=some x:=hx;have hy:u[0]?=some y:=hy;rw[hx] at hy;cases hy;rw[yh 95 95 rfl,beq_eq_false_iff_ne] at h3;simp at h2;have h35:x≠35:=by rintro rfl;revert h2;decide
   unfold mo;rw[if_neg (by rw[hx];simp[h35,h3])]
  have h1:run pW 0 u≠1:=by have:=beq_eq_false_iff_ne.1 h;omega
  unfold mo;rw[if_neg (λq=>h1 q.1)]
 have hl:=sH (p:=pW) (i:=0) (u:=u);refine Tk.iter (λ(v:Int)=>0<=v/\v<=run pW 0 u) (λv hv next hn=>?_) m ⟨by omega,by omega⟩;have hat:∀ x,u[v.toNat]?=some x->(Gg x||(decide (0<v)&&xT x)||(decide (v=0)&&x==35))=decide (v<run pW 0 u):=by
  intro x hx;have e:(Gg x||(decide (0<v)&&xT x)||(decide (v=0)&&x==35))=pW v.toNat x:=by
   unfold pW;rw[show decide (0<v)=decide (0<v.toNat) from decide_eq_decide.2 (by omega),show decide (v=0)=decide (v.toNat=0) from decide_eq_decide.2 (by omega)]
  rw[e];by_cases q:v<run pW 0 u
  ·obtain ⟨b,h1,h2⟩:=ud (p:=pW) (u:=u) (i:=0) (j:=v.toNat) (by omega);rw[hx] at h1;cases h1;rw[decide_eq_true q,<- h2];congr 1;omega
  have e:v.toNat=run pW 0 u:=by omega
  rw[e] at hx ⊢;have:=oT (p:=pW) (u:=u) (i:=0) (b:=x) hx;rw[decide_eq_false q,<- this];congr 1;omega
 have fin:¬ v<run pW 0 u->Tk (j v) (mo u:Int):=λq=>by rw[show v=run pW 0 u by omega];exact hj _ rfl
 refine Tk.jn (λ_=>v<run pW 0 u) (λ_ hq=>Tk.gd λ_=>hn _ (by omega)) (λj2 hj2=>?_);refine Tk.br (λhlt=>Tk.el λx _ hx=>Tk.pw (yE x) ?_) (λh=>fin (by have:=of_decide_eq_false h;omega));have hat:=hat x hx;refine Tk.br (λhL=>hj2 () (of_decide_eq_true (by rw[<- hat,hL];rfl))) (λhL=>?_);rw[hL,Bool.false_or] at hat;have h35:v=0->Tk (al.el u v λb=>al.br ((b.toNat:Int)==35) (j2 ()) (j v)) (mo u:Int):=λh0=>by
  refine Tk.el λy _ hy=>?_;rw[hx] at hy;cases hy;rw[yh 35 35 rfl];have hat:(x==35)=decide (v<run pW 0 u):=by simpa[h0] using hat
  refine Tk.br (λh=>hj2 () (of_decide_eq_true (by rw[<- hat,h]))) (λh=>fin (of_decide_eq_false (by rw[<- hat,h])))
 refine Tk.br (λh=>Tk.el λy _ hy=>Tk.pw (qG y) ?_) (λh=>?_)
 ·rw[hx] at hy;cases hy;have hv0:=of_decide_eq_true h;have hv0:(0:Int)<v:=hv0;have hne:v≠0:=by omega
  have hat:xT x=decide (v<run pW 0 u):=by simpa[hv0,hne] using hat
  refine Tk.br (λh2=>hj2 () (of_decide_eq_true (by rw[<- hat,h2]))) (λh2=>?_);have e0:(v==0)=false:=by simp[hne]
  rw[e0];exact fin (of_decide_eq_false (by rw[<- hat,h2]))
 have hv0:¬ 0<v:=of_decide_eq_false h;have e:v=0:=by omega
 have e0:(v==0)=true:=by simp[e]
 rw[e0];exact h35 e
def qH (u:ByS) (c:Bool) (i:Int):Int×Bool:=match gJ (u.drop i.toNat) with|some x=>(i+x.1,c||x.2)|none=>(0,false)
theorem uk:Tk (kK m u) (qH u false 1):=by
 unfold kK;refine Tk.iter (λ(v:Bool×Int)=>0<v.2/\qH u v.1 v.2=qH u false 1) (λv hv next hn=>?_) m ⟨by decide,rfl⟩;obtain ⟨c,v⟩:=v;obtain ⟨h1,h3⟩:=hv;dsimp only at h1 h3 ⊢;refine Tk.br (λh=>?_) (λh=>Tk.of ?_)
 ·refine Tk.jn (λ(w:Bool×Int)=>v<=w.2/\qH u w.1 (w.2+1)=qH u false 1) (λw hw=>Tk.gd λ_=>hn _ ⟨by dsimp only;omega,hw.2⟩) (λj hj=>?_);refine Tk.el λx _ hx=>?_;have hu:u.drop v.toNat=x::u.drop (v+1).toNat:=by
   have hx2:=hx;rw[List.getElem?_eq_some_iff] at hx2;obtain ⟨q1,q2⟩:=hx2;rw[List.drop_eq_getElem_cons q1,q2,show (v+1).toNat=v.toNat+1 by omega]
  rw[yh 34 34 rfl];refine Tk.br (λh4=>Tk.gd λ_=>Tk.of ?_) (λh4=>Tk.el λy _ hy=>?_)
  ·rw[beq_iff_eq] at h4;subst h4;rw[<- h3];unfold qH;rw[hu,Hc];simp
  rw[hx] at hy;cases hy;rw[yh 92 92 rfl];refine Tk.br (λh5=>?_) (λh5=>?_)
  ·rw[beq_iff_eq] at h5;subst h5;have hE:∀ d,u[(v+1).toNat]?=some d->qH u (c||d==40) (v+1+1)=qH u false 1:=by
    intro d hd;have hd2:=hd;rw[List.getElem?_eq_some_iff] at hd2;obtain ⟨q1,q2⟩:=hd2;rw[<- h3];unfold qH;rw[hu,List.drop_eq_getElem_cons q1,q2,He,show (v+1+1).toNat=(v+1).toNat+1 by omega];cases gJ (u.drop ((v+1).toNat+1)) with
    | none=>rfl
    | some y=>simp[Bool.or_comm,Bool.or_left_comm];omega
   have hN:¬ v+1<u.length->∀ c,qH u c (v+1+1)=qH u false 1:=by
    intro q c';rw[<- h3];unfold qH;rw[hu,List.drop_eq_nil_of_le (by omega),List.drop_eq_nil_of_le (by omega)];simp[gJ]
   refine Tk.br (λhc=>Tk.gd λ_=>hj _ ⟨by dsimp only;omega,?_⟩) (λhc=>Tk.gd λ_=>Tk.br (λh6=>Tk.gd λ_=>Tk.el λd _ hd=>Tk.gd λ_=>hj _ ⟨by dsimp only;omega,?_⟩) (λh6=>Tk.gd λ_=>hj _ ⟨by dsimp only;omega,hN (of_decide_eq_false h6) _⟩))
   ·dsimp only;by_cases q:v+1<u.length
    ·obtain ⟨d,hd⟩:∃ d,u[(v+1).toNat]?=some d:=⟨_,List.getElem?_eq_getElem (by omega)⟩;have:=hE d hd;rw[hc] at this;simpa using this
    exact hN q _
   have:=hE d hd;rw[hc] at this;dsimp only;rw[yh 40 40 rfl];simpa using this
  refine hj _ ⟨by dsimp only;omega,?_⟩;dsimp only;rw[<- h3];unfold qH;rw[hu,Hf (by simpa using h4) (by simpa using h5)];cases gJ (u.drop (v+1).toNat) with
  | none=>rfl
  | some y=>simp;omega
 have:=of_decide_eq_false h;rw[<- h3];unfold qH;rw[List.drop_eq_nil_of_le (by omega)];simp[gJ]
def Kt:List (List ByS):=[[[95,124,95],[46,46,46]],[[61,61],[33,61],[60,61],[62,61],[61,126],[33,126],[38,38],[124,124]],[[95],[40],[41],[91],[93],[123],[125],[58],[44],[46],[63],[33],[42],[38],[124],[61],[60],[62],[43],[45],[47],[37]]]
theorem sZ:Tk (jX m u) (DQ u):=by
 unfold jX;have hN:∀ {g:List ByS} {i:Nat},i<3->Kt[i]?=some g->(∀ (k:Nat) h,k<i->Kt[k]?=some h->h.find? (λo=>o.isPrefixOf u)=none)->∀ o,g.find? (λo=>o.isPrefixOf u)=some o->o=DQ u:=by
  intro g i hi hg hb o ho;have key:DQ u=(ops.find? λo=>o.isPrefixOf u).getD []:=rfl;have e:ops=[[95,124,95],[46,46,46]]++([[61,61],[33,61],[60,61],[62,61],[61,126],[33,126],[38,38],[124,124]]++[[95],[40],[41],[91],[93],[123],[125],[58],[44],[46],[63],[33],[42],[38],[124],[61],[60],[62],[43],[45],[47],[37]]):=rfl;rw[key,e,List.find?_append,List.find?_append];rcases (show i=0\/i=1\/i=2 by omega) with q|q|q<;>subst q<;>(simp only[Kt,List.getElem?_cons_zero,List.getElem?_cons_succ] at hg;cases hg)
  ·rw[ho];rfl
  ·rw[hb 0 _ (by decide) rfl,ho];rfl
  rw[hb 0 _ (by decide) rfl,hb 1 _ (by decide) rfl,ho];rfl
 refine Tk.iter (λ(v:Int)=>0<=v/\v<=3/\∀ (k:Nat) h,(k:Int)<v->Kt[k]?=some h->h.find? (λo=>o.isPrefixOf u)=none) (λv hv next hn=>?_) m ⟨by decide,by decide,λk h q=>by omega⟩;obtain ⟨h1,h2,h3⟩:=hv;refine Tk.br (λh=>Tk.el λp _ hp=>?_) (λh=>Tk.of ?_)
 ·have hlt:v<3:=of_decide_eq_true h;obtain ⟨g,hg,hs⟩:∃ g,Kt[v.toNat]?=some g/\nQ [32] (p.length+1) p=g:=by
   rcases (show v.toNat=0\/v.toNat=1\/v.toNat=2 by omega) with q|q|q<;>rw[q] at hp ⊢<;>cases hp<;>exact ⟨_,rfl,rfl⟩
  have hsp:strings_Split p [32]=.stuck\/strings_Split p [32]=.ok g:=by
   unfold strings_Split al.gd;split
   ·right;rw[<- hs]
   exact .inl rfl
  rcases hsp with q|q
  ·rw[q];exact .inl rfl
  rw[q];refine Tk.iter (λ(w:Int)=>0<=w/\∀ (i:Nat) o,(i:Int)<w->g[i]?=some o->o.isPrefixOf u=false) (λw hw next2 hn2=>?_) m ⟨by decide,λi o q=>by omega⟩;refine Tk.br (λ_=>Tk.el λo _ ho=>Tk.pw (oC u o) (Tk.br (λh5=>Tk.of ?_) (λh5=>Tk.gd λ_=>hn2 _ ⟨by omega,λi o2 hi ho2=>?_⟩))) (λh4=>Tk.gd λ_=>hn _ ⟨by omega,by omega,λk h hk hh=>?_⟩)
  ·exact hN (i:=v.toNat) (by omega) hg (λk h hk hh=>h3 k h (by omega) hh) o (Hb (v:=w.toNat) (λi p hi hp2=>hw.2 i p (by omega) hp2) ho h5)
  ·by_cases q:(i:Int)<w
   ·exact hw.2 i o2 q ho2
   rw[show i=w.toNat by omega,ho] at ho2;cases ho2;exact h5
  by_cases q:(k:Int)<v
  ·exact h3 k h q hh
  rw[show k=v.toNat by omega,hg] at hh;cases hh;rw[List.find?_eq_none];intro o ho;obtain ⟨i,hi⟩:=List.mem_iff_getElem?.1 ho;have hil:=(List.getElem?_eq_some_iff.1 hi).1;have h4:=of_decide_eq_false h4;rw[hw.2 i o (by omega) hi];simp
 have hge:¬ v<3:=of_decide_eq_false h;have e:ops=[[95,124,95],[46,46,46]]++([[61,61],[33,61],[60,61],[62,61],[61,126],[33,126],[38,38],[124,124]]++[[95],[40],[41],[91],[93],[123],[125],[58],[44],[46],[63],[33],[42],[38],[124],[61],[60],[62],[43],[45],[47],[37]]):=rfl;unfold DQ;rw[e,List.find?_append,List.find?_append,h3 0 _ (by omega) rfl,h3 1 _ (by omega) rfl,h3 2 _ (by omega) rfl];rfl
end
def kE (k:Int) (t:ByS):Bool:=if k=1\/k=2\/k=3\/k=4 then true else if k=5 then (l8 [32,95,124,95,32,95,32,46,46,46,32,41,32,93,32,125,32,63,32] ([32]++t++[32])).isSome else false
def kx (U:List aB):Bool:=U.foldl (λb t=>if t.Kind=6 then b else kE t.Kind t.Text) false
theorem s3 (U:List aB) (t:aB):kx (U++[t])=if t.Kind=6 then kx U else kE t.Kind t.Text:=by simp[kx]
section
variable {m:Nat} {x:P}
theorem s4 {k n:Int} {t:ByS}:Tk (aZ k t n x) ⟨x.text,x.at_+n,x.out++[⟨k,t,x.at_,x.at_+n⟩],if k=6 then x.line else kE k t⟩:=by
 unfold aZ;refine Tk.gd λ_=>Tk.gd λ_=>Tk.gd λ_=>Tk.br (λh=>Tk.of ?_) (λh=>?_)
 ·rw[if_pos (by simpa using h)]
 have h6:k≠6:=by simpa using h
 rw[if_neg h6];refine Tk.jn (λv=>v=decide (k=1\/k=2\/k=3\/k=4)) (λv hv=>?_) (λj hj=>?_)
 ·refine Tk.br (λh=>Tk.of ?_) (λh=>Tk.br (λh5=>Tk.gd λ_=>Tk.gd λ_=>?_) (λh5=>Tk.of ?_))
  ·rw[h] at hv;unfold kE;rw[if_pos (of_decide_eq_true hv.symm)]
  ·rw[h] at hv;unfold strings_Contains;have e:kE k t=(l8 [32,95,124,95,32,95,32,46,46,46,32,41,32,93,32,125,32,63,32] ([32]++t++[32])).isSome:=by
    unfold kE;rw[if_neg (of_decide_eq_false hv.symm),if_pos (by simpa using h5)]
   rw[e];unfold al.gd;split
   ·exact .inr rfl
   exact .inl rfl
  rw[h] at hv;unfold kE;rw[if_neg (of_decide_eq_false hv.symm),if_neg (by simpa using h5)]
 refine Tk.br (λh=>hj _ ?_) (λh1=>Tk.br (λh=>hj _ ?_) (λh2=>Tk.br (λh=>hj _ ?_) (λh3=>hj _ ?_)))
 ·have:k=1:=by simpa using h
  simp[this]
 ·have:k=2:=by simpa using h
  simp[this]
 ·have:k=3:=by simpa using h
  simp[this]
 have g1:k≠1:=by simpa using h1
 have g2:k≠2:=by simpa using h2
 have g3:k≠3:=by simpa using h3
 rw[Bool.eq_iff_iff];simp[g1,g2,g3]
end
section
variable {m:Nat} {x x':P}
structure SA (x x':P) (n:Int) (z z':P):Prop where
 hx:z.text=x.text
 tw:z'.text=x'.text
 ha:z.at_=x.at_+n
 Lu:z'.at_=x'.at_+n
 hl:z'.line=z.line
 ho:∃ k t,z.out=x.out++[aB.mk k t x.at_ (x.at_+n)]/\z'.out=x'.out++[aB.mk k t x'.at_ (x'.at_+n)]/\z.line=(if k=6 then x.line else kE k t)
theorem BX (h:x'.line=x.line) {k n:Int} {t:ByS}:RS (SA x x' n) (aZ k t n x) (aZ k t n x'):=by
 rcases s4 (x:=x) (k:=k) (n:=n) (t:=t) with q|q
 ·rw[q];exact RS.nil
 rcases s4 (x:=x') (k:=k) (n:=n) (t:=t) with q2|q2
 ·rw[q2];exact RS.o6
 rw[q,q2];exact RS.ok ⟨rfl,rfl,rfl,rfl,by dsimp only;rw[h],k,t,rfl,rfl,rfl⟩
variable {c r r':ByS}
theorem wB (r:ByS):kB (c++r) (c.length:Int)=c:=by simp[kB]
theorem Io {s:ByS} {a:Int} (h0:0<=a) (h:dI s a=c++r):sub s a (a+(c.length:Int))=c:=by
 have h:s.drop a.toNat=c++r:=h;simp only[sub];rw[h,show (a+(c.length:Int)).toNat - a.toNat=c.length by omega];simp
abbrev NX (x x':P) (n:Int) (y y':Bool×P):Prop:=y'.1=y.1/\(y.1=true->SA x x' n y.2 y'.2)
theorem Jo (h:x'.line=x.line) (h1:dI x.text x.at_=c++r) (h2:dI x'.text x'.at_=c++r') {b:Bool} (q:qH (c++r) false 1=((c.length:Int),b)) (q':qH (c++r') false 1=((c.length:Int),b)) :
  RS (NX x x' c.length) (dm m x) (dm m x'):=by
 unfold dm
 refine RS.gd λg g'=>?_
 rw[h1,h2]
 refine Tk.rs uk uk ?_
 rw[q,q']
 dsimp only
 rw[Io g.1 h1,Io g'.1 h2]
 refine RS.br rfl (λ_=>RS.ok ⟨rfl,λh=>by cases h⟩) (λ_=>RS.gd λ_ _=>RS.gd λ_ _=>RS.br rfl (λ_=>RS.gd λ_ _=>RS.gd λ_ _=>RS.same λy _=>RS.br rfl (λ_=>RS.ok ⟨rfl,λh=>by cases h⟩) (λ_=>RS.gd λ_ _=>RS.gd λ_ _=>?_)) (λ_=>RS.same λy _=>RS.br rfl (λ_=>RS.ok ⟨rfl,λh=>by cases h⟩) (λ_=>?_)))
 ·exact RS.bind (BX h) λz z' hz=>RS.ok ⟨rfl,λ_=>hz⟩
 ·exact RS.bind (BX h) λz z' hz=>RS.ok ⟨rfl,λ_=>hz⟩
theorem Ip {r:ByS} (hc:∀ b,b∈c->b≠10) (hr:r=[]\/∃ y,r=10::y):(match l8 (c++r) [10] with|some i=>((c++r).take i,(c++r).drop (i+([10]:ByS).length),true)|none=>(c++r,[],false)).1=c:=by
 have:l8 (c++r) [10]=if r=[] then none else some c.length:=by
  induction c with
  | nil=>
   rcases hr with rfl|⟨y,rfl⟩
   ·rfl
   ·simp[l8,List.isPrefixOf]
  | cons b c ih=>
   have hb:=hc b (by simp)
   have e:([10]:ByS).isPrefixOf (b::(c++r))=false:=by simp[List.isPrefixOf];exact λq=>hb q.symm
   simp only[List.cons_append,l8,e]
   rw[ih λb' hb'=>hc b' (by simp[hb'])]
   by_cases q:r=[]<;>simp[q]
 rw[this];rcases hr with rfl|⟨y,rfl⟩
 ·simp
 simp
theorem rB {α β:Type} {a:α} {k:α->al β}:al.bind (.ok a) k=k a:=rfl
theorem Hg (h:x'.line=x.line) (h1:dI x.text x.at_=c++r) (h2:dI x'.text x'.at_=c++r') (h0:0<c.length) {k:Nat} (he:ext (c++r)=some (k,c.length)) (hla:LA r r') (hk:k=6->∃ y,r'=10::y) :
  RS (NX x x' c.length) (cy m x) (cy m x'):=by
 unfold cy
 refine RS.gd λg g'=>?_
 rw[h1,h2,oC,oC]
 have A:∀ {k:Int} {t:ByS},RS (NX x x' c.length) (al.bind (aZ k t c.length x) λy=>.ok (true,y)) (al.bind (aZ k t c.length x') λy=>.ok (true,y)):=λ{k t}=>RS.bind (BX h) λz z' hz=>RS.ok ⟨rfl,λ_=>hz⟩
 have hp:[47,47].isPrefixOf (c++r')=true->[47,47].isPrefixOf (c++r)=true:=E4 hla (by
  intro i
  match i with
  | 0=>decide
  | 1=>decide
  | i+2=>simp)
 obtain ⟨d,cc,hcc⟩:∃ d cc,c=d::cc:=by
  cases c with
  | nil=>simp at h0
  | cons d cc=>exact ⟨d,cc,rfl⟩
 unfold ext at he
 split at he
 ·rename_i hpre
  simp at he
  obtain ⟨rfl,hrun⟩:=he
  have hc10:∀ b,b∈c->b≠10:=by
   intro b hb
   obtain ⟨i,hi⟩:=List.mem_iff_getElem?.1 hb
   have hil:=(List.getElem?_eq_some_iff.1 hi).1
   obtain ⟨b2,g1,g2⟩:=ud (p:=pC) (u:=c++r) (i:=0) (j:=i) (by omega)
   rw[List.getElem?_append_left hil,hi] at g1;cases g1
   simpa[pC] using g2
  have hl2:2<=c.length:=by
   rcases Nat.lt_or_ge c.length 2 with q|q
   ·exfalso
    have h1':c.length=1:=by omega
    have g1:=(tm.1 hpre) 1 (by decide)
    have:=oT (p:=pC) (u:=c++r) (i:=0) (b:=47) (by rw[hrun,h1'];exact g1)
    rw[hrun,h1'] at this;revert this;decide
   ·exact q
  have hr10:r=[]\/∃ y,r=10::y:=by
   cases r with
   | nil=>exact .inl rfl
   | cons b y=>
    have:=oT (p:=pC) (u:=c++b::y) (i:=0) (b:=b) (by rw[hrun,vQ];rfl)
    exact .inr ⟨y,by rw[show b=10 by simpa[pC] using this]⟩
  rw[hpre,If (by exact hl2) r' r,hpre,rB,rB]
  refine RS.br rfl (λ_=>?_) (λq=>by cases q)
  unfold strings_Cut
  refine RS.bind (W:=λy y'=>y.1=c/\y'.1=c) (RS.gd λ_ _=>RS.ok ⟨Ip hc10 hr10,Ip hc10 (.inr (hk rfl))⟩) λy y' hy=>?_
  rw[hy.1,hy.2]
  exact RS.gd λ_ _=>A
 rename_i hpre
 have hpre:[47,47].isPrefixOf (c++r)=false:=eq_false_of_ne_true hpre
 have hpre':[47,47].isPrefixOf (c++r')=false:=by
  cases e:[47,47].isPrefixOf (c++r') with
  | false=>rfl
  | true=>rw[hp e] at hpre;cases hpre
 rw[hpre,hpre',rB,rB]
 refine RS.br rfl (λq=>by cases q) (λ_=>?_)
 have hw:mo (c++r')=mo (c++r):=by
  refine GU hla h0 ?_
  split at he
  ·rename_i hw
   simp at he
   have:mo (c++r)=run pW 0 (c++r):=by unfold mo at hw ⊢;split<;>simp_all
   omega
  ·rename_i hw
   unfold mo at hw
   split at hw<;>omega
 refine Tk.rs Ac Ac ?_
 rw[hw]
 split at he
 ·rename_i hw0
  simp at he
  rw[he.2]
  refine RS.br rfl (λ_=>RS.gd λ_ _=>?_) (λq=>by have:=of_decide_eq_false q;omega)
  rw[wB,wB];exact A
 rename_i hw0
 refine RS.br rfl (λq=>by have:=of_decide_eq_true q;omega) (λ_=>?_)
 refine RS.el λb b' _ _ hb hb'=>?_
 have hd:b=d:=by rw[hcc] at hb;simpa using hb.symm
 have hd':b'=d:=by rw[hcc] at hb';simpa using hb'.symm
 subst hd hd'
 rw[qG]
 rw[hcc] at he
 simp only[List.cons_append] at he
 have hcl:(b'::(cc++r))=c++r:=by rw[hcc];rfl
 refine RS.same λy hy=>?_
 have hy:xT b'=y:=al.ok.inj hy
 split at he
 ·rename_i hD
  rw[hcl,<- hcc] at he
  simp at he
  rw[<- hy,hD]
  refine RS.br rfl (λ_=>?_) (λq=>by cases q)
  refine Tk.rs yF yF ?_
  rw[Jd hla he.2,he.2]
  refine RS.gd λ_ _=>?_
  rw[wB,wB]
  exact RS.same λz _=>RS.br rfl (λ_=>RS.ok ⟨rfl,λq=>by cases q⟩) (λ_=>RS.gd λ_ _=>A)
 rename_i hD
 refine RS.br rfl (λq=>absurd (hy.trans q) hD) (λ_=>?_)
 rw[yh 34 34 rfl]
 split at he
 ·rename_i h34
  refine RS.br rfl (λ_=>?_) (λq=>by simp[h34] at q)
  cases e:gJ (cc++r) with
  | none=>rw[e] at he;cases he
  | some x1=>
   rw[e] at he
   simp at he
   have e2:gJ (cc++r)=some (cc.length,x1.2):=by rw[e,<- he.2]
   have Q:∀ {r:ByS},gJ (cc++r)=some (cc.length,x1.2)->qH (c++r) false 1=((c.length:Int),x1.2):=by
    intro r q
    unfold qH
    rw[hcc]
    simp only[List.cons_append,Int.toNat_one,List.drop_succ_cons,List.drop_zero,q]
    simp;omega
   refine RS.bind (Jo h h1 h2 (Q e2) (Q (BU e2))) λz z' hz=>RS.ok hz
 rename_i h34
 refine RS.br rfl (λq=>absurd (beq_iff_eq.1 q) h34) (λ_=>?_)
 rw[hcl,<- hcc] at he
 split at he
 ·cases he
 rename_i hop
 simp at he
 refine Tk.rs sZ sZ ?_
 have ho:=Km hla hop he.2
 rw[ho]
 refine RS.br rfl (λ_=>RS.ok ⟨rfl,λq=>by cases q⟩) (λ_=>?_)
 rw[he.2];exact A
end
def jJ (n:Nat) (p0:ByS):(P->al (List aB×dz))->P->al (List aB×dz):=
 λnext10 (v9:P)=>br (decide (v9.at_<(List.length p0:Int))) (el p0 v9.at_ λb16=>jn (λ(_:Unit)=>gd (dY (v9.at_+1)) (next10 ((P.mk v9.text (v9.at_+1) v9.out v9.line)))) λj22=>br ((b16.toNat:Int)==10) (br v9.line (al.bind (aZ 7 ([10]:ByS) 1 v9) λy34=>next10 ((P.mk y34.text y34.at_ y34.out false))) (j22 ())) (br ((b16.toNat:Int)==32) (j22 ()) (br ((b16.toNat:Int)==9) (j22 ()) (br ((b16.toNat:Int)==13) (j22 ()) (al.bind (cy n v9) λy44=>br (!y44.1) (.ok ([],(dz.mk 8 y44.2.at_))) (next10 (y44.2))))))) (al.bind (aZ 0 ([]:ByS) 0 v9) λy48=>.ok (y48.out,(dz.mk 0 0)))
theorem Ad (n:Nat) (s:ByS):gj n s=al.br (decide ((s.length:Int)>65536)) (.ok ([],dz.mk 2 0)) (al.iter (jJ n s) n ⟨s,0,[],false⟩):=rfl
def wC (π:Nat) (t:aB):aB:=⟨t.Kind,t.Text,t.Pos+π,t.End+π⟩
def Ae (pre:ByS) (pt:List aB) (x:P):P:=⟨pre++x.text,x.at_+pre.length,pt++x.out.map (wC pre.length),x.line⟩
section
variable {pre:ByS} {pt:List aB} {m:Nat} {x:P}
theorem Bs {s:ByS} {i:Int} (h:0<=i):dI (pre++s) (i+pre.length)=dI s i:=by
 simp only[dI];rw[show (i+(pre.length:Int)).toNat=pre.length+i.toNat by omega,<- List.drop_drop,List.drop_left]
theorem Fc {s:ByS} {i j:Int} (h:0<=i):sub (pre++s) (i+pre.length) (j+pre.length)=sub s i j:=by
 simp only[sub];rw[show (i+(pre.length:Int)).toNat=pre.length+i.toNat by omega,<- List.drop_drop,List.drop_left];congr 1;omega
theorem Bt:(Ae pre pt x).text=pre++x.text:=rfl
theorem BY:(Ae pre pt x).at_=x.at_+pre.length:=rfl
theorem Fe:(Ae pre pt x).line=x.line:=rfl
theorem xu {k n:Int} {t:ByS}:RS (λr r'=>r'=Ae pre pt r/\r.text=x.text) (aZ k t n x) (aZ k t n (Ae pre pt x)):=by
 unfold aZ;dsimp only [Ae];refine RS.gd λ_ _=>RS.gd λ_ _=>RS.gd λ_ _=>?_;have e:pt++x.out.map (wC pre.length)++[aB.mk k t (x.at_+pre.length) (x.at_+pre.length+n)]=pt++(x.out++[aB.mk k t x.at_ (x.at_+n)]).map (wC pre.length):=by
  simp[wC];omega
 have e2:x.at_+(pre.length:Int)+n=x.at_+n+pre.length:=by omega
 rw[e,e2];refine RS.br rfl (λ_=>RS.ok ⟨rfl,rfl⟩) (λ_=>RS.jn (λv w=>w=v) (λv w h=>?_) (λj j' hj=>?_))
 ·subst h;refine RS.br rfl (λ_=>RS.ok ⟨rfl,rfl⟩) (λ_=>RS.br rfl (λ_=>?_) (λ_=>RS.ok ⟨rfl,rfl⟩));refine RS.gd λ_ _=>RS.gd λ_ _=>RS.same λy _=>RS.ok ⟨rfl,rfl⟩
 exact RS.br rfl (λ_=>hj _ _ rfl) (λ_=>RS.br rfl (λ_=>hj _ _ rfl) (λ_=>RS.br rfl (λ_=>hj _ _ rfl) (λ_=>hj _ _ rfl)))
theorem Jp:RS (λr r'=>r'.1=r.1/\r'.2=Ae pre pt r.2/\r.2.text=x.text) (dm m x) (dm m (Ae pre pt x)):=by
 unfold dm;simp only[Bt,BY];refine RS.gd λh _=>?_;simp only[Bs h.1];refine RS.same λy _=>RS.br rfl (λ_=>RS.ok ⟨rfl,rfl,rfl⟩) (λ_=>RS.gd λ_ _=>RS.gd λ_ _=>?_);simp only[show x.at_+(pre.length:Int)+y.1=x.at_+y.1+pre.length by omega,Fc h.1];refine RS.br rfl (λ_=>RS.gd λ_ _=>RS.gd λ_ _=>RS.same λz _=>RS.br rfl (λ_=>RS.ok ⟨rfl,rfl,rfl⟩) (λ_=>?_)) (λ_=>RS.same λz _=>RS.br rfl (λ_=>RS.ok ⟨rfl,rfl,rfl⟩) (λ_=>?_))
 ·exact RS.gd λ_ _=>RS.gd λ_ _=>RS.bind xu λr r' h=>RS.ok ⟨rfl,h⟩
 exact RS.bind xu λr r' h=>RS.ok ⟨rfl,h⟩
theorem Hh:RS (λr r'=>r'.1=r.1/\r'.2=Ae pre pt r.2/\r.2.text=x.text) (cy m x) (cy m (Ae pre pt x)):=by
 unfold cy;simp only[Bt,BY];refine RS.gd λh _=>?_;simp only[Bs h.1];have A:∀ {k n:Int} {t:ByS},RS (λr r'=>r'.1=r.1/\r'.2=Ae pre pt r.2/\r.2.text=x.text) (al.bind (aZ k t n x) λr=>.ok (true,r)) (al.bind (aZ k t n (Ae pre pt x)) λr=>.ok (true,r)):=
  λ{k n t}=>RS.bind xu λr r' h=>RS.ok ⟨rfl,h⟩
 refine RS.same λy _=>RS.br rfl (λ_=>RS.same λc _=>RS.gd λ_ _=>A) (λ_=>RS.same λy _=>RS.br rfl (λ_=>RS.gd λ_ _=>A) (λ_=>RS.el λb b' _ _ hb hb'=>?_));rw[hb] at hb';cases hb';refine RS.same λd _=>RS.br rfl (λ_=>RS.same λy _=>RS.gd λ_ _=>RS.same λz _=>RS.br rfl (λ_=>RS.ok ⟨rfl,rfl,rfl⟩) (λ_=>RS.gd λ_ _=>A)) (λ_=>?_);refine RS.br rfl (λ_=>RS.bind Jp λr r' h=>RS.ok h) (λ_=>RS.same λy _=>RS.br rfl (λ_=>RS.ok ⟨rfl,rfl,rfl⟩) (λ_=>A))
theorem Ff {s:ByS} (k k':Nat) (hx:x.text=s):RS (λa b=>b.2.Errno=a.2.Errno/\(a.2.Errno=0->b.1=pt++a.1.map (wC pre.length))) (al.iter (jJ m s) k x) (al.iter (jJ m (pre++s)) k' (Ae pre pt x)):=by
 refine RS.iter (λx y=>x.text=s/\y=Ae pre pt x) (λx y h next next' hn=>?_) _ _ ⟨hx,rfl⟩;obtain ⟨hx,rfl⟩:=h;unfold jJ;simp only[BY,Fe];refine RS.br (decide_eq_decide.2 (by simp;omega)) (λ_=>?_) (λ_=>RS.bind xu λr r' h=>RS.ok ⟨rfl,λ_=>by rw[h.1];rfl⟩);refine RS.el λb b' h0 _ hb hb'=>?_;rw[show (x.at_+(pre.length:Int)).toNat=pre.length+x.at_.toNat by omega,List.getElem?_append_right (by omega),Nat.add_sub_cancel_left] at hb';rw[hb] at hb';cases hb';have J:RS (λa b=>b.2.Errno=a.2.Errno/\(a.2.Errno=0->b.1=pt++a.1.map (wC pre.length))) (al.gd (dY (x.at_+1)) (next ⟨x.text,x.at_+1,x.out,x.line⟩)) (al.gd (dY (x.at_+pre.length+1)) (next' ⟨(Ae pre pt x).text,x.at_+pre.length+1,(Ae pre pt x).out,x.line⟩)):=
  RS.gd λ_ _=>hn _ _ ⟨hx,by simp[Ae];omega⟩
 refine RS.br rfl (λ_=>RS.br rfl (λ_=>RS.bind xu λr r' h=>?_) (λ_=>J)) (λ_=>RS.br rfl (λ_=>J) (λ_=>RS.br rfl (λ_=>J) (λ_=>RS.br rfl (λ_=>J) (λ_=>RS.bind Hh λr r' h=>?_))))
 ·rw[h.1];exact hn _ _ ⟨h.2.trans hx,rfl⟩
 rw[h.1];exact RS.br rfl (λ_=>RS.ok ⟨rfl,λq=>by simp at q⟩) (λ_=>hn _ _ ⟨h.2.2.trans hx,h.2.1⟩)
end
theorem LA.nl {r t:ByS}:LA r (r++10::t):=λj _=>by
 rcases Nat.lt_trichotomy j r.length with q|q|q
 ·left;rw[List.getElem?_append_left q]
 ·right;subst q;simp[Bk]
 rename_i hj;exfalso;have:=(hj r.length q).2;simp[Bk] at this
section
variable {m:Nat} {x:P}
def RJ {α β:Type} (V:α->al β->Prop) (x:al α) (y:al β):Prop:=∀ a,x=.ok a->y=.stuck\/V a y
section
variable {α β γ δ:Type} {V:α->al β->Prop}
theorem RJ.nil {y:al β}:RJ V .stuck y:=λ_ e=>by cases e
theorem RJ.o6 {x:al α}:RJ V x .stuck:=λ_ _=>.inl rfl
theorem RJ.ok {a:α} {y:al β} (h:V a y):RJ V (.ok a) y:=λ_ e=>by cases e;exact .inr h
theorem RJ.bind {W:γ->δ->Prop} {x:al γ} {y:al δ} {f:γ->al α} {g:δ->al β} (h:RS W x y) (hk:∀ a b,W a b->RJ V (f a) (g b)):RJ V (al.bind x f) (al.bind y g):=by
 intro a e;cases x with
 | stuck=>cases e
 | kA p=>cases e
 | ok c=>
  rcases h c rfl with q|⟨d,q,hd⟩
  ·subst q;exact .inl rfl
  ·subst q;exact hk c d hd a e
theorem RJ.br {b c:Bool} {x x':al α} {y y':al β} (h:c=b) (ht:b=true->RJ V x y) (hf:b=false->RJ V x' y'):RJ V (al.br b x x') (al.br c y y'):=by
 subst h;cases c with
 | true=>exact ht rfl
 | false=>exact hf rfl
theorem RJ.gd {p p':Prop} [Decidable p] [Decidable p'] {x:al α} {y:al β} (h:p->p'->RJ V x y):RJ V (al.gd p x) (al.gd p' y):=by
 unfold al.gd;split
 ·split
  ·exact h ‹_› ‹_›
  exact RJ.o6
 exact RJ.nil
theorem RJ.el {X Y:Type} {l:List X} {l':List Y} {j j':Int} {K:X->al α} {K':Y->al β} (h:∀ x y,0<=j->0<=j'->l[j.toNat]?=some x->l'[j'.toNat]?=some y->RJ V (K x) (K' y)):RJ V (al.el l j K) (al.el l' j' K'):=by
 unfold al.el;split
 ·split
  ·split
   ·split
    ·exact h _ _ ‹_› ‹_› ‹_› ‹_›
    exact RJ.o6
   exact RJ.o6
  exact RJ.nil
 exact RJ.nil
end
theorem Dw (h1:x.at_<x.text.length) (he:ext (dI x.text x.at_)=none):∀ y,cy m x=.ok y->y.1=false:=by
 have key:RS (λ(y:Bool×P) (_:Unit)=>y.1=false) (cy m x) (.ok ()):=by
  unfold cy;have G:∀ {p:Prop} [Decidable p] {z:al (Bool×P)},(p->RS (λ(y:Bool×P) (_:Unit)=>y.1=false) z (.ok ()))->RS (λ(y:Bool×P) (_:Unit)=>y.1=false) (al.gd p z) (.ok ()):=λ{p _ z} h=>by
   unfold al.gd;split
   ·exact h ‹_›
   exact RS.nil
  have B:∀ {γ:Type} {c:γ} {z:al γ} {f:γ->al (Bool×P)},Tk z c->RS (λ(y:Bool×P) (_:Unit)=>y.1=false) (f c) (.ok ())->RS (λ(y:Bool×P) (_:Unit)=>y.1=false) (al.bind z f) (.ok ()):=λ{γ c z f} h h'=>by
   rcases h with rfl|rfl
   ·exact RS.nil
   exact h'
  refine G λhg=>?_;have hul:(dI x.text x.at_).length=x.text.length - x.at_.toNat:=by simp[dI]
  generalize hU:dI x.text x.at_=u at he hul;rw[oC];unfold ext at he;split at he
  ·cases he
  rename_i hp;rw[eq_false_of_ne_true hp,rB];split at he
  ·cases he
  rename_i hw;refine B Ac ?_;rw[decide_eq_false (by omega)];cases u with
  | nil=>simp at hul;omega
  | cons c w=>
   simp only at he
   split at he
   ·cases he
   rename_i hD
   show RS _ (al.bind (iG (c.toNat:Int)) _) _
   rw[qG,rB,eq_false_of_ne_true hD]
   show RS _ (al.br ((c.toNat:Int)==34) _ _) _
   rw[yh 34 34 rfl]
   split at he
   ·rename_i h34;subst h34;cases e:gJ w with
    | some y=>rw[e] at he;cases he
    | none=>
     show RS _ (al.bind (dm m x) λy=>.ok (y.1,y.2)) _
     have hS:RS (λ(y:Bool×P) (_:Unit)=>y.1=false) (dm m x) (.ok ()):=by
      unfold dm;refine G λ_=>?_;rw[hU];refine B uk ?_;have e2:qH (34::w) false 1=(0,false):=by simp[qH,e]
      rw[e2];exact RS.ok rfl
     exact RS.bind (g:=λ_=>.ok ()) hS λa _ h=>RS.ok h
   ·rename_i h34;rw[beq_eq_false_iff_ne.2 h34];split at he
    ·rename_i ho;refine B sZ ?_;rw[ho];exact RS.ok rfl
    cases he
 intro y hy;rcases key y hy with q|⟨_,_,q⟩
 ·cases q
 exact q
theorem Hi {u:ByS}:xU u<=u.length:=by
 unfold xU;split
 ·rename_i h;have h2:=sH (p:=pD) (u:=u.drop (run pD 0 u+1)) (i:=0);unfold tx at h;simp only[Bool.and_eq_true,beq_iff_eq] at h;have:=(List.getElem?_eq_some_iff.1 h.1).1;simp at h2;omega
 exact sH
theorem Hj {u:ByS} {k n:Nat} (h:ext u=some (k,n)):0<n/\n<=u.length:=by
 unfold ext at h;split at h
 ·rename_i hp;simp at h;obtain ⟨_,rfl⟩:=h;refine ⟨?_,sH⟩;have:=(tm.1 hp) 0 (by decide);rcases Nat.eq_zero_or_pos (run pC 0 u) with q|q
  ·exfalso;have:=oT (p:=pC) (u:=u) (i:=0) (b:=47) (by rw[q];exact this);simp[pC] at this
  exact q
 split at h
 ·rename_i hw;simp at h;obtain ⟨_,rfl⟩:=h;have:=E2 (u:=u);have:=sH (p:=pW) (u:=u) (i:=0);omega
 split at h
 ·cases h
 rename_i c w _ _;split at h
 ·rename_i hD;simp at h;obtain ⟨_,rfl⟩:=h;refine ⟨?_,Hi⟩;have hr:0<run pD 0 (c::w):=by simp[run,pD,hD];omega
  unfold xU;split<;>omega
 split at h
 ·cases e:gJ w with
  | none=>rw[e] at h;cases h
  | some y=>
   rw[e] at h;simp at h
   have:=BT e
   simp;omega
 split at h
 ·cases h
 rename_i ho;simp at h;obtain ⟨_,rfl⟩:=h;refine ⟨List.length_pos_iff.2 ho,?_⟩;unfold DQ at ho ⊢;cases e:ops.find? λo=>o.isPrefixOf (c::w) with
 | none=>rw[e] at ho;exact absurd rfl ho
 | some o=>
  have:=List.find?_some (p:=λo:ByS=>o.isPrefixOf (c::w)) e
  rw[nY,beq_iff_eq] at this
  have:=congrArg List.length this
  simp at this ⊢;omega
structure SJ (s J:ByS) (x x':P):Prop where
 t:x.text=s
 e:x'=⟨J,x.at_,x.out,x.line⟩
 a:0<=x.at_
 an:x.at_<=s.length
 l:x.line=kx x.out
abbrev VJ (m:Nat) (s J:ByS) (a:List aB×dz) (R:al (List aB×dz)):Prop:=
 a.2.Errno=0->∃ U k,a.1=U++[aB.mk 0 [] s.length s.length]/\R=al.iter (jJ m J) k ⟨J,s.length,U,kx U⟩
theorem Fg {s t:ByS}:∀ (k k':Nat) {x x':P},SJ s (s++10::t) x x'->RJ (VJ m s (s++10::t)) (al.iter (jJ m s) k x) (al.iter (jJ m (s++10::t)) k' x')
 | 0,_,_,_,_=>RJ.nil
 | k+1,0,_,_,_=>RJ.o6
 | k+1,k'+1,x,x',h=>by
  have ih:=λ{x x':P} (h:SJ s (s++10::t) x x')=>Fg k k' h;obtain ⟨ht,rfl,h0,hn,hl⟩:=h;by_cases hlt:x.at_<s.length
  ·show RJ _ (jJ m s (al.iter (jJ m s) k) x) (jJ m (s++10::t) (al.iter (jJ m (s++10::t)) k') _);unfold jJ;dsimp only;rw[decide_eq_true hlt,decide_eq_true (by simp;omega)];refine RJ.br rfl (λ_=>RJ.el λb b' _ _ hb hb'=>?_) (λq=>by cases q);rw[List.getElem?_append_left (by omega),hb] at hb';cases hb';have J:RJ (VJ m s (s++10::t)) (al.gd (dY (x.at_+1)) (al.iter (jJ m s) k ⟨x.text,x.at_+1,x.out,x.line⟩)) (al.gd (dY (x.at_+1)) (al.iter (jJ m (s++10::t)) k' ⟨s++10::t,x.at_+1,x.out,x.line⟩)):=
    RJ.gd λ_ _=>ih ⟨ht,rfl,by dsimp only;omega,by dsimp only;omega,hl⟩
   have add2:∀ {k n:Int} {w:ByS},RS (λz z'=>z=⟨x.text,x.at_+n,x.out++[⟨k,w,x.at_,x.at_+n⟩],if k=6 then x.line else kE k w⟩/\z'=⟨s++10::t,x.at_+n,x.out++[⟨k,w,x.at_,x.at_+n⟩],if k=6 then x.line else kE k w⟩) (aZ k w n x) (aZ k w n ⟨s++10::t,x.at_,x.out,x.line⟩):=λ{k n w}=>by
    rcases s4 (x:=x) (k:=k) (n:=n) (t:=w) with q|q
    ·rw[q];exact RS.nil
    rcases s4 (x:=⟨s++10::t,x.at_,x.out,x.line⟩) (k:=k) (n:=n) (t:=w) with q2|q2
    ·rw[q2];exact RS.o6
    rw[q,q2];exact RS.ok ⟨rfl,rfl⟩
   refine RJ.br rfl (λ_=>RJ.br rfl (λ_=>RJ.bind add2 λz z' hz=>?_) (λ_=>J)) (λn10=>RJ.br rfl (λ_=>J) (λn32=>RJ.br rfl (λ_=>J) (λn9=>RJ.br rfl (λ_=>J) (λn13=>?_))))
   ·rw[hz.1,hz.2];exact ih ⟨ht,rfl,by dsimp only;omega,by dsimp only;omega,by rw[s3];rfl⟩
   have hu:s.drop x.at_.toNat=dI x.text x.at_:=by rw[ht];rfl
   cases he:ext (dI x.text x.at_) with
   | none=>
    intro a e
    refine .inr λh8=>?_
    exfalso
    cases hn:cy m x with
    | stuck=>rw[hn] at e;cases e
    | kA p=>rw[hn] at e;cases e
    | ok y=>
     have hy:=Dw (m:=m) (by rw[ht];exact hlt) he y hn
     rw[hn,rB,hy] at e
     cases e;simp at h8
   | some kn=>
    obtain ⟨kk,n⟩:=kn
    obtain ⟨e1,e2⟩:=Hj he
    generalize hU:dI x.text x.at_=u at hu he e2
    have hcl:(u.take n).length=n:=by simp;omega
    have hcr:u=u.take n++u.drop n:=(List.take_append_drop n u).symm
    have h2:dI (s++10::t) x.at_=u.take n++(u.drop n++10::t):=by
     rw[<- List.append_assoc,<- hcr,<- hu];simp only[dI];rw[List.drop_append_of_le_length (by omega)]
    generalize u.take n=c at hcl hcr h2
    generalize u.drop n=r at hcr h2
    subst hcr
    rw[<- hcl] at he e1
    have hk:kk=6->∃ y,r++10::t=10::y:=λq=>by
     subst q;cases r with
     | nil=>exact ⟨t,rfl⟩
     | cons b y=>
      have hb:b=10:=by
       have:=oT (p:=pC) (u:=c++b::y) (i:=0) (b:=b) (by rw[<- GV he,vQ];rfl);simpa[pC] using this
      subst hb;exact ⟨_,rfl⟩
    refine RJ.bind (Hg (x':=⟨s++10::t,x.at_,x.out,x.line⟩) rfl hU h2 e1 he LA.nl hk) λy y' hy=>?_
    rw[hy.1]
    refine RJ.br rfl (λ_=>RJ.ok λq=>by simp at q) (λq=>?_)
    have hz:=hy.2 (by simpa using q)
    obtain ⟨k2,t2,z1,z2,z3⟩:=hz.ho
    have hsl:=congrArg List.length hu
    simp at hsl
    refine ih ⟨hz.hx.trans ht,?_,by have:=hz.ha;omega,by have:=hz.ha;omega,?_⟩
    ·have f1:=hz.tw;have f2:=hz.Lu;have f3:=hz.hl;obtain ⟨_,y2⟩:=y';obtain ⟨w1,w2,w3,w4⟩:=y2;dsimp only at f1 f2 f3 z2 ⊢;rw[f1,f2,f3,z2,z1,hz.ha]
    ·rw[z3,z1,s3,hl]
  have e:x.at_=s.length:=by omega
  intro a ha;refine .inr λh8=>?_;have hs:al.iter (jJ m s) (k+1) x=al.bind (aZ 0 [] 0 x) λy=>.ok (y.out,dz.mk 0 0):=by
   show jJ m s (al.iter (jJ m s) k) x=_;unfold jJ;rw[decide_eq_false (by omega)];rfl
  rw[hs] at ha;rcases s4 (x:=x) (k:=0) (n:=0) (t:=[]) with q|q
  ·rw[q] at ha;cases ha
  rw[q] at ha;cases ha;refine ⟨x.out,k'+1,by dsimp only;rw[e];simp,?_⟩;rw[e,hl]
theorem Hk {n:Nat} {s t:ByS} {U:List aB}:∀ (l:Bool) (k:Nat),al.iter (jJ n (s++10::t)) k ⟨s++10::t,s.length,U,l⟩=.stuck\/
  ∃ k2,al.iter (jJ n (s++10::t)) k ⟨s++10::t,s.length,U,l⟩=al.iter (jJ n (s++10::t)) k2 ⟨s++10::t,(s.length:Int)+1,U++(if l=true then [aB.mk 7 [10] s.length (s.length+1)] else []),false⟩
 | _,0=>.inl rfl
 | l,k+1=>by
  have e:(s++10::t)[((s.length:Int)).toNat]?=some 10:=by simp
  have e0:al.iter (jJ n (s++10::t)) (k+1) ⟨s++10::t,s.length,U,l⟩=jJ n (s++10::t) (al.iter (jJ n (s++10::t)) k) ⟨s++10::t,s.length,U,l⟩:=rfl
  rw[e0]
  generalize al.iter (jJ n (s++10::t))=nx
  unfold jJ
  dsimp only
  rw[decide_eq_true (by simp;omega)]
  simp only[al.br,al.el]
  rw[if_pos (by omega),e]
  simp only[al.jn]
  cases l with
  | false=>
   show al.gd _ _=_\/∃ k2,al.gd _ _=_
   unfold al.gd
   split
   ·exact .inr ⟨k,by simp⟩
   ·exact .inl rfl
  | true=>
   rcases s4 (x:=⟨s++10::t,s.length,U,true⟩) (k:=7) (n:=1) (t:=[10]) with q|q
   ·left
    show al.bind (aZ 7 [10] 1 ⟨s++10::t,s.length,U,true⟩) _=_
    rw[q];rfl
   ·right
    refine ⟨k,?_⟩
    show al.bind (aZ 7 [10] 1 ⟨s++10::t,s.length,U,true⟩) _=_
    rw[q];rfl
theorem Dx {n:Nat} {s t:ByS} (hs:s.length<=400) (ht:t.length<=400) {T T2:List aB} {F F2:dz} (h1:gj n s=.ok (T,F)) (hF:F.Errno=0) (h2:gj n t=.ok (T2,F2)) (hF2:F2.Errno=0) :
  gj n (s++10::t)=.stuck\/∃ U F',T=U++[aB.mk 0 [] s.length s.length]/\gj n (s++10::t)=.ok (U++(if kx U=true then [aB.mk 7 [10] s.length (s.length+1)] else [])++T2.map (wC (s.length+1)),F')/\F'.Errno=0:=by
 rw[Ad,decide_eq_false (by omega)] at h1 h2
 have hl:¬ ((s++10::t).length:Int)>65536:=by rw[List.length_append,List.length_cons];omega
 rw[Ad,decide_eq_false hl]
 simp only[al.br] at h1 h2 ⊢
 have hJ:SJ s (s++10::t) ⟨s,0,[],false⟩ ⟨s++10::t,0,[],false⟩:=⟨rfl,rfl,Int.le_refl 0,by simp,rfl⟩
 have hq:=Fg (m:=n) n n hJ _ h1
 generalize al.iter (jJ n (s++10::t)) n ⟨s++10::t,0,[],false⟩=R at hq ⊢
 rcases hq with q|q
 ·exact .inl q
 obtain ⟨U,k,e1,e2⟩:=q hF
 rw[e2]
 rcases Hk (n:=n) (U:=U) (kx U) k with q|⟨k2,q⟩
 ·exact .inl q
 rw[q]
 generalize hpt:U++(if kx U=true then [aB.mk 7 [10] s.length (s.length+1)] else [])=pt
 have hsh:=Ff (pre:=s++[10]) (pt:=pt) (m:=n) (x:=⟨t,0,[],false⟩) (s:=t) n k2 rfl _ h2
 have e3:Ae (s++[10]) pt ⟨t,0,[],false⟩=⟨s++10::t,(s.length:Int)+1,pt,false⟩:=by simp[Ae]
 have e4:s++[10]++t=s++10::t:=by simp
 rw[e3,e4] at hsh
 rcases hsh with w|⟨⟨b1,b2⟩,w,g1,g2⟩
 ·exact .inl w
 ·refine .inr ⟨U,b2,e1,?_,by rw[g1];exact hF2⟩
  rw[hpt,w]
  have:=g2 hF2
  dsimp only at this
  rw[this];simp
end
end Go.Abs
end
section
namespace Go.Abs
open al
structure PC (s:ByS) (T:List aB) (b:Int):Prop where
 bd:Fa s T
 b0:0<=b
 bs:b+s.length<=65536
def PP (c:Int):rW->Prop:=λp=>∃ v:Int,p=⟨86,[.sc (.int .i64 v)]⟩/\0<=v/\v<=c
abbrev cI:=L.mk
section
variable {s:ByS} {T:List aB} {b:Int}
theorem PC.len (h:PC s T b):(T.length:Int)<=s.length+1:=by
 obtain ⟨l,rfl,h1⟩:=h.bd.is;have:=h1.len;simp;omega
theorem PC.pos (h:PC s T b):1<=T.length:=by
 obtain ⟨l,rfl,h1⟩:=h.bd.is;simp
theorem PC.l9 (h:PC s T b):(T.length:Int)<=65537:=by
 have:=h.len;have:=h.bs;have:=h.b0;omega
theorem PC.tok (h:PC s T b) {i:Nat} {t:aB} (ht:T[i]?=some t):0<=t.Pos/\t.Pos<=t.End/\t.End<=s.length/\t.Text.length<=65536/\(t.Kind=4->(t.Text.length:Int)+2<=t.End - t.Pos)/\(t.Kind≠0->i+1<T.length/\t.Pos<t.End):=by
 obtain ⟨l,rfl,h1⟩:=h.bd.is;rcases Nat.lt_or_ge i l.length with q|q
 ·rw[List.getElem?_append_left q] at ht;have:=h1.ok t (List.mem_of_getElem? ht);exact ⟨this.p0,by have:=this.pe;omega,this.e,this.tl,this.ip,λ_=>⟨by simp;omega,this.pe⟩⟩
 rw[List.getElem?_append_right q] at ht;have hi:i - l.length=0:=by
  have:=(List.getElem?_eq_some_iff.1 ht).1;simp at this;omega
 rw[hi] at ht;simp at ht;subst ht;exact ⟨by simp,by simp,by simp,by simp,λq=>by simp at q,λq=>absurd rfl q⟩
theorem PC.next (h:PC s T b) {a:Int} (h0:0<=a) {t:aB} (ht:T[a.toNat]?=some t) (hk:t.Kind≠0):a+1<T.length:=by
 have:=((h.tok ht).2.2.2.2.2 hk).1;omega
theorem PC.sorted (h:PC s T b) {i j:Nat} (hij:i<j) {t u:aB} (ht:T[i]?=some t) (hu:T[j]?=some u):t.End<=u.Pos:=by
 obtain ⟨l,rfl,h1⟩:=h.bd.is;have hj:=(List.getElem?_eq_some_iff.1 hu).1;simp at hj;have hi:i<l.length:=by omega
 rw[List.getElem?_append_left hi] at ht;rcases Nat.lt_or_ge j l.length with q|q
 ·rw[List.getElem?_append_left q] at hu;obtain ⟨hi',e1⟩:=List.getElem?_eq_some_iff.1 ht;obtain ⟨hj',e2⟩:=List.getElem?_eq_some_iff.1 hu;rw[<- e1,<- e2];exact List.pairwise_iff_getElem.1 h1.sorted i j hi' hj' hij
 rw[List.getElem?_append_right q] at hu;have hi:j - l.length=0:=by omega
 rw[hi] at hu;simp at hu;subst hu;exact (h1.ok t (List.mem_of_getElem? ht)).e
end
section
variable {s:ByS} {T:List aB} {b:Int} {α:Type} {Q:α->Prop} {R:rW->Prop} {m:Nat->Nat} {a:Int} {k:Bool} {q:Option ak}
theorem jZ {t:aB} {x:ByS} {K:Nat->Bool->al α} (hk:∀ r,(r=true->t.Kind=5/\t.Text=x)->(r=false->¬ (t.Kind=5/\t.Text=x))->Ev (λi=>K i r) Q R):Ev (λi=>al.bind (bJ t x) (K i)) Q R:=by
 refine Ev.bind (Q:=λr=>(r=true->t.Kind=5/\t.Text=x)/\(r=false->¬ (t.Kind=5/\t.Text=x))) (R':=jm) ?_ (λ_ q=>q.elim) λr hr=>hk r hr.1 hr.2;unfold bJ;refine Ev.bH (λh=>Ev.ok ⟨λq=>⟨h,by simpa using q⟩,λq=>by simp at q;exact λw=>q w.2⟩) (λh=>Ev.ok ⟨λq=>by simp at q,λ_ w=>h w.1⟩)
theorem oD {t:aB} {x:ByS} {K:Nat->Bool->al α} (hk:∀ r,(r=true->t.Kind=1/\t.Text=x)->(r=false->¬ (t.Kind=1/\t.Text=x))->Ev (λi=>K i r) Q R):Ev (λi=>al.bind (bI t x) (K i)) Q R:=by
 refine Ev.bind (Q:=λr=>(r=true->t.Kind=1/\t.Text=x)/\(r=false->¬ (t.Kind=1/\t.Text=x))) (R':=jm) ?_ (λ_ q=>q.elim) λr hr=>hk r hr.1 hr.2;unfold bI;refine Ev.bH (λh=>Ev.ok ⟨λq=>⟨h,by simpa using q⟩,λq=>by simp at q;exact λw=>q w.2⟩) (λh=>Ev.ok ⟨λq=>by simp at q,λ_ w=>h w.1⟩)
theorem uF (hm:di m) {t:aB} {x:ByS} (hx:x.length<=60000) {K:Nat->Bool->al α} (hk:∀ r,(r=true->t.Kind=5)->Ev (λi=>K i r) Q R):Ev (λi=>al.bind (eL (m i) t x) (K i)) Q R:=by
 refine Ev.bind (Q:=λr=>r=true->t.Kind=5) (R':=jm) ?_ (λ_ q=>q.elim) λr hr=>hk r hr;unfold eL;refine Ev.bH (λh=>?_) (λ_=>Ev.ok (by simp));refine Ev.aQ (xn (by simp) (by omega)) λy hy=>Ev.aQ (jk hm (by omega)) λz _=>Ev.ok λ_=>h
theorem xv (hm:di m) {t:aB} {K:Nat->Bool->al α} (hk:∀ r,(r=true->t.Kind=3\/t.Kind=1)->Ev (λi=>K i r) Q R):Ev (λi=>al.bind (fi (m i) t) (K i)) Q R:=by
 refine Ev.bind (Q:=λr=>r=true->t.Kind=3\/t.Kind=1) (R':=jm) ?_ (λ_ q=>q.elim) λr hr=>hk r hr;unfold fi;refine Ev.bH (λh=>Ev.ok λ_=>.inl h) (λ_=>Ev.bH (λh=>?_) (λ_=>Ev.ok (by simp)));exact Ev.aQ (gK hm) λz _=>Ev.ok λ_=>.inr h
theorem yi (hm:di m) (hC:PC s T b) (h0:0<=a) (h1:a<T.length) :
  Ev (λi=>ar (m i) (cI s T a b k q)) (λr=>∃ a' t,r=(t,cI s T a' b k q)/\a<=a'/\a'<T.length/\T[a'.toNat]?=some t/\(k=true->t.Kind≠7)/\∀ u,T[a.toNat]?=some u->(k=true->u.Kind≠7)->a'=a) jm:=by
 unfold ar
 have hl:=hC.l9
 refine Ev.jn (λv=>∃ a',v=cI s T a' b k q/\a<=a'/\a'<T.length/\(k=true->∀ t,T[a'.toNat]?=some t->t.Kind≠7)/\∀ u,T[a.toNat]?=some u->(k=true->u.Kind≠7)->a'=a) (λv hv=>?_) (λj hj=>?_)
 ·obtain ⟨a',rfl,h2,h3,h4,h5⟩:=hv
  exact Ev.el (by dsimp only;omega) (by dsimp only;omega) λt ht=>Ev.ok ⟨a',t,rfl,h2,h3,ht,λhk=>h4 hk t ht,h5⟩
 ·refine Ev.iter hm (λ(x:L)=>∃ a',x=cI s T a' b k q/\a<=a'/\a'<T.length/\∀ u,T[a.toNat]?=some u->(k=true->u.Kind≠7)->a'=a) (λx=>(T.length - x.at_).toNat) ⟨a,rfl,by omega,h1,λ_ _ _=>rfl⟩ ?_
  rintro x ⟨a',rfl,h2,h3,h5⟩ next hn
  dsimp only
  refine Ev.br (λhk0=>?_) (λhk=>hj _ ⟨a',rfl,h2,h3,(λh=>by rw[hk] at h;cases h),h5⟩)
  refine Ev.eA λt ht=>?_
  refine Ev.bH (λh7=>?_) (λh7=>hj _ ⟨a',rfl,h2,h3,λ_ u hu=>by rw[ht] at hu;cases hu;exact h7,h5⟩)
  have:=hC.next (by omega) ht (by omega)
  refine Ev.gA (hn _ ⟨a'+1,rfl,by omega,by omega,λu hu hk=>?_⟩ (by dsimp only;omega))
  have:=h5 u hu hk
  subst this
  rw[ht] at hu;cases hu
  exact absurd h7 (hk ‹k=true›)
theorem fI (hm:di m) (hC:PC s T b) (h0:0<=a) (h1:a<T.length) {K:Nat->aB×L->al α}
  (hk:∀ a' t,a<=a'->a'<T.length->T[a'.toNat]?=some t->(k=true->t.Kind≠7)->(∀ u,T[a.toNat]?=some u->(k=true->u.Kind≠7)->a'=a)->Ev (λi=>K i (t,cI s T a' b k q)) Q R) :
  Ev (λi=>al.bind (ar (m i) (cI s T a b k q)) (K i)) Q R:=by
 refine Ev.fX (yi hm hC h0 h1) λr hr=>?_
 obtain ⟨a',t,rfl,h⟩:=hr
 exact hk a' t h.1 h.2.1 h.2.2.1 h.2.2.2.1 h.2.2.2.2
theorem lD (hm:di m) (hC:PC s T b) (h0:0<=a) (h1:a<T.length) {K:Nat->Int×L->al α}
  (hk:∀ a' t v,a<=a'->a'<T.length->T[a'.toNat]?=some t->(∀ u,T[a.toNat]?=some u->(k=true->u.Kind≠7)->a'=a)->v=b+t.Pos->0<=v->v<=b+s.length->Ev (λi=>K i (v,cI s T a' b k q)) Q R) :
  Ev (λi=>al.bind (be (m i) (cI s T a b k q)) (K i)) Q R:=by
 refine Ev.bind (Q:=λr=>∃ a' t v,r=(v,cI s T a' b k q)/\a<=a'/\a'<T.length/\T[a'.toNat]?=some t/\(∀ u,T[a.toNat]?=some u->(k=true->u.Kind≠7)->a'=a)/\v=b+t.Pos/\0<=v/\v<=b+s.length) (R':=jm) ?_ (λ_ q=>q.elim) λr hr=>?_
 ·unfold be
  refine fI hm hC h0 h1 λa' t h2 h3 h4 h5 h6=>?_
  have:=hC.tok h4
  have:=hC.b0
  have:=hC.bs
  exact Ev.gA (Ev.ok ⟨a',t,_,rfl,h2,h3,h4,h6,rfl,by dsimp only;omega,by dsimp only;omega⟩)
 ·obtain ⟨a',t,v,rfl,h2,h3,h4,h5,h6,h7,h8⟩:=hr
  exact hk a' t v h2 h3 h4 h5 h6 h7 h8
theorem wD {v:Int} {p:L} {c:Int} (h0:0<=v) (h1:v<=c) {K:Nat->L->al α}:Ev (λi=>al.bind (eR v p) (K i)) Q (PP c):=by
 unfold eR;exact Ev.kA ⟨v,rfl,h0,h1⟩
theorem iI (hm:di m) (hC:PC s T b) (h0:0<=a) (h1:a<T.length) {c:Int} (hc:b+s.length<=c) {K:Nat->L->al α}:Ev (λi=>al.bind (aV (m i) (cI s T a b k q)) (K i)) Q (PP c):=by
 refine Ev.aQ (Q:=λ_=>False) ?_ λr hr=>hr.elim;unfold aV;refine lD hm hC h0 h1 λa' t v _ _ _ _ _ h2 h3=>?_;exact wD h2 (by omega)
theorem lx (hm:di m) (hC:PC s T b) (h0:0<=a) (h1:a<T.length) {x:ByS} {K:Nat->Bool×L->al α}
  (ht:∀ a' t,a<a'->a'<T.length->T[(a' - 1).toNat]?=some t->t.Kind=5->t.Text=x->(∀ u,T[a.toNat]?=some u->(k=true->u.Kind≠7)->a'=a+1)->Ev (λi=>K i (true,cI s T a' b k q)) Q R)
  (hf:∀ a' t,a<=a'->a'<T.length->T[a'.toNat]?=some t->(k=true->t.Kind≠7)->¬ (t.Kind=5/\t.Text=x)->(∀ u,T[a.toNat]?=some u->(k=true->u.Kind≠7)->a'=a)->Ev (λi=>K i (false,cI s T a' b k q)) Q R) :
  Ev (λi=>al.bind (bK (m i) x (cI s T a b k q)) (K i)) Q R:=by
 refine Ev.bind (Q:=λr=>(∃ a' t,r=(true,cI s T a' b k q)/\a<a'/\a'<T.length/\T[(a' - 1).toNat]?=some t/\t.Kind=5/\t.Text=x/\(∀ u,T[a.toNat]?=some u->(k=true->u.Kind≠7)->a'=a+1))\/
  (∃ a' t,r=(false,cI s T a' b k q)/\a<=a'/\a'<T.length/\T[a'.toNat]?=some t/\(k=true->t.Kind≠7)/\¬ (t.Kind=5/\t.Text=x)/\(∀ u,T[a.toNat]?=some u->(k=true->u.Kind≠7)->a'=a))) (R':=jm) ?_ (λ_ q=>q.elim) λr hr=>?_
 ·unfold bK
  have:=hC.l9
  refine fI hm hC h0 h1 λa' t h2 h3 h4 h5 h6=>?_
  dsimp only
  refine jZ λr hr1 hr2=>?_
  refine Ev.bz (λh=>Ev.ok (.inr ⟨a',t,rfl,h2,h3,h4,h5,hr2 h,h6⟩)) (λh=>?_)
  obtain ⟨q1,q2⟩:=hr1 h
  have:=hC.next (by omega) h4 (by omega)
  exact Ev.gA (Ev.ok (.inl ⟨a'+1,t,rfl,by omega,by omega,by simpa using h4,q1,q2,λu hu hk=>by rw[h6 u hu hk]⟩))
 ·rcases hr with ⟨a',t,rfl,h2,h3,h4,h5,h6,h7⟩|⟨a',t,rfl,h2,h3,h4,h5,h6,h7⟩
  ·exact ht a' t h2 h3 h4 h5 h6 h7
  ·exact hf a' t h2 h3 h4 h5 h6 h7
theorem ka (hm:di m) (hC:PC s T b) (h0:0<=a) (h1:a<T.length) {c:Int} (hc:b+s.length<=c) {x:ByS} {K:Nat->L->al α}
  (ht:∀ a' t,a<a'->a'<T.length->T[(a' - 1).toNat]?=some t->t.Kind=5->t.Text=x->(∀ u,T[a.toNat]?=some u->(k=true->u.Kind≠7)->a'=a+1)->Ev (λi=>K i (cI s T a' b k q)) Q (PP c)) :
  Ev (λi=>al.bind (bS (m i) x (cI s T a b k q)) (K i)) Q (PP c):=by
 refine Ev.aQ (Q:=λr=>(∃ a' t,r=(cI s T a' b k q)/\a<a'/\a'<T.length/\T[(a' - 1).toNat]?=some t/\t.Kind=5/\t.Text=x/\(∀ u,T[a.toNat]?=some u->(k=true->u.Kind≠7)->a'=a+1))) ?_ λr hr=>?_
 ·unfold bS
  refine lx hm hC h0 h1 (λa' t h2 h3 h4 h5 h6 h7=>Ev.ok ⟨a',t,rfl,h2,h3,h4,h5,h6,h7⟩) (λa' t h2 h3 h4 h5 h6 h7=>?_)
  exact iI hm hC (by omega) (by omega) hc
 ·obtain ⟨a',t,rfl,h2,h3,h4,h5,h6,h7⟩:=hr
  exact ht a' t h2 h3 h4 h5 h6 h7
theorem nH (hm:di m) (hC:PC s T b) (h0:0<=a) (h1:a<T.length) {c:Int} (hc:b+s.length<=c) {x:ByS} {K:Nat->L->al α}
  (ht:∀ a' t,a<=a'->a'+1<T.length->T[a'.toNat]?=some t->t.Kind=5->t.Text=x->Ev (λi=>K i (cI s T a' b k q)) Q (PP c)) :
  Ev (λi=>al.bind (cg (m i) x (cI s T a b k q)) (K i)) Q (PP c):=by
 refine Ev.aQ (Q:=λr=>(∃ a' t,r=(cI s T a' b k q)/\a<=a'/\a'+1<T.length/\T[a'.toNat]?=some t/\t.Kind=5/\t.Text=x)) ?_ λr hr=>?_
 ·unfold cg
  refine fI hm hC h0 h1 λa' t h2 h3 h4 h5 h6=>?_
  dsimp only
  refine jZ λr hr1 hr2=>?_
  refine Ev.bz (λh=>iI hm hC (by omega) (by omega) hc) (λh=>?_)
  obtain ⟨q1,q2⟩:=hr1 h
  exact Ev.ok ⟨a',t,rfl,h2,hC.next (by omega) h4 (by omega),h4,q1,q2⟩
 ·obtain ⟨a',t,rfl,h⟩:=hr
  exact ht a' t h.1 h.2.1 h.2.2.1 h.2.2.2.1 h.2.2.2.2
theorem rC (hm:di m) (hC:PC s T b) (h0:0<=a) (h1:a<T.length) {c:Int} (hc:b+s.length<=c) {x:ByS} {K:Nat->L->al α}
  (ht:∀ a',a<a'->a'<T.length->Ev (λi=>K i (cI s T a' b k q)) Q (PP c)):Ev (λi=>al.bind (dc (m i) x (cI s T a b k q)) (K i)) Q (PP c):=by
 refine Ev.aQ (Q:=λr=>(∃ a',r=(cI s T a' b k q)/\a<a'/\a'<T.length)) ?_ λr hr=>?_
 ·unfold dc
  have:=hC.l9
  refine fI hm hC h0 h1 λa' t h2 h3 h4 h5 h6=>?_
  dsimp only
  refine oD λr hr1 hr2=>?_
  refine Ev.bz (λh=>iI hm hC (by omega) (by omega) hc) (λh=>?_)
  obtain ⟨q1,q2⟩:=hr1 h
  have:=hC.next (by omega) h4 (by omega)
  exact Ev.gA (Ev.ok ⟨a'+1,rfl,by omega,by omega⟩)
 ·obtain ⟨a',rfl,h⟩:=hr
  exact ht a' h.1 h.2
theorem tq (hm:di m) (hC:PC s T b) (h0:0<=a) (h1:a<T.length) {c:Int} (hc:b+s.length<=c) {K:Nat->ByS×L->al α}
  (ht:∀ a' x,a<a'->a'<T.length->Ev (λi=>K i (x,cI s T a' b k q)) Q (PP c)):Ev (λi=>al.bind (cx (m i) (cI s T a b k q)) (K i)) Q (PP c):=by
 refine Ev.aQ (Q:=λr=>(∃ a' x,r=(x,cI s T a' b k q)/\a<a'/\a'<T.length)) ?_ λr hr=>?_
 ·unfold cx
  have:=hC.l9
  refine fI hm hC h0 h1 λa' t h2 h3 h4 h5 h6=>?_
  dsimp only
  refine Ev.jn (λv=>v=cI s T a' b k q/\t.Kind=1) (λv hv=>?_) (λj hj=>?_)
  ·obtain ⟨rfl,h7⟩:=hv
   have:=hC.next (by omega) h4 (by omega)
   exact Ev.gA (Ev.ok ⟨a'+1,_,rfl,by omega,by omega⟩)
  ·refine Ev.bU (λ_=>iI hm hC (by omega) (by omega) hc) (λh1=>?_)
   refine Ev.fX (gK hm) λz _=>?_
   exact Ev.bz (λ_=>iI hm hC (by omega) (by omega) hc) (λ_=>hj _ ⟨rfl,h1⟩)
 ·obtain ⟨a',x,rfl,h⟩:=hr
  exact ht a' x h.1 h.2
theorem Bu (hm:di m) (hC:PC s T b) (h0:0<=a) (h1:a<T.length) {c:Int} (hc:b+s.length<=c) {K:Nat->iq×L->al α}
  (ht:∀ a' x,a<a'->a'<T.length->Ev (λi=>K i (x,cI s T a' b k q)) Q (PP c)):Ev (λi=>al.bind (fL (m i) (cI s T a b k q)) (K i)) Q (PP c):=by
 refine Ev.aQ (Q:=λr=>(∃ a' x,r=(x,cI s T a' b k q)/\a<a'/\a'<T.length)) ?_ λr hr=>?_
 ·unfold fL
  refine tq hm hC h0 h1 hc λa1 x1 h2 h3=>ka hm hC (by omega) (by omega) hc λa2 t h4 h5 _ _ _ _=>lD hm hC (by omega) (by omega) λa3 t3 v h6 h7 _ _ _ h8 h9=>tq hm hC (by omega) (by omega) hc λa4 x4 h10 h11=>?_
  exact Ev.bH (λ_=>wD h8 (by omega)) (λ_=>Ev.ok ⟨a4,_,rfl,by omega,by omega⟩)
 ·obtain ⟨a',x,rfl,h⟩:=hr
  exact ht a' x h.1 h.2
theorem mW {n:Int} (hC:PC s T b) (h0:0<=a) (h1:a<T.length) (hn:0<=n) (hn2:n<=70000) {K:Nat->aB×L->al α}
  (hk:∀ t,(t.Kind≠0->T[(a+n).toNat]?=some t/\a+n+1<T.length)->Ev (λi=>K i (t,cI s T a b k q)) Q R):Ev (λi=>al.bind (cw n (cI s T a b k q)) (K i)) Q R:=by
 refine Ev.bind (Q:=λr=>∃ t,r=(t,cI s T a b k q)/\(t.Kind≠0->T[(a+n).toNat]?=some t/\a+n+1<T.length)) (R':=jm) ?_ (λ_ q=>q.elim) λr hr=>?_
 ·unfold cw
  have:=hC.l9
  dsimp only
  refine Ev.gA (Ev.gA (Ev.el (by split<;>omega) (by split<;>omega) λt ht=>Ev.ok ⟨t,rfl,λhk=>?_⟩))
  have h2:=((hC.tok ht).2.2.2.2.2 hk).1
  have:¬ ((T.length:Int) - 1<a+n):=λh=>by rw[if_pos h] at h2;omega
  rw[if_neg this] at ht h2
  exact ⟨ht,by omega⟩
 ·obtain ⟨t,rfl,h⟩:=hr
  exact hk t h
theorem rV (hm:di m) (hC:PC s T b) (h0:0<=a) (h1:a<T.length):Ev (λi=>bP (m i) (cI s T a b k q)) (λr=>r.2=cI s T a b k q) jm:=by
 have hl:=hC.l9;unfold bP;dsimp only;refine Ev.gA ?_;refine Ev.iter hm (λ(x:Int)=>-1<=x/\x<a) (λx=>(x+1).toNat) (by omega) ?_;intro x hx next hn;refine Ev.aW (λh=>?_) (λ_=>Ev.ok rfl);refine Ev.eA λt ht=>?_;refine Ev.bU (λ_=>?_) (λ_=>Ev.gA (hn _ (by omega) (by omega)));refine Ev.JV (by omega) ht (Ev.eA λu hu=>?_);have h2:=hC.sorted (by omega) ht hu;have h3:=hC.tok ht;have h4:=hC.tok hu;have:=hC.bs;have:=hC.b0;refine Ev.gA ?_;have:=tp (c:=s) (i:=t.End) (j:=u.Pos) (by omega) (by omega) (by omega);exact Ev.aQ (pH (by omega)) λ_ _=>Ev.ok rfl
theorem vy (hm:di m) (hC:PC s T b) (h0:0<=a) (h1:a<T.length) {e:Int} (he:1<=e) (he2:e<=a):Ev (λi=>du (m i) e (cI s T a b k q)) (λr=>r.2=cI s T a b k q) jm:=by
 have hl:=hC.l9;unfold du;dsimp only;refine Ev.iter hm (λ(x:Int)=>e<=x/\x<=a) (λx=>(a - x).toNat) (by omega) ?_;intro x hx next hn;refine Ev.aW (λh=>?_) (λ_=>?_)
 ·refine Ev.eA λt ht=>jZ λr _ _=>Ev.bz (λ_=>Ev.ok rfl) (λ_=>?_);exact Ev.gA (hn _ (by omega) (by omega))
 refine Ev.gA (Ev.eA λt ht=>Ev.eA λu hu=>?_);have h2:=hC.sorted (by omega) ht hu;have h3:=hC.tok ht;have h4:=hC.tok hu;have:=hC.bs;have:=hC.b0;refine Ev.gA ?_;have:=tp (c:=s) (i:=t.End) (j:=u.Pos) (by omega) (by omega) (by omega);exact Ev.aQ (pH (by omega)) λ_ _=>Ev.ok rfl
theorem Hl (hm:di m) (hC:PC s T b) (h0:0<=a) (h1:a<T.length) {K:Nat->Bool×L->al α}
  (hk:∀ a' t r,a<=a'->a'<T.length->T[a'.toNat]?=some t->(r=false->t.Kind≠0)->(k=true->t.Kind≠7)->Ev (λi=>K i (r,cI s T a' b k q)) Q R):Ev (λi=>al.bind (cK (m i) (cI s T a b k q)) (K i)) Q R:=by
 refine Ev.bind (Q:=λr=>∃ a' t x,r=(x,cI s T a' b k q)/\a<=a'/\a'<T.length/\T[a'.toNat]?=some t/\(x=false->t.Kind≠0)/\(k=true->t.Kind≠7)) (R':=jm) ?_ (λ_ q=>q.elim) λr hr=>?_
 ·unfold cK
  refine fI hm hC h0 h1 λa1 t1 h2 h3 h4 h5 _=>?_
  dsimp only
  refine Ev.bH (λ_=>Ev.ok ⟨a1,t1,_,rfl,h2,h3,h4,by simp,h5⟩) (λhne=>?_)
  refine fI hm hC (by omega) h3 λa2 t2 h6 h7 h8 h9 h10=>jZ λr _ _=>Ev.ok ⟨a2,t2,r,rfl,by omega,by omega,h8,λ_=>?_,h9⟩
  have:=h10 t1 h4 h5
  subst this
  rw[h4] at h8;cases h8;exact hne
 ·obtain ⟨a',t,x,rfl,h⟩:=hr
  exact hk a' t x h.1 h.2.1 h.2.2.1 h.2.2.2.1 h.2.2.2.2
end
end Go.Abs
end
section
namespace Go.Abs
open al
mutual
inductive kL:ak->Prop where
 | mk {k:Int} {t:ByS} {n:Int} {a b:ByS} {subs:List ak} {decls:List aA} {tail:List ByS} {pos:Int} (h1:subs.length<=70000) (h2:decls.length<=70000) (h3:tail.length<=70000)
  (h4:∀ x,x∈tail->x.length<=65536) (h5:k=16->2<=subs.length) (hs:∀ x,x∈subs->kL x) (hd:∀ x,x∈decls->lZ x):kL (ak.mk k t n a b subs decls tail pos)
inductive lZ:aA->Prop where
 | mk {k p:Int} {lb a b:ByS} {subs:List ak} {body:List aA} {tail lead:List ByS} {trail:ByS} {pos:Int} (h1:subs.length<=70000) (h2:body.length<=70000) (h3:tail.length<=70000)
  (h4:∀ x,x∈tail->x.length<=65536) (h5:lead.length<=70000) (h6:∀ x,x∈lead->x.length<=65536) (h7:trail.length<=65536) (h8:k=1\/k=2\/k=3->1<=subs.length)
  (hs:∀ x,x∈subs->kL x) (hd:∀ x,x∈body->lZ x):lZ (aA.mk k p lb a b subs body tail lead trail pos)
end
theorem kL.l1 {e:ak} (h:kL e):e.bc.length<=70000:=by cases h;assumption
theorem kL.l2 {e:ak} (h:kL e):e.Decls.length<=70000:=by cases h;assumption
theorem kL.l3 {e:ak} (h:kL e):e.bT.length<=70000:=by cases h;assumption
theorem kL.l4 {e:ak} (h:kL e):∀ x,x∈e.bT->x.length<=65536:=by cases h;assumption
theorem kL.kd {e:ak} (h:kL e):e.Kind=16->2<=e.bc.length:=by cases h;assumption
theorem kL.s {e:ak} (h:kL e):∀ x,x∈e.bc->kL x:=by cases h;assumption
theorem kL.d {e:ak} (h:kL e):∀ x,x∈e.Decls->lZ x:=by cases h;assumption
theorem lZ.l1 {e:aA} (h:lZ e):e.bc.length<=70000:=by cases h;assumption
theorem lZ.l2 {e:aA} (h:lZ e):e.Body.length<=70000:=by cases h;assumption
theorem lZ.l3 {e:aA} (h:lZ e):e.bT.length<=70000:=by cases h;assumption
theorem lZ.l4 {e:aA} (h:lZ e):∀ x,x∈e.bT->x.length<=65536:=by cases h;assumption
theorem lZ.l5 {e:aA} (h:lZ e):e.kh.length<=70000:=by cases h;assumption
theorem lZ.l6 {e:aA} (h:lZ e):∀ x,x∈e.kh->x.length<=65536:=by cases h;assumption
theorem lZ.l7 {e:aA} (h:lZ e):e.Trail.length<=65536:=by cases h;assumption
theorem lZ.kd {e:aA} (h:lZ e):e.Kind=1\/e.Kind=2\/e.Kind=3->1<=e.bc.length:=by cases h;assumption
theorem lZ.s {e:aA} (h:lZ e):∀ x,x∈e.bc->kL x:=by cases h;assumption
theorem lZ.d {e:aA} (h:lZ e):∀ x,x∈e.Body->lZ x:=by cases h;assumption
theorem TS {k:Int} {t:ByS} {n:Int} {a b:ByS} {l:List ak} {d:List aA} {tl:List ByS} {p:Int}:(ak.mk k t n a b l d tl p).bc=l:=rfl
theorem kL.of {k:Int} {t:ByS} {n:Int} {a b:ByS} {subs:List ak} {pos:Int} (h1:subs.length<=70000) (h5:k=16->2<=subs.length) (hs:∀ x,x∈subs->kL x):kL (ak.mk k t n a b subs [] [] pos):=
 .mk h1 (by simp) (by simp) (by simp) h5 hs (by simp)
theorem kL.leaf {k:Int} {t:ByS} {n:Int} {a b:ByS} {pos:Int} (h5:k≠16):kL (ak.mk k t n a b [] [] [] pos):=.of (by simp) (λq=>absurd q h5) (by simp)
theorem kL.one {k:Int} {t:ByS} {n:Int} {a b:ByS} {x:ak} {pos:Int} (h5:k≠16) (hx:kL x):kL (ak.mk k t n a b [x] [] [] pos):=.of (by simp) (λq=>absurd q h5) (by simpa using hx)
theorem kL.two {k:Int} {t:ByS} {n:Int} {a b:ByS} {x y:ak} {pos:Int} (hx:kL x) (hy:kL y):kL (ak.mk k t n a b [x,y] [] [] pos):=.of (by simp) (λ_=>by simp) (by simp;exact ⟨hx,hy⟩)
theorem C0 {e x:ak} (h:x∈e.bc):SizeOf.sizeOf x<SizeOf.sizeOf e:=by
 cases e;have:=List.sizeOf_lt_of_mem h;simp only[ak.bc] at this;simp;omega
theorem BZ {e:ak} {x:aA} (h:x∈e.Decls):SizeOf.sizeOf x<SizeOf.sizeOf e:=by
 cases e;have:=List.sizeOf_lt_of_mem h;simp only[ak.Decls] at this;simp;omega
theorem Fh {e:aA} {x:ak} (h:x∈e.bc):SizeOf.sizeOf x<SizeOf.sizeOf e:=by
 cases e;have:=List.sizeOf_lt_of_mem h;simp only[aA.bc] at this;simp;omega
theorem Fi {e x:aA} (h:x∈e.Body):SizeOf.sizeOf x<SizeOf.sizeOf e:=by
 cases e;have:=List.sizeOf_lt_of_mem h;simp only[aA.Body] at this;simp;omega
theorem vz {c v:Int} (h0:0<=v) (h1:v<=c) {p:L}:∀ (N:Nat) {m:Nat->Nat} {e:ak},di m->SizeOf.sizeOf e<N->kL e->Ev (λi=>bm (m i) e v p) (λr=>r.2=p/\kL r.1) (PP c):=by
 intro N
 induction N with
 | zero=>intro m e _ h;exact absurd h (Nat.not_lt_zero _)
 | succ N ih=>
  intro m e hm hN he
  refine Ev.grow (F:=λn=>bm n e v p) hm λm hm=>?_
  show Ev (λi=>fy (m i) (fw (m i)) e v p) _ _
  unfold fy
  refine Ev.bH (λhk=>?_) (λ_=>?_)
  ·have h2:=he.kd hk;refine Ev.eA λx hx=>Ev.eA λy hy=>?_;have hx:=List.mem_of_getElem? hx;have hy:=List.mem_of_getElem? hy;refine Ev.aQ (ih hm (by have:=C0 hx;omega) (he.s _ hx)) λx2 hx2=>?_;rw[hx2.1];refine Ev.aQ (ih hm (by have:=C0 hy;omega) (he.s _ hy)) λy2 hy2=>?_;exact Ev.ok ⟨hy2.1,.mk (by simp) he.l2 he.l3 he.l4 (λ_=>by simp) (by simp;exact ⟨hx2.2,hy2.2⟩) he.d⟩
  ·refine Ev.bH (λ_=>?_) (λ_=>Ev.ok ⟨rfl,he⟩);have hl:=he.l2;refine Ev.iter hm (λ(x:L×List aA×Int)=>x.1=p/\0<=x.2.2/\x.2.2<=e.Decls.length/\x.2.1.length=x.2.2/\∀ d,d∈x.2.1->lZ d) (λx=>(e.Decls.length - x.2.2).toNat) ⟨rfl,by simp,by simp,by simp,by simp⟩ ?_;rintro x ⟨hx1,hx2,hx3,hx4,hx5⟩ next hn;refine Ev.aW (λhlt=>?_) (λ_=>Ev.ok ⟨hx1,.mk he.l1 (by omega) he.l3 he.l4 (by simp) he.s hx5⟩);refine Ev.eA λd hd=>?_;have hd:=List.mem_of_getElem? hd;have hds:=he.d _ hd;refine Ev.jn (λw=>w.1=p/\lZ w.2) (λw hw=>?_) (λj hj=>?_)
   ·refine Ev.gA (Ev.gA (hn _ ⟨hw.1,by dsimp only;omega,by dsimp only;omega,by simp;omega,λz hz=>?_⟩ (by dsimp only;omega)));rcases List.mem_append.1 hz with q|q
    ·exact hx5 z q
    simp at q;subst q;exact hw.2
   refine Ev.jn (λ_=>True) (λw _=>?_) (λj2 hj2=>?_)
   ·refine Ev.br (λ_=>wD h0 h1) (λ_=>?_);refine Ev.jn (λw=>w=true->d.Kind=1\/d.Kind=2\/d.Kind=3) (λw hw=>?_) (λj2 hj2=>?_)
    ·refine Ev.br (λhw2=>?_) (λ_=>hj _ ⟨hx1,hds⟩);have:=hds.kd (hw hw2);refine Ev.eA λy hy=>?_;have hy:=List.mem_of_getElem? hy;rw[hx1];refine Ev.aQ (ih hm (by have:=Fh hy;have:=BZ hd;omega) (hds.s _ hy)) λy2 hy2=>?_;exact hj _ ⟨hy2.1,.mk (by simp) hds.l2 hds.l3 hds.l4 hds.l5 hds.l6 hds.l7 (λ_=>by simp) (by simpa using hy2.2) hds.d⟩
    refine Ev.bH (λh=>hj2 _ λ_=>.inl h) (λ_=>Ev.bH (λh=>hj2 _ λ_=>.inr (.inl h)) (λ_=>hj2 _ λh=>.inr (.inr (by simpa using h))))
   (repeat' (with_reducible first|refine Ev.gA ?_|refine Ev.eA (λ_ _=>?_)|apply Ev.de|apply Ev.cR|(first|apply Ev.aW|apply Ev.bH|apply Ev.bU|apply Ev.bz|apply Ev.br)<;>intro _|(apply Ev.lk;try dsimp only)))
   all_goals exact hj2 _ trivial
section
variable {s:ByS} {T:List aB} {b:Int} {α X:Type} {Q:α->Prop} {R:rW->Prop} {m:Nat->Nat} {a:Int} {k:Bool} {q:Option ak} {c:Int}
def QS (q:Option ak):Prop:=∀ e,q=some e->kL e
theorem QS.none:QS none:=λ_ h=>by cases h
def St (s:ByS) (T:List aB) (b:Int) (k:Bool) (a d:Int) (p:L):Prop:=∃ a' q',p=cI s T a' b k q'/\a<=a'/\a'+d<T.length/\QS q'
theorem gC {d:Int} {F:Nat->al (X×L)} {P:X->Prop} {K:Nat->X×L->al α} (h:Ev F (λr=>St s T b k a d r.2/\P r.1) (PP c))
  (hk:∀ x a' q',a<=a'->a'+d<T.length->QS q'->P x->Ev (λi=>K i (x,cI s T a' b k q')) Q (PP c)):Ev (λi=>al.bind (F i) (K i)) Q (PP c):=by
 refine Ev.aQ h λr hr=>?_
 obtain ⟨x,p⟩:=r
 obtain ⟨⟨a',q',hp,h1,h2,h3⟩,h4⟩:=hr
 dsimp only at hp
 subst hp
 exact hk x a' q' h1 h2 h3 h4
theorem tR {d:Int} {F:Nat->al (L×X)} {P:X->Prop} {K:Nat->L×X->al α} (h:Ev F (λr=>St s T b k a d r.1/\P r.2) (PP c))
  (hk:∀ x a' q',a<=a'->a'+d<T.length->QS q'->P x->Ev (λi=>K i (cI s T a' b k q',x)) Q (PP c)):Ev (λi=>al.bind (F i) (K i)) Q (PP c):=by
 refine Ev.aQ h λr hr=>?_
 obtain ⟨p,x⟩:=r
 obtain ⟨⟨a',q',hp,h1,h2,h3⟩,h4⟩:=hr
 dsimp only at hp
 subst hp
 exact hk x a' q' h1 h2 h3 h4
theorem qI (hm:di m) {v:Int} (h0:0<=v) (h1:v<=c) {e:ak} (he:kL e) {p:L} {K:Nat->ak×L->al α} (hk:∀ x,kL x->Ev (λi=>K i (x,p)) Q (PP c)) :
  Ev (λi=>al.bind (bm (m i) e v p) (K i)) Q (PP c):=by
 refine Ev.aQ (vz h0 h1 _ hm (Nat.lt_succ_self _) he) λr hr=>?_
 obtain ⟨x,p'⟩:=r
 obtain ⟨h1,h2⟩:=hr
 dsimp only at h1
 subst h1
 exact hk x h2
def Bv (T:List aB) (a:Int):Prop:=∃ t u,T[a.toNat]?=some t/\t.Kind=5/\T[(a+1).toNat]?=some u/\u.Kind≠0/\u.Kind≠7/\(u.Kind=5->∃ w,T[(a+2).toNat]?=some w/\w.Kind=3)
theorem Af (hm:di m) (hC:PC s T b) (h0:0<=a) (h1:a<T.length) {K:Nat->Bool×L->al α}
  (hk:∀ a' r,a<=a'->a'<T.length->(∀ u,T[a.toNat]?=some u->(k=true->u.Kind≠7)->a'=a)->(r=true->Bv T a')->Ev (λi=>K i (r,cI s T a' b k q)) Q R):Ev (λi=>al.bind (fj (m i) (cI s T a b k q)) (K i)) Q R:=by
 refine Ev.bind (Q:=λr=>∃ a' x,r=(x,cI s T a' b k q)/\a<=a'/\a'<T.length/\(∀ u,T[a.toNat]?=some u->(k=true->u.Kind≠7)->a'=a)/\(x=true->Bv T a')) (R':=jm) ?_ (λ_ q=>q.elim) λr hr=>?_
 ·unfold fj
  have hl:=hC.l9
  refine fI hm hC h0 h1 λa' t h2 h3 h4 h5 h6=>?_
  dsimp only
  refine jZ λr hr1 hr2=>Ev.bz (λ_=>Ev.ok ⟨a',_,rfl,h2,h3,h6,by simp⟩) (λhr=>?_)
  obtain ⟨g1,g2⟩:=hr1 hr
  refine Ev.jn (λv=>v.1=cI s T a' b k q/\2<=v.2/\v.2<=3/\Bv T a') (λv hv=>?_) (λj hj=>?_)
  ·refine Ev.iter hm (λ(x:L×Int)=>x.1=cI s T a' b k q/\2<=x.2/\x.2<=T.length+3) (λx=>(T.length+4 - x.2).toNat) ⟨hv.1,hv.2.1,by dsimp only;omega⟩ ?_
   rintro x ⟨hx1,hx2,hx3⟩ next hn
   rw[hx1]
   refine mW hC (by omega) h3 (by omega) (by omega) λu hu=>?_
   dsimp only
   refine Ev.bH (λh7=>?_) (λ_=>?_)
   ·have:=(hu (by omega)).2
    exact Ev.gA (hn _ ⟨rfl,by dsimp only;omega,by dsimp only;omega⟩ (by dsimp only;omega))
   ·refine mW hC (by omega) h3 (by omega) (by omega) λu hu=>?_
    dsimp only
    refine jZ λr _ _=>Ev.br (λ_=>?_) (λ_=>Ev.ok ⟨a',_,rfl,h2,h3,h6,by simp⟩)
    refine Ev.gA (mW hC (by omega) h3 (by omega) (by omega) λu hu=>?_)
    dsimp only
    exact jZ λr _ _=>Ev.ok ⟨a',_,rfl,h2,h3,h6,λ_=>hv.2.2.2⟩
  ·refine mW hC (by omega) h3 (by omega) (by omega) λu hu=>?_
   dsimp only
   refine oD λr hr1 hr2=>Ev.bz (λ_=>?_) (λhr=>?_)
   ·refine mW hC (by omega) h3 (by omega) (by omega) λu hu=>?_
    dsimp only
    refine jZ λr hr1 hr2=>Ev.bz (λ_=>Ev.ok ⟨a',_,rfl,h2,h3,h6,by simp⟩) (λhr=>?_)
    obtain ⟨q1,q2⟩:=hr1 hr
    refine mW hC (by omega) h3 (by omega) (by omega) λw hw=>?_
    dsimp only
    refine Ev.bU (λ_=>Ev.ok ⟨a',_,rfl,h2,h3,h6,by simp⟩) (λh3=>?_)
    exact hj _ ⟨rfl,by simp,by simp,t,u,h4,g1,(hu (by omega)).1,by omega,by omega,λ_=>⟨w,(hw (by omega)).1,h3⟩⟩
   ·obtain ⟨q1,q2⟩:=hr1 hr
    exact hj _ ⟨rfl,by simp,by simp,t,u,h4,g1,(hu (by omega)).1,by omega,by omega,λ_=>by omega⟩
 ·obtain ⟨a',x,rfl,h⟩:=hr
  exact hk a' x h.1 h.2.1 h.2.2.1 h.2.2.2
theorem vA (hm:di m) (hC:PC s T b) (h0:0<=a) (hc:b+s.length<=c) (hq:QS q) {u:aB} (hu:T[a.toNat]?=some u) (hk0:u.Kind≠0) (hk7:u.Kind≠7) (hw:u.Kind=5->∃ w,T[(a+1).toNat]?=some w/\w.Kind=3) {d:aA} :
  Ev (λi=>gi (m i) true (cI s T a b k q) d) (λr=>St s T b k a 1 r.1/\(r.2=d\/∃ l,r.2=aA.mk d.Kind d.cG l d.bn d.bu d.bc d.Body d.bT d.kh d.Trail d.Pos)) (PP c):=by
 have hl:=hC.l9
 have h1:a<T.length:=by have:=(List.getElem?_eq_some_iff.1 hu).1;omega
 unfold gi
 refine tR (b:=b) (T:=T) (s:=s) (k:=true) (a:=a) (d:=1) (P:=λx=>x=d\/∃ l,x=aA.mk d.Kind d.cG l d.bn d.bu d.bc d.Body d.bT d.kh d.Trail d.Pos) ?_ λx a' q' h2 h3 h4 h5=>Ev.ok ⟨⟨a',q',rfl,h2,h3,h4⟩,h5⟩
 unfold iO
 dsimp only
 refine Ev.jn (λv=>(∃ a',v.1=cI s T a' b true q/\a<=a'/\a'+1<T.length)/\(v.2=d\/∃ l,v.2=aA.mk d.Kind d.cG l d.bn d.bu d.bc d.Body d.bT d.kh d.Trail d.Pos)) (λv hv=>?_) (λj hj=>?_)
 ·obtain ⟨⟨a',hv1,hv2,hv3⟩,hv4⟩:=hv
  rw[hv1]
  refine Ev.gA (nH hm hC (by dsimp only;omega) (by dsimp only;omega) hc λa2 t h2 h3 h4 h5 _=>Ev.ok ⟨⟨a2,q,rfl,by dsimp only at h2;omega,h3,hq⟩,hv4⟩)
 ·refine lx hm hC h0 h1 (λa' t h2 h3 h4 h5 h6 h7=>?_) (λa' t h2 h3 h4 h5 h6 h7=>?_)
  ·dsimp only
   have ha:=h7 u hu (λ_=>hk7)
   subst ha
   have:u=t:=by
    have e:a+1 - 1=a:=by omega
    rw[e,hu] at h4;cases h4;rfl
   subst this
   obtain ⟨w,hw1,hw2⟩:=hw h5
   refine Ev.de ?_
   refine fI hm hC (by omega) h3 λa2 t2 h8 h9 h10 h11 h12=>?_
   dsimp only
   have ha2:=h12 w hw1 (λ_=>by omega)
   subst ha2
   have hnx:=hC.next (by omega) hw1 (by omega)
   refine Ev.fX (sY hm) λy _=>?_
   refine Ev.bU (λ_=>iI hm hC (by omega) h9 hc) (λ_=>hj _ ⟨⟨_,rfl,by omega,by omega⟩,.inr ⟨_,rfl⟩⟩)
  ·dsimp only
   have ha:=h7 u hu (λ_=>hk7)
   subst ha
   have hnx:=hC.next (by omega) hu hk0
   exact Ev.cR (hj _ ⟨⟨_,rfl,by omega,by omega⟩,.inl rfl⟩)
end
section
variable {s:ByS} {T:List aB} {b:Int}
def Az (s:ByS) (T:List aB) (b:Int) (K c:Nat) (F:Nat->L->al (ak×L)):Prop:=∀ {m:Nat->Nat} {a:Int} {k:Bool} {q:Option ak},di m->0<=a->a<T.length->QS q->64*(T.length - a).toNat+c<K->Ev (λi=>F (m i) (cI s T a b k q)) (λr=>St s T b k a 0 r.2/\kL r.1) (PP (b+s.length))
structure PG (s:ByS) (T:List aB) (b:Int) (K:Nat):Prop where
 expr:∀ {j:Bool},Az s T b K 13 (λn=>aF n j)
 alt:∀ {j:Bool},Az s T b K 12 (λn=>bt n j)
 wi:∀ {j:Bool},Az s T b K 11 (λn=>bk n j)
 bin:∀ {m:Nat->Nat} {a l:Int} {k:Bool} {q:Option ak} {j:Bool},di m->0<=a->a<T.length->QS q->0<=l->l<=5->64*(T.length - a).toNat+(10 - l).toNat<K->Ev (λi=>bL (m i) l j (cI s T a b k q)) (λr=>St s T b k a 0 r.2/\kL r.1) (PP (b+s.length))
 unary:∀ {j:Bool},Az s T b K 4 (λn=>cr n j)
 post:∀ {j:Bool},Az s T b K 3 (λn=>bZ n j)
 Bw:∀ {j:Bool},Az s T b K 2 (λn=>cE n j)
 named:∀ {m:Nat->Nat} {a:Int} {k:Bool} {q:Option ak} {t:aB},di m->0<=a->a<T.length->QS q->T[a.toNat]?=some t->t.Kind=1->64*(T.length - a).toNat+1<K->Ev (λi=>dt (m i) (cI s T a b k q)) (λr=>St s T b k a 0 r.2/\kL r.1) (PP (b+s.length))
 xw:∀ {m:Nat->Nat} {a:Int} {k:Bool} {q:Option ak} {t:aB},di m->0<=a->a<T.length->T[a.toNat]?=some t->t.Kind=4->64*(T.length - a).toNat+1<K->Ev (λi=>c6 (m i) t (b+t.Pos) (cI s T a b k q)) (λr=>r.2=cI s T a b k q/\kL r.1) (PP (b+s.length))
 parens:∀ {m:Nat->Nat} {a:Int} {k:Bool} {q:Option ak} {j:Bool},di m->0<=a->a<T.length->QS q->64*(T.length - a).toNat+1<K->Ev (λi=>cz (m i) j (cI s T a b k q)) (λr=>St s T b k (a+1) 0 r.2/\kL r.1) (PP (b+s.length))
 xx:∀ {j:Bool},Az s T b K 1 (λn=>cZ n j)
 list:Az s T b K 1 dq
 block:∀ {m:Nat->Nat} {a:Int} {k:Bool} {q:Option ak} {j:Bool},di m->0<=a->a<T.length->QS q->64*(T.length - a).toNat<K->Ev (λi=>ch (m i) j (cI s T a b k q)) (λr=>St s T b k a 0 r.2.2/\r.1.length<=70000/\(∀ d,d∈r.1->lZ d)/\r.2.1.length<=70000/\∀ x,x∈r.2.1->x.length<=65536) (PP (b+s.length))
 args:∀ {m:Nat->Nat} {a:Int} {k:Bool} {q:Option ak},di m->0<=a->a<T.length->QS q->64*(T.length - a).toNat+1<K->Ev (λi=>dA (m i) (cI s T a b k q)) (λr=>St s T b k a 0 r.2/\r.1.length<=70000/\∀ x,x∈r.1->kL x) (PP (b+s.length))
 item:Az s T b K 14 dp
 field:∀ {m:Nat->Nat} {a:Int} {k:Bool} {q:Option ak} {j:Bool} {d:aA} {t:aB},di m->0<=a->a<T.length->QS q->lZ d->T[a.toNat]?=some t->t.Kind≠0->t.Kind≠7->64*(T.length - a).toNat+14<K->Ev (λi=>dr (m i) j (cI s T a b k q) d) (λr=>St s T b k a 0 r.1/\lZ r.2) (PP (b+s.length))
 pattern:∀ {m:Nat->Nat} {a:Int} {k:Bool} {q:Option ak} {j:Bool} {d:aA},di m->0<=a->a<T.length->QS q->lZ d->Bv T a->64*(T.length - a).toNat+14<K->Ev (λi=>cQ (m i) j (cI s T a b k q) d) (λr=>St s T b k a 0 r.1/\lZ r.2) (PP (b+s.length))
 uG:∀ {m:Nat->Nat} {a:Int} {k:Bool} {q:Option ak} {j:Bool} {d:aA},di m->0<=a->a<T.length->QS q->lZ d->64*(T.length - a).toNat+14<K->Ev (λi=>cP (m i) j (cI s T a b k q) d) (λr=>St s T b k a 0 r.1/\lZ r.2) (PP (b+s.length))
 decl:∀ {m:Nat->Nat} {a:Int} {k:Bool} {q:Option ak} {j:Bool} {t:aB},di m->0<=a->a<T.length->QS q->T[a.toNat]?=some t->t.Kind≠0->t.Kind≠7->64*(T.length - a).toNat+17<K->Ev (λi=>cj (m i) j (cI s T a b k q)) (λr=>St s T b k a 0 r.2/\lZ r.1) (PP (b+s.length))
 decls:∀ {m:Nat->Nat} {a:Int} {k:Bool} {q:Option ak} {j:Bool},di m->0<=a->a<T.length->QS q->64*(T.length - a).toNat+18<K->Ev (λi=>cU (m i) j (cI s T a b k q)) (λr=>St s T b k a 0 r.2.2/\r.1.length<=70000/\(∀ d,d∈r.1->lZ d)/\r.2.1.length<=70000/\∀ x,x∈r.2.1->x.length<=65536) (PP (b+s.length))
variable {K:Nat} {m:Nat->Nat} {a:Int} {k:Bool} {q:Option ak} {j:Bool}
theorem Hm (hC:PC s T b) (ih:PG s T b K):Az s T b (K+1) 13 (λn=>aF n j):=by
 intro m a k q hm h0 h1 hq hK;refine Ev.grow (F:=λn=>aF n j (cI s T a b k q)) hm λm hm=>?_;show Ev (λi=>eM (m i) (ai (m i)) j (cI s T a b k q)) _ _;unfold eM;have hl:=hC.l9;dsimp only;refine Ev.jn (λv=>St s T b k a 0 v.1) (λv hv=>?_) (λjj hj=>?_)
 ·obtain ⟨p,w⟩:=v;obtain ⟨a1,q1,hp,h2,h3,hq1⟩:=hv;dsimp only at hp;subst hp;dsimp only;refine Ev.jn (λv=>St s T b k a 0 v.1/\kL v.2) (λv hv=>?_) (λjj hj=>?_)
  ·obtain ⟨p,e⟩:=v;obtain ⟨⟨a2,q2,hp,h4,h5,hq2⟩,he⟩:=hv;dsimp only at hp he;subst hp;dsimp only;refine Ev.jn (λv=>St s T b k a 0 v) (λv hv=>?_) (λjj hj=>?_)
   ·obtain ⟨a3,q3,rfl,h6,h7,hq3⟩:=hv;dsimp only;refine Ev.jn (λv=>St s T b k a 0 v) (λv hv=>?_) (λjj hj=>?_)
    ·obtain ⟨a4,q4,rfl,h8,h9,hq4⟩:=hv;refine lD hm hC (by omega) (by omega) λa5 t v h10 h11 _ _ _ h12 h13=>?_;dsimp only;refine qI hm h12 h13 he λx hx=>?_;dsimp only;refine Ev.iter hm (λ(x:L×List ak)=>St s T b k a 0 x.1/\1<=x.2.length/\(x.2.length:Int)<=x.1.at_+1/\∀ e,e∈x.2->kL e) (λx=>(T.length - x.1.at_).toNat) ⟨⟨_,q4,rfl,by omega,by omega,hq4⟩,by simp,by simp;omega,by simpa using hx⟩ ?_;rintro ⟨p,l⟩ ⟨⟨a6,q6,hp,h14,h15,hq6⟩,hl1,hl2,hl3⟩ next hn;dsimp only at hp hl1 hl2 hl3;subst hp;dsimp only at hn hl2 ⊢;refine lx hm hC (by omega) (by omega) (λa7 t h16 h17 _ _ _ _=>?_) (λa7 t h16 h17 _ _ _ _=>?_)
     ·dsimp only;refine Ev.de (gC (ih.alt hm (by omega) h17 hq6 (by omega)) λe a8 q8 h18 h19 hq8 he8=>?_);dsimp only;refine Ev.gA (hn _ ⟨⟨a8,q8,rfl,by omega,h19,hq8⟩,by simp,by simp;omega,λz hz=>?_⟩ (by dsimp only;omega));rcases List.mem_append.1 hz with w|w
      ·exact hl3 z w
      simp at w;subst w;exact he8
     dsimp only;refine Ev.cR (Ev.eA λx hx=>Ev.ok ⟨⟨a7,q6,rfl,by omega,by omega,hq6⟩,.of (by omega) (by simp) hl3⟩)
    refine fI hm hC (by omega) (by omega) λa4 t h8 h9 _ _ _=>?_;dsimp only;refine jZ λr _ _=>Ev.bz (λ_=>iI hm hC (by omega) h9 (by omega)) (λ_=>hj _ ⟨a4,q3,rfl,by omega,by omega,hq3⟩)
   refine Ev.bz (λ_=>?_) (λ_=>hj _ ⟨a2,q2,rfl,h4,h5,hq2⟩);refine fI hm hC (by omega) (by omega) λa4 t h8 h9 _ _ _=>?_;dsimp only;exact jZ λr _ _=>Ev.bz (λ_=>Ev.ok ⟨⟨a4,q2,rfl,by omega,by omega,hq2⟩,he⟩) (λ_=>hj _ ⟨a4,q2,rfl,by omega,by omega,hq2⟩)
  refine Ev.br (λ_=>gC (ih.alt hm (by omega) (by omega) hq1 (by omega)) λe a2 q2 h4 h5 hq2 he=>hj _ ⟨⟨a2,q2,rfl,by omega,h5,hq2⟩,he⟩) (λ_=>gC (ih.alt hm (by omega) (by omega) hq1 (by omega)) λe a2 q2 h4 h5 hq2 he=>hj _ ⟨⟨a2,q2,rfl,by omega,h5,hq2⟩,he⟩)
 refine Ev.br (λ_=>?_) (λ_=>hj _ ⟨a,q,rfl,by omega,by omega,hq⟩);refine fI hm hC h0 h1 λa4 t h8 h9 _ _ _=>?_;dsimp only;exact jZ λr _ _=>hj _ ⟨a4,q,rfl,by omega,by omega,hq⟩
theorem Jq (hC:PC s T b) (ih:PG s T b K):Az s T b (K+1) 12 (λn=>bt n j):=by
 intro m a k q hm h0 h1 hq hK;refine Ev.grow (F:=λn=>bt n j (cI s T a b k q)) hm λm hm=>?_;show Ev (λi=>c8 (m i) (ai (m i)) j (cI s T a b k q)) _ _;unfold c8;have hl:=hC.l9;dsimp only;refine Ev.br (λ_=>?_) (λ_=>?_)
 ·refine lD hm hC h0 h1 λa2 t v h2 h3 _ _ _ _ _=>?_;dsimp only;refine lx hm hC (by omega) h3 (λa3 t h4 h5 _ _ _ _=>?_) (λa3 t h4 h5 _ _ _ _=>?_)
  ·dsimp only;exact Ev.de (gC (ih.wi hm (by omega) h5 hq (by omega)) λe a4 q4 h6 h7 hq4 he=>Ev.ok ⟨⟨a4,q4,rfl,by omega,h7,hq4⟩,.one (by decide) he⟩)
  dsimp only;exact Ev.cR (gC (ih.wi hm (by omega) h5 hq (by omega)) λe a4 q4 h6 h7 hq4 he=>Ev.ok ⟨⟨a4,q4,rfl,by omega,h7,hq4⟩,he⟩)
 exact gC (ih.wi hm (by omega) h1 hq (by omega)) λe a4 q4 h6 h7 hq4 he=>Ev.ok ⟨⟨a4,q4,rfl,by omega,h7,hq4⟩,he⟩
theorem Hn (hC:PC s T b) (ih:PG s T b K):Az s T b (K+1) 11 (λn=>bk n j):=by
 intro m a k q hm h0 h1 hq hK;refine Ev.grow (F:=λn=>bk n j (cI s T a b k q)) hm λm hm=>?_;show Ev (λi=>da (m i) (ai (m i)) j (cI s T a b k q)) _ _;unfold da;refine gC (ih.bin hm h0 h1 hq (by omega) (by omega) (by omega)) λe a2 q2 h2 h3 hq2 he=>?_;dsimp only;refine Ev.iter hm (λ(x:L×ak)=>St s T b k a 0 x.1/\kL x.2) (λx=>(T.length - x.1.at_).toNat) ⟨⟨a2,q2,rfl,h2,h3,hq2⟩,he⟩ ?_;rintro ⟨p,e⟩ ⟨⟨a3,q3,hp,h4,h5,hq3⟩,he⟩ next hn;dsimp only at hp he;subst hp;dsimp only at hn ⊢;refine lx hm hC (by omega) (by omega) (λa4 t h6 h7 _ _ _ _=>?_) (λa4 t h6 h7 _ _ _ _=>?_)
 ·dsimp only;exact Ev.de (gC (ih.bin hm (by omega) h7 hq3 (by omega) (by omega) (by omega)) λe2 a5 q5 h8 h9 hq5 he5=>hn _ ⟨⟨a5,q5,rfl,by omega,h9,hq5⟩,.two he he5⟩ (by dsimp only;omega))
 exact Ev.cR (Ev.ok ⟨⟨a4,q3,rfl,by omega,by omega,hq3⟩,he⟩)
theorem Ag {l:Int}:Ev (λ_=>lr l) (λr=>r.length<=100) jm:=by
 unfold lr
 (repeat' (with_reducible first|refine Ev.gA ?_|refine Ev.eA (λ_ _=>?_)|apply Ev.de|apply Ev.cR|(first|apply Ev.aW|apply Ev.bH|apply Ev.bU|apply Ev.bz|apply Ev.br)<;>intro _|(apply Ev.lk;try dsimp only)))
 all_goals exact Ev.ok (by simp)
theorem Jr (hC:PC s T b) (ih:PG s T b K) {l:Int} (hm:di m) (h0:0<=a) (h1:a<T.length) (hq:QS q) (hl0:0<=l) (hl5:l<=5) (hK:64*(T.length - a).toNat+(10 - l).toNat<K+1) :
  Ev (λi=>bL (m i) l j (cI s T a b k q)) (λr=>St s T b k a 0 r.2/\kL r.1) (PP (b+s.length)):=by
 refine Ev.grow (F:=λn=>bL n l j (cI s T a b k q)) hm λm hm=>?_
 show Ev (λi=>ef (m i) (ai (m i)) l j (cI s T a b k q)) _ _
 unfold ef
 have hl:=hC.l9
 refine Ev.aW (λ_=>gC (ih.unary hm h0 h1 hq (by omega)) λe a4 q4 h6 h7 hq4 he=>Ev.ok ⟨⟨a4,q4,rfl,by omega,h7,hq4⟩,he⟩) (λ_=>?_)
 refine Ev.gA (gC (ih.bin hm h0 h1 hq (by omega) (by omega) (by omega)) λe a2 q2 h2 h3 hq2 he=>?_)
 dsimp only
 refine Ev.iter hm (λ(x:L×ak)=>St s T b k a 0 x.1/\kL x.2) (λx=>(T.length - x.1.at_).toNat) ⟨⟨a2,q2,rfl,h2,h3,hq2⟩,he⟩ ?_
 rintro ⟨p,e⟩ ⟨⟨a3,q3,hp,h4,h5,hq3⟩,he⟩ next hn
 dsimp only at hp he;subst hp;dsimp only at hn ⊢
 refine fI hm hC (by omega) (by omega) λa4 t h6 h7 ht h8 _=>?_
 dsimp only
 refine Ev.fX Ag λops hops=>uF hm (by omega) λr hr=>Ev.br (λhr1=>?_) (λ_=>Ev.ok ⟨⟨a4,q3,rfl,by omega,by omega,hq3⟩,he⟩)
 have hk5:=hr hr1
 have hnx:=hC.next (by omega) ht (by omega)
 refine lD hm hC (by omega) h7 λa5 t5 v h9 h10 _ h11 _ h12 h13=>?_
 have e5:=h11 t ht h8
 subst e5
 dsimp only
 refine qI hm h12 h13 he λx hx=>?_
 dsimp only
 refine fI hm hC (by omega) h7 λa6 t6 h14 h15 _ _ h16=>?_
 have e6:=h16 t ht h8
 subst e6
 dsimp only
 refine Ev.gA (Ev.gA (gC (ih.bin hm (by omega) hnx hq3 (by omega) (by omega) (by omega)) λe2 a7 q7 h17 h18 hq7 he7=>hn _ ⟨⟨a7,q7,rfl,by omega,h18,hq7⟩,.two hx he7⟩ (by dsimp only;omega)))
theorem Fj (hC:PC s T b) (ih:PG s T b K):Az s T b (K+1) 4 (λn=>cr n j):=by
 intro m a k q hm h0 h1 hq hK;refine Ev.grow (F:=λn=>cr n j (cI s T a b k q)) hm λm hm=>?_;show Ev (λi=>ek (m i) (ai (m i)) j (cI s T a b k q)) _ _;unfold ek;have hl:=hC.l9;dsimp only;refine Ev.br (λ_=>gC (ih.post hm h0 h1 hq (by omega)) λe a4 q4 h6 h7 hq4 he=>Ev.ok ⟨⟨a4,q4,rfl,by omega,h7,hq4⟩,he⟩) (λ_=>?_);refine fI hm hC h0 h1 λa2 t h2 h3 ht h4 _=>?_;dsimp only;refine lD hm hC (by omega) h3 λa5 t5 v h9 h10 _ h11 _ h12 h13=>?_;have e5:=h11 t ht h4;subst e5;dsimp only;refine Ev.jn (λv=>v≠16/\t.Kind=5) (λw hw=>?_) (λjj hj=>?_)
 ·have hnx:=hC.next (by omega) ht (by omega);exact Ev.gA (gC (ih.unary hm (by omega) hnx hq (by omega)) λe a4 q4 h6 h7 hq4 he=>Ev.ok ⟨⟨a4,q4,rfl,by omega,h7,hq4⟩,.one hw.1 he⟩)
 refine uF hm (by simp) λr hr=>Ev.br (λhr1=>hj _ ⟨by decide,hr hr1⟩) (λ_=>?_);refine uF hm (by simp) λr hr=>Ev.br (λhr1=>hj _ ⟨by decide,hr hr1⟩) (λ_=>?_);exact gC (ih.post hm (by omega) h3 hq (by omega)) λe a4 q4 h6 h7 hq4 he=>Ev.ok ⟨⟨a4,q4,rfl,by omega,h7,hq4⟩,he⟩
theorem Fk (hC:PC s T b) (ih:PG s T b K) (hm:di m) (h0:0<=a) (h1:a<T.length) (hq:QS q) (hK:64*(T.length - a).toNat+13<K) {e:ak} (he:kL e) :
  Ev (λi=>dw (m i) true (cI s T a b k q) e) (λr=>St s T b k a 1 r.1/\kL r.2) (PP (b+s.length)):=by
 refine Ev.grow (F:=λn=>dw n true (cI s T a b k q) e) hm λm hm=>?_
 show Ev (λi=>eH (m i) (ai (m i)) true (cI s T a b k q) e) _ _
 unfold eH
 dsimp only
 refine gC (k:=true) (a:=a) (d:=1) (P:=kL) ?_ λx a' q' h2 h3 h4 h5=>Ev.ok ⟨⟨a',q',rfl,h2,h3,h4⟩,h5⟩
 refine Ev.grow (F:=λn=>fk n e (cI s T a b true q)) hm λm hm=>?_
 show Ev (λi=>eE (m i) (ai (m i)) e (cI s T a b true q)) _ _
 unfold eE
 refine gC (ih.expr hm h0 h1 hq hK) λx a2 q2 h2 h3 h4 h5=>?_
 dsimp only
 exact nH hm hC (by omega) (by omega) (by omega) λa3 t h6 h7 _ _ _=>Ev.ok ⟨⟨a3,q2,rfl,by omega,h7,h4⟩,.two he h5⟩
theorem Ho (hC:PC s T b) (ih:PG s T b K):Az s T b (K+1) 3 (λn=>bZ n j):=by
 intro m a k q hm h0 h1 hq hK;refine Ev.grow (F:=λn=>bZ n j (cI s T a b k q)) hm λm hm=>?_;show Ev (λi=>dP (m i) (ai (m i)) j (cI s T a b k q)) _ _;unfold dP;have hl:=hC.l9;refine gC (ih.Bw hm h0 h1 hq (by omega)) λe a2 q2 h2 h3 hq2 he=>?_;dsimp only;refine Ev.iter hm (λ(x:L×ak)=>St s T b k a 0 x.1/\kL x.2) (λx=>(T.length - x.1.at_).toNat) ⟨⟨a2,q2,rfl,h2,h3,hq2⟩,he⟩ ?_;rintro ⟨p,e⟩ ⟨⟨a3,q3,hp,h4,h5,hq3⟩,he⟩ next hn;dsimp only at hp he;subst hp;dsimp only at hn ⊢;refine fI hm hC (by omega) (by omega) λa4 t h6 h7 ht h8 _=>?_;dsimp only;refine lD hm hC (by omega) h7 λa5 t5 v h9 h10 _ h11 _ h12 h13=>?_;have e5:=h11 t ht h8;subst e5;dsimp only;refine jZ λr hr _=>Ev.br (λhr1=>?_) (λ_=>?_)
 ·have hk5:=(hr hr1).1;have hnx:=hC.next (by omega) ht (by omega);refine qI hm h12 h13 he λx hx=>?_;dsimp only;refine Ev.gA (fI hm hC (by omega) hnx λa6 t6 h14 h15 ht6 _ _=>?_);dsimp only;refine Ev.jn (λv=>v=cI s T a6 b k q3/\t6.Kind≠0) (λv hv=>?_) (λjj hj=>?_)
  ·obtain ⟨rfl,h16⟩:=hv;have hnx6:=hC.next (by omega) ht6 h16;exact Ev.gA (hn _ ⟨⟨a6+1,q3,rfl,by omega,by omega,hq3⟩,.one (by decide) hx⟩ (by dsimp only;omega))
  exact xv hm λr hr=>Ev.bz (λ_=>iI hm hC (by omega) h15 (by omega)) (λhr1=>hj _ ⟨rfl,by have:=hr hr1;omega⟩)
 refine jZ λr hr _=>Ev.br (λhr1=>?_) (λ_=>Ev.ok ⟨⟨a5,q3,rfl,by omega,by omega,hq3⟩,he⟩);have hk5:=(hr hr1).1;have hnx:=hC.next (by omega) ht (by omega);refine qI hm h12 h13 he λx hx=>?_;dsimp only;refine Ev.gA (tR (Fk hC ih hm (by omega) hnx hq3 (by omega) hx) λx a6 q6 h14 h15 hq6 hx6=>?_);dsimp only;exact Ev.gA (hn _ ⟨⟨a6+1,q6,rfl,by omega,by omega,hq6⟩,hx6⟩ (by dsimp only;omega))
end
section
variable {s:ByS} {T:List aB} {b:Int} {K:Nat} {m:Nat->Nat} {a:Int} {k:Bool} {q:Option ak} {j:Bool}
theorem Hp (hC:PC s T b) (ih:PG s T b K):Az s T b (K+1) 2 (λn=>cE n j):=by
 intro m a k q hm h0 h1 hq hK;refine Ev.grow (F:=λn=>cE n j (cI s T a b k q)) hm λm hm=>?_;show Ev (λi=>dQ (m i) (ai (m i)) j (cI s T a b k q)) _ _;unfold dQ;have hl:=hC.l9;dsimp only;cases q with
 | some e=>exact Ev.de (Ev.some rfl (Ev.ok ⟨⟨a,none,rfl,by omega,by omega,.none⟩,hq e rfl⟩))
 | none=>
  refine Ev.cR ?_
  refine fI hm hC h0 h1 λa2 t h2 h3 ht h4 _=>?_
  dsimp only
  refine lD hm hC (by omega) h3 λa5 t5 v h9 h10 ht5 h11 hv h12 h13=>?_
  have e5:=h11 t ht h4
  subst e5
  rw[ht] at ht5;cases ht5
  dsimp only
  refine Ev.jn (λv=>v.1=cI s T a5 b k none/\kL v.2/\t.Kind≠0) (λw hw=>?_) (λjj hj=>?_)
  ·obtain ⟨p,e⟩:=w;obtain ⟨hp,he,hk⟩:=hw;dsimp only at hp he;subst hp;dsimp only;have hnx:=hC.next (by omega) ht hk;exact Ev.gA (Ev.ok ⟨⟨a5+1,none,rfl,by omega,by omega,.none⟩,he⟩)
  ·refine Ev.bH (λhk=>?_) (λ_=>?_)
   ·exact gC (ih.named hm (by omega) h3 .none ht hk (by omega)) λe a4 q4 h6 h7 hq4 he=>Ev.ok ⟨⟨a4,q4,rfl,by omega,h7,hq4⟩,he⟩
   refine Ev.bH (λhk=>?_) (λ_=>?_)
   ·exact Ev.fX (sW hm) λy _=>hj _ ⟨rfl,.leaf (by decide),by omega⟩
   refine Ev.bH (λhk=>hj _ ⟨rfl,.leaf (by decide),by omega⟩) (λ_=>?_);refine Ev.bH (λhk=>?_) (λ_=>?_)
   ·rw[hv];refine Ev.aQ (ih.xw hm (by omega) h3 ht hk (by omega)) λy hy=>?_;exact hj _ ⟨hy.1,hy.2,by omega⟩
   refine jZ λr hr _=>Ev.br (λhr1=>hj _ ⟨rfl,.leaf (by decide),by have:=(hr hr1).1;omega⟩) (λ_=>?_);refine jZ λr hr _=>Ev.br (λhr1=>hj _ ⟨rfl,.leaf (by decide),by have:=(hr hr1).1;omega⟩) (λ_=>?_);refine jZ λr hr _=>Ev.br (λhr1=>?_) (λ_=>?_)
   ·exact gC (ih.parens hm (by omega) h3 .none (by omega)) λe a4 q4 h6 h7 hq4 he=>Ev.ok ⟨⟨a4,q4,rfl,by omega,h7,hq4⟩,he⟩
   refine jZ λr hr _=>Ev.br (λhr1=>?_) (λ_=>?_)
   ·exact gC (ih.xx hm (by omega) h3 .none (by omega)) λe a4 q4 h6 h7 hq4 he=>Ev.ok ⟨⟨a4,q4,rfl,by omega,h7,hq4⟩,he⟩
   refine jZ λr hr _=>Ev.br (λhr1=>?_) (λ_=>?_)
   ·exact gC (ih.list hm (by omega) h3 .none (by omega)) λe a4 q4 h6 h7 hq4 he=>Ev.ok ⟨⟨a4,q4,rfl,by omega,h7,hq4⟩,he⟩
   exact iI hm hC (by omega) h3 (by omega)
theorem Fl (hC:PC s T b) (ih:PG s T b K) (hm:di m) (h0:0<=a) (h1:a<T.length) (hq:QS q) {t:aB} (ht:T[a.toNat]?=some t) (hk:t.Kind=1) (hK:64*(T.length - a).toNat+1<K+1) :
  Ev (λi=>dt (m i) (cI s T a b k q)) (λr=>St s T b k a 0 r.2/\kL r.1) (PP (b+s.length)):=by
 refine Ev.grow (F:=λn=>dt n (cI s T a b k q)) hm λm hm=>?_
 show Ev (λi=>fR (m i) (ai (m i)) (cI s T a b k q)) _ _
 unfold fR
 have hl:=hC.l9
 have hnx:=hC.next (by omega) ht (by omega)
 refine fI hm hC h0 h1 λa2 t2 h2 h3 ht2 h4 e2=>?_
 have e2:=e2 t ht (λ_=>by omega)
 subst e2
 rw[ht] at ht2;cases ht2
 dsimp only
 refine lD hm hC (by omega) h3 λa5 t5 v h9 h10 ht5 h11 hv h12 h13=>?_
 have e5:=h11 t ht h4
 subst e5
 dsimp only
 refine Ev.jn (λv=>v.Kind≠16) (λw hw=>?_) (λjj hj=>?_)
 ·exact Ev.gA (Ev.ok ⟨⟨a5+1,q,rfl,by omega,by omega,hq⟩,.leaf hw⟩)
 ·refine Ev.bH (λ_=>hj _ (by simp[ak.Kind])) (λ_=>?_)
  refine Ev.jn (λ_=>True) (λw _=>?_) (λj2 hj2=>?_)
  ·refine Ev.br (λ_=>Ev.bH (λ_=>hj _ (by simp[ak.Kind])) (λ_=>hj _ (by simp[ak.Kind]))) (λ_=>?_)
   refine Ev.jn (λ_=>True) (λw _=>?_) (λj2 hj2=>?_)
   ·refine Ev.br (λ_=>hj _ (by simp[ak.Kind])) (λ_=>?_)
    refine tq hm hC h0 h3 (by omega) λa6 x h14 h15=>?_
    dsimp only
    refine fI hm hC (by omega) h15 λa7 t7 h16 h17 _ _ _=>?_
    dsimp only
    refine jZ λr _ _=>Ev.br (λ_=>?_) (λ_=>Ev.ok ⟨⟨a7,q,rfl,by omega,by omega,hq⟩,.leaf (by decide)⟩)
    exact gC (P:=λl:List ak=>l.length<=70000/\∀ x,x∈l->kL x) (ih.args hm (by omega) h17 hq (by omega)) λe a4 q4 h6 h7 hq4 he=>Ev.ok ⟨⟨a4,q4,rfl,by omega,h7,hq4⟩,.of he.1 (by simp) he.2⟩
   ·refine Ev.bH (λ_=>hj2 _ trivial) (λ_=>Ev.bH (λ_=>hj2 _ trivial) (λ_=>Ev.bH (λ_=>hj2 _ trivial) (λ_=>hj2 _ trivial)))
  ·exact Ev.bH (λ_=>hj2 _ trivial) (λ_=>hj2 _ trivial)
def vB (s:ByS) (b:Int):Prop:=∀ {m:Nat->Nat} {x:ByS} {f:Int},di m->x.length<s.length->0<=f->f+x.length<=b+s.length->Ev (λi=>gR (m i) x f) (λr=>kL r.1) jm
theorem Dy (hC:PC s T b) (hX:vB s b) (hm:di m) (_:0<=a) (_:a<T.length) {t:aB} (ht:T[a.toNat]?=some t) (hk:t.Kind=4) :
  Ev (λi=>c6 (m i) t (b+t.Pos) (cI s T a b k q)) (λr=>r.2=cI s T a b k q/\kL r.1) (PP (b+s.length)):=by
 refine Ev.grow (F:=λn=>c6 n t (b+t.Pos) (cI s T a b k q)) hm λm hm=>?_
 show Ev (λi=>fE (m i) (ai (m i)) t (b+t.Pos) (cI s T a b k q)) _ _
 unfold fE
 have hbs:=hC.bs
 have hb0:=hC.b0
 obtain ⟨g0,g1,g2,g3,g4,_⟩:=hC.tok ht
 have g4:=g4 hk
 refine Ev.fX (rU hm (by omega)) λy hy=>?_
 refine Ev.iter hm (λ(x:L×ak×Int)=>x.1=cI s T a b k q/\0<=x.2.2/\x.2.2<=y.1.length/\x.2.1.bc.length<=x.2.2/\x.2.1.Kind=5/\∀ e,e∈x.2.1.bc->kL e) (λx=>(y.1.length - x.2.2).toNat) ⟨rfl,by simp,by simp,by simp[TS],rfl,by simp[TS]⟩ ?_
 rintro ⟨p,e,i⟩ ⟨hp,h2,h3,h4,h5,h6⟩ next hn
 dsimp only at hp h2 h3 h4 h5 h6 hn ⊢
 subst hp
 have hyl:=hy.1
 refine Ev.aW (λhlt=>?_) (λ_=>Ev.ok ⟨rfl,.of (by omega) (by omega) h6⟩)
 refine Ev.eA λx hx=>?_
 obtain ⟨x0,x1,x2⟩:=hy.2 x (List.mem_of_getElem? hx)
 refine Ev.gA (Ev.gA (Ev.bz (λ_=>?_) (λhc=>?_)))
 ·refine Ev.gA (Ev.gA (hn _ ⟨rfl,by dsimp only;omega,by dsimp only;omega,by simp[TS];omega,h5,λz hz=>?_⟩ (by dsimp only;omega)))
  rcases List.mem_append.1 hz with w|w
  ·exact h6 z w
  ·simp at w;subst w;exact .leaf (by decide)
 ·have x2:=x2 hc
  refine Ev.fX (hX hm (x:=x.Text) (f:=b+t.Pos+1+x.Pos) (by omega) (by omega) (by omega)) λz hz=>?_
  refine Ev.bz (λ_=>wD (by omega) (by omega)) (λ_=>?_)
  refine Ev.gA (Ev.gA (hn _ ⟨rfl,by dsimp only;omega,by dsimp only;omega,by simp[TS];omega,h5,λz2 hz2=>?_⟩ (by dsimp only;omega)))
  rcases List.mem_append.1 hz2 with w|w
  ·exact h6 z2 w
  ·simp at w;subst w;exact hz
theorem Dz (hC:PC s T b) (ih:PG s T b K) (hm:di m) (h0:0<=a) (h1:a<T.length) (hq:QS q) (hK:64*(T.length - a).toNat+1<K+1) :
  Ev (λi=>cz (m i) j (cI s T a b k q)) (λr=>St s T b k (a+1) 0 r.2/\kL r.1) (PP (b+s.length)):=by
 refine Ev.grow (F:=λn=>cz n j (cI s T a b k q)) hm λm hm=>?_
 show Ev (λi=>fG (m i) (ai (m i)) j (cI s T a b k q)) _ _
 unfold fG
 have hl:=hC.l9
 refine ka hm hC h0 h1 (by omega) λa2 t h2 h3 _ _ _ _=>?_
 refine tR (s:=s) (T:=T) (b:=b) (k:=k) (a:=a+1) (d:=1) (P:=λx:Bool×ak=>kL x.2) ?_ λx a3 q3 h4 h5 hq3 he=>?_
 ·refine Ev.grow (F:=λn=>dM n true (cI s T a2 b k q) j (ak.mk 0 [] 0 [] [] [] [] [] 0)) hm λm hm=>?_
  show Ev (λi=>eG (m i) (ai (m i)) true (cI s T a2 b k q) j (ak.mk 0 [] 0 [] [] [] [] [] 0)) _ _
  unfold eG
  dsimp only
  refine Ev.aQ (Q:=λr=>St s T b true (a+1) 1 r.2.2/\kL r.2.1) ?_ λr hr=>?_
  ·refine Ev.grow (F:=λn=>fB n j (ak.mk 0 [] 0 [] [] [] [] [] 0) (cI s T a2 b true q)) hm λm hm=>?_
   show Ev (λi=>eT (m i) (ai (m i)) j (ak.mk 0 [] 0 [] [] [] [] [] 0) (cI s T a2 b true q)) _ _
   unfold eT
   refine gC (ih.expr hm (by omega) h3 hq (by omega)) λx a3 q3 h4 h5 hq3 he=>?_
   dsimp only
   exact nH hm hC (by omega) (by omega) (by omega) λa4 t h6 h7 _ _ _=>Ev.ok ⟨⟨a4,q3,rfl,by omega,h7,hq3⟩,he⟩
  ·obtain ⟨x,e,p⟩:=r
   obtain ⟨⟨a3,q3,hp,h4,h5,hq3⟩,he⟩:=hr
   dsimp only at hp he;subst hp
   exact Ev.ok ⟨⟨a3,q3,rfl,h4,h5,hq3⟩,he⟩
 ·dsimp only
  exact Ev.gA (Ev.ok ⟨⟨a3+1,q3,rfl,by omega,by omega,hq3⟩,he⟩)
theorem Fm (hC:PC s T b) (ih:PG s T b K) (hm:di m) (h0:0<=a) (h1:a<T.length) (hq:QS q) (hK:64*(T.length - a).toNat<K+1) :
  Ev (λi=>ch (m i) j (cI s T a b k q)) (λr=>St s T b k a 0 r.2.2/\r.1.length<=70000/\(∀ d,d∈r.1->lZ d)/\r.2.1.length<=70000/\∀ x,x∈r.2.1->x.length<=65536) (PP (b+s.length)):=by
 refine Ev.grow (F:=λn=>ch n j (cI s T a b k q)) hm λm hm=>?_
 show Ev (λi=>fP (m i) (ai (m i)) j (cI s T a b k q)) _ _
 unfold fP
 have hl:=hC.l9
 refine ka hm hC h0 h1 (by omega) λa2 t h2 h3 _ _ _ _=>?_
 refine tR (s:=s) (T:=T) (b:=b) (k:=k) (a:=a+1) (d:=1) (P:=λr:Bool×List aA×List ByS=>r.2.1.length<=70000/\(∀ d,d∈r.2.1->lZ d)/\r.2.2.length<=70000/\∀ x,x∈r.2.2->x.length<=65536) ?_ λx a3 q3 h4 h5 hq3 he=>?_
 ·refine Ev.grow (F:=λn=>dL n false (cI s T a2 b k q) j [] []) hm λm hm=>?_
  show Ev (λi=>eF (m i) (ai (m i)) false (cI s T a2 b k q) j [] []) _ _
  unfold eF
  dsimp only
  refine Ev.aQ (Q:=λr=>St s T b false (a+1) 1 r.2.2.2/\r.2.1.length<=70000/\(∀ d,d∈r.2.1->lZ d)/\r.2.2.1.length<=70000/\∀ x,x∈r.2.2.1->x.length<=65536) ?_ λr hr=>?_
  ·refine Ev.grow (F:=λn=>fO n j [] [] (cI s T a2 b false q)) hm λm hm=>?_
   show Ev (λi=>fl (m i) (ai (m i)) j [] [] (cI s T a2 b false q)) _ _
   unfold fl
   refine Ev.aQ (ih.decls hm (by omega) h3 hq (by omega)) λr hr=>?_
   obtain ⟨x,e,p⟩:=r
   obtain ⟨⟨a3,q3,hp,h4,h5,hq3⟩,he⟩:=hr
   dsimp only at hp he;subst hp
   dsimp only
   exact nH hm hC (by omega) (by omega) (by omega) λa4 t h6 h7 _ _ _=>Ev.ok ⟨⟨a4,q3,rfl,by omega,h7,hq3⟩,he⟩
  ·obtain ⟨x,y,e,p⟩:=r
   obtain ⟨⟨a3,q3,hp,h4,h5,hq3⟩,he⟩:=hr
   dsimp only at hp he;subst hp
   exact Ev.ok ⟨⟨a3,q3,rfl,h4,h5,hq3⟩,he⟩
 ·dsimp only
  exact Ev.gA (Ev.ok ⟨⟨a3+1,q3,rfl,by omega,by omega,hq3⟩,he⟩)
theorem DA (hC:PC s T b) (ih:PG s T b K):Az s T b (K+1) 1 (λn=>cZ n j):=by
 intro m a k q hm h0 h1 hq hK;refine Ev.grow (F:=λn=>cZ n j (cI s T a b k q)) hm λm hm=>?_;show Ev (λi=>fD (m i) (ai (m i)) j (cI s T a b k q)) _ _;unfold fD;refine lD hm hC h0 h1 λa2 t v h2 h3 _ _ _ _ _=>?_;dsimp only;refine Ev.jn (λv=>v.Kind≠16) (λw hw=>?_) (λjj hj=>?_)
 ·refine Ev.aQ (ih.block hm (by omega) h3 hq (by omega)) λr hr=>?_;obtain ⟨x,e,p⟩:=r;obtain ⟨⟨a3,q3,hp,h4,h5,hq3⟩,he1,he2,he3,he4⟩:=hr;dsimp only at hp he1 he2 he3 he4;subst hp;exact Ev.ok ⟨⟨a3,q3,rfl,by omega,h5,hq3⟩,.mk (by simp) he1 he3 he4 (λq=>absurd q hw) (by simp) he2⟩
 exact Ev.br (λ_=>hj _ (by simp[ak.Kind])) (λ_=>hj _ (by simp[ak.Kind]))
theorem Hq (hC:PC s T b) (ih:PG s T b K) (hm:di m) (h0:0<=a) (h1:a<T.length) (hq:QS q) (hK:64*(T.length - a).toNat+1<K+1) :
  Ev (λi=>dA (m i) (cI s T a b k q)) (λr=>St s T b k a 0 r.2/\r.1.length<=70000/\∀ x,x∈r.1->kL x) (PP (b+s.length)):=by
 refine Ev.grow (F:=λn=>dA n (cI s T a b k q)) hm λm hm=>?_
 show Ev (λi=>gp (m i) (ai (m i)) (cI s T a b k q)) _ _
 unfold gp
 have hl:=hC.l9
 refine ka hm hC h0 h1 (by omega) λa2 t h2 h3 _ _ _ _=>?_
 refine tR (s:=s) (T:=T) (b:=b) (k:=k) (a:=a+1) (d:=1) (P:=λr:List ak=>r.length<=70000/\∀ x,x∈r->kL x) ?_ λx a3 q3 h4 h5 hq3 he=>?_
 ·refine Ev.grow (F:=λn=>dO n true (cI s T a2 b k q) []) hm λm hm=>?_
  show Ev (λi=>eJ (m i) (ai (m i)) true (cI s T a2 b k q) []) _ _
  unfold eJ
  dsimp only
  refine gC (k:=true) (a:=a+1) (d:=1) (P:=λr:List ak=>r.length<=70000/\∀ x,x∈r->kL x) ?_ λx a' q' h2 h3 h4 h5=>Ev.ok ⟨⟨a',q',rfl,h2,h3,h4⟩,h5⟩
  refine Ev.grow (F:=λn=>gk n [] (cI s T a2 b true q)) hm λm hm=>?_
  show Ev (λi=>fC (m i) (ai (m i)) [] (cI s T a2 b true q)) _ _
  unfold fC
  refine fI hm hC (by omega) h3 λa3 t3 h4 h5 _ _ _=>?_
  dsimp only
  refine jZ λr _ _=>Ev.bz (λ_=>?_) (λ_=>?_)
  ·refine gC (ih.expr hm (by omega) h5 hq (by omega)) λx a4 q4 h6 h7 hq4 he=>?_
   dsimp only
   refine Ev.gA ?_
   refine Ev.iter hm (λ(x:List ak×L)=>St s T b true (a+1) 0 x.2/\(x.1.length:Int)<=x.2.at_+1/\∀ e,e∈x.1->kL e) (λx=>(T.length - x.2.at_).toNat) ⟨⟨a4,q4,rfl,by omega,h7,hq4⟩,by simp;omega,by simpa using he⟩ ?_
   rintro ⟨l,p⟩ ⟨⟨a6,q6,hp,h14,h15,hq6⟩,hl2,hl3⟩ next hn
   dsimp only at hp hl2 hl3;subst hp;dsimp only at hn hl2 ⊢
   refine lx hm hC (by omega) (by omega) (λa7 t h16 h17 _ _ _ _=>?_) (λa7 t h16 h17 _ _ _ _=>?_)
   ·dsimp only
    refine Ev.de (gC (ih.expr hm (by omega) h17 hq6 (by omega)) λe a8 q8 h18 h19 hq8 he8=>?_)
    dsimp only
    refine Ev.gA (hn _ ⟨⟨a8,q8,rfl,by omega,h19,hq8⟩,by simp;omega,λz hz=>?_⟩ (by dsimp only;omega))
    rcases List.mem_append.1 hz with w|w
    ·exact hl3 z w
    ·simp at w;subst w;exact he8
   ·dsimp only
    refine Ev.cR (nH hm hC (by omega) (by omega) (by omega) λa8 t h18 h19 _ _ _=>Ev.ok ⟨⟨a8,q6,rfl,by omega,h19,hq6⟩,by dsimp only;omega,hl3⟩)
  ·exact nH hm hC (by omega) (by omega) (by omega) λa8 t h18 h19 _ _ _=>Ev.ok ⟨⟨a8,q,rfl,by omega,h19,hq⟩,by simp,by simp⟩
 ·dsimp only
  exact Ev.gA (Ev.ok ⟨⟨a3+1,q3,rfl,by omega,by omega,hq3⟩,he⟩)
theorem Hr (hC:PC s T b) (ih:PG s T b K):Az s T b (K+1) 14 dp:=by
 intro m a k q hm h0 h1 hq hK;refine Ev.grow (F:=λn=>dp n (cI s T a b k q)) hm λm hm=>?_;show Ev (λi=>eN (m i) (ai (m i)) (cI s T a b k q)) _ _;unfold eN;refine lD hm hC h0 h1 λa2 t v h2 h3 _ _ _ _ _=>?_;dsimp only;refine fI hm hC (by omega) h3 λa3 t3 h4 h5 _ _ _=>?_;dsimp only;refine oD λr _ _=>Ev.bz (λ_=>?_) (λ_=>?_)
 ·exact gC (ih.expr hm (by omega) h5 hq (by omega)) λx a4 q4 h6 h7 hq4 he=>Ev.ok ⟨⟨a4,q4,rfl,by omega,h7,hq4⟩,he⟩
 refine rC hm hC (by omega) h5 (by omega) λa4 h6 h7=>Bu hm hC (by omega) h7 (by omega) λa5 nm h8 h9=>?_;dsimp only;refine rC hm hC (by omega) h9 (by omega) λa6 h10 h11=>gC (ih.expr hm (by omega) h11 hq (by omega)) λx a7 q7 h12 h13 hq7 he=>?_;dsimp only;refine Ev.gA ?_;refine Ev.jn (λv=>St s T b k (a+1) 0 v.1/\v.2.bc.length<=2/\v.2.Kind=15/\∀ e,e∈v.2.bc->kL e) (λw hw=>?_) (λjj hj=>?_)
 ·obtain ⟨p,e⟩:=w;obtain ⟨⟨a8,q8,hp,h14,h15,hq8⟩,hs1,hs2,hs3⟩:=hw;dsimp only at hp hs1 hs2 hs3;subst hp;dsimp only;refine ka hm hC (by omega) (by omega) (by omega) λa9 t h16 h17 _ _ _ _=>gC (ih.expr hm (by omega) h17 hq8 (by omega)) λx a10 q10 h18 h19 hq10 he10=>?_;dsimp only;refine Ev.gA (Ev.ok ⟨⟨a10,q10,rfl,by omega,h19,hq10⟩,.of (by simp;omega) (by omega) λz hz=>?_⟩);rcases List.mem_append.1 hz with w|w
  ·exact hs3 z w
  simp at w;subst w;exact he10
 refine fI hm hC (by omega) (by omega) λa8 t8 h14 h15 _ _ _=>?_;dsimp only;refine oD λr _ _=>Ev.br (λ_=>?_) (λ_=>hj _ ⟨⟨a8,q7,rfl,by omega,by omega,hq7⟩,by simp[TS],rfl,by simpa[TS] using he⟩);refine rC hm hC (by omega) h15 (by omega) λa9 h16 h17=>gC (ih.expr hm (by omega) h17 hq7 (by omega)) λx2 a10 q10 h18 h19 hq10 he10=>?_;dsimp only;refine Ev.gA (hj _ ⟨⟨a10,q10,rfl,by omega,h19,hq10⟩,by simp[TS],rfl,?_⟩);simp only[TS];intro z hz;simp at hz;rcases hz with rfl|rfl
 ·exact he
 exact he10
theorem Hs (hC:PC s T b) (ih:PG s T b K):Az s T b (K+1) 1 dq:=by
 intro m a k q hm h0 h1 hq hK;refine Ev.grow (F:=λn=>dq n (cI s T a b k q)) hm λm hm=>?_;show Ev (λi=>gr (m i) (ai (m i)) (cI s T a b k q)) _ _;unfold gr;have hl:=hC.l9;refine lD hm hC h0 h1 λa1 t v h2 h3 _ _ _ _ _=>?_;dsimp only;refine ka hm hC (by omega) h3 (by omega) λa2 t h4 h5 _ _ _ _=>?_;refine tR (s:=s) (T:=T) (b:=b) (k:=k) (a:=a+1) (d:=1) (P:=kL) ?_ λx a3 q3 h4 h5 hq3 he=>?_
 ·refine Ev.grow (F:=λn=>dN n true (cI s T a2 b k q) (ak.mk 14 [] 0 [] [] [] [] [] v)) hm λm hm=>?_;show Ev (λi=>eI (m i) (ai (m i)) true (cI s T a2 b k q) (ak.mk 14 [] 0 [] [] [] [] [] v)) _ _;unfold eI;dsimp only;refine gC (k:=true) (a:=a+1) (d:=1) (P:=kL) ?_ λx a' q' h2 h3 h4 h5=>Ev.ok ⟨⟨a',q',rfl,h2,h3,h4⟩,h5⟩;refine Ev.grow (F:=λn=>gm n (ak.mk 14 [] 0 [] [] [] [] [] v) (cI s T a2 b true q)) hm λm hm=>?_;show Ev (λi=>fF (m i) (ai (m i)) (ak.mk 14 [] 0 [] [] [] [] [] v) (cI s T a2 b true q)) _ _;unfold fF;refine Ev.iter hm (λ(x:ak×L×Bool)=>St s T b true (a+1) 0 x.2.1/\x.1.Kind=14/\x.1.Decls=[]/\x.1.bT=[]/\(x.1.bc.length:Int)+(if x.2.2 then 1 else 0)<=x.2.1.at_+1/\∀ e,e∈x.1.bc->kL e) (λx=>2*(T.length - x.2.1.at_).toNat+(if x.2.2 then 1 else 0)) ⟨⟨a2,q,rfl,by omega,by omega,hq⟩,rfl,rfl,rfl,by simp[TS];omega,by simp[TS]⟩ ?_;rintro ⟨e,p,f⟩ ⟨⟨a6,q6,hp,h14,h15,hq6⟩,hk,hd,ht,hl2,hl3⟩ next hn;dsimp only at hp hk hd ht hl2 hl3;subst hp;dsimp only at hn hl2 ⊢;refine fI hm hC (by omega) (by omega) λa7 t7 h16 h17 _ _ _=>?_;dsimp only;refine jZ λr _ _=>Ev.bz (λ_=>?_) (λ_=>?_)
  ·refine Ev.jn (λp=>∃ a8,p=cI s T a8 b true q6/\a6<=a8/\a8<T.length/\(f=false->a6<a8)) (λw hw=>?_) (λjj hj=>?_)
   ·obtain ⟨a8,rfl,h18,h19,h20⟩:=hw;have hf1:(e.bc.length:Int)<=a8:=by
     cases f with
     | true=>simp at hl2;omega
     | false=>have:=h20 rfl;simp at hl2;omega
    have hf2:∀ x:Int,a8<=x->2*(T.length - x).toNat+0<2*(T.length - a6).toNat+(if f=true then 1 else 0):=by
     intro x hx;cases f with
     | true=>simp;omega
     | false=>have:=h20 rfl;simp;omega
    refine lD hm hC (by omega) h19 λa9 t v h21 h22 _ _ _ _ _=>?_;dsimp only;refine lx hm hC (by omega) (by omega) (λa10 t h23 h24 _ _ _ _=>?_) (λa10 t h23 h24 _ _ _ _=>?_)
    ·dsimp only;refine Ev.de ?_;refine Ev.jn (λv=>St s T b true (a+1) 0 v.1/\kL v.2) (λw hw=>?_) (λjj hj=>?_)
     ·obtain ⟨p,x⟩:=w;obtain ⟨⟨a11,q11,hp,h25,h26,hq11⟩,hx⟩:=hw;dsimp only at hp hx;subst hp;dsimp only;refine Ev.gA (nH hm hC (by omega) (by omega) (by omega) λa12 t h27 h28 _ _ _=>Ev.ok ⟨⟨a12,q11,rfl,by omega,h28,hq11⟩,?_⟩);dsimp only;rw[hd,ht];refine .of (by simp;omega) (by omega) λz hz=>?_;rcases List.mem_append.1 hz with w|w
      ·exact hl3 z w
      simp at w;subst w;exact hx
     refine fI hm hC (by omega) (by omega) λa11 t11 h25 h26 _ _ _=>?_;dsimp only;refine jZ λr _ _=>Ev.bz (λ_=>?_) (λ_=>hj _ ⟨⟨a11,q6,rfl,by omega,by omega,hq6⟩,.leaf (by decide)⟩);exact gC (ih.expr hm (by omega) h26 hq6 (by omega)) λx a12 q12 h27 h28 hq12 he12=>hj _ ⟨⟨a12,q12,rfl,by omega,h28,hq12⟩,he12⟩
    dsimp only;refine Ev.cR (gC (ih.item hm (by omega) h24 hq6 (by omega)) λx a12 q12 h27 h28 hq12 he12=>?_);dsimp only;refine Ev.gA (hn _ ⟨⟨a12,q12,rfl,by omega,h28,hq12⟩,hk,hd,ht,by simp[TS];omega,λz hz=>?_⟩ (by have:=hf2 a12 (by omega);simpa using this));rcases List.mem_append.1 hz with w|w
    ·exact hl3 z w
    simp at w;subst w;exact he12
   refine Ev.bz (λhf=>?_) (λhf=>hj _ ⟨a7,rfl,h16,h17,λh=>by rw[hf] at h;cases h⟩);exact ka hm hC (by omega) h17 (by omega) λa8 t h18 h19 _ _ _ _=>hj _ ⟨a8,rfl,by omega,h19,λ_=>by omega⟩
  refine nH hm hC (by omega) (by omega) (by omega) λa8 t h18 h19 _ _ _=>Ev.ok ⟨⟨a8,q6,rfl,by omega,h19,hq6⟩,?_⟩;dsimp only;cases e with
  | mk k0 t0 n0 x0 y0 s0 d0 tl0 p0=>
   simp only[ak.Kind,ak.Decls,ak.bT,ak.bc] at hk hd ht hl2 hl3
   subst hd ht
   refine .of ?_ (by omega) hl3
   have:(s0.length:Int)<=a6+1:=by
    cases f with
    | true=>simp at hl2;omega
    | false=>simp at hl2;omega
   omega
 dsimp only;exact Ev.gA (Ev.ok ⟨⟨a3+1,q3,rfl,by omega,by omega,hq3⟩,he⟩)
end
structure Ku (d:aA):Prop where
 l2:d.Body.length<=70000
 l3:d.bT.length<=70000
 l4:∀ x,x∈d.bT->x.length<=65536
 l5:d.kh.length<=70000
 l6:∀ x,x∈d.kh->x.length<=65536
 l7:d.Trail.length<=65536
 d:∀ x,x∈d.Body->lZ x
theorem lZ.w {d:aA} (h:lZ d):Ku d:=⟨h.l2,h.l3,h.l4,h.l5,h.l6,h.l7,h.d⟩
theorem Ku.one {k p:Int} {lb a b:ByS} {x:ak} {d:aA} {pos:Int} (h:Ku d) (hx:kL x):lZ (aA.mk k p lb a b [x] d.Body d.bT d.kh d.Trail pos):=
 .mk (by simp) h.l2 h.l3 h.l4 h.l5 h.l6 h.l7 (λ_=>by simp) (by simpa using hx) h.d
theorem lZ.new {k p:Int} {lb a b:ByS} {l:List ak} {body:List aA} {tail:List ByS} {pos:Int} (h1:l.length<=70000) (h2:body.length<=70000) (h3:tail.length<=70000) (h4:∀ x,x∈tail->x.length<=65536)
  (h8:k=1\/k=2\/k=3->1<=l.length) (hs:∀ x,x∈l->kL x) (hd:∀ x,x∈body->lZ x):lZ (aA.mk k p lb a b l body tail [] [] pos):=
 .mk h1 h2 h3 h4 (by simp) (by simp) (by simp) h8 hs hd
section
variable {s:ByS} {T:List aB} {b:Int} {K:Nat} {m:Nat->Nat} {a:Int} {k:Bool} {q:Option ak} {j:Bool}
theorem Fo (hC:PC s T b) (ih:PG s T b K) (hm:di m) (h0:0<=a) (h1:a<T.length) (hq:QS q) {d:aA} (hd:lZ d) {t:aB} (ht:T[a.toNat]?=some t) (hk:t.Kind≠0) (hk7:t.Kind≠7) (hK:64*(T.length - a).toNat+14<K+1) :
  Ev (λi=>dr (m i) j (cI s T a b k q) d) (λr=>St s T b k a 0 r.1/\lZ r.2) (PP (b+s.length)):=by
 refine Ev.grow (F:=λn=>dr n j (cI s T a b k q) d) hm λm hm=>?_
 show Ev (λi=>fQ (m i) (ai (m i)) j (cI s T a b k q) d) _ _
 unfold fQ
 have hl:=hC.l9
 have hnx:=hC.next h0 ht hk
 have hw:=hd.w
 refine fI hm hC h0 h1 λa2 t2 h2 h3 ht2 h4 e2=>?_
 have e2:=e2 t ht (λ_=>hk7)
 subst e2
 dsimp only
 refine Ev.gA ?_
 refine Ev.jn (λv=>St s T b k (a2+1) 0 v.1/\Ku v.2) (λw hw=>?_) (λjj hj=>?_)
 ·obtain ⟨p,e⟩:=w
  obtain ⟨⟨a3,q3,hp,h5,h6,hq3⟩,he⟩:=hw
  dsimp only at hp he;subst hp;dsimp only
  refine ka hm hC (by omega) (by omega) (by omega) λa4 t h7 h8 _ _ _ _=>gC (ih.expr hm (by omega) h8 hq3 (by omega)) λx a5 q5 h9 h10 hq5 hx=>?_
  exact Ev.ok ⟨⟨a5,q5,rfl,by omega,h10,hq5⟩,he.one hx⟩
 ·refine lx hm hC (by omega) hnx (λa4 t h7 h8 _ _ _ _=>?_) (λa4 t h7 h8 _ _ _ _=>?_)
  ·exact Ev.de (hj _ ⟨⟨a4,q,rfl,by omega,by omega,hq⟩,hw.l2,hw.l3,hw.l4,hw.l5,hw.l6,hw.l7,hw.d⟩)
  ·dsimp only
   refine Ev.cR ?_
   refine lx hm hC (by omega) h8 (λa5 t h9 h10 _ _ _ _=>?_) (λa5 t h9 h10 _ _ _ _=>?_)
   ·exact Ev.de (hj _ ⟨⟨a5,q,rfl,by omega,by omega,hq⟩,hw.l2,hw.l3,hw.l4,hw.l5,hw.l6,hw.l7,hw.d⟩)
   ·exact Ev.cR (hj _ ⟨⟨a5,q,rfl,by omega,by omega,hq⟩,hw.l2,hw.l3,hw.l4,hw.l5,hw.l6,hw.l7,hw.d⟩)
theorem B0 (hC:PC s T b) (ih:PG s T b K) (hm:di m) (h0:0<=a) (h1:a<T.length) (hq:QS q) {d:aA} (hd:lZ d) (hp:Bv T a) (hK:64*(T.length - a).toNat+14<K+1) :
  Ev (λi=>cQ (m i) j (cI s T a b k q) d) (λr=>St s T b k a 0 r.1/\lZ r.2) (PP (b+s.length)):=by
 refine Ev.grow (F:=λn=>cQ n j (cI s T a b k q) d) hm λm hm=>?_
 show Ev (λi=>fo (m i) (ai (m i)) j (cI s T a b k q) d) _ _
 unfold fo
 have hl:=hC.l9
 have hw:=hd.w
 obtain ⟨t,u,p1,p2,p3,p4,p5,p6⟩:=hp
 refine ka hm hC h0 h1 (by omega) λa2 t2 h2 h3 _ _ _ e2=>?_
 have e2:=e2 t p1 (λ_=>by omega)
 subst e2
 refine tR (d:=1) (P:=Ku) ((vA hm hC (by omega) (Int.le_refl _) hq p3 p4 p5 (λh=>by obtain ⟨w,w1,w2⟩:=p6 h;exact ⟨w,by rw[show a+1+1=a+2 by omega];exact w1,w2⟩)).Ig λr hr=>⟨hr.1,?_⟩) λx a3 q3 h4 h5 hq3 hxw=>?_
 ·rcases hr.2 with h|⟨l,h⟩
  ·rw[h];exact ⟨hw.l2,hw.l3,hw.l4,hw.l5,hw.l6,hw.l7,hw.d⟩
  ·rw[h];exact ⟨hw.l2,hw.l3,hw.l4,hw.l5,hw.l6,hw.l7,hw.d⟩
 dsimp only
 refine Ev.gA (ka hm hC (by omega) (by omega) (by omega) λa4 t h7 h8 _ _ _ _=>gC (ih.expr hm (by omega) h8 hq3 (by omega)) λy a5 q5 h9 h10 hq5 hy=>?_)
 exact Ev.ok ⟨⟨a5,q5,rfl,by omega,h10,hq5⟩,hxw.one hy⟩
theorem B1 (hC:PC s T b) (ih:PG s T b K) (hm:di m) (h0:0<=a) (h1:a<T.length) (hq:QS q) {d:aA} (hd:lZ d) (hK:64*(T.length - a).toNat+14<K+1) :
  Ev (λi=>cP (m i) j (cI s T a b k q) d) (λr=>St s T b k a 0 r.1/\lZ r.2) (PP (b+s.length)):=by
 refine Ev.grow (F:=λn=>cP n j (cI s T a b k q) d) hm λm hm=>?_
 show Ev (λi=>fm (m i) (ai (m i)) j (cI s T a b k q) d) _ _
 unfold fm
 have hl:=hC.l9
 have hw:=hd.w
 refine gC (ih.parens hm h0 h1 hq (by omega)) λe a2 q2 h2 h3 hq2 he=>?_
 dsimp only
 refine fI hm hC (by omega) (by omega) λa3 t h4 h5 ht h6 _=>?_
 dsimp only
 refine jZ λr hr _=>Ev.br (λhr1=>?_) (λ_=>?_)
 ·have hk5:=(hr hr1).1
  have hnx:=hC.next (by omega) ht (by omega)
  refine lD hm hC (by omega) h5 λa5 t5 v h9 h10 _ h11 _ h12 h13=>?_
  have e5:=h11 t ht h6
  subst e5
  dsimp only
  refine qI hm h12 h13 he λx hx=>?_
  dsimp only
  refine Ev.gA (gC (ih.expr hm (by omega) hnx hq2 (by omega)) λy a5 q5 h9 h10 hq5 hy=>?_)
  exact Ev.ok ⟨⟨a5,q5,rfl,by omega,h10,hq5⟩,.mk (by simp) hw.l2 hw.l3 hw.l4 hw.l5 hw.l6 hw.l7 (λ_=>by simp) (by simp;exact ⟨hx,hy⟩) hw.d⟩
 ·refine gC (ih.expr (q:=some e) hm (by omega) h5 (λx hx=>by cases hx;exact he) (by omega)) λy a5 q5 h9 h10 hq5 hy=>?_
  exact Ev.ok ⟨⟨a5,q5,rfl,by omega,h10,hq5⟩,hw.one hy⟩
theorem Ht (hC:PC s T b) (ih:PG s T b K) (hm:di m) (h0:0<=a) (h1:a<T.length) (hq:QS q) {t:aB} (ht:T[a.toNat]?=some t) (hk:t.Kind≠0) (hk7:t.Kind≠7) (hK:64*(T.length - a).toNat+17<K+1) :
  Ev (λi=>cj (m i) j (cI s T a b k q)) (λr=>St s T b k a 0 r.2/\lZ r.1) (PP (b+s.length)):=by
 refine Ev.grow (F:=λn=>cj n j (cI s T a b k q)) hm λm hm=>?_
 show Ev (λi=>gq (m i) (ai (m i)) j (cI s T a b k q)) _ _
 unfold gq
 have hl:=hC.l9
 have hnx:=hC.next h0 ht hk
 refine fI hm hC h0 h1 λa2 t2 h2 h3 ht2 h4 e2=>?_
 have e2:=e2 t ht (λ_=>hk7)
 subst e2
 rw[ht] at ht2;cases ht2
 dsimp only
 refine lD hm hC (by omega) h3 λa5 t5 v h9 h10 _ h11 _ h12 h13=>?_
 have e5:=h11 t ht h4
 subst e5
 dsimp only
 refine mW hC (by omega) h3 (by omega) (by omega) λu _=>?_
 dsimp only
 have hd0:lZ (aA.mk 0 0 [] [] [] [] [] [] [] [] v):=.new (by simp) (by simp) (by simp) (by simp) (by simp) (by simp) (by simp)
 refine Ev.jn (λw=>St s T b k a5 0 w.1/\lZ w.2) (λw hw=>Ev.ok ⟨hw.1,hw.2⟩) (λjj hj=>?_)
 refine Ev.jn (λ_=>True) (λw _=>?_) (λj2 hj2=>?_)
 ·refine Ev.br (λ_=>?_) (λ_=>?_)
  ·exact tR (ih.field hm (by omega) h3 hq hd0 ht hk hk7 (by omega)) λx a6 q6 h14 h15 hq6 hx=>hj _ ⟨⟨a6,q6,rfl,h14,h15,hq6⟩,hx⟩
  refine Af hm hC (by omega) h3 λa6 r h14 h15 e6 hp=>?_
  have e6:=e6 t ht h4
  subst e6
  dsimp only
  refine Ev.br (λhr=>?_) (λ_=>?_)
  ·exact tR (ih.pattern hm (by omega) h3 hq hd0 (hp hr) (by omega)) λx a6 q6 h14 h15 hq6 hx=>hj _ ⟨⟨a6,q6,rfl,by omega,h15,hq6⟩,hx⟩
  refine oD λr _ _=>Ev.br (λ_=>?_) (λ_=>?_)
  ·refine Ev.jn (λp=>p=cI s T a6 b k q) (λp hp=>?_) (λj3 hj3=>?_)
   ·subst hp
    dsimp only
    refine Ev.gA (tq hm hC (by omega) hnx (by omega) λa7 x h16 h17=>?_)
    dsimp only
    refine ka hm hC (by omega) h17 (by omega) λa8 t8 h18 h19 _ _ _ _=>gC (ih.expr hm (by omega) h19 hq (by omega)) λx a9 q9 h20 h21 hq9 hx=>?_
    exact hj _ ⟨⟨a9,q9,rfl,by omega,h21,hq9⟩,.new (by simp) (by simp) (by simp) (by simp) (by simp) (by simpa using hx) (by simp)⟩
   ·exact Ev.bz (λ_=>iI hm hC (by omega) h3 (by omega)) (λ_=>hj3 _ rfl)
  refine jZ λr _ _=>Ev.br (λ_=>?_) (λ_=>?_)
  ·refine Ev.jn (λp=>p=cI s T a6 b k q) (λp hp=>?_) (λj3 hj3=>?_)
   ·subst hp
    dsimp only
    exact Ev.gA (hj _ ⟨⟨a6+1,q,rfl,by omega,by omega,hq⟩,.new (by simp) (by simp) (by simp) (by simp) (by simp) (by simp) (by simp)⟩)
   ·exact Ev.bz (λ_=>iI hm hC (by omega) h3 (by omega)) (λ_=>hj3 _ rfl)
  refine oD λr _ _=>Ev.br (λ_=>?_) (λ_=>?_)
  ·refine Ev.gA (gC (ih.expr hm (by omega) hnx hq (by omega)) λx a9 q9 h20 h21 hq9 hx=>?_)
   dsimp only
   refine Ev.aQ (ih.block hm (by omega) (by omega) hq9 (by omega)) λr hr=>?_
   obtain ⟨l,tl,p⟩:=r
   obtain ⟨⟨a3,q3,hp,h4,h5,hq3⟩,he1,he2,he3,he4⟩:=hr
   dsimp only at hp he1 he2 he3 he4;subst hp
   exact hj _ ⟨⟨a3,q3,rfl,by omega,h5,hq3⟩,.new (by simp) he1 he3 he4 (by simp) (by simpa using hx) he2⟩
  refine oD λr _ _=>Ev.br (λ_=>?_) (λ_=>?_)
  ·refine Ev.gA (Bu hm hC (by omega) hnx (by omega) λa7 nm h16 h17=>?_)
   dsimp only
   refine rC hm hC (by omega) h17 (by omega) λa8 h18 h19=>gC (ih.expr hm (by omega) h19 hq (by omega)) λx a9 q9 h20 h21 hq9 hx=>?_
   dsimp only
   refine Ev.aQ (ih.block hm (by omega) (by omega) hq9 (by omega)) λr hr=>?_
   obtain ⟨l,tl,p⟩:=r
   obtain ⟨⟨a3,q3,hp,h4,h5,hq3⟩,he1,he2,he3,he4⟩:=hr
   dsimp only at hp he1 he2 he3 he4;subst hp
   exact hj _ ⟨⟨a3,q3,rfl,by omega,h5,hq3⟩,.new (by simp) he1 he3 he4 (by simp) (by simpa using hx) he2⟩
  refine jZ λr _ _=>Ev.br (λ_=>?_) (λ_=>?_)
  ·exact tR (ih.uG hm (by omega) h3 hq hd0 (by omega)) λx a6 q6 h14 h15 hq6 hx=>hj _ ⟨⟨a6,q6,rfl,by omega,h15,hq6⟩,hx⟩
  ·exact gC (ih.expr hm (by omega) h3 hq (by omega)) λx a9 q9 h20 h21 hq9 hx=>hj _ ⟨⟨a9,q9,rfl,by omega,h21,hq9⟩,.new (by simp) (by simp) (by simp) (by simp) (by simp) (by simpa using hx) (by simp)⟩
 ·refine xv hm λr _=>Ev.br (λ_=>uF hm (by simp) λr _=>hj2 _ trivial) (λ_=>hj2 _ trivial)
end
end Go.Abs
end
