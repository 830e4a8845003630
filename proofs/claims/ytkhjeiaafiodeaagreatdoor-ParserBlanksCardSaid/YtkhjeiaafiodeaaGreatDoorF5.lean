/- PROVED: lemmas of a proof that ParserBlanks returns true. CONDITIONS: as each states. -/
import Derived.Test.YtkhjeiaafiodeaaGreatDoorF4
section
namespace Go.Abs
open Go.Proofs D
def dE (n:Nat) (p0:H):D (bU×H):=
 D.bind (bL n p0) λy3=>gd (cr (y3.2.at_+1)) (jn (λ(v6:H×bU)=>D.bind (aF n v6.1) λy10=>jn (λ(v11:H)=>jn (λ(v15:H×bU)=>gd (cr (v15.1.at_+1)) (D.bind (dM n (H.mk v15.1.text v15.1.X (v15.1.at_+1) v15.1.base v15.1.skip v15.1.pending)) λy21=>.ok (v15.2,y21))) λj16=>br (v6.2.Name==([]:ByS)) (D.bind (strings_LastIndex y10.1.Text ([47]:ByS)) λy26=>gd (cr (y26+1)) (gd ((0:Int)<=(y26+1)/\(y26+1)<=(List.length y10.1.Text:Int)) (D.bind (gu n (dK y10.1.Text (y26+1))) λy30=>br (!y30) (D.bind (bo n v11) λy32=>j16 (y32,(bU.mk (dK y10.1.Text (y26+1)) y10.1.Text v6.2.Pos))) (j16 (v11,(bU.mk (dK y10.1.Text (y26+1)) y10.1.Text v6.2.Pos)))))) (j16 (v11,(bU.mk v6.2.Name y10.1.Text v6.2.Pos)))) λj12=>br (y10.1.Kind !=3) (D.bind (bo n (H.mk y10.2.text y10.2.X y10.2.at_ v6.1.base y10.2.skip y10.2.pending)) λy35=>j12 (y35)) (j12 ((H.mk y10.2.text y10.2.X y10.2.at_ v6.1.base y10.2.skip y10.2.pending)))) λj7=>D.bind (aF n (H.mk y3.2.text y3.2.X (y3.2.at_+1) y3.2.base y3.2.skip y3.2.pending)) λy37=>br (y37.1.Kind==1) (D.bind (dw n (H.mk y37.2.text y37.2.X y37.2.at_ y3.2.base y37.2.skip y37.2.pending)) λy39=>j7 (y39.2,(bU.mk y39.1 [] y3.1))) (j7 ((H.mk y37.2.text y37.2.X y37.2.at_ y3.2.base y37.2.skip y37.2.pending),(bU.mk [] [] y3.1))))
theorem lk (n:Nat) (p0:H):CT Tryz.prog 59 [.ptr 0 0] [.box (K p0)] (dE n p0) (λx=>.agg [F x.1.Name,F x.1.Path,I x.1.Pos]) (λx=>[.box (K x.2)]):=by
 refine zC Tryz.func59 O λr hp h hr E hE=>A λ_ hK1=>B (aH 102 (hE _ O) O4 O ?_);refine zQ hK1 (A λ_ hK2=>B (zm O (zk hp hr h [0] Tryz.call75 (cg n p0) O (λ_=>rfl) λy3 h=>J (bd O O O) O ?_)));refine aH 103 (hE _ O) O4 O ?_;refine zs O (zQ hK2 (A λ_ hK4=>B (zm O (zn O (zf O (zl O (zd hr h λhg5 h=>zo hg5 O (zn O (zf O (zs O (zQ hK4 (zM h (λ(v6:H×bU)=>[(0,.ptr 0 0),(2,.ptr 102 0),(3,.ptr 103 0)]) (λ(v6:H×bU)=>[(0,.box (K v6.1)),(102,.box [F [],F [],I 0]),(103,.box [F v6.2.Name,F v6.2.Path,I v6.2.Pos])]) (λv6 h=>?_) λ_ _ hK8 h=>?_))))))))))))
 ·refine A λ_ hK9=>B (zm O (zk hp hr h [0] Tryz.call34 (aK n v6.1) O (λ_=>rfl) λy10 h=>aH 104 (hE _ O) O4 O ?_));refine zs O (zQ hK9 (zM h (λ(v11:H)=>[(0,.ptr 0 0),(2,.ptr 102 0),(3,.ptr 103 0),(4,.ptr 104 0)]) (λ(v11:H)=>[(0,.box (K v11)),(102,.box [F [],F [],I 0]),(103,.box [F v6.2.Name,F v6.2.Path,I v6.2.Pos]),(104,.box (ej y10.1))]) (λv11 h=>?_) λ_ _ hK13 h=>?_))
  ·refine A λ_ hK14=>B (zf O (zl O (zf O (zs O (zQ hK14 (zM h (λ(v15:H×bU)=>[(0,.ptr 0 0),(2,.ptr 102 0),(3,.ptr 103 0)]) (λ(v15:H×bU)=>[(0,.box (K v15.1)),(102,.box [F [],F [],I 0]),(103,.box [F v15.2.Name,F v15.2.Path,I v15.2.Pos])]) (λv15 h=>?_) λ_ _ hK17 h=>?_))))))
   ·refine A λ_ hK18=>B (zm O (zn O (zf O (zl O (zd hr h λhg19 h=>zo hg19 O (zn O (zf O (zs O (zQ hK18 (A λ_ hK20=>B (zm O (zk hp hr h [0] Tryz.call58 (k1 n (H.mk v15.1.text v15.1.X (v15.1.at_+1) v15.1.base v15.1.skip v15.1.pending)) O (λ_=>rfl) λy21 h=>zQ hK20 (A λ_ hK22=>B (zA O ?_))))))))))))));exact zs O (zQ hK22 (L (zX (.cons (aT O O O) .nil) h O)))
   refine A λ_ hK23=>B (zf O (zl O (J (iS O O) O (zQ hK23 (zB O h (λ_ h=>?_) λ_ h=>?_)))))
   ·refine A λ_ hK25=>bu [0,1,2,3,4,5,6,7,8] O (by kernel_rfl) (zD O (bF O) O (zD O (fh [.any,F y10.1.Text,.any] O O ⟨.inr O,.inl O,.inr O,trivial⟩ O) O (zD O (bF O) O (zD O (bj O O O) O (dG O (bQ O) hr h [] Tryz.call104 (s9 y10.1.Text ([47]:ByS)) ⟨O,O,O,O,O,O,trivial⟩ O O (λ_=>O3) (λ_=>O2) hp (λy26 h=>⟨cF ⟨trivial,⟨trivial,⟨⟨⟨_,O,M.fc ⟨.inr O,.inl O,.inr O,trivial⟩⟩,trivial⟩,⟨trivial,trivial⟩⟩⟩⟩,?_⟩))))));refine zd hr h λhg27 h=>zD O (gV O O hg27) O (zd hr h λhg28 h=>zD O (ir O O hg28.1 hg28.2) O (zD O (bF O) O (bV O O8 O (λe8 he=>⟨y O,?_⟩))));subst he;refine ct (hK25 _ _ (A λ_ hK29=>B (zf O (zl O (zk hp hr h [] Tryz.call62 (gC n (dK y10.1.Text (y26+1))) O (λ_=>rfl) λy30 h=>J (eo O) O (zQ hK29 (zB O h (λ_ h=>?_) λ_ h=>?_)))))))
    ·exact B (zm O (zk hp hr h [0] Tryz.call35 (bC n v11) O (λ_=>rfl) λy32 h=>W (hK17 _ _ _ h O)))
    exact V (hK17 _ _ _ h O)
   exact V (hK17 _ _ _ h O)
  refine A λ_ hK33=>B (zf O (zl O (zc O (zQ hK33 (zB O h (λ_ h=>?_) λ_ h=>?_)))))
  ·exact B (zm O (zk hp hr h [0] Tryz.call35 (bC n (H.mk y10.2.text y10.2.X y10.2.at_ v6.1.base y10.2.skip y10.2.pending)) O (λ_=>rfl) λy35 h=>W (hK13 _ _ _ h O)))
  exact V (hK13 _ _ _ h O)
 refine A λ_ hK36=>B (zm O (zk hp hr h [0] Tryz.call34 (aK n (H.mk y3.2.text y3.2.X (y3.2.at_+1) y3.2.base y3.2.skip y3.2.pending)) O (λ_=>rfl) λy37 h=>J (kN O O) O ?_));refine zc O (zQ hK36 (zB O h (λ_ h=>?_) λ_ h=>?_))
 ·exact B (zm O (zk hp hr h [0] Tryz.call57 (gv n (H.mk y37.2.text y37.2.X y37.2.at_ y3.2.base y37.2.skip y37.2.pending)) O (λ_=>rfl) λy39 h=>zf O (zs O (W (hK8 _ _ _ h O)))))
 exact V (hK8 _ _ _ h O)
def eZ (n:Nat) (p0:H):D (fq×H):=
 D.bind (eY n p0) λy4=>jn (λ(v5:H×fq×(List ByS))=>jn (λ(v8:H×fq)=>D.bind (fU n v5.2.2 true v8.1) λy12=>D.bind (aF n y12.2.2) λy15=>br (y15.1.Kind !=0) (D.bind (bo n (H.mk y15.2.text y15.2.X y15.2.at_ y12.2.2.base y15.2.skip y15.2.pending)) λy17=>.ok ((fq.mk v8.2.gj v8.2.cT y12.1 y12.2.1),y17)) (.ok ((fq.mk v8.2.gj v8.2.cT y12.1 y12.2.1),(H.mk y15.2.text y15.2.X y15.2.at_ y12.2.2.base y15.2.skip y15.2.pending)))) λj9=>iter (λnext21 (v20:H×fq)=>D.bind (aF n v20.1) λy25=>D.bind (eJ y25.1 ([105,109,112,111,114,116]:ByS)) λy26=>br y26 (br ((List.length v20.2.cT:Int)==0) (D.bind (dE n (H.mk y25.2.text y25.2.X y25.2.at_ v20.1.base y25.2.skip y25.2.pending)) λy29=>gd (k2 40 (List.length v20.2.cT) (List.length [y29.1])) (next21 (y29.2,(fq.mk v20.2.gj (v20.2.cT++[y29.1]) [] [])))) (gd (cr (y25.2.at_ - 1)) (el y25.2.X (y25.2.at_ - 1) λx32=>br (x32.Kind !=6) (D.bind (dE n (H.mk y25.2.text y25.2.X y25.2.at_ v20.1.base y25.2.skip y25.2.pending)) λy37=>gd (k2 40 (List.length v20.2.cT) (List.length [y37.1])) (next21 (y37.2,(fq.mk v20.2.gj (v20.2.cT++[y37.1]) [] [])))) (j9 ((H.mk y25.2.text y25.2.X y25.2.at_ v20.1.base y25.2.skip y25.2.pending),(fq.mk v20.2.gj v20.2.cT [] [])))))) (j9 ((H.mk y25.2.text y25.2.X y25.2.at_ v20.1.base y25.2.skip y25.2.pending),(fq.mk v20.2.gj v20.2.cT [] [])))) n (v5.1,(fq.mk v5.2.1.gj [] [] []))) λj6=>D.bind (aF n y4.2) λy40=>D.bind (eJ y40.1 ([112,97,99,107,97,103,101]:ByS)) λy41=>br y41 (gd (cr (y40.2.at_+1)) (D.bind (dw n (H.mk y40.2.text y40.2.X (y40.2.at_+1) y4.2.base y40.2.skip y40.2.pending)) λy46=>D.bind (dM n y46.2) λy48=>D.bind (kZ n y48) λy49=>gd (k2 16 (List.length y4.1) (List.length y49.1)) (j6 (y49.2,(fq.mk y46.1 [] [] []),y4.1++y49.1)))) (j6 ((H.mk y40.2.text y40.2.X y40.2.at_ y4.2.base y40.2.skip y40.2.pending),(fq.mk [] [] [] []),y4.1))
theorem sJ (n:Nat) (p0:H):CT Tryz.prog 27 [.ptr 0 0] [.box (K p0)] (eZ n p0) (λx=>.agg (kB x.1)) (λx=>[.box (K x.2)]):=by
 refine zC Tryz.func27 O λr hp h hr E hE=>A λ_ hK1=>B (aH 102 (hE _ O) O4 O ?_);refine zQ hK1 (A λ_ hK2=>B (aH 103 (hE _ O) O4 O ?_));refine zQ hK2 (A λ_ hK3=>B (zm O (aY (Ek 3106 (sz:=1) (el:=9) (hE _ O) O3) ?_)));refine jF hr h [0,3106] Tryz.call55 (pO n p0) ⟨O,O,O,O,O,O,⟨hE _ O,trivial⟩⟩ O (λ_=>O3) (λ_=>O2) hp (λy4 h=>?_);refine za O (aY (iT 3106 10004 [(0,.ptr 0 0),(2,.ptr 102 0),(3,.ptr 103 0),(4,.arr 10004 (List.length y4.1))] [(0,.box (K y4.2)),(102,.box [F [],nSl,nSl,nSl]),(103,.box [F [],nSl,nSl,nSl])] (hE _ O) O O O2 ⟨⟨_,O,O,O⟩,⟨_,O,O,O⟩,⟨_,O,O,O⟩,⟨_,O,O,O⟩,trivial⟩ ⟨⟨_,O,O,O,O,O⟩,⟨_,O,O,O,O,O⟩,⟨_,O,O,O,O,O⟩,trivial⟩) ?_);refine zQ hK3 (zM h (λ(v5:H×fq×(List ByS))=>[(0,.ptr 0 0),(2,.ptr 102 0),(3,.ptr 103 0),(4,.arr 10004 (List.length v5.2.2))]) (λ(v5:H×fq×(List ByS))=>[(0,.box (K v5.1)),(102,.box [F [],nSl,nSl,nSl]),(103,.box [F v5.2.1.gj,nSl,nSl,nSl]),(10004,.app 9 1 (cd v5.2.2))]) (λv5 h=>?_) λ_ _ hK7 h=>?_)
 ·refine zM h (λ(v8:H×fq)=>[(0,.ptr 0 0),(2,.ptr 102 0),(3,.ptr 103 0),(4,.arr 10004 (List.length v5.2.2))]) (λ(v8:H×fq)=>[(0,.box (K v8.1)),(102,.box [F [],nSl,nSl,nSl]),(103,.box [F v8.2.gj,.arr 26593 (List.length v8.2.cT),nSl,nSl]),(10004,.app 9 1 (cd v5.2.2)),(26593,.app 65 3 (bU.Cs v8.2.cT))]) (λv8 h=>?_) λ_ _ hK10 h=>?_
  ·refine A λ_ hK11=>B (zm O (zm O (HG [(0,.ptr 0 0),(2,.ptr 102 0),(3,.ptr 103 0),(58,.ptr 0 0)] ⟨O,O,O,O,trivial⟩ hr h [0,10004] Tryz.call60 (rX n v5.2.2 true v8.1) ⟨O,O,O,O,O,O,⟨hE _ O,trivial⟩⟩ O (λ_=>O3) (λ_=>O2) hp (λy12 h=>?_))));refine zm O (zx O (zx O (zf O (zs O (zf O (zs O (zQ hK11 (A λ_ hK13=>A λ_ hK14=>B (zm O (zk hp hr h [0] Tryz.call34 (aK n y12.2.2) O (λ_=>rfl) λy15 h=>J (kN O O) O ?_))))))))));refine zc O (zQ hK14 (zB O h (λ_ h=>?_) λ_ h=>?_))
   ·refine B (zm O (zk hp hr h [0] Tryz.call35 (bC n (H.mk y15.2.text y15.2.X y15.2.at_ y12.2.2.base y15.2.skip y15.2.pending)) O (λ_=>rfl) λy17 h=>zQ hK13 (A λ_ hK18=>B (aY (AX (j:=103) (off:=1) bU.Q bU.q O O O O O) ?_))));refine zA O ?_;exact zs O (zQ hK18 (L (zX (.cons (aT O O O) .nil) h O)))
   refine V (hK13 _ _ (A λ_ hK19=>B (aY (AX (j:=103) (off:=1) bU.Q bU.q O O O O O) ?_)));refine zA O ?_;exact zs O (zQ hK19 (L (zX (.cons (aT O O O) .nil) h O)))
  refine u (bK (sV (j:=103) (off:=1) 26593 (sz:=3) (el:=65) (hE _ O) O O O3 O) ?_);refine zL hr h (λ(v20:H×fq)=>[(0,.ptr 0 0),(2,.ptr 102 0),(3,.ptr 103 0),(4,.arr 10004 (List.length v5.2.2))]) (λ(v20:H×fq)=>[(0,.box (K v20.1)),(102,.box [F [],nSl,nSl,nSl]),(103,.box [F v20.2.gj,.arr 26593 (List.length v20.2.cT),nSl,nSl]),(10004,.app 9 1 (cd v5.2.2)),(26593,.app 65 3 (bU.Cs v20.2.cT))]) O λ_ v20 _ hK22 h=>A λ_ hK23=>A λ_ hK24=>bu [0,1,2,3,4,5,6,7,8,9,10,11,12,13,14,15,16,17,18,19,20,21,22,23] O (by kernel_rfl) (zD O (N O) O (dG O (bQ O) hr h [0] Tryz.call34 (aK n v20.1) ⟨O,O,O,O,O,O,trivial⟩ O O (λ_=>O3) (λ_=>O2) hp (λy25 h=>⟨y O,?_⟩)));refine dG O (bQ O) hr h [] Tryz.call56 (hY y25.1 ([105,109,112,111,114,116]:ByS)) ⟨O,O,O,O,O,O,trivial⟩ O O (λ_=>O3) (λ_=>O2) hp (λy26 h=>⟨y O,?_⟩);refine zD O (N O) O (zb y26 (λhb27=>?_) λhb27=>?_)
  ·refine z1 hb27 h λh=>cK hb27 O O2 (bF O) O3 ?_;refine cK hb27 O O2 (ot bU.Q bU.q O O O O O) O3 ?_;refine cK hb27 O O2 (ca O) O3 ?_;refine cK hb27 O O2 (aX O O O) O3 ?_;refine cK hb27 O O2 (N O) O3 ?_;refine zb ((List.length v20.2.cT:Int)==0) (λhb28=>?_) λhb28=>?_
   ·refine z1 hb28 h λh=>cI hb28 O O2 O2 ?_;refine cI hb28 O O2 O2 ?_;refine cI hb28 O O2 O2 ?_;refine cI hb28 O O2 O2 ?_;refine cI hb28 O O2 O2 ?_;refine cI hb28 O O2 O2 ?_;refine cI hb28 O O2 O2 ?_;refine cI hb28 O O2 O2 ?_;refine cI hb28 O O2 O2 ?_;refine cI hb28 O O2 O2 ?_;refine cI hb28 O O2 O2 ?_;refine cI hb28 O O2 O2 ?_;refine cI hb28 O O2 O2 ?_;refine cK hb27 O O2 (cY hb28 O O) O3 ?_;refine zD O (cY hb27 O O) O (ct (hK24 _ _ (cb O (λhc=>?_) (λhc=>?_))))
    ·refine V (hK23 _ _ (u (mW [] ?_)));refine bu [0,1,2,3,4,5,6,7] O (by kernel_rfl) (zD O (bF O) O (zD O (fh [.any,.arr 26593 (List.length v20.2.cT),.any,.any] O O ⟨.inr O,.inl O,.inr O,.inr O,trivial⟩ O) O (zD O (N O) O (dG O (bQ O) hr h [0] Tryz.call59 (lk n (H.mk y25.2.text y25.2.X y25.2.at_ v20.1.base y25.2.skip y25.2.pending)) ⟨O,O,O,O,O,O,trivial⟩ O O (λ_=>O3) (λ_=>O2) hp (λy29 h=>⟨cF ⟨trivial,⟨⟨⟨_,O,M.fc ⟨.inr O,.inl O,.inr O,.inr O,trivial⟩⟩,trivial⟩,⟨trivial,trivial⟩⟩⟩,?_⟩)))));refine iL [y29.1] bU.Q O (bQ O) O2 O2 ?_;refine zd hr h λhg30 h=>zr 155 O (bQ O) ⟨jD.h,dH.h,bU.Q,bU.q,bU.iu,hE _ O,O,O,(.inl O),O3,hg30⟩ O O ⟨y O,?_⟩;refine zD O (bF O) O (bV O O8 O (λe7 he=>⟨y O,?_⟩));subst he;refine gG (iT 155 26593 [(0,.ptr 0 0),(2,.ptr 102 0),(3,.ptr 103 0),(4,.arr 10004 (List.length v5.2.2))] [(10004,.app 9 1 (cd v5.2.2)),(0,.box (K y29.2)),(102,.box [F [],nSl,nSl,nSl]),(103,.box [F v20.2.gj,.arr 26593 (List.length (v20.2.cT++[y29.1])),nSl,nSl])] (hE _ O) O O O2 ⟨⟨_,O,O,O⟩,⟨_,O,O,O⟩,⟨_,O,O,O⟩,⟨_,O,O,O⟩,trivial⟩ ⟨⟨_,O,O,O,O,O⟩,⟨_,O,O,O,O,O⟩,⟨_,O,O,O,O,O⟩,⟨_,O,O,O,O,O⟩,trivial⟩) ?_;exact hK22 _ _ _ h O
    exact absurd (hc) (by simp)
   refine z2 hb28 h λh=>cK hb28 O O2 (N O) O3 ?_;refine cK hb28 O O2 (c7 O) O3 ?_;refine cK hb28 O O2 (bF O) O3 ?_;refine cK hb28 O O2 (bj O O O) O3 ?_;refine cK hb28 O O2 (N O) O3 ?_;refine cK hb28 O O2 (c7 O) O3 ?_;refine cK hb28 O O2 (bF O) O3 ?_;refine cK hb28 O O2 (bj O O O) O3 ?_;refine zd hr h λhg31 h=>cK hb28 O O2 (jT O O hg31) O3 ?_;refine ze hr h λx32 h33 h34 h35 h=>cK hb28 O O2 (fR aA.Q aA.q h33 h34 h35 O O O) O3 ?_;refine cK hb28 O O2 (iF O O) O3 ?_;refine cK hb28 O O2 (dT O O) O3 ?_;refine cK hb28 O O2 (aX O O O) O3 ?_;refine cK hb27 O O2 (cU hb28 O O) O3 ?_;refine zD O (cY hb27 O O) O (ct (hK24 _ _ (zB O h (λ_ h=>?_) λ_ h=>?_)))
   ·refine V (hK23 _ _ (u (mW [] ?_)));refine bu [0,1,2,3,4,5,6,7] O (by kernel_rfl) (zD O (bF O) O (zD O (fh [.any,.arr 26593 (List.length v20.2.cT),.any,.any] O O ⟨.inr O,.inl O,.inr O,.inr O,trivial⟩ O) O (zD O (N O) O (dG O (bQ O) hr h [0] Tryz.call59 (lk n (H.mk y25.2.text y25.2.X y25.2.at_ v20.1.base y25.2.skip y25.2.pending)) ⟨O,O,O,O,O,O,trivial⟩ O O (λ_=>O3) (λ_=>O2) hp (λy37 h=>⟨cF ⟨trivial,⟨⟨⟨_,O,M.fc ⟨.inr O,.inl O,.inr O,.inr O,trivial⟩⟩,trivial⟩,⟨trivial,trivial⟩⟩⟩,?_⟩)))));refine iL [y37.1] bU.Q O (bQ O) O2 O2 ?_;refine zd hr h λhg38 h=>zr 155 O (bQ O) ⟨jD.h,dH.h,bU.Q,bU.q,bU.iu,hE _ O,O,O,(.inl O),O3,hg38⟩ O O ⟨y O,?_⟩;refine zD O (bF O) O (bV O O8 O (λe7 he=>⟨y O,?_⟩));subst he;refine gG (iT 155 26593 [(0,.ptr 0 0),(2,.ptr 102 0),(3,.ptr 103 0),(4,.arr 10004 (List.length v5.2.2))] [(10004,.app 9 1 (cd v5.2.2)),(0,.box (K y37.2)),(102,.box [F [],nSl,nSl,nSl]),(103,.box [F v20.2.gj,.arr 26593 (List.length (v20.2.cT++[y37.1])),nSl,nSl])] (hE _ O) O O O2 ⟨⟨_,O,O,O⟩,⟨_,O,O,O⟩,⟨_,O,O,O⟩,⟨_,O,O,O⟩,trivial⟩ ⟨⟨_,O,O,O,O,O⟩,⟨_,O,O,O,O,O⟩,⟨_,O,O,O,O,O⟩,⟨_,O,O,O,O,O⟩,trivial⟩) ?_;exact hK22 _ _ _ h O
   exact aS (hK10 _ _ _ h O)
  refine z2 hb27 h λh=>cI hb27 O O2 O2 ?_;refine cI hb27 O O2 O2 ?_;refine cI hb27 O O2 O2 ?_;refine cI hb27 O O2 O2 ?_;refine cI hb27 O O2 O2 ?_;refine p8 O O2 O2 ?_;refine p8 O O2 O2 ?_;refine p8 O O2 O2 ?_;refine p8 O O2 O2 ?_;refine p8 O O2 O2 ?_;refine p8 O O2 O2 ?_;refine p8 O O2 O2 ?_;refine p8 O O2 O2 ?_;refine p8 O O2 O2 ?_;refine p8 O O2 O2 ?_;refine p8 O O2 O2 ?_;refine p8 O O2 O2 ?_;refine p8 O O2 O2 ?_;refine cI hb27 O O2 O2 ?_;refine zD O (cU hb27 O O) O (ct (hK24 _ _ (cb O (λhc=>?_) (λhc=>?_))))
  ·exact absurd (hc) (by simp)
  exact aS (hK10 _ _ _ h O)
 refine A λ_ hK39=>B (zm O (zk hp hr h [0] Tryz.call34 (aK n y4.2) O (λ_=>rfl) λy40 h=>zk hp hr h [] Tryz.call56 (hY y40.1 ([112,97,99,107,97,103,101]:ByS)) O (λ_=>rfl) λy41 h=>zQ hK39 (zB O h (λ_ h=>?_) λ_ h=>?_)))
 ·refine A λ_ hK43=>B (zm O (zn O (zf O (zl O (zd hr h λhg44 h=>zo hg44 O (zn O (zf O (zs O (zQ hK43 (A λ_ hK45=>B (zm O (zk hp hr h [0] Tryz.call57 (gv n (H.mk y40.2.text y40.2.X (y40.2.at_+1) y4.2.base y40.2.skip y40.2.pending)) O (λ_=>rfl) λy46 h=>zf O (zs O (zQ hK45 (A λ_ hK47=>B (zm O (zk hp hr h [0] Tryz.call58 (k1 n y46.2) O (λ_=>rfl) λy48 h=>zQ hK47 (B ?_))))))))))))))))));refine zm O (zm O (zk hp hr h [0] Tryz.call55 (nZ n y48) O (λ_=>rfl) λy49 h=>zd hr h λhg50 h=>jo 125 ⟨jD.h,dH.h,dS,gb,su,hE _ O,O,O,(.inl O),O3,hg50⟩ O ?_));refine za O (aY (iT 125 10004 [(0,.ptr 0 0),(2,.ptr 102 0),(3,.ptr 103 0),(4,.arr 10004 (List.length (y4.1++y49.1)))] [(0,.box (K y49.2)),(102,.box [F [],nSl,nSl,nSl]),(103,.box [F y46.1,nSl,nSl,nSl])] (hE _ O) O O O2 ⟨⟨_,O,O,O⟩,⟨_,O,O,O⟩,⟨_,O,O,O⟩,⟨_,O,O,O⟩,trivial⟩ ⟨⟨_,O,O,O,O,O⟩,⟨_,O,O,O,O,O⟩,⟨_,O,O,O,O,O⟩,trivial⟩) ?_);exact W (hK7 _ _ _ h O)
 exact V (hK7 _ _ _ h O)
def iE (n:Nat) (p0:fq):D (Int):=
 jn (λ(v3:aq)=>iter (λnext9 (v8:aq×Int)=>br (decide (v8.2<(List.length p0.cT:Int))) (el p0.cT v8.2 λIx=>D.bind (gu n Ix.Name) λy20=>D.bind (aC n [y20] v8.1) λy21=>gd (cr (v8.2+1)) (next9 (y21,v8.2+1))) (D.bind (bT n p0.Decls true 1 v8.1) λy24=>D.bind (ig y24) λy26=>.ok (y26.1))) n (v3,0)) λj4=>br (p0.gj==([]:ByS)) (D.bind (ia n p0.cl) λy28=>D.bind (aC n [true,y28] (aq.mk false false)) λy29=>j4 (y29)) (D.bind (gu n p0.gj) λy30=>D.bind (ia n p0.cl) λy31=>D.bind (aC n [y30,y31] (aq.mk false false)) λy32=>j4 (y32))
theorem w9 (n:Nat) (p0:fq):CT Tryz.prog 28 [.agg (kB p0)] [] (iE n p0) (λx=>I x) (λ_=>[]):=by
 refine zC Tryz.func28 O λr hp h hr E hE=>A λ_ hK1=>B (dN 101 (hE _ O) O7 O ?_);refine za O (zQ hK1 (A λ_ hK2=>B (J (bd O O O) O ?_)));refine dN 107 (hE _ O) O7 O ?_;refine za O (zQ hK2 (zM h (λ(v3:aq)=>[(0,.agg (kB p0)),(1,.ptr 101 0),(3,.ptr 107 0)]) (λ(v3:aq)=>[(101,.box (kB p0)),(107,.box (aI v3))]) (λv3 h=>?_) λ_ _ hK5 h=>?_))
 ·refine A λ_ hK6=>A λ_ hK7=>B (zf O (zl O (J (ca O) O (zm O (zQ hK7 (u (zL hr h (λ(v8:aq×Int)=>[(0,.agg (kB p0)),(1,.ptr 101 0),(3,.ptr 107 0),(23,.pv (.sl (List.length p0.cT) (bU.Cs p0.cT))),(24,I (List.length p0.cT:Int)),(25,I v8.2)]) (λ(v8:aq×Int)=>[(101,.box (kB p0)),(107,.box (aI v8.1))]) O λ_ v8 _ hK10 h=>A λ_ hK11=>B (zc O (zQ hK11 (A λ_ hK12=>zB O h (λ_ h=>?_) λ_ h=>?_))))))))))
  ·refine V (hK12 _ _ (A λ_ hK14=>u (A λ_ hK15=>B (ze hr h λIx h17 h18 h19 h=>J (fR bU.Q bU.q h17 h18 h19 O O O) O (J (iJ O O) O ?_)))));refine aH 105 (hE _ O) O4 O ?_;refine zs O (zQ hK15 (B (zm O (zf O (zl O (zk hp hr h [] Tryz.call62 (gC n Ix.Name) O (λ_=>rfl) λy20 h=>bN [y20] bD O2 O ?_))))));exact zk hp hr h [107] Tryz.call61 (aB n [y20] v8.1) O (λ_=>rfl) λy21 h=>zQ hK14 (B (zd hr h λhg22 h=>zo hg22 O (zm O (W (hK10 _ _ _ h O)))))
  exact aS (hK6 _ _ (A λ_ hK23=>B (zm O (zf O (zl O (zk hp hr h [107] Tryz.call64 (ra n p0.Decls true 1 v8.1) O (λ_=>rfl) λy24 h=>zQ hK23 (A λ_ hK25=>B (zm O (zk hp hr h [107] Tryz.call65 (l9 y24) O (λ_=>rfl) λy26 h=>za O (zQ hK25 (L (z O h O))))))))))))
 refine bu [0,1,2,3,4,5,6,9,10,7,8,11,12,13] O (by kernel_rfl) (zD O (N O) O (zD O (bF O) O (zD O (bj O O O) O (zD O (iS O O) O (zD O (N O) O (zb (p0.gj==([]:ByS)) (λhb27=>?_) λhb27=>?_))))))
 ·refine z1 hb27 h λh=>cI hb27 O O2 O2 ?_;refine cI hb27 O O2 O2 ?_;refine zD O (bF O) O (zD O (fh [.any,.any,.any,.pv (.sl (List.length p0.cl) (cd p0.cl))] O O ⟨.inr O,.inr O,.inr O,.inl O,trivial⟩ O) O (uO hb27 O O2 O2 ?_));refine zD O (cY hb27 O O) O (dG O (bQ O) hr h [] Tryz.call63 (iQ n p0.cl) ⟨O,O,O,O,O,O,trivial⟩ O O (λ_=>O3) (λ_=>O2) hp (λy28 h=>⟨y O,?_⟩));refine iL [true,y28] bD O (bQ O) O2 O2 ?_;refine dG O (bQ O) hr h [107] Tryz.call61 (aB n [true,y28] (aq.mk false false)) ⟨O,O,O,O,O,O,trivial⟩ O O (λ_=>O3) (λ_=>O2) hp (λy29 h=>⟨y O,?_⟩);exact ct (hK5 _ _ _ h O)
 refine z2 hb27 h λh=>cK hb27 O O2 (bF O) O3 ?_;refine cK hb27 O O2 (bj O O O) O3 ?_;refine zD O (bF O) O (zD O (fh [.any,.any,.any,.pv (.sl (List.length p0.cl) (cd p0.cl))] O O ⟨.inr O,.inr O,.inr O,.inl O,trivial⟩ O) O (dG O (AU hb27 O O2) hr h [] Tryz.call62 (gC n p0.gj) ⟨O,O,O,O,O,O,trivial⟩ O O (λ_=>O3) (λ_=>O2) hp (λy30 h=>⟨cF ⟨⟨⟨_,O,M.fc ⟨.inr O,.inr O,.inr O,.inl O,trivial⟩⟩,trivial⟩,⟨trivial,⟨trivial,⟨trivial,⟨trivial,⟨trivial,⟨trivial,⟨trivial,⟨trivial,trivial⟩⟩⟩⟩⟩⟩⟩⟩⟩,?_⟩)));refine zD O (cU hb27 O O) O (dG O (bQ O) hr h [] Tryz.call63 (iQ n p0.cl) ⟨O,O,O,O,O,O,trivial⟩ O O (λ_=>O3) (λ_=>O2) hp (λy31 h=>⟨y O,?_⟩));refine iL [y30,y31] bD O (bQ O) O2 O2 ?_;refine dG O (bQ O) hr h [107] Tryz.call61 (aB n [y30,y31] (aq.mk false false)) ⟨O,O,O,O,O,O,trivial⟩ O O (λ_=>O3) (λ_=>O2) hp (λy32 h=>⟨y O,?_⟩);exact ct (hK5 _ _ _ h O)
def fg (n:Nat) (p0:ByS):D (fq×cL):=
 D.bind (gN n p0) λy3=>br (y3.2.Errno !=0) (.ok ((fq.mk [] [] [] []),y3.2)) (oF (D.bind (eZ n (H.mk p0 y3.1 0 0 false none)) λy12=>D.bind (iE n y12.1) λy15=>br (y15==9) (.ok ((fq.mk [] [] [] []),(cL.mk 9 0))) (.ok (y12.1,(cL.mk 0 0)))) (λp=>sn 86 p λv21=>D.bind (jk v21) λy22=>.ok (y22.1,y22.2)))
theorem ku (n:Nat) (p0:ByS):CT Tryz.prog 12 [F p0] [] (fg n p0) (λx=>.fZ [.agg (kB x.1),.agg [I x.2.Errno,I x.2.At]]) (λ_=>[]):=by
 refine sX Tryz.func12 O O λr h hr E hE=>?_;refine A λ_ hK1=>B (aH 102 (hE _ O) O4 O ?_);refine aH 103 (hE _ O) O4 O ?_;refine zQ hK1 (A λ_ hK2=>B (zm O (jF hr h [] Tryz.call24 (qS n p0) ⟨O,O,O,O,O,O,trivial⟩ O (λ_=>O3) (λ_=>O2) (λ_ _ _ hd hp=>wc (P:=Tryz.prog) (fn:=Tryz.f12) hd hp) (λy3 h=>?_))));refine zm O (zx O (zx O (za O (zs O (zQ hK2 (A λ_ hK4=>A λ_ hK5=>B (zf O (zl O (zc O (zQ hK5 (zB O h (λ_ h=>?_) λ_ h=>?_)))))))))))
 ·refine A λ_ hK7=>bu [0,1,2,3] O (by kernel_rfl) (zD O (dA O O) O ?_);refine zD O (jS O O O O) O ?_;refine bV O O8 O (λe2 he=>⟨cF ⟨⟨⟨_,O,M.le_refl _⟩,trivial⟩,⟨trivial,trivial⟩⟩,?_⟩);subst he;refine bV O O8 O (λe3 he=>⟨y O,?_⟩);subst he;refine ct (hK7 _ _ (bK (jP 102 O O) ?_));exact L (ud (n:=Tryz.f12.ntmps) (.inl O) (mV (.inl O) _ (.cons (aT O O O) (.cons (aT O O O) .nil)) h.symm (AV.le_refl _) trivial))
 refine V (hK4 _ _ (A λ_ hK8=>B (J (qb O O) O ?_)));refine zE O ?_;have hrO:=hr;obtain ⟨r,hr,h,hc⟩:=wb hr h;refine zQ hK8 (A λ_ hK9=>B (zm O (zm O (J (dA O O) O ?_))));refine dN 121 (hE _ O) O7 O ?_;refine za O (zQ hK9 (A λ_ hK10=>B (zm O (J (qb O O) O ?_))));refine za O (zQ hK10 (A λ_ hK11=>B (zm O (aY (jP 121 O O) ?_))));refine pB hr h [121] Tryz.call27 (sJ n (H.mk p0 y3.1 0 0 false none)) ⟨O,O,O,O,O,O,trivial⟩ O O (λ_=>O3) (λ_=>O2) O (λp hp=>?_) (λy12 h=>?_)
 ·obtain ⟨v20,rfl,hc⟩:=lQ hrO (lR hc hp);obtain ⟨hns,hok,_⟩:=kM hrO hc;repeat (first|refine lS ?_|refine kO ?_)
  refine iM (n:=Tryz.f12.ntmps) [102,103] Tryz.call25 (nN v20) hns O ⟨O,O,O,O⟩ (λ_=>O2) (λx hx=>?_);exact ga (.inl O) _ (.cons (aT O O O) (.cons (aT O O O) .nil)) (hok x hx).symm (AV.le_refl _) trivial
 refine zs O (zQ hK11 (A λ_ hK13=>A λ_ hK14=>B (zA O ?_)));refine pB hr h [] Tryz.call28 (w9 n y12.1) ⟨O,O,O,O,O,O,trivial⟩ O O (λ_=>O3) (λ_=>O2) O (λp hp=>?_) (λy15 h=>?_)
 ·obtain ⟨v19,rfl,hc⟩:=lQ hrO (lR hc hp);obtain ⟨hns,hok,_⟩:=kM hrO hc;repeat (first|refine lS ?_|refine kO ?_)
  refine iM (n:=Tryz.f12.ntmps) [102,103] Tryz.call25 (nN v19) hns O ⟨O,O,O,O⟩ (λ_=>O2) (λx hx=>?_);exact ga (.inl O) _ (.cons (aT O O O) (.cons (aT O O O) .nil)) (hok x hx).symm (AV.le_refl _) trivial
 refine zc O (zQ hK14 (zB O h (λ_ h=>?_) λ_ h=>?_))
 ·refine A λ_ hK17=>B (J (dA O O) O ?_);refine J (bd O O O) O ?_;refine zs O (zs O (zQ hK17 (bK (jP 102 O O) ?_)));refine L (lB (n:=Tryz.f12.ntmps) (.inl O) [102,103] Tryz.call25 (my [.box [F [],.pv (.sl (List.length ([]:List bU)) (bU.Cs [])),.pv (.sl (List.length ([]:List Z)) (Z.Cs [])),.pv (.sl (List.length ([]:List ByS)) (cd []))],.box [I 9,I 0]]) ⟨O,O,O,O⟩ O O ?_);exact ga (.inl O) _ (.cons (aT O O O) (.cons (aT O O O) .nil)) (qK hc h.symm) (AV.le_refl _) trivial
 refine V (hK13 _ _ (A λ_ hK18=>B (zA O ?_)));refine J (bd O O O) O ?_;refine zs O (zs O (zQ hK18 (L (lB (n:=Tryz.f12.ntmps) (.inl O) [102,103] Tryz.call25 (my [.box (kB y12.1),.box [I 0,I 0]]) ⟨O,O,O,O⟩ O O ?_))));exact ga (.inl O) _ (.cons (aT O O O) (.cons (aT O O O) .nil)) (qK hc h.symm) (AV.le_refl _) trivial
def jW (n:Nat):D (Bool):=
 D.bind (fg n ([97,58,32,49,44,32,98,58,32,97,32,38,32,105,110,116]:ByS)) λy3=>D.bind (vy n ([42,49]:ByS)) λy5=>D.bind (fg n ([97,58,32,42,49]:ByS)) λy7=>D.bind (fg n ([120,58,32,123,121,58,32,122,125]:ByS)) λy9=>D.bind (fg n ([120,58,32,49,32,124,32,123,121,58,32,122,125]:ByS)) λy11=>jn (λ(v13:Bool)=>br v13 (.ok (false)) (br ((y5.2.Errno==8)&&(y5.2.At==2)) (br ((y7.2.Errno==8)&&(y7.2.At==5)) (el y3.1.Decls 1 λx21=>el x21.bg 0 λx25=>br (x25.Kind==16) (el y9.1.Decls 0 λx30=>el x30.bg 0 λx34=>br (x34.Kind==13) (el y11.1.Decls 0 λx39=>el x39.bg 0 λx43=>el x43.bg 1 λx47=>.ok ((x47.Kind==22))) (.ok (false))) (.ok (false))) (.ok (false))) (.ok (false)))) λj14=>br (y3.2.Errno !=0) (j14 (true)) (br (y9.2.Errno !=0) (j14 (true)) (br (y11.2.Errno !=0) (j14 (true)) (br ((List.length y3.1.Decls:Int) !=2) (j14 (true)) (br ((List.length y9.1.Decls:Int) !=1) (j14 (true)) (br ((List.length y11.1.Decls:Int) !=1) (j14 (true)) (el y3.1.Decls 1 λx57=>br ((List.length x57.bg:Int) !=1) (j14 (true)) (el y9.1.Decls 0 λx62=>br ((List.length x62.bg:Int) !=1) (j14 (true)) (el y11.1.Decls 0 λx67=>br ((List.length x67.bg:Int) !=1) (j14 (true)) (el y11.1.Decls 0 λx72=>el x72.bg 0 λx76=>j14 (((List.length x76.bg:Int) !=2)))))))))))
theorem mK (n:Nat):CT Tryz.prog 11 [] [] (jW n) (λx=>Bo x) (λ_=>[]):=by
 refine zC Tryz.func11 O λr hp h hr E hE=>A λ_ hK1=>B (za O (zQ hK1 (A λ_ hK2=>B (zk hp hr h [] Tryz.call12 (ku n ([97,58,32,49,44,32,98,58,32,97,32,38,32,105,110,116]:ByS)) O (λ_=>rfl) λy3 h=>zm O (zx O (zx O (aH 101 (hE _ O) O4 O ?_)))))));refine aH 102 (hE _ O) O4 O ?_;refine zs O (zs O (zQ hK2 (A λ_ hK4=>B (zk hp hr h [] Tryz.call15 (xN n ([42,49]:ByS)) O (λ_=>rfl) λy5 h=>zm O (zx O (zx O (aH 103 (hE _ O) O4 O ?_)))))));refine aH 104 (hE _ O) O4 O ?_;refine zs O (zs O (zQ hK4 (A λ_ hK6=>B (zk hp hr h [] Tryz.call12 (ku n ([97,58,32,42,49]:ByS)) O (λ_=>rfl) λy7 h=>zm O (zx O (zx O (aH 105 (hE _ O) O4 O ?_)))))));refine aH 106 (hE _ O) O4 O ?_;refine zs O (zs O (zQ hK6 (A λ_ hK8=>B (zk hp hr h [] Tryz.call12 (ku n ([120,58,32,123,121,58,32,122,125]:ByS)) O (λ_=>rfl) λy9 h=>zm O (zx O (zx O (aH 107 (hE _ O) O4 O ?_)))))));refine aH 108 (hE _ O) O4 O ?_;refine zs O (zs O (zQ hK8 (A λ_ hK10=>B (zk hp hr h [] Tryz.call12 (ku n ([120,58,32,49,32,124,32,123,121,58,32,122,125]:ByS)) O (λ_=>rfl) λy11 h=>zm O (zx O (zx O (aH 109 (hE _ O) O4 O ?_)))))));refine aH 110 (hE _ O) O4 O ?_;refine zs O (zs O (zQ hK10 (A λ_ hK12=>zM h (λ(v13:Bool)=>[(1,.ptr 101 0),(4,.ptr 104 0),(6,.ptr 106 0),(7,.ptr 107 0),(9,.ptr 109 0),(100,Bo v13)]) (λ(v13:Bool)=>[(101,.box (kB y3.1)),(104,.box [I y5.2.Errno,I y5.2.At]),(106,.box [I y7.2.Errno,I y7.2.At]),(107,.box (kB y9.1)),(109,.box (kB y11.1))]) (λv13 h=>?_) λ_ _ hK15 h=>?_)))
 ·refine zB O h (λ_ h=>?_) λ_ h=>?_
  ·exact A λ_ hK17=>B (za O (zQ hK17 (L (z O h O))))
  refine V (hK12 _ _ (A λ_ hK18=>B (zA O ?_)));refine J (bd O O O) O ?_;refine J (Hf O O) O (zm O (zb ((y5.2.Errno==8)&&(y5.2.At==2)) (λhb19=>?_) λhb19=>?_))
  ·refine z1 hb19 h λh=>zG hb19 O (jS O O O O) ?_;refine zG hb19 O (bd O O O) ?_;refine zG hb19 O (Hf O O) (zy hb19 O (zm O (zb ((y7.2.Errno==8)&&(y7.2.At==5)) (λhb20=>?_) λhb20=>?_)))
   ·refine z1 hb20 h λh=>zG hb20 O (bF O) (zG hb20 O (bj O O O) (ze hr h λx21 h22 h23 h24 h=>zG hb20 O (fR Z.Q Z.q h22 h23 h24 O O O) (zG hb20 O (iF O O) (zG hb20 O (dT O O) (ze hr h λx25 h26 h27 h28 h=>zG hb20 O (fR U.Q U.q h26 h27 h28 O O O) (zG hb20 O (iF O O) (zG hb20 O (dT O O) (zG hb20 O (aX O O O) (zy hb20 O (zm O (zb (x25.Kind==16) (λhb29=>?_) λhb29=>?_)))))))))))
    ·refine z1 hb29 h λh=>zG hb29 O (bF O) (zG hb29 O (bj O O O) (ze hr h λx30 h31 h32 h33 h=>zG hb29 O (fR Z.Q Z.q h31 h32 h33 O O O) (zG hb29 O (iF O O) (zG hb29 O (dT O O) (ze hr h λx34 h35 h36 h37 h=>zG hb29 O (fR U.Q U.q h35 h36 h37 O O O) (zG hb29 O (iF O O) (zG hb29 O (dT O O) (zG hb29 O (aX O O O) (zy hb29 O (zm O (zb (x34.Kind==13) (λhb38=>?_) λhb38=>?_)))))))))))
     ·exact z1 hb38 h λh=>zG hb38 O (bF O) (zG hb38 O (bj O O O) (ze hr h λx39 h40 h41 h42 h=>zG hb38 O (fR Z.Q Z.q h40 h41 h42 O O O) (zG hb38 O (iF O O) (zG hb38 O (dT O O) (ze hr h λx43 h44 h45 h46 h=>zG hb38 O (fR U.Q U.q h44 h45 h46 O O O) (zG hb38 O (iF O O) (zG hb38 O (dT O O) (ze hr h λx47 h48 h49 h50 h=>zG hb38 O (fR U.Q U.q h48 h49 h50 O O O) (zG hb38 O (iF O O) (zG hb38 O (dT O O) (zG hb38 O (aX O O O) (zy hb38 O (za O (zQ hK18 (L (z O h O))))))))))))))))
     exact z2 hb38 h λh=>zH 12 O hb38 (zw hb38 O (za O (zQ hK18 (L (z O h O)))))
    refine z2 hb29 h λh=>zH 9 O hb29 (zw hb29 O (zm O (zH 12 O O (J (de O O) O ?_))));exact za O (zQ hK18 (L (z O h O)))
   refine z2 hb20 h λh=>zH 9 O hb20 (zw hb20 O (zm O (zH 9 O O (J (de O O) O (zm O (zH 2 O O ?_))))));exact zH 10 O O (J (de O O) O (za O (zQ hK18 (L (z O h O)))))
  refine z2 hb19 h λh=>zH 3 O hb19 (zw hb19 O (zm O (zH 9 O O (J (de O O) O (zm O (zH 8 O O ?_))))));exact zg O O (J (de O O) O (zm O (zH 12 O O (J (de O O) O (za O (zQ hK18 (L (z O h O))))))))
 refine B (zf O (zl O (zc O (zm O (zb (y3.2.Errno !=0) (λhb51=>?_) λhb51=>?_)))))
 ·refine z1 hb51 h λh=>zH 3 O hb51 (zy hb51 O (zm O (zH 3 O O (zt O (zm O (zH 4 O O (zt O (zm O (zH 4 O O (zt O (zm O (zH 2 O O ?_))))))))))));refine zH 2 O O (zt O (zm O (zH 7 O O (zt O (zm O (zH 7 O O (zt O (zm O (zH 3 O O ?_)))))))));exact zH 4 O O (zt O (zm O (zH 10 O O (zt O (W (hK15 _ _ _ h O))))))
 refine z2 hb51 h λh=>zG hb51 O (bF O) (zG hb51 O (bj O O O) (zG hb51 O (aX O O O) (zw hb51 O (zm O (zb (y9.2.Errno !=0) (λhb52=>?_) λhb52=>?_)))))
 ·refine z1 hb52 h λh=>zH 3 O hb52 (zy hb52 O (zm O (zH 4 O O (zt O (zm O (zH 4 O O (zt O (zm O (zH 4 O O (zt O (zm O (zg O O ?_))))))))))));refine zH 6 O O (zt O (zm O (zH 7 O O (zt O (zm O (zH 7 O O (zt O ?_)))))));exact zm O (zH 10 O O (zt O (W (hK15 _ _ _ h O))))
 refine z2 hb52 h λh=>zG hb52 O (bF O) (zG hb52 O (bj O O O) (zG hb52 O (aX O O O) (zw hb52 O (zm O (zb (y11.2.Errno !=0) (λhb53=>?_) λhb53=>?_)))))
 ·refine z1 hb53 h λh=>zH 4 O hb53 (zy hb53 O (zm O (zH 4 O O (zt O (zm O (zH 4 O O (zt O (zm O (zH 6 O O ?_)))))))));refine zg O O (zt O (zm O (zH 7 O O (zt O (zm O (zH 7 O O (zt O (zm O (zH 4 O O ?_)))))))));exact zH 6 O O (zt O (W (hK15 _ _ _ h O)))
 refine z2 hb53 h λh=>zG hb53 O (bF O) (zG hb53 O (bj O O O) (zG hb53 O (ca O) (zG hb53 O (aX O O O) (zw hb53 O (zm O (zb ((List.length y3.1.Decls:Int) !=2) (λhb54=>?_) λhb54=>?_))))))
 ·refine z1 hb54 h λh=>zH 4 O hb54 (zy hb54 O (zm O (zH 4 O O (zt O (zm O (zH 7 O O (zt O (zm O (zH 3 O O ?_)))))))));refine zH 4 O O (zt O (zm O (zH 7 O O (zt O (zm O (zH 10 O O ?_))))));exact zt O (W (hK15 _ _ _ h O))
 refine z2 hb54 h λh=>zG hb54 O (bF O) (zG hb54 O (bj O O O) (zG hb54 O (ca O) (zG hb54 O (aX O O O) (zw hb54 O (zm O (zb ((List.length y9.1.Decls:Int) !=1) (λhb55=>?_) λhb55=>?_))))))
 ·refine z1 hb55 h λh=>zH 4 O hb55 (zy hb55 O (zm O (zH 7 O O (zt O (zm O (zH 7 O O (zt O (zm O ?_))))))));exact zH 7 O O (zt O (zm O (zH 10 O O (zt O (W (hK15 _ _ _ h O))))))
 refine z2 hb55 h λh=>zG hb55 O (bF O) (zG hb55 O (bj O O O) (zG hb55 O (ca O) (zG hb55 O (aX O O O) (zw hb55 O (zm O (zb ((List.length y11.1.Decls:Int) !=1) (λhb56=>?_) λhb56=>?_))))))
 ·refine z1 hb56 h λh=>zH 7 O hb56 (zy hb56 O (zm O (zH 7 O O (zt O (zm O (zH 6 O O ?_))))));exact zg O O (zt O (zm O (zH 10 O O (zt O (W (hK15 _ _ _ h O))))))
 refine z2 hb56 h λh=>zG hb56 O (bF O) (zG hb56 O (bj O O O) (ze hr h λx57 h58 h59 h60 h=>zG hb56 O (fR Z.Q Z.q h58 h59 h60 O O O) (zG hb56 O (iF O O) (zG hb56 O (dT O O) (zG hb56 O (ca O) (zG hb56 O (aX O O O) (zw hb56 O (zm O (zb ((List.length x57.bg:Int) !=1) (λhb61=>?_) λhb61=>?_)))))))))
 ·refine z1 hb61 h λh=>zH 7 O hb61 (zy hb61 O (zm O (zH 7 O O (zt O (zm O (zH 6 O O ?_))))));exact zH 4 O O (zt O (W (hK15 _ _ _ h O)))
 refine z2 hb61 h λh=>zG hb61 O (bF O) (zG hb61 O (bj O O O) (ze hr h λx62 h63 h64 h65 h=>zG hb61 O (fR Z.Q Z.q h63 h64 h65 O O O) (zG hb61 O (iF O O) (zG hb61 O (dT O O) (zG hb61 O (ca O) (zG hb61 O (aX O O O) (zw hb61 O (zm O (zb ((List.length x62.bg:Int) !=1) (λhb66=>?_) λhb66=>?_)))))))))
 ·exact z1 hb66 h λh=>zH 7 O hb66 (zy hb66 O (zm O (zH 10 O O (zt O (W (hK15 _ _ _ h O))))))
 refine z2 hb66 h λh=>zG hb66 O (bF O) (zG hb66 O (bj O O O) (ze hr h λx67 h68 h69 h70 h=>zG hb66 O (fR Z.Q Z.q h68 h69 h70 O O O) (zG hb66 O (iF O O) (zG hb66 O (dT O O) (zG hb66 O (ca O) (zG hb66 O (aX O O O) (zw hb66 O (zm O (zb ((List.length x67.bg:Int) !=1) (λhb71=>?_) λhb71=>?_)))))))))
 ·exact z1 hb71 h λh=>zH 10 O hb71 (zy hb71 O (W (hK15 _ _ _ h O)))
 exact z2 hb71 h λh=>zG hb71 O (bF O) (zG hb71 O (bj O O O) (ze hr h λx72 h73 h74 h75 h=>zG hb71 O (fR Z.Q Z.q h73 h74 h75 O O O) (zG hb71 O (iF O O) (zG hb71 O (dT O O) (ze hr h λx76 h77 h78 h79 h=>zG hb71 O (fR U.Q U.q h77 h78 h79 O O O) (zG hb71 O (iF O O) (zG hb71 O (dT O O) (zG hb71 O (ca O) (zG hb71 O (aX O O O) (zw hb71 O (W (hK15 _ _ _ h O))))))))))))
def n5 (n:Nat) (p0:ByS) (p1:(List aA)) (p2:Int):D (ByS):=
 iter (λnext7 (v6:Int×ByS×Int×Int)=>br (decide (v6.2.2.2<(List.length p1:Int))) (jn (λ(v12:ByS×Int)=>gd (cr (v6.2.2.2+1)) (next7 (IntKind.wrap .u64 ((IntKind.wrap .u64 (v6.1*6364136223846793005))+1442695040888963407),v12.1,v12.2,v6.2.2.2+1))) λj13=>el p1 v6.2.2.2 λrb=>gd ((0:Int)<=v6.2.2.1/\(v6.2.2.1:Int)<=rb.Pos/\rb.Pos<=(List.length p0:Int)) (gd (mh v6.2.1 (sub p0 v6.2.2.1 rb.Pos)) (el p1 v6.2.2.2 λx24=>el p1 v6.2.2.2 λx31=>br (x31.Kind==7) (j13 (v6.2.1++(sub p0 v6.2.2.1 rb.Pos),x24.Pos)) (gd ((0:Int)<=62) (br ((FK .u64 (IntKind.wrap .u64 ((IntKind.wrap .u64 (v6.1*6364136223846793005))+1442695040888963407)) 62) !=0) (j13 (v6.2.1++(sub p0 v6.2.2.1 rb.Pos),x24.Pos)) (gd ((0:Int)<=61) (br ((Db .u64 (FK .u64 (IntKind.wrap .u64 ((IntKind.wrap .u64 (v6.1*6364136223846793005))+1442695040888963407)) 61) 1)==1) (gd (mh (v6.2.1++(sub p0 v6.2.2.1 rb.Pos)) ([9]:ByS)) (gd (mh ((v6.2.1++(sub p0 v6.2.2.1 rb.Pos))++([9]:ByS)) ([32]:ByS)) (j13 (((v6.2.1++(sub p0 v6.2.2.1 rb.Pos))++([9]:ByS))++([32]:ByS),x24.Pos)))) (gd (mh (v6.2.1++(sub p0 v6.2.2.1 rb.Pos)) ([32]:ByS)) (j13 ((v6.2.1++(sub p0 v6.2.2.1 rb.Pos))++([32]:ByS),x24.Pos)))))))))) (gd ((0:Int)<=v6.2.2.1/\v6.2.2.1<=(List.length p0:Int)) (gd (mh v6.2.1 (dK p0 v6.2.2.1)) (.ok (v6.2.1++(dK p0 v6.2.2.1)))))) n (p2,([]:ByS),0,0)
theorem xa (n:Nat) (p0:ByS) (p1:(List aA)) (p2:Int):CT Tryz.prog 21 [F p0,.pv (.sl (List.length p1) (aA.Cs p1)),Sc (.int .u64 p2)] [] (n5 n p0 p1 p2) (λx=>F x) (λ_=>[]):=by
 refine zC Tryz.func21 O λr hp h hr E hE=>A λ_ hK1=>B (za O (zQ hK1 (A λ_ hK2=>B (za O (zQ hK2 (A λ_ hK3=>B (za O (zQ hK3 (A λ_ hK4=>A λ_ hK5=>B (za O (zQ hK5 (u (zL hr h (λ(v6:Int×ByS×Int×Int)=>[(0,F p0),(1,.pv (.sl (List.length p1) (aA.Cs p1))),(2,Sc (.int .u64 v6.1)),(7,F v6.2.1),(8,I v6.2.2.1),(9,I v6.2.2.2)]) (λ(v6:Int×ByS×Int×Int)=>[]) O λ_ v6 _ hK8 h=>A λ_ hK9=>A λ_ hK10=>B (zm O (zm O ?_)))))))))))))));refine J (ca O) O (zc O (zQ hK10 (zB O h (λ_ h=>?_) λ_ h=>?_)))
 ·refine V (hK9 _ _ (zM h (λ(v12:ByS×Int)=>[(0,F p0),(1,.pv (.sl (List.length p1) (aA.Cs p1))),(2,Sc (.int .u64 (IntKind.wrap .u64 ((IntKind.wrap .u64 (v6.1*6364136223846793005))+1442695040888963407)))),(7,F v12.1),(8,I v12.2),(9,I v6.2.2.2)]) (λ(v12:ByS×Int)=>[]) (λv12 h=>?_) λ_ _ hK14 h=>?_))
  ·exact B (zm O (zd hr h λhg15 h=>zo hg15 O (za O (W (hK8 _ _ _ h O)))))
  refine u (A λ_ hK16=>B (zm O (zm O (zm O (zm O (zm O (ze hr h λrb h18 h19 h20 h=>J (fR aA.Q aA.q h18 h19 h20 O O O) O (J (iF O O) O (J (dT O O) O (zd hr h λhg21 h=>J (lG O O O hg21.1 hg21.2.1 hg21.2.2) O (zd hr h λhg22 h=>J (iK O O hg22) O (za O (zQ hK16 (A λ_ hK23=>B (zm O (zm O (ze hr h λx24 h25 h26 h27 h=>J (fR aA.Q aA.q h25 h26 h27 O O O) O (J (iF O O) O ?_))))))))))))))))));refine J (dT O O) O (za O (zQ hK23 (A λ_ hK28=>B (zm O (J (wN O O) O (J (jm O O) O (za O (zQ hK28 (A λ_ hK29=>A λ_ hK30=>B (zm O (zm O (ze hr h λx31 h32 h33 h34 h=>J (fR aA.Q aA.q h32 h33 h34 O O O) O (J (iF O O) O (J (dT O O) O (zc O (zm O (zb (x31.Kind==7) (λhb35=>?_) λhb35=>?_)))))))))))))))))
  ·refine z1 hb35 h λh=>zH 3 O hb35 (zy hb35 O (zQ hK30 (cb O (λhc=>?_) (λhc=>?_))))
   ·exact aS (hK14 _ _ _ h O)
   exact absurd (hc) (by simp)
  refine z2 hb35 h λh=>zG hb35 O (N O) (zd hr h λhg36 h=>zG hb35 O (Ed O O hg36) (zG hb35 O (aX O O O) (zw hb35 O (zQ hK30 (zB O h (λ_ h=>?_) λ_ h=>?_)))))
  ·exact aS (hK14 _ _ _ h O)
  refine V (hK29 _ _ (A λ_ hK38=>A λ_ hK39=>B (zm O (zd hr h λhg40 h=>J (Ed O O hg40) O (J (Ee O O) O (zc O (zQ hK39 (zB O h (λ_ h=>?_) λ_ h=>?_))))))))
  ·exact B (zm O (zd hr h λhg42 h=>J (iK O O hg42) O (za O (zQ hK38 (B (zm O (zd hr h λhg43 h=>J (iK O O hg43) O (za O (W (hK14 _ _ _ h O))))))))))
  exact V (hK38 _ _ (B (zm O (zd hr h λhg44 h=>J (iK O O hg44) O (za O (W (hK14 _ _ _ h O)))))))
 exact aS (hK4 _ _ (A λ_ hK45=>B (zm O (zm O (zm O (zd hr h λhg46 h=>J (ir O O hg46.1 hg46.2) O (zd hr h λhg47 h=>J (iK O O hg47) O (za O (zQ hK45 (L (z O h O)))))))))))
def re (n:Nat) (p0:aA):D (Bool):=
 jn (λ(v4:Bool)=>br v4 (.ok (true)) (br (p0.Kind==5) (iter (λnext14 (v13:Int)=>br (decide (v13<(List.length [([95,124,95]:ByS),([95]:ByS),([46,46,46]:ByS),([41]:ByS),([93]:ByS),([125]:ByS),([63]:ByS)]:Int))) (el [([95,124,95]:ByS),([95]:ByS),([46,46,46]:ByS),([41]:ByS),([93]:ByS),([125]:ByS),([63]:ByS)] v13 λx21=>br (x21==p0.Text) (.ok (true)) (gd (cr (v13+1)) (next14 (v13+1)))) (.ok (false))) n (0)) (.ok (false)))) λj5=>br (p0.Kind==1) (j5 ((p0.Kind==1))) (br (p0.Kind==2) (j5 ((p0.Kind==2))) (br (p0.Kind==3) (j5 ((p0.Kind==3))) (j5 ((p0.Kind==4)))))
theorem zW (n:Nat) (p0:aA):CT Tryz.prog 87 [.agg (ej p0)] [] (re n p0) (λx=>Bo x) (λ_=>[]):=by
 refine zC Tryz.func87 O λr hp h hr E hE=>A λ_ hK1=>B (dN 101 (hE _ O) O7 O ?_);refine za O (zQ hK1 (A λ_ hK2=>A λ_ hK3=>B (zf O (zl O (zQ hK3 (u (zM h (λ(v4:Bool)=>[(0,.agg (ej p0)),(1,.ptr 101 0),(6,I p0.Kind),(7,Bo v4)]) (λ(v4:Bool)=>[(101,.box (ej p0))]) (λv4 h=>?_) λ_ _ hK6 h=>?_)))))))
 ·refine zB O h (λ_ h=>?_) λ_ h=>?_
  ·exact A λ_ hK8=>B (za O (zQ hK8 (L (z O h O))))
  refine A λ_ hK9=>B (zc O (za O (zQ hK9 (zB O h (λ_ h=>?_) λ_ h=>?_))))
  ·refine A λ_ hK11=>B (bN [([95,124,95]:ByS),([95]:ByS),([46,46,46]:ByS),([41]:ByS),([93]:ByS),([125]:ByS),([63]:ByS)] dS O2 O ?_);refine za O (zQ hK11 (A λ_ hK12=>B (za O (zQ hK12 (u (zL hr h (λ(v13:Int)=>[(0,.agg (ej p0)),(1,.ptr 101 0),(3,.pv (.sl (List.length [([95,124,95]:ByS),([95]:ByS),([46,46,46]:ByS),([41]:ByS),([93]:ByS),([125]:ByS),([63]:ByS)]) (cd [([95,124,95]:ByS),([95]:ByS),([46,46,46]:ByS),([41]:ByS),([93]:ByS),([125]:ByS),([63]:ByS)]))),(4,I v13)]) (λ(v13:Int)=>[(101,.box (ej p0))]) O λ_ v13 _ hK15 h=>A λ_ hK16=>A λ_ hK17=>B (zm O (zm O (J (ca O) O (zc O (zQ hK17 (zB O h (λ_ h=>?_) λ_ h=>?_))))))))))))
   ·refine V (hK16 _ _ (A λ_ hK19=>u (A λ_ hK20=>bu [0,1,2,3,4,5,6] O (by kernel_rfl) (zD O (N O) O (zD O (N O) O (ze hr h λx21 h22 h23 h24 h=>zD O (fR dS gb h22 h23 h24 O O O) O (zD O (dT O O) O (zD O (bF O) O (zD O (bj O O O) O (zD O (iS O O) O (ct (hK20 _ _ (zB O h (λ_ h=>?_) λ_ h=>?_)))))))))))))
    ·exact A λ_ hK26=>B (za O (zQ hK26 (L (z O h O))))
    exact V (hK19 _ _ (B (zm O (zd hr h λhg27 h=>zo hg27 O (za O (W (hK15 _ _ _ h O)))))))
   exact aS (hK2 _ _ (A λ_ hK28=>B (za O (zQ hK28 (L (z O h O))))))
  exact V (hK2 _ _ (A λ_ hK29=>B (za O (zQ hK29 (L (z O h O))))))
 refine A λ_ hK30=>B (zc O (za O (zQ hK30 (zB O h (λ_ h=>?_) λ_ h=>?_))))
 ·exact V (hK6 _ _ _ h O)
 refine A λ_ hK32=>B (zc O (za O (zQ hK32 (zB O h (λ_ h=>?_) λ_ h=>?_))))
 ·exact V (hK6 _ _ _ h O)
 refine A λ_ hK34=>B (zc O (za O (zQ hK34 (zB O h (λ_ h=>?_) λ_ h=>?_))))
 ·exact V (hK6 _ _ _ h O)
 exact B (zc O (za O (W (hK6 _ _ _ h O))))
def rf (n:Nat) (p0:ByS) (p1:(List aA)) (p2:Int):D (Bool):=
 gd (cr ((List.length p1:Int) - 1)) (iter (λnext6 (v5:Int)=>br (decide (v5>=0)) (el p1 v5 λJK=>br (JK.Kind==7) (.ok (false)) (el p1 v5 λx22=>br (x22.Kind==6) (gd (cr (v5 - 1)) (next6 (v5 - 1))) (el p1 v5 λx30=>iter (λnext35 (v34:Int)=>br (decide (v34<p2)) (el p0 v34 λb42=>br ((b42.toNat:Int)==10) (.ok (false)) (gd (cr (v34+1)) (next35 (v34+1)))) (el p1 v5 λx50=>D.bind (re n x50) λy54=>.ok (y54))) n (x30.End)))) (.ok (false))) n ((List.length p1:Int) - 1))
theorem zZ (n:Nat) (p0:ByS) (p1:(List aA)) (p2:Int):CT Tryz.prog 49 [F p0,.pv (.sl (List.length p1) (aA.Cs p1)),I p2] [] (rf n p0 p1 p2) (λx=>Bo x) (λ_=>[]):=by
 refine zC Tryz.func49 O λr hp h hr E hE=>A λ_ hK1=>B (za O (zQ hK1 (A λ_ hK2=>A λ_ hK3=>B (zm O (J (ca O) O (zd hr h λhg4 h=>J (jT O O hg4) O (za O (zQ hK3 (u (zL hr h (λ(v5:Int)=>[(0,F p0),(1,.pv (.sl (List.length p1) (aA.Cs p1))),(2,I p2),(7,I v5)]) (λ(v5:Int)=>[]) O λ_ v5 _ hK7 h=>A λ_ hK8=>A λ_ hK9=>B (zm O (zc O (zQ hK9 (zB O h (λ_ h=>?_) λ_ h=>?_))))))))))))))
 ·refine V (hK8 _ _ (A λ_ hK11=>u (A λ_ hK12=>A λ_ hK13=>B (zm O (zm O (ze hr h λJK h15 h16 h17 h=>J (fR aA.Q aA.q h15 h16 h17 O O O) O (J (iF O O) O (J (dT O O) O (zc O (zQ hK13 (zB O h (λ_ h=>?_) λ_ h=>?_)))))))))))
  ·exact A λ_ hK19=>B (za O (zQ hK19 (L (z O h O))))
  refine V (hK12 _ _ (A λ_ hK20=>A λ_ hK21=>B (zm O (zm O (ze hr h λx22 h23 h24 h25 h=>J (fR aA.Q aA.q h23 h24 h25 O O O) O (J (iF O O) O (J (dT O O) O (zc O (zQ hK21 (zB O h (λ_ h=>?_) λ_ h=>?_))))))))))
  ·exact aS (hK11 _ _ (B (zm O (zd hr h λhg27 h=>J (jT O O hg27) O (za O (W (hK7 _ _ _ h O)))))))
  refine V (hK20 _ _ (A λ_ hK28=>A λ_ hK29=>B (zm O (zm O (ze hr h λx30 h31 h32 h33 h=>J (fR aA.Q aA.q h31 h32 h33 O O O) O (J (iF O O) O (J (dT O O) O (za O (zQ hK29 (u (zL hr h (λ(v34:Int)=>[(0,F p0),(1,.pv (.sl (List.length p1) (aA.Cs p1))),(2,I p2),(7,I v5),(8,I v34)]) (λ(v34:Int)=>[]) O λ_ v34 _ hK36 h=>A λ_ hK37=>A λ_ hK38=>B (zm O (zm O (zc O (zQ hK38 (zB O h (λ_ h=>?_) λ_ h=>?_))))))))))))))))
  ·refine V (hK37 _ _ (A λ_ hK40=>u (A λ_ hK41=>B (zm O (zm O (ze hr h λb42 h43 h44 h45 h=>J (bY O O h43 h45) O (zc O (zQ hK41 (zB O h (λ_ h=>?_) λ_ h=>?_)))))))))
   ·exact A λ_ hK47=>B (za O (zQ hK47 (L (z O h O))))
   exact V (hK40 _ _ (B (zm O (zd hr h λhg48 h=>zo hg48 O (za O (W (hK36 _ _ _ h O)))))))
  refine aS (hK28 _ _ (A λ_ hK49=>B (zm O (zm O (ze hr h λx50 h51 h52 h53 h=>J (fR aA.Q aA.q h51 h52 h53 O O O) O (J (iJ O O) O ?_))))));exact zk hp hr h [] Tryz.call87 (zW n x50) O (λ_=>rfl) λy54 h=>za O (zQ hK49 (L (z O h O)))
 exact aS (hK2 _ _ (A λ_ hK55=>B (za O (zQ hK55 (L (z O h O))))))
def mb (n:Nat) (p0:Int) (p1:Int):D (ByS):=
 iter (λnext5 (v4:Int×ByS)=>jn (λ(_:Unit)=>gd ((10:Int)≠0) (gd (cr (48+(Int.tmod v4.1 10))) (gd (mh (gR [IntKind.wrap .u8 (48+(Int.tmod v4.1 10))]) v4.2) (gd ((10:Int)≠0) (next5 (IntKind.wrap .i64 (Int.tdiv v4.1 10),(gR [IntKind.wrap .u8 (48+(Int.tmod v4.1 10))])++v4.2)))))) λj8=>br (decide (v4.1>0)) (j8 ()) (br (decide ((List.length v4.2:Int)<p1)) (j8 ()) (.ok (v4.2)))) n (p0,([]:ByS))
theorem sK (n:Nat) (p0:Int) (p1:Int):CT Tryz.prog 187 [I p0,I p1] [] (mb n p0 p1) (λx=>F x) (λ_=>[]):=by
 refine zC Tryz.func187 O λr hp h hr E hE=>A λ_ hK1=>B (za O (zQ hK1 (A λ_ hK2=>B (za O (zQ hK2 (A λ_ hK3=>u (zL hr h (λ(v4:Int×ByS)=>[(0,I v4.1),(1,I p1),(5,F v4.2)]) (λ(v4:Int×ByS)=>[]) O λ_ v4 _ hK6 h=>zM h (λ(v7:Unit)=>[(0,I v4.1),(1,I p1),(5,F v4.2)]) (λ(v7:Unit)=>[]) (λv7 h=>?_) λ_ _ hK9 h=>?_)))))))
 ·refine u (A λ_ hK10=>B (zm O (zd hr h λhg11 h=>J (wR O O hg11) O (zd hr h λhg12 h=>zo hg12 O (J (jy O) O (bN [IntKind.wrap .u8 (48+(Int.tmod v4.1 10))] iD O2 O ?_))))));exact J (we O O) O (zm O (zd hr h λhg13 h=>J (iK O O hg13) O (za O (zQ hK10 (B (zm O (zd hr h λhg14 h=>J (wQ O O hg14) O (za O (W (hK6 _ _ _ h O))))))))))
 refine A λ_ hK15=>B (zm O (zc O (zm O (zb (decide (v4.1>0)) (λhb16=>?_) λhb16=>?_))))
 ·refine z1 hb16 h λh=>zH 4 O hb16 (zy hb16 O (zQ hK15 (cb O (λhc=>?_) (λhc=>?_))))
  ·exact V (hK9 _ _ _ h O)
  exact absurd (hc) (by simp)
 refine z2 hb16 h λh=>zG hb16 O (N O) (zG hb16 O (bJ O) (zG hb16 O (N O) (zG hb16 O (aX O O O) (zw hb16 O (zQ hK15 (zB O h (λ_ h=>?_) λ_ h=>?_))))))
 ·exact V (hK9 _ _ _ h O)
 exact aS (hK3 _ _ (A λ_ hK18=>B (zm O (za O (zQ hK18 (L (z O h O)))))))
def ni (p0:Int):D (Bool):=
 br (decide (p0>=(-1000000000000000))) (.ok ((decide (p0<=1000000000000000)))) (.ok (false))
theorem tw (p0:Int):CT Tryz.prog 132 [I p0] [] (ni p0) (λx=>Bo x) (λ_=>[]):=by
 refine zC Tryz.func132 O λr hp h hr E hE=>A λ_ hK1=>B (za O (zQ hK1 (A λ_ hK2=>B (zm O (zc O (zm O (zb (decide (p0>=(-1000000000000000))) (λhb3=>?_) λhb3=>?_)))))))
 ·exact z1 hb3 h λh=>zG hb3 O (N O) (zG hb3 O (aX O O O) (zy hb3 O (za O (zQ hK2 (L (z O h O))))))
 exact z2 hb3 h λh=>zH 2 O hb3 (zw hb3 O (za O (zQ hK2 (L (z O h O)))))
def qu (p0:Int):D (Int):=
 br (decide (p0<0)) (.ok (IntKind.wrap .i64 (0 - p0))) (.ok (p0))
theorem vz (p0:Int):CT Tryz.prog 188 [I p0] [] (qu p0) (λx=>I x) (λ_=>[]):=by
 refine zC Tryz.func188 O λr hp h hr E hE=>A λ_ hK1=>B (za O (zQ hK1 (A λ_ hK2=>A λ_ hK3=>B (zm O (zc O (zQ hK3 (zB O h (λ_ h=>?_) λ_ h=>?_)))))))
 ·exact A λ_ hK5=>B (zm O (J (BN O) O (za O (zQ hK5 (L (z O h O))))))
 exact V (hK2 _ _ (A λ_ hK6=>B (zm O (za O (zQ hK6 (L (z O h O)))))))
def rh (n:Nat) (p0:Int):D (ByS):=
 D.bind (ni p0) λy4=>br (!y4) (.ok (([63]:ByS))) (D.bind (qu p0) λy8=>gd ((10000:Int)≠0) (D.bind (mb n (IntKind.wrap .i64 (Int.tdiv y8 10000)) 1) λy10=>jn (λ(v11:ByS)=>gd ((10000:Int)≠0) (br ((Int.tmod p0 10000)==0) (.ok (v11)) (D.bind (qu p0) λy20=>gd ((10000:Int)≠0) (D.bind (mb n (Int.tmod y20 10000) 4) λy22=>iter (λnext25 (v24:ByS)=>gd (cr ((List.length v24:Int) - 1)) (el v24 ((List.length v24:Int) - 1) λb30=>br ((b30.toNat:Int)==48) (gd (cr ((List.length v24:Int) - 1)) (gd ((0:Int)<=((List.length v24:Int) - 1)/\((List.length v24:Int) - 1)<=(List.length v24:Int)) (next25 (jU v24 ((List.length v24:Int) - 1))))) (gd (mh v11 ([46]:ByS)) (gd (mh (v11++([46]:ByS)) v24) (.ok ((v11++([46]:ByS))++v24)))))) n (y22))))) λj12=>br (decide (p0<0)) (gd (mh ([45]:ByS) y10) (j12 (([45]:ByS)++y10))) (j12 (y10))))
theorem z6 (n:Nat) (p0:Int):CT Tryz.prog 133 [I p0] [] (rh n p0) (λx=>F x) (λ_=>[]):=by
 refine zC Tryz.func133 O λr hp h hr E hE=>A λ_ hK1=>B (za O (zQ hK1 (A λ_ hK2=>A λ_ hK3=>B (zm O (zk hp hr h [] Tryz.call132 (tw p0) O (λ_=>rfl) λy4 h=>J (eo O) O (zQ hK3 (zB O h (λ_ h=>?_) λ_ h=>?_)))))))
 ·exact A λ_ hK6=>B (za O (zQ hK6 (L (z O h O))))
 refine V (hK2 _ _ (A λ_ hK7=>B (zm O (zk hp hr h [] Tryz.call188 (vz p0) O (λ_=>rfl) λy8 h=>zd hr h λhg9 h=>J (wQ O O hg9) O (zk hp hr h [] Tryz.call187 (sK n (IntKind.wrap .i64 (Int.tdiv y8 10000)) 1) O (λ_=>rfl) λy10 h=>za O (zQ hK7 (zM h (λ(v11:ByS)=>[(0,I p0),(3,F v11)]) (λ(v11:ByS)=>[]) (λv11 h=>?_) λ_ _ hK13 h=>?_)))))))
 ·refine A λ_ hK14=>A λ_ hK15=>B (zm O (zd hr h λhg16 h=>J (wR O O hg16) O (zc O (zQ hK15 (zB O h (λ_ h=>?_) λ_ h=>?_)))))
  ·exact A λ_ hK18=>B (zm O (za O (zQ hK18 (L (z O h O)))))
  refine V (hK14 _ _ (A λ_ hK19=>B (zm O (zk hp hr h [] Tryz.call188 (vz p0) O (λ_=>rfl) λy20 h=>zd hr h λhg21 h=>J (wR O O hg21) O (zk hp hr h [] Tryz.call187 (sK n (Int.tmod y20 10000) 4) O (λ_=>rfl) λy22 h=>za O (zQ hK19 (A λ_ hK23=>u (zL hr h (λ(v24:ByS)=>[(0,I p0),(3,F v11),(4,F v24)]) (λ(v24:ByS)=>[]) O λ_ v24 _ hK26 h=>A λ_ hK27=>A λ_ hK28=>B (zm O (zm O (J (bJ O) O (zd hr h λhg29 h=>J (jT O O hg29) O (ze hr h λb30 h31 h32 h33 h=>J (bY O O h31 h33) O (zc O ?_))))))))))))));refine zQ hK28 (zB O h (λ_ h=>?_) λ_ h=>?_)
  ·exact V (hK27 _ _ (u (B (zm O (zm O (J (bJ O) O (zd hr h λhg35 h=>J (jT O O hg35) O (zd hr h λhg36 h=>J (o7 O O hg36.1 hg36.2) O (za O (W (hK26 _ _ _ h O)))))))))))
  exact aS (hK23 _ _ (A λ_ hK37=>B (zm O (zd hr h λhg38 h=>J (iK O O hg38) O (zm O (zd hr h λhg39 h=>J (iK O O hg39) O (za O (zQ hK37 (L (z O h O))))))))))
 refine A λ_ hK40=>B (zm O (zc O (zQ hK40 (zB O h (λ_ h=>?_) λ_ h=>?_))))
 ·exact B (zm O (zd hr h λhg42 h=>J (iK O O hg42) O (za O (W (hK13 _ _ _ h O)))))
 exact V (hK13 _ _ _ h O)
end Go.Abs
end
section
namespace Go.Abs
open Go.Proofs D
def ph (n:Nat) (p0:ByS):D (Int×Int):=
 br (decide ((List.length p0:Int)>18)) (.ok (0,8)) (iter (λnext11 (v10:Int×Int×Int)=>br (decide (v10.2.2<(List.length p0:Int))) (jn (λ(v16:Int×Int)=>gd (cr (v10.2.2+1)) (next11 (v16.1,v16.2,v10.2.2+1))) λj17=>jn (λ(_:Unit)=>jn (λ(v24:Bool)=>br v24 (el p0 v10.2.2 λb29=>gd (cr ((IntKind.wrap .i64 (v10.1*10))+(IntKind.wrap .i64 (IntKind.wrap .u8 ((b29.toNat:Int) - 48))))) (br (decide (v10.2.1>=0)) (gd (cr (v10.2.1+1)) (j17 ((IntKind.wrap .i64 (v10.1*10))+(IntKind.wrap .i64 (IntKind.wrap .u8 ((b29.toNat:Int) - 48))),v10.2.1+1))) (j17 ((IntKind.wrap .i64 (v10.1*10))+(IntKind.wrap .i64 (IntKind.wrap .u8 ((b29.toNat:Int) - 48))),v10.2.1)))) (br (decide (v10.2.2>0)) (.ok (0,8)) (el p0 v10.2.2 λb41=>br ((b41.toNat:Int) !=45) (.ok (0,8)) (j17 (v10.1,v10.2.1))))) λj25=>el p0 v10.2.2 λb47=>br (decide ((b47.toNat:Int)>=48)) (el p0 v10.2.2 λb52=>j25 ((decide ((b52.toNat:Int)<=57)))) (j25 (false))) λj21=>el p0 v10.2.2 λb57=>br ((b57.toNat:Int)==46) (br (decide (v10.2.1<0)) (j17 (v10.1,0)) (j21 ())) (j21 ())) (jn (λ(v64:Int)=>iter (λnext69 (v68:Int×Int)=>br (decide (v68.2<4)) (br (decide (v68.1>1000000000000000)) (.ok (0,8)) (gd (cr (v68.2+1)) (next69 (IntKind.wrap .i64 (v68.1*10),v68.2+1)))) (jn (λ(v80:Int)=>D.bind (ni v80) λy85=>br (!y85) (.ok (0,8)) (D.bind (rh n v80) λy88=>br (y88 !=p0) (.ok (0,8)) (.ok (v80,0)))) λj81=>br (decide ((List.length p0:Int)>0)) (el p0 0 λb94=>br ((b94.toNat:Int)==45) (j81 (IntKind.wrap .i64 (0 - v68.1))) (j81 (v68.1))) (j81 (v68.1)))) n (v10.1,v64)) λj65=>br (decide (v10.2.1<0)) (j65 (0)) (j65 (v10.2.1)))) n (0,(-1),0))
theorem xO (n:Nat) (p0:ByS):CT Tryz.prog 91 [F p0] [] (ph n p0) (λx=>.fZ [I x.1,I x.2]) (λ_=>[]):=by
 refine zC Tryz.func91 O λr hp h hr E hE=>A λ_ hK1=>B (za O (za O (zQ hK1 (A λ_ hK2=>A λ_ hK3=>B (zm O (J (bJ O) O (zc O (zQ hK3 (zB O h (λ_ h=>?_) λ_ h=>?_)))))))))
 ·exact A λ_ hK5=>B (za O (za O (zQ hK5 (L (zX (.cons (aP O) (.cons (aP O) .nil)) h O)))))
 refine V (hK2 _ _ (A λ_ hK6=>B (za O (zQ hK6 (A λ_ hK7=>B (za O (zQ hK7 (A λ_ hK8=>A λ_ hK9=>B (za O (zQ hK9 (u (zL hr h (λ(v10:Int×Int×Int)=>[(0,F p0),(4,I v10.1),(5,I v10.2.1),(6,I v10.2.2)]) (λ(v10:Int×Int×Int)=>[]) O λ_ v10 _ hK12 h=>A λ_ hK13=>A λ_ hK14=>B (zm O (zm O (J (bJ O) O (zc O (zQ hK14 ?_)))))))))))))))));refine zB O h (λ_ h=>?_) λ_ h=>?_
 ·refine V (hK13 _ _ (zM h (λ(v16:Int×Int)=>[(0,F p0),(4,I v16.1),(5,I v16.2),(6,I v10.2.2)]) (λ(v16:Int×Int)=>[]) (λv16 h=>?_) λ_ _ hK18 h=>?_))
  ·exact B (zm O (zd hr h λhg19 h=>zo hg19 O (za O (W (hK12 _ _ _ h O)))))
  refine u (zM h (λ(v20:Unit)=>[(0,F p0),(4,I v10.1),(5,I v10.2.1),(6,I v10.2.2)]) (λ(v20:Unit)=>[]) (λv20 h=>?_) λ_ _ hK22 h=>?_)
  ·refine A λ_ hK23=>zM h (λ(v24:Bool)=>[(0,F p0),(4,I v10.1),(5,I v10.2.1),(6,I v10.2.2),(33,Bo v24)]) (λ(v24:Bool)=>[]) (λv24 h=>?_) λ_ _ hK26 h=>?_
   ·refine zB O h (λ_ h=>?_) λ_ h=>?_
    ·refine A λ_ hK28=>B (zm O (J (wN O O) O (zm O (zm O (ze hr h λb29 h30 h31 h32 h=>J (bY O O h30 h32) O (J (tH O O) O (J (jy O) O (zd hr h λhg33 h=>zo hg33 O (za O (zQ hK28 (A λ_ hK34=>A λ_ hK35=>B (zm O (zc O (zQ hK35 (zB O h (λ_ h=>?_) λ_ h=>?_)))))))))))))))
     ·exact B (zm O (zd hr h λhg37 h=>zo hg37 O (za O (zQ hK34 (aS (hK18 _ _ _ h O))))))
     exact V (hK34 _ _ (aS (hK18 _ _ _ h O)))
    refine V (hK23 _ _ (A λ_ hK38=>B (zm O (zc O (zm O (zb (decide (v10.2.2>0)) (λhb39=>?_) λhb39=>?_))))))
    ·refine z1 hb39 h λh=>zH 4 O hb39 (zy hb39 O (zQ hK38 (cb O (λhc=>?_) (λhc=>?_))))
     ·exact A λ_ hK40=>B (za O (za O (zQ hK40 (L (zX (.cons (aP O) (.cons (aP O) .nil)) h O)))))
     exact absurd (hc) (by simp)
    refine z2 hb39 h λh=>zG hb39 O (N O) (zG hb39 O (N O) (ze hr h λb41 h42 h43 h44 h=>zG hb39 O (bY O O h42 h44) (zG hb39 O (aX O O O) (zw hb39 O (zQ hK38 (zB O h (λ_ h=>?_) λ_ h=>?_))))))
    ·exact A λ_ hK46=>B (za O (za O (zQ hK46 (L (zX (.cons (aP O) (.cons (aP O) .nil)) h O)))))
    exact V (hK18 _ _ _ h O)
   refine B (zm O (zm O (ze hr h λb47 h48 h49 h50 h=>J (bY O O h48 h50) O (zc O (zm O (zb (decide ((b47.toNat:Int)>=48)) (λhb51=>?_) λhb51=>?_))))))
   ·exact z1 hb51 h λh=>zG hb51 O (N O) (zG hb51 O (N O) (ze hr h λb52 h53 h54 h55 h=>zG hb51 O (bY O O h53 h55) (zG hb51 O (aX O O O) (zy hb51 O (W (hK26 _ _ _ h O))))))
   exact z2 hb51 h λh=>zH 4 O hb51 (zw hb51 O (W (hK26 _ _ _ h O)))
  refine A λ_ hK56=>B (zm O (zm O (ze hr h λb57 h58 h59 h60 h=>J (bY O O h58 h60) O (zc O (zm O (zb ((b57.toNat:Int)==46) (λhb61=>?_) λhb61=>?_))))))
  ·refine z1 hb61 h λh=>zG hb61 O (N O) (zG hb61 O (aX O O O) (zy hb61 O (zQ hK56 (zB O h (λ_ h=>?_) λ_ h=>?_))))
   ·exact A λ_ hK63=>B (za O (zQ hK63 (aS (hK18 _ _ _ h O))))
   exact V (hK22 _ _ _ h O)
  refine z2 hb61 h λh=>zH 2 O hb61 (zw hb61 O (zQ hK56 (cb O (λhc=>?_) (λhc=>?_))))
  ·exact absurd (hc) (by simp)
  exact V (hK22 _ _ _ h O)
 refine aS (hK8 _ _ (zM h (λ(v64:Int)=>[(0,F p0),(4,I v10.1),(5,I v64)]) (λ(v64:Int)=>[]) (λv64 h=>?_) λ_ _ hK66 h=>?_))
 ·refine A λ_ hK67=>u (zL hr h (λ(v68:Int×Int)=>[(0,F p0),(4,I v68.1),(5,I v68.2)]) (λ(v68:Int×Int)=>[]) O λ_ v68 _ hK70 h=>A λ_ hK71=>A λ_ hK72=>B (zm O (zc O (zQ hK72 (zB O h (λ_ h=>?_) λ_ h=>?_)))))
  ·refine V (hK71 _ _ (A λ_ hK74=>u (A λ_ hK75=>A λ_ hK76=>B (zm O (zc O (zQ hK76 (zB O h (λ_ h=>?_) λ_ h=>?_)))))))
   ·exact A λ_ hK78=>B (za O (za O (zQ hK78 (L (zX (.cons (aP O) (.cons (aP O) .nil)) h O)))))
   exact V (hK75 _ _ (B (zm O (J (wN O O) O (za O (zQ hK74 (B (zm O (zd hr h λhg79 h=>zo hg79 O (za O (W (hK70 _ _ _ h O))))))))))))
  refine aS (hK67 _ _ (zM h (λ(v80:Int)=>[(0,F p0),(4,I v80)]) (λ(v80:Int)=>[]) (λv80 h=>?_) λ_ _ hK82 h=>?_))
  ·refine A λ_ hK83=>A λ_ hK84=>B (zm O (zk hp hr h [] Tryz.call132 (tw v80) O (λ_=>rfl) λy85 h=>J (eo O) O (zm O (zb (!y85) (λhb86=>?_) λhb86=>?_))))
   ·refine z1 hb86 h λh=>zH 4 O hb86 (zy hb86 O (zQ hK84 (cb O (λhc=>?_) (λhc=>?_))))
    ·exact A λ_ hK87=>B (za O (za O (zQ hK87 (L (zX (.cons (aP O) (.cons (aP O) .nil)) h O)))))
    exact absurd (hc) (by simp)
   refine z2 hb86 h λh=>zG hb86 O (N O) (zK hb86 O hp hr h [] Tryz.call133 (z6 n v80) O (λ_=>rfl) λy88 h=>zG hb86 O (N O) (zG hb86 O (pU O O) (zw hb86 O (zQ hK84 (zB O h (λ_ h=>?_) λ_ h=>?_)))))
   ·exact A λ_ hK90=>B (za O (za O (zQ hK90 (L (zX (.cons (aP O) (.cons (aP O) .nil)) h O)))))
   exact V (hK83 _ _ (A λ_ hK91=>B (zm O (za O (za O (zQ hK91 (L (zX (.cons (aP O) (.cons (aP O) .nil)) h O))))))))
  refine A λ_ hK92=>B (zm O (J (bJ O) O (zc O (zm O (zb (decide ((List.length p0:Int)>0)) (λhb93=>?_) λhb93=>?_)))))
  ·refine z1 hb93 h λh=>zG hb93 O (N O) (ze hr h λb94 h95 h96 h97 h=>zG hb93 O (bY O O h95 h97) (zG hb93 O (aX O O O) (zy hb93 O (zQ hK92 (zB O h (λ_ h=>?_) λ_ h=>?_)))))
   ·exact B (zm O (J (BN O) O (za O (W (hK82 _ _ _ h O)))))
   exact V (hK82 _ _ _ h O)
  refine z2 hb93 h λh=>zH 3 O hb93 (zw hb93 O (zQ hK92 (cb O (λhc=>?_) (λhc=>?_))))
  ·exact absurd (hc) (by simp)
  exact V (hK82 _ _ _ h O)
 refine A λ_ hK99=>B (zm O (zc O (zQ hK99 (zB O h (λ_ h=>?_) λ_ h=>?_))))
 ·exact B (za O (W (hK66 _ _ _ h O)))
 exact V (hK66 _ _ _ h O)
def mc (p0:Int):D (Bool):=
 br (decide (p0>=97)) (br (decide (p0<=122)) (.ok (true)) (br (decide (p0>=65)) (.ok ((decide (p0<=90)))) (.ok (false)))) (br (decide (p0>=65)) (.ok ((decide (p0<=90)))) (.ok (false)))
theorem sL (p0:Int):CT Tryz.prog 83 [Sc (.int .u8 p0)] [] (mc p0) (λx=>Bo x) (λ_=>[]):=by
 refine zC Tryz.func83 O λr hp h hr E hE=>A λ_ hK1=>B (za O (zQ hK1 (A λ_ hK2=>B (zm O (zc O (zm O (zb (decide (p0>=97)) (λhb3=>?_) λhb3=>?_)))))))
 ·refine z1 hb3 h λh=>zG hb3 O (N O) (zG hb3 O (aX O O O) (zy hb3 O (zm O (zb (decide (p0<=122)) (λhb4=>?_) λhb4=>?_))))
  ·exact z1 hb4 h λh=>zH 3 O hb4 (zu O (zu O (zg hb4 O (zy hb4 O (za O (zQ hK2 (L (z O h O))))))))
  refine z2 hb4 h λh=>zG hb4 O (N O) (zG hb4 O (aX O O O) (zG hb4 O (N O) (zb (decide (p0>=65)) (λhb5=>?_) λhb5=>?_)))
  ·exact z1 hb5 h λh=>zG hb5 O (N O) (zG hb5 O (aX O O O) (zG hb4 O (cY hb5 O O) (zw hb4 O (za O (zQ hK2 (L (z O h O)))))))
  exact z2 hb5 h λh=>zH 2 O hb5 (zG hb4 O (cU hb5 O O) (zw hb4 O (za O (zQ hK2 (L (z O h O))))))
 refine z2 hb3 h λh=>zH 2 O hb3 (zw hb3 O (zm O (zG O O (N O) (zG O O (aX O O O) (zG O O (N O) (zb (decide (p0>=65)) (λhb6=>?_) λhb6=>?_))))))
 ·exact z1 hb6 h λh=>zG hb6 O (N O) (zG hb6 O (aX O O O) (zG O O (cY hb6 O O) (J (de O O) O (za O (zQ hK2 (L (z O h O)))))))
 exact z2 hb6 h λh=>zH 2 O hb6 (zG O O (cU hb6 O O) (J (de O O) O (za O (zQ hK2 (L (z O h O))))))
def jX (p0:Int):D (Bool):=
 br (decide (p0>=48)) (.ok ((decide (p0<=57)))) (.ok (false))
theorem ll (p0:Int):CT Tryz.prog 84 [Sc (.int .u8 p0)] [] (jX p0) (λx=>Bo x) (λ_=>[]):=by
 refine zC Tryz.func84 O λr hp h hr E hE=>A λ_ hK1=>B (za O (zQ hK1 (A λ_ hK2=>B (zm O (zc O (zm O (zb (decide (p0>=48)) (λhb3=>?_) λhb3=>?_)))))))
 ·exact z1 hb3 h λh=>zG hb3 O (N O) (zG hb3 O (aX O O O) (zy hb3 O (za O (zQ hK2 (L (z O h O))))))
 exact z2 hb3 h λh=>zH 2 O hb3 (zw hb3 O (za O (zQ hK2 (L (z O h O)))))
def rj (p0:Int):D (Bool):=
 D.bind (mc p0) λy3=>br y3 (.ok (true)) (D.bind (jX p0) λy5=>br y5 (.ok (true)) (.ok ((p0==95))))
theorem z7 (p0:Int):CT Tryz.prog 135 [Sc (.int .u8 p0)] [] (rj p0) (λx=>Bo x) (λ_=>[]):=by
 refine zC Tryz.func135 O λr hp h hr E hE=>A λ_ hK1=>B (za O (zQ hK1 (A λ_ hK2=>B (zm O (zk hp hr h [] Tryz.call83 (sL p0) O (λ_=>rfl) λy3 h=>zm O (zb y3 (λhb4=>?_) λhb4=>?_))))))
 ·exact z1 hb4 h λh=>zH 2 O hb4 (zy hb4 O (zm O (zH 2 O O (zt O (za O (zQ hK2 (L (z O h O))))))))
 refine z2 hb4 h λh=>zG hb4 O (N O) (zK hb4 O hp hr h [] Tryz.call84 (ll p0) O (λ_=>rfl) λy5 h=>zw hb4 O (zm O (zb y5 (λhb6=>?_) λhb6=>?_)))
 ·exact z1 hb6 h λh=>zH 2 O hb6 (zy hb6 O (za O (zQ hK2 (L (z O h O)))))
 exact z2 hb6 h λh=>zG hb6 O (N O) (zG hb6 O (aX O O O) (zw hb6 O (za O (zQ hK2 (L (z O h O))))))
def pj (n:Nat) (p0:ByS) (p1:Int):D (Int):=
 gd (cr (p1+1)) (jn (λ(v4:Int)=>el p0 p1 λb9=>D.bind (mc (b9.toNat:Int)) λy13=>br y13 (.ok (v4)) (el p0 p1 λb16=>br ((b16.toNat:Int)==95) (gd (cr (p1+1)) (br (decide (v4>(p1+1))) (.ok (v4)) (.ok (p1)))) (el p0 p1 λb25=>br ((b25.toNat:Int)==35) (gd (cr (p1+1)) (br (decide (v4>(p1+1))) (.ok (v4)) (.ok (p1)))) (.ok (p1))))) λj5=>iter (λnext36 (v35:Int)=>br (decide (v35<(List.length p0:Int))) (el p0 v35 λb41=>D.bind (rj (b41.toNat:Int)) λy45=>br y45 (gd (cr (v35+1)) (next36 (v35+1))) (j5 (v35))) (j5 (v35))) n (p1+1))
theorem xP (n:Nat) (p0:ByS) (p1:Int):CT Tryz.prog 93 [F p0,I p1] [] (pj n p0 p1) (λx=>I x) (λ_=>[]):=by
 refine zC Tryz.func93 O λr hp h hr E hE=>A λ_ hK1=>B (za O (zQ hK1 (A λ_ hK2=>B (zm O (zd hr h λhg3 h=>zo hg3 O (za O (zQ hK2 (zM h (λ(v4:Int)=>[(0,F p0),(1,I p1),(5,I v4)]) (λ(v4:Int)=>[]) (λv4 h=>?_) λ_ _ hK6 h=>?_))))))))
 ·refine A λ_ hK7=>A λ_ hK8=>B (zm O (zm O (ze hr h λb9 h10 h11 h12 h=>J (bY O O h10 h12) O (zk hp hr h [] Tryz.call83 (sL (b9.toNat:Int)) O (λ_=>rfl) λy13 h=>zm O (zb y13 (λhb14=>?_) λhb14=>?_)))))
  ·refine z1 hb14 h λh=>zH 5 O hb14 (zu O (zu O (zu O (zu O (zH 2 O hb14 (zu O (zu O (zu O (zu O (zg hb14 O (zy hb14 O (zQ hK8 (cb O (λhc=>?_) (λhc=>?_))))))))))))))
   ·exact A λ_ hK15=>B (zm O (za O (zQ hK15 (L (z O h O)))))
   exact absurd (hc) (by simp)
  refine z2 hb14 h λh=>zG hb14 O (N O) (zG hb14 O (N O) (ze hr h λb16 h17 h18 h19 h=>zG hb14 O (bY O O h17 h19) (zG hb14 O (aX O O O) (zG hb14 O (N O) (zb ((b16.toNat:Int)==95) (λhb20=>?_) λhb20=>?_)))))
  ·refine z1 hb20 h λh=>zH 4 O hb20 (zG hb14 O (cY hb20 O O) (zG hb14 O (N O) (zG O O (N O) (zG O O (N O) (zd hr h λhg21 h=>zG O O (gV O O hg21) (zG O O (aX O O O) (zG hb14 O (tV O O) (zw hb14 O (zQ hK8 (zB O h (λ_ h=>?_) λ_ h=>?_))))))))))
   ·exact A λ_ hK23=>B (zm O (za O (zQ hK23 (L (z O h O)))))
   exact V (hK7 _ _ (A λ_ hK24=>B (zm O (za O (zQ hK24 (L (z O h O)))))))
  refine z2 hb20 h λh=>zG hb20 O (N O) (zG hb20 O (N O) (ze hr h λb25 h26 h27 h28 h=>zG hb20 O (bY O O h26 h28) (zG hb20 O (aX O O O) (zG hb14 O (cU hb20 O O) (zG hb14 O (N O) (zb ((b25.toNat:Int)==35) (λhb29=>?_) λhb29=>?_))))))
  ·refine z1 hb29 h λh=>zG hb29 O (N O) (zG hb29 O (N O) (zd hr h λhg30 h=>zG hb29 O (gV O O hg30) (zG hb29 O (aX O O O) (zG hb14 O (cY hb29 O O) (zw hb14 O (zQ hK8 (zB O h (λ_ h=>?_) λ_ h=>?_)))))))
   ·exact A λ_ hK32=>B (zm O (za O (zQ hK32 (L (z O h O)))))
   exact V (hK7 _ _ (A λ_ hK33=>B (zm O (za O (zQ hK33 (L (z O h O)))))))
  refine z2 hb29 h λh=>zH 4 O hb29 (zG hb14 O (cU hb29 O O) (zw hb14 O (zQ hK8 (cb O (λhc=>?_) (λhc=>?_)))))
  ·exact absurd (hc) (by simp)
  exact V (hK7 _ _ (A λ_ hK34=>B (zm O (za O (zQ hK34 (L (z O h O)))))))
 refine u (zL hr h (λ(v35:Int)=>[(0,F p0),(1,I p1),(5,I v35)]) (λ(v35:Int)=>[]) O λ_ v35 _ hK37 h=>A λ_ hK38=>A λ_ hK39=>B (zm O (zm O (J (bJ O) O (zc O (zm O (zb (decide (v35<(List.length p0:Int))) (λhb40=>?_) λhb40=>?_)))))))
 ·refine z1 hb40 h λh=>zG hb40 O (N O) (zG hb40 O (N O) (ze hr h λb41 h42 h43 h44 h=>zG hb40 O (bY O O h42 h44) (zK hb40 O hp hr h [] Tryz.call135 (z7 (b41.toNat:Int)) O (λ_=>rfl) λy45 h=>zy hb40 O (zQ hK39 (zB O h (λ_ h=>?_) λ_ h=>?_)))))
  ·exact V (hK38 _ _ (u (B (zm O (zd hr h λhg47 h=>zo hg47 O (za O (W (hK37 _ _ _ h O))))))))
  exact aS (hK6 _ _ _ h O)
 refine z2 hb40 h λh=>zH 4 O hb40 (zw hb40 O (zQ hK39 (cb O (λhc=>?_) (λhc=>?_))))
 ·exact absurd (hc) (by simp)
 exact aS (hK6 _ _ _ h O)
def n7 (n:Nat) (p0:ByS) (p1:Int):D (Int):=
 jn (λ(v3:Int)=>jn (λ(v7:Bool)=>br v7 (gd (cr (v3+1)) (iter (λnext14 (v13:Int)=>br (decide (v13<(List.length p0:Int))) (el p0 v13 λb19=>D.bind (jX (b19.toNat:Int)) λy23=>br y23 (gd (cr (v13+1)) (next14 (v13+1))) (.ok (v13))) (.ok (v13))) n (v3+1))) (.ok (v3))) λj8=>br (decide (v3>p1)) (gd (cr (v3+1)) (br (decide ((v3+1)<(List.length p0:Int))) (el p0 v3 λb32=>br ((b32.toNat:Int)==46) (gd (cr (v3+1)) (el p0 (v3+1) λb38=>D.bind (jX (b38.toNat:Int)) λy42=>j8 (y42))) (j8 (false))) (j8 (false)))) (j8 (false))) λj4=>iter (λnext44 (v43:Int)=>br (decide (v43<(List.length p0:Int))) (el p0 v43 λb49=>D.bind (jX (b49.toNat:Int)) λy53=>br y53 (gd (cr (v43+1)) (next44 (v43+1))) (j4 (v43))) (j4 (v43))) n (p1)
theorem xb (n:Nat) (p0:ByS) (p1:Int):CT Tryz.prog 90 [F p0,I p1] [] (n7 n p0 p1) (λx=>I x) (λ_=>[]):=by
 refine zC Tryz.func90 O λr hp h hr E hE=>A λ_ hK1=>B (za O (zQ hK1 (A λ_ hK2=>B (zm O (za O (zQ hK2 (zM h (λ(v3:Int)=>[(0,F p0),(1,I p1),(5,I v3)]) (λ(v3:Int)=>[]) (λv3 h=>?_) λ_ _ hK5 h=>?_)))))))
 ·refine A λ_ hK6=>zM h (λ(v7:Bool)=>[(0,F p0),(1,I p1),(5,I v3),(41,Bo v7)]) (λ(v7:Bool)=>[]) (λv7 h=>?_) λ_ _ hK9 h=>?_
  ·refine zB O h (λ_ h=>?_) λ_ h=>?_
   ·refine A λ_ hK11=>B (zm O (zd hr h λhg12 h=>zo hg12 O (za O (zQ hK11 (u (zL hr h (λ(v13:Int)=>[(0,F p0),(1,I p1),(5,I v13)]) (λ(v13:Int)=>[]) O λ_ v13 _ hK15 h=>A λ_ hK16=>A λ_ hK17=>B (zm O (zm O (J (bJ O) O (zc O (zm O (zb (decide (v13<(List.length p0:Int))) (λhb18=>?_) λhb18=>?_))))))))))))
    ·refine z1 hb18 h λh=>zG hb18 O (N O) (zG hb18 O (N O) (ze hr h λb19 h20 h21 h22 h=>zG hb18 O (bY O O h20 h22) (zK hb18 O hp hr h [] Tryz.call84 (ll (b19.toNat:Int)) O (λ_=>rfl) λy23 h=>zy hb18 O (zQ hK17 (zB O h (λ_ h=>?_) λ_ h=>?_)))))
     ·exact V (hK16 _ _ (u (B (zm O (zd hr h λhg25 h=>zo hg25 O (za O (W (hK15 _ _ _ h O))))))))
     exact aS (hK6 _ _ (A λ_ hK26=>B (zm O (za O (zQ hK26 (L (z O h O)))))))
    refine z2 hb18 h λh=>zH 4 O hb18 (zw hb18 O (zQ hK17 (cb O (λhc=>?_) (λhc=>?_))))
    ·exact absurd (hc) (by simp)
    exact aS (hK6 _ _ (A λ_ hK27=>B (zm O (za O (zQ hK27 (L (z O h O)))))))
   exact V (hK6 _ _ (A λ_ hK28=>B (zm O (za O (zQ hK28 (L (z O h O)))))))
  refine B (zm O (zm O (zc O (zm O (zb (decide (v3>p1)) (λhb29=>?_) λhb29=>?_)))))
  ·refine z1 hb29 h λh=>zG hb29 O (N O) (zd hr h λhg30 h=>zG hb29 O (gV O O hg30) (zG hb29 O (N O) (zG hb29 O (bJ O) (zG hb29 O (aX O O O) (zy hb29 O (zm O (zb (decide ((v3+1)<(List.length p0:Int))) (λhb31=>?_) λhb31=>?_)))))))
   ·refine z1 hb31 h λh=>zG hb31 O (N O) (zG hb31 O (N O) (ze hr h λb32 h33 h34 h35 h=>zG hb31 O (bY O O h33 h35) (zG hb31 O (aX O O O) (zy hb31 O (zm O (zb ((b32.toNat:Int)==46) (λhb36=>?_) λhb36=>?_))))))
    ·exact z1 hb36 h λh=>zG hb36 O (N O) (zG hb36 O (N O) (zd hr h λhg37 h=>zG hb36 O (gV O O hg37) (ze hr h λb38 h39 h40 h41 h=>zG hb36 O (bY O O h39 h41) (zK hb36 O hp hr h [] Tryz.call84 (ll (b38.toNat:Int)) O (λ_=>rfl) λy42 h=>zy hb36 O (W (hK9 _ _ _ h O))))))
    exact z2 hb36 h λh=>zH 5 O hb36 (zw hb36 O (W (hK9 _ _ _ h O)))
   exact z2 hb31 h λh=>zH 4 O hb31 (zw hb31 O (zm O (zH 5 O O (J (de O O) O (W (hK9 _ _ _ h O))))))
  exact z2 hb29 h λh=>zH 5 O hb29 (zw hb29 O (zm O (zH 4 O O (J (de O O) O (zm O (zH 5 O O (J (de O O) O (W (hK9 _ _ _ h O)))))))))
 refine u (zL hr h (λ(v43:Int)=>[(0,F p0),(1,I p1),(5,I v43)]) (λ(v43:Int)=>[]) O λ_ v43 _ hK45 h=>A λ_ hK46=>A λ_ hK47=>B (zm O (zm O (J (bJ O) O (zc O (zm O (zb (decide (v43<(List.length p0:Int))) (λhb48=>?_) λhb48=>?_)))))))
 ·refine z1 hb48 h λh=>zG hb48 O (N O) (zG hb48 O (N O) (ze hr h λb49 h50 h51 h52 h=>zG hb48 O (bY O O h50 h52) (zK hb48 O hp hr h [] Tryz.call84 (ll (b49.toNat:Int)) O (λ_=>rfl) λy53 h=>zy hb48 O (zQ hK47 (zB O h (λ_ h=>?_) λ_ h=>?_)))))
  ·exact V (hK46 _ _ (u (B (zm O (zd hr h λhg55 h=>zo hg55 O (za O (W (hK45 _ _ _ h O))))))))
  exact aS (hK5 _ _ _ h O)
 refine z2 hb48 h λh=>zH 4 O hb48 (zw hb48 O (zQ hK47 (cb O (λhc=>?_) (λhc=>?_))))
 ·exact absurd (hc) (by simp)
 exact aS (hK5 _ _ _ h O)
def rE:D ((List ByS)):=
 .ok ([([95,124,95]:ByS),([46,46,46]:ByS),([61,61]:ByS),([33,61]:ByS),([60,61]:ByS),([62,61]:ByS),([61,126]:ByS),([33,126]:ByS),([38,38]:ByS),([124,124]:ByS),([95]:ByS),([40]:ByS),([41]:ByS),([91]:ByS),([93]:ByS),([123]:ByS),([125]:ByS),([58]:ByS),([44]:ByS),([46]:ByS),([63]:ByS),([33]:ByS),([42]:ByS),([38]:ByS),([124]:ByS),([61]:ByS),([60]:ByS),([62]:ByS),([43]:ByS),([45]:ByS),([47]:ByS),([37]:ByS)])
theorem uh:CT Tryz.prog 134 [] [] (rE) (λx=>.pv (.sl (List.length x) (cd x))) (λ_=>[]):=by
 refine zC Tryz.func134 O λr hp h hr E hE=>A λ_ hK1=>B (za O (zQ hK1 (A λ_ hK2=>B (bN [([95,124,95]:ByS),([46,46,46]:ByS),([61,61]:ByS),([33,61]:ByS),([60,61]:ByS),([62,61]:ByS),([61,126]:ByS),([33,126]:ByS),([38,38]:ByS),([124,124]:ByS),([95]:ByS),([40]:ByS),([41]:ByS),([91]:ByS),([93]:ByS),([123]:ByS),([125]:ByS),([58]:ByS),([44]:ByS),([46]:ByS),([63]:ByS),([33]:ByS),([42]:ByS),([38]:ByS),([124]:ByS),([61]:ByS),([60]:ByS),([62]:ByS),([43]:ByS),([45]:ByS),([47]:ByS),([37]:ByS)] dS O2 O ?_))));exact za O (zQ hK2 (L (z O h O)))
def me (n:Nat) (p0:ByS) (p1:Int):D (ByS):=
 D.bind (rE) λy3=>iter (λnext7 (v6:Int)=>br (decide (v6<(List.length y3:Int))) (gd (cr ((List.length p0:Int) - p1)) (el y3 v6 λw7=>br (decide (((List.length p0:Int) - p1)>=(List.length w7:Int))) (el y3 v6 λx20=>gd (cr (p1+(List.length x20:Int))) (gd ((0:Int)<=p1/\(p1:Int)<=(p1+(List.length x20:Int))/\(p1+(List.length x20:Int))<=(List.length p0:Int)) (el y3 v6 λx26=>br ((sub p0 p1 (p1+(List.length x20:Int)))==x26) (el y3 v6 λx32=>.ok (x32)) (gd (cr (v6+1)) (next7 (v6+1)))))) (gd (cr (v6+1)) (next7 (v6+1))))) (.ok (([]:ByS)))) n (0)
theorem uZ (n:Nat) (p0:ByS) (p1:Int):CT Tryz.prog 92 [F p0,I p1] [] (me n p0 p1) (λx=>F x) (λ_=>[]):=by
 refine zC Tryz.func92 O λr hp h hr E hE=>A λ_ hK1=>B (za O (zQ hK1 (A λ_ hK2=>B (zk hp hr h [] Tryz.call134 (uh) O (λ_=>rfl) λy3 h=>za O (zQ hK2 (A λ_ hK4=>A λ_ hK5=>B (za O (zQ hK5 (u (zL hr h (λ(v6:Int)=>[(0,F p0),(1,I p1),(5,.pv (.sl (List.length y3) (cd y3))),(6,I v6)]) (λ(v6:Int)=>[]) O λ_ v6 _ hK8 h=>A λ_ hK9=>A λ_ hK10=>B (zm O (zm O (J (ca O) O (zc O (zQ hK10 ?_)))))))))))))));refine zB O h (λ_ h=>?_) λ_ h=>?_
 ·refine V (hK9 _ _ (A λ_ hK12=>u (A λ_ hK13=>bu [0,1,2,3,4,5,6,7,8,9,10,11,12,13,14,15,16,17,18,19,20,21,22,23,24,25,26] O (by kernel_rfl) (zD O (N O) O (zD O (bJ O) O (zD O (N O) O (zd hr h λhg14 h=>zD O (jT O O hg14) O (zD O (N O) O (zD O (N O) O (ze hr h λw7 h16 h17 h18 h=>zD O (fR dS gb h16 h17 h18 O O O) O (zD O (dT O O) O (zD O (bJ O) O (zD O (aX O O O) O (zD O (N O) O (zb (decide (((List.length p0:Int) - p1)>=(List.length w7:Int))) (λhb19=>?_) λhb19=>?_)))))))))))))))
  ·refine z1 hb19 h λh=>cK hb19 O O2 (N O) O3 ?_;refine cK hb19 O O2 (N O) O3 ?_;refine cK hb19 O O2 (N O) O3 ?_;refine cK hb19 O O2 (N O) O3 ?_;refine cK hb19 O O2 (N O) O3 ?_;refine ze hr h λx20 h21 h22 h23 h=>cK hb19 O O2 (fR dS gb h21 h22 h23 O O O) O3 ?_;refine cK hb19 O O2 (dT O O) O3 ?_;refine cK hb19 O O2 (bJ O) O3 ?_;refine zd hr h λhg24 h=>cK hb19 O O2 (gV O O hg24) O3 ?_;refine zd hr h λhg25 h=>cK hb19 O O2 (lG O O O hg25.1 hg25.2.1 hg25.2.2) O3 ?_;refine cK hb19 O O2 (N O) O3 ?_;refine cK hb19 O O2 (N O) O3 ?_;refine ze hr h λx26 h27 h28 h29 h=>cK hb19 O O2 (fR dS gb h27 h28 h29 O O O) O3 ?_;refine cK hb19 O O2 (dT O O) O3 ?_;refine cK hb19 O O2 (iS O O) O3 ?_;refine zD O (cY hb19 O O) O (ct (hK13 _ _ (zB O h (λ_ h=>?_) λ_ h=>?_)))
   ·exact A λ_ hK31=>B (zm O (zm O (ze hr h λx32 h33 h34 h35 h=>J (fR dS gb h33 h34 h35 O O O) O (J (dT O O) O (za O (zQ hK31 (L (z O h O))))))))
   exact V (hK12 _ _ (B (zm O (zd hr h λhg36 h=>zo hg36 O (za O (W (hK8 _ _ _ h O)))))))
  refine z2 hb19 h λh=>cI hb19 O O2 O2 ?_;refine cI hb19 O O2 O2 ?_;refine cI hb19 O O2 O2 ?_;refine cI hb19 O O2 O2 ?_;refine cI hb19 O O2 O2 ?_;refine cI hb19 O O2 O2 ?_;refine cI hb19 O O2 O2 ?_;refine cI hb19 O O2 O2 ?_;refine cI hb19 O O2 O2 ?_;refine cI hb19 O O2 O2 ?_;refine cI hb19 O O2 O2 ?_;refine cI hb19 O O2 O2 ?_;refine cI hb19 O O2 O2 ?_;refine cI hb19 O O2 O2 ?_;refine cI hb19 O O2 O2 ?_;refine zD O (cU hb19 O O) O (ct (hK13 _ _ (cb O (λhc=>?_) (λhc=>?_))))
  ·exact absurd (hc) (by simp)
  exact V (hK12 _ _ (B (zm O (zd hr h λhg37 h=>zo hg37 O (za O (W (hK8 _ _ _ h O)))))))
 exact aS (hK4 _ _ (A λ_ hK38=>B (za O (zQ hK38 (L (z O h O))))))
def s5 (n:Nat) (p0:ByS) (p1:Int):D (Int×Bool):=
 gd (cr (p1+1)) (iter (λnext7 (v6:Bool×Int)=>br (decide (v6.2<(List.length p0:Int))) (jn (λ(v12:Bool×Int)=>gd (cr (v12.2+1)) (next7 (v12.1,v12.2+1))) λj13=>el p0 v6.2 λb18=>br ((b18.toNat:Int)==34) (.ok (v6.2,v6.1)) (el p0 v6.2 λb25=>br ((b25.toNat:Int)==92) (gd (cr (v6.2+1)) (br v6.1 (j13 (true,v6.2+1)) (br (decide ((v6.2+1)<(List.length p0:Int))) (el p0 (v6.2+1) λb34=>j13 (((b34.toNat:Int)==40),v6.2+1)) (j13 (false,v6.2+1))))) (j13 (v6.1,v6.2)))) (.ok ((-1),false))) n (false,p1+1))
theorem Bq (n:Nat) (p0:ByS) (p1:Int):CT Tryz.prog 88 [F p0,I p1] [] (s5 n p0 p1) (λx=>.fZ [I x.1,Bo x.2]) (λ_=>[]):=by
 refine zC Tryz.func88 O λr hp h hr E hE=>A λ_ hK1=>B (za O (za O (zQ hK1 (A λ_ hK2=>B (za O (zQ hK2 (A λ_ hK3=>A λ_ hK4=>B (zm O (zd hr h λhg5 h=>zo hg5 O (za O (zQ hK4 (u (zL hr h (λ(v6:Bool×Int)=>[(0,F p0),(1,I p1),(6,Bo v6.1),(7,I v6.2)]) (λ(v6:Bool×Int)=>[]) O λ_ v6 _ hK8 h=>A λ_ hK9=>A λ_ hK10=>B (zm O (zm O ?_)))))))))))))));refine J (bJ O) O (zc O (zQ hK10 (zB O h (λ_ h=>?_) λ_ h=>?_)))
 ·refine V (hK9 _ _ (zM h (λ(v12:Bool×Int)=>[(0,F p0),(1,I p1),(6,Bo v12.1),(7,I v12.2)]) (λ(v12:Bool×Int)=>[]) (λv12 h=>?_) λ_ _ hK14 h=>?_))
  ·exact B (zm O (zd hr h λhg15 h=>zo hg15 O (za O (W (hK8 _ _ _ h O)))))
  refine u (A λ_ hK16=>A λ_ hK17=>B (zm O (zm O (ze hr h λb18 h19 h20 h21 h=>J (bY O O h19 h21) O (zc O (zQ hK17 (zB O h (λ_ h=>?_) λ_ h=>?_)))))))
  ·exact A λ_ hK23=>B (zm O (zm O (za O (za O (zQ hK23 (L (zX (.cons (aP O) (.cons (aP O) .nil)) h O)))))))
  refine V (hK16 _ _ (A λ_ hK24=>B (zm O (zm O (ze hr h λb25 h26 h27 h28 h=>J (bY O O h26 h28) O (zc O (zQ hK24 (zB O h (λ_ h=>?_) λ_ h=>?_))))))))
  ·refine A λ_ hK30=>B (zm O (zd hr h λhg31 h=>zo hg31 O (za O (zQ hK30 (B (zm O (zm O (zb v6.1 (λhb32=>?_) λhb32=>?_))))))))
   ·exact z1 hb32 h λh=>zH 5 O hb32 (zu O (zu O (zu O (zu O (zg hb32 O (zy hb32 O (za O (W (hK14 _ _ _ h O)))))))))
   refine z2 hb32 h λh=>zG hb32 O (N O) (zG hb32 O (N O) (zG hb32 O (bJ O) (zG hb32 O (aX O O O) (zG hb32 O (N O) (zb (decide ((v6.2+1)<(List.length p0:Int))) (λhb33=>?_) λhb33=>?_)))))
   ·exact z1 hb33 h λh=>zG hb33 O (N O) (zG hb33 O (N O) (ze hr h λb34 h35 h36 h37 h=>zG hb33 O (bY O O h35 h37) (zG hb33 O (aX O O O) (zG hb32 O (cY hb33 O O) (zw hb32 O (za O (W (hK14 _ _ _ h O))))))))
   exact z2 hb33 h λh=>zH 4 O hb33 (zG hb32 O (cU hb33 O O) (zw hb32 O (za O (W (hK14 _ _ _ h O)))))
  exact V (hK14 _ _ _ h O)
 exact aS (hK3 _ _ (A λ_ hK38=>B (za O (za O (zQ hK38 (L (zX (.cons (aP O) (.cons (aP O) .nil)) h O)))))))
def mD (p0:Int):D (Int):=
 D.bind (jX p0) λy4=>br y4 (gd (cr ((IntKind.wrap .i64 p0) - 48)) (.ok ((IntKind.wrap .i64 p0) - 48))) (jn (λ(_:Unit)=>br (decide (p0>=65)) (br (decide (p0<=70)) (gd (cr ((IntKind.wrap .i64 p0) - 65)) (gd (cr (((IntKind.wrap .i64 p0) - 65)+10)) (.ok (((IntKind.wrap .i64 p0) - 65)+10)))) (.ok ((-1)))) (.ok ((-1)))) λj9=>br (decide (p0>=97)) (br (decide (p0<=102)) (gd (cr ((IntKind.wrap .i64 p0) - 97)) (gd (cr (((IntKind.wrap .i64 p0) - 97)+10)) (.ok (((IntKind.wrap .i64 p0) - 97)+10)))) (j9 ())) (j9 ()))
theorem pk (p0:Int):CT Tryz.prog 223 [Sc (.int .u8 p0)] [] (mD p0) (λx=>I x) (λ_=>[]):=by
 refine zC Tryz.func223 O λr hp h hr E hE=>A λ_ hK1=>B (za O (zQ hK1 (A λ_ hK2=>A λ_ hK3=>B (zm O (zk hp hr h [] Tryz.call84 (ll p0) O (λ_=>rfl) λy4 h=>zQ hK3 (zB O h (λ_ h=>?_) λ_ h=>?_))))))
 ·exact A λ_ hK6=>B (zm O (J (jy O) O (zd hr h λhg7 h=>J (jT O O hg7) O (za O (zQ hK6 (L (z O h O)))))))
 refine V (hK2 _ _ (zM h (λ(v8:Unit)=>[(0,Sc (.int .u8 p0))]) (λ(v8:Unit)=>[]) (λv8 h=>?_) λ_ _ hK10 h=>?_))
 ·refine A λ_ hK11=>A λ_ hK12=>B (zm O (zc O (zm O (zb (decide (p0>=65)) (λhb13=>?_) λhb13=>?_))))
  ·refine z1 hb13 h λh=>zG hb13 O (N O) (zG hb13 O (aX O O O) (zy hb13 O (zQ hK12 (zB O h (λ_ h=>?_) λ_ h=>?_))))
   ·exact A λ_ hK15=>B (zm O (J (jy O) O (zd hr h λhg16 h=>J (jT O O hg16) O (zd hr h λhg17 h=>zo hg17 O (za O (zQ hK15 (L (z O h O))))))))
   exact V (hK11 _ _ (A λ_ hK18=>B (za O (zQ hK18 (L (z O h O))))))
  refine z2 hb13 h λh=>zH 2 O hb13 (zw hb13 O (zQ hK12 (cb O (λhc=>?_) (λhc=>?_))))
  ·exact absurd (hc) (by simp)
  exact V (hK11 _ _ (A λ_ hK19=>B (za O (zQ hK19 (L (z O h O))))))
 refine A λ_ hK20=>B (zm O (zc O (zm O (zb (decide (p0>=97)) (λhb21=>?_) λhb21=>?_))))
 ·refine z1 hb21 h λh=>zG hb21 O (N O) (zG hb21 O (aX O O O) (zy hb21 O (zQ hK20 (zB O h (λ_ h=>?_) λ_ h=>?_))))
  ·exact A λ_ hK23=>B (zm O (J (jy O) O (zd hr h λhg24 h=>J (jT O O hg24) O (zd hr h λhg25 h=>zo hg25 O (za O (zQ hK23 (L (z O h O))))))))
  exact V (hK10 _ _ _ h O)
 refine z2 hb21 h λh=>zH 2 O hb21 (zw hb21 O (zQ hK20 (cb O (λhc=>?_) (λhc=>?_))))
 ·exact absurd (hc) (by simp)
 exact V (hK10 _ _ _ h O)
def n8 (p0:ByS) (p1:Int):D (Int×Int):=
 gd (cr (p1+1)) (br (decide ((p1+1)>=(List.length p0:Int))) (.ok (0,0)) (el p0 p1 λb7=>br ((b7.toNat:Int) !=92) (.ok (0,0)) (gd (cr (p1+1)) (el p0 (p1+1) λb16=>jn (λ(v20:Bool)=>br v20 (gd (cr (p1+1)) (el p0 (p1+1) λb26=>.ok ((b26.toNat:Int),2))) (br ((b16.toNat:Int)==110) (.ok (10,2)) (br ((b16.toNat:Int)==116) (.ok (9,2)) (br ((b16.toNat:Int)==114) (.ok (13,2)) (jn (λ(v40:Bool)=>br v40 (gd (cr (p1+2)) (el p0 (p1+2) λb46=>gd (cr (p1+3)) (el p0 (p1+3) λb51=>D.bind (mD (b46.toNat:Int)) λy55=>D.bind (mD (b51.toNat:Int)) λy56=>gd (cr ((IntKind.wrap .i64 (16*y55))+y56)) (.ok (IntKind.wrap .u8 ((IntKind.wrap .i64 (16*y55))+y56),4))))) (.ok (0,0))) λj41=>gd (cr (p1+1)) (el p0 (p1+1) λb60=>br ((b60.toNat:Int)==120) (gd (cr (p1+3)) (br (decide ((p1+3)<(List.length p0:Int))) (gd (cr (p1+2)) (el p0 (p1+2) λb68=>D.bind (mD (b68.toNat:Int)) λy72=>br (decide (y72>=0)) (gd (cr (p1+3)) (el p0 (p1+3) λb75=>D.bind (mD (b75.toNat:Int)) λy79=>j41 ((decide (y79>=0))))) (j41 (false)))) (j41 (false)))) (j41 (false)))))))) λj21=>br ((b16.toNat:Int)==34) (j21 (((b16.toNat:Int)==34))) (j21 (((b16.toNat:Int)==92)))))))
theorem xc (p0:ByS) (p1:Int):CT Tryz.prog 186 [F p0,I p1] [] (n8 p0 p1) (λx=>.fZ [Sc (.int .u8 x.1),I x.2]) (λ_=>[]):=by
 refine zC Tryz.func186 O λr hp h hr E hE=>A λ_ hK1=>B (za O (za O (zQ hK1 (A λ_ hK2=>A λ_ hK3=>B (zm O (zd hr h λhg4 h=>zo hg4 O (zm O (J (bJ O) O (zc O (zm O (zb (decide ((p1+1)>=(List.length p0:Int))) (λhb5=>?_) λhb5=>?_)))))))))))
 ·refine z1 hb5 h λh=>zH 4 O hb5 (zy hb5 O (zQ hK3 (cb O (λhc=>?_) (λhc=>?_))))
  ·exact A λ_ hK6=>B (za O (za O (zQ hK6 (L (zX (.cons (aP O) (.cons (aP O) .nil)) h O)))))
  exact absurd (hc) (by simp)
 refine z2 hb5 h λh=>zG hb5 O (N O) (zG hb5 O (N O) (ze hr h λb7 h8 h9 h10 h=>zG hb5 O (bY O O h8 h10) (zG hb5 O (aX O O O) (zw hb5 O (zQ hK3 (zB O h (λ_ h=>?_) λ_ h=>?_))))))
 ·exact A λ_ hK12=>B (za O (za O (zQ hK12 (L (zX (.cons (aP O) (.cons (aP O) .nil)) h O)))))
 refine V (hK2 _ _ (A λ_ hK13=>A λ_ hK14=>B (zm O (zm O (zd hr h λhg15 h=>zo hg15 O (ze hr h λb16 h17 h18 h19 h=>J (bY O O h17 h19) O (zQ hK14 (u (zM h (λ(v20:Bool)=>[(0,F p0),(1,I p1),(20,Sc (.int .u8 (b16.toNat:Int))),(21,Bo v20)]) (λ(v20:Bool)=>[]) (λv20 h=>?_) λ_ _ hK22 h=>?_)))))))))
 ·refine zB O h (λ_ h=>?_) λ_ h=>?_
  ·exact A λ_ hK24=>B (zm O (zm O (zd hr h λhg25 h=>zo hg25 O (ze hr h λb26 h27 h28 h29 h=>J (bY O O h27 h29) O (za O (za O (zQ hK24 (L (zX (.cons (aP O) (.cons (aP O) .nil)) h O)))))))))
  refine A λ_ hK30=>B (zc O (za O (zQ hK30 (zB O h (λ_ h=>?_) λ_ h=>?_))))
  ·exact A λ_ hK32=>B (za O (za O (zQ hK32 (L (zX (.cons (aP O) (.cons (aP O) .nil)) h O)))))
  refine A λ_ hK33=>B (zc O (za O (zQ hK33 (zB O h (λ_ h=>?_) λ_ h=>?_))))
  ·exact A λ_ hK35=>B (za O (za O (zQ hK35 (L (zX (.cons (aP O) (.cons (aP O) .nil)) h O)))))
  refine A λ_ hK36=>B (zc O (za O (zQ hK36 (zB O h (λ_ h=>?_) λ_ h=>?_))))
  ·exact A λ_ hK38=>B (za O (za O (zQ hK38 (L (zX (.cons (aP O) (.cons (aP O) .nil)) h O)))))
  refine V (hK13 _ _ (A λ_ hK39=>zM h (λ(v40:Bool)=>[(0,F p0),(1,I p1),(61,Bo v40)]) (λ(v40:Bool)=>[]) (λv40 h=>?_) λ_ _ hK42 h=>?_))
  ·refine zB O h (λ_ h=>?_) λ_ h=>?_
   ·refine A λ_ hK44=>bu [0,1,2,3,6,7,8,9,4,5,10,11,12,13,14] O (by kernel_rfl) (zD O (N O) O (zD O (N O) O (zd hr h λhg45 h=>zD O (gV O O hg45) O (ze hr h λb46 h47 h48 h49 h=>zD O (bY O O h47 h49) O (zD O (N O) O (zD O (N O) O (zd hr h λhg50 h=>zD O (gV O O hg50) O (ze hr h λb51 h52 h53 h54 h=>zD O (bY O O h52 h54) O (dG O (bQ O) hr h [] Tryz.call223 (pk (b46.toNat:Int)) ⟨O,O,O,O,O,O,trivial⟩ O O (λ_=>O3) (λ_=>O2) hp (λy55 h=>⟨y O,?_⟩))))))))));refine zD O (wN O O) O (dG O (bQ O) hr h [] Tryz.call223 (pk (b51.toNat:Int)) ⟨O,O,O,O,O,O,trivial⟩ O O (λ_=>O3) (λ_=>O2) hp (λy56 h=>⟨y O,?_⟩));exact zd hr h λhg57 h=>zD O (gV O O hg57) O (zD O (jy O) O (eM O O O (y O) O (eM O O O (y O) O (ct (hK44 _ _ (L (zX (.cons (aP O) (.cons (aP O) .nil)) h O)))))))
   exact V (hK39 _ _ (A λ_ hK58=>B (za O (za O (zQ hK58 (L (zX (.cons (aP O) (.cons (aP O) .nil)) h O)))))))
  refine B (zm O (zm O (zd hr h λhg59 h=>zo hg59 O (ze hr h λb60 h61 h62 h63 h=>J (bY O O h61 h63) O (zc O (zm O (zb ((b60.toNat:Int)==120) (λhb64=>?_) λhb64=>?_)))))))
  ·refine z1 hb64 h λh=>zG hb64 O (N O) (zd hr h λhg65 h=>zG hb64 O (gV O O hg65) (zG hb64 O (N O) (zG hb64 O (bJ O) (zG hb64 O (aX O O O) (zy hb64 O (zm O (zb (decide ((p1+3)<(List.length p0:Int))) (λhb66=>?_) λhb66=>?_)))))))
   ·refine z1 hb66 h λh=>zG hb66 O (N O) (zG hb66 O (N O) (zd hr h λhg67 h=>zG hb66 O (gV O O hg67) (ze hr h λb68 h69 h70 h71 h=>zG hb66 O (bY O O h69 h71) (zK hb66 O hp hr h [] Tryz.call223 (pk (b68.toNat:Int)) O (λ_=>rfl) λy72 h=>zG hb66 O (aX O O O) (zy hb66 O (zm O (zb (decide (y72>=0)) (λhb73=>?_) λhb73=>?_)))))))
    ·exact z1 hb73 h λh=>zG hb73 O (N O) (zG hb73 O (N O) (zd hr h λhg74 h=>zG hb73 O (gV O O hg74) (ze hr h λb75 h76 h77 h78 h=>zG hb73 O (bY O O h76 h78) (zK hb73 O hp hr h [] Tryz.call223 (pk (b75.toNat:Int)) O (λ_=>rfl) λy79 h=>zG hb73 O (aX O O O) (zy hb73 O (W (hK42 _ _ _ h O)))))))
    exact z2 hb73 h λh=>zH 6 O hb73 (zw hb73 O (W (hK42 _ _ _ h O)))
   exact z2 hb66 h λh=>zH 6 O hb66 (zw hb66 O (zm O (zH 6 O O (J (de O O) O (W (hK42 _ _ _ h O))))))
  exact z2 hb64 h λh=>zH 5 O hb64 (zw hb64 O (zm O (zH 6 O O (J (de O O) O (zm O (zH 6 O O (J (de O O) O (W (hK42 _ _ _ h O)))))))))
 refine A λ_ hK80=>B (zc O (za O (zQ hK80 (zB O h (λ_ h=>?_) λ_ h=>?_))))
 ·exact V (hK22 _ _ _ h O)
 exact B (zc O (za O (W (hK22 _ _ _ h O))))
def jY (p0:Int):D (cL):=
 .ok ((cL.mk 8 p0))
theorem kv (p0:Int):CT Tryz.prog 185 [I p0] [] (jY p0) (λx=>.agg [I x.Errno,I x.At]) (λ_=>[]):=by
 refine zC Tryz.func185 O λr hp h hr E hE=>A λ_ hK1=>B (aH 102 (hE _ O) O4 O ?_);refine zQ hK1 (A λ_ hK2=>B (zm O (J (bd O O O) O ?_)));exact zs O (zQ hK2 (L (zX (.cons (aT O O O) .nil) h O)))
def kx (n:Nat) (p0:ByS):D (ByS×cL):=
 br (decide ((List.length p0:Int)>65536)) (.ok (([]:ByS),(cL.mk 2 0))) (br ((List.length p0:Int)==0) (D.bind (jY 0) λy10=>.ok (([]:ByS),y10)) (el p0 0 λb11=>br ((b11.toNat:Int) !=34) (D.bind (jY 0) λy17=>.ok (([]:ByS),y17)) (iter (λnext22 (v21:(List Int)×Int)=>br (decide (v21.2<(List.length p0:Int))) (el p0 v21.2 λb29=>br ((b29.toNat:Int)==34) (gd (cr (v21.2+1)) (br (decide ((v21.2+1)<(List.length p0:Int))) (gd (cr (v21.2+1)) (D.bind (jY (v21.2+1)) λy42=>.ok (([]:ByS),y42))) (.ok (gR v21.1,(cL.mk 0 0))))) (br ((b29.toNat:Int)==92) (D.bind (n8 p0 v21.2) λy47=>br (y47.2==0) (D.bind (jY v21.2) λy52=>.ok (([]:ByS),y52)) (gd (k2 1 (List.length v21.1) (List.length [y47.1])) (gd (cr (v21.2+y47.2)) (gd (cr ((v21.2+y47.2) - 1)) (gd (cr (((v21.2+y47.2) - 1)+1)) (next22 (v21.1++[y47.1],((v21.2+y47.2) - 1)+1))))))) (jn (λ(v58:Bool)=>br v58 (D.bind (jY v21.2) λy63=>.ok (([]:ByS),y63)) (gd (k2 1 (List.length v21.1) (List.length [(b29.toNat:Int)])) (gd (cr (v21.2+1)) (next22 (v21.1++[(b29.toNat:Int)],v21.2+1))))) λj59=>br (decide ((b29.toNat:Int)<32)) (j59 (true)) (j59 ((decide ((b29.toNat:Int)>126))))))) (D.bind (jY (List.length p0:Int)) λy68=>.ok (([]:ByS),y68))) n ([],1))))
theorem nJ (n:Nat) (p0:ByS):CT Tryz.prog 131 [F p0] [] (kx n p0) (λx=>.fZ [F x.1,.agg [I x.2.Errno,I x.2.At]]) (λ_=>[]):=by
 refine zC Tryz.func131 O λr hp h hr E hE=>A λ_ hK1=>B (za O (aH 103 (hE _ O) O4 O ?_));refine zQ hK1 (A λ_ hK2=>A λ_ hK3=>B (zm O (J (bJ O) O (zc O (zQ hK3 (zB O h (λ_ h=>?_) λ_ h=>?_))))))
 ·refine A λ_ hK5=>B (J (bd O O O) O ?_);exact za O (zs O (zQ hK5 (L (zX (.cons (aP O) (.cons (aT O O O) .nil)) h O))))
 refine V (hK2 _ _ (A λ_ hK6=>A λ_ hK7=>B (zm O (J (bJ O) O (zc O (zm O (zb ((List.length p0:Int)==0) (λhb8=>?_) λhb8=>?_)))))))
 ·refine z1 hb8 h λh=>zH 3 O hb8 (zy hb8 O (zQ hK7 (cb O (λhc=>?_) (λhc=>?_))))
  ·exact A λ_ hK9=>B (zk hp hr h [] Tryz.call185 (kv 0) O (λ_=>rfl) λy10 h=>za O (zs O (zQ hK9 (L (zX (.cons (aP O) (.cons (aT O O O) .nil)) h O)))))
  exact absurd (hc) (by simp)
 refine z2 hb8 h λh=>zG hb8 O (N O) (ze hr h λb11 h12 h13 h14 h=>zG hb8 O (bY O O h12 h14) (zG hb8 O (aX O O O) (zw hb8 O (zQ hK7 (zB O h (λ_ h=>?_) λ_ h=>?_)))))
 ·exact A λ_ hK16=>B (zk hp hr h [] Tryz.call185 (kv 0) O (λ_=>rfl) λy17 h=>za O (zs O (zQ hK16 (L (zX (.cons (aP O) (.cons (aT O O O) .nil)) h O)))))
 refine V (hK6 _ _ (A λ_ hK18=>B (za O (zQ hK18 (A λ_ hK19=>A λ_ hK20=>B (za O (zQ hK20 (u (bK (pA (d:=4) 10004 (sz:=1) (el:=5) (hE _ O) O O3) ?_)))))))));refine zL hr h (λ(v21:(List Int)×Int)=>[(0,F p0),(3,.ptr 103 0),(4,.arr 10004 (List.length v21.1)),(5,I v21.2)]) (λ(v21:(List Int)×Int)=>[(103,.box [I 0,I 0]),(10004,.app 5 1 (ss v21.1))]) O λ_ v21 _ hK23 h=>A λ_ hK24=>A λ_ hK25=>B (zm O (zm O (J (bJ O) O (zc O (zQ hK25 (zB O h (λ_ h=>?_) λ_ h=>?_))))))
 ·refine V (hK24 _ _ (A λ_ hK27=>u (A λ_ hK28=>B (zm O (zm O (ze hr h λb29 h30 h31 h32 h=>J (bY O O h30 h32) O (za O (zQ hK28 (A λ_ hK33=>A λ_ hK34=>B (zm O (zc O (zQ hK34 (zB O h (λ_ h=>?_) λ_ h=>?_)))))))))))))
  ·refine A λ_ hK36=>A λ_ hK37=>B (zm O (zd hr h λhg38 h=>zo hg38 O (zm O (J (bJ O) O (zc O (zQ hK37 (zB O h (λ_ h=>?_) λ_ h=>?_)))))))
   ·exact A λ_ hK40=>B (zm O (zd hr h λhg41 h=>zo hg41 O (zk hp hr h [] Tryz.call185 (kv (v21.2+1)) O (λ_=>rfl) λy42 h=>za O (zs O (zQ hK40 (L (zX (.cons (aP O) (.cons (aT O O O) .nil)) h O)))))))
   refine V (hK36 _ _ (A λ_ hK43=>B (J (kD iD lq O O O) O ?_)));refine J (we O O) O (J (bd O O O) O ?_);exact za O (zs O (zQ hK43 (L (zX (.cons (aP O) (.cons (aT O O O) .nil)) h O))))
  refine V (hK33 _ _ (A λ_ hK44=>B (zm O (zc O (zQ hK44 (zB O h (λ_ h=>?_) λ_ h=>?_))))))
  ·refine A λ_ hK46=>B (zm O (zm O (zk hp hr h [] Tryz.call186 (xc p0 v21.2) O (λ_=>rfl) λy47 h=>zm O (zx O (zx O (za O (za O (zQ hK46 (A λ_ hK48=>A λ_ hK49=>B (zm O (zc O (zQ hK49 (zB O h (λ_ h=>?_) λ_ h=>?_)))))))))))))
   ·exact A λ_ hK51=>B (zm O (zk hp hr h [] Tryz.call185 (kv v21.2) O (λ_=>rfl) λy52 h=>za O (zs O (zQ hK51 (L (zX (.cons (aP O) (.cons (aT O O O) .nil)) h O))))))
   refine V (hK48 _ _ (A λ_ hK53=>B (zm O (zm O (bN [y47.1] iD O2 O ?_)))));refine zd hr h λhg54 h=>jo 159 ⟨jD.h,dH.h,iD,lq,s4,hE _ O,O,O,(.inl O),O3,hg54⟩ O ?_;refine za O (aY (iT 159 10004 [(0,F p0),(3,.ptr 103 0),(4,.arr 10004 (List.length (v21.1++[y47.1]))),(5,I v21.2),(8,I y47.2)] [(103,.box [I 0,I 0])] (hE _ O) O O O2 ⟨⟨_,O,O,O⟩,⟨_,O,O,O⟩,⟨_,O,O,O⟩,⟨_,O,O,O⟩,⟨_,O,O,O⟩,trivial⟩ ⟨⟨_,O,O,O,O,O⟩,trivial⟩) ?_);exact zQ hK53 (B (zm O (zm O (zd hr h λhg55 h=>zo hg55 O (zd hr h λhg56 h=>J (jT O O hg56) O (za O (zQ hK27 (B (zm O (zd hr h λhg57 h=>zo hg57 O (za O (W (hK23 _ _ _ h O)))))))))))))
  refine zM h (λ(v58:Bool)=>[(0,F p0),(3,.ptr 103 0),(4,.arr 10004 (List.length v21.1)),(5,I v21.2),(6,Sc (.int .u8 (b29.toNat:Int))),(69,Bo v58)]) (λ(v58:Bool)=>[(103,.box [I 0,I 0]),(10004,.app 5 1 (ss v21.1))]) (λv58 h=>?_) λ_ _ hK60 h=>?_
  ·refine zB O h (λ_ h=>?_) λ_ h=>?_
   ·exact A λ_ hK62=>B (zm O (zk hp hr h [] Tryz.call185 (kv v21.2) O (λ_=>rfl) λy63 h=>za O (zs O (zQ hK62 (L (zX (.cons (aP O) (.cons (aT O O O) .nil)) h O))))))
   refine B (zm O (zm O (bN [(b29.toNat:Int)] iD O2 O ?_)));refine zd hr h λhg64 h=>jo 175 ⟨jD.h,dH.h,iD,lq,s4,hE _ O,O,O,(.inl O),O3,hg64⟩ O ?_;refine za O (aY (iT 175 10004 [(0,F p0),(3,.ptr 103 0),(4,.arr 10004 (List.length (v21.1++[(b29.toNat:Int)]))),(5,I v21.2)] [(103,.box [I 0,I 0])] (hE _ O) O O O2 ⟨⟨_,O,O,O⟩,⟨_,O,O,O⟩,⟨_,O,O,O⟩,⟨_,O,O,O⟩,trivial⟩ ⟨⟨_,O,O,O,O,O⟩,trivial⟩) ?_);exact zQ hK27 (B (zm O (zd hr h λhg65 h=>zo hg65 O (za O (W (hK23 _ _ _ h O))))))
  refine B (zm O (zc O (zm O (zb (decide ((b29.toNat:Int)<32)) (λhb66=>?_) λhb66=>?_))))
  ·exact z1 hb66 h λh=>zH 2 O hb66 (zy hb66 O (W (hK60 _ _ _ h O)))
  exact z2 hb66 h λh=>zG hb66 O (N O) (zG hb66 O (aX O O O) (zw hb66 O (W (hK60 _ _ _ h O))))
 exact aS (hK19 _ _ (A λ_ hK67=>B (zm O (J (bJ O) O (zk hp hr h [] Tryz.call185 (kv (List.length p0:Int)) O (λ_=>rfl) λy68 h=>za O (zs O (zQ hK67 (L (zX (.cons (aP O) (.cons (aT O O O) .nil)) h O)))))))))
def mL (n:Nat) (p0:ByS) (p1:Int):D (Int):=
 iter (λnext6 (v5:Int×Int)=>br (decide (v5.2<(List.length p0:Int))) (jn (λ(v11:Int)=>gd (cr (v5.2+1)) (next6 (v11,v5.2+1))) λj12=>jn (λ(_:Unit)=>el p0 v5.2 λb20=>br ((b20.toNat:Int)==40) (gd (cr (v5.1+1)) (el p0 v5.2 λb27=>br ((b27.toNat:Int)==41) (gd (cr ((v5.1+1) - 1)) (j12 ((v5.1+1) - 1))) (j12 (v5.1+1)))) (el p0 v5.2 λb34=>br ((b34.toNat:Int)==41) (gd (cr (v5.1 - 1)) (j12 (v5.1 - 1))) (j12 (v5.1)))) λj16=>el p0 v5.2 λb41=>br ((b41.toNat:Int)==41) (br (v5.1==0) (.ok (v5.2)) (j16 ())) (j16 ())) (.ok ((-1)))) n (0,p1)
theorem vN (n:Nat) (p0:ByS) (p1:Int):CT Tryz.prog 183 [F p0,I p1] [] (mL n p0 p1) (λx=>I x) (λ_=>[]):=by
 refine zC Tryz.func183 O λr hp h hr E hE=>A λ_ hK1=>B (za O (zQ hK1 (A λ_ hK2=>B (za O (zQ hK2 (A λ_ hK3=>A λ_ hK4=>B (zm O (za O (zQ hK4 (u (zL hr h (λ(v5:Int×Int)=>[(0,F p0),(1,I p1),(5,I v5.1),(6,I v5.2)]) (λ(v5:Int×Int)=>[]) O λ_ v5 _ hK7 h=>A λ_ hK8=>A λ_ hK9=>B (zm O (zm O (J (bJ O) O (zc O (zQ hK9 ?_))))))))))))))));refine zB O h (λ_ h=>?_) λ_ h=>?_
 ·refine V (hK8 _ _ (zM h (λ(v11:Int)=>[(0,F p0),(1,I p1),(5,I v11),(6,I v5.2)]) (λ(v11:Int)=>[]) (λv11 h=>?_) λ_ _ hK13 h=>?_))
  ·exact B (zm O (zd hr h λhg14 h=>zo hg14 O (za O (W (hK7 _ _ _ h O)))))
  refine u (zM h (λ(v15:Unit)=>[(0,F p0),(1,I p1),(5,I v5.1),(6,I v5.2)]) (λ(v15:Unit)=>[]) (λv15 h=>?_) λ_ _ hK17 h=>?_)
  ·refine A λ_ hK18=>A λ_ hK19=>B (zm O (zm O (ze hr h λb20 h21 h22 h23 h=>J (bY O O h21 h23) O (zc O (zQ hK19 (zB O h (λ_ h=>?_) λ_ h=>?_))))))
   ·refine B (zm O (zd hr h λhg25 h=>zo hg25 O (za O (zQ hK18 (A λ_ hK26=>B (zm O (zm O (ze hr h λb27 h28 h29 h30 h=>J (bY O O h28 h30) O (zc O (zQ hK26 (zB O h (λ_ h=>?_) λ_ h=>?_)))))))))))
    ·exact B (zm O (zd hr h λhg32 h=>J (jT O O hg32) O (za O (W (hK13 _ _ _ h O)))))
    exact V (hK13 _ _ _ h O)
   refine V (hK18 _ _ (A λ_ hK33=>B (zm O (zm O (ze hr h λb34 h35 h36 h37 h=>J (bY O O h35 h37) O (zc O (zQ hK33 (zB O h (λ_ h=>?_) λ_ h=>?_))))))))
   ·exact B (zm O (zd hr h λhg39 h=>J (jT O O hg39) O (za O (W (hK13 _ _ _ h O)))))
   exact V (hK13 _ _ _ h O)
  refine A λ_ hK40=>B (zm O (zm O (ze hr h λb41 h42 h43 h44 h=>J (bY O O h42 h44) O (zc O (zm O (zb ((b41.toNat:Int)==41) (λhb45=>?_) λhb45=>?_))))))
  ·refine z1 hb45 h λh=>zG hb45 O (N O) (zG hb45 O (aX O O O) (zy hb45 O (zQ hK40 (zB O h (λ_ h=>?_) λ_ h=>?_))))
   ·exact A λ_ hK47=>B (zm O (za O (zQ hK47 (L (z O h O)))))
   exact V (hK17 _ _ _ h O)
  refine z2 hb45 h λh=>zH 2 O hb45 (zw hb45 O (zQ hK40 (cb O (λhc=>?_) (λhc=>?_))))
  ·exact absurd (hc) (by simp)
  exact V (hK17 _ _ _ h O)
 exact aS (hK3 _ _ (A λ_ hK48=>B (za O (zQ hK48 (L (z O h O))))))
def po (n:Nat) (p0:ByS) (p1:Int):D (Int):=
 iter (λnext5 (v4:Int)=>br (decide (v4<=4)) (gd (cr (p1+v4)) (br (decide ((p1+v4)<=(List.length p0:Int))) (gd (cr (p1+v4)) (gd ((0:Int)<=p1/\(p1:Int)<=(p1+v4)/\(p1+v4)<=(List.length p0:Int)) (gd (mh ([34]:ByS) (sub p0 p1 (p1+v4))) (gd (mh (([34]:ByS)++(sub p0 p1 (p1+v4))) ([34]:ByS)) (D.bind (kx n ((([34]:ByS)++(sub p0 p1 (p1+v4)))++([34]:ByS))) λy18=>br (y18.2.Errno==0) (br ((List.length y18.1:Int)==1) (.ok (v4)) (gd (cr (v4+1)) (next5 (v4+1)))) (gd (cr (v4+1)) (next5 (v4+1)))))))) (.ok (0)))) (.ok (0))) n (1)
theorem xQ (n:Nat) (p0:ByS) (p1:Int):CT Tryz.prog 184 [F p0,I p1] [] (po n p0 p1) (λx=>I x) (λ_=>[]):=by
 refine zC Tryz.func184 O λr hp h hr E hE=>A λ_ hK1=>B (za O (zQ hK1 (A λ_ hK2=>A λ_ hK3=>B (za O (zQ hK3 (u (zL hr h (λ(v4:Int)=>[(0,F p0),(1,I p1),(5,I v4)]) (λ(v4:Int)=>[]) O λ_ v4 _ hK6 h=>A λ_ hK7=>A λ_ hK8=>B (zm O (zc O (zm O (zb (decide (v4<=4)) (λhb9=>?_) λhb9=>?_)))))))))))
 ·refine z1 hb9 h λh=>zG hb9 O (N O) (zG hb9 O (N O) (zd hr h λhg10 h=>zG hb9 O (gV O O hg10) (zG hb9 O (N O) (zG hb9 O (bJ O) (zG hb9 O (aX O O O) (zy hb9 O (zQ hK8 (zB O h (λ_ h=>?_) λ_ h=>?_))))))))
  ·refine V (hK7 _ _ (A λ_ hK12=>u (A λ_ hK13=>B (zm O (zm O (zm O (zm O (zd hr h λhg14 h=>zo hg14 O (zd hr h λhg15 h=>J (lG O O O hg15.1 hg15.2.1 hg15.2.2) O (zd hr h λhg16 h=>J (iK O O hg16) O (zd hr h λhg17 h=>J (iK O O hg17) O (zk hp hr h [] Tryz.call131 (nJ n ((([34]:ByS)++(sub p0 p1 (p1+v4)))++([34]:ByS))) O (λ_=>rfl) λy18 h=>zm O (zx O (zx O (aH 107 (hE _ O) O4 O ?_)))))))))))))));refine za O (zs O (zQ hK13 (A λ_ hK19=>B (zf O (zl O (zc O (zm O (zb (y18.2.Errno==0) (λhb20=>?_) λhb20=>?_))))))))
   ·refine z1 hb20 h λh=>zG hb20 O (N O) (zG hb20 O (bJ O) (zG hb20 O (aX O O O) (zy hb20 O (zQ hK19 (zB O h (λ_ h=>?_) λ_ h=>?_)))))
    ·exact A λ_ hK22=>B (zm O (za O (zQ hK22 (L (z O h O)))))
    exact V (hK12 _ _ (B (zm O (zd hr h λhg23 h=>zo hg23 O (za O (W (hK6 _ _ _ h O)))))))
   refine z2 hb20 h λh=>zH 3 O hb20 (zw hb20 O (zQ hK19 (cb O (λhc=>?_) (λhc=>?_))))
   ·exact absurd (hc) (by simp)
   exact V (hK12 _ _ (B (zm O (zd hr h λhg24 h=>zo hg24 O (za O (W (hK6 _ _ _ h O)))))))
  exact aS (hK2 _ _ (A λ_ hK25=>B (za O (zQ hK25 (L (z O h O))))))
 refine z2 hb9 h λh=>zH 6 O hb9 (zw hb9 O (zQ hK8 (cb O (λhc=>?_) (λhc=>?_))))
 ·exact absurd (hc) (by simp)
 exact aS (hK2 _ _ (A λ_ hK26=>B (za O (zQ hK26 (L (z O h O))))))
def n9 (n:Nat) (p0:ByS):D ((List P)×cL):=
 iter (λnext7 (v6:(List P)×ByS×Int×Int)=>br (decide (v6.2.2.2<(List.length p0:Int))) (jn (λ(v13:Bool)=>br v13 (gd (cr (v6.2.2.2+2)) (D.bind (mL n p0 (v6.2.2.2+2)) λy19=>br (decide (y19<0)) (.ok ([],(cL.mk 8 v6.2.2.2))) (jn (λ(v24:(List P))=>gd (cr (v6.2.2.2+2)) (gd ((0:Int)<=(v6.2.2.2+2)/\((v6.2.2.2+2):Int)<=y19/\y19<=(List.length p0:Int)) (gd (cr (v6.2.2.2+2)) (gd (k2 32 (List.length v24) (List.length [(P.mk (sub p0 (v6.2.2.2+2) y19) true (v6.2.2.2+2))])) (gd (cr (y19+1)) (gd (cr (y19+1)) (next7 (v24++[(P.mk (sub p0 (v6.2.2.2+2) y19) true (v6.2.2.2+2))],([]:ByS),y19+1,y19+1)))))))) λj25=>br (decide (v6.2.2.2>v6.2.2.1)) (gd (k2 32 (List.length v6.1) (List.length [(P.mk v6.2.1 false v6.2.2.1)])) (j25 (v6.1++[(P.mk v6.2.1 false v6.2.2.1)]))) (j25 (v6.1))))) (D.bind (po n p0 v6.2.2.2) λy39=>br (y39==0) (.ok ([],(cL.mk 8 v6.2.2.2))) (gd (cr (v6.2.2.2+y39)) (gd ((0:Int)<=v6.2.2.2/\(v6.2.2.2:Int)<=(v6.2.2.2+y39)/\(v6.2.2.2+y39)<=(List.length p0:Int)) (gd (mh ([34]:ByS) (sub p0 v6.2.2.2 (v6.2.2.2+y39))) (gd (mh (([34]:ByS)++(sub p0 v6.2.2.2 (v6.2.2.2+y39))) ([34]:ByS)) (D.bind (kx n ((([34]:ByS)++(sub p0 v6.2.2.2 (v6.2.2.2+y39)))++([34]:ByS))) λy49=>gd (mh v6.2.1 y49.1) (gd (cr (v6.2.2.2+y39)) (next7 (v6.1,v6.2.1++y49.1,v6.2.2.1,v6.2.2.2+y39)))))))))) λj14=>el p0 v6.2.2.2 λb53=>br ((b53.toNat:Int)==92) (gd (cr (v6.2.2.2+1)) (br (decide ((v6.2.2.2+1)<(List.length p0:Int))) (gd (cr (v6.2.2.2+1)) (el p0 (v6.2.2.2+1) λb61=>j14 (((b61.toNat:Int)==40)))) (j14 (false)))) (j14 (false))) (br (decide (v6.2.2.1<(List.length p0:Int))) (gd (k2 32 (List.length v6.1) (List.length [(P.mk v6.2.1 false v6.2.2.1)])) (.ok (v6.1++[(P.mk v6.2.1 false v6.2.2.1)],(cL.mk 0 0)))) (.ok (v6.1,(cL.mk 0 0))))) n ([],([]:ByS),0,0)
theorem xd (n:Nat) (p0:ByS):CT Tryz.prog 130 [F p0] [] (n9 n p0) (λx=>.fZ [.pv (.sl (List.length x.1) (P.Cs x.1)),.agg [I x.2.Errno,I x.2.At]]) (λ_=>[]):=by
 refine zC Tryz.func130 O λr hp h hr E hE=>A λ_ hK1=>B (za O (aH 103 (hE _ O) O4 O ?_));refine zQ hK1 (A λ_ hK2=>B (za O (zQ hK2 (A λ_ hK3=>B (za O (za O (zQ hK3 (A λ_ hK4=>A λ_ hK5=>B (za O (zQ hK5 (u (bK (pA (d:=4) 10004 (sz:=3) (el:=179) (hE _ O) O O3) ?_))))))))))));refine zL hr h (λ(v6:(List P)×ByS×Int×Int)=>[(0,F p0),(3,.ptr 103 0),(4,.arr 10004 (List.length v6.1)),(5,F v6.2.1),(6,I v6.2.2.1),(7,I v6.2.2.2)]) (λ(v6:(List P)×ByS×Int×Int)=>[(103,.box [I 0,I 0]),(10004,.app 179 3 (P.Cs v6.1))]) O λ_ v6 _ hK8 h=>A λ_ hK9=>A λ_ hK10=>B (zm O (zm O (J (bJ O) O (zc O (zQ hK10 (zB O h (λ_ h=>?_) λ_ h=>?_))))))
 ·refine V (hK9 _ _ (u (A λ_ hK12=>zM h (λ(v13:Bool)=>[(0,F p0),(3,.ptr 103 0),(4,.arr 10004 (List.length v6.1)),(5,F v6.2.1),(6,I v6.2.2.1),(7,I v6.2.2.2),(33,Bo v13)]) (λ(v13:Bool)=>[(103,.box [I 0,I 0]),(10004,.app 179 3 (P.Cs v6.1))]) (λv13 h=>?_) λ_ _ hK15 h=>?_)))
  ·refine zB O h (λ_ h=>?_) λ_ h=>?_
   ·refine A λ_ hK17=>B (zm O (zm O (zd hr h λhg18 h=>zo hg18 O (zk hp hr h [] Tryz.call183 (vN n p0 (v6.2.2.2+2)) O (λ_=>rfl) λy19 h=>za O (zQ hK17 (A λ_ hK20=>A λ_ hK21=>B (zm O (zc O (zQ hK21 (zB O h (λ_ h=>?_) λ_ h=>?_))))))))))
    ·refine A λ_ hK23=>B (zm O (J (bd O O O) O ?_));refine za O (zs O (zQ hK23 (bK (ua (d:=2) O O) ?_)));exact L (zX (.cons (aP O) (.cons (aT O O O) .nil)) h O)
    refine V (hK20 _ _ (zM h (λ(v24:(List P))=>[(0,F p0),(3,.ptr 103 0),(4,.arr 10004 (List.length v24)),(7,I v6.2.2.2),(8,I y19)]) (λ(v24:(List P))=>[(103,.box [I 0,I 0]),(10004,.app 179 3 (P.Cs v24))]) (λv24 h=>?_) λ_ _ hK26 h=>?_))
    ·refine A λ_ hK27=>B (zm O (zm O (zm O (zd hr h λhg28 h=>zo hg28 O (zm O (zd hr h λhg29 h=>J (lG O O O hg29.1 hg29.2.1 hg29.2.2) O (zm O (zd hr h λhg30 h=>zo hg30 O (J (bd O O O) O ?_)))))))));refine bN [(P.mk (sub p0 (v6.2.2.2+2) y19) true (v6.2.2.2+2))] P.Q O2 O ?_;refine zd hr h λhg31 h=>jo 161 ⟨jD.h,dH.h,P.Q,P.q,P.iu,hE _ O,O,O,(.inl O),O3,hg31⟩ O ?_;refine za O (aY (iT 161 10004 [(0,F p0),(3,.ptr 103 0),(4,.arr 10004 (List.length (v24++[(P.mk (sub p0 (v6.2.2.2+2) y19) true (v6.2.2.2+2))]))),(8,I y19)] [(103,.box [I 0,I 0])] (hE _ O) O O O2 ⟨⟨_,O,O,O⟩,⟨_,O,O,O⟩,⟨_,O,O,O⟩,⟨_,O,O,O⟩,trivial⟩ ⟨⟨_,O,O,O,O,O⟩,trivial⟩) ?_);exact zQ hK27 (A λ_ hK32=>B (zm O (zd hr h λhg33 h=>zo hg33 O (zm O (zd hr h λhg34 h=>zo hg34 O (za O (za O (za O (zQ hK32 (aS (hK8 _ _ _ h O)))))))))))
    refine A λ_ hK35=>B (zm O (zm O (zc O (zQ hK35 (zB O h (λ_ h=>?_) λ_ h=>?_)))))
    ·refine B (zm O (zm O (zm O (J (bd O O O) O ?_))));refine bN [(P.mk v6.2.1 false v6.2.2.1)] P.Q O2 O ?_;refine zd hr h λhg37 h=>jo 150 ⟨jD.h,dH.h,P.Q,P.q,P.iu,hE _ O,O,O,(.inl O),O3,hg37⟩ O ?_;refine za O (aY (iT 150 10004 [(0,F p0),(3,.ptr 103 0),(4,.arr 10004 (List.length (v6.1++[(P.mk v6.2.1 false v6.2.2.1)]))),(7,I v6.2.2.2),(8,I y19)] [(103,.box [I 0,I 0])] (hE _ O) O O O2 ⟨⟨_,O,O,O⟩,⟨_,O,O,O⟩,⟨_,O,O,O⟩,⟨_,O,O,O⟩,⟨_,O,O,O⟩,trivial⟩ ⟨⟨_,O,O,O,O,O⟩,trivial⟩) ?_);exact W (hK26 _ _ _ h O)
    exact V (hK26 _ _ _ h O)
   refine V (hK12 _ _ (A λ_ hK38=>B (zm O (zm O (zk hp hr h [] Tryz.call184 (xQ n p0 v6.2.2.2) O (λ_=>rfl) λy39 h=>za O (zQ hK38 (A λ_ hK40=>A λ_ hK41=>B (zm O (zc O (zQ hK41 (zB O h (λ_ h=>?_) λ_ h=>?_)))))))))))
   ·refine A λ_ hK43=>B (zm O (J (bd O O O) O ?_));refine za O (zs O (zQ hK43 (bK (ua (d:=2) O O) ?_)));exact L (zX (.cons (aP O) (.cons (aT O O O) .nil)) h O)
   refine V (hK40 _ _ (A λ_ hK44=>B (zm O (zm O (zm O (zm O (zd hr h λhg45 h=>zo hg45 O (zd hr h λhg46 h=>J (lG O O O hg46.1 hg46.2.1 hg46.2.2) O (zd hr h λhg47 h=>J (iK O O hg47) O (zd hr h λhg48 h=>J (iK O O hg48) O (zk hp hr h [] Tryz.call131 (nJ n ((([34]:ByS)++(sub p0 v6.2.2.2 (v6.2.2.2+y39)))++([34]:ByS))) O (λ_=>rfl) λy49 h=>zm O (zx O (zx O (aH 111 (hE _ O) O4 O ?_))))))))))))));exact za O (zs O (zQ hK44 (A λ_ hK50=>B (zm O (zm O (zd hr h λhg51 h=>J (iK O O hg51) O (za O (zQ hK50 (B (zm O (zm O (zd hr h λhg52 h=>zo hg52 O (za O (W (hK8 _ _ _ h O)))))))))))))))
  refine B (zm O (zm O (ze hr h λb53 h54 h55 h56 h=>J (bY O O h54 h56) O (zc O (zm O (zb ((b53.toNat:Int)==92) (λhb57=>?_) λhb57=>?_))))))
  ·refine z1 hb57 h λh=>zG hb57 O (N O) (zd hr h λhg58 h=>zG hb57 O (gV O O hg58) (zG hb57 O (N O) (zG hb57 O (bJ O) (zG hb57 O (aX O O O) (zy hb57 O (zm O (zb (decide ((v6.2.2.2+1)<(List.length p0:Int))) (λhb59=>?_) λhb59=>?_)))))))
   ·exact z1 hb59 h λh=>zG hb59 O (N O) (zG hb59 O (N O) (zd hr h λhg60 h=>zG hb59 O (gV O O hg60) (ze hr h λb61 h62 h63 h64 h=>zG hb59 O (bY O O h62 h64) (zG hb59 O (aX O O O) (zy hb59 O (W (hK15 _ _ _ h O)))))))
   exact z2 hb59 h λh=>zH 5 O hb59 (zw hb59 O (W (hK15 _ _ _ h O)))
  exact z2 hb57 h λh=>zH 5 O hb57 (zw hb57 O (zm O (zH 5 O O (J (de O O) O (W (hK15 _ _ _ h O))))))
 refine aS (hK4 _ _ (A λ_ hK65=>A λ_ hK66=>B (zm O (zm O (J (bJ O) O (zc O (zQ hK66 (zB O h (λ_ h=>?_) λ_ h=>?_))))))))
 ·refine B (zm O (zm O (zm O (J (bd O O O) O ?_))));refine bN [(P.mk v6.2.1 false v6.2.2.1)] P.Q O2 O ?_;refine zd hr h λhg68 h=>jo 200 ⟨jD.h,dH.h,P.Q,P.q,P.iu,hE _ O,O,O,(.inl O),O3,hg68⟩ O ?_;refine za O (aY (iT 200 10004 [(0,F p0),(3,.ptr 103 0),(4,.arr 10004 (List.length (v6.1++[(P.mk v6.2.1 false v6.2.2.1)])))] [(103,.box [I 0,I 0])] (hE _ O) O O O2 ⟨⟨_,O,O,O⟩,⟨_,O,O,O⟩,⟨_,O,O,O⟩,trivial⟩ ⟨⟨_,O,O,O,O,O⟩,trivial⟩) ?_);refine zQ hK65 (A λ_ hK69=>B (J (kD P.Q P.q O O O) O ?_));refine J (bd O O O) O ?_;exact za O (zs O (zQ hK69 (L (zX (.cons (aP O) (.cons (aT O O O) .nil)) h O))))
 refine V (hK65 _ _ (A λ_ hK70=>B (J (kD P.Q P.q O O O) O ?_)));refine J (bd O O O) O ?_;exact za O (zs O (zQ hK70 (L (zX (.cons (aP O) (.cons (aT O O O) .nil)) h O))))
def rk (n:Nat) (p0:ByS) (p1:Int) (p2:Int) (p3:Bool):D (aA×Bool):=
 br p3 (gd (cr (p1+1)) (gd ((0:Int)<=(p1+1)/\((p1+1):Int)<=p2/\p2<=(List.length p0:Int)) (D.bind (n9 n (sub p0 (p1+1) p2)) λy8=>gd (cr (p1+1)) (gd ((0:Int)<=(p1+1)/\((p1+1):Int)<=p2/\p2<=(List.length p0:Int)) (gd (cr (p2+1)) (.ok ((aA.mk 4 (sub p0 (p1+1) p2) p1 (p2+1)),(y8.2.Errno==0)))))))) (gd (cr (p2+1)) (gd ((0:Int)<=p1/\(p1:Int)<=(p2+1)/\(p2+1)<=(List.length p0:Int)) (D.bind (kx n (sub p0 p1 (p2+1))) λy16=>gd (cr (p2+1)) (.ok ((aA.mk 3 y16.1 p1 (p2+1)),(y16.2.Errno==0))))))
theorem z8 (n:Nat) (p0:ByS) (p1:Int) (p2:Int) (p3:Bool):CT Tryz.prog 89 [F p0,I p1,I p2,Bo p3] [] (rk n p0 p1 p2 p3) (λx=>.fZ [.agg (ej x.1),Bo x.2]) (λ_=>[]):=by
 refine zC Tryz.func89 O λr hp h hr E hE=>A λ_ hK1=>B (aH 108 (hE _ O) O4 O ?_);refine za O (zQ hK1 (A λ_ hK2=>A λ_ hK3=>B (zm O (zQ hK3 (zB O h (λ_ h=>?_) λ_ h=>?_)))))
 ·refine A λ_ hK5=>B (zm O (zm O (zd hr h λhg6 h=>zo hg6 O (zm O (zd hr h λhg7 h=>J (lG O O O hg7.1 hg7.2.1 hg7.2.2) O (zk hp hr h [] Tryz.call130 (xd n (sub p0 (p1+1) p2)) O (λ_=>rfl) λy8 h=>zm O (zx O (zx O (aH 111 (hE _ O) O4 O ?_)))))))));refine za O (zs O (zQ hK5 (A λ_ hK9=>bu [0,1,2,3,4,5,6,7,8,9,10,11,12,13] O (by kernel_rfl) (zD O (N O) O (zD O (N O) O (zd hr h λhg10 h=>zD O (gV O O hg10) O (zD O (N O) O (zd hr h λhg11 h=>zD O (lG O O O hg11.1 hg11.2.1 hg11.2.2) O (zD O (N O) O (zD O (N O) O (zd hr h λhg12 h=>zD O (gV O O hg12) O (zD O (bd O O O) O ?_))))))))))));refine zD O (bF O) O (zD O (fh [I y8.2.Errno,.any] O O ⟨.inl O,.inr O,trivial⟩ O) O (zD O (aX O O O) O (bV O O8 O (λe12 he=>⟨cF ⟨trivial,⟨⟨⟨_,O,M.fc ⟨.inl O,.inr O,trivial⟩⟩,trivial⟩,⟨trivial,⟨trivial,⟨trivial,⟨trivial,⟨trivial,⟨trivial,⟨trivial,⟨trivial,⟨trivial,⟨trivial,trivial⟩⟩⟩⟩⟩⟩⟩⟩⟩⟩⟩⟩,?_⟩))));subst he;exact eM O O O (y O) O (ct (hK9 _ _ (L (zX (.cons (aT O O O) (.cons (aP O) .nil)) h O))))
 refine V (hK2 _ _ (A λ_ hK13=>B (zm O (zm O (zm O (zd hr h λhg14 h=>zo hg14 O (zd hr h λhg15 h=>J (lG O O O hg15.1 hg15.2.1 hg15.2.2) O (zk hp hr h [] Tryz.call131 (nJ n (sub p0 p1 (p2+1))) O (λ_=>rfl) λy16 h=>zm O (zx O (zx O (aH 113 (hE _ O) O4 O ?_)))))))))));refine za O (zs O (zQ hK13 (A λ_ hK17=>bu [0,1,2,3,4,5,6,7,8,9] O (by kernel_rfl) (zD O (N O) O (zD O (N O) O (zD O (N O) O (zd hr h λhg18 h=>zD O (gV O O hg18) O (zD O (bd O O O) O ?_))))))));refine zD O (bF O) O (zD O (fh [I y16.2.Errno,.any] O O ⟨.inl O,.inr O,trivial⟩ O) O (zD O (aX O O O) O (bV O O8 O (λe8 he=>⟨cF ⟨trivial,⟨⟨⟨_,O,M.fc ⟨.inl O,.inr O,trivial⟩⟩,trivial⟩,⟨trivial,⟨trivial,⟨trivial,⟨trivial,⟨trivial,⟨trivial,trivial⟩⟩⟩⟩⟩⟩⟩⟩,?_⟩))));subst he;exact eM O O O (y O) O (ct (hK17 _ _ (L (zX (.cons (aT O O O) (.cons (aP O) .nil)) h O))))
def rl (n:Nat) (p0:ByS) (p1:Int):D (aA×Bool):=
 el p0 p1 λb4=>br ((b4.toNat:Int)==34) (D.bind (s5 n p0 p1) λy10=>br (decide (y10.1<0)) (.ok ((aA.mk 0 [] 0 0),false)) (D.bind (rk n p0 p1 y10.1 y10.2) λy16=>.ok (y16.1,y16.2))) (jn (λ(v18:Bool)=>br v18 (jn (λ(v23:Int)=>gd (cr (p1+2)) (gd ((0:Int)<=(p1+2)/\((p1+2):Int)<=v23/\v23<=(List.length p0:Int)) (.ok ((aA.mk 6 (sub p0 (p1+2) v23) p1 v23),true)))) λj24=>iter (λnext30 (v29:Int)=>br (decide (v29<(List.length p0:Int))) (el p0 v29 λb35=>br ((b35.toNat:Int) !=10) (gd (cr (v29+1)) (next30 (v29+1))) (j24 (v29))) (j24 (v29))) n (p1)) (D.bind (n7 n p0 p1) λy43=>br (decide (y43>p1)) (gd ((0:Int)<=p1/\(p1:Int)<=y43/\y43<=(List.length p0:Int)) (D.bind (ph n (sub p0 p1 y43)) λy48=>gd ((0:Int)<=p1/\(p1:Int)<=y43/\y43<=(List.length p0:Int)) (.ok ((aA.mk 2 (sub p0 p1 y43) p1 y43),(y48.2==0))))) (D.bind (me n p0 p1) λy52=>D.bind (pj n p0 p1) λy53=>jn (λ(v55:Bool)=>br v55 (gd ((0:Int)<=p1/\(p1:Int)<=y53/\y53<=(List.length p0:Int)) (.ok ((aA.mk 1 (sub p0 p1 y53) p1 y53),true))) (gd (cr (p1+(List.length y52:Int))) (.ok ((aA.mk 5 y52 p1 (p1+(List.length y52:Int))),(y52 !=([]:ByS)))))) λj56=>br (decide (y53>p1)) (gd (cr (y53 - p1)) (j56 ((decide ((y53 - p1)>=(List.length y52:Int)))))) (j56 (false))))) λj19=>gd (cr ((List.length p0:Int) - p1)) (br (decide (((List.length p0:Int) - p1)>=2)) (gd (cr (p1+2)) (gd ((0:Int)<=p1/\(p1:Int)<=(p1+2)/\(p1+2)<=(List.length p0:Int)) (j19 (((sub p0 p1 (p1+2))==([47,47]:ByS)))))) (j19 (false))))
theorem Aa (n:Nat) (p0:ByS) (p1:Int):CT Tryz.prog 50 [F p0,I p1] [] (rl n p0 p1) (λx=>.fZ [.agg (ej x.1),Bo x.2]) (λ_=>[]):=by
 refine zC Tryz.func50 O λr hp h hr E hE=>A λ_ hK1=>B (aH 104 (hE _ O) O4 O ?_);refine za O (zQ hK1 (A λ_ hK2=>A λ_ hK3=>B (zm O (zm O (ze hr h λb4 h5 h6 h7 h=>J (bY O O h5 h7) O (zc O (zQ hK3 (zB O h (λ_ h=>?_) λ_ h=>?_))))))))
 ·refine A λ_ hK9=>B (zm O (zm O (zk hp hr h [] Tryz.call88 (Bq n p0 p1) O (λ_=>rfl) λy10 h=>zm O (zx O (zx O (za O (za O (zQ hK9 (A λ_ hK11=>A λ_ hK12=>B (zm O (zc O (zQ hK12 (zB O h (λ_ h=>?_) λ_ h=>?_)))))))))))))
  ·refine A λ_ hK14=>B (J (bd O O O) O ?_);exact zs O (za O (zQ hK14 (L (zX (.cons (aT O O O) (.cons (aP O) .nil)) h O))))
  exact V (hK11 _ _ (A λ_ hK15=>B (zm O (zm O (zm O (zm O (zk hp hr h [] Tryz.call89 (z8 n p0 p1 y10.1 y10.2) O (λ_=>rfl) λy16 h=>zx O (zx O (zs O (za O (zQ hK15 (L (zX (.cons (aT O O O) (.cons (aP O) .nil)) h O)))))))))))))
 refine V (hK2 _ _ (A λ_ hK17=>zM h (λ(v18:Bool)=>[(0,F p0),(1,I p1),(4,.ptr 104 0),(46,Bo v18)]) (λ(v18:Bool)=>[(104,.box [I 0,F [],I 0,I 0])]) (λv18 h=>?_) λ_ _ hK20 h=>?_))
 ·refine zB O h (λ_ h=>?_) λ_ h=>?_
  ·refine A λ_ hK22=>B (zm O (za O (zQ hK22 (zM h (λ(v23:Int)=>[(0,F p0),(1,I p1),(4,.ptr 104 0),(8,I v23)]) (λ(v23:Int)=>[(104,.box [I 0,F [],I 0,I 0])]) (λv23 h=>?_) λ_ _ hK25 h=>?_))))
   ·refine A λ_ hK26=>B (zm O (zm O (zd hr h λhg27 h=>zo hg27 O (zm O (zd hr h λhg28 h=>J (lG O O O hg28.1 hg28.2.1 hg28.2.2) O (zm O (zm O (J (bd O O O) O ?_))))))));exact zs O (za O (zQ hK26 (L (zX (.cons (aT O O O) (.cons (aP O) .nil)) h O))))
   refine u (zL hr h (λ(v29:Int)=>[(0,F p0),(1,I p1),(4,.ptr 104 0),(8,I v29)]) (λ(v29:Int)=>[(104,.box [I 0,F [],I 0,I 0])]) O λ_ v29 _ hK31 h=>A λ_ hK32=>A λ_ hK33=>B (zm O (zm O (J (bJ O) O (zc O (zm O (zb (decide (v29<(List.length p0:Int))) (λhb34=>?_) λhb34=>?_)))))))
   ·refine z1 hb34 h λh=>zG hb34 O (N O) (zG hb34 O (N O) (ze hr h λb35 h36 h37 h38 h=>zG hb34 O (bY O O h36 h38) (zG hb34 O (aX O O O) (zy hb34 O (zQ hK33 (zB O h (λ_ h=>?_) λ_ h=>?_))))))
    ·exact V (hK32 _ _ (u (B (zm O (zd hr h λhg40 h=>zo hg40 O (za O (W (hK31 _ _ _ h O))))))))
    exact aS (hK25 _ _ _ h O)
   refine z2 hb34 h λh=>zH 4 O hb34 (zw hb34 O (zQ hK33 (cb O (λhc=>?_) (λhc=>?_))))
   ·exact absurd (hc) (by simp)
   exact aS (hK25 _ _ _ h O)
  refine V (hK17 _ _ (A λ_ hK41=>A λ_ hK42=>B (zm O (zm O (zk hp hr h [] Tryz.call90 (xb n p0 p1) O (λ_=>rfl) λy43 h=>za O (zQ hK42 (A λ_ hK44=>B (zm O (zm O (zc O (zQ hK44 (zB O h (λ_ h=>?_) λ_ h=>?_))))))))))))
  ·refine A λ_ hK46=>B (zm O (zm O (zm O (zd hr h λhg47 h=>J (lG O O O hg47.1 hg47.2.1 hg47.2.2) O (zk hp hr h [] Tryz.call91 (xO n (sub p0 p1 y43)) O (λ_=>rfl) λy48 h=>zm O (zx O (zx O (za O (za O (zQ hK46 (A λ_ hK49=>B (zm O (zm O (zm O (zd hr h λhg50 h=>J (lG O O O hg50.1 hg50.2.1 hg50.2.2) O (zm O (zm O (J (bd O O O) O ?_))))))))))))))))));exact zm O (zc O (zs O (za O (zQ hK49 (L (zX (.cons (aT O O O) (.cons (aP O) .nil)) h O))))))
  refine V (hK41 _ _ (A λ_ hK51=>B (zm O (zm O (zk hp hr h [] Tryz.call92 (uZ n p0 p1) O (λ_=>rfl) λy52 h=>zm O (zm O (zk hp hr h [] Tryz.call93 (xP n p0 p1) O (λ_=>rfl) λy53 h=>za O (za O (zQ hK51 (A λ_ hK54=>zM h (λ(v55:Bool)=>[(0,F p0),(1,I p1),(4,.ptr 104 0),(12,F y52),(13,I y53),(107,Bo v55)]) (λ(v55:Bool)=>[(104,.box [I 0,F [],I 0,I 0])]) (λv55 h=>?_) λ_ _ hK57 h=>?_))))))))))
  ·refine zB O h (λ_ h=>?_) λ_ h=>?_
   ·refine A λ_ hK59=>B (zm O (zm O (zm O (zd hr h λhg60 h=>J (lG O O O hg60.1 hg60.2.1 hg60.2.2) O (zm O (zm O (J (bd O O O) O ?_)))))));exact zs O (za O (zQ hK59 (L (zX (.cons (aT O O O) (.cons (aP O) .nil)) h O))))
   refine V (hK54 _ _ (A λ_ hK61=>B (zm O (zm O (zm O (zm O (J (bJ O) O (zd hr h λhg62 h=>zo hg62 O (J (bd O O O) O ?_)))))))));exact zm O (J (pU O O) O (zs O (za O (zQ hK61 (L (zX (.cons (aT O O O) (.cons (aP O) .nil)) h O))))))
  refine B (zm O (zm O (zc O (zm O (zb (decide (y53>p1)) (λhb63=>?_) λhb63=>?_)))))
  ·exact z1 hb63 h λh=>zG hb63 O (N O) (zG hb63 O (N O) (zd hr h λhg64 h=>zG hb63 O (jT O O hg64) (zG hb63 O (N O) (zG hb63 O (bJ O) (zG hb63 O (aX O O O) (zy hb63 O (W (hK57 _ _ _ h O))))))))
  exact z2 hb63 h λh=>zH 6 O hb63 (zw hb63 O (W (hK57 _ _ _ h O)))
 refine B (zm O (J (bJ O) O (zm O (zd hr h λhg65 h=>J (jT O O hg65) O (zc O (zm O (zb (decide (((List.length p0:Int) - p1)>=2)) (λhb66=>?_) λhb66=>?_)))))))
 ·exact z1 hb66 h λh=>zG hb66 O (N O) (zG hb66 O (N O) (zG hb66 O (N O) (zd hr h λhg67 h=>zG hb66 O (gV O O hg67) (zd hr h λhg68 h=>zG hb66 O (lG O O O hg68.1 hg68.2.1 hg68.2.2) (zG hb66 O (iS O O) (zy hb66 O (W (hK20 _ _ _ h O))))))))
 exact z2 hb66 h λh=>zH 6 O hb66 (zw hb66 O (W (hK20 _ _ _ h O)))
def rm (n:Nat) (p0:ByS):D ((List aA)×cL):=
 br (decide ((List.length p0:Int)>65536)) (.ok ([],(cL.mk 2 0))) (iter (λnext10 (v9:(List aA)×Int)=>br (decide (v9.2<(List.length p0:Int))) (el p0 v9.2 λb17=>br ((b17.toNat:Int)==32) (gd (cr (v9.2+1)) (next10 (v9.1,v9.2+1))) (el p0 v9.2 λb24=>br ((b24.toNat:Int)==9) (gd (cr (v9.2+1)) (next10 (v9.1,v9.2+1))) (el p0 v9.2 λb31=>br ((b31.toNat:Int)==13) (gd (cr (v9.2+1)) (next10 (v9.1,v9.2+1))) (el p0 v9.2 λb40=>br ((b40.toNat:Int)==10) (D.bind (rf n p0 v9.1 v9.2) λy47=>br y47 (gd (cr (v9.2+1)) (gd (k2 40 (List.length v9.1) (List.length [(aA.mk 7 ([10]:ByS) v9.2 (v9.2+1))])) (gd (cr (v9.2+1)) (next10 (v9.1++[(aA.mk 7 ([10]:ByS) v9.2 (v9.2+1))],v9.2+1))))) (gd (cr (v9.2+1)) (next10 (v9.1,v9.2+1)))) (D.bind (rl n p0 v9.2) λy56=>br (!y56.2) (.ok ([],(cL.mk 8 v9.2))) (gd (k2 40 (List.length v9.1) (List.length [y56.1])) (next10 (v9.1++[y56.1],y56.1.End)))))))) (gd (k2 40 (List.length v9.1) (List.length [(aA.mk 0 [] (List.length p0:Int) (List.length p0:Int))])) (.ok (v9.1++[(aA.mk 0 [] (List.length p0:Int) (List.length p0:Int))],(cL.mk 0 0))))) n ([],0))
theorem Ab (n:Nat) (p0:ByS):CT Tryz.prog 20 [F p0] [] (rm n p0) (λx=>.fZ [.pv (.sl (List.length x.1) (aA.Cs x.1)),.agg [I x.2.Errno,I x.2.At]]) (λ_=>[]):=by
 refine zC Tryz.func20 O λr hp h hr E hE=>A λ_ hK1=>B (za O (aH 103 (hE _ O) O4 O ?_));refine zQ hK1 (A λ_ hK2=>A λ_ hK3=>B (zm O (J (bJ O) O (zc O (zQ hK3 (zB O h (λ_ h=>?_) λ_ h=>?_))))))
 ·refine A λ_ hK5=>B (J (bd O O O) O ?_);refine za O (zs O (zQ hK5 (bK (ua (d:=2) O O) ?_)));exact L (zX (.cons (aP O) (.cons (aT O O O) .nil)) h O)
 refine V (hK2 _ _ (A λ_ hK6=>B (za O (zQ hK6 (A λ_ hK7=>A λ_ hK8=>B (za O (zQ hK8 (u (bK (pA (d:=4) 10004 (sz:=4) (el:=49) (hE _ O) O O3) ?_)))))))));refine zL hr h (λ(v9:(List aA)×Int)=>[(0,F p0),(3,.ptr 103 0),(4,.arr 10004 (List.length v9.1)),(5,I v9.2)]) (λ(v9:(List aA)×Int)=>[(103,.box [I 0,I 0]),(10004,.app 49 4 (aA.Cs v9.1))]) O λ_ v9 _ hK11 h=>A λ_ hK12=>A λ_ hK13=>B (zm O (zm O (J (bJ O) O (zc O (zQ hK13 (zB O h (λ_ h=>?_) λ_ h=>?_))))))
 ·refine V (hK12 _ _ (u (A λ_ hK15=>A λ_ hK16=>B (zm O (zm O (ze hr h λb17 h18 h19 h20 h=>J (bY O O h18 h20) O (zc O (zm O (zb ((b17.toNat:Int)==32) (λhb21=>?_) λhb21=>?_)))))))))
  ·refine z1 hb21 h λh=>zH 4 O hb21 (zy hb21 O (zm O (zH 4 O O (zt O (zQ hK16 (cb O (λhc=>?_) (λhc=>?_)))))))
   ·exact A λ_ hK22=>B (zm O (zd hr h λhg23 h=>zo hg23 O (za O (zQ hK22 (aS (hK11 _ _ _ h O))))))
   exact absurd (hc) (by simp)
  refine z2 hb21 h λh=>zG hb21 O (N O) (zG hb21 O (N O) (ze hr h λb24 h25 h26 h27 h=>zG hb21 O (bY O O h25 h27) (zG hb21 O (aX O O O) (zw hb21 O (zm O (zb ((b24.toNat:Int)==9) (λhb28=>?_) λhb28=>?_))))))
  ·refine z1 hb28 h λh=>zH 4 O hb28 (zy hb28 O (zQ hK16 (cb O (λhc=>?_) (λhc=>?_))))
   ·exact A λ_ hK29=>B (zm O (zd hr h λhg30 h=>zo hg30 O (za O (zQ hK29 (aS (hK11 _ _ _ h O))))))
   exact absurd (hc) (by simp)
  refine z2 hb28 h λh=>zG hb28 O (N O) (zG hb28 O (N O) (ze hr h λb31 h32 h33 h34 h=>zG hb28 O (bY O O h32 h34) (zG hb28 O (aX O O O) (zw hb28 O (zQ hK16 (zB O h (λ_ h=>?_) λ_ h=>?_))))))
  ·exact A λ_ hK36=>B (zm O (zd hr h λhg37 h=>zo hg37 O (za O (zQ hK36 (aS (hK11 _ _ _ h O))))))
  refine V (hK15 _ _ (A λ_ hK38=>A λ_ hK39=>B (zm O (zm O (ze hr h λb40 h41 h42 h43 h=>J (bY O O h41 h43) O (zc O (zQ hK39 (zB O h (λ_ h=>?_) λ_ h=>?_))))))))
  ·refine A λ_ hK45=>A λ_ hK46=>B (zm O (J (kD aA.Q aA.q O O O) O ?_));refine zm O (zk hp hr h [] Tryz.call49 (zZ n p0 v9.1 v9.2) O (λ_=>rfl) λy47 h=>zQ hK46 (zB O h (λ_ h=>?_) λ_ h=>?_))
   ·refine B (zm O (zm O (zm O (zd hr h λhg49 h=>zo hg49 O (J (bd O O O) O ?_)))));refine bN [(aA.mk 7 ([10]:ByS) v9.2 (v9.2+1))] aA.Q O2 O ?_;refine zd hr h λhg50 h=>jo 148 ⟨jD.h,dH.h,aA.Q,aA.q,aA.iu,hE _ O,O,O,(.inl O),O3,hg50⟩ O ?_;refine za O (aY (iT 148 10004 [(0,F p0),(3,.ptr 103 0),(4,.arr 10004 (List.length (v9.1++[(aA.mk 7 ([10]:ByS) v9.2 (v9.2+1))]))),(5,I v9.2)] [(103,.box [I 0,I 0])] (hE _ O) O O O2 ⟨⟨_,O,O,O⟩,⟨_,O,O,O⟩,⟨_,O,O,O⟩,⟨_,O,O,O⟩,trivial⟩ ⟨⟨_,O,O,O,O,O⟩,trivial⟩) ?_);exact zQ hK45 (A λ_ hK51=>B (zm O (zd hr h λhg52 h=>zo hg52 O (za O (zQ hK51 (aS (hK11 _ _ _ h O)))))))
   exact V (hK45 _ _ (A λ_ hK53=>B (zm O (zd hr h λhg54 h=>zo hg54 O (za O (zQ hK53 (aS (hK11 _ _ _ h O))))))))
  refine V (hK38 _ _ (A λ_ hK55=>B (zm O (zm O (zk hp hr h [] Tryz.call50 (Aa n p0 v9.2) O (λ_=>rfl) λy56 h=>zm O (zx O (zx O (aH 106 (hE _ O) O4 O ?_))))))));refine zs O (za O (zQ hK55 (A λ_ hK57=>A λ_ hK58=>B (zm O (J (eo O) O (zQ hK58 (zB O h (λ_ h=>?_) λ_ h=>?_)))))))
  ·refine A λ_ hK60=>B (zm O (J (bd O O O) O ?_));refine za O (zs O (zQ hK60 (bK (ua (d:=2) O O) ?_)));exact L (zX (.cons (aP O) (.cons (aT O O O) .nil)) h O)
  refine V (hK57 _ _ (A λ_ hK61=>B (zm O (zA O ?_))));refine bN [y56.1] aA.Q O2 O ?_;refine zd hr h λhg62 h=>jo 164 ⟨jD.h,dH.h,aA.Q,aA.q,aA.iu,hE _ O,O,O,(.inl O),O3,hg62⟩ O ?_;refine za O (aY (iT 164 10004 [(0,F p0),(3,.ptr 103 0),(4,.arr 10004 (List.length (v9.1++[y56.1]))),(6,.ptr 106 0)] [(103,.box [I 0,I 0]),(106,.box (ej y56.1))] (hE _ O) O O O2 ⟨⟨_,O,O,O⟩,⟨_,O,O,O⟩,⟨_,O,O,O⟩,⟨_,O,O,O⟩,trivial⟩ ⟨⟨_,O,O,O,O,O⟩,⟨_,O,O,O,O,O⟩,trivial⟩) ?_);exact zQ hK61 (B (zf O (zl O (za O (W (hK11 _ _ _ h O))))))
 refine aS (hK7 _ _ (A λ_ hK63=>B (zm O (zm O (J (bJ O) O (zm O (J (bJ O) O (J (bd O O O) O ?_))))))));refine bN [(aA.mk 0 [] (List.length p0:Int) (List.length p0:Int))] aA.Q O2 O ?_;refine zd hr h λhg64 h=>jo 174 ⟨jD.h,dH.h,aA.Q,aA.q,aA.iu,hE _ O,O,O,(.inl O),O3,hg64⟩ O ?_;refine J (bd O O O) O ?_;refine za O (zs O (aY (iT 174 10002 [(0,F p0),(2,.arr 10002 (List.length (v9.1++[(aA.mk 0 [] (List.length p0:Int) (List.length p0:Int))]))),(3,.ptr 103 0)] [(103,.box [I 0,I 0])] (hE _ O) O O O2 ⟨⟨_,O,O,O⟩,⟨_,O,O,O⟩,⟨_,O,O,O⟩,trivial⟩ ⟨⟨_,O,O,O,O,O⟩,trivial⟩) ?_));refine zQ hK63 (bK (FJ (d:=2) aA.Q aA.q O O O) ?_);exact L (zX (.cons (aP O) (.cons (aT O O O) .nil)) h O)
def iz (n:Nat) (p0:(List ByS)) (p1:(List ByS)):D (Bool):=
 br ((List.length p0:Int) !=(List.length p1:Int)) (.ok (false)) (iter (λnext9 (v8:Int)=>br (decide (v8<(List.length p0:Int))) (el p0 v8 λrb=>el p1 v8 λx21=>br (rb !=x21) (.ok (false)) (gd (cr (v8+1)) (next9 (v8+1)))) (.ok (true))) n (0))
theorem kG (n:Nat) (p0:(List ByS)) (p1:(List ByS)):CT Tryz.prog 51 [.pv (.sl (List.length p0) (cd p0)),.pv (.sl (List.length p1) (cd p1))] [] (iz n p0 p1) (λx=>Bo x) (λ_=>[]):=by
 refine zC Tryz.func51 O λr hp h hr E hE=>A λ_ hK1=>B (za O (zQ hK1 (A λ_ hK2=>A λ_ hK3=>B (zm O (J (ca O) O (zm O (J (ca O) O (zc O (zQ hK3 (zB O h (λ_ h=>?_) λ_ h=>?_))))))))))
 ·exact A λ_ hK5=>B (za O (zQ hK5 (L (z O h O))))
 refine V (hK2 _ _ (A λ_ hK6=>A λ_ hK7=>B (zm O (J (ca O) O (zm O (zQ hK7 (u (zL hr h (λ(v8:Int)=>[(0,.pv (.sl (List.length p0) (cd p0))),(1,.pv (.sl (List.length p1) (cd p1))),(12,I (List.length p0:Int)),(13,I v8)]) (λ(v8:Int)=>[]) O λ_ v8 _ hK10 h=>A λ_ hK11=>B (zc O (zQ hK11 (A λ_ hK12=>zB O h (λ_ h=>?_) λ_ h=>?_)))))))))))
 ·refine V (hK12 _ _ (A λ_ hK14=>u (A λ_ hK15=>B (zm O (za O (zQ hK15 (A λ_ hK16=>bu [0,1,2,3,4,5,6,7,8] O (by kernel_rfl) (zD O (N O) O (zD O (N O) O (ze hr h λrb h18 h19 h20 h=>zD O (fR dS gb h18 h19 h20 O O O) O (zD O (dT O O) O (zD O (N O) O (zD O (N O) O (ze hr h λx21 h22 h23 h24 h=>zD O (fR dS gb h22 h23 h24 O O O) O (zD O (dT O O) O (zD O (pU O O) O (ct (hK16 _ _ (zB O h (λ_ h=>?_) λ_ h=>?_)))))))))))))))))))
  ·exact A λ_ hK26=>B (za O (zQ hK26 (L (z O h O))))
  exact V (hK14 _ _ (B (zd hr h λhg27 h=>zo hg27 O (zm O (W (hK10 _ _ _ h O))))))
 exact aS (hK6 _ _ (A λ_ hK28=>B (za O (zQ hK28 (L (z O h O))))))
structure gy where
 dt:(List Z)->(List Z)->D (Bool)
 fP:U->U->D (Bool)
def gY (n:Nat) (T:gy) (p0:(List Z)) (p1:(List Z)):D (Bool):=
 br ((List.length p0:Int) !=(List.length p1:Int)) (.ok (false)) (iter (λnext9 (v8:Int)=>br (decide (v8<(List.length p0:Int))) (el p0 v8 λrb=>el p1 v8 λx21=>br (rb.Kind !=x21.Kind) (.ok (false)) (br (rb.cG !=x21.cG) (.ok (false)) (br (rb.Label !=x21.Label) (.ok (false)) (br (!((rb.bp==x21.bp)&&(rb.bq==x21.bq))) (.ok (false)) (br (rb.Trail !=x21.Trail) (.ok (false)) (br ((List.length rb.bg:Int) !=(List.length x21.bg:Int)) (.ok (false)) (D.bind (iz n rb.ka x21.ka) λy41=>br (!y41) (.ok (false)) (D.bind (iz n rb.cl x21.cl) λy44=>br (!y44) (.ok (false)) (D.bind (T.dt rb.Body x21.Body) λy47=>br (!y47) (.ok (false)) (iter (λnext52 (v51:Int)=>br (decide (v51<(List.length rb.bg:Int))) (el rb.bg v51 λx60=>el x21.bg v51 λx64=>D.bind (T.fP x60 x64) λy68=>br (!y68) (.ok (false)) (gd (cr (v51+1)) (next52 (v51+1)))) (gd (cr (v8+1)) (next9 (v8+1)))) n (0))))))))))) (.ok (true))) n (0))
def kH (n:Nat) (T:gy) (p0:U) (p1:U):D (Bool):=
 br (p0.Kind !=p1.Kind) (.ok (false)) (br (p0.Text !=p1.Text) (.ok (false)) (br (p0.jV !=p1.jV) (.ok (false)) (br (!((p0.bp==p1.bp)&&(p0.bq==p1.bq))) (.ok (false)) (br ((List.length p0.bg:Int) !=(List.length p1.bg:Int)) (.ok (false)) (D.bind (iz n p0.cl p1.cl) λy14=>br (!y14) (.ok (false)) (iter (λnext20 (v19:Int)=>br (decide (v19<(List.length p0.bg:Int))) (el p0.bg v19 λx28=>el p1.bg v19 λx32=>D.bind (T.fP x28 x32) λy36=>br (!y36) (.ok (false)) (gd (cr (v19+1)) (next20 (v19+1)))) (D.bind (T.dt p0.Decls p1.Decls) λy41=>.ok (y41))) n (0)))))))
def er:Nat->gy
 | 0=>⟨λ_ _=>.stuck,λ_ _=>.stuck⟩
 | n+1=>⟨gY n (er n),kH n (er n)⟩
def dt (n:Nat) (p0:(List Z)) (p1:(List Z)):D (Bool):=(er n).dt p0 p1
def fP (n:Nat) (p0:U) (p1:U):D (Bool):=(er n).fP p0 p1
structure kg (T:gy):Prop where
 dt:∀ (p0:(List Z)) (p1:(List Z)),CT Tryz.prog 52 [.pv (.sl (List.length p0) (Z.Cs p0)),.pv (.sl (List.length p1) (Z.Cs p1))] [] (T.dt p0 p1) (λx=>Bo x) (λ_=>[])
 fP:∀ (p0:U) (p1:U),CT Tryz.prog 23 [.agg (bh p0),.agg (bh p1)] [] (T.fP p0 p1) (λx=>Bo x) (λ_=>[])
theorem tf (n:Nat) (T:gy) (hT:kg T) (p0:(List Z)) (p1:(List Z)):CT Tryz.prog 52 [.pv (.sl (List.length p0) (Z.Cs p0)),.pv (.sl (List.length p1) (Z.Cs p1))] [] (gY n T p0 p1) (λx=>Bo x) (λ_=>[]):=by
 refine zC Tryz.func52 O λr hp h hr E hE=>A λ_ hK1=>B (za O (zQ hK1 (A λ_ hK2=>A λ_ hK3=>B (zm O (J (ca O) O (zm O (J (ca O) O (zc O (zQ hK3 (zB O h (λ_ h=>?_) λ_ h=>?_))))))))))
 ·exact A λ_ hK5=>B (za O (zQ hK5 (L (z O h O))))
 refine V (hK2 _ _ (A λ_ hK6=>A λ_ hK7=>B (zm O (J (ca O) O (zm O (zQ hK7 (u (zL hr h (λ(v8:Int)=>[(0,.pv (.sl (List.length p0) (Z.Cs p0))),(1,.pv (.sl (List.length p1) (Z.Cs p1))),(15,I (List.length p0:Int)),(16,I v8)]) (λ(v8:Int)=>[]) O λ_ v8 _ hK10 h=>A λ_ hK11=>B (zc O (zQ hK11 (A λ_ hK12=>zB O h (λ_ h=>?_) λ_ h=>?_)))))))))))
 ·refine V (hK12 _ _ (A λ_ hK14=>u (A λ_ hK15=>B (zm O (za O (zQ hK15 (A λ_ hK16=>bu [0,1,2,3,4,5,6,7,8,9,10,11] O (by kernel_rfl) (zD O (N O) O (zD O (N O) O (ze hr h λrb h18 h19 h20 h=>zD O (fR Z.Q Z.q h18 h19 h20 O O O) O (zD O (iJ O O) O ?_)))))))))));refine zD O (N O) O (zD O (N O) O (ze hr h λx21 h22 h23 h24 h=>zD O (fR Z.Q Z.q h22 h23 h24 O O O) O (zD O (iJ O O) O ?_)));refine uc O (bQ O) 106 (hE _ O) O5 O4 ?_;refine uc O (bQ O) 107 (hE _ O) O5 O4 ?_;refine sW O O8 O (λe10 he=>⟨y O,?_⟩);subst he;refine sW O O8 O (λe11 he=>⟨y O,?_⟩);subst he;refine ct (hK16 _ _ (A λ_ hK25=>A λ_ hK26=>B (zf O (zl O (zf O (zl O (zc O (zm O (zb (rb.Kind !=x21.Kind) (λhb27=>?_) λhb27=>?_)))))))))
  ·refine z1 hb27 h λh=>zH 5 O hb27 (zy hb27 O (zm O (zH 5 O O (zt O (zm O (zH 5 O O (zt O (zm O (zH 3 O O ?_)))))))));refine zH 2 O O (zt O (zm O (zH 7 O O (zt O (zQ hK26 (cb O (λhc=>?_) (λhc=>?_)))))))
   ·exact A λ_ hK28=>B (za O (zQ hK28 (L (z O h O))))
   exact absurd (hc) (by simp)
  refine z2 hb27 h λh=>zG hb27 O (bF O) (zG hb27 O (bj O O O) (zG hb27 O (bF O) (zG hb27 O (bj O O O) (zG hb27 O (aX O O O) (zw hb27 O (zm O (zb (rb.cG !=x21.cG) (λhb29=>?_) λhb29=>?_)))))))
  ·refine z1 hb29 h λh=>zH 5 O hb29 (zy hb29 O (zm O (zH 5 O O (zt O (zm O (zH 5 O O (zt O (zm O (zH 3 O O ?_)))))))));refine zH 4 O O (zt O (zQ hK26 (cb O (λhc=>?_) (λhc=>?_))))
   ·exact A λ_ hK30=>B (za O (zQ hK30 (L (z O h O))))
   exact absurd (hc) (by simp)
  refine z2 hb29 h λh=>zG hb29 O (bF O) (zG hb29 O (bj O O O) (zG hb29 O (bF O) (zG hb29 O (bj O O O) (zG hb29 O (pU O O) (zw hb29 O (zm O (zb (rb.Label !=x21.Label) (λhb31=>?_) λhb31=>?_)))))))
  ·refine z1 hb31 h λh=>zH 5 O hb31 (zy hb31 O (zm O (zH 5 O O (zt O (zm O (zH 7 O O (zt O (zQ hK26 (cb O (λhc=>?_) (λhc=>?_))))))))))
   ·exact A λ_ hK32=>B (za O (zQ hK32 (L (z O h O))))
   exact absurd (hc) (by simp)
  refine z2 hb31 h λh=>zG hb31 O (bF O) (zG hb31 O (jS O O O O) ?_);refine zG hb31 O (bF O) (zG hb31 O (jS O O O O) ?_);refine zG hb31 O (EJ O O) (zw hb31 O (zm O (zb (!((rb.bp==x21.bp)&&(rb.bq==x21.bq))) (λhb33=>?_) λhb33=>?_)))
  ·refine z1 hb33 h λh=>zH 5 O hb33 (zy hb33 O (zm O (zH 7 O O (zt O (zQ hK26 (cb O (λhc=>?_) (λhc=>?_)))))))
   ·exact A λ_ hK34=>B (za O (zQ hK34 (L (z O h O))))
   exact absurd (hc) (by simp)
  refine z2 hb33 h λh=>zG hb33 O (bF O) (zG hb33 O (bj O O O) (zG hb33 O (bF O) (zG hb33 O (bj O O O) (zG hb33 O (pU O O) (zw hb33 O (zm O (zb (rb.Trail !=x21.Trail) (λhb35=>?_) λhb35=>?_)))))))
  ·refine z1 hb35 h λh=>zH 7 O hb35 (zy hb35 O (zQ hK26 (cb O (λhc=>?_) (λhc=>?_))))
   ·exact A λ_ hK36=>B (za O (zQ hK36 (L (z O h O))))
   exact absurd (hc) (by simp)
  refine z2 hb35 h λh=>zG hb35 O (bF O) (zG hb35 O (bj O O O) (zG hb35 O (ca O) (zG hb35 O (bF O) (zG hb35 O (bj O O O) (zG hb35 O (ca O) (zG hb35 O (aX O O O) (zw hb35 O (zQ hK26 (zB O h (λ_ h=>?_) λ_ h=>?_)))))))))
  ·exact A λ_ hK38=>B (za O (zQ hK38 (L (z O h O))))
  refine V (hK25 _ _ (A λ_ hK39=>A λ_ hK40=>B (zf O (zl O (zf O (zl O (zk hp hr h [] Tryz.call51 (kG n rb.ka x21.ka) O (λ_=>rfl) λy41 h=>J (eo O) O (zm O (zb (!y41) (λhb42=>?_) λhb42=>?_)))))))))
  ·refine z1 hb42 h λh=>zH 6 O hb42 (zy hb42 O (zm O (zH 6 O O (zt O (zQ hK40 (cb O (λhc=>?_) (λhc=>?_)))))))
   ·exact A λ_ hK43=>B (za O (zQ hK43 (L (z O h O))))
   exact absurd (hc) (by simp)
  refine z2 hb42 h λh=>zG hb42 O (bF O) (zG hb42 O (bj O O O) (zG hb42 O (bF O) (zG hb42 O (bj O O O) (zK hb42 O hp hr h [] Tryz.call51 (kG n rb.cl x21.cl) O (λ_=>rfl) λy44 h=>zG hb42 O (eo O) (zw hb42 O (zm O (zb (!y44) (λhb45=>?_) λhb45=>?_)))))))
  ·refine z1 hb45 h λh=>zH 6 O hb45 (zy hb45 O (zQ hK40 (cb O (λhc=>?_) (λhc=>?_))))
   ·exact A λ_ hK46=>B (za O (zQ hK46 (L (z O h O))))
   exact absurd (hc) (by simp)
  refine z2 hb45 h λh=>zG hb45 O (bF O) (zG hb45 O (bj O O O) (zG hb45 O (bF O) (zG hb45 O (bj O O O) (zK hb45 O hp hr h [] Tryz.call52 (hT.dt rb.Body x21.Body) O (λ_=>rfl) λy47 h=>zG hb45 O (eo O) (zw hb45 O (zQ hK40 (zB O h (λ_ h=>?_) λ_ h=>?_)))))))
  ·exact A λ_ hK49=>B (za O (zQ hK49 (L (z O h O))))
  refine V (hK39 _ _ (A λ_ hK50=>B (zf O (zl O (J (ca O) O (zm O (zQ hK50 (u (zL hr h (λ(v51:Int)=>[(0,.pv (.sl (List.length p0) (Z.Cs p0))),(1,.pv (.sl (List.length p1) (Z.Cs p1))),(6,.ptr 106 0),(7,.ptr 107 0),(15,I (List.length p0:Int)),(16,I v8),(93,I (List.length rb.bg:Int)),(94,I v51)]) (λ(v51:Int)=>[(106,.box (dB rb)),(107,.box (dB x21))]) O λ_ v51 _ hK53 h=>A λ_ hK54=>B (zc O (zQ hK54 (A λ_ hK55=>zB O h (λ_ h=>?_) λ_ h=>?_))))))))))))
  ·refine V (hK55 _ _ (A λ_ hK57=>u (A λ_ hK58=>B (zm O (za O (zQ hK58 (A λ_ hK59=>bu [0,1,2,3,4,5,6,7,8,9,10,11] O (by kernel_rfl) (zD O (bF O) O (zD O (bj O O O) O (zD O (N O) O (ze hr h λx60 h61 h62 h63 h=>zD O (fR U.Q U.q h61 h62 h63 O O O) O (zD O (iJ O O) O ?_))))))))))));refine zD O (bF O) O (zD O (bj O O O) O (zD O (N O) O (ze hr h λx64 h65 h66 h67 h=>zD O (fR U.Q U.q h65 h66 h67 O O O) O (zD O (iJ O O) O ?_))));refine dG O (bQ O) hr h [] Tryz.call23 (hT.fP x60 x64) ⟨O,O,O,O,O,O,trivial⟩ O O (λ_=>O3) (λ_=>O2) hp (λy68 h=>⟨y O,?_⟩);refine zD O (eo O) O (ct (hK59 _ _ (zB O h (λ_ h=>?_) λ_ h=>?_)))
   ·exact A λ_ hK70=>B (za O (zQ hK70 (L (z O h O))))
   exact V (hK57 _ _ (B (zd hr h λhg71 h=>zo hg71 O (zm O (W (hK53 _ _ _ h O))))))
  exact aS (hK14 _ _ (B (zd hr h λhg72 h=>zo hg72 O (zm O (W (hK10 _ _ _ h O))))))
 exact aS (hK6 _ _ (A λ_ hK73=>B (za O (zQ hK73 (L (z O h O))))))
theorem tO (n:Nat) (T:gy) (hT:kg T) (p0:U) (p1:U):CT Tryz.prog 23 [.agg (bh p0),.agg (bh p1)] [] (kH n T p0 p1) (λx=>Bo x) (λ_=>[]):=by
 refine zC Tryz.func23 O λr hp h hr E hE=>A λ_ hK1=>B (dN 102 (hE _ O) O7 O ?_);refine dN 103 (hE _ O) O7 O ?_;refine za O (zQ hK1 (A λ_ hK2=>A λ_ hK3=>B (zf O (zl O (zf O (zl O (zc O (zm O (zb (p0.Kind !=p1.Kind) (λhb4=>?_) λhb4=>?_)))))))))
 ·refine z1 hb4 h λh=>zH 5 O hb4 (zy hb4 O (zm O (zH 5 O O (zt O (zm O (zH 5 O O (zt O (zm O (zH 3 O O ?_)))))))));refine zH 4 O O (zt O (zm O (zH 6 O O (zt O (zQ hK3 (cb O (λhc=>?_) (λhc=>?_)))))))
  ·exact A λ_ hK5=>B (za O (zQ hK5 (L (z O h O))))
  exact absurd (hc) (by simp)
 refine z2 hb4 h λh=>zG hb4 O (bF O) (zG hb4 O (bj O O O) (zG hb4 O (bF O) (zG hb4 O (bj O O O) (zG hb4 O (pU O O) (zw hb4 O (zm O (zb (p0.Text !=p1.Text) (λhb6=>?_) λhb6=>?_)))))))
 ·refine z1 hb6 h λh=>zH 5 O hb6 (zy hb6 O (zm O (zH 5 O O (zt O (zm O (zH 7 O O (zt O (zm O (zg O O ?_)))))))));refine zH 5 O O (zt O (zQ hK3 (cb O (λhc=>?_) (λhc=>?_))))
  ·exact A λ_ hK7=>B (za O (zQ hK7 (L (z O h O))))
  exact absurd (hc) (by simp)
 refine z2 hb6 h λh=>zG hb6 O (bF O) (zG hb6 O (bj O O O) (zG hb6 O (bF O) (zG hb6 O (bj O O O) (zG hb6 O (aX O O O) (zw hb6 O (zm O (zb (p0.jV !=p1.jV) (λhb8=>?_) λhb8=>?_)))))))
 ·refine z1 hb8 h λh=>zH 5 O hb8 (zy hb8 O (zm O (zH 7 O O (zt O (zm O (zH 6 O O (zt O (zQ hK3 ?_))))))));refine cb O (λhc=>?_) (λhc=>?_)
  ·exact A λ_ hK9=>B (za O (zQ hK9 (L (z O h O))))
  exact absurd (hc) (by simp)
 refine z2 hb8 h λh=>zG hb8 O (bF O) (zG hb8 O (jS O O O O) ?_);refine zG hb8 O (bF O) (zG hb8 O (jS O O O O) ?_);refine zG hb8 O (EJ O O) (zw hb8 O (zm O (zb (!((p0.bp==p1.bp)&&(p0.bq==p1.bq))) (λhb10=>?_) λhb10=>?_)))
 ·refine z1 hb10 h λh=>zH 7 O hb10 (zy hb10 O (zm O (zH 6 O O (zt O (zQ hK3 (cb O (λhc=>?_) (λhc=>?_)))))))
  ·exact A λ_ hK11=>B (za O (zQ hK11 (L (z O h O))))
  exact absurd (hc) (by simp)
 refine z2 hb10 h λh=>zG hb10 O (bF O) (zG hb10 O (bj O O O) (zG hb10 O (ca O) (zG hb10 O (bF O) (zG hb10 O (bj O O O) (zG hb10 O (ca O) (zG hb10 O (aX O O O) (zw hb10 O (zm O (zb ((List.length p0.bg:Int) !=(List.length p1.bg:Int)) (λhb12=>?_) λhb12=>?_)))))))))
 ·refine z1 hb12 h λh=>zH 6 O hb12 (zy hb12 O (zQ hK3 (cb O (λhc=>?_) (λhc=>?_))))
  ·exact A λ_ hK13=>B (za O (zQ hK13 (L (z O h O))))
  exact absurd (hc) (by simp)
 refine z2 hb12 h λh=>zG hb12 O (bF O) (zG hb12 O (bj O O O) (zG hb12 O (bF O) (zG hb12 O (bj O O O) (zK hb12 O hp hr h [] Tryz.call51 (kG n p0.cl p1.cl) O (λ_=>rfl) λy14 h=>zG hb12 O (eo O) (zw hb12 O (zQ hK3 (zB O h (λ_ h=>?_) λ_ h=>?_)))))))
 ·exact A λ_ hK16=>B (za O (zQ hK16 (L (z O h O))))
 refine V (hK2 _ _ (A λ_ hK17=>A λ_ hK18=>B (zf O (zl O (J (ca O) O (zm O (zQ hK18 (u (zL hr h (λ(v19:Int)=>[(0,.agg (bh p0)),(1,.agg (bh p1)),(2,.ptr 102 0),(3,.ptr 103 0),(51,I (List.length p0.bg:Int)),(52,I v19)]) (λ(v19:Int)=>[(102,.box (bh p0)),(103,.box (bh p1))]) O λ_ v19 _ hK21 h=>A λ_ hK22=>B (zc O (zQ hK22 (A λ_ hK23=>zB O h (λ_ h=>?_) λ_ h=>?_))))))))))))
 ·refine V (hK23 _ _ (A λ_ hK25=>u (A λ_ hK26=>B (zm O (za O (zQ hK26 (A λ_ hK27=>bu [0,1,2,3,4,5,6,7,8,9,10,11] O (by kernel_rfl) (zD O (bF O) O (zD O (bj O O O) O (zD O (N O) O (ze hr h λx28 h29 h30 h31 h=>zD O (fR U.Q U.q h29 h30 h31 O O O) O (zD O (iJ O O) O ?_))))))))))));refine zD O (bF O) O (zD O (bj O O O) O (zD O (N O) O (ze hr h λx32 h33 h34 h35 h=>zD O (fR U.Q U.q h33 h34 h35 O O O) O (zD O (iJ O O) O ?_))));refine dG O (bQ O) hr h [] Tryz.call23 (hT.fP x28 x32) ⟨O,O,O,O,O,O,trivial⟩ O O (λ_=>O3) (λ_=>O2) hp (λy36 h=>⟨y O,?_⟩);refine zD O (eo O) O (ct (hK27 _ _ (zB O h (λ_ h=>?_) λ_ h=>?_)))
  ·exact A λ_ hK38=>B (za O (zQ hK38 (L (z O h O))))
  exact V (hK25 _ _ (B (zd hr h λhg39 h=>zo hg39 O (zm O (W (hK21 _ _ _ h O))))))
 exact aS (hK17 _ _ (A λ_ hK40=>B (zf O (zl O (zf O (zl O (zk hp hr h [] Tryz.call52 (hT.dt p0.Decls p1.Decls) O (λ_=>rfl) λy41 h=>za O (zQ hK40 (L (z O h O))))))))))
theorem jt:∀ n,kg (er n)
 | 0=>⟨λ_ _=>cx,λ_ _=>cx⟩
 | n+1=>⟨λp0 p1=>tf n _ (jt n) p0 p1,λp0 p1=>tO n _ (jt n) p0 p1⟩
theorem tP (n:Nat) (p0:(List Z)) (p1:(List Z)):CT Tryz.prog 52 [.pv (.sl (List.length p0) (Z.Cs p0)),.pv (.sl (List.length p1) (Z.Cs p1))] [] (dt n p0 p1) (λx=>Bo x) (λ_=>[]):=(jt n).dt p0 p1
def nj (n:Nat) (p0:fq) (p1:fq):D (Bool):=
 br (p0.gj !=p1.gj) (.ok (false)) (br ((List.length p0.cT:Int) !=(List.length p1.cT:Int)) (.ok (false)) (D.bind (iz n p0.cl p1.cl) λy8=>br (!y8) (.ok (false)) (iter (λnext14 (v13:Int)=>br (decide (v13<(List.length p0.cT:Int))) (el p0.cT v13 λx22=>el p1.cT v13 λx26=>br (x22.Name !=x26.Name) (.ok (false)) (el p0.cT v13 λx32=>el p1.cT v13 λx36=>br (x32.Path !=x36.Path) (.ok (false)) (gd (cr (v13+1)) (next14 (v13+1))))) (D.bind (dt n p0.Decls p1.Decls) λy44=>.ok (y44))) n (0))))
theorem xR (n:Nat) (p0:fq) (p1:fq):CT Tryz.prog 22 [.agg (kB p0),.agg (kB p1)] [] (nj n p0 p1) (λx=>Bo x) (λ_=>[]):=by
 refine zC Tryz.func22 O λr hp h hr E hE=>A λ_ hK1=>B (dN 102 (hE _ O) O7 O ?_);refine dN 103 (hE _ O) O7 O ?_;refine za O (zQ hK1 (A λ_ hK2=>A λ_ hK3=>B (zf O (zl O (zf O (zl O (J (pU O O) O (zm O (zb (p0.gj !=p1.gj) (λhb4=>?_) λhb4=>?_)))))))))
 ·refine z1 hb4 h λh=>zH 7 O hb4 (zy hb4 O (zm O (zH 6 O O (zt O (zQ hK3 (cb O (λhc=>?_) (λhc=>?_)))))))
  ·exact A λ_ hK5=>B (za O (zQ hK5 (L (z O h O))))
  exact absurd (hc) (by simp)
 refine z2 hb4 h λh=>zG hb4 O (bF O) (zG hb4 O (bj O O O) (zG hb4 O (ca O) (zG hb4 O (bF O) (zG hb4 O (bj O O O) (zG hb4 O (ca O) (zG hb4 O (aX O O O) (zw hb4 O (zm O (zb ((List.length p0.cT:Int) !=(List.length p1.cT:Int)) (λhb6=>?_) λhb6=>?_)))))))))
 ·refine z1 hb6 h λh=>zH 6 O hb6 (zy hb6 O (zQ hK3 (cb O (λhc=>?_) (λhc=>?_))))
  ·exact A λ_ hK7=>B (za O (zQ hK7 (L (z O h O))))
  exact absurd (hc) (by simp)
 refine z2 hb6 h λh=>zG hb6 O (bF O) (zG hb6 O (bj O O O) (zG hb6 O (bF O) (zG hb6 O (bj O O O) (zK hb6 O hp hr h [] Tryz.call51 (kG n p0.cl p1.cl) O (λ_=>rfl) λy8 h=>zG hb6 O (eo O) (zw hb6 O (zQ hK3 (zB O h (λ_ h=>?_) λ_ h=>?_)))))))
 ·exact A λ_ hK10=>B (za O (zQ hK10 (L (z O h O))))
 refine V (hK2 _ _ (A λ_ hK11=>A λ_ hK12=>B (zf O (zl O (J (ca O) O (zm O (zQ hK12 (u (zL hr h (λ(v13:Int)=>[(0,.agg (kB p0)),(1,.agg (kB p1)),(2,.ptr 102 0),(3,.ptr 103 0),(30,I (List.length p0.cT:Int)),(31,I v13)]) (λ(v13:Int)=>[(102,.box (kB p0)),(103,.box (kB p1))]) O λ_ v13 _ hK15 h=>A λ_ hK16=>B (zc O (zQ hK16 (A λ_ hK17=>zB O h (λ_ h=>?_) λ_ h=>?_))))))))))))
 ·refine V (hK17 _ _ (A λ_ hK19=>u (A λ_ hK20=>B (zm O (za O (zQ hK20 (A λ_ hK21=>bu [0,1,2,3,4,5,6,7,8,9,10,11,12,13,14,15,16,17,18,19,20,21,22,23,24,25,26,27] O (by kernel_rfl) (zD O (bF O) O (zD O (bj O O O) O (zD O (N O) O (ze hr h λx22 h23 h24 h25 h=>zD O (fR bU.Q bU.q h23 h24 h25 O O O) O (zD O (iF O O) O (zD O (dT O O) O (zD O (bF O) O (zD O (bj O O O) O (zD O (N O) O (ze hr h λx26 h27 h28 h29 h=>zD O (fR bU.Q bU.q h27 h28 h29 O O O) O (zD O (iF O O) O (zD O (dT O O) O ?_)))))))))))))))))));refine zD O (pU O O) O (zD O (N O) O (zb (x22.Name !=x26.Name) (λhb30=>?_) λhb30=>?_))
  ·refine z1 hb30 h λh=>cI hb30 O O2 O2 ?_;refine cI hb30 O O2 O2 ?_;refine cI hb30 O O2 O2 ?_;refine cI hb30 O O2 O2 ?_;refine cI hb30 O O2 O2 ?_;refine cI hb30 O O2 O2 ?_;refine cI hb30 O O2 O2 ?_;refine cI hb30 O O2 O2 ?_;refine cI hb30 O O2 O2 ?_;refine cI hb30 O O2 O2 ?_;refine cI hb30 O O2 O2 ?_;refine cI hb30 O O2 O2 ?_;refine cI hb30 O O2 O2 ?_;refine zD O (cY hb30 O O) O (ct (hK21 _ _ (cb O (λhc=>?_) (λhc=>?_))))
   ·exact A λ_ hK31=>B (za O (zQ hK31 (L (z O h O))))
   exact absurd (hc) (by simp)
  refine z2 hb30 h λh=>cK hb30 O O2 (bF O) O3 ?_;refine cK hb30 O O2 (bj O O O) O3 ?_;refine cK hb30 O O2 (N O) O3 ?_;refine ze hr h λx32 h33 h34 h35 h=>cK hb30 O O2 (fR bU.Q bU.q h33 h34 h35 O O O) O3 ?_;refine cK hb30 O O2 (iF O O) O3 ?_;refine cK hb30 O O2 (dT O O) O3 ?_;refine cK hb30 O O2 (bF O) O3 ?_;refine cK hb30 O O2 (bj O O O) O3 ?_;refine cK hb30 O O2 (N O) O3 ?_;refine ze hr h λx36 h37 h38 h39 h=>cK hb30 O O2 (fR bU.Q bU.q h37 h38 h39 O O O) O3 ?_;refine cK hb30 O O2 (iF O O) O3 ?_;refine cK hb30 O O2 (dT O O) O3 ?_;refine cK hb30 O O2 (pU O O) O3 ?_;refine zD O (cU hb30 O O) O (ct (hK21 _ _ (zB O h (λ_ h=>?_) λ_ h=>?_)))
  ·exact A λ_ hK41=>B (za O (zQ hK41 (L (z O h O))))
  exact V (hK19 _ _ (B (zd hr h λhg42 h=>zo hg42 O (zm O (W (hK15 _ _ _ h O))))))
 exact aS (hK11 _ _ (A λ_ hK43=>B (zf O (zl O (zf O (zl O (zk hp hr h [] Tryz.call52 (tP n p0.Decls p1.Decls) O (λ_=>rfl) λy44 h=>za O (zQ hK43 (L (z O h O))))))))))
def kh (n:Nat) (p0:ByS) (p1:Int):D (Bool):=
 br (decide ((List.length p0:Int)>400)) (D.bind (jW 64) λy6=>.ok (y6)) (D.bind (rm n p0) λy8=>br (y8.2.Errno !=0) (D.bind (jW 64) λy13=>.ok (y13)) (iter (λnext17 (v16:Int)=>br (decide (v16<(List.length y8.1:Int))) (el y8.1 v16 λx24=>br (x24.Kind==0) (br (decide (v16>0)) (gd (cr (v16 - 1)) (el y8.1 (v16 - 1) λx31=>br (x31.Kind==6) (D.bind (jW 64) λy37=>.ok (y37)) (gd (cr (v16+1)) (next17 (v16+1))))) (gd (cr (v16+1)) (next17 (v16+1)))) (gd (cr (v16+1)) (next17 (v16+1)))) (D.bind (fg n p0) λy42=>D.bind (n5 n p0 y8.1 p1) λy44=>D.bind (fg n y44) λy45=>br (y42.2.Errno==y45.2.Errno) (D.bind (nj n y42.1 y45.1) λy48=>br y48 (D.bind (jW 64) λy50=>.ok (y50)) (.ok (false))) (.ok (false)))) n (0)))
theorem sM (n:Nat) (p0:ByS) (p1:Int):CT Tryz.prog 7 [F p0,Sc (.int .u64 p1)] [] (kh n p0 p1) (λx=>Bo x) (λ_=>[]):=by
 refine zC Tryz.func7 O λr hp h hr E hE=>A λ_ hK1=>B (za O (zQ hK1 (A λ_ hK2=>A λ_ hK3=>B (zm O (J (bJ O) O (zc O (zQ hK3 (zB O h (λ_ h=>?_) λ_ h=>?_))))))))
 ·exact A λ_ hK5=>B (zk hp hr h [] Tryz.call11 (mK 64) O (λ_=>rfl) λy6 h=>za O (zQ hK5 (L (z O h O))))
 refine V (hK2 _ _ (A λ_ hK7=>B (zm O (zk hp hr h [] Tryz.call20 (Ab n p0) O (λ_=>rfl) λy8 h=>zm O (zx O (zx O (aH 106 (hE _ O) O4 O ?_)))))));refine za O (zs O (zQ hK7 (A λ_ hK9=>A λ_ hK10=>B (zf O (zl O (zc O (zQ hK10 (zB O h (λ_ h=>?_) λ_ h=>?_))))))))
 ·exact A λ_ hK12=>B (zk hp hr h [] Tryz.call11 (mK 64) O (λ_=>rfl) λy13 h=>za O (zQ hK12 (L (z O h O))))
 refine V (hK9 _ _ (A λ_ hK14=>A λ_ hK15=>B (za O (zQ hK15 (u (zL hr h (λ(v16:Int)=>[(0,F p0),(1,Sc (.int .u64 p1)),(5,.pv (.sl (List.length y8.1) (aA.Cs y8.1))),(7,I v16)]) (λ(v16:Int)=>[]) O λ_ v16 _ hK18 h=>A λ_ hK19=>A λ_ hK20=>B (zm O (zm O (J (ca O) O (zc O (zQ hK20 (zB O h (λ_ h=>?_) λ_ h=>?_))))))))))))
 ·refine V (hK19 _ _ (A λ_ hK22=>u (A λ_ hK23=>B (zm O (zm O (ze hr h λx24 h25 h26 h27 h=>J (fR aA.Q aA.q h25 h26 h27 O O O) O (J (iF O O) O (J (dT O O) O (zc O (zm O (zb (x24.Kind==0) (λhb28=>?_) λhb28=>?_)))))))))))
  ·refine z1 hb28 h λh=>zG hb28 O (N O) (zG hb28 O (aX O O O) (zy hb28 O (zm O (zb (decide (v16>0)) (λhb29=>?_) λhb29=>?_))))
   ·refine z1 hb29 h λh=>zG hb29 O (N O) (zG hb29 O (N O) (zd hr h λhg30 h=>zG hb29 O (jT O O hg30) (ze hr h λx31 h32 h33 h34 h=>zG hb29 O (fR aA.Q aA.q h32 h33 h34 O O O) (zG hb29 O (iF O O) (zG hb29 O (dT O O) (zG hb29 O (aX O O O) (zy hb29 O (zQ hK23 (zB O h (λ_ h=>?_) λ_ h=>?_)))))))))
    ·exact A λ_ hK36=>B (zk hp hr h [] Tryz.call11 (mK 64) O (λ_=>rfl) λy37 h=>za O (zQ hK36 (L (z O h O))))
    exact V (hK22 _ _ (B (zm O (zd hr h λhg38 h=>zo hg38 O (za O (W (hK18 _ _ _ h O)))))))
   refine z2 hb29 h λh=>zH 7 O hb29 (zw hb29 O (zQ hK23 (cb O (λhc=>?_) (λhc=>?_))))
   ·exact absurd (hc) (by simp)
   exact V (hK22 _ _ (B (zm O (zd hr h λhg39 h=>zo hg39 O (za O (W (hK18 _ _ _ h O)))))))
  refine z2 hb28 h λh=>zH 2 O hb28 (zw hb28 O (zm O (zH 7 O O (J (de O O) O (zQ hK23 (cb O (λhc=>?_) (λhc=>?_)))))))
  ·exact absurd (hc) (by simp)
  exact V (hK22 _ _ (B (zm O (zd hr h λhg40 h=>zo hg40 O (za O (W (hK18 _ _ _ h O)))))))
 refine aS (hK14 _ _ (A λ_ hK41=>B (zm O (zk hp hr h [] Tryz.call12 (ku n p0) O (λ_=>rfl) λy42 h=>zm O (zx O (zx O (aH 108 (hE _ O) O4 O ?_)))))));refine aH 109 (hE _ O) O4 O ?_;refine zs O (zs O (zQ hK41 (A λ_ hK43=>B (zm O (zm O (zm O (zk hp hr h [] Tryz.call21 (xa n p0 y8.1 p1) O (λ_=>rfl) λy44 h=>zk hp hr h [] Tryz.call12 (ku n y44) O (λ_=>rfl) λy45 h=>zm O (zx O (zx O (aH 110 (hE _ O) O4 O ?_))))))))));refine aH 111 (hE _ O) O4 O ?_;refine zs O (zs O (zQ hK43 (A λ_ hK46=>B (zf O (zl O (zf O (zl O (zc O (zm O (zb (y42.2.Errno==y45.2.Errno) (λhb47=>?_) λhb47=>?_))))))))))
 ·refine z1 hb47 h λh=>zG hb47 O (jS O O O O) ?_;refine zG hb47 O (jS O O O O) ?_;refine zK hb47 O hp hr h [] Tryz.call22 (xR n y42.1 y45.1) O (λ_=>rfl) λy48 h=>zy hb47 O (zm O (zb y48 (λhb49=>?_) λhb49=>?_))
  ·exact z1 hb49 h λh=>zK hb49 O hp hr h [] Tryz.call11 (mK 64) O (λ_=>rfl) λy50 h=>zy hb49 O (za O (zQ hK46 (L (z O h O))))
  exact z2 hb49 h λh=>zg hb49 O (zw hb49 O (za O (zQ hK46 (L (z O h O)))))
 exact z2 hb47 h λh=>zH 3 O hb47 (zw hb47 O (zm O (zg O O (J (de O O) O (za O (zQ hK46 (L (z O h O))))))))
end Go.Abs
end
section
namespace Go.Abs
open D
abbrev gP:rA->Prop:=λ_=>False
theorem rn {m:Nat->Nat} (hm:cq m) {l:List ByS} {s:ByS} (hl:l.length<=1099511627776):Ev (λi=>slices_Index_string (m i) l s) (λ_=>True) gP:=by
 unfold slices_Index_string;refine Ev.iter hm (λ(v:Int)=>0<=v/\v<=l.length) (λv=>(l.length - v).toNat) (by omega) ?_;intro v hv next hn
 (repeat' (with_reducible first|refine Ev.gA ?_|refine Ev.eA (λ_ _=>?_)|apply Ev.cR|apply Ev.cA|(first|apply Ev.aO|apply Ev.bw|apply Ev.bP|apply Ev.bt|apply Ev.br)<;>intro _|(apply Ev.kP;try dsimp only)))
 all_goals first|exact Ev.ok trivial|exact hn _ (by (first|omega|(simp[cr,k2,mh,maxLen]<;>omega))) (by (first|omega|(simp[cr,k2,mh,maxLen]<;>omega)))
theorem iV {m:Nat->Nat} (hm:cq m) {l:List ByS} {s:ByS} (hl:l.length<=1099511627776):Ev (λi=>slices_Contains_string (m i) l s) (λ_=>True) gP:=by
 unfold slices_Contains_string;exact Ev.aN (rn hm hl) λ_ _=>Ev.ok trivial
theorem rF {c:Int}:Ev (λ_=>lX c) (λ_=>True) gP:=by
 unfold lX
 (repeat' (with_reducible first|refine Ev.gA ?_|refine Ev.eA (λ_ _=>?_)|apply Ev.cR|apply Ev.cA|(first|apply Ev.aO|apply Ev.bw|apply Ev.bP|apply Ev.bt|apply Ev.br)<;>intro _|(apply Ev.kP;try dsimp only)))
 all_goals exact Ev.ok trivial
theorem gh {m:Nat->Nat} (hm:cq m) {s:ByS}:Ev (λi=>gu (m i) s) (λ_=>True) gP:=by
 unfold gu;refine Ev.aO (λ_=>Ev.ok trivial) (λh=>?_);refine Ev.aN (iV hm (by simp)) λy _=>?_;refine Ev.br (λ_=>Ev.ok trivial) (λ_=>?_);refine Ev.jn (λv=>v.length<=32) (λv hv=>?_) (λj hj=>?_)
 ·(repeat' (with_reducible first|refine Ev.gA ?_|refine Ev.eA (λ_ _=>?_)|apply Ev.cR|apply Ev.cA|(first|apply Ev.aO|apply Ev.bw|apply Ev.bP|apply Ev.bt|apply Ev.br)<;>intro _|(apply Ev.kP;try dsimp only)))
  ·exact Ev.ok trivial
  refine Ev.aN rF λy _=>?_
  (repeat' (with_reducible first|refine Ev.gA ?_|refine Ev.eA (λ_ _=>?_)|apply Ev.cR|apply Ev.cA|(first|apply Ev.aO|apply Ev.bw|apply Ev.bP|apply Ev.bt|apply Ev.br)<;>intro _|(apply Ev.kP;try dsimp only)))
  ·exact Ev.ok trivial
  refine Ev.iter hm (λ(x:Int)=>0<=x/\x<=v.length) (λx=>(v.length - x).toNat) (by omega) ?_;intro x hx next hn
  (repeat' (with_reducible first|refine Ev.gA ?_|refine Ev.eA (λ_ _=>?_)|apply Ev.cR|apply Ev.cA|(first|apply Ev.aO|apply Ev.bw|apply Ev.bP|apply Ev.bt|apply Ev.br)<;>intro _|(apply Ev.kP;try dsimp only)))
  ·refine Ev.aN rF λy _=>?_
   (repeat' (with_reducible first|refine Ev.gA ?_|refine Ev.eA (λ_ _=>?_)|apply Ev.cR|apply Ev.cA|(first|apply Ev.aO|apply Ev.bw|apply Ev.bP|apply Ev.bt|apply Ev.br)<;>intro _|(apply Ev.kP;try dsimp only)))
   all_goals first|exact Ev.ok trivial|exact hn _ (by (first|omega|(simp[cr,k2,mh,maxLen]<;>omega))) (by (first|omega|(simp[cr,k2,mh,maxLen]<;>omega)))
  exact Ev.ok trivial
 (repeat' (with_reducible first|refine Ev.gA ?_|refine Ev.eA (λ_ _=>?_)|apply Ev.cR|apply Ev.cA|(first|apply Ev.aO|apply Ev.bw|apply Ev.bP|apply Ev.bt|apply Ev.br)<;>intro _|(apply Ev.kP;try dsimp only)))
 all_goals refine hj _ ?_
 all_goals first|omega|(have:=kp (c:=s) (i:=1) (by omega) (by omega);omega)
theorem oS {c:Int}:Ev (λ_=>lH c) (λr=>r=true->-1000000000000000<=c/\c<=1000000000000000) gP:=by
 unfold lH
 (repeat' (with_reducible first|refine Ev.gA ?_|refine Ev.eA (λ_ _=>?_)|apply Ev.cR|apply Ev.cA|(first|apply Ev.aO|apply Ev.bw|apply Ev.bP|apply Ev.bt|apply Ev.br)<;>intro _|(apply Ev.kP;try dsimp only)))
 all_goals first|exact Ev.ok (by simp;omega)|exact Ev.ok (by simp)
theorem xS {c:Int}:Ev (λ_=>qM c) (λr=>0<=r/\r<18446744073709551616) gP:=by
 unfold qM
 (repeat' (with_reducible first|refine Ev.gA ?_|refine Ev.eA (λ_ _=>?_)|apply Ev.cR|apply Ev.cA|(first|apply Ev.aO|apply Ev.bw|apply Ev.bP|apply Ev.bt|apply Ev.br)<;>intro _|(apply Ev.kP;try dsimp only)))
 all_goals exact Ev.ok (wrap_u64 _)
theorem tx {a:Int} (h:0<=a/\a<18446744073709551616):Ev (λ_=>iN a 10) (λr=>1<=r.length/\r.length<=20) gP:=by
 unfold iN;refine Ev.gd ⟨rfl,h.1,h.2⟩ (Ev.ok ⟨EH 19 _,A7 20 _⟩)
theorem xT {m:Nat->Nat} (hm:cq m) {c:Int}:Ev (λi=>qN (m i) c) (λ_=>True) gP:=by
 unfold qN;refine Ev.aN oS λy _=>?_;refine Ev.bt (λ_=>Ev.ok trivial) (λ_=>?_);refine Ev.aN xS λy _=>?_;refine Ev.gA (Ev.aN (tx (wrap_u64 _)) λy hy=>?_);refine Ev.jn (λv=>v.length<=30) (λv hv=>?_) (λj hj=>?_)
 ·refine Ev.gA (Ev.aN (tx (wrap_u64 _)) λy hy=>?_);refine Ev.gA ?_;refine Ev.jn (λv=>v.length<=30) (λv hv=>?_) (λj hj=>?_)
  ·(repeat' (with_reducible first|refine Ev.gA ?_|refine Ev.eA (λ_ _=>?_)|apply Ev.cR|apply Ev.cA|(first|apply Ev.aO|apply Ev.bw|apply Ev.bP|apply Ev.bt|apply Ev.br)<;>intro _|(apply Ev.kP;try dsimp only)))
   all_goals exact Ev.ok trivial
  refine Ev.iter hm (λx=>x.length<=30) (λx=>x.length) ?_ ?_
  ·have:=kp (c:=y) (i:=1) (by omega) (by omega);omega
  intro x hx next hn
  (repeat' (with_reducible first|refine Ev.gA ?_|refine Ev.eA (λ_ _=>?_)|apply Ev.cR|apply Ev.cA|(first|apply Ev.aO|apply Ev.bw|apply Ev.bP|apply Ev.bt|apply Ev.br)<;>intro _|(apply Ev.kP;try dsimp only)))
  ·have:=uV (c:=x) (j:=x.length - 1) (by omega) (by omega);exact hn _ (by omega) (by omega)
  ·exact hj _ (by omega)
  exact hj _ (by omega)
 (repeat' (with_reducible first|refine Ev.gA ?_|refine Ev.eA (λ_ _=>?_)|apply Ev.cR|apply Ev.cA|(first|apply Ev.aO|apply Ev.bw|apply Ev.bP|apply Ev.bt|apply Ev.br)<;>intro _|(apply Ev.kP;try dsimp only)))
 all_goals exact hj _ (by (first|omega|(simp<;>omega)))
theorem sN {m:Nat->Nat} (hm:cq m) {s:ByS}:Ev (λi=>na (m i) s) (λ_=>True) gP:=by
 unfold na;refine Ev.aO (λ_=>Ev.ok trivial) (λh=>?_);refine Ev.jn (λv=>v.1.length<=20/\v.2.length<=20) (λv hv=>?_) (λj hj=>?_)
 ·refine Ev.iter hm (λx=>x.length<=20) (λx=>20 - x.length) hv.2 ?_;intro x hx next hn
  (repeat' (with_reducible first|refine Ev.gA ?_|refine Ev.eA (λ_ _=>?_)|apply Ev.cR|apply Ev.cA|(first|apply Ev.aO|apply Ev.bw|apply Ev.bP|apply Ev.bt|apply Ev.br)<;>intro _|(apply Ev.kP;try dsimp only)))
  ·exact hn _ (by (first|omega|(simp<;>omega))) (by (first|omega|(simp<;>omega)))
  ·exact Ev.ok trivial
  refine Ev.fy (Q:=λ_=>True) ?_ λy _=>?_
  ·unfold mB;exact Ev.gA (Ev.ok trivial)
  refine Ev.br (λ_=>Ev.ok trivial) (λ_=>?_);refine Ev.aN oS λy _=>?_;refine Ev.bt (λ_=>Ev.ok trivial) (λ_=>?_);refine Ev.aN (xT hm) λy _=>?_;refine Ev.br (λ_=>Ev.ok trivial) (λ_=>Ev.ok trivial)
 refine Ev.iter hm (λ(x:Int)=>0<=x/\x<=s.length) (λx=>(s.length - x).toNat) (by omega) ?_;intro x hx next hn
 (repeat' (with_reducible first|refine Ev.gA ?_|refine Ev.eA (λ_ _=>?_)|apply Ev.cR|apply Ev.cA|(first|apply Ev.aO|apply Ev.bw|apply Ev.bP|apply Ev.bt|apply Ev.br)<;>intro _|(apply Ev.kP;try dsimp only)))
 ·have h1:=uf (c:=s) (j:=x);have h2:=kp (c:=s) (i:=x+1) (by omega) (by omega);exact hj _ (by dsimp only;omega)
 ·exact hn _ (by (first|omega|(simp[cr,k2,mh,maxLen]<;>omega))) (by (first|omega|(simp[cr,k2,mh,maxLen]<;>omega)))
 exact hj _ (by dsimp only;simp;omega)
theorem rp {s p:ByS}:Ev (λ_=>strings_HasPrefix s p) (λr=>r=true->p.length<=s.length) gP:=by
 unfold strings_HasPrefix stringslite_HasPrefix;refine Ev.aN (Q:=λr=>r=true->p.length<=s.length) ?_ λ_ h=>Ev.ok h
 (repeat' (with_reducible first|refine Ev.gA ?_|refine Ev.eA (λ_ _=>?_)|apply Ev.cR|apply Ev.cA|(first|apply Ev.aO|apply Ev.bw|apply Ev.bP|apply Ev.bt|apply Ev.br)<;>intro _|(apply Ev.kP;try dsimp only)))
 ·exact Ev.ok (λ_=>by omega)
 exact Ev.ok (by simp)
theorem xe {a b:ByS} (h:1<=b.length) (ha:a.length<4294967281):Ev (λ_=>strings_Split a b) (λr=>r.length<=a.length+2) gP:=by
 unfold strings_Split;exact Ev.gd ⟨h,ha⟩ (Ev.ok (wW _ _ _))
theorem pq {a b:ByS} (ha:a.length<4294967281):Ev (λ_=>strings_Contains a b) (λ_=>True) gP:=by
 unfold strings_Contains;exact Ev.gd ha (Ev.ok trivial)
theorem kS {c:Int}:Ev (λ_=>iG c) (λr=>r=decide (48<=c/\c<=57)) gP:=by
 unfold iG
 (repeat' (with_reducible first|refine Ev.gA ?_|refine Ev.eA (λ_ _=>?_)|apply Ev.cR|apply Ev.cA|(first|apply Ev.aO|apply Ev.bw|apply Ev.bP|apply Ev.bt|apply Ev.br)<;>intro _|(apply Ev.kP;try dsimp only)))
 ·exact Ev.ok (by simp;omega)
 exact Ev.ok (by simp;omega)
theorem rG {c:Int}:Ev (λ_=>kf c) (λ_=>True) gP:=by
 unfold kf
 (repeat' (with_reducible first|refine Ev.gA ?_|refine Ev.eA (λ_ _=>?_)|apply Ev.cR|apply Ev.cA|(first|apply Ev.aO|apply Ev.bw|apply Ev.bP|apply Ev.bt|apply Ev.br)<;>intro _|(apply Ev.kP;try dsimp only)))
 all_goals exact Ev.ok trivial
theorem vO {m:Nat->Nat} (hm:cq m) {s:ByS} (hs:s.length<=65536) :
  Ev (λi=>kW (m i) s) (λr=>0<=r/\r<=s.length/\∀ b:UInt8,s[0]?=some b->48<=(b.toNat:Int)->(b.toNat:Int)<=57->1<=r) gP:=by
 unfold kW
 refine Ev.jn (λv=>0<=v/\v<=s.length/\∀ b:UInt8,s[0]?=some b->48<=(b.toNat:Int)->(b.toNat:Int)<=57->1<=v) (λv hv=>?_) (λj hj=>?_)
 ·refine Ev.jn (λb=>b=true->v+1<=s.length) (λb hb=>?_) (λj hj=>?_)
  ·refine Ev.br (λh=>?_) (λ_=>Ev.ok hv)
   have:=hb h
   refine Ev.gA ?_
   refine Ev.iter hm (λ(x:Int)=>v+1<=x/\x<=s.length) (λx=>(s.length - x).toNat) (by omega) ?_
   intro x hx next hn
   (repeat' (with_reducible first|refine Ev.gA ?_|refine Ev.eA (λ_ _=>?_)|apply Ev.cR|apply Ev.cA|(first|apply Ev.aO|apply Ev.bw|apply Ev.bP|apply Ev.bt|apply Ev.br)<;>intro _|(apply Ev.kP;try dsimp only)))
   ·refine Ev.aN kS λy _=>?_
    (repeat' (with_reducible first|refine Ev.gA ?_|refine Ev.eA (λ_ _=>?_)|apply Ev.cR|apply Ev.cA|(first|apply Ev.aO|apply Ev.bw|apply Ev.bP|apply Ev.bt|apply Ev.br)<;>intro _|(apply Ev.kP;try dsimp only)))
    ·exact hn _ (by (first|omega|(simp[cr,k2,mh,maxLen]<;>omega))) (by (first|omega|(simp[cr,k2,mh,maxLen]<;>omega)))
    ·exact Ev.ok ⟨by omega,by omega,λ_ _ _ _=>by omega⟩
   ·exact Ev.ok ⟨by omega,by omega,λ_ _ _ _=>by omega⟩
  ·(repeat' (with_reducible first|refine Ev.gA ?_|refine Ev.eA (λ_ _=>?_)|apply Ev.cR|apply Ev.cA|(first|apply Ev.aO|apply Ev.bw|apply Ev.bP|apply Ev.bt|apply Ev.br)<;>intro _|(apply Ev.kP;try dsimp only)))
   ·refine Ev.aN kS λy _=>?_
    exact hj _ (λ_=>by omega)
   all_goals exact hj _ (by simp)
 ·refine Ev.iter hm (λ(x:Int)=>0<=x/\x<=s.length) (λx=>(s.length - x).toNat) (by omega) ?_
  intro x hx next hn
  refine Ev.aO (λh=>?_) (λh=>?_)
  ·refine Ev.eA (λb hb=>?_)
   refine Ev.aN kS λy hy=>?_
   refine Ev.br (λ_=>?_) (λh2=>?_)
   ·(repeat' (with_reducible first|refine Ev.gA ?_|refine Ev.eA (λ_ _=>?_)|apply Ev.cR|apply Ev.cA|(first|apply Ev.aO|apply Ev.bw|apply Ev.bP|apply Ev.bt|apply Ev.br)<;>intro _|(apply Ev.kP;try dsimp only)))
    exact hn _ (by (first|omega|(simp[cr,k2,mh,maxLen]<;>omega))) (by (first|omega|(simp[cr,k2,mh,maxLen]<;>omega)))
   ·refine hj _ ⟨hx.1,hx.2,λb' hb' h3 h4=>?_⟩
    rcases Int.lt_or_le x 1 with q|q
    ·have:x=0:=by omega
     subst this
     simp only[Int.toNat_zero] at hb
     rw[hb] at hb';cases hb'
     rw[hy] at h2
     exact absurd ⟨h3,h4⟩ (of_decide_eq_false h2)
    ·exact q
  ·refine hj _ ⟨hx.1,hx.2,λb' hb' _ _=>?_⟩
   have:=(List.getElem?_eq_some_iff.1 hb').1
   omega
theorem ui {m:Nat->Nat} (hm:cq m) {s:ByS}:Ev (λi=>jI (m i) s) (λr=>r.length<=s.length) gP:=by
 unfold jI;refine Ev.iter hm (λ(x:Int)=>0<=x/\x<=3) (λx=>(3 - x).toNat) (by omega) ?_;intro x hx next hn;refine Ev.aO (λh=>?_) (λh=>Ev.ok (by simp));simp only[List.length_cons,List.length_nil] at h;refine Ev.el (by omega) (by simp;omega) (λa ha=>?_);have hal:a.length<=60:=by
  have hm:=List.mem_of_getElem? ha;simp only[List.mem_cons,List.not_mem_nil,or_false] at hm;rcases hm with rfl|rfl|rfl<;>simp
 refine Ev.aN (xe (by simp) (by omega)) λl hl=>?_;refine Ev.iter hm (λ(z:Int)=>0<=z/\z<=l.length) (λz=>(l.length - z).toNat) (by omega) ?_;intro z hz next2 hn2
 (repeat' (with_reducible first|refine Ev.gA ?_|refine Ev.eA (λ_ _=>?_)|apply Ev.cR|apply Ev.cA|(first|apply Ev.aO|apply Ev.bw|apply Ev.bP|apply Ev.bt|apply Ev.br)<;>intro _|(apply Ev.kP;try dsimp only)))
 ·refine Ev.aN rp λy hy=>?_;refine Ev.br (λh=>Ev.ok (hy h)) (λ_=>?_)
  (repeat' (with_reducible first|refine Ev.gA ?_|refine Ev.eA (λ_ _=>?_)|apply Ev.cR|apply Ev.cA|(first|apply Ev.aO|apply Ev.bw|apply Ev.bP|apply Ev.bt|apply Ev.br)<;>intro _|(apply Ev.kP;try dsimp only)))
  exact hn2 _ (by (first|omega|(simp[cr,k2,mh,maxLen]<;>omega))) (by (first|omega|(simp[cr,k2,mh,maxLen]<;>omega)))
 exact hn _ (by (first|omega|(simp[cr,k2,mh,maxLen]<;>omega))) (by (first|omega|(simp[cr,k2,mh,maxLen]<;>omega)))
theorem xU {m:Nat->Nat} (hm:cq m) {s:ByS} (hs:s.length<=65536):Ev (λi=>mC (m i) s) (λr=>0<=r/\r<=s.length) gP:=by
 unfold mC;refine Ev.jn (λv=>0<=v/\v<=s.length) (λv hv=>?_) (λj hj=>?_)
 ·refine Ev.bw (λh=>?_) (λ_=>Ev.ok hv);refine Ev.eA (λb _=>?_);refine Ev.aN rG λy _=>?_
  (repeat' (with_reducible first|refine Ev.gA ?_|refine Ev.eA (λ_ _=>?_)|apply Ev.cR|apply Ev.cA|(first|apply Ev.aO|apply Ev.bw|apply Ev.bP|apply Ev.bt|apply Ev.br)<;>intro _|(apply Ev.kP;try dsimp only)))
  all_goals exact Ev.ok (by omega)
 refine Ev.iter hm (λ(x:Int)=>0<=x/\x<=s.length) (λx=>(s.length - x).toNat) (by omega) ?_;intro x hx next hn;refine Ev.jn (λ_=>x<s.length) (λ_ h=>?_) (λj2 hj2=>?_)
 ·(repeat' (with_reducible first|refine Ev.gA ?_|refine Ev.eA (λ_ _=>?_)|apply Ev.cR|apply Ev.cA|(first|apply Ev.aO|apply Ev.bw|apply Ev.bP|apply Ev.bt|apply Ev.br)<;>intro _|(apply Ev.kP;try dsimp only)))
  exact hn _ (by (first|omega|(simp[cr,k2,mh,maxLen]<;>omega))) (by (first|omega|(simp[cr,k2,mh,maxLen]<;>omega)))
 refine Ev.aO (λh=>?_) (λ_=>hj _ hx);refine Ev.eA (λb _=>?_);refine Ev.aN rG λy _=>?_;refine Ev.br (λ_=>hj2 _ h) (λ_=>?_)
 (repeat' (with_reducible first|refine Ev.gA ?_|refine Ev.eA (λ_ _=>?_)|apply Ev.cR|apply Ev.cA|(first|apply Ev.aO|apply Ev.bw|apply Ev.bP|apply Ev.bt|apply Ev.br)<;>intro _|(apply Ev.kP;try dsimp only)))
 ·refine Ev.aN kS λy _=>?_
  (repeat' (with_reducible first|refine Ev.gA ?_|refine Ev.eA (λ_ _=>?_)|apply Ev.cR|apply Ev.cA|(first|apply Ev.aO|apply Ev.bw|apply Ev.bP|apply Ev.bt|apply Ev.br)<;>intro _|(apply Ev.kP;try dsimp only)))
  all_goals first|exact hj2 _ h|exact hj _ hx
 all_goals first|exact hj2 _ h|exact hj _ hx
theorem u9 {m:Nat->Nat} (hm:cq m) {s:ByS} (hs:s.length<=65536):Ev (λi=>kt (m i) s) (λr=>r.1=0\/2<=r.1/\r.1<=s.length) gP:=by
 unfold kt;refine Ev.iter hm (λx=>1<=x.2/\x.2<=65540) (λx=>(65540 - x.2).toNat) (by simp) ?_;intro x hx next hn;refine Ev.aO (λh=>?_) (λ_=>Ev.ok (by simp));refine Ev.jn (λv=>x.2<=v.2/\v.2<=s.length+1) (λv hv=>?_) (λj hj=>?_)
 ·refine Ev.gA (hn _ (by dsimp only;omega) (by dsimp only;omega))
 (repeat' (with_reducible first|refine Ev.gA ?_|refine Ev.eA (λ_ _=>?_)|apply Ev.cR|apply Ev.cA|(first|apply Ev.aO|apply Ev.bw|apply Ev.bP|apply Ev.bt|apply Ev.br)<;>intro _|(apply Ev.kP;try dsimp only)))
 all_goals first|exact Ev.ok (.inr ⟨by (first|omega|(simp[cr,k2,mh,maxLen]<;>omega)),by (first|omega|(simp[cr,k2,mh,maxLen]<;>omega))⟩)|exact hj _ (by dsimp only;omega)
theorem vP {m:Nat->Nat} (hm:cq m) {s:ByS} (hs:s.length<=70000):Ev (λi=>jh (m i) s 16 8) (λr=>r.2=0\/r.2=1\/r.2=2) gP:=by
 unfold jh;refine Ev.br (λ_=>Ev.ok (.inr (.inr rfl))) (λ_=>?_);refine Ev.jn (λv=>v=(s,16)) (λv hv=>?_) (λj9 hj9=>?_)
 ·subst hv;dsimp only;refine Ev.jn (λv=>v=8) (λv hv=>?_) (λj12 hj12=>?_)
  ·subst hv;refine Ev.jn (λ_=>True) (λv _=>?_) (λj hj=>?_)
   ·refine Ev.gd (wrap_u64 _).1 ?_;have hl:(ofBytes s).length<=70000:=by simpa[ofBytes] using hs
    refine Ev.iter hm (λ(x:Bool×Int×Int)=>x.1=false/\0<=x.2.2/\x.2.2<=(ofBytes s).length) (λx=>((ofBytes s).length - x.2.2).toNat) (by simp) ?_;intro x hx next hn;refine Ev.aO (λhlt=>?_) (λ_=>Ev.br (λh=>by rw[hx.1] at h;cases h) (λ_=>Ev.ok (.inl rfl)));refine Ev.eA λc _=>?_;refine Ev.jn (λ_=>True) (λv _=>?_) (λj38 hj38=>?_)
    ·refine Ev.br (λ_=>Ev.ok (.inr (.inr rfl))) (λ_=>Ev.br (λ_=>Ev.ok (.inr (.inl rfl))) (λ_=>Ev.br (λ_=>Ev.ok (.inr (.inl rfl))) (λ_=>Ev.br (λ_=>Ev.ok (.inr (.inl rfl))) (λ_=>?_))));exact Ev.gA (hn _ ⟨hx.1,by dsimp only;omega,by dsimp only;omega⟩ (by dsimp only;omega))
    refine Ev.jn (λv=>v=false) (λv hv=>?_) (λj58 hj58=>?_)
    ·subst hv;refine Ev.cA ?_;refine Ev.jn (λ_=>True) (λv _=>?_) (λj64 hj64=>Ev.br (λ_=>hj64 _ trivial) (λ_=>hj64 _ trivial));refine Ev.br (λ_=>hj38 _ trivial) (λ_=>Ev.lV rfl (Ev.br (λ_=>Ev.lV rfl (Ev.br (λ_=>Ev.lV rfl (hj38 _ trivial)) (λ_=>Ev.ok (.inr (.inr rfl))))) (λ_=>Ev.ok (.inr (.inr rfl)))))
    exact Ev.br (λ_=>hj58 _ rfl) (λ_=>hj58 _ rfl)
   exact Ev.br (λh=>by simp at h) (λ_=>Ev.br (λ_=>hj _ trivial) (λh=>by simp at h))
  exact Ev.br (λh=>by simp at h) (λ_=>Ev.br (λh=>by simp at h) (λ_=>Ev.br (λh=>by simp at h) (λ_=>hj12 _ rfl)))
 refine Ev.jn (λv=>v=true) (λv hv=>?_) (λj99 hj99=>?_)
 ·subst hv;exact Ev.cR (hj9 _ rfl)
 exact Ev.br (λ_=>hj99 _ (by simp)) (λh=>by simp at h)
theorem Ac {m:Nat->Nat} (hm:cq m) {s:ByS} (hs:s.length<=70000):Ev (λi=>kE (m i) s 16 8) (λ_=>True) gP:=by
 unfold kE;refine Ev.aN (vP hm hs) λy hy=>Ev.bP (λh=>?_) (λ_=>Ev.ok trivial);refine Ev.lV (a:=true) ?_ (Ev.ok trivial);unfold nC;simp only[D.gd];rw[if_pos ⟨by omega,by omega⟩]
theorem uj {m:Nat->Nat} (hm:cq m) {s:ByS} (hs:s.length<=70000):Ev (λi=>l0 (m i) s) (λr=>0<=r.2/\r.2<=s.length) gP:=by
 unfold l0;refine Ev.aO (λ_=>Ev.ok (by simp)) (λh=>?_);refine Ev.eA (λb _=>?_);refine Ev.jn (λ_=>True) (λv _=>?_) (λj hj=>?_)
 ·(repeat' (with_reducible first|refine Ev.gA ?_|refine Ev.eA (λ_ _=>?_)|apply Ev.cR|apply Ev.cA|(first|apply Ev.aO|apply Ev.bw|apply Ev.bP|apply Ev.bt|apply Ev.br)<;>intro _|(apply Ev.kP;try dsimp only)))
  all_goals first|exact Ev.ok (by dsimp only;omega)|skip
  refine Ev.aN (Ac hm (by have:=lr (c:=s) (i:=2) (j:=4) (by omega) (by omega) (by omega);omega)) λy _=>?_
  (repeat' (with_reducible first|refine Ev.gA ?_|refine Ev.eA (λ_ _=>?_)|apply Ev.cR|apply Ev.cA|(first|apply Ev.aO|apply Ev.bw|apply Ev.bP|apply Ev.bt|apply Ev.br)<;>intro _|(apply Ev.kP;try dsimp only)))
  all_goals exact Ev.ok (by dsimp only;omega)
 (repeat' (with_reducible first|refine Ev.gA ?_|refine Ev.eA (λ_ _=>?_)|apply Ev.cR|apply Ev.cA|(first|apply Ev.aO|apply Ev.bw|apply Ev.bP|apply Ev.bt|apply Ev.br)<;>intro _|(apply Ev.kP;try dsimp only)))
 all_goals exact hj _ trivial
theorem qv {m:Nat->Nat} (hm:cq m) {s:ByS} :
  Ev (λi=>lg (m i) s) (λr=>r.1.length<=s.length/\∀ c:UInt8,s[1]?=some c->c.toNat≠34->r.2.Errno=0->1<=r.1.length) gP:=by
 unfold lg
 refine Ev.aO (λ_=>Ev.ok ⟨by simp,λ_ _ _ h=>by simp at h⟩) (λh=>?_)
 refine Ev.bw (λ_=>Ev.ok ⟨by simp,λ_ _ _ h=>by simp at h⟩) (λh=>?_)
 refine Ev.eA (λb _=>?_)
 refine Ev.bP (λ_=>Ev.ok ⟨by simp,λ_ _ _ h=>by simp at h⟩) (λh=>?_)
 refine Ev.iter hm (λ(x:List Int×Int)=>1<=x.2/\x.2<=s.length/\x.1.length<=x.2/\(x.2=1\/1<=x.1.length)) (λx=>(s.length - x.2).toNat) (by simp;omega) ?_
 intro x hx next hn
 refine Ev.aO (λ_=>Ev.ok ⟨by simp,λ_ _ _ h=>by simp at h⟩) (λh=>?_)
 refine Ev.eA (λb hb=>?_)
 refine Ev.bw (λh34=>?_) (λh34=>?_)
 ·refine Ev.gA (Ev.aO (λ_=>Ev.gA (Ev.ok ⟨by simp,λ_ _ _ h=>by simp at h⟩)) (λ_=>?_))
  refine Ev.ok ⟨by simp[gR];omega,λc hc hc2 _=>?_⟩
  rcases hx.2.2.2 with q|q
  ·rw[q] at hb
   simp only[Int.toNat_one] at hb
   rw[hb] at hc;cases hc
   omega
  ·simpa[gR] using q
 ·refine Ev.eA (λb2 _=>?_)
  refine Ev.bw (λ_=>?_) (λ_=>?_)
  ·refine Ev.gA ?_
   have hl:=kp (c:=s) (i:=x.2) (by omega) (by omega)
   refine Ev.aN (uj hm (by omega)) λy hy=>?_
   refine Ev.bw (λ_=>Ev.ok ⟨by simp,λ_ _ _ h=>by simp at h⟩) (λh0=>?_)
   (repeat' (with_reducible first|refine Ev.gA ?_|refine Ev.eA (λ_ _=>?_)|apply Ev.cR|apply Ev.cA|(first|apply Ev.aO|apply Ev.bw|apply Ev.bP|apply Ev.bt|apply Ev.br)<;>intro _|(apply Ev.kP;try dsimp only)))
   exact hn _ (by simp;omega) (by (first|omega|(simp[cr,k2,mh,maxLen]<;>omega)))
  ·refine Ev.jn (λ_=>True) (λv _=>?_) (λj hj=>?_)
   ·refine Ev.br (λ_=>Ev.ok ⟨by simp,λ_ _ _ h=>by simp at h⟩) (λ_=>?_)
    (repeat' (with_reducible first|refine Ev.gA ?_|refine Ev.eA (λ_ _=>?_)|apply Ev.cR|apply Ev.cA|(first|apply Ev.aO|apply Ev.bw|apply Ev.bP|apply Ev.bt|apply Ev.br)<;>intro _|(apply Ev.kP;try dsimp only)))
    exact hn _ (by simp;omega) (by (first|omega|(simp[cr,k2,mh,maxLen]<;>omega)))
   ·(repeat' (with_reducible first|refine Ev.gA ?_|refine Ev.eA (λ_ _=>?_)|apply Ev.cR|apply Ev.cA|(first|apply Ev.aO|apply Ev.bw|apply Ev.bP|apply Ev.bt|apply Ev.br)<;>intro _|(apply Ev.kP;try dsimp only)))
    all_goals exact hj _ trivial
theorem xV {m:Nat->Nat} (hm:cq m) {s:ByS} (hs:s.length<=65536):Ev (λi=>qR (m i) s) (λr=>r.2=true->r.1.length+2<=s.length) gP:=by
 unfold qR;refine Ev.iter hm (λ(x:Int×Int)=>0<=x.2/\x.2<=s.length/\x.1<=x.2/\ -x.2<=x.1) (λx=>(s.length - x.2).toNat) (by simp) ?_;intro x hx next hn
 (repeat' (with_reducible first|refine Ev.gA ?_|refine Ev.eA (λ_ _=>?_)|apply Ev.cR|apply Ev.cA|(first|apply Ev.aO|apply Ev.bw|apply Ev.bP|apply Ev.bt|apply Ev.br)<;>intro _|(apply Ev.kP;try dsimp only)))
 ·exact hn _ (by dsimp only;omega) (by dsimp only;omega)
 ·have:=lr (c:=s) (i:=1) (j:=x.2) (by omega) (by omega) (by omega);exact Ev.ok λ_=>by dsimp only;omega
 ·exact hn _ (by dsimp only;omega) (by dsimp only;omega)
 ·exact hn _ (by dsimp only;omega) (by dsimp only;omega)
 exact Ev.ok (by simp)
theorem vQ {m:Nat->Nat} (hm:cq m) {s:ByS} (hs:s.length<=65536) (h0:s[0]?=some 92):Ev (λi=>nY (m i) s) (λr=>r.2=0\/2<=r.2/\r.2<=s.length) gP:=by
 unfold nY;refine Ev.jn (λv=>2<=v) (λv hv=>?_) (λj hj=>?_)
 ·refine Ev.aO (λ_=>Ev.ok (.inl rfl)) (λh=>?_);refine Ev.gA ?_;have hl:=uV (c:=s) (j:=v) (by omega) (by omega);refine Ev.gA (Ev.gA ?_);refine Ev.aN (qv hm) λy hy=>?_;refine Ev.bP (λ_=>Ev.ok (.inl rfl)) (λhe=>?_);have h1:([34]++jU s v++[34])[1]?=some (92:UInt8):=by
   cases s with
   | nil=>simp at h0
   | cons a s=>
    simp at h0;subst h0
    have:v.toNat=(v.toNat - 1)+1:=by omega
    simp[jU];rw[this];simp
  have:=hy.2 _ h1 (by decide) he;refine Ev.eA λb _=>Ev.ok (.inr ⟨hv,by dsimp only;omega⟩)
 refine Ev.aN rp λy _=>?_
 (repeat' (with_reducible first|refine Ev.gA ?_|refine Ev.eA (λ_ _=>?_)|apply Ev.cR|apply Ev.cA|(first|apply Ev.aO|apply Ev.bw|apply Ev.bP|apply Ev.bt|apply Ev.br)<;>intro _|(apply Ev.kP;try dsimp only)))
 all_goals exact hj _ (by omega)
def BS (n:Nat) (x:aV):Prop:=0<=x.Pos/\x.Pos<=n/\(x.Code=true->x.Pos+x.Text.length<n)
theorem pr {t:List Int} {out:List aV} {f:Int} (ho:out.length<=70000) :
  Ev (λ_=>kR t out f) (λr=>r.1=[]/\r.2.2=f/\((t=[]/\r.2.1=out)\/(1<=t.length/\∃ x:aV,r.2.1=out++[x]/\x.Code=false/\x.Pos=f))) gP:=by
 unfold kR
 (repeat' (with_reducible first|refine Ev.gA ?_|refine Ev.eA (λ_ _=>?_)|apply Ev.cR|apply Ev.cA|(first|apply Ev.aO|apply Ev.bw|apply Ev.bP|apply Ev.bt|apply Ev.br)<;>intro _|(apply Ev.kP;try dsimp only)))
 ·exact Ev.ok ⟨rfl,rfl,.inr ⟨by omega,_,rfl,rfl,rfl⟩⟩
 ·exact Ev.ok ⟨rfl,rfl,.inl ⟨List.eq_nil_of_length_eq_zero (by omega),rfl⟩⟩
theorem rH {m:Nat->Nat} (hm:cq m) {s:ByS} (hs:s.length<=65536):Ev (λi=>l8 (m i) s) (λr=>r.1.length<=s.length/\∀ x,x∈r.1->BS s.length x) gP:=by
 unfold l8;refine Ev.iter hm (λ(x:List aV×List Int×Int×Int)=>0<=x.2.2.2/\x.2.2.2<=s.length/\0<=x.2.2.1/\x.2.2.1<=s.length/\(x.1.length:Int)+min 1 x.2.1.length<=x.2.2.2/\(x.2.1.length:Int)<=x.2.2.2/\∀ p,p∈x.1->BS s.length p)
  (λx=>(s.length - x.2.2.2).toNat) (by simp) ?_
 rintro ⟨out,t,f,i⟩ ⟨h1,h2,h3,h4,h5,h6,h7⟩ next hn;dsimp only at h1 h2 h3 h4 h5 h6 h7 hn ⊢;refine Ev.aO (λhi=>?_) (λhi=>?_)
 ·refine Ev.jn (λv=>0<=v/\v<=s.length) (λv hv=>?_) (λj hj=>?_)
  ·refine Ev.gA (Ev.aN rp λy hy=>?_);refine Ev.br (λhp=>?_) (λ_=>?_)
   ·refine Ev.gA (Ev.gA ?_);have hl:=kp (c:=s) (i:=i+1) (by omega) (by omega);refine Ev.aN (xV hm (by omega)) λc hc=>?_;refine Ev.bt (λ_=>Ev.ok ⟨by simp,λ_ h=>by cases h⟩) (λhct=>?_);have hc2:=hc hct;refine Ev.aN (pr (by omega)) λr hr=>?_;obtain ⟨r1,r2,r3⟩:=hr;have hr4:(r.2.1.length:Int)<=i/\∀ p,p∈r.2.1->BS s.length p:=by
     rcases r3 with ⟨a,b⟩|⟨a,x,b,c1,c2⟩
     ·rw[b];subst a;exact ⟨by simp at h5;omega,h7⟩
     rw[b];refine ⟨by simp;omega,λp hp=>?_⟩;rcases List.mem_append.1 hp with q|q
     ·exact h7 p q
     simp at q;subst q;exact ⟨by omega,by omega,λq=>by rw[c1] at q;cases q⟩
    (repeat' (with_reducible first|refine Ev.gA ?_|refine Ev.eA (λ_ _=>?_)|apply Ev.cR|apply Ev.cA|(first|apply Ev.aO|apply Ev.bw|apply Ev.bP|apply Ev.bt|apply Ev.br)<;>intro _|(apply Ev.kP;try dsimp only)))
    refine hn _ ⟨by dsimp only;omega,by dsimp only;omega,by dsimp only;omega,by dsimp only;omega,by rw[r1];simp;omega,by rw[r1];simp;omega,λp hp=>?_⟩ (by dsimp only;omega);rcases List.mem_append.1 hp with q|q
    ·exact hr4.2 p q
    simp at q;subst q;exact ⟨by dsimp only;omega,by dsimp only;omega,λ_=>by dsimp only;omega⟩
   refine Ev.eA (λb hb=>?_);refine Ev.bw (λh92=>?_) (λ_=>?_)
   ·refine Ev.gA ?_;have hl:=kp (c:=s) (i:=i) (by omega) (by omega);have h0:(dK s i)[0]?=some (92:UInt8):=by
     simp only[dK,List.getElem?_drop,Nat.add_zero,hb];congr 1;apply UInt8.toNat_inj.1;show b.toNat=92;omega
    refine Ev.aN (vQ hm (by omega) h0) λe he=>?_;refine Ev.bw (λ_=>Ev.ok ⟨by simp,λ_ h=>by cases h⟩) (λhne=>?_)
    (repeat' (with_reducible first|refine Ev.gA ?_|refine Ev.eA (λ_ _=>?_)|apply Ev.cR|apply Ev.cA|(first|apply Ev.aO|apply Ev.bw|apply Ev.bP|apply Ev.bt|apply Ev.br)<;>intro _|(apply Ev.kP;try dsimp only)))
    exact hn _ ⟨by dsimp only;omega,by dsimp only;omega,hv.1,hv.2,by simp;omega,by simp;omega,h7⟩ (by dsimp only;omega)
   refine Ev.jn (λ_=>True) (λw _=>?_) (λj2 hj2=>?_)
   ·refine Ev.br (λ_=>Ev.ok ⟨by simp,λ_ h=>by cases h⟩) (λ_=>?_)
    (repeat' (with_reducible first|refine Ev.gA ?_|refine Ev.eA (λ_ _=>?_)|apply Ev.cR|apply Ev.cA|(first|apply Ev.aO|apply Ev.bw|apply Ev.bP|apply Ev.bt|apply Ev.br)<;>intro _|(apply Ev.kP;try dsimp only)))
    exact hn _ ⟨by dsimp only;omega,by dsimp only;omega,hv.1,hv.2,by simp;omega,by simp;omega,h7⟩ (by dsimp only;omega)
   (repeat' (with_reducible first|refine Ev.gA ?_|refine Ev.eA (λ_ _=>?_)|apply Ev.cR|apply Ev.cA|(first|apply Ev.aO|apply Ev.bw|apply Ev.bP|apply Ev.bt|apply Ev.br)<;>intro _|(apply Ev.kP;try dsimp only)))
   all_goals exact hj2 _ trivial
  (repeat' (with_reducible first|refine Ev.gA ?_|refine Ev.eA (λ_ _=>?_)|apply Ev.cR|apply Ev.cA|(first|apply Ev.aO|apply Ev.bw|apply Ev.bP|apply Ev.bt|apply Ev.br)<;>intro _|(apply Ev.kP;try dsimp only)))
  all_goals exact hj _ (by omega)
 refine Ev.aN (pr (by omega)) λr hr=>?_;obtain ⟨r1,r2,r3⟩:=hr;refine Ev.ok ?_;rcases r3 with ⟨a,b⟩|⟨a,x,b,c1,c2⟩
 ·dsimp only;rw[b];exact ⟨by omega,h7⟩
 dsimp only;rw[b];refine ⟨by simp;omega,λp hp=>?_⟩;rcases List.mem_append.1 hp with q|q
 ·exact h7 p q
 simp at q;subst q;exact ⟨by omega,by omega,λq=>by rw[c1] at q;cases q⟩
structure I3 (a:Int) (t:aA):Prop where
 p0:0<=t.Pos
 pe:t.Pos<t.End
 e:t.End<=a
 k:t.Kind≠0
 ip:t.Kind=4->(t.Text.length:Int)+2<=t.End - t.Pos
 tl:t.Text.length<=65536
structure vA (a:Int) (l:List aA):Prop where
 len:(l.length:Int)<=a
 ok:∀ t,t∈l->I3 a t
 sorted:l.Pairwise λt u=>t.End<=u.Pos
theorem vA.snoc {a:Int} {l:List aA} (h:vA a l) {t:aA} (h1:t.Pos=a) (h2:a<t.End) (h0:0<=a) (hk:t.Kind≠0) (hi:t.Kind=4->(t.Text.length:Int)+2<=t.End - t.Pos) (hl:t.Text.length<=65536):vA t.End (l++[t]):=by
 refine ⟨by have:=h.len;simp;omega,λu hu=>?_,?_⟩
 ·rcases List.mem_append.1 hu with q|q
  ·obtain ⟨a1,a2,a3,a4,a5,a6⟩:=h.ok u q;exact ⟨a1,a2,by omega,a4,a5,a6⟩
  simp at q;subst q;exact ⟨by omega,by omega,by omega,hk,hi,hl⟩
 refine List.pairwise_append.2 ⟨h.sorted,by simp,λu hu v hv=>?_⟩;simp at hv;subst hv;have:=(h.ok u hu).e;omega
theorem vA.mono {a b:Int} {l:List aA} (h:vA a l) (hab:a<=b):vA b l:=
 ⟨by have:=h.len;omega,λt ht=>let q:=h.ok t ht;⟨q.p0,q.pe,by have:=q.e;omega,q.k,q.ip,q.tl⟩,h.sorted⟩
structure Br (s:ByS) (x:bf):Prop where
 text:x.text=s
 xB:0<=x.at_
 yC:x.at_<=s.length
 out:vA x.at_ x.out
theorem nk {k n:Int} {t:ByS} {x:bf} (h0:0<=x.at_) (h1:x.at_<=70000) (hn:0<=n) (hn2:n<=70000) (ho:x.out.length<=70000) (ht:t.length<=70000) :
  Ev (λ_=>cf k t n x) (λr=>r.text=x.text/\r.at_=x.at_+n/\r.out=x.out++[aA.mk k t x.at_ (x.at_+n)]) gP:=by
 unfold cf
 refine Ev.gA (Ev.gA (Ev.gA (Ev.bw (λ_=>Ev.ok ⟨rfl,rfl,rfl⟩) (λ_=>?_))))
 refine Ev.jn (λ_=>True) (λv _=>?_) (λj hj=>?_)
 ·refine Ev.br (λ_=>Ev.ok ⟨rfl,rfl,rfl⟩) (λ_=>?_)
  refine Ev.bw (λ_=>?_) (λ_=>Ev.ok ⟨rfl,rfl,rfl⟩)
  (repeat' (with_reducible first|refine Ev.gA ?_|refine Ev.eA (λ_ _=>?_)|apply Ev.cR|apply Ev.cA|(first|apply Ev.aO|apply Ev.bw|apply Ev.bP|apply Ev.bt|apply Ev.br)<;>intro _|(apply Ev.kP;try dsimp only)))
  exact Ev.aN (pq (by simp)) λy _=>Ev.ok ⟨rfl,rfl,rfl⟩
 ·(repeat' (with_reducible first|refine Ev.gA ?_|refine Ev.eA (λ_ _=>?_)|apply Ev.cR|apply Ev.cA|(first|apply Ev.aO|apply Ev.bw|apply Ev.bP|apply Ev.bt|apply Ev.br)<;>intro _|(apply Ev.kP;try dsimp only)))
  all_goals exact hj _ trivial
theorem Br.add {s:ByS} (hs:s.length<=65536) {x:bf} (h:Br s x) {k n:Int} {t:ByS} (hn:1<=n) (hn2:x.at_+n<=s.length) (ht:t.length<=65536) (hk:k≠0) (hi:k=4->(t.length:Int)+2<=n) :
  Ev (λ_=>cf k t n x) (λr=>Br s r/\x.at_<r.at_) gP:=by
 have hl:=h.out.len
 have h0:=h.xB
 have h1:=h.yC
 refine (nk (k:=k) (t:=t) h0 (by omega) (by omega) (by omega) (by omega) (by omega)).He λr hr=>?_
 refine ⟨⟨by rw[hr.1];exact h.text,by omega,by omega,?_⟩,by omega⟩
 rw[hr.2.1,hr.2.2]
 have:=h.out.snoc (t:=aA.mk k t x.at_ (x.at_+n)) rfl (by dsimp only;omega) h0 hk (λq=>by have:=hi q;dsimp only;omega) ht
 exact this
theorem sO {m:Nat->Nat} (hm:cq m) {s:ByS} (hs:s.length<=65536) {x:bf} (h:Br s x) :
  Ev (λi=>gL (m i) x) (λr=>Br s r.2/\(r.1=true->x.at_<r.2.at_)) gP:=by
 have hl:=h.out.len
 have h0:=h.xB
 have h1:=h.yC
 have ht:=h.text
 unfold gL
 simp only[ht]
 refine Ev.gA ?_
 have hq:=kp (c:=s) (i:=x.at_) (by omega) (by omega)
 refine Ev.aN (u9 hm (by omega)) λy hy=>?_
 refine Ev.bw (λ_=>Ev.ok ⟨h,by simp⟩) (λhne=>?_)
 refine Ev.gA (Ev.gA ?_)
 have hq2:=lr (c:=s) (i:=x.at_) (j:=x.at_+y.1) (by omega) (by omega) (by omega)
 refine Ev.br (λ_=>?_) (λ_=>?_)
 ·refine Ev.gA (Ev.gA ?_)
  have hq3:=lr (c:=sub s x.at_ (x.at_+y.1)) (i:=1) (j:=y.1 - 1) (by omega) (by omega) (by omega)
  refine Ev.aN (rH hm (by omega)) λz _=>?_
  refine Ev.bP (λ_=>Ev.ok ⟨h,by simp⟩) (λ_=>?_)
  refine Ev.gA (Ev.gA ?_)
  refine Ev.aN (h.add hs (by omega) (by omega) (by omega) (by decide) (λ_=>by omega)) λr hr=>Ev.ok ⟨hr.1,λ_=>hr.2⟩
 ·refine Ev.aN (qv hm) λz hz=>?_
  refine Ev.bP (λ_=>Ev.ok ⟨h,by simp⟩) (λ_=>?_)
  refine Ev.aN (h.add hs (by omega) (by omega) (by omega) (by decide) (λq=>by simp at q)) λr hr=>Ev.ok ⟨hr.1,λ_=>hr.2⟩
theorem CJ:∀ (s p:ByS) (i:Nat),mj s p=some i->i<=s.length
 | [],p,i,h=>by
  unfold mj at h;split at h
  ·cases h;simp
  cases h
 | b::l,p,i,h=>by
  unfold mj at h;split at h
  ·cases h;simp
  cases q:mj l p with
  | none=>rw[q] at h;cases h
  | some k=>rw[q] at h;cases h;have:=CJ l p k q;simp;omega
theorem Dj {s p:ByS} (h:(jU s p.length==p)=true):∃ r,s=p++r:=by
 have:=beq_iff_eq.1 h;simp only[jU,Int.toNat_natCast] at this;exact ⟨s.drop p.length,by conv=>lhs;rw[<- List.take_append_drop p.length s,this]⟩
theorem xW {s p:ByS}:Ev (λ_=>strings_HasPrefix s p) (λr=>r=true->∃ q,s=p++q) gP:=by
 unfold strings_HasPrefix stringslite_HasPrefix;refine Ev.aN (Q:=λr=>r=true->∃ q,s=p++q) ?_ λ_ h=>Ev.ok h
 (repeat' (with_reducible first|refine Ev.gA ?_|refine Ev.eA (λ_ _=>?_)|apply Ev.cR|apply Ev.cA|(first|apply Ev.aO|apply Ev.bw|apply Ev.bP|apply Ev.bt|apply Ev.br)<;>intro _|(apply Ev.kP;try dsimp only)))
 ·exact Ev.ok (λh=>Dj h)
 exact Ev.ok (by simp)
theorem rY {m:Nat->Nat} (hm:cq m) {s:ByS} (hs:s.length<=65536) {x:bf} (h:Br s x) (hlt:x.at_<s.length) :
  Ev (λi=>fH (m i) x) (λr=>Br s r.2/\(r.1=true->x.at_<r.2.at_)) gP:=by
 have hl:=h.out.len
 have h0:=h.xB
 have h1:=h.yC
 have ht:=h.text
 unfold fH
 simp only[ht]
 refine Ev.gA ?_
 have hq:=kp (c:=s) (i:=x.at_) (by omega) (by omega)
 refine Ev.aN xW λy hy=>?_
 refine Ev.br (λhp=>?_) (λ_=>?_)
 ·obtain ⟨r,hr⟩:=hy hp
  rw[hr] at hq ⊢
  refine Ev.fy (Q:=λc=>2<=c.1.length/\c.1.length<=([47,47]++r:ByS).length) ?_ λc hc=>?_
  ·unfold strings_Cut
   refine Ev.gA (Ev.ok ?_)
   split
   ·rename_i i hi
    have:=CJ _ _ _ hi
    refine ⟨?_,by simp;omega⟩
    have h2:2<=i:=by
     cases q:mj r [10] with
     | none=>simp[mj,q] at hi
     | some k=>simp[mj,q] at hi;omega
    simp at this ⊢;omega
   ·simp
  ·refine Ev.gA ?_
   have:=kp (c:=c.1) (i:=2) (by omega) (by omega)
   refine Ev.aN (h.add hs (by omega) (by omega) (by omega) (by decide) (λq=>by simp at q)) λr hr=>Ev.ok ⟨hr.1,λ_=>hr.2⟩
 ·refine Ev.aN (xU hm (by omega)) λy hy=>?_
  refine Ev.aO (λhp=>?_) (λ_=>?_)
  ·refine Ev.gA ?_
   have:=uf (c:=dK s x.at_) (j:=y)
   refine Ev.aN (h.add hs (by omega) (by omega) (by omega) (by decide) (λq=>by simp at q)) λr hr=>Ev.ok ⟨hr.1,λ_=>hr.2⟩
  ·refine Ev.eA (λb hb=>?_)
   refine Ev.aN kS λd hd=>?_
   refine Ev.br (λhdt=>?_) (λ_=>?_)
   ·rw[hd] at hdt
    have hdd:=of_decide_eq_true hdt
    refine Ev.aN (vO hm (by omega)) λy hy=>?_
    have hy1:=hy.2.2 b hb hdd.1 hdd.2
    refine Ev.gA ?_
    have:=uf (c:=dK s x.at_) (j:=y)
    refine Ev.aN (sN hm) λz _=>?_
    refine Ev.bP (λ_=>Ev.ok ⟨h,by simp⟩) (λ_=>?_)
    refine Ev.gA ?_
    refine Ev.aN (h.add hs (by omega) (by omega) (by omega) (by decide) (λq=>by simp at q)) λr hr=>Ev.ok ⟨hr.1,λ_=>hr.2⟩
   ·refine Ev.bw (λ_=>?_) (λ_=>?_)
    ·exact Ev.aN (sO hm hs h) λr hr=>Ev.ok hr
    ·refine Ev.aN (ui hm) λy hy=>?_
     refine Ev.bw (λ_=>Ev.ok ⟨h,by simp⟩) (λhne=>?_)
     have:1<=y.length:=by
      cases y with
      | nil=>exact absurd rfl hne
      | cons=>simp
     refine Ev.aN (h.add hs (by omega) (by omega) (by omega) (by decide) (λq=>by simp at q)) λr hr=>Ev.ok ⟨hr.1,λ_=>hr.2⟩
structure Bs (s:ByS) (X:List aA):Prop where
 JQ:s.length<=65536
 is:∃ l,X=l++[aA.mk 0 [] s.length s.length]/\vA s.length l
theorem pP {m:Nat->Nat} (hm:cq m) {s:ByS}:Ev (λi=>gN (m i) s) (λr=>0<=r.2.At/\r.2.At<=s.length/\(r.2.Errno=0->r.2.At=0/\Bs s r.1)) gP:=by
 unfold gN;refine Ev.aO (λ_=>Ev.ok ⟨by simp,by simp,by simp⟩) (λh=>?_);refine Ev.iter hm (λ(x:bf)=>Br s x) (λx=>(s.length - x.at_).toNat) ⟨rfl,by simp,by simp,by simp,by simp,by simp⟩ ?_;intro x hx next hn;have hl:=hx.out.len;have h0:=hx.xB;have h1:=hx.yC;refine Ev.aO (λhlt=>?_) (λhge=>?_)
 ·refine Ev.eA (λb hb=>?_);refine Ev.jn (λ_=>True) (λv _=>?_) (λj hj=>?_)
  ·refine Ev.gA (hn _ ⟨hx.text,by dsimp only;omega,by dsimp only;omega,hx.out.mono (by dsimp only;omega)⟩ (by dsimp only;omega))
  refine Ev.bw (λ_=>?_) (λ_=>?_)
  ·refine Ev.br (λ_=>?_) (λ_=>hj _ trivial);refine Ev.aN (hx.add (by omega) (by omega) (by omega) (by simp) (by decide) (λq=>by simp at q)) λr hr=>?_;exact hn _ ⟨hr.1.text,hr.1.xB,hr.1.yC,hr.1.out⟩ (by have:=hr.1.yC;dsimp only;omega)
  (repeat' (with_reducible first|refine Ev.gA ?_|refine Ev.eA (λ_ _=>?_)|apply Ev.cR|apply Ev.cA|(first|apply Ev.aO|apply Ev.bw|apply Ev.bP|apply Ev.bt|apply Ev.br)<;>intro _|(apply Ev.kP;try dsimp only)))
  all_goals first|exact hj _ trivial|skip
  refine Ev.aN (rY hm (by omega) hx hlt) λr hr=>?_;refine Ev.bt (λ_=>Ev.ok ⟨hr.1.xB,hr.1.yC,by simp⟩) (λhb=>hn _ hr.1 (by have:=hr.1.yC;have:=hr.2 hb;omega))
 have:x.at_=s.length:=by omega
 refine Ev.aN (nk (by omega) (by omega) (by omega) (by omega) (by omega) (by simp)) λr hr=>?_;refine Ev.ok ⟨by simp,by simp,λ_=>⟨rfl,by omega,x.out,?_,this▸hx.out⟩⟩;rw[hr.2.2,this];simp
theorem wrap_i64 {x:Int} (h0:-9223372036854775808<=x) (h1:x<=9223372036854775807):IntKind.wrap .i64 x=x:=by
 have:IntKind.wrap .i64 x=if x % 18446744073709551616>=9223372036854775808 then x % 18446744073709551616 - 18446744073709551616 else x % 18446744073709551616:=by
  simp[IntKind.wrap,IntKind.bits,IntKind.signed]
 rw[this];split<;>omega
theorem Gb {v:Int} (h0:0<=v) (h1:v<256):0<=IntKind.wrap .i64 (Int.tdiv v 64)/\IntKind.wrap .i64 (Int.tdiv v 64)<4:=by
 have:Int.tdiv v 64=v / 64:=Int.tdiv_eq_ediv_of_nonneg h0;rw[this,wrap_i64 (by omega) (by omega)];omega
theorem gi {m:Nat->Nat} (hm:cq m) {a b:Int}:Ev (λi=>gI (m i) a b) (λ_=>True) gP:=by
 unfold gI;refine Ev.iter hm (λ(x:fC×Int)=>0<=x.2/\x.2<=256) (λx=>(256 - x.2).toNat) (by simp) ?_;intro x hx next hn;refine Ev.aO (λh=>?_) (λ_=>Ev.ok trivial);have hw:=Gb hx.1 h;have ht:0<=Int.tmod x.2 64:=Int.tmod_nonneg _ hx.1;refine Ev.jn (λ_=>True) (λv _=>?_) (λj hj=>?_)
 ·refine Ev.br (λ_=>?_) (λ_=>?_)
  ·refine Ev.gA (Ev.gd hw (Ev.gA (Ev.gd ht (Ev.gd hw (Ev.gA ?_)))));exact hn _ (by dsimp only;omega) (by dsimp only;omega)
  refine Ev.gA ?_;exact hn _ (by dsimp only;omega) (by dsimp only;omega)
 (repeat' (with_reducible first|refine Ev.gA ?_|refine Ev.eA (λ_ _=>?_)|apply Ev.cR|apply Ev.cA|(first|apply Ev.aO|apply Ev.bw|apply Ev.bP|apply Ev.bt|apply Ev.br)<;>intro _|(apply Ev.kP;try dsimp only)))
 all_goals exact hj _ trivial
theorem ju {m:Nat->Nat} (hm:cq m) {a b:fC}:Ev (λi=>jr (m i) a b) (λ_=>True) gP:=by
 unfold jr;refine Ev.iter hm (λ(x:fC×Int)=>0<=x.2/\x.2<=4) (λx=>(4 - x.2).toNat) (by simp) ?_;intro x hx next hn
 (repeat' (with_reducible first|refine Ev.gA ?_|refine Ev.eA (λ_ _=>?_)|apply Ev.cR|apply Ev.cA|(first|apply Ev.aO|apply Ev.bw|apply Ev.bP|apply Ev.bt|apply Ev.br)<;>intro _|(apply Ev.kP;try dsimp only)))
 ·exact hn _ (by dsimp only;omega) (by dsimp only;omega)
 exact Ev.ok trivial
theorem xf {m:Nat->Nat} (hm:cq m) {a:fC}:Ev (λi=>pg (m i) a) (λ_=>True) gP:=by
 unfold pg;refine Ev.iter hm (λ(x:fC×Int)=>0<=x.2/\x.2<=4) (λx=>(4 - x.2).toNat) (by simp) ?_;intro x hx next hn
 (repeat' (with_reducible first|refine Ev.gA ?_|refine Ev.eA (λ_ _=>?_)|apply Ev.cR|apply Ev.cA|(first|apply Ev.aO|apply Ev.bw|apply Ev.bP|apply Ev.bt|apply Ev.br)<;>intro _|(apply Ev.kP;try dsimp only)))
 ·exact hn _ (by dsimp only;omega) (by dsimp only;omega)
 exact Ev.ok trivial
inductive xX:aQ->Prop where
 | mk {k a b c d:Int} {l:List aQ} (h:l.length<=70000) (hs:∀ x,x∈l->xX x):xX (aQ.mk k a b c d l)
theorem xX.leaf {k a b c d:Int}:xX (aQ.mk k a b c d []):=.mk (by simp) (by simp)
theorem xg {m:Nat->Nat} (hm:cq m) {c:Int}:Ev (λi=>pd (m i) c) (λ_=>True) gP:=by
 unfold pd;refine Ev.aN (gi hm) λ_ _=>?_
 (repeat' (with_reducible first|refine Ev.gA ?_|refine Ev.eA (λ_ _=>?_)|apply Ev.cR|apply Ev.cA|(first|apply Ev.aO|apply Ev.bw|apply Ev.bP|apply Ev.bt|apply Ev.br)<;>intro _|(apply Ev.kP;try dsimp only)))
 ·exact Ev.ok trivial
 ·refine Ev.aN (gi hm) λ_ _=>Ev.aN (gi hm) λ_ _=>Ev.aN (ju hm) λ_ _=>Ev.aN (ju hm) λ_ _=>Ev.aN (gi hm) λ_ _=>Ev.aN (ju hm) λ_ _=>Ev.ok trivial
 ·refine Ev.aN (gi hm) λ_ _=>Ev.aN (gi hm) λ_ _=>Ev.aN (ju hm) λ_ _=>Ev.aN (gi hm) λ_ _=>Ev.aN (ju hm) λ_ _=>Ev.ok trivial
 exact Ev.ok trivial
theorem rq {m:Nat->Nat} (hm:cq m) {c:Int}:Ev (λi=>ov (m i) c) xX gP:=by
 unfold ov;exact Ev.aN (gi hm) λ_ _=>Ev.ok .leaf
def RP:rA->Prop:=λp=>∃ v:Int,p=⟨202,[.sc (.int .i64 v)]⟩
theorem tz {α:Type} {a:Int} {p:R} {K:Nat->R->D α} {Q:α->Prop}:Ev (λi=>D.bind (dj a p) (K i)) Q RP:=by
 unfold dj;exact Ev.mf ⟨a,rfl⟩
structure RI (s:ByS) (p:R):Prop where
 text:p.text=s
 xB:0<=p.at_
 yC:p.at_<=s.length
theorem cz {s:ByS} {p:R} (h:RI s p):Ev (λ_=>cy p) (λr=>r.2=p/\(r.1≠0->p.at_<s.length)) gP:=by
 have h0:=h.xB;have ht:=h.text;unfold cy;rw[ht]
 (repeat' (with_reducible first|refine Ev.gA ?_|refine Ev.eA (λ_ _=>?_)|apply Ev.cR|apply Ev.cA|(first|apply Ev.aO|apply Ev.bw|apply Ev.bP|apply Ev.bt|apply Ev.br)<;>intro _|(apply Ev.kP;try dsimp only)))
 ·exact Ev.ok ⟨rfl,λ_=>by omega⟩
 exact Ev.ok ⟨rfl,λh=>absurd rfl h⟩
theorem xh {c:Int}:Ev (λ_=>pf c) (λr=>r.2=true->c≠0) gP:=by
 unfold pf;refine Ev.jn (λv=>v=true->c≠0) (λv hv=>?_) (λj hj=>?_)
 ·refine Ev.br (λh=>Ev.ok λ_=>hv h) (λ_=>?_);refine Ev.jn (λv=>v=true->c≠0) (λv hv=>?_) (λj hj=>?_)
  ·refine Ev.br (λh=>Ev.ok λ_=>hv h) (λ_=>?_)
   (repeat' (with_reducible first|refine Ev.gA ?_|refine Ev.eA (λ_ _=>?_)|apply Ev.cR|apply Ev.cA|(first|apply Ev.aO|apply Ev.bw|apply Ev.bP|apply Ev.bt|apply Ev.br)<;>intro _|(apply Ev.kP;try dsimp only)))
   ·exact Ev.ok λ_=>by omega
   all_goals exact Ev.ok (by simp)
  (repeat' (with_reducible first|refine Ev.gA ?_|refine Ev.eA (λ_ _=>?_)|apply Ev.cR|apply Ev.cA|(first|apply Ev.aO|apply Ev.bw|apply Ev.bP|apply Ev.bt|apply Ev.br)<;>intro _|(apply Ev.kP;try dsimp only)))
  ·exact hj _ λ_=>by omega
  exact hj _ (by simp)
 (repeat' (with_reducible first|refine Ev.gA ?_|refine Ev.eA (λ_ _=>?_)|apply Ev.cR|apply Ev.cA|(first|apply Ev.aO|apply Ev.bw|apply Ev.bP|apply Ev.bt|apply Ev.br)<;>intro _|(apply Ev.kP;try dsimp only)))
 ·exact hj _ λ_=>by omega
 exact hj _ (by simp)
theorem oa {m:Nat->Nat} (hm:cq m) {s:ByS} (hs:s.length<=70000) {p:R} (h:RI s p) (hlt:p.at_<s.length) {c:Int} :
  Ev (λi=>hZ (m i) c p) (λr=>RI s r.2/\p.at_<r.2.at_) RP:=by
 have h0:=h.xB
 unfold hZ
 refine Ev.iter hm (λ(x:R×Int×Int)=>RI s x.1/\x.1.at_<s.length/\p.at_<=x.1.at_/\0<=x.2.2/\x.2.2<=2) (λx=>(2 - x.2.2).toNat) ⟨h,hlt,by simp,by simp,by simp⟩ ?_
 rintro x ⟨h1,h2,h3,h4,h5⟩ next hn
 have h6:=h1.xB
 refine Ev.aO (λhi=>?_) (λhi=>?_)
 ·refine Ev.gA (Ev.gA ?_)
  have hR:RI s (R.mk x.1.text (x.1.at_+1)):=⟨h1.text,by dsimp only;omega,by dsimp only;omega⟩
  refine Ev.fy (cz hR) λy hy=>?_
  refine Ev.fy xh λd hd=>?_
  refine Ev.gA ?_
  refine Ev.jn (λv=>v=false->d.2=true) (λv hv=>?_) (λj hj=>?_)
  ·refine Ev.br (λ_=>tz) (λhf=>?_)
   have:=hy.2 (hd (hv hf))
   rw[hy.1]
   refine Ev.gA (hn _ ⟨hR,this,?_,?_,?_⟩ ?_)
   all_goals (dsimp only at *;omega)
  ·refine Ev.bt (λ_=>hj _ (by simp)) (λhd2=>?_)
   (repeat' (with_reducible first|refine Ev.gA ?_|refine Ev.eA (λ_ _=>?_)|apply Ev.cR|apply Ev.cA|(first|apply Ev.aO|apply Ev.bw|apply Ev.bP|apply Ev.bt|apply Ev.br)<;>intro _|(apply Ev.kP;try dsimp only)))
   all_goals exact hj _ (λ_=>hd2)
 ·refine Ev.gA (Ev.ok ⟨⟨h1.text,?_,?_⟩,?_⟩)
  all_goals (dsimp only;omega)
theorem jK {m:Nat->Nat} (hm:cq m) {s:ByS} (hs:s.length<=70000) {p:R} (h:RI s p) (hlt:p.at_<s.length) {c:Int} :
  Ev (λi=>gw (m i) c p) (λr=>RI s r.2/\p.at_<r.2.at_) RP:=by
 have h0:=h.xB
 unfold gw
 rw[h.text]
 refine Ev.gA ?_
 have hR:RI s (R.mk s (p.at_+1)):=⟨rfl,by dsimp only;omega,by dsimp only;omega⟩
 refine Ev.fy (cz hR) λy hy=>?_
 rw[hy.1];dsimp only
 refine Ev.jn (λv=>v.1=(R.mk s (p.at_+1))/\p.at_+1<s.length) (λv hv=>?_) (λj hj=>?_)
 ·refine Ev.jn (λv=>v=(R.mk s (p.at_+1))) (λv2 hv2=>?_) (λj hj=>?_)
  ·subst hv2
   refine Ev.gA (Ev.ok ⟨⟨rfl,?_,?_⟩,?_⟩)
   all_goals (dsimp only;omega)
  ·exact Ev.aO (λ_=>tz) (λ_=>hj _ hv.1)
 ·refine Ev.aO (λ_=>tz) (λhlt2=>?_)
  have hlt3:p.at_+1<s.length:=by omega
  (repeat' (with_reducible first|refine Ev.gA ?_|refine Ev.eA (λ_ _=>?_)|apply Ev.cR|apply Ev.cA|(first|apply Ev.aO|apply Ev.bw|apply Ev.bP|apply Ev.bt|apply Ev.br)<;>intro _|(apply Ev.kP;try dsimp only)))
  ·refine (Ev.aN (oa hm hs hR (by dsimp only;omega)) λz hz=>Ev.ok ⟨hz.1,?_⟩)
   have:=hz.2;dsimp only at *;omega
  ·exact hj _ ⟨rfl,hlt3⟩
  ·exact hj _ ⟨rfl,hlt3⟩
  ·exact hj _ ⟨rfl,hlt3⟩
  ·refine Ev.fy (Q:=λ_=>True) (Ev.ok trivial) λz _=>?_
   exact Ev.aO (λ_=>tz) (λ_=>hj _ ⟨rfl,hlt3⟩)
theorem np {m:Nat->Nat} (hm:cq m) {s:ByS} (hs:s.length<=70000) {p:R} (h:RI s p) {c:Int} :
  Ev (λi=>je (m i) c p) (λr=>RI s r.2/\p.at_<r.2.at_) RP:=by
 have h0:=h.xB
 have h1:=h.yC
 unfold je
 refine Ev.fy (cz h) λy hy=>?_
 rw[hy.1]
 refine Ev.jn (λv=>v=p/\p.at_<s.length) (λv hv=>?_) (λj hj=>?_)
 ·rw[hv.1]
  refine Ev.gA (Ev.ok ⟨⟨h.text,?_,?_⟩,?_⟩)
  all_goals (dsimp only;omega)
 ·rw[h.text]
  refine Ev.aO (λ_=>tz) (λhlt2=>?_)
  have hlt:p.at_<s.length:=by omega
  refine Ev.bw (λ_=>?_) (λ_=>?_)
  ·exact Ev.aN (jK hm hs h hlt) λz hz=>Ev.ok hz
  ·refine Ev.jn (λ_=>True) (λv _=>?_) (λj2 hj2=>?_)
   ·exact Ev.br (λ_=>tz) (λ_=>hj _ ⟨rfl,hlt⟩)
   ·(repeat' (with_reducible first|refine Ev.gA ?_|refine Ev.eA (λ_ _=>?_)|apply Ev.cR|apply Ev.cA|(first|apply Ev.aO|apply Ev.bw|apply Ev.bP|apply Ev.bt|apply Ev.br)<;>intro _|(apply Ev.kP;try dsimp only)))
    ·exact hj2 _ trivial
    ·exact hj2 _ trivial
    ·exact hj2 _ trivial
    ·exact Ev.fy (Q:=λ_=>True) (Ev.ok trivial) λz _=>hj2 _ trivial
theorem tg {m:Nat->Nat} (hm:cq m) {s:ByS} (hs:s.length<=70000) {p:R} (h:RI s p) (hlt:p.at_<s.length) :
  Ev (λi=>kV (m i) p) (λr=>RI s r.2/\p.at_<r.2.at_/\xX r.1) RP:=by
 have h0:=h.xB
 unfold kV
 refine Ev.gA ?_
 have hR:RI s (R.mk p.text (p.at_+1)):=⟨h.text,by dsimp only;omega,by dsimp only;omega⟩
 refine Ev.fy (cz hR) λy hy=>?_
 rw[hy.1];dsimp only
 have hy2:=hy.2;dsimp only at hy2
 refine Ev.jn (λv=>RI s v/\p.at_<v.at_) (λv hv=>?_) (λj hj=>?_)
 ·refine Ev.jn (λw=>RI s w.1/\p.at_<w.1.at_/\(w.2=true->w.1.at_<s.length)) (λw hw=>?_) (λj hj=>?_)
  ·have hw0:=hw.1.xB
   have hw1:=hw.1.yC
   refine Ev.br (λhb=>?_) (λ_=>?_)
   ·have:=hw.2.2 hb
    refine Ev.gA (Ev.ok ⟨⟨hw.1.text,?_,?_⟩,?_,.leaf⟩)
    all_goals (dsimp only;omega)
   ·refine Ev.iter hm (λ(x:R×fC×Bool)=>RI s x.1/\p.at_<x.1.at_) (λx=>(s.length - x.1.at_).toNat) ⟨hw.1,hw.2.1⟩ ?_
    rintro x ⟨hx1,hx2⟩ next hn
    have hx0:=hx1.xB
    have hx3:=hx1.yC
    refine Ev.jn (λv=>v=x.1) (λv hv=>?_) (λj hj=>?_)
    ·subst hv
     refine Ev.aN (np hm hs hx1) λz hz=>?_
     have hz0:=hz.1.xB
     have hz1:=hz.1.yC
     have hz2:=hz.2
     refine Ev.fy (cz hz.1) λz2 hz2=>?_
     rw[hz2.1]
     refine Ev.bw (λhq=>?_) (λ_=>?_)
     ·have:=hz2.2 (by omega)
      have hR2:RI s (R.mk z.2.text (z.2.at_+1)):=⟨hz.1.text,by dsimp only;omega,by dsimp only;omega⟩
      refine Ev.gA (Ev.aN (np hm hs hR2) λz3 hz3=>?_)
      have hz4:=hz3.1.yC
      have hz5:=hz3.2;dsimp only at hz5
      refine Ev.fy (gi hm) λ_ _=>Ev.fy (ju hm) λ_ _=>hn _ ⟨hz3.1,?_⟩ ?_
      all_goals (dsimp only;omega)
     ·refine Ev.fy (gi hm) λ_ _=>Ev.fy (ju hm) λ_ _=>hn _ ⟨hz.1,?_⟩ ?_
      all_goals (dsimp only;omega)
    ·refine Ev.br (λ_=>hj _ rfl) (λ_=>?_)
     refine Ev.fy (cz hx1) λz2 hz2=>?_
     rw[hz2.1]
     refine Ev.bP (λ_=>hj _ rfl) (λhq=>?_)
     have:=hz2.2 (by omega)
     refine Ev.gA ?_
     (repeat' (with_reducible first|refine Ev.gA ?_|refine Ev.eA (λ_ _=>?_)|apply Ev.cR|apply Ev.cA|(first|apply Ev.aO|apply Ev.bw|apply Ev.bP|apply Ev.bt|apply Ev.br)<;>intro _|(apply Ev.kP;try dsimp only)))
     ·refine Ev.fy (xf hm) λ_ _=>Ev.ok ⟨⟨hx1.text,?_,?_⟩,?_,.leaf⟩
      all_goals (dsimp only;omega)
     ·refine Ev.ok ⟨⟨hx1.text,?_,?_⟩,?_,.leaf⟩
      all_goals (dsimp only;omega)
  ·refine Ev.bt (λ_=>?_) (λ_=>hj _ ⟨hv.1,hv.2,by simp⟩)
   refine Ev.fy (cz hv.1) λz2 hz2=>?_
   rw[hz2.1]
   refine hj _ ⟨hv.1,hv.2,λhq=>hz2.2 ?_⟩
   have:=beq_iff_eq.1 hq
   omega
 ·refine Ev.bw (λhq=>?_) (λ_=>hj _ ⟨hR,by dsimp only;omega⟩)
  have:=hy2 (by omega)
  refine Ev.gA (hj _ ⟨⟨h.text,?_,?_⟩,?_⟩)
  all_goals (dsimp only;omega)
theorem mM {k:Int} {l:List aQ} (h:l.length<=70000) (hs:∀ x,x∈l->xX x):Ev (λ_=>lC k l) xX gP:=by
 unfold lC;refine Ev.bw (λ_=>?_) (λ_=>Ev.ok (.mk h hs));exact Ev.eA λx hx=>Ev.ok (hs x (List.mem_of_getElem? hx))
structure RG (s:ByS) (k:Nat):Prop where
 alt:∀ {m:Nat->Nat} {p:R},cq m->RI s p->8*(s.length - p.at_).toNat+6<k->Ev (λi=>cu (m i) p) (λr=>RI s r.2/\p.at_<r.2.at_/\xX r.1) RP
 I4:∀ {m:Nat->Nat} {p:R},cq m->RI s p->8*(s.length - p.at_).toNat+5<k->Ev (λi=>cH (m i) p) (λr=>RI s r.2/\p.at_<r.2.at_/\xX r.1) RP
 Hg:∀ {m:Nat->Nat} {p:R} {l:List aQ},cq m->RI s p->8*(s.length - p.at_).toNat+4<k->l.length<=70000->(∀ x,x∈l->xX x)->
  Ev (λi=>cm (m i) l p) (λr=>RI s r.2/\p.at_<r.2.at_/\r.1.length=l.length+1/\∀ x,x∈r.1->xX x) RP
 piece:∀ {m:Nat->Nat} {p:R},cq m->RI s p->8*(s.length - p.at_).toNat+3<k->Ev (λi=>fE (m i) p) (λr=>RI s r.2/\p.at_<r.2.at_/\xX r.1) RP
 atom:∀ {m:Nat->Nat} {p:R},cq m->RI s p->8*(s.length - p.at_).toNat+2<k->Ev (λi=>fV (m i) p) (λr=>RI s r.2/\p.at_<r.2.at_/\xX r.1) RP
 group:∀ {m:Nat->Nat} {p:R},cq m->RI s p->p.at_<s.length->8*(s.length - p.at_).toNat+1<k->Ev (λi=>fD (m i) p) (λr=>RI s r.2/\p.at_<r.2.at_/\xX r.1) RP
theorem Ib {s:ByS} (hs:s.length<=60000):∀ k,RG s k:=by
 intro k
 induction k with
 | zero=>exact ⟨λ_ _ h=>absurd h (Nat.not_lt_zero _),λ_ _ h=>absurd h (Nat.not_lt_zero _),λ_ _ h=>absurd h (Nat.not_lt_zero _),λ_ _ h=>absurd h (Nat.not_lt_zero _),λ_ _ h=>absurd h (Nat.not_lt_zero _),λ_ _ _ h=>absurd h (Nat.not_lt_zero _)⟩
 | succ k ih=>
  refine ⟨?_,?_,?_,?_,?_,?_⟩
  ·intro m p hm h hk;have h0:=h.xB;refine Ev.grow (F:=λn=>cu n p) hm λm hm=>?_;show Ev (λi=>gz (m i) (aW (m i)) p) _ _;unfold gz;refine Ev.aN (ih.I4 hm h (by omega)) λy hy=>?_;refine Ev.iter hm (λ(x:R×List aQ)=>RI s x.1/\p.at_<x.1.at_/\x.2.length<=x.1.at_/\∀ z,z∈x.2->xX z) (λx=>(s.length - x.1.at_).toNat) ⟨hy.1,hy.2.1,by simp;omega,by simpa using hy.2.2⟩ ?_;rintro x ⟨hx1,hx2,hx3,hx4⟩ next hn;have hx5:=hx1.yC;refine Ev.fy (cz hx1) λz hz=>?_;rw[hz.1];refine Ev.bw (λhq=>?_) (λ_=>?_)
   ·have:=hz.2 (by omega);have hR:RI s (R.mk x.1.text (x.1.at_+1)):=⟨hx1.text,by dsimp only;omega,by dsimp only;omega⟩;refine Ev.gA (Ev.aN (ih.I4 hm hR (by dsimp only;omega)) λw hw=>?_);have hw1:=hw.2.1;dsimp only at hw1;have hw2:=hw.1.yC;refine Ev.gA (hn _ ⟨hw.1,by dsimp only;omega,by simp;omega,λz hz=>?_⟩ (by dsimp only;omega));rcases List.mem_append.1 hz with q|q
    ·exact hx4 z q
    simp at q;subst q;exact hw.2.2
   exact Ev.fy (mM (by omega) hx4) λw hw=>Ev.ok ⟨hx1,hx2,hw⟩
  ·intro m p hm h hk;have h0:=h.xB;refine Ev.grow (F:=λn=>cH n p) hm λm hm=>?_;show Ev (λi=>gm (m i) (aW (m i)) p) _ _;unfold gm;refine Ev.aN (ih.Hg (l:=[]) hm h (by omega) (by simp) (by simp)) λy hy=>?_;have hy3:=hy.2.2.1;refine Ev.iter hm (λ(x:R×List aQ)=>RI s x.1/\p.at_<x.1.at_/\x.2.length<=x.1.at_/\∀ z,z∈x.2->xX z) (λx=>(s.length - x.1.at_).toNat) ⟨hy.1,hy.2.1,by simp at hy3;dsimp only;omega,hy.2.2.2⟩ ?_;rintro x ⟨hx1,hx2,hx3,hx4⟩ next hn;have hx5:=hx1.yC;refine Ev.aO (λhlt=>?_) (λ_=>?_)
   ·refine Ev.fy (cz hx1) λz hz=>?_;rw[hz.1];refine Ev.bP (λ_=>?_) (λ_=>?_)
    ·refine Ev.fy (cz hx1) λz hz=>?_;rw[hz.1];refine Ev.bP (λ_=>?_) (λ_=>?_)
     ·rw[hx1.text] at hlt;refine Ev.aN (ih.Hg hm hx1 (by omega) (by omega) hx4) λw hw=>?_;have hw1:=hw.2.1;have hw2:=hw.1.yC;have hw3:=hw.2.2.1;exact hn _ ⟨hw.1,by dsimp only;omega,by dsimp only;omega,hw.2.2.2⟩ (by dsimp only;omega)
     exact Ev.fy (mM (by omega) hx4) λw hw=>Ev.ok ⟨hx1,hx2,hw⟩
    exact Ev.fy (mM (by omega) hx4) λw hw=>Ev.ok ⟨hx1,hx2,hw⟩
   exact Ev.fy (mM (by omega) hx4) λw hw=>Ev.ok ⟨hx1,hx2,hw⟩
  ·intro m p l hm h hk hl hls;refine Ev.grow (F:=λn=>cm n l p) hm λm hm=>?_;show Ev (λi=>fQ (m i) (aW (m i)) l p) _ _;unfold fQ;refine Ev.aN (ih.piece hm h (by omega)) λy hy=>?_;refine Ev.gA (Ev.ok ⟨hy.1,hy.2.1,by simp,λz hz=>?_⟩);rcases List.mem_append.1 hz with q|q
   ·exact hls z q
   simp at q;subst q;exact hy.2.2
  ·intro m p hm h hk;refine Ev.grow (F:=λn=>fE n p) hm λm hm=>?_;show Ev (λi=>jg (m i) (aW (m i)) p) _ _;unfold jg;refine Ev.aN (ih.atom hm h (by omega)) λy hy=>?_;refine Ev.iter hm (λ(x:R×aQ)=>RI s x.1/\p.at_<x.1.at_/\xX x.2) (λx=>(s.length - x.1.at_).toNat) ⟨hy.1,hy.2.1,hy.2.2⟩ ?_;rintro x ⟨hx1,hx2,hx3⟩ next hn;have hx0:=hx1.xB;have hx5:=hx1.yC;refine Ev.jn (λv=>v.1=x.1/\x.1.at_<s.length/\xX v.2) (λv hv=>?_) (λj hj=>?_)
   ·rw[hv.1];have:=hv.2.1;refine Ev.gA (hn _ ⟨⟨hx1.text,?_,?_⟩,?_,hv.2.2⟩ ?_);all_goals (dsimp only;omega)
   refine Ev.fy (cz hx1) λz hz=>?_;rw[hz.1];have hs1:xX (aQ.mk 5 0 0 0 0 [x.2]):=.mk (by simp) (by simpa using hx3);refine Ev.bw (λhq=>hj _ ⟨rfl,hz.2 (by omega),hs1⟩) (λ_=>?_);refine Ev.bw (λhq=>hj _ ⟨rfl,hz.2 (by omega),.mk (by simp) ?_⟩) (λ_=>?_)
   ·intro w hw;simp at hw;rcases hw with rfl|rfl
    ·exact hx3
    exact hs1
   refine Ev.bw (λhq=>hj _ ⟨rfl,hz.2 (by omega),.mk (by simp) ?_⟩) (λ_=>Ev.ok ⟨hx1,hx2,hx3⟩);intro w hw;simp at hw;rcases hw with rfl|rfl
   ·exact hx3
   exact .leaf
  ·intro m p hm h hk;have h0:=h.xB;have h1:=h.yC;refine Ev.grow (F:=λn=>fV n p) hm λm hm=>?_;show Ev (λi=>jz (m i) (aW (m i)) p) _ _;unfold jz;refine Ev.fy (cz h) λy hy=>?_;rw[hy.1];refine Ev.jn (λv=>v=p/\p.at_<s.length) (λv hv=>?_) (λj hj=>?_)
   ·rw[hv.1];refine Ev.gA (Ev.fy (rq hm) λz hz=>Ev.ok ⟨⟨h.text,?_,?_⟩,?_,hz⟩);all_goals (dsimp only;omega)
   rw[h.text];refine Ev.aO (λ_=>tz) (λhlt2=>?_);have hlt:p.at_<s.length:=by omega
   refine Ev.bw (λ_=>?_) (λ_=>?_)
   ·exact Ev.aN (ih.group hm h hlt (by omega)) λz hz=>Ev.ok hz
   refine Ev.bw (λ_=>?_) (λ_=>?_)
   ·exact Ev.aN (tg hm (by omega) h hlt) λz hz=>Ev.ok hz
   refine Ev.bw (λ_=>?_) (λ_=>?_)
   ·refine Ev.gA (Ev.fy (gi hm) λz _=>Ev.ok ⟨⟨rfl,?_,?_⟩,?_,.leaf⟩);all_goals (dsimp only;omega)
   refine Ev.bw (λ_=>?_) (λ_=>?_)
   ·refine Ev.gA (Ev.aO (λ_=>?_) (λ_=>?_))
    ·refine Ev.gA (Ev.eA (λb _=>?_));refine Ev.fy (xg hm) λz _=>?_;refine Ev.br (λ_=>?_) (λ_=>?_)
     ·refine Ev.gA (Ev.ok ⟨⟨rfl,?_,?_⟩,?_,.leaf⟩);all_goals (dsimp only;omega)
     exact Ev.aN (jK hm (by omega) h hlt) λz hz=>Ev.fy (rq hm) λw hw=>Ev.ok ⟨hz.1,hz.2,hw⟩
    exact Ev.aN (jK hm (by omega) h hlt) λz hz=>Ev.fy (rq hm) λw hw=>Ev.ok ⟨hz.1,hz.2,hw⟩
   refine Ev.jn (λ_=>True) (λv _=>?_) (λj2 hj2=>?_)
   ·exact Ev.br (λ_=>tz) (λ_=>hj _ ⟨rfl,hlt⟩)
   (repeat' (with_reducible first|refine Ev.gA ?_|refine Ev.eA (λ_ _=>?_)|apply Ev.cR|apply Ev.cA|(first|apply Ev.aO|apply Ev.bw|apply Ev.bP|apply Ev.bt|apply Ev.br)<;>intro _|(apply Ev.kP;try dsimp only)))
   ·exact hj2 _ trivial
   ·exact hj2 _ trivial
   exact Ev.fy (Q:=λ_=>True) (Ev.ok trivial) λz _=>hj2 _ trivial
  ·intro m p hm h hlt hk;have h0:=h.xB;refine Ev.grow (F:=λn=>fD n p) hm λm hm=>?_;show Ev (λi=>jf (m i) (aW (m i)) p) _ _;unfold jf;refine Ev.gA ?_;have hR:RI s (R.mk p.text (p.at_+1)):=⟨h.text,by dsimp only;omega,by dsimp only;omega⟩;refine Ev.fy (cz hR) λy hy=>?_;rw[hy.1];dsimp only;have hy2:=hy.2;dsimp only at hy2;refine Ev.bw (λhq=>?_) (λ_=>?_)
   ·have:=hy2 (by omega);refine Ev.gA (Ev.ok ⟨⟨h.text,?_,?_⟩,?_,.leaf⟩);all_goals (dsimp only;omega)
   refine Ev.aN (ih.alt hm hR (by dsimp only;omega)) λz hz=>?_;have hz0:=hz.1.xB;have hz1:=hz.2.1;dsimp only at hz1;refine Ev.jn (λv=>v=z.2/\z.2.at_<s.length) (λv hv=>?_) (λj hj=>?_)
   ·rw[hv.1];refine Ev.gA (Ev.ok ⟨⟨hz.1.text,?_,?_⟩,?_,hz.2.2⟩);all_goals (dsimp only;omega)
   refine Ev.fy (cz hz.1) λw hw=>?_;rw[hw.1];exact Ev.bP (λ_=>tz) (λhq=>hj _ ⟨rfl,hw.2 (by omega)⟩)
theorem xi:∀ (d:Nat) {m:Nat->Nat} {r:aQ} {l:Int},cq m->xX r->0<=l->(17 - l).toNat<=d->Ev (λi=>gO (m i) r l) (λ_=>True) gP:=by
 intro d
 induction d with
 | zero=>
  intro m r l hm _ h0 hd
  refine Ev.grow (F:=λn=>gO n r l) hm λm hm=>?_
  show Ev (λi=>kr (m i) (jH (m i)) r l) _ _
  unfold kr
  exact Ev.aO (λ_=>Ev.ok trivial) (λ_=>by omega)
 | succ d ih=>
  intro m r l hm hr h0 hd
  refine Ev.grow (F:=λn=>gO n r l) hm λm hm=>?_
  show Ev (λi=>kr (m i) (jH (m i)) r l) _ _
  unfold kr
  cases hr with
  | @mk k a b c d' subs hl hs=>
   refine Ev.aO (λ_=>Ev.ok trivial) (λ_=>?_)
   refine Ev.jn (λ_=>True) (λv _=>?_) (λj hj=>?_)
   ·refine Ev.jn (λ_=>True) (λv _=>?_) (λj hj=>?_)
    ·refine Ev.iter hm (λ(x:Int)=>0<=x/\x<=subs.length) (λx=>(subs.length - x).toNat) (by omega) ?_;intro x hx next hn;show Ev (λi=>D.br (decide (x<(subs.length:Int))) (D.el subs x _) _) _ _;refine Ev.aO (λh=>?_) (λ_=>Ev.ok trivial);refine Ev.eA (λz hz=>?_);refine Ev.gA (Ev.aN (ih hm (hs z (List.mem_of_getElem? hz)) (by omega) (by omega)) λw _=>?_)
     (repeat' (with_reducible first|refine Ev.gA ?_|refine Ev.eA (λ_ _=>?_)|apply Ev.cR|apply Ev.cA|(first|apply Ev.aO|apply Ev.bw|apply Ev.bP|apply Ev.bt|apply Ev.br)<;>intro _|(apply Ev.kP;try dsimp only)))
     ·exact Ev.ok trivial
     exact hn _ (by omega) (by omega)
    (repeat' (with_reducible first|refine Ev.gA ?_|refine Ev.eA (λ_ _=>?_)|apply Ev.cR|apply Ev.cA|(first|apply Ev.aO|apply Ev.bw|apply Ev.bP|apply Ev.bt|apply Ev.br)<;>intro _|(apply Ev.kP;try dsimp only)))
    all_goals first|exact Ev.ok trivial|exact hj _ trivial
   ·(repeat' (with_reducible first|refine Ev.gA ?_|refine Ev.eA (λ_ _=>?_)|apply Ev.cR|apply Ev.cA|(first|apply Ev.aO|apply Ev.bw|apply Ev.bP|apply Ev.bt|apply Ev.br)<;>intro _|(apply Ev.kP;try dsimp only)))
    all_goals first|exact Ev.ok trivial|exact hj _ trivial
theorem sP {m:Nat->Nat} (hm:cq m) {s:ByS}:Ev (λi=>nc (m i) s) (λ_=>True) gP:=by
 unfold nc;refine Ev.aO (λ_=>Ev.ok trivial) (λ_=>?_);refine Ev.yB (R':=RP) ?_ ?_
 ·refine Ev.aN ((Ib (s:=s) (by omega) (8*(s.length - 0:Int).toNat+7)).alt hm ⟨rfl,by simp,by simp⟩ (by simp)) λy hy=>?_;refine Ev.jn (λ_=>True) (λv _=>?_) (λj hj=>?_)
  ·unfold sA;refine Ev.fy (Ev.bind (xi 17 hm hy.2.2 (by omega) (by simp)) (λ_ q=>q) λz _=>Ev.ok trivial) λz (_:True)=>?_
   (repeat' (with_reducible first|refine Ev.gA ?_|refine Ev.eA (λ_ _=>?_)|apply Ev.cR|apply Ev.cA|(first|apply Ev.aO|apply Ev.bw|apply Ev.bP|apply Ev.bt|apply Ev.br)<;>intro _|(apply Ev.kP;try dsimp only)))
   all_goals exact Ev.ok trivial
  exact Ev.aO (λ_=>tz) (λ_=>hj _ trivial)
 rintro p ⟨v,rfl⟩;refine Ev.sn ?_;unfold lY;exact Ev.ok trivial
theorem iX:∀ (p s:ByS),p.isPrefixOf s=(s.take p.length==p)
 | [],s=>by simp
 | a::p,[]=>by simp
 | a::p,b::s=>by
  rw[List.isPrefixOf_cons_cons,iX p s];simp only[List.length_cons,List.take_succ_cons];rw[Bool.eq_iff_iff];simp;exact λ_=>⟨λh=>h.symm,λh=>h.symm⟩
theorem rr (s p:ByS):strings_HasPrefix s p=.ok (p.isPrefixOf s):=by
 unfold strings_HasPrefix stringslite_HasPrefix;rw[iX];by_cases h:p.length<=s.length
 ·have e:decide ((s.length:Int)>=(p.length:Int))=true:=by simp;omega
  rw[e];simp only[D.br,D.gd];rw[if_pos ⟨by omega,by omega⟩];simp[D.bind,jU]
 have e:decide ((s.length:Int)>=(p.length:Int))=false:=by simp;omega
 rw[e];simp only[D.br,D.bind];congr 1;symm;apply beq_eq_false_iff_ne.2;intro q;have:=congrArg List.length q;simp at this;omega
theorem Hh {a b:UInt8}:a<=b↔(a.toNat:Int)<=(b.toNat:Int):=by rw[UInt8.le_iff_toNat_le];omega
theorem CK {a b:UInt8}:a=b↔(a.toNat:Int)=(b.toNat:Int):=by
 constructor
 ·rintro rfl;rfl
 intro h;exact UInt8.toNat_inj.1 (by omega)
theorem BT (b:UInt8):uU b=(decide (97<=(b.toNat:Int)/\(b.toNat:Int)<=122)||decide (65<=(b.toNat:Int)/\(b.toNat:Int)<=90)||decide ((b.toNat:Int)=95)):=by
 unfold uU;rw[Bool.eq_iff_iff];simp only[Bool.or_eq_true,Bool.and_eq_true,decide_eq_true_eq,beq_iff_eq,Hh,CK];exact Iff.rfl
theorem Ad (b:UInt8):pE b=decide (48<=(b.toNat:Int)/\(b.toNat:Int)<=57):=by
 unfold pE;rw[Bool.eq_iff_iff];simp only[Bool.and_eq_true,decide_eq_true_eq,Hh];exact Iff.rfl
theorem qw (b:UInt8):jX (b.toNat:Int)=.ok (pE b):=by
 rw[Ad];unfold jX;by_cases h1:(48:Int)<=b.toNat<;>simp[h1,D.br]
def Ae (b:UInt8):Bool:=uU b&&b !=95
theorem xj (b:UInt8):mc (b.toNat:Int)=.ok (Ae b):=by
 have e:Ae b=(decide (97<=(b.toNat:Int)/\(b.toNat:Int)<=122)||decide (65<=(b.toNat:Int)/\(b.toNat:Int)<=90)):=by
  unfold Ae;rw[BT,Bool.eq_iff_iff];simp only[Bool.and_eq_true,Bool.or_eq_true,decide_eq_true_eq,bne_iff_ne,ne_eq,CK];rw[show ((95:UInt8).toNat:Int)=95 from rfl];omega
 rw[e];unfold mc;by_cases h1:(97:Int)<=b.toNat<;>by_cases h2:(b.toNat:Int)<=122<;>by_cases h3:(65:Int)<=b.toNat<;>simp[h1,h2,h3,D.br]<;>omega
theorem EM (b:UInt8):rj (b.toNat:Int)=.ok (uU b||pE b):=by
 unfold rj;rw[xj,qw];have:uU b=(Ae b||b==95):=by
  unfold Ae;cases e:b==95 with
  | false=>simp[bne,e]
  | true=>rw[beq_iff_eq.1 e];rfl
 rw[this,show ((b.toNat:Int)==95)=(b==95) by rw[Bool.eq_iff_iff,beq_iff_eq,beq_iff_eq,CK];exact Iff.rfl];cases Ae b<;>cases pE b<;>simp[D.bind,D.br]
section
variable {α:Type} {Q:α->Prop} {R:rA->Prop} {m:Nat->Nat} {s:ByS} {a:Int}
theorem xk {v:Int} (h0:0<=a) (hv:a<=v):(s.drop a.toNat)[(v - a).toNat]?=s[v.toNat]?:=by
 rw[List.getElem?_drop,show a.toNat+(v - a).toNat=v.toNat by omega]
theorem wg {p:Nat->UInt8->Bool} {i:Nat} (h0:0<=a) (h1:a<=s.length):a+run p i (s.drop a.toNat)<=s.length:=by
 have:=tJ (p:=p) (u:=s.drop a.toNat) (i:=i);simp at this;omega
theorem Af {F:UInt8->D Bool} {p:UInt8->Bool} (hF:∀ b,F b=.ok (p b)) (hm:cq m) (h0:0<=a) (ha:a<=s.length) (hs:s.length<=65536) {j:Nat->Int->D α} (hj:Ev (λi=>j i (a+run (λ_=>p) 0 (s.drop a.toNat))) Q R) :
  Ev (λi=>D.iter (λnext (v:Int)=>D.br (decide (v<(List.length s:Int))) (D.el s v λb=>D.bind (F b) λy=>D.br y (D.gd (cr (v+1)) (next (v+1))) (j i v)) (j i v)) (m i) a) Q R:=by
 have hl:=wg (p:=λ_=>p) (i:=0) h0 ha
 refine Ev.iter hm (λv=>a<=v/\v<=a+run (λ_=>p) 0 (s.drop a.toNat)) (λv=>(s.length - v).toNat) ⟨by omega,by omega⟩ ?_
 intro v hv next hn
 have hat:∀ x,s[v.toNat]?=some x->p x=decide (v<a+run (λ_=>p) 0 (s.drop a.toNat)):=by
  intro x hx
  rw[<- xk h0 hv.1] at hx
  by_cases q:v<a+run (λ_=>p) 0 (s.drop a.toNat)
  ·obtain ⟨b,h1,h2⟩:=oH (p:=λ_=>p) (u:=s.drop a.toNat) (i:=0) (j:=(v - a).toNat) (by omega)
   rw[hx] at h1;cases h1
   rw[h2,decide_eq_true q]
  ·have e:v - a=run (λ_=>p) 0 (s.drop a.toNat):=by omega
   rw[e] at hx
   have:=lU (p:=λ_=>p) (u:=s.drop a.toNat) (i:=0) (b:=x) (by simpa using hx)
   rw[this,decide_eq_false q]
 refine Ev.aO (λhlt=>Ev.el (by omega) hlt λx hx=>?_) (λhge=>?_)
 ·have:=hat x hx
  refine Ev.lV (hF x) (Ev.br (λh=>?_) (λh=>?_))
  ·rw[h] at this
   have:=of_decide_eq_true this.symm
   exact Ev.gA (hn _ (by omega) (by omega))
  ·rw[h] at this
   have:=of_decide_eq_false this.symm
   rw[show v=a+run (λ_=>p) 0 (s.drop a.toNat) by omega]
   exact hj
 ·rw[show v=a+run (λ_=>p) 0 (s.drop a.toNat) by omega]
  exact hj
theorem kI {b:UInt8} (k:Int) (c:UInt8) (hc:(c.toNat:Int)=k):((b.toNat:Int)==k)=(b==c):=by
 subst hc;rw[Bool.eq_iff_iff,beq_iff_eq,beq_iff_eq,CK]
theorem EN:pD=λ_=>pE:=rfl
def xl (u:ByS):Nat:=if run pD 0 u=0 then 0 else ue u
theorem Gc {u:ByS}:xl u<=u.length:=by
 unfold xl;split
 ·omega
 unfold ue;split
 ·rename_i h;have h2:=tJ (p:=pD) (u:=u.drop (run pD 0 u+1)) (i:=0);unfold oI at h;simp only[Bool.and_eq_true,beq_iff_eq] at h;have:=(List.getElem?_eq_some_iff.1 h.1).1;simp at h2;omega
 exact tJ
theorem vR (hm:cq m) (h0:0<=a) (ha:a<=s.length) (hs:s.length<=65536):Ev (λi=>n7 (m i) s a) (λr=>r=a+xl (s.drop a.toNat)) gP:=by
 unfold n7;have hl:=wg (p:=pD) (i:=0) h0 ha;refine Ev.jn (λv=>v=a+run pD 0 (s.drop a.toNat)) (λv hv=>?_) (λj hj=>Af (p:=pE) qw hm h0 ha hs (hj _ rfl));refine Ev.jn (λz=>z=(decide (run pD 0 (s.drop a.toNat)≠0)&&oI (s.drop a.toNat) (run pD 0 (s.drop a.toNat)))) (λz hz=>?_) (λj hj=>?_)
 ·refine Ev.br (λh=>?_) (λh=>?_)
  ·rw[h] at hz;simp only[Bool.true_eq,Bool.and_eq_true,decide_eq_true_eq] at hz;have hd:=hz.2;unfold oI at hd;simp only[Bool.and_eq_true,beq_iff_eq] at hd;have:=(List.getElem?_eq_some_iff.1 hd.1).1;simp at this;refine Ev.gA (Af (p:=pE) qw hm (by omega) (by omega) hs (Ev.ok ?_));unfold xl ue;rw[if_neg hz.1,if_pos hz.2,List.drop_drop,hv,show (a+(run pD 0 (s.drop a.toNat):Int)+1).toNat=a.toNat+(run pD 0 (s.drop a.toNat)+1) by omega];rw[EN];omega
  rw[h] at hz;refine Ev.ok ?_;unfold xl ue;split
  ·omega
  rename_i h2;simp only[ne_eq,h2,not_false_eq_true,decide_true,Bool.true_and] at hz;rw[if_neg (by rw[<- hz];simp),hv]
 subst hv;refine Ev.aO (λh=>?_) (λh=>hj _ ?_)
 ·have hne:run pD 0 (s.drop a.toNat)≠0:=by omega
  have hd:∀ (z:Bool),z=oI (s.drop a.toNat) (run pD 0 (s.drop a.toNat))->z=(decide (run pD 0 (s.drop a.toNat)≠0)&&oI (s.drop a.toNat) (run pD 0 (s.drop a.toNat))):=by
   intro z hz;rw[hz];simp[hne]
  have g0:(s.drop a.toNat)[run pD 0 (s.drop a.toNat)]?=s[(a+(run pD 0 (s.drop a.toNat):Int)).toNat]?:=by
   rw[List.getElem?_drop];congr 1;omega
  have g1:(s.drop a.toNat)[run pD 0 (s.drop a.toNat)+1]?=s[(a+(run pD 0 (s.drop a.toNat):Int)+1).toNat]?:=by
   rw[List.getElem?_drop];congr 1;omega
  refine Ev.gA (Ev.aO (λh2=>?_) (λh2=>hj _ (hd _ ?_)))
  ·refine Ev.eA λx hx=>Ev.br (λh3=>?_) (λh3=>hj _ (hd _ ?_))
   ·refine Ev.gA (Ev.el (by omega) h2 λy hy=>Ev.lV (qw y) (hj _ (hd _ ?_)));rw[kI 46 46 rfl] at h3;unfold oI;rw[g0,g1,hx,hy,beq_iff_eq.1 h3];simp
   rw[kI 46 46 rfl] at h3;unfold oI;rw[g0,hx];have:(some x==some (46:UInt8))=false:=h3;rw[this];rfl
  unfold oI;rw[g1,List.getElem?_eq_none (l:=s) (by omega)];simp
 have:run pD 0 (s.drop a.toNat)=0:=by omega
 simp[this]
theorem Jy (i:Nat):pW (i+1)=λb=>uU b||pE b:=by funext b;simp[pW]
theorem I5 {u:ByS}:∀ {i:Nat},run pW (i+1) u=run (λ_ b=>uU b||pE b) 0 u:=by
 have key:∀ (u:ByS) (i j:Nat),run pW (i+1) u=run (λ_ b=>uU b||pE b) j u:=by
  intro u
  induction u with
  | nil=>intros;rfl
  | cons b u ih=>intro i j;simp only[run,Jy,ih (i+1) (j+1)]
 exact λ{i}=>key u i 0
theorem xm (hm:cq m) (h0:0<=a) (ha:a<s.length) (hs:s.length<=65536):Ev (λi=>pj (m i) s a) (λr=>r=a+gp (s.drop a.toNat)) gP:=by
 unfold pj;obtain ⟨x,hx⟩:∃ x,s[a.toNat]?=some x:=⟨_,List.getElem?_eq_getElem (by omega)⟩;have hu:s.drop a.toNat=x::s.drop (a+1).toNat:=by
  rw[List.getElem?_eq_some_iff] at hx;obtain ⟨q1,q2⟩:=hx;rw[List.drop_eq_getElem_cons q1,q2,show (a+1).toNat=a.toNat+1 by omega]
 refine Ev.gA (Ev.jn (λv=>v=a+1+run (λ_ b=>uU b||pE b) 0 (s.drop (a+1).toNat)) (λv hv=>?_) (λj hj=>?_))
 ·have hw:run pW 0 (s.drop a.toNat)=if pW 0 x=true then 1+run (λ_ b=>uU b||pE b) 0 (s.drop (a+1).toNat) else 0:=by
   rw[hu];simp only[run,I5]
  have hh:(s.drop a.toNat)[0]?=some x:=by rw[hu];rfl
  have hp:pW 0 x=(uU x||x==35):=by simp[pW]
  have hlL:uU x=(Ae x||x==95):=by
   unfold Ae;cases e:x==95 with
   | false=>simp[bne,e]
   | true=>rw[beq_iff_eq.1 e];rfl
  refine Ev.yA h0 hx (Ev.lV (xj x) (Ev.br (λh=>Ev.ok ?_) (λh=>?_)))
  ·have h95:x≠95:=by unfold Ae at h;simp at h;exact h.2
   have h35:x≠35:=by rintro rfl;revert h;decide
   unfold gp;rw[hh,if_neg (by simp[h95,h35]),hw,hp,hlL,h,if_pos (by simp)];omega
  refine Ev.yA h0 hx (Ev.br (λh2=>?_) (λh2=>Ev.yA h0 hx (Ev.br (λh3=>?_) (λh3=>Ev.ok ?_))))
  ·rw[kI 95 95 rfl,beq_iff_eq] at h2;have hw2:run pW 0 (s.drop a.toNat)=1+run (λ_ b=>uU b||pE b) 0 (s.drop (a+1).toNat):=by rw[hw,hp,h2,if_pos (by decide)]
   refine Ev.gA (Ev.aO (λh4=>Ev.ok ?_) (λh4=>Ev.ok ?_))
   ·unfold gp;rw[if_neg (by omega),hw2];omega
   unfold gp;rw[if_pos ⟨by omega,.inr (by rw[hh,h2])⟩];simp
  ·rw[kI 35 35 rfl,beq_iff_eq] at h3;have hw2:run pW 0 (s.drop a.toNat)=1+run (λ_ b=>uU b||pE b) 0 (s.drop (a+1).toNat):=by rw[hw,hp,h3,if_pos (by decide)]
   refine Ev.gA (Ev.aO (λh4=>Ev.ok ?_) (λh4=>Ev.ok ?_))
   ·unfold gp;rw[if_neg (by omega),hw2];omega
   unfold gp;rw[if_pos ⟨by omega,.inl (by rw[hh,h3])⟩];simp
  rw[kI 95 95 rfl] at h2;rw[kI 35 35 rfl] at h3;have hw2:run pW 0 (s.drop a.toNat)=0:=by rw[hw,hp,hlL,h,h2,h3];rfl
  unfold gp;rw[if_neg (by omega),hw2];simp
 exact Af (p:=λb=>uU b||pE b) EM hm (by omega) (by omega) hs (hj _ rfl)
theorem CL {f:ByS->Bool} {v:Nat}:∀ {l:List ByS} {o:ByS},(∀ i p,i<v->l[i]?=some p->f p=false)->l[v]?=some o->f o=true->l.find? f=some o:=by
 induction v with
 | zero=>
  intro l o _ ho hf
  cases l with
  | nil=>cases ho
  | cons p l=>simp at ho;subst ho;simp[List.find?,hf]
 | succ v ih=>
  intro l o h ho hf
  cases l with
  | nil=>cases ho
  | cons p l=>
   have:=h 0 p (by omega) rfl
   simp only[List.find?,this]
   exact ih (λi q hi hq=>h (i+1) q (by omega) (by simpa using hq)) (by simpa using ho) hf
theorem Ag {o:ByS} (h0:0<=a):(sub s a (a+(o.length:Int))==o)=o.isPrefixOf (s.drop a.toNat):=by
 rw[iX];simp only[sub];rw[show (a+(o.length:Int)).toNat - a.toNat=o.length by omega]
theorem uk (hm:cq m) (h0:0<=a) (ha:a<=s.length) (hs:s.length<=65536):Ev (λi=>me (m i) s a) (λr=>r=tR (s.drop a.toNat)) gP:=by
 unfold me;refine Ev.lV (a:=ops) rfl ?_;have hol:∀ o∈ops,o.length<=3:=by decide
 have e32:ops.length=32:=rfl;refine Ev.iter hm (λ(v:Int)=>0<=v/\v<=ops.length/\∀ (i:Nat) p,(i:Int)<v->ops[i]?=some p->p.isPrefixOf (s.drop a.toNat)=false) (λv=>(ops.length - v).toNat) ⟨by omega,by omega,λi p h=>by omega⟩ ?_;intro v hv next hn;have hnx:∀ x,ops[v.toNat]?=some x->x.isPrefixOf (s.drop a.toNat)=false->Ev (λi=>D.gd (cr (v+1)) (next i (v+1))) (λr=>r=tR (s.drop a.toNat)) gP:=by
  intro x hx hp;have:=(List.getElem?_eq_some_iff.1 hx).1;refine Ev.gA (hn _ ⟨by omega,by omega,λi p hi hp2=>?_⟩ (by omega));by_cases q:(i:Int)<v
  ·exact hv.2.2 i p q hp2
  rw[show i=v.toNat by omega,hx] at hp2;cases hp2;exact hp
 refine Ev.aO (λh=>?_) (λh=>Ev.ok ?_)
 ·refine Ev.gA (Ev.el hv.1 h λx hx=>?_);have hx3:=hol x (List.mem_of_getElem? hx);refine Ev.aO (λh2=>?_) (λh2=>hnx x hx ?_)
  ·refine Ev.yA hv.1 hx (Ev.gA (Ev.gd ⟨h0,by omega,by omega⟩ (Ev.yA hv.1 hx (Ev.br (λh3=>?_) (λh3=>?_)))))
   ·refine Ev.yA hv.1 hx (Ev.ok ?_);rw[Ag h0] at h3;unfold tR;rw[CL (v:=v.toNat) (λi p hi hp=>hv.2.2 i p (by omega) hp) hx h3];rfl
   rw[Ag h0] at h3;exact hnx x hx h3
  cases e:x.isPrefixOf (s.drop a.toNat) with
  | false=>rfl
  | true=>
   rw[iX,beq_iff_eq] at e
   have:=congrArg List.length e
   simp at this;omega
 unfold tR;rw[List.find?_eq_none.2 λp hp=>?_]
 ·rfl
 obtain ⟨i,hi⟩:=List.mem_iff_getElem?.1 hp;have:=(List.getElem?_eq_some_iff.1 hi).1;rw[hv.2.2 i p (by omega) hi];simp
def th (s:ByS) (c:Bool) (i:Int):Int×Bool:=match fw (s.drop i.toNat) with|some x=>(i+x.1 - 1,c||x.2)|none=>(-1,false)
theorem CM {u:ByS}:fw (34::u)=some (1,false):=by cases u<;>simp[fw]
theorem CN {d:UInt8} {u:ByS}:fw (92::d::u)=(fw u).map λx=>(x.1+2,x.2||d==40):=by simp[fw]
theorem CO {b:UInt8} {u:ByS} (h1:b≠34) (h2:b≠92):fw (b::u)=(fw u).map λx=>(x.1+1,x.2):=by
 cases u with
 | nil=>simp[fw,h1]
 | cons d u=>simp[fw,h1,h2]
theorem Ah (hm:cq m) (h0:0<=a) (ha:a<s.length) (hs:s.length<=65536):Ev (λi=>s5 (m i) s a) (λr=>r=th s false (a+1)) gP:=by
 unfold s5;refine Ev.gA ?_;refine Ev.iter hm (λ(v:Bool×Int)=>a<v.2/\v.2<=s.length+1/\th s v.1 v.2=th s false (a+1)) (λv=>(s.length+1 - v.2).toNat) ⟨by simp;omega,by simp;omega,rfl⟩ ?_;rintro ⟨c,v⟩ ⟨h1,h2,h3⟩ next hn;dsimp only at h1 h2 h3 hn ⊢;refine Ev.aO (λh=>?_) (λh=>Ev.ok ?_)
 ·refine Ev.jn (λ(w:Bool×Int)=>v<=w.2/\w.2<=s.length/\th s w.1 (w.2+1)=th s false (a+1)) (λw hw=>?_) (λj hj=>?_)
  ·exact Ev.gA (hn _ ⟨by dsimp only;omega,by dsimp only;omega,hw.2.2⟩ (by dsimp only;omega))
  refine Ev.el (by omega) h λx hx=>?_;have hu:s.drop v.toNat=x::s.drop (v+1).toNat:=by
   have hx2:=hx;rw[List.getElem?_eq_some_iff] at hx2;obtain ⟨q1,q2⟩:=hx2;rw[List.drop_eq_getElem_cons q1,q2,show (v+1).toNat=v.toNat+1 by omega]
  refine Ev.br (λh4=>Ev.ok ?_) (λh4=>Ev.yA (by omega) hx (Ev.br (λh5=>?_) (λh5=>?_)))
  ·rw[kI 34 34 rfl,beq_iff_eq] at h4;subst h4;rw[<- h3];unfold th;rw[hu,CM];simp
  ·rw[kI 92 92 rfl,beq_iff_eq] at h5;subst h5;have hE:∀ d,s[(v+1).toNat]?=some d->th s (c||d==40) (v+1+1)=th s false (a+1):=by
    intro d hd;have hd2:=hd;rw[List.getElem?_eq_some_iff] at hd2;obtain ⟨q1,q2⟩:=hd2;rw[<- h3];unfold th;rw[hu,List.drop_eq_getElem_cons q1,q2,CN,show (v+1+1).toNat=(v+1).toNat+1 by omega];cases fw (s.drop ((v+1).toNat+1)) with
    | none=>rfl
    | some y=>simp[Bool.or_comm,Bool.or_left_comm];omega
   have hN:¬ v+1<s.length->∀ c,th s c (v+1+1)=th s false (a+1):=by
    intro q c';rw[<- h3];unfold th;rw[hu,List.drop_eq_nil_of_le (by omega),List.drop_eq_nil_of_le (by omega)];simp[fw]
   refine Ev.gA (Ev.br (λhc=>?_) (λhc=>Ev.aO (λh6=>?_) (λh6=>?_)))
   ·refine hj _ ⟨by dsimp only;omega,by dsimp only;omega,?_⟩;dsimp only;by_cases q:v+1<s.length
    ·obtain ⟨d,hd⟩:∃ d,s[(v+1).toNat]?=some d:=⟨_,List.getElem?_eq_getElem (by omega)⟩;have:=hE d hd;rw[hc] at this;simpa using this
    exact hN q _
   ·refine Ev.el (by omega) h6 λd hd=>hj _ ⟨by dsimp only;omega,by dsimp only;omega,?_⟩;have:=hE d hd;rw[hc] at this;dsimp only;rw[kI 40 40 rfl];simpa using this
   exact hj _ ⟨by dsimp only;omega,by dsimp only;omega,hN h6 _⟩
  rw[kI 34 34 rfl] at h4;rw[kI 92 92 rfl] at h5;refine hj _ ⟨by dsimp only;omega,by dsimp only;omega,?_⟩;dsimp only;rw[<- h3];unfold th;rw[hu,CO (by simpa using h4) (by simpa using h5)];cases fw (s.drop (v+1).toNat) with
  | none=>rfl
  | some y=>simp;omega
 rw[<- h3];unfold th;rw[List.drop_eq_nil_of_le (by omega)];simp[fw]
end
end Go.Abs
end
