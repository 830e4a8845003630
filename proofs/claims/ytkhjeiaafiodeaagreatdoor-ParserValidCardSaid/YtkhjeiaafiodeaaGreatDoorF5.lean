/- PROVED: lemmas of the proof of: valid_card. CONDITIONS: as each lemma states. -/
import Derived.Test.YtkhjeiaafiodeaaGreatDoorF4
set_option linter.all false
section
namespace Go.Abs
open Go.Proofs U
set_option maxRecDepth 100000
set_option maxHeartbeats 2000000
def kb (p0:Int):U (Int):=
 br (p0==110) (.ok (10)) (br (p0==116) (.ok (9)) (br (p0==114) (.ok (13)) (.ok ((-1)))))
instance wP (p0:Int):CT Tryz.prog 305 [Sc (.int .u8 p0)] [] (kb p0) (λx=>I x) (λ_=>[]):=by unfold kb;exact zz Tryz.func305
def kc (n:Nat) (p0:Int):U (Bool):=
 gP (λ(v5:Int)=>[(0,Sc (.int .u8 p0)),(3,aZ ([40,41,91,93,123,125,124,42,43,63,46,92]:ByS)),(4,I v5)]) (λ(v5:Int)=>[]) (λnext6 (v5:Int)=>br (decide (v5<(List.length ([40,41,91,93,123,125,124,42,43,63,46,92]:ByS):Int))) (el ([40,41,91,93,123,125,124,42,43,63,46,92]:ByS) v5 λb13=>br ((b13.toNat:Int)==p0) (.ok (true)) (gd (J (v5+1)) (next6 (v5+1)))) (.ok (false))) n (0)
instance sD (n:Nat) (p0:Int):CT Tryz.prog 286 [Sc (.int .u8 p0)] [] (kc n p0) (λx=>Bo x) (λ_=>[]):=by unfold kc;exact zz Tryz.func286
def fL (n:Nat) (p0:P):U (ax×P):=
 U.bind (bH 120 p0) λy4=>br y4.1 (U.bind (iI 0 y4.2) λy7=>U.bind (gQ n y7.1 y7.1) λy9=>.ok ((ax.mk 2 y9.x0 y9.x1 y9.x2 y9.x3 []),y7.2)) (U.bind (dM y4.2) λy12=>br y12.1 (el y12.2.S y12.2.At λb15=>U.bind (oW n (b15.toNat:Int)) λy20=>jn (λ(v21:bM×Bool)=>jn (λ(v24:bM×Bool)=>br v24.2 (gd (J (y12.2.At+1)) (.ok ((ax.mk 2 v24.1.x0 v24.1.x1 v24.1.x2 v24.1.x3 []),(P.mk y12.2.S (y12.2.At+1) y12.2.cF)))) (.ok ((ax.mk 0 0 0 0 0 []),(P.mk y12.2.S y12.2.At true)))) λj25=>jn (λ(v34:Bool)=>br v34 (U.bind (gQ n (IntKind.wrap .i64 (b15.toNat:Int)) (IntKind.wrap .i64 (b15.toNat:Int))) λy38=>j25 (y38,true)) (j25 (v21.1,v21.2))) λj35=>U.bind (kc n (b15.toNat:Int)) λy39=>br y39 (j35 (true)) (br ((b15.toNat:Int)==94) (j35 (true)) (j35 (((b15.toNat:Int)==45))))) λj22=>U.bind (kb (b15.toNat:Int)) λy43=>br (decide (y43>=0)) (U.bind (gQ n y43 y43) λy46=>j22 (y46,true)) (j22 (y20.1,y20.2))) (.ok ((ax.mk 0 0 0 0 0 []),(P.mk y12.2.S y12.2.At true))))
instance sU (n:Nat) (p0:P):CT Tryz.prog 283 [.ptr 0 0] [.box [aZ p0.S,I p0.At,Bo p0.cF]] (fL n p0) (λx=>.agg (ct x.1)) (λx=>[.box [aZ x.2.S,I x.2.At,Bo x.2.cF]]):=by
 refine zC Tryz.func283 O λr hp h hr E hE=>ag λ_ hK1=>ab (aM 102 (hE _ O) O4 O ?_);refine zQ hK1 (ag λ_ hK2=>ag λ_ hK3=>ab (zm O (zk hp hr h [0] Tryz.call220 (cJ 120 p0) O (λ_=>rfl) λy4 h=>zQ hK3 (zB O h (λ_ h=>?_) λ_ h=>?_))))
 ·refine ag λ_ hK6=>ab (zm O (zk hp hr h [0] Tryz.call303 (sT 0 y4.2) O (λ_=>rfl) λy7 h=>za O (zQ hK6 (ag λ_ hK8=>ab (zm O (zm O (zk hp hr h [] Tryz.call284 (ow n y7.1 y7.1) O (λ_=>rfl) λy9 h=>aB (cj O O) O ?_)))))));refine zs O (zQ hK8 (bC (iR 102 O O) ?_));exact aN (zX (.cons (aU O O O) .nil) h O)
 refine aD (hK2 _ _ (ag λ_ hK10=>ag λ_ hK11=>ab (zm O (zk hp hr h [0] Tryz.call246 (mI y4.2) O (λ_=>rfl) λy12 h=>zQ hK11 (zB O h (λ_ h=>?_) λ_ h=>?_)))))
 ·refine ag λ_ hK14=>cE [0,1,2,3,4,5,6,7,8,9] O (by kernel_rfl) (zD O (aK O) O (zD O (eH O) O (zD O (fa O) O (zD O (dZ O O O) O (zD O (aK O) O (zD O (eH O) O (zD O (fa O) O (zD O (dZ O O O) O (ze hr h λb15 h16 h17 h18 h=>zD O (gi O O h16 h18) O (mu O O O (aQ O) O (eR (hK14 _ _ (ag λ_ hK19=>ab (zm O (zk hp hr h [] Tryz.call304 (zi n (b15.toNat:Int)) O (λ_=>rfl) λy20 h=>zm O (zx O (zx O (aM 105 (hE _ O) O4 O ?_))))))))))))))))));refine zs O (za O (zQ hK19 (zM h (λ(v21:bM×Bool)=>[(0,.ptr 0 0),(2,.ptr 102 0),(4,Sc (.int .u8 (b15.toNat:Int))),(5,.ptr 105 0),(6,Bo v21.2)]) (λ(v21:bM×Bool)=>[(0,.box [aZ y12.2.S,I y12.2.At,Bo y12.2.cF]),(102,.box [I 0,Sc (.int .u64 0),Sc (.int .u64 0),Sc (.int .u64 0),Sc (.int .u64 0),nSl]),(105,.box (ej v21.1))]) (λv21 h=>?_) λ_ _ hK23 h=>?_)))
  ·refine zM h (λ(v24:bM×Bool)=>[(0,.ptr 0 0),(2,.ptr 102 0),(5,.ptr 105 0),(6,Bo v24.2)]) (λ(v24:bM×Bool)=>[(0,.box [aZ y12.2.S,I y12.2.At,Bo y12.2.cF]),(102,.box [I 0,Sc (.int .u64 0),Sc (.int .u64 0),Sc (.int .u64 0),Sc (.int .u64 0),nSl]),(105,.box (ej v24.1))]) (λv24 h=>?_) λ_ _ hK26 h=>?_
   ·refine ag λ_ hK27=>ab (zm O (zQ hK27 (zB O h (λ_ h=>?_) λ_ h=>?_)))
    ·refine ag λ_ hK29=>ab (zm O (zm O (zn O (zf O (zl O (zd hr h λhg30 h=>zo hg30 O (zn O (zf O (zs O (zQ hK29 (ag λ_ hK31=>ab (zA O ?_))))))))))));refine aB (cj O O) O ?_;refine zs O (zQ hK31 (bC (iR 102 O O) ?_));exact aN (zX (.cons (aU O O O) .nil) h O)
    refine aD (hK10 _ _ (ag λ_ hK32=>ab (zm O (zn O (zf O (zs O (zQ hK32 (ag λ_ hK33=>ab (aB (cj O O) O ?_)))))))));refine zs O (zQ hK33 (bC (iR 102 O O) ?_));exact aN (zX (.cons (aU O O O) .nil) h O)
   refine zM h (λ(v34:Bool)=>[(0,.ptr 0 0),(2,.ptr 102 0),(4,Sc (.int .u8 (b15.toNat:Int))),(5,.ptr 105 0),(6,Bo v21.2),(48,Bo v34)]) (λ(v34:Bool)=>[(0,.box [aZ y12.2.S,I y12.2.At,Bo y12.2.cF]),(102,.box [I 0,Sc (.int .u64 0),Sc (.int .u64 0),Sc (.int .u64 0),Sc (.int .u64 0),nSl]),(105,.box (ej v21.1))]) (λv34 h=>?_) λ_ _ hK36 h=>?_
   ·refine zB O h (λ_ h=>?_) λ_ h=>?_
    ·exact ab (zm O (aB (lN O) O (zm O (aB (lN O) O (zk hp hr h [] Tryz.call284 (ow n (IntKind.wrap .i64 (b15.toNat:Int)) (IntKind.wrap .i64 (b15.toNat:Int))) O (λ_=>rfl) λy38 h=>zs O (za O (aH (hK26 _ _ _ h O))))))))
    exact aD (hK26 _ _ _ h O)
   refine ab (zm O (zk hp hr h [] Tryz.call286 (sD n (b15.toNat:Int)) O (λ_=>rfl) λy39 h=>zm O (zb y39 (λhb40=>?_) λhb40=>?_)))
   ·exact z1 hb40 h λh=>zH 2 O hb40 (zy hb40 O (zm O (zH 2 O O (zt O (aH (hK36 _ _ _ h O))))))
   refine z2 hb40 h λh=>zG hb40 O (aK O) (zG hb40 O (dT O O O) (zw hb40 O (zm O (zb ((b15.toNat:Int)==94) (λhb41=>?_) λhb41=>?_))))
   ·exact z1 hb41 h λh=>zH 2 O hb41 (zy hb41 O (aH (hK36 _ _ _ h O)))
   exact z2 hb41 h λh=>zG hb41 O (aK O) (zG hb41 O (dT O O O) (zw hb41 O (aH (hK36 _ _ _ h O))))
  refine ag λ_ hK42=>ab (zm O (zk hp hr h [] Tryz.call305 (wP (b15.toNat:Int)) O (λ_=>rfl) λy43 h=>za O (zQ hK42 (ag λ_ hK44=>ab (zm O (zc O (zQ hK44 (zB O h (λ_ h=>?_) λ_ h=>?_))))))))
  ·exact ab (zm O (zm O (zk hp hr h [] Tryz.call284 (ow n y43 y43) O (λ_=>rfl) λy46 h=>zs O (za O (aH (hK23 _ _ _ h O))))))
  exact aD (hK23 _ _ _ h O)
 refine aD (hK10 _ _ (ag λ_ hK47=>ab (zm O (zn O (zf O (zs O (zQ hK47 (ag λ_ hK48=>ab (aB (cj O O) O ?_)))))))));refine zs O (zQ hK48 (bC (iR 102 O O) ?_));exact aN (zX (.cons (aU O O O) .nil) h O)
def eP (n:Nat) (p0:Int) (p1:P):U (Int×P):=
 U.bind (bH 92 p1) λy4=>br y4.1 (U.bind (bH 120 y4.2) λy8=>br y8.1 (U.bind (iI p0 y8.2) λy11=>.ok (y11.1,y11.2)) (U.bind (dM y8.2) λy14=>br y14.1 (kp [0,1,2,3,4,5,6,7,8,9] (el y14.2.S y14.2.At λb17=>U.bind (kb (b17.toNat:Int)) λy22=>lg 0 (λ(v23:Int)=>[(0,.ptr 0 0),(1,I p0),(6,I v23)]) (λ(v23:Int)=>[(0,.box [aZ y14.2.S,I y14.2.At,Bo y14.2.cF])]) (λ(v23:Int)=>br (decide (v23>=p0)) (gd (J (y14.2.At+1)) (.ok (v23,(P.mk y14.2.S (y14.2.At+1) y14.2.cF)))) (.ok (0,(P.mk y14.2.S y14.2.At true)))) λj24=>U.bind (kc n (b17.toNat:Int)) λy34=>br y34 (j24 (IntKind.wrap .i64 (b17.toNat:Int))) (br ((b17.toNat:Int)==94) (j24 (IntKind.wrap .i64 (b17.toNat:Int))) (br ((b17.toNat:Int)==45) (j24 (IntKind.wrap .i64 (b17.toNat:Int))) (j24 (y22)))))) (.ok (0,(P.mk y14.2.S y14.2.At true))))) (U.bind (dM y4.2) λy42=>br (!y42.1) (.ok (0,(P.mk y42.2.S y42.2.At true))) (kp [0,1,2,3,4,5,6,7,8,9] (el y42.2.S y42.2.At λb47=>lg 1 (λ(v52:Bool)=>[(0,.ptr 0 0),(1,I p0),(7,Sc (.int .u8 (b47.toNat:Int))),(93,Bo v52)]) (λ(v52:Bool)=>[(0,.box [aZ y42.2.S,I y42.2.At,Bo y42.2.cF])]) (λ(v52:Bool)=>br v52 (.ok (0,(P.mk y42.2.S y42.2.At true))) (gd (J (y42.2.At+1)) (.ok (IntKind.wrap .i64 (b47.toNat:Int),(P.mk y42.2.S (y42.2.At+1) y42.2.cF))))) λj53=>br (decide ((b47.toNat:Int)<32)) (j53 (true)) (br (decide ((b47.toNat:Int)>126)) (j53 (true)) (U.bind (kc n (b47.toNat:Int)) λy63=>br y63 (j53 (true)) (br ((b47.toNat:Int)==94) (j53 (true)) (br ((b47.toNat:Int)==45) (j53 (true)) (j53 ((decide ((IntKind.wrap .i64 (b47.toNat:Int))<p0)))))))))))
instance pA (n:Nat) (p0:Int) (p1:P):CT Tryz.prog 306 [.ptr 0 0,I p0] [.box [aZ p1.S,I p1.At,Bo p1.cF]] (eP n p0 p1) (λx=>I x.1) (λx=>[.box [aZ x.2.S,I x.2.At,Bo x.2.cF]]):=by unfold eP;exact zz Tryz.func306
def pZ (n:Nat) (p0:bM):U (bM):=
 gP (λ(v4:bM×Int)=>[(0,.agg (ej p0)),(1,.ptr 101 0),(2,.ptr 102 0),(3,I v4.2)]) (λ(v4:bM×Int)=>[(101,.box (ej v4.1)),(102,.box [Sc (.int .u64 0),Sc (.int .u64 0),Sc (.int .u64 0),Sc (.int .u64 0)])]) (λnext5 (v4:bM×Int)=>br (decide (v4.2<4)) (gd ((0:Int)<=v4.2/\v4.2<4) (gd ((0:Int)<=v4.2/\v4.2<4) (gd (J (v4.2+1)) (next5 ((bM.mk (eY (lh [v4.1.x0,v4.1.x1,v4.1.x2,v4.1.x3] v4.2 (yO .u64 (eY [v4.1.x0,v4.1.x1,v4.1.x2,v4.1.x3] v4.2))) 0) (eY (lh [v4.1.x0,v4.1.x1,v4.1.x2,v4.1.x3] v4.2 (yO .u64 (eY [v4.1.x0,v4.1.x1,v4.1.x2,v4.1.x3] v4.2))) 1) (eY (lh [v4.1.x0,v4.1.x1,v4.1.x2,v4.1.x3] v4.2 (yO .u64 (eY [v4.1.x0,v4.1.x1,v4.1.x2,v4.1.x3] v4.2))) 2) (eY (lh [v4.1.x0,v4.1.x1,v4.1.x2,v4.1.x3] v4.2 (yO .u64 (eY [v4.1.x0,v4.1.x1,v4.1.x2,v4.1.x3] v4.2))) 3)),v4.2+1))))) (.ok (v4.1))) n (p0,0)
instance Cy (n:Nat) (p0:bM):CT Tryz.prog 308 [.agg (ej p0)] [] (pZ n p0) (λx=>.agg (ej x)) (λ_=>[]):=by unfold pZ;exact zz Tryz.func308
def mC (n:Nat) (p0:P):U (ax×P):=
 U.bind (bH 93 p0) λy4=>br y4.1 (.ok ((ax.mk 0 0 0 0 0 []),y4.2)) (U.bind (bH 94 y4.2) λy8=>jn (λ(v10:P×bM)=>br y8.1 (U.bind (pZ n v10.2) λy16=>.ok ((ax.mk 2 y16.x0 y16.x1 y16.x2 y16.x3 []),v10.1)) (.ok ((ax.mk 2 v10.2.x0 v10.2.x1 v10.2.x2 v10.2.x3 []),v10.1))) λj11=>iter (λnext20 (v19:P×bM)=>br (!v19.1.cF) (U.bind (eP n 0 v19.1) λy26=>jn (λ(v28:P×Int)=>br (!v28.1.cF) (U.bind (gQ n y26.1 v28.2) λy34=>U.bind (lA n v19.2 y34) λy35=>U.bind (bH 93 v28.1) λy37=>br y37.1 (j11 (y37.2,y35)) (next20 (y37.2,y35))) (U.bind (bH 93 v28.1) λy40=>br y40.1 (j11 (y40.2,v19.2)) (next20 (y40.2,v19.2)))) λj29=>U.bind (bH 45 y26.2) λy43=>br y43.1 (U.bind (eP n y26.1 y43.2) λy45=>j29 (y45.2,y45.1)) (j29 (y43.2,y26.1))) (j11 (v19.1,v19.2))) n (y8.2,(bM.mk 0 0 0 0)))
instance uL (n:Nat) (p0:P):CT Tryz.prog 285 [.ptr 0 0] [.box [aZ p0.S,I p0.At,Bo p0.cF]] (mC n p0) (λx=>.agg (ct x.1)) (λx=>[.box [aZ x.2.S,I x.2.At,Bo x.2.cF]]):=by
 refine zC Tryz.func285 O λr hp h hr E hE=>ag λ_ hK1=>ab (aM 102 (hE _ O) O4 O ?_);refine zQ hK1 (ag λ_ hK2=>ag λ_ hK3=>ab (zm O (zk hp hr h [0] Tryz.call220 (cJ 93 p0) O (λ_=>rfl) λy4 h=>zQ hK3 (zB O h (λ_ h=>?_) λ_ h=>?_))))
 ·refine ag λ_ hK6=>ab (aB (cj O O) O ?_);refine zs O (zQ hK6 (bC (iR 102 O O) ?_));exact aN (zX (.cons (aU O O O) .nil) h O)
 refine aD (hK2 _ _ (ag λ_ hK7=>ab (zm O (zk hp hr h [0] Tryz.call220 (cJ 94 y4.2) O (λ_=>rfl) λy8 h=>za O (zQ hK7 (ag λ_ hK9=>ab (aM 104 (hE _ O) O4 O ?_)))))));refine zQ hK9 (zM h (λ(v10:P×bM)=>[(0,.ptr 0 0),(2,.ptr 102 0),(3,Bo y8.1),(4,.ptr 104 0)]) (λ(v10:P×bM)=>[(0,.box [aZ v10.1.S,I v10.1.At,Bo v10.1.cF]),(102,.box [I 0,Sc (.int .u64 0),Sc (.int .u64 0),Sc (.int .u64 0),Sc (.int .u64 0),nSl]),(104,.box (ej v10.2))]) (λv10 h=>?_) λ_ _ hK12 h=>?_)
 ·refine ag λ_ hK13=>ag λ_ hK14=>ab (zm O (zQ hK14 (zB O h (λ_ h=>?_) λ_ h=>?_)))
  ·refine ab (zA O ?_);refine zk hp hr h [] Tryz.call308 (Cy n v10.2) O (λ_=>rfl) λy16 h=>zs O (zQ hK13 (ag λ_ hK17=>ab (zA O ?_)));refine aB (cj O O) O ?_;refine zs O (zQ hK17 (bC (iR 102 O O) ?_));exact aN (zX (.cons (aU O O O) .nil) h O)
  refine aD (hK13 _ _ (ag λ_ hK18=>ab (zA O ?_)));refine aB (cj O O) O ?_;refine zs O (zQ hK18 (bC (iR 102 O O) ?_));exact aN (zX (.cons (aU O O O) .nil) h O)
 refine ba (zL hr h (λ(v19:P×bM)=>[(0,.ptr 0 0),(2,.ptr 102 0),(3,Bo y8.1),(4,.ptr 104 0)]) (λ(v19:P×bM)=>[(0,.box [aZ v19.1.S,I v19.1.At,Bo v19.1.cF]),(102,.box [I 0,Sc (.int .u64 0),Sc (.int .u64 0),Sc (.int .u64 0),Sc (.int .u64 0),nSl]),(104,.box (ej v19.2))]) O λ_ v19 _ hK21 h=>ag λ_ hK22=>ag λ_ hK23=>ab (zm O (zn O (zf O (zl O (aB (iX O) O (zQ hK23 (zB O h (λ_ h=>?_) λ_ h=>?_))))))))
 ·refine aD (hK22 _ _ (ba (ag λ_ hK25=>ab (zm O (zk hp hr h [0] Tryz.call306 (pA n 0 v19.1) O (λ_=>rfl) λy26 h=>za O (zQ hK25 (ag λ_ hK27=>ab (zm O (za O (zQ hK27 (zM h (λ(v28:P×Int)=>[(0,.ptr 0 0),(2,.ptr 102 0),(3,Bo y8.1),(4,.ptr 104 0),(5,I y26.1),(6,I v28.2)]) (λ(v28:P×Int)=>[(0,.box [aZ v28.1.S,I v28.1.At,Bo v28.1.cF]),(102,.box [I 0,Sc (.int .u64 0),Sc (.int .u64 0),Sc (.int .u64 0),Sc (.int .u64 0),nSl]),(104,.box (ej v19.2))]) (λv28 h=>?_) λ_ _ hK30 h=>?_)))))))))))
  ·refine ag λ_ hK31=>ag λ_ hK32=>ab (zm O (zn O (zf O (zl O (aB (iX O) O (zQ hK32 (zB O h (λ_ h=>?_) λ_ h=>?_)))))))
   ·refine cE [0,1,2,3,4,5] O (by kernel_rfl) (zD O (lM O O O O) O ?_);refine zD O (aK O) O (zD O (aK O) O (hO O (da O) hr h [] Tryz.call284 (ow n y26.1 v28.2) ⟨O,O,O,O,O,O,trivial⟩ O O (λ_=>O3) (λ_=>O2) hp (λy34 h=>⟨db ⟨trivial,⟨trivial,⟨⟨⟨_,O,bh.le_refl _⟩,trivial⟩,trivial⟩⟩⟩,?_⟩)));refine hO O (da O) hr h [] Tryz.call307 (Df n v19.2 y34) ⟨O,O,O,O,O,O,trivial⟩ O O (λ_=>O3) (λ_=>O2) hp (λy35 h=>⟨aQ O,?_⟩);refine cg O O8 O (λe5 he=>⟨aQ O,?_⟩);subst he;refine eR (hK31 _ _ (ag λ_ hK36=>ab (zm O (zk hp hr h [0] Tryz.call220 (cJ 93 v28.1) O (λ_=>rfl) λy37 h=>zQ hK36 (zB O h (λ_ h=>?_) λ_ h=>?_)))))
    ·exact cx (hK12 _ _ _ h O)
    exact aD (hK21 _ _ _ h O)
   refine aD (hK31 _ _ (ag λ_ hK39=>ab (zm O (zk hp hr h [0] Tryz.call220 (cJ 93 v28.1) O (λ_=>rfl) λy40 h=>zQ hK39 (zB O h (λ_ h=>?_) λ_ h=>?_)))))
   ·exact cx (hK12 _ _ _ h O)
   exact aD (hK21 _ _ _ h O)
  refine ag λ_ hK42=>ab (zm O (zk hp hr h [0] Tryz.call220 (cJ 45 y26.2) O (λ_=>rfl) λy43 h=>zQ hK42 (zB O h (λ_ h=>?_) λ_ h=>?_)))
  ·exact ab (zm O (zm O (zk hp hr h [0] Tryz.call306 (pA n y26.1 y43.2) O (λ_=>rfl) λy45 h=>za O (aH (hK30 _ _ _ h O)))))
  exact aD (hK30 _ _ _ h O)
 exact cx (hK12 _ _ _ h O)
def jT (p0:Int) (p1:(List ax)):U (ax):=
 br ((List.length p1:Int)==1) (el p1 0 λx6=>.ok (x6)) (.ok ((ax.mk p0 0 0 0 0 p1)))
instance nW (p0:Int) (p1:(List ax)):CT Tryz.prog 221 [I p0,.pv (.sl (List.length p1) (ax.Cs p1))] [] (jT p0 p1) (λx=>.agg (ct x)) (λ_=>[]):=by unfold jT;exact zz Tryz.func221
structure bZ where
 bQ:P->U (ax×P)
 fo:P->U (ax×P)
 c7:P->U (ax×P)
 cV:P->U (ax×P)
def fR (n:Nat) (T:bZ) (p0:P):U (ax×P):=
 U.bind (T.cV p0) λy3=>iter (λnext6 (v5:P×(List ax))=>U.bind (bH 124 v5.1) λy10=>br y10.1 (U.bind (T.cV y10.2) λy12=>gd (mV 64 (List.length v5.2) (List.length [y12.1])) (next6 (y12.2,v5.2++[y12.1]))) (U.bind (jT 4 v5.2) λy15=>.ok (y15,y10.2))) n (y3.2,[y3.1])
def jL (n:Nat) (T:bZ) (p0:P):U (ax×P):=
 U.bind (bH 92 p0) λy4=>br y4.1 (U.bind (fL n y4.2) λy7=>.ok (y7.1,y7.2)) (U.bind (bH 46 y4.2) λy9=>br y9.1 (U.bind (gQ n 0 255) λy12=>.ok ((ax.mk 2 y12.x0 y12.x1 y12.x2 y12.x3 []),y9.2)) (U.bind (bH 91 y9.2) λy14=>br y14.1 (U.bind (mC n y14.2) λy17=>.ok (y17.1,y17.2)) (U.bind (bH 40 y14.2) λy19=>br y19.1 (U.bind (bH 41 y19.2) λy23=>br y23.1 (.ok ((ax.mk 1 0 0 0 0 []),y23.2)) (U.bind (T.bQ y23.2) λy27=>U.bind (bH 41 y27.2) λy30=>br (!y30.1) (.ok (y27.1,(P.mk y30.2.S y30.2.At true))) (.ok (y27.1,y30.2)))) (jn (λ(v35:P×Bool)=>br v35.2 (.ok ((ax.mk 0 0 0 0 0 []),(P.mk v35.1.S v35.1.At true))) (gd (J (v35.1.At+1)) (gd (J ((v35.1.At+1) - 1)) (el v35.1.S ((v35.1.At+1) - 1) λb45=>U.bind (gQ n (IntKind.wrap .i64 (b45.toNat:Int)) (IntKind.wrap .i64 (b45.toNat:Int))) λy50=>.ok ((ax.mk 2 y50.x0 y50.x1 y50.x2 y50.x3 []),(P.mk v35.1.S (v35.1.At+1) v35.1.cF)))))) λj36=>U.bind (dM y19.2) λy51=>br (!y51.1) (j36 (y51.2,true)) (el y51.2.S y51.2.At λb53=>br (decide ((b53.toNat:Int)<32)) (j36 (y51.2,true)) (el y51.2.S y51.2.At λb58=>br (decide ((b58.toNat:Int)>126)) (j36 (y51.2,true)) (el y51.2.S y51.2.At λb63=>U.bind (kc n (b63.toNat:Int)) λy67=>j36 (y51.2,y67))))))))
def jm (n:Nat) (T:bZ) (p0:P):U (ax×P):=
 U.bind (T.fo p0) λy3=>iter (λnext6 (v5:P×ax)=>br (!v5.1.cF) (U.bind (bH 42 v5.1) λy12=>br y12.1 (next6 (y12.2,(ax.mk 5 0 0 0 0 [v5.2]))) (U.bind (bH 43 y12.2) λy15=>br y15.1 (next6 (y15.2,(ax.mk 3 0 0 0 0 [v5.2,(ax.mk 5 0 0 0 0 [v5.2])]))) (U.bind (bH 63 y15.2) λy18=>br y18.1 (next6 (y18.2,(ax.mk 4 0 0 0 0 [v5.2,(ax.mk 1 0 0 0 0 [])]))) (.ok (v5.2,y18.2))))) (.ok (v5.2,v5.1))) n (y3.2,y3.1)
def iu (n:Nat) (T:bZ) (p0:P):U (ax×P):=
 U.bind (T.c7 p0) λy3=>iter (λnext6 (v5:P×(List ax))=>U.bind (dM v5.1) λy10=>br y10.1 (el y10.2.S y10.2.At λb12=>br ((b12.toNat:Int) !=124) (el y10.2.S y10.2.At λb17=>br ((b17.toNat:Int) !=41) (U.bind (T.c7 y10.2) λy22=>gd (mV 64 (List.length v5.2) (List.length [y22.1])) (next6 (y22.2,v5.2++[y22.1]))) (U.bind (jT 3 v5.2) λy25=>.ok (y25,y10.2))) (U.bind (jT 3 v5.2) λy27=>.ok (y27,y10.2))) (U.bind (jT 3 v5.2) λy29=>.ok (y29,y10.2))) n (y3.2,[y3.1])
def bb:Nat->bZ
 | 0=>⟨λ_=>.stuck,λ_=>.stuck,λ_=>.stuck,λ_=>.stuck⟩
 | n+1=>⟨fR n (bb n),jL n (bb n),jm n (bb n),iu n (bb n)⟩
def bQ (n:Nat) (p0:P):U (ax×P):=(bb n).bQ p0
def fo (n:Nat) (p0:P):U (ax×P):=(bb n).fo p0
def c7 (n:Nat) (p0:P):U (ax×P):=(bb n).c7 p0
def cV (n:Nat) (p0:P):U (ax×P):=(bb n).cV p0
class cm (T:bZ):Prop where
 bQ:∀ (p0:P),CT Tryz.prog 180 [.ptr 0 0] [.box [aZ p0.S,I p0.At,Bo p0.cF]] (T.bQ p0) (λx=>.agg (ct x.1)) (λx=>[.box [aZ x.2.S,I x.2.At,Bo x.2.cF]])
 fo:∀ (p0:P),CT Tryz.prog 267 [.ptr 0 0] [.box [aZ p0.S,I p0.At,Bo p0.cF]] (T.fo p0) (λx=>.agg (ct x.1)) (λx=>[.box [aZ x.2.S,I x.2.At,Bo x.2.cF]])
 c7:∀ (p0:P),CT Tryz.prog 245 [.ptr 0 0] [.box [aZ p0.S,I p0.At,Bo p0.cF]] (T.c7 p0) (λx=>.agg (ct x.1)) (λx=>[.box [aZ x.2.S,I x.2.At,Bo x.2.cF]])
 cV:∀ (p0:P),CT Tryz.prog 219 [.ptr 0 0] [.box [aZ p0.S,I p0.At,Bo p0.cF]] (T.cV p0) (λx=>.agg (ct x.1)) (λx=>[.box [aZ x.2.S,I x.2.At,Bo x.2.cF]])
attribute [instance] cm.bQ cm.fo cm.c7 cm.cV
theorem pn (n:Nat) (T:bZ) [hT:cm T] (p0:P):CT Tryz.prog 180 [.ptr 0 0] [.box [aZ p0.S,I p0.At,Bo p0.cF]] (fR n T p0) (λx=>.agg (ct x.1)) (λx=>[.box [aZ x.2.S,I x.2.At,Bo x.2.cF]]):=by
 refine zC Tryz.func180 O λr hp h hr E hE=>ag λ_ hK1=>ab (aM 102 (hE _ O) O4 O ?_);refine zQ hK1 (ag λ_ hK2=>ab (zm O (zk hp hr h [0] Tryz.call219 (hT.cV p0) O (λ_=>rfl) λy3 h=>Dc 106 [y3.1] ax.bq ax.cw (hE _ O) O4 O3 O ?_)));refine za O (y (lk 106 10003 [(0,.ptr 0 0),(2,.ptr 102 0),(3,.arr 10003 (List.length [y3.1]))] [(0,.box [aZ y3.2.S,I y3.2.At,Bo y3.2.cF]),(102,.box [I 0,Sc (.int .u64 0),Sc (.int .u64 0),Sc (.int .u64 0),Sc (.int .u64 0),nSl])] (hE _ O) O O O2 ⟨⟨_,O,O,O⟩,⟨_,O,O,O⟩,⟨_,O,O,O⟩,trivial⟩ ⟨⟨_,O,O,O,O,O⟩,⟨_,O,O,O,O,O⟩,trivial⟩) ?_);refine zQ hK2 (ag λ_ hK4=>ba (zL hr h (λ(v5:P×(List ax))=>[(0,.ptr 0 0),(2,.ptr 102 0),(3,.arr 10003 (List.length v5.2))]) (λ(v5:P×(List ax))=>[(0,.box [aZ v5.1.S,I v5.1.At,Bo v5.1.cF]),(102,.box [I 0,Sc (.int .u64 0),Sc (.int .u64 0),Sc (.int .u64 0),Sc (.int .u64 0),nSl]),(10003,.app 137 6 (ax.Cs v5.2))]) O λ_ v5 _ hK7 h=>ag λ_ hK8=>ag λ_ hK9=>ab (zm O (zk hp hr h [0] Tryz.call220 (cJ 124 v5.1) O (λ_=>rfl) λy10 h=>zQ hK9 (zB O h (λ_ h=>?_) λ_ h=>?_)))))
 ·refine aD (hK8 _ _ (ba (ab (zm O (zm O (zk hp hr h [0] Tryz.call219 (hT.cV y10.2) O (λ_=>rfl) λy12 h=>fY [y12.1] ax.bq O2 O ?_))))));refine zd hr h λhg13 h=>ng 113 ⟨kI.h,fg.h,ax.bq,ax.cw,ax.kK,hE _ O,O,O,(.inl O),O3,hg13⟩ O ?_;refine za O (y (lk 113 10003 [(0,.ptr 0 0),(2,.ptr 102 0),(3,.arr 10003 (List.length (v5.2++[y12.1])))] [(0,.box [aZ y12.2.S,I y12.2.At,Bo y12.2.cF]),(102,.box [I 0,Sc (.int .u64 0),Sc (.int .u64 0),Sc (.int .u64 0),Sc (.int .u64 0),nSl])] (hE _ O) O O O2 ⟨⟨_,O,O,O⟩,⟨_,O,O,O⟩,⟨_,O,O,O⟩,trivial⟩ ⟨⟨_,O,O,O,O,O⟩,⟨_,O,O,O,O,O⟩,trivial⟩) ?_);exact aH (hK7 _ _ _ h O)
 refine cx (hK4 _ _ (ag λ_ hK14=>ab (aB (lO ax.bq ax.cw O O O) O ?_)));exact zk hp hr h [] Tryz.call221 (nW 4 v5.2) O (λ_=>rfl) λy15 h=>zs O (zQ hK14 (aN (zX (.cons (aU O O O) .nil) h O)))
theorem tK (n:Nat) (T:bZ) [hT:cm T] (p0:P):CT Tryz.prog 267 [.ptr 0 0] [.box [aZ p0.S,I p0.At,Bo p0.cF]] (jL n T p0) (λx=>.agg (ct x.1)) (λx=>[.box [aZ x.2.S,I x.2.At,Bo x.2.cF]]):=by
 refine zC Tryz.func267 O λr hp h hr E hE=>ag λ_ hK1=>ab (aM 102 (hE _ O) O4 O ?_);refine zQ hK1 (ag λ_ hK2=>ba (ag λ_ hK3=>ab (zm O (zk hp hr h [0] Tryz.call220 (cJ 92 p0) O (λ_=>rfl) λy4 h=>za O (zQ hK3 (zB O h (λ_ h=>?_) λ_ h=>?_))))))
 ·exact ag λ_ hK6=>ab (zm O (zk hp hr h [0] Tryz.call283 (sU n y4.2) O (λ_=>rfl) λy7 h=>zs O (zQ hK6 (aN (zX (.cons (aU O O O) .nil) h O)))))
 refine ag λ_ hK8=>ab (zm O (zk hp hr h [0] Tryz.call220 (cJ 46 y4.2) O (λ_=>rfl) λy9 h=>za O (zQ hK8 (zB O h (λ_ h=>?_) λ_ h=>?_))))
 ·refine ag λ_ hK11=>ab (zk hp hr h [] Tryz.call284 (ow n 0 255) O (λ_=>rfl) λy12 h=>aB (cj O O) O ?_);refine zs O (zQ hK11 (bC (iR 102 O O) ?_));exact aN (zX (.cons (aU O O O) .nil) h O)
 refine ag λ_ hK13=>ab (zm O (zk hp hr h [0] Tryz.call220 (cJ 91 y9.2) O (λ_=>rfl) λy14 h=>za O (zQ hK13 (zB O h (λ_ h=>?_) λ_ h=>?_))))
 ·exact ag λ_ hK16=>ab (zm O (zk hp hr h [0] Tryz.call285 (uL n y14.2) O (λ_=>rfl) λy17 h=>zs O (zQ hK16 (aN (zX (.cons (aU O O O) .nil) h O)))))
 refine ag λ_ hK18=>ab (zm O (zk hp hr h [0] Tryz.call220 (cJ 40 y14.2) O (λ_=>rfl) λy19 h=>za O (zQ hK18 (zB O h (λ_ h=>?_) λ_ h=>?_))))
 ·refine ag λ_ hK21=>ag λ_ hK22=>ab (zm O (zk hp hr h [0] Tryz.call220 (cJ 41 y19.2) O (λ_=>rfl) λy23 h=>zQ hK22 (zB O h (λ_ h=>?_) λ_ h=>?_)))
  ·refine ag λ_ hK25=>ab (aB (cj O O) O ?_);refine zs O (zQ hK25 (bC (iR 102 O O) ?_));exact aN (zX (.cons (aU O O O) .nil) h O)
  refine aD (hK21 _ _ (ag λ_ hK26=>ab (zm O (zk hp hr h [0] Tryz.call180 (hT.bQ y23.2) O (λ_=>rfl) λy27 h=>aM 103 (hE _ O) O4 O ?_))));refine zs O (zQ hK26 (ag λ_ hK28=>ag λ_ hK29=>ab (zm O (zk hp hr h [0] Tryz.call220 (cJ 41 y27.2) O (λ_=>rfl) λy30 h=>aB (iX O) O (zQ hK29 (zB O h (λ_ h=>?_) λ_ h=>?_))))))
  ·refine ab (zm O (zn O (zf O (zs O (zQ hK28 (ag λ_ hK32=>ab (zA O ?_)))))));exact zs O (zQ hK32 (aN (zX (.cons (aU O O O) .nil) h O)))
  refine aD (hK28 _ _ (ag λ_ hK33=>ab (zA O ?_)));exact zs O (zQ hK33 (aN (zX (.cons (aU O O O) .nil) h O)))
 refine aD (hK2 _ _ (ag λ_ hK34=>zM h (λ(v35:P×Bool)=>[(0,.ptr 0 0),(2,.ptr 102 0),(73,Bo v35.2)]) (λ(v35:P×Bool)=>[(0,.box [aZ v35.1.S,I v35.1.At,Bo v35.1.cF]),(102,.box [I 0,Sc (.int .u64 0),Sc (.int .u64 0),Sc (.int .u64 0),Sc (.int .u64 0),nSl])]) (λv35 h=>?_) λ_ _ hK37 h=>?_))
 ·refine zB O h (λ_ h=>?_) λ_ h=>?_
  ·refine ag λ_ hK39=>ab (zm O (zn O (zf O (zs O (zQ hK39 (ag λ_ hK40=>ab (aB (cj O O) O ?_)))))));refine zs O (zQ hK40 (bC (iR 102 O O) ?_));exact aN (zX (.cons (aU O O O) .nil) h O)
  refine aD (hK34 _ _ (ag λ_ hK41=>ab (zm O (zm O (zn O (zf O (zl O (zd hr h λhg42 h=>zo hg42 O (zn O (zf O (zs O (zQ hK41 (ag λ_ hK43=>cE [0,1,2,3,4,5,6,7,8,9,10,11] O (by kernel_rfl) (zD O (aK O) O (zD O (eH O) O (zD O (fa O) O (zD O (dZ O O O) O (zD O (aK O) O (zD O (eH O) O (zD O (fa O) O (zD O (dZ O O O) O ?_)))))))))))))))))))));refine zd hr h λhg44 h=>zD O (uU O O hg44) O (ze hr h λb45 h46 h47 h48 h=>zD O (gi O O h46 h48) O (zD O (lN O) O (mu O O O (aQ O) O (eR (hK43 _ _ (ag λ_ hK49=>ab (zm O (zm O (zk hp hr h [] Tryz.call284 (ow n (IntKind.wrap .i64 (b45.toNat:Int)) (IntKind.wrap .i64 (b45.toNat:Int))) O (λ_=>rfl) λy50 h=>aB (cj O O) O ?_)))))))));refine zs O (zQ hK49 (bC (iR 102 O O) ?_));exact aN (zX (.cons (aU O O O) .nil) h O)
 refine cE [0,1,2,3,4,5,6,7,8,9,10,11,12,13,14,15,16,17,18,19,20,21,22,23,24,25,26,27,28,29,30,31,32,33,34,35,36,37,38] O (by kernel_rfl) (zD O (aK O) O (hO O (da O) hr h [0] Tryz.call246 (mI y19.2) ⟨O,O,O,O,O,O,trivial⟩ O O (λ_=>O3) (λ_=>O2) hp (λy51 h=>⟨aQ O,?_⟩)));refine zD O (iX O) O (zD O (aK O) O (zb (!y51.1) (λhb52=>?_) λhb52=>?_))
 ·refine z1 hb52 h λh=>bR hb52 O O2 O2 ?_;refine bR hb52 O O2 O2 ?_;refine bR hb52 O O2 O2 ?_;refine bR hb52 O O2 O2 ?_;refine bR hb52 O O2 O2 ?_;refine bR hb52 O O2 O2 ?_;refine bR hb52 O O2 O2 ?_;refine bR hb52 O O2 O2 ?_;refine bR hb52 O O2 O2 ?_;refine bR hb52 O O2 O2 ?_;refine zD O (iN hb52 O O) O (zD O (aK O) O (bR O O O2 O2 ?_));refine bR O O O2 O2 ?_;refine bR O O O2 O2 ?_;refine bR O O O2 O2 ?_;refine bR O O O2 O2 ?_;refine bR O O O2 O2 ?_;refine bR O O O2 O2 ?_;refine bR O O O2 O2 ?_;refine bR O O O2 O2 ?_;refine bR O O O2 O2 ?_;refine zD O (tP O O) O (zD O (aK O) O (bR O O O2 O2 ?_));refine bR O O O2 O2 ?_;refine bR O O O2 O2 ?_;refine bR O O O2 O2 ?_;refine bR O O O2 O2 ?_;refine bR O O O2 O2 ?_;refine bR O O O2 O2 ?_;refine bR O O O2 O2 ?_;refine bR O O O2 O2 ?_;refine uC O O O2 O2 ?_;exact zD O (tP O O) O (eR (hK37 _ _ _ h O))
 refine z2 hb52 h λh=>dr hb52 O O2 (aK O) O3 ?_;refine dr hb52 O O2 (eH O) O3 ?_;refine dr hb52 O O2 (fa O) O3 ?_;refine dr hb52 O O2 (dZ O O O) O3 ?_;refine dr hb52 O O2 (aK O) O3 ?_;refine dr hb52 O O2 (eH O) O3 ?_;refine dr hb52 O O2 (fa O) O3 ?_;refine dr hb52 O O2 (dZ O O O) O3 ?_;refine ze hr h λb53 h54 h55 h56 h=>dr hb52 O O2 (gi O O h54 h56) O3 ?_;refine dr hb52 O O2 (dT O O O) O3 ?_;refine zD O (ja hb52 O O) O (zD O (aK O) O (zb (decide ((b53.toNat:Int)<32)) (λhb57=>?_) λhb57=>?_))
 ·refine z1 hb57 h λh=>bR hb57 O O2 O2 ?_;refine bR hb57 O O2 O2 ?_;refine bR hb57 O O2 O2 ?_;refine bR hb57 O O2 O2 ?_;refine bR hb57 O O2 O2 ?_;refine bR hb57 O O2 O2 ?_;refine bR hb57 O O2 O2 ?_;refine bR hb57 O O2 O2 ?_;refine bR hb57 O O2 O2 ?_;refine bR hb57 O O2 O2 ?_;refine zD O (iN hb57 O O) O (zD O (aK O) O (bR O O O2 O2 ?_));refine bR O O O2 O2 ?_;refine bR O O O2 O2 ?_;refine bR O O O2 O2 ?_;refine bR O O O2 O2 ?_;refine bR O O O2 O2 ?_;refine bR O O O2 O2 ?_;refine bR O O O2 O2 ?_;refine bR O O O2 O2 ?_;refine uC O O O2 O2 ?_;exact zD O (tP O O) O (eR (hK37 _ _ _ h O))
 refine z2 hb57 h λh=>dr hb57 O O2 (aK O) O3 ?_;refine dr hb57 O O2 (eH O) O3 ?_;refine dr hb57 O O2 (fa O) O3 ?_;refine dr hb57 O O2 (dZ O O O) O3 ?_;refine dr hb57 O O2 (aK O) O3 ?_;refine dr hb57 O O2 (eH O) O3 ?_;refine dr hb57 O O2 (fa O) O3 ?_;refine dr hb57 O O2 (dZ O O O) O3 ?_;refine ze hr h λb58 h59 h60 h61 h=>dr hb57 O O2 (gi O O h59 h61) O3 ?_;refine dr hb57 O O2 (dT O O O) O3 ?_;refine zD O (ja hb57 O O) O (zD O (aK O) O (zb (decide ((b58.toNat:Int)>126)) (λhb62=>?_) λhb62=>?_))
 ·refine z1 hb62 h λh=>bR hb62 O O2 O2 ?_;refine bR hb62 O O2 O2 ?_;refine bR hb62 O O2 O2 ?_;refine bR hb62 O O2 O2 ?_;refine bR hb62 O O2 O2 ?_;refine bR hb62 O O2 O2 ?_;refine bR hb62 O O2 O2 ?_;refine bR hb62 O O2 O2 ?_;refine bR hb62 O O2 O2 ?_;refine uC hb62 O O2 O2 ?_;exact zD O (iN hb62 O O) O (eR (hK37 _ _ _ h O))
 refine z2 hb62 h λh=>dr hb62 O O2 (aK O) O3 ?_;refine dr hb62 O O2 (eH O) O3 ?_;refine dr hb62 O O2 (fa O) O3 ?_;refine dr hb62 O O2 (dZ O O O) O3 ?_;refine dr hb62 O O2 (aK O) O3 ?_;refine dr hb62 O O2 (eH O) O3 ?_;refine dr hb62 O O2 (fa O) O3 ?_;refine dr hb62 O O2 (dZ O O O) O3 ?_;refine ze hr h λb63 h64 h65 h66 h=>dr hb62 O O2 (gi O O h64 h66) O3 ?_;refine hO O (D4 hb62 O O2) hr h [] Tryz.call286 (sD n (b63.toNat:Int)) ⟨O,O,O,O,O,O,trivial⟩ O O (λ_=>O3) (λ_=>O2) hp (λy67 h=>⟨aQ O,?_⟩);exact zD O (ja hb62 O O) O (eR (hK37 _ _ _ h O))
theorem sV (n:Nat) (T:bZ) [hT:cm T] (p0:P):CT Tryz.prog 245 [.ptr 0 0] [.box [aZ p0.S,I p0.At,Bo p0.cF]] (jm n T p0) (λx=>.agg (ct x.1)) (λx=>[.box [aZ x.2.S,I x.2.At,Bo x.2.cF]]):=by
 refine zC Tryz.func245 O λr hp h hr E hE=>ag λ_ hK1=>ab (aM 102 (hE _ O) O4 O ?_);refine zQ hK1 (ag λ_ hK2=>ab (zm O (zk hp hr h [0] Tryz.call267 (hT.fo p0) O (λ_=>rfl) λy3 h=>aM 103 (hE _ O) O4 O ?_)));refine zs O (zQ hK2 (ag λ_ hK4=>ba (zL hr h (λ(v5:P×ax)=>[(0,.ptr 0 0),(2,.ptr 102 0),(3,.ptr 103 0)]) (λ(v5:P×ax)=>[(0,.box [aZ v5.1.S,I v5.1.At,Bo v5.1.cF]),(102,.box [I 0,Sc (.int .u64 0),Sc (.int .u64 0),Sc (.int .u64 0),Sc (.int .u64 0),nSl]),(103,.box (ct v5.2))]) O λ_ v5 _ hK7 h=>ag λ_ hK8=>ag λ_ hK9=>ab (zm O (zn O (zf O (zl O (aB (iX O) O (zQ hK9 (zB O h (λ_ h=>?_) λ_ h=>?_))))))))))
 ·refine aD (hK8 _ _ (ba (ba (ag λ_ hK11=>ab (zm O (zk hp hr h [0] Tryz.call220 (cJ 42 v5.1) O (λ_=>rfl) λy12 h=>za O (zQ hK11 (zB O h (λ_ h=>?_) λ_ h=>?_))))))))
  ·refine ab (zA O ?_);refine fY [v5.2] ax.bq O2 O ?_;refine aB (cb O O O) O ?_;exact zs O (aH (hK7 _ _ _ h O))
  refine ag λ_ hK14=>ab (zm O (zk hp hr h [0] Tryz.call220 (cJ 43 y12.2) O (λ_=>rfl) λy15 h=>za O (zQ hK14 (zB O h (λ_ h=>?_) λ_ h=>?_))))
  ·refine ab (zA O ?_);refine zA O ?_;refine fY [v5.2] ax.bq O2 O ?_;refine aB (cb O O O) O ?_;refine fY [v5.2,(ax.mk 5 0 0 0 0 [v5.2])] ax.bq O2 O ?_;refine aB (cb O O O) O ?_;exact zs O (aH (hK7 _ _ _ h O))
  refine ag λ_ hK17=>ab (zm O (zk hp hr h [0] Tryz.call220 (cJ 63 y15.2) O (λ_=>rfl) λy18 h=>za O (zQ hK17 (zB O h (λ_ h=>?_) λ_ h=>?_))))
  ·refine ab (zA O ?_);refine aB (cb O O O) O ?_;refine fY [v5.2,(ax.mk 1 0 0 0 0 [])] ax.bq O2 O ?_;refine aB (cb O O O) O ?_;exact zs O (aH (hK7 _ _ _ h O))
  refine ag λ_ hK20=>ab (zA O ?_);exact zs O (zQ hK20 (aN (zX (.cons (aU O O O) .nil) h O)))
 refine cx (hK4 _ _ (ag λ_ hK21=>ab (zA O ?_)));exact zs O (zQ hK21 (aN (zX (.cons (aU O O O) .nil) h O)))
theorem ru (n:Nat) (T:bZ) [hT:cm T] (p0:P):CT Tryz.prog 219 [.ptr 0 0] [.box [aZ p0.S,I p0.At,Bo p0.cF]] (iu n T p0) (λx=>.agg (ct x.1)) (λx=>[.box [aZ x.2.S,I x.2.At,Bo x.2.cF]]):=by
 refine zC Tryz.func219 O λr hp h hr E hE=>ag λ_ hK1=>ab (aM 102 (hE _ O) O4 O ?_);refine zQ hK1 (ag λ_ hK2=>ab (zm O (zk hp hr h [0] Tryz.call245 (hT.c7 p0) O (λ_=>rfl) λy3 h=>Dc 106 [y3.1] ax.bq ax.cw (hE _ O) O4 O3 O ?_)));refine za O (y (lk 106 10003 [(0,.ptr 0 0),(2,.ptr 102 0),(3,.arr 10003 (List.length [y3.1]))] [(0,.box [aZ y3.2.S,I y3.2.At,Bo y3.2.cF]),(102,.box [I 0,Sc (.int .u64 0),Sc (.int .u64 0),Sc (.int .u64 0),Sc (.int .u64 0),nSl])] (hE _ O) O O O2 ⟨⟨_,O,O,O⟩,⟨_,O,O,O⟩,⟨_,O,O,O⟩,trivial⟩ ⟨⟨_,O,O,O,O,O⟩,⟨_,O,O,O,O,O⟩,trivial⟩) ?_);refine zQ hK2 (ag λ_ hK4=>ba (zL hr h (λ(v5:P×(List ax))=>[(0,.ptr 0 0),(2,.ptr 102 0),(3,.arr 10003 (List.length v5.2))]) (λ(v5:P×(List ax))=>[(0,.box [aZ v5.1.S,I v5.1.At,Bo v5.1.cF]),(102,.box [I 0,Sc (.int .u64 0),Sc (.int .u64 0),Sc (.int .u64 0),Sc (.int .u64 0),nSl]),(10003,.app 137 6 (ax.Cs v5.2))]) O λ_ v5 _ hK7 h=>ag λ_ hK8=>ag λ_ hK9=>cE [0,1,2,3,4,5,6,7,8,9,10,11,12,13,14,15,16,17,18,19,20,21,22,23,24,25] O (by kernel_rfl) (zD O (aK O) O (hO O (da O) hr h [0] Tryz.call246 (mI v5.1) ⟨O,O,O,O,O,O,trivial⟩ O O (λ_=>O3) (λ_=>O2) hp (λy10 h=>⟨aQ O,?_⟩)))));refine zD O (aK O) O (zb y10.1 (λhb11=>?_) λhb11=>?_)
 ·refine z1 hb11 h λh=>dr hb11 O O2 (aK O) O3 ?_;refine dr hb11 O O2 (eH O) O3 ?_;refine dr hb11 O O2 (fa O) O3 ?_;refine dr hb11 O O2 (dZ O O O) O3 ?_;refine dr hb11 O O2 (aK O) O3 ?_;refine dr hb11 O O2 (eH O) O3 ?_;refine dr hb11 O O2 (fa O) O3 ?_;refine dr hb11 O O2 (dZ O O O) O3 ?_;refine ze hr h λb12 h13 h14 h15 h=>dr hb11 O O2 (gi O O h13 h15) O3 ?_;refine dr hb11 O O2 (dT O O O) O3 ?_;refine zD O (iN hb11 O O) O (zD O (aK O) O (zb ((b12.toNat:Int) !=124) (λhb16=>?_) λhb16=>?_))
  ·refine z1 hb16 h λh=>dr hb16 O O2 (aK O) O3 ?_;refine dr hb16 O O2 (eH O) O3 ?_;refine dr hb16 O O2 (fa O) O3 ?_;refine dr hb16 O O2 (dZ O O O) O3 ?_;refine dr hb16 O O2 (aK O) O3 ?_;refine dr hb16 O O2 (eH O) O3 ?_;refine dr hb16 O O2 (fa O) O3 ?_;refine dr hb16 O O2 (dZ O O O) O3 ?_;refine ze hr h λb17 h18 h19 h20 h=>dr hb16 O O2 (gi O O h18 h20) O3 ?_;refine dr hb16 O O2 (dT O O O) O3 ?_;refine zD O (iN hb16 O O) O (eR (hK9 _ _ (zB O h (λ_ h=>?_) λ_ h=>?_)))
   ·refine aD (hK8 _ _ (ba (ab (zm O (zm O (zk hp hr h [0] Tryz.call245 (hT.c7 y10.2) O (λ_=>rfl) λy22 h=>fY [y22.1] ax.bq O2 O ?_))))));refine zd hr h λhg23 h=>ng 137 ⟨kI.h,fg.h,ax.bq,ax.cw,ax.kK,hE _ O,O,O,(.inl O),O3,hg23⟩ O ?_;refine za O (y (lk 137 10003 [(0,.ptr 0 0),(2,.ptr 102 0),(3,.arr 10003 (List.length (v5.2++[y22.1])))] [(0,.box [aZ y22.2.S,I y22.2.At,Bo y22.2.cF]),(102,.box [I 0,Sc (.int .u64 0),Sc (.int .u64 0),Sc (.int .u64 0),Sc (.int .u64 0),nSl])] (hE _ O) O O O2 ⟨⟨_,O,O,O⟩,⟨_,O,O,O⟩,⟨_,O,O,O⟩,trivial⟩ ⟨⟨_,O,O,O,O,O⟩,⟨_,O,O,O,O,O⟩,trivial⟩) ?_);exact aH (hK7 _ _ _ h O)
   refine cx (hK4 _ _ (ag λ_ hK24=>ab (aB (lO ax.bq ax.cw O O O) O ?_)));exact zk hp hr h [] Tryz.call221 (nW 3 v5.2) O (λ_=>rfl) λy25 h=>zs O (zQ hK24 (aN (zX (.cons (aU O O O) .nil) h O)))
  refine z2 hb16 h λh=>bR hb16 O O2 O2 ?_;refine bR hb16 O O2 O2 ?_;refine bR hb16 O O2 O2 ?_;refine bR hb16 O O2 O2 ?_;refine bR hb16 O O2 O2 ?_;refine bR hb16 O O2 O2 ?_;refine bR hb16 O O2 O2 ?_;refine bR hb16 O O2 O2 ?_;refine bR hb16 O O2 O2 ?_;refine bR hb16 O O2 O2 ?_;refine zD O (ja hb16 O O) O (eR (hK9 _ _ (iz O (λhc=>?_) (λhc=>?_))))
  ·exact absurd (hc) (by simp)
  refine cx (hK4 _ _ (ag λ_ hK26=>ab (aB (lO ax.bq ax.cw O O O) O ?_)));exact zk hp hr h [] Tryz.call221 (nW 3 v5.2) O (λ_=>rfl) λy27 h=>zs O (zQ hK26 (aN (zX (.cons (aU O O O) .nil) h O)))
 refine z2 hb11 h λh=>bR hb11 O O2 O2 ?_;refine bR hb11 O O2 O2 ?_;refine bR hb11 O O2 O2 ?_;refine bR hb11 O O2 O2 ?_;refine bR hb11 O O2 O2 ?_;refine bR hb11 O O2 O2 ?_;refine bR hb11 O O2 O2 ?_;refine bR hb11 O O2 O2 ?_;refine bR hb11 O O2 O2 ?_;refine bR hb11 O O2 O2 ?_;refine zD O (ja hb11 O O) O (zD O (aK O) O (bR O O O2 O2 ?_));refine bR O O O2 O2 ?_;refine bR O O O2 O2 ?_;refine bR O O O2 O2 ?_;refine bR O O O2 O2 ?_;refine bR O O O2 O2 ?_;refine bR O O O2 O2 ?_;refine bR O O O2 O2 ?_;refine bR O O O2 O2 ?_;refine bR O O O2 O2 ?_;refine zD O (jN O O) O (eR (hK9 _ _ (iz O (λhc=>?_) (λhc=>?_))))
 ·exact absurd (hc) (by simp)
 refine cx (hK4 _ _ (ag λ_ hK28=>ab (aB (lO ax.bq ax.cw O O O) O ?_)));exact zk hp hr h [] Tryz.call221 (nW 3 v5.2) O (λ_=>rfl) λy29 h=>zs O (zQ hK28 (aN (zX (.cons (aU O O O) .nil) h O)))
theorem kx:∀ n,cm (bb n)
 | 0=>⟨λ_=>cd,λ_=>cd,λ_=>cd,λ_=>cd⟩
 | n+1=>have:=kx n;⟨λp0=>pn n _ p0,λp0=>tK n _ p0,λp0=>sV n _ p0,λp0=>ru n _ p0⟩
instance pR (n:Nat) (p0:P):CT Tryz.prog 180 [.ptr 0 0] [.box [aZ p0.S,I p0.At,Bo p0.cF]] (bQ n p0) (λx=>.agg (ct x.1)) (λx=>[.box [aZ x.2.S,I x.2.At,Bo x.2.cF]]):=(kx n).bQ p0
def oX (n:Nat) (p0:ByS):U (ax×eS):=
 br (decide ((List.length p0:Int)>1000)) (.ok ((ax.mk 0 0 0 0 0 []),(eS.mk 2 0))) (U.bind (bQ n (P.mk p0 0 false)) λy8=>br y8.2.cF (.ok ((ax.mk 0 0 0 0 0 []),(eS.mk 8 y8.2.At))) (br (decide (y8.2.At<(List.length p0:Int))) (.ok ((ax.mk 0 0 0 0 0 []),(eS.mk 8 y8.2.At))) (U.bind (oV n y8.1) λy17=>br (y17==9) (.ok ((ax.mk 0 0 0 0 0 []),(eS.mk 9 0))) (.ok (y8.1,(eS.mk 0 0))))))
instance Ie (n:Nat) (p0:ByS):CT Tryz.prog 125 [aZ p0] [] (oX n p0) (λx=>.gZ [.agg (ct x.1),.agg [I x.2.Errno,I x.2.At]]) (λ_=>[]):=by
 refine zC Tryz.func125 O λr hp h hr E hE=>ag λ_ hK1=>ab (aM 102 (hE _ O) O4 O ?_);refine aM 103 (hE _ O) O4 O ?_;refine zQ hK1 (ag λ_ hK2=>ag λ_ hK3=>ab (zm O (aB (gj O) O (zc O (zQ hK3 (zB O h (λ_ h=>?_) λ_ h=>?_))))))
 ·refine ag λ_ hK5=>ab (aB (cj O O) O ?_);refine aB (cb O O O) O ?_;refine zs O (zs O (zQ hK5 (bC (iR 102 O O) ?_)));exact aN (zX (.cons (aU O O O) (.cons (aU O O O) .nil)) h O)
 refine aD (hK2 _ _ (ag λ_ hK6=>ab (zm O (aB (cb O O O) O ?_))));refine lp 113 (hE _ O) O7 O ?_;refine za O (zQ hK6 (ag λ_ hK7=>ab (zm O (zk hp hr h [113] Tryz.call180 (pR n (P.mk p0 0 false)) O (λ_=>rfl) λy8 h=>aM 105 (hE _ O) O4 O ?_))));refine zs O (zQ hK7 (ag λ_ hK9=>ag λ_ hK10=>ab (zm O (zn O (zf O (zl O (zm O (zb y8.2.cF (λhb11=>?_) λhb11=>?_))))))))
 ·refine z1 hb11 h λh=>zH 7 O hb11 (zy hb11 O (zQ hK10 (iz O (λhc=>?_) (λhc=>?_))))
  ·refine ag λ_ hK12=>cE [0,1,2,3,4,5,6,7] O (by kernel_rfl) (zD O (cj O O) O ?_);refine zD O (aK O) O (zD O (eH O) O (zD O (fa O) O (zD O (ju [.any,I y8.2.At,.any] O O ⟨.inr O,.inl O,.inr O,trivial⟩ O) O (zD O (cb O O O) O ?_))));refine cg O O8 O (λe6 he=>⟨db ⟨trivial,⟨⟨⟨_,O,bh.iB ⟨.inr O,.inl O,.inr O,trivial⟩⟩,trivial⟩,⟨trivial,⟨trivial,⟨trivial,⟨trivial,trivial⟩⟩⟩⟩⟩⟩,?_⟩);subst he;refine cg O O8 O (λe7 he=>⟨aQ O,?_⟩);subst he;refine eR (hK12 _ _ (bC (iR 102 O O) ?_));exact aN (zX (.cons (aU O O O) (.cons (aU O O O) .nil)) h O)
  exact absurd (hc) (by simp)
 refine z2 hb11 h λh=>zG hb11 O (aK O) (zG hb11 O (eH O) (zG hb11 O (fa O) (zG hb11 O (dZ O O O) (zG hb11 O (aK O) (zG hb11 O (gj O) (zG hb11 O (dT O O O) (zw hb11 O (zQ hK10 (zB O h (λ_ h=>?_) λ_ h=>?_)))))))))
 ·refine ag λ_ hK14=>cE [0,1,2,3,4,5,6,7] O (by kernel_rfl) (zD O (cj O O) O ?_);refine zD O (aK O) O (zD O (eH O) O (zD O (fa O) O (zD O (ju [.any,I y8.2.At,.any] O O ⟨.inr O,.inl O,.inr O,trivial⟩ O) O (zD O (cb O O O) O ?_))));refine cg O O8 O (λe6 he=>⟨db ⟨trivial,⟨⟨⟨_,O,bh.iB ⟨.inr O,.inl O,.inr O,trivial⟩⟩,trivial⟩,⟨trivial,⟨trivial,⟨trivial,⟨trivial,trivial⟩⟩⟩⟩⟩⟩,?_⟩);subst he;refine cg O O8 O (λe7 he=>⟨aQ O,?_⟩);subst he;refine eR (hK14 _ _ (bC (iR 102 O O) ?_));exact aN (zX (.cons (aU O O O) (.cons (aU O O O) .nil)) h O)
 refine aD (hK9 _ _ (ag λ_ hK15=>ag λ_ hK16=>ab (zA O ?_)));refine zk hp hr h [] Tryz.call181 (zh n y8.1) O (λ_=>rfl) λy17 h=>zc O (zQ hK16 (zB O h (λ_ h=>?_) λ_ h=>?_))
 ·refine ag λ_ hK19=>ab (aB (cj O O) O ?_);refine aB (cb O O O) O ?_;refine zs O (zs O (zQ hK19 (bC (iR 102 O O) ?_)));exact aN (zX (.cons (aU O O O) (.cons (aU O O O) .nil)) h O)
 refine aD (hK15 _ _ (ag λ_ hK20=>ab (zA O ?_)));refine aB (cb O O O) O ?_;exact zs O (zs O (zQ hK20 (aN (zX (.cons (aU O O O) (.cons (aU O O O) .nil)) h O))))
end Go.Abs
end
section
namespace Go.Abs
open Go.Proofs U
set_option maxRecDepth 100000
set_option maxHeartbeats 2000000
def oY (n:Nat) (p0:au):U (Bool):=
 br (decide (p0.Kind<1)) (.ok (false)) (br (decide (p0.Kind>8)) (.ok (false)) (U.bind (ka n p0.lT) λy8=>br y8 (.ok (false)) (U.bind (ka n [p0.Trail]) λy11=>br y11 (.ok (false)) (U.bind (ka n p0.H) λy14=>br y14 (.ok (false)) (lg 1 (λ(v18:Int)=>[(0,.agg (cZ p0)),(1,.ptr 101 0),(3,I v18)]) (λ(v18:Int)=>[(101,.box (cZ p0))]) (λ(v18:Int)=>lg 0 (λ(v21:Int)=>[(0,.agg (cZ p0)),(1,.ptr 101 0),(3,I v21)]) (λ(v21:Int)=>[(101,.box (cZ p0))]) (λ(v21:Int)=>lg 0 (λ(v24:Unit)=>[(0,.agg (cZ p0)),(1,.ptr 101 0)]) (λ(v24:Unit)=>[(101,.box (cZ p0))]) (λ(v24:Unit)=>lg 0 (λ(v27:Unit)=>[(0,.agg (cZ p0)),(1,.ptr 101 0)]) (λ(v27:Unit)=>[(101,.box (cZ p0))]) (λ(v27:Unit)=>lg 0 (λ(v30:Unit)=>[(0,.agg (cZ p0)),(1,.ptr 101 0)]) (λ(v30:Unit)=>[(101,.box (cZ p0))]) (λ(v30:Unit)=>br (p0.Kind==1) (.ok (true)) (br (p0.Kind==2) (U.bind (oX n p0.Label) λy41=>.ok ((y41.2.Errno==0))) (br (p0.Kind==4) (U.bind (iq n p0.Label) λy46=>.ok (y46)) (.ok ((p0.Label==([]:ByS))))))) λj31=>br (p0.Kind==6) (U.bind (nu n (jO.mk p0.V p0.aS)) λy50=>br (!y50) (.ok (false)) (br (p0.Kind !=6) (br (p0.V !=([]:ByS)) (.ok (false)) (br (p0.aS !=([]:ByS)) (.ok (false)) (j31 ()))) (j31 ()))) (br (p0.Kind !=6) (br (p0.V !=([]:ByS)) (.ok (false)) (br (p0.aS !=([]:ByS)) (.ok (false)) (j31 ()))) (j31 ()))) λj28=>br (p0.Kind !=5) (br (p0.Kind !=6) (br (decide ((List.length p0.Body:Int)>0)) (.ok (false)) (br (decide ((List.length p0.H:Int)>0)) (.ok (false)) (j28 ()))) (j28 ())) (j28 ())) λj25=>br ((List.length p0.B:Int) !=v21) (.ok (false)) (br (p0.Kind==1) (br (decide (p0.cX<1)) (.ok (false)) (br (decide (p0.cX>3)) (.ok (false)) (br (p0.Kind !=1) (br (p0.cX !=0) (.ok (false)) (j25 ())) (j25 ())))) (br (p0.Kind !=1) (br (p0.cX !=0) (.ok (false)) (j25 ())) (j25 ())))) λj22=>br (p0.Kind==8) (j22 (0)) (j22 (v18))) λj19=>br (p0.Kind==7) (j19 (2)) (j19 (1)))))))
instance If (n:Nat) (p0:au):CT Tryz.prog 85 [.agg (cZ p0)] [] (oY n p0) (λx=>Bo x) (λ_=>[]):=by unfold oY;exact zz Tryz.func85
structure kE where
 fy:(List au)->Bool->U (Bool)
 iV:Z->Bool->Bool->Bool->U (Bool)
def kT (n:Nat) (T:kE) (p0:(List au)) (p1:Bool):U (Bool):=
 gP (λ(v4:Int)=>[(0,.pv (.sl (List.length p0) (au.Cs p0))),(1,Bo p1),(10,.pv (.sl (List.length p0) (au.Cs p0))),(11,I (List.length p0:Int)),(12,I v4)]) (λ(v4:Int)=>[]) (λnext5 (v4:Int)=>br (decide (v4<(List.length p0:Int))) (el p0 v4 λwD=>lg 2 (λ(v16:Unit)=>[(0,.pv (.sl (List.length p0) (au.Cs p0))),(1,Bo p1),(6,.ptr 106 0),(10,.pv (.sl (List.length p0) (au.Cs p0))),(11,I (List.length p0:Int)),(12,I v4)]) (λ(v16:Unit)=>[(106,.box (cZ wD))]) (λ(v16:Unit)=>lg 0 (λ(v19:Bool)=>[(0,.pv (.sl (List.length p0) (au.Cs p0))),(1,Bo p1),(6,.ptr 106 0),(7,Bo v19),(10,.pv (.sl (List.length p0) (au.Cs p0))),(11,I (List.length p0:Int)),(12,I v4)]) (λ(v19:Bool)=>[(106,.box (cZ wD))]) (λ(v19:Bool)=>gP (λ(v23:Int)=>[(0,.pv (.sl (List.length p0) (au.Cs p0))),(1,Bo p1),(7,Bo v19),(10,.pv (.sl (List.length p0) (au.Cs p0))),(11,I (List.length p0:Int)),(12,I v4),(61,.pv (.sl (List.length wD.B) (Z.Cs wD.B))),(62,I (List.length wD.B:Int)),(63,I v23)]) (λ(v23:Int)=>[]) (λnext24 (v23:Int)=>br (decide (v23<(List.length wD.B:Int))) (el wD.B v23 λx31=>U.bind (T.iV x31 v19 false false) λy36=>br (!y36) (.ok (false)) (gd (J (v23+1)) (next24 (v23+1)))) (gd (J (v4+1)) (next5 (v4+1)))) n (0)) λj20=>br p1 (br (wD.Kind==1) (j20 (true)) (br (wD.Kind==2) (j20 (true)) (br (wD.Kind==3) (j20 (true)) (j20 ((wD.Kind==4)))))) (j20 (false))) λj17=>U.bind (oY n wD) λy46=>br (!y46) (.ok (false)) (br (!p1) (br (wD.Kind==4) (.ok (false)) (br (wD.Kind==8) (.ok (false)) (U.bind (T.fy wD.Body false) λy54=>br (!y54) (.ok (false)) (j17 ())))) (U.bind (T.fy wD.Body false) λy57=>br (!y57) (.ok (false)) (j17 ())))) (.ok (true))) n (0)
def nX (n:Nat) (T:kE) (p0:Z) (p1:Bool) (p2:Bool) (p3:Bool):U (Bool):=
 lg 2 (λ(v3:Bool)=>[(0,.agg (K p0)),(1,Bo p1),(2,Bo p2),(3,Bo p3),(4,.ptr 104 0),(50,Bo v3)]) (λ(v3:Bool)=>[(104,.box (K p0))]) (λ(v3:Bool)=>br v3 (.ok (false)) (gP (λ(v10:Int)=>[(0,.agg (K p0)),(1,Bo p1),(2,Bo p2),(3,Bo p3),(4,.ptr 104 0),(52,.pv (.sl (List.length p0.B) (Z.Cs p0.B))),(53,I (List.length p0.B:Int)),(54,I v10)]) (λ(v10:Int)=>[(104,.box (K p0))]) (λnext11 (v10:Int)=>br (decide (v10<(List.length p0.B:Int))) (el p0.B v10 λMI=>lg 2 (λ(v22:Bool)=>[(0,.agg (K p0)),(1,Bo p1),(2,Bo p2),(3,Bo p3),(4,.ptr 104 0),(9,I v10),(10,.ptr 110 0),(11,Bo v22),(52,.pv (.sl (List.length p0.B) (Z.Cs p0.B))),(53,I (List.length p0.B:Int)),(54,I v10)]) (λ(v22:Bool)=>[(104,.box (K p0)),(110,.box (K MI))]) (λ(v22:Bool)=>lg 0 (λ(v25:Bool)=>[(0,.agg (K p0)),(1,Bo p1),(2,Bo p2),(3,Bo p3),(4,.ptr 104 0),(10,.ptr 110 0),(11,Bo v22),(12,Bo v25),(52,.pv (.sl (List.length p0.B) (Z.Cs p0.B))),(53,I (List.length p0.B:Int)),(54,I v10)]) (λ(v25:Bool)=>[(104,.box (K p0)),(110,.box (K MI))]) (λ(v25:Bool)=>U.bind (T.iV MI v22 (p0.Kind==17) v25) λy29=>br (!y29) (.ok (false)) (gd (J (v10+1)) (next11 (v10+1)))) λj26=>br (p0.Kind==14) (br (p0.iM==0) (j26 (true)) (gd (J (v10+1)) (j26 ((decide ((v10+1)<(List.length p0.B:Int))))))) (j26 (false))) λj23=>br (p0.Kind==16) (br p1 (j23 (true)) (j23 ((p0.Kind==10)))) (j23 ((p0.Kind==10)))) (U.bind (T.fy p0.Decls (p0.Kind==13)) λy39=>.ok (y39))) n (0))) λj4=>U.bind (jS n p0) λy40=>br (!y40) (j4 (true)) (br (p0.Kind==18) (br (!p2) (j4 (true)) (br (p0.Kind==15) (br (!p3) (j4 (true)) (br (p0.Kind==13) (br (!p1) (j4 (true)) (br (p0.Kind==22) (j4 (p1)) (j4 (false)))) (br (p0.Kind==22) (j4 (p1)) (j4 (false))))) (br (p0.Kind==13) (br (!p1) (j4 (true)) (br (p0.Kind==22) (j4 (p1)) (j4 (false)))) (br (p0.Kind==22) (j4 (p1)) (j4 (false)))))) (br (p0.Kind==15) (br (!p3) (j4 (true)) (br (p0.Kind==13) (br (!p1) (j4 (true)) (br (p0.Kind==22) (j4 (p1)) (j4 (false)))) (br (p0.Kind==22) (j4 (p1)) (j4 (false))))) (br (p0.Kind==13) (br (!p1) (j4 (true)) (br (p0.Kind==22) (j4 (p1)) (j4 (false)))) (br (p0.Kind==22) (j4 (p1)) (j4 (false))))))
def gz:Nat->kE
 | 0=>⟨λ_ _=>.stuck,λ_ _ _ _=>.stuck⟩
 | n+1=>⟨kT n (gz n),nX n (gz n)⟩
def fy (n:Nat) (p0:(List au)) (p1:Bool):U (Bool):=(gz n).fy p0 p1
def iV (n:Nat) (p0:Z) (p1:Bool) (p2:Bool) (p3:Bool):U (Bool):=(gz n).iV p0 p1 p2 p3
class kP (T:kE):Prop where
 fy:∀ (p0:(List au)) (p1:Bool),CT Tryz.prog 44 [.pv (.sl (List.length p0) (au.Cs p0)),Bo p1] [] (T.fy p0 p1) (λx=>Bo x) (λ_=>[])
 iV:∀ (p0:Z) (p1:Bool) (p2:Bool) (p3:Bool),CT Tryz.prog 47 [.agg (K p0),Bo p1,Bo p2,Bo p3] [] (T.iV p0 p1 p2 p3) (λx=>Bo x) (λ_=>[])
attribute [instance] kP.fy kP.iV
theorem yi (n:Nat) (T:kE) [hT:kP T] (p0:(List au)) (p1:Bool):CT Tryz.prog 44 [.pv (.sl (List.length p0) (au.Cs p0)),Bo p1] [] (kT n T p0 p1) (λx=>Bo x) (λ_=>[]):=by unfold kT;exact zz Tryz.func44
theorem zj (n:Nat) (T:kE) [hT:kP T] (p0:Z) (p1:Bool) (p2:Bool) (p3:Bool):CT Tryz.prog 47 [.agg (K p0),Bo p1,Bo p2,Bo p3] [] (nX n T p0 p1 p2 p3) (λx=>Bo x) (λ_=>[]):=by unfold nX;exact zz Tryz.func47
theorem mJ:∀ n,kP (gz n)
 | 0=>⟨λ_ _=>cd,λ_ _ _ _=>cd⟩
 | n+1=>have:=mJ n;⟨λp0 p1=>yi n _ p0 p1,λp0 p1 p2 p3=>zj n _ p0 p1 p2 p3⟩
instance Ig (n:Nat) (p0:(List au)) (p1:Bool):CT Tryz.prog 44 [.pv (.sl (List.length p0) (au.Cs p0)),Bo p1] [] (fy n p0 p1) (λx=>Bo x) (λ_=>[]):=(mJ n).fy p0 p1
instance I3 (n:Nat) (p0:Z) (p1:Bool) (p2:Bool) (p3:Bool):CT Tryz.prog 47 [.agg (K p0),Bo p1,Bo p2,Bo p3] [] (iV n p0 p1 p2 p3) (λx=>Bo x) (λ_=>[]):=(mJ n).iV p0 p1 p2 p3
structure k4 where
 iW:(List au)->U (Int)
 fF:Z->U (Int)
def ls (n:Nat) (T:k4) (p0:(List au)):U (Int):=
 gP (λ(v5:Int×Int)=>[(0,.pv (.sl (List.length p0) (au.Cs p0))),(3,I v5.1),(9,.pv (.sl (List.length p0) (au.Cs p0))),(10,I (List.length p0:Int)),(11,I v5.2)]) (λ(v5:Int×Int)=>[]) (λnext6 (v5:Int×Int)=>br (decide (v5.2<(List.length p0:Int))) (el p0 v5.2 λCZ=>U.bind (T.iW CZ.Body) λy18=>gP (λ(v21:Int×Int)=>[(0,.pv (.sl (List.length p0) (au.Cs p0))),(3,I v5.1),(6,I v21.1),(9,.pv (.sl (List.length p0) (au.Cs p0))),(10,I (List.length p0:Int)),(11,I v5.2),(19,.pv (.sl (List.length CZ.B) (Z.Cs CZ.B))),(20,I (List.length CZ.B:Int)),(21,I v21.2)]) (λ(v21:Int×Int)=>[]) (λnext22 (v21:Int×Int)=>br (decide (v21.2<(List.length CZ.B:Int))) (el CZ.B v21.2 λx29=>U.bind (T.fF x29) λy33=>gd (J (v21.2+1)) (next22 (if y33>v21.1 then y33 else v21.1,v21.2+1))) (gd (J (v21.1+1)) (gd (J (v5.2+1)) (next6 (if v21.1+1>v5.1 then v21.1+1 else v5.1,v5.2+1))))) n (y18,0)) (.ok (v5.1))) n (0,0)
def k6 (n:Nat) (T:k4) (p0:Z):U (Int):=
 U.bind (T.iW p0.Decls) λy3=>gP (λ(v6:Int×Int)=>[(0,.agg (K p0)),(3,I v6.1),(10,.pv (.sl (List.length p0.B) (Z.Cs p0.B))),(11,I (List.length p0.B:Int)),(12,I v6.2)]) (λ(v6:Int×Int)=>[]) (λnext7 (v6:Int×Int)=>br (decide (v6.2<(List.length p0.B:Int))) (el p0.B v6.2 λNG=>U.bind (T.fF NG) λy18=>gd (J (v6.2+1)) (next7 (if y18>v6.1 then y18 else v6.1,v6.2+1))) (gd (J (v6.1+1)) (.ok (v6.1+1)))) n (y3,0)
def iL:Nat->k4
 | 0=>⟨λ_=>.stuck,λ_=>.stuck⟩
 | n+1=>⟨ls n (iL n),k6 n (iL n)⟩
def iW (n:Nat) (p0:(List au)):U (Int):=(iL n).iW p0
def fF (n:Nat) (p0:Z):U (Int):=(iL n).fF p0
class k7 (T:k4):Prop where
 iW:∀ (p0:(List au)),CT Tryz.prog 46 [.pv (.sl (List.length p0) (au.Cs p0))] [] (T.iW p0) (λx=>I x) (λ_=>[])
 fF:∀ (p0:Z),CT Tryz.prog 48 [.agg (K p0)] [] (T.fF p0) (λx=>I x) (λ_=>[])
attribute [instance] k7.iW k7.fF
theorem zp (n:Nat) (T:k4) [hT:k7 T] (p0:(List au)):CT Tryz.prog 46 [.pv (.sl (List.length p0) (au.Cs p0))] [] (ls n T p0) (λx=>I x) (λ_=>[]):=by unfold ls;exact zz Tryz.func46
theorem vq (n:Nat) (T:k4) [hT:k7 T] (p0:Z):CT Tryz.prog 48 [.agg (K p0)] [] (k6 n T p0) (λx=>I x) (λ_=>[]):=by unfold k6;exact zz Tryz.func48
theorem nl:∀ n,k7 (iL n)
 | 0=>⟨λ_=>cd,λ_=>cd⟩
 | n+1=>have:=nl n;⟨λp0=>zp n _ p0,λp0=>vq n _ p0⟩
instance I4 (n:Nat) (p0:(List au)):CT Tryz.prog 46 [.pv (.sl (List.length p0) (au.Cs p0))] [] (iW n p0) (λx=>I x) (λ_=>[]):=(nl n).iW p0
instance E9 (n:Nat) (p0:Z):CT Tryz.prog 48 [.agg (K p0)] [] (fF n p0) (λx=>I x) (λ_=>[]):=(nl n).fF p0
def lH (p0:Bool) (p1:Int):U (Int):=
 br (!p0) (.ok (11)) (br (decide (p1>16)) (.ok (9)) (.ok (0)))
instance FD (p0:Bool) (p1:Int):CT Tryz.prog 45 [Bo p0,I p1] [] (lH p0 p1) (λx=>I x) (λ_=>[]):=by unfold lH;exact zz Tryz.func45
def oZ (n:Nat) (p0:iC):U (Int):=
 lg 1 (λ(v2:Bool)=>[(0,.agg (l8 p0)),(1,.ptr 101 0),(3,Bo v2)]) (λ(v2:Bool)=>[(101,.box (l8 p0))]) (λ(v2:Bool)=>gP (λ(v7:Bool×Int)=>[(0,.agg (l8 p0)),(1,.ptr 101 0),(3,Bo v7.1),(26,.pv (.sl (List.length p0.dC) (cz.Cs p0.dC))),(27,I (List.length p0.dC:Int)),(28,I v7.2)]) (λ(v7:Bool×Int)=>[(101,.box (l8 p0))]) (λnext8 (v7:Bool×Int)=>br (decide (v7.2<(List.length p0.dC:Int))) (el p0.dC v7.2 λyY=>br v7.1 (U.bind (iq n yY.Name) λy20=>gd (J (v7.2+1)) (next8 (y20,v7.2+1))) (gd (J (v7.2+1)) (next8 (false,v7.2+1)))) (U.bind (iW n p0.Decls) λy24=>U.bind (lH v7.1 y24) λy25=>.ok (y25))) n (v2,0)) λj3=>br (p0.gE==([]:ByS)) (U.bind (ka n p0.H) λy27=>br (!y27) (U.bind (fy n p0.Decls true) λy29=>j3 (y29)) (j3 (false))) (U.bind (iq n p0.gE) λy30=>br y30 (U.bind (ka n p0.H) λy32=>br (!y32) (U.bind (fy n p0.Decls true) λy34=>j3 (y34)) (j3 (false))) (j3 (false)))
instance Ih (n:Nat) (p0:iC):CT Tryz.prog 18 [.agg (l8 p0)] [] (oZ n p0) (λx=>I x) (λ_=>[]):=by unfold oZ;exact zz Tryz.func18
def jw (n:Nat) (p0:Z):U (Int):=
 kp [0,2,1,3,4,5] (U.bind (iV n p0 true false false) λy3=>U.bind (fF n p0) λy4=>U.bind (lH y3 y4) λy5=>.ok (y5))
instance Et (n:Nat) (p0:Z):CT Tryz.prog 19 [.agg (K p0)] [] (jw n p0) (λx=>I x) (λ_=>[]):=by unfold jw;exact zz Tryz.func19
end Go.Abs
end
section
namespace Go.Abs
open Go.Proofs U
set_option maxRecDepth 100000
set_option maxHeartbeats 2000000
def kQ (n:Nat) (p0:ByS):U (Bool):=
 br (decide ((List.length p0:Int)>400)) (U.bind (kO 64) λy6=>.ok (y6)) (U.bind (jZ n p0) λy8=>U.bind (mh n p0) λy10=>br (y8.2.Errno !=0) (br (y10.2.Errno !=0) (U.bind (kO 64) λy14=>.ok (y14)) (U.bind (jw n y10.1) λy15=>br (y15==0) (U.bind (kO 64) λy17=>.ok (y17)) (.ok (false)))) (U.bind (oZ n y8.1) λy18=>br (y18==0) (br (y10.2.Errno !=0) (U.bind (kO 64) λy21=>.ok (y21)) (U.bind (jw n y10.1) λy22=>br (y22==0) (U.bind (kO 64) λy24=>.ok (y24)) (.ok (false)))) (.ok (false))))
instance uf (n:Nat) (p0:ByS):CT Tryz.prog 5 [aZ p0] [] (kQ n p0) (λx=>Bo x) (λ_=>[]):=by unfold kQ;exact zz Tryz.func5
end Go.Abs
end
section
namespace Go.Abs
open U
def PO {α:Type} (V:α->Prop) (x:U α):Prop:=∀ a,x=.ok a->V a
section
variable {α β X:Type} {V V':α->Prop} {W:β->Prop}
theorem PO.ok {a:α} (h:V a):PO V (.ok a):=λ_ e=>by cases e;exact h
theorem PO.mw {p:sB}:PO V (.mw p):=λ_ e=>by cases e
theorem PO.nil:PO V .stuck:=λ_ e=>by cases e
theorem PO.mono {x:U α} (h:PO V' x) (hv:∀ a,V' a->V a):PO V x:=λa e=>hv a (h a e)
theorem PO.bind {x:U β} {f:β->U α} (h:PO W x) (hk:∀ a,W a->PO V (f a)):PO V (U.bind x f):=by
 intro a e;cases x with
 | stuck=>cases e
 | mw p=>cases e
 | ok b=>exact hk b (h b rfl) a e
theorem PO.any {x:U β} {f:β->U α} (hk:∀ a,x=.ok a->PO V (f a)):PO V (U.bind x f):=PO.bind (W:=λa=>x=.ok a) (λ_ e=>e) hk
theorem PO.br {b:Bool} {x y:U α} (ht:b=true->PO V x) (hf:b=false->PO V y):PO V (U.br b x y):=by
 cases b with
 | true=>exact ht rfl
 | false=>exact hf rfl
theorem PO.gd {p:Prop} [Decidable p] {x:U α} (h:p->PO V x):PO V (U.gd p x):=by
 unfold U.gd;split
 ·exact h ‹_›
 exact PO.nil
theorem PO.el {l:List X} {j:Int} {K:X->U α} (h:∀ x,0<=j->l[j.toNat]?=some x->PO V (K x)):PO V (U.el l j K):=by
 unfold U.el;split
 ·split
  ·exact h _ ‹_› ‹_›
  exact PO.nil
 exact PO.nil
theorem PO.some {o:Option X} {K:X->U α} (h:∀ x,o=some x->PO V (K x)):PO V (U.some? o K):=by
 cases o with
 | none=>exact PO.nil
 | some x=>exact h x rfl
theorem PO.jn (J:X->Prop) {j:X->U α} {p:(X->U α)->U α} (hj:∀ v,J v->PO V (j v)) (hp:∀ j:X->U α,(∀ v,J v->PO V (j v))->PO V (p j)):PO V (U.jn j p):=hp j hj
theorem PO.lK {j:X->U α} {p:(X->U α)->U α} (h:PO V (p j)):PO V (U.jn j p):=h
theorem PO.jh {x:U α} {H:sB->U α} (h:PO V x) (hh:∀ p,PO V (H p)):PO V (pc x H):=by
 cases x with
 | stuck=>exact PO.nil
 | mw p=>exact hh p
 | ok a=>exact PO.ok (h a rfl)
theorem PO.qJ {T:TypeId} {p:sB} {k:Int->U α} (h:∀ v,PO V (k v)):PO V (qJ T p k):=by
 unfold Go.Abs.qJ;split
 ·split
  ·exact h _
  exact PO.nil
 exact PO.nil
theorem PO.iter (I:X->Prop) {body:(X->U α)->X->U α} {n:Nat} {x:X} (h0:I x) (hb:∀ (next:X->U α) v,(∀ v,I v->PO V (next v))->I v->PO V (body next v)):PO V (U.iter body n x):=by
 induction n generalizing x with
 | zero=>exact PO.nil
 | succ n ih=>exact hb _ x (λv hv=>ih hv) h0
end
def NL (s:ByS):Prop:=∀ x,x∈s->x≠10
def sY (l:List ByS):Prop:=∀ x,x∈l->NL x
def qO (b:UInt8):Prop:=97<=b.toNat/\b.toNat<=122\/65<=b.toNat/\b.toNat<=90
abbrev Dg:List ByS:=[[110,117,108,108],[116,114,117,101],[102,97,108,115,101],[98,111,111,108],[105,110,116],[110,117,109,98,101,114],[115,116,114,105,110,103],[108,101,116],[105,102],[102,111,114],[105,110],[112,97,99,107,97,103,101],[105,109,112,111,114,116]]
def fp (s:ByS):Prop:=s.length<=32/\s ∉ Dg/\∃ c r,(s=c::r\/s=35::c::r\/s=95::c::r)/\qO c/\∀ x,x∈c::r->qO x\/x=95\/48<=x.toNat/\x.toNat<=57
def yj (s:ByS):Prop:=∃ n r f,iJ n s=.ok (r,f)/\f.Errno=0
abbrev Eu:List ByS:=[[98,111,111,108],[105,110,116],[110,117,109,98,101,114],[115,116,114,105,110,103]]
abbrev Dh:List ByS:=[[60],[60,61],[62],[62,61],[33,61],[61,126],[33,126]]
abbrev Di:List ByS:=[[45],[33]]
abbrev GY:List ByS:=[[124,124],[38,38],[61,61],[33,61],[60],[60,61],[62],[62,61],[43],[45],[42],[47],[37]]
mutual
inductive VE:Bool->Z->Prop
 | L0 {j:Bool} {p:Int}:VE j (.mk 1 [] 0 [] [] [] [] [] p)
 | bool {j:Bool} {v p:Int} (h:v=0\/v=1):VE j (.mk 2 [] v [] [] [] [] [] p)
 | num {j:Bool} {v p:Int} (h0:0<=v) (h1:v<=1000000000000000):VE j (.mk 3 [] v [] [] [] [] [] p)
 | str {j:Bool} {t:ByS} {p:Int}:VE j (.mk 4 t 0 [] [] [] [] [] p)
 | qB {j:Bool} {l:List Z} {p:Int} (h:l≠[]) (hs:∀ x,x∈l->VE false x):VE j (.mk 5 [] 0 [] [] l [] [] p)
 | top {j:Bool} {p:Int}:VE j (.mk 6 [] 0 [] [] [] [] [] p)
 | bot {j:Bool} {p:Int}:VE j (.mk 7 [] 0 [] [] [] [] [] p)
 | type {j:Bool} {t:ByS} {p:Int} (h:t∈Eu):VE j (.mk 8 t 0 [] [] [] [] [] p)
 | bound {j:Bool} {t:ByS} {x:Z} {p:Int} (h:t∈Dh) (hx:VE false x):VE j (.mk 9 t 0 [] [] [x] [] [] p)
 | ref {j:Bool} {t:ByS} {p:Int} (h:fp t):VE j (.mk 10 t 0 [] [] [] [] [] p)
 | Lv {j:Bool} {t:ByS} {x:Z} {p:Int} (hx:VE false x):VE j (.mk 11 t 0 [] [] [x] [] [] p)
 | index {j:Bool} {x y:Z} {p:Int} (hx:VE false x) (hy:VE false y):VE j (.mk 12 [] 0 [] [] [x,y] [] [] p)
 | struct {ds:List au} {tl:List ByS} {p:Int} (hd:∀ d,d∈ds->VD true d) (ht:sY tl):VE true (.mk 13 [] 0 [] [] [] ds tl p)
 | list {j:Bool} {l:List Z} {p:Int} (hs:∀ x,x∈l->VI x):VE j (.mk 14 [] 0 [] [] l [] [] p)
 | rest {j:Bool} {l:List Z} {y:Z} {p:Int} (hs:∀ x,x∈l->VI x) (hy:VE false y):VE j (.mk 14 [] 1 [] [] (l++[y]) [] [] p)
 | and {j:Bool} {x y:Z} {p:Int} (hx:VE j x) (hy:VE j y):VE j (.mk 16 [] 0 [] [] [x,y] [] [] p)
 | or {j:Bool} {l:List Z} {p:Int} (h:2<=l.length) (hs:∀ x,x∈l->VM x):VE j (.mk 17 [] 0 [] [] l [] [] p)
 | unary {j:Bool} {t:ByS} {x:Z} {p:Int} (h:t∈Di) (hx:VE false x):VE j (.mk 19 t 0 [] [] [x] [] [] p)
 | binary {j:Bool} {t:ByS} {x y:Z} {p:Int} (h:t∈GY) (hx:VE false x) (hy:VE false y):VE j (.mk 20 t 0 [] [] [x,y] [] [] p)
 | call {j:Bool} {t:ByS} {l:List Z} {p:Int} (h:fp t) (hs:∀ x,x∈l->VE false x):VE j (.mk 21 t 0 [] [] l [] [] p)
 | value {ds:List au} {tl:List ByS} {p:Int} (hd:∀ d,d∈ds->VD false d) (ht:sY tl):VE false (.mk 22 [] 0 [] [] [] ds tl p)
inductive VI:Z->Prop
 | e {x:Z} (h:VE false x):VI x
 | yk {a b:ByS} {x y:Z} {p:Int} (ha:fp a) (hb:fp b) (hn:a≠b) (hx:VE false x) (hy:VE false y):VI (.mk 15 [] 0 a b [x,y] [] [] p)
 | yl {a b:ByS} {x y z:Z} {p:Int} (ha:fp a) (hb:fp b) (hn:a≠b) (hx:VE false x) (hy:VE false y) (hz:VE false z):VI (.mk 15 [] 0 a b [x,y,z] [] [] p)
inductive VM:Z->Prop
 | e {x:Z} (h:VE false x):VM x
 | mark {x:Z} {p:Int} (h:VE false x):VM (.mk 18 [] 0 [] [] [x] [] [] p)
inductive VD:Bool->au->Prop
 | field {j:Bool} {r:Int} {lb tr:ByS} {x:Z} {ld:List ByS} {p:Int} (hr:1<=r) (hr3:r<=3) (hx:VE j x) (hl:sY ld) (ht:NL tr):VD j (.mk 1 r lb [] [] [x] [] [] ld tr p)
 | pattern {j:Bool} {lb tr:ByS} {x:Z} {ld:List ByS} {p:Int} (hb:yj lb) (hx:VE j x) (hl:sY ld) (ht:NL tr):VD j (.mk 2 0 lb [] [] [x] [] [] ld tr p)
 | vt {j:Bool} {tr:ByS} {x:Z} {ld:List ByS} {p:Int} (hx:VE j x) (hl:sY ld) (ht:NL tr):VD j (.mk 3 0 [] [] [] [x] [] [] ld tr p)
 | lets {lb tr:ByS} {x:Z} {ld:List ByS} {p:Int} (hb:fp lb) (hx:VE true x) (hl:sY ld) (ht:NL tr):VD true (.mk 4 0 lb [] [] [x] [] [] ld tr p)
 | I5 {j:Bool} {tr:ByS} {x:Z} {bd:List au} {tl ld:List ByS} {p:Int} (hx:VE false x) (hb:∀ d,d∈bd->VD false d) (hy:sY tl) (hl:sY ld) (ht:NL tr):VD j (.mk 5 0 [] [] [] [x] bd tl ld tr p)
 | A1 {j:Bool} {a b tr:ByS} {x:Z} {bd:List au} {tl ld:List ByS} {p:Int} (ha:fp a) (hb:fp b) (hn:a≠b) (hx:VE false x) (hb:∀ d,d∈bd->VD false d) (hy:sY tl) (hl:sY ld) (ht:NL tr):VD j (.mk 6 0 [] a b [x] bd tl ld tr p)
 | dyn {j:Bool} {tr:ByS} {x y:Z} {ld:List ByS} {p:Int} (hx:VE false x) (hy:VE false y) (hl:sY ld) (ht:NL tr):VD j (.mk 7 0 [] [] [] [x,y] [] [] ld tr p)
 | ym {tr:ByS} {ld:List ByS} {p:Int} (hl:sY ld) (ht:NL tr):VD true (.mk 8 0 [] [] [] [] [] [] ld tr p)
end
end Go.Abs
end
section
namespace Go.Abs
open U
def Sm {α:Type} (x y:U α):Prop:=x=.stuck\/y=.stuck\/x=y
section
variable {α β X:Type}
theorem Sm.rfl {x:U α}:Sm x x:=.inr (.inr (Eq.refl _))
theorem Sm.bind {x y:U β} {f g:β->U α} (h:Sm x y) (hk:∀ a,Sm (f a) (g a)):Sm (U.bind x f) (U.bind y g):=by
 rcases h with h|h|h
 ·subst h;exact .inl (Eq.refl _)
 ·subst h;exact .inr (.inl (Eq.refl _))
 subst h;cases x with
 | stuck=>exact .inl (Eq.refl _)
 | mw p=>exact .inr (.inr (Eq.refl _))
 | ok a=>exact hk a
theorem Sm.br {b:Bool} {x y x' y':U α} (h:Sm x x') (h':Sm y y'):Sm (U.br b x y) (U.br b x' y'):=by cases b with
 | true=>exact h
 | false=>exact h'
theorem Sm.gd {p:Prop} [Decidable p] {x y:U α} (h:Sm x y):Sm (U.gd p x) (U.gd p y):=by
 unfold U.gd;split
 ·exact h
 exact Sm.rfl
theorem Sm.el {l:List X} {j:Int} {K K':X->U α} (h:∀ x,Sm (K x) (K' x)):Sm (U.el l j K) (U.el l j K'):=by
 unfold U.el;split
 ·split
  ·exact h _
  exact Sm.rfl
 exact Sm.rfl
class MJ (f g:X->U α):Prop where
 h:∀ v,Sm (f v) (g v)
theorem Sm.app {f g:X->U α} [h:MJ f g] {v:X}:Sm (f v) (g v):=h.h v
theorem Sm.jn {j j':X->U α} {p p':(X->U α)->U α} (hj:∀ v,Sm (j v) (j' v)) (hp:∀ j j':X->U α,MJ j j'->Sm (p j) (p' j')):Sm (U.jn j p) (U.jn j' p'):=hp j j' ⟨hj⟩
theorem Sm.iter {body body':(X->U α)->X->U α} (h:∀ next next':X->U α,MJ next next'->∀ v,Sm (body next v) (body' next' v)):∀ (n m:Nat) (x:X),Sm (U.iter body n x) (U.iter body' m x)
 | 0,_,_=>.inl (Eq.refl _)
 | _+1,0,_=>.inr (.inl (Eq.refl _))
 | n+1,m+1,x=>h _ _ ⟨λv=>Sm.iter h n m v⟩ x
theorem Sm.jh {x y:U α} {H H':sB->U α} (h:Sm x y) (hh:∀ p,Sm (H p) (H' p)):Sm (pc x H) (pc y H'):=by
 rcases h with h|h|h
 ·subst h;exact .inl (Eq.refl _)
 ·subst h;exact .inr (.inl (Eq.refl _))
 subst h;cases x with
 | stuck=>exact .inl (Eq.refl _)
 | mw p=>exact hh p
 | ok a=>exact Sm.rfl
theorem Sm.get {x y:U α} {a b:α} (h:Sm x y) (hx:x=.ok a) (hy:y=.ok b):a=b:=by
 subst hx hy;rcases h with h|h|h
 ·cases h
 ·cases h
 cases h;exact Eq.refl _
end
section
variable {n m:Nat}
theorem lB {a b:Int}:Sm (fk n a b) (fk m a b):=by unfold fk kp;(repeat' (with_reducible first|exact Sm.rfl|exact lB|exact lC|exact jx|exact fG|exact jy|exact gV|exact dS|exact gW|exact jz|exact lD|exact jA|exact lE|exact jB|exact jC|exact jD|exact jE|exact Sm.app|exact ih _ _|exact h1 _|exact h2 _|exact h2 _ _|exact h3 _|exact h4 _ _|exact h5 _|exact h6 _|refine Sm.bind ?_ (λ_=>?_)|refine Sm.br ?_ ?_|refine Sm.gd ?_|refine Sm.el (λ_=>?_)|refine Sm.jn (λ_=>?_) (λ_ _ _=>?_)|refine Sm.iter (λ_ _ _ _=>?_) _ _ _|refine Sm.jh ?_ (λ_=>?_)))
theorem lC {a b:bM}:Sm (gD n a b) (gD m a b):=by unfold gD kp;(repeat' (with_reducible first|exact Sm.rfl|exact lB|exact lC|exact jx|exact fG|exact jy|exact gV|exact dS|exact gW|exact jz|exact lD|exact jA|exact lE|exact jB|exact jC|exact jD|exact jE|exact Sm.app|exact ih _ _|exact h1 _|exact h2 _|exact h2 _ _|exact h3 _|exact h4 _ _|exact h5 _|exact h6 _|refine Sm.bind ?_ (λ_=>?_)|refine Sm.br ?_ ?_|refine Sm.gd ?_|refine Sm.el (λ_=>?_)|refine Sm.jn (λ_=>?_) (λ_ _ _=>?_)|refine Sm.iter (λ_ _ _ _=>?_) _ _ _|refine Sm.jh ?_ (λ_=>?_)))
theorem jx {a:bM}:Sm (kL n a) (kL m a):=by unfold kL;(repeat' (with_reducible first|exact Sm.rfl|exact lB|exact lC|exact jx|exact fG|exact jy|exact gV|exact dS|exact gW|exact jz|exact lD|exact jA|exact lE|exact jB|exact jC|exact jD|exact jE|exact Sm.app|exact ih _ _|exact h1 _|exact h2 _|exact h2 _ _|exact h3 _|exact h4 _ _|exact h5 _|exact h6 _|refine Sm.bind ?_ (λ_=>?_)|refine Sm.br ?_ ?_|refine Sm.gd ?_|refine Sm.el (λ_=>?_)|refine Sm.jn (λ_=>?_) (λ_ _ _=>?_)|refine Sm.iter (λ_ _ _ _=>?_) _ _ _|refine Sm.jh ?_ (λ_=>?_)))
theorem fG {a:Int}:Sm (jW n a) (jW m a):=by unfold jW;(repeat' (with_reducible first|exact Sm.rfl|exact lB|exact lC|exact jx|exact fG|exact jy|exact gV|exact dS|exact gW|exact jz|exact lD|exact jA|exact lE|exact jB|exact jC|exact jD|exact jE|exact Sm.app|exact ih _ _|exact h1 _|exact h2 _|exact h2 _ _|exact h3 _|exact h4 _ _|exact h5 _|exact h6 _|refine Sm.bind ?_ (λ_=>?_)|refine Sm.br ?_ ?_|refine Sm.gd ?_|refine Sm.el (λ_=>?_)|refine Sm.jn (λ_=>?_) (λ_ _ _=>?_)|refine Sm.iter (λ_ _ _ _=>?_) _ _ _|refine Sm.jh ?_ (λ_=>?_)))
theorem jy {a:Int}:Sm (kC n a) (kC m a):=by unfold kC;(repeat' (with_reducible first|exact Sm.rfl|exact lB|exact lC|exact jx|exact fG|exact jy|exact gV|exact dS|exact gW|exact jz|exact lD|exact jA|exact lE|exact jB|exact jC|exact jD|exact jE|exact Sm.app|exact ih _ _|exact h1 _|exact h2 _|exact h2 _ _|exact h3 _|exact h4 _ _|exact h5 _|exact h6 _|refine Sm.bind ?_ (λ_=>?_)|refine Sm.br ?_ ?_|refine Sm.gd ?_|refine Sm.el (λ_=>?_)|refine Sm.jn (λ_=>?_) (λ_ _ _=>?_)|refine Sm.iter (λ_ _ _ _=>?_) _ _ _|refine Sm.jh ?_ (λ_=>?_)))
theorem gV {a:Int} {p:L}:Sm (dE n a p) (dE m a p):=by unfold dE;(repeat' (with_reducible first|exact Sm.rfl|exact lB|exact lC|exact jx|exact fG|exact jy|exact gV|exact dS|exact gW|exact jz|exact lD|exact jA|exact lE|exact jB|exact jC|exact jD|exact jE|exact Sm.app|exact ih _ _|exact h1 _|exact h2 _|exact h2 _ _|exact h3 _|exact h4 _ _|exact h5 _|exact h6 _|refine Sm.bind ?_ (λ_=>?_)|refine Sm.br ?_ ?_|refine Sm.gd ?_|refine Sm.el (λ_=>?_)|refine Sm.jn (λ_=>?_) (λ_ _ _=>?_)|refine Sm.iter (λ_ _ _ _=>?_) _ _ _|refine Sm.jh ?_ (λ_=>?_)))
theorem dS {a:Int} {p:L}:Sm (cP n a p) (cP m a p):=by unfold cP kp;(repeat' (with_reducible first|exact Sm.rfl|exact lB|exact lC|exact jx|exact fG|exact jy|exact gV|exact dS|exact gW|exact jz|exact lD|exact jA|exact lE|exact jB|exact jC|exact jD|exact jE|exact Sm.app|exact ih _ _|exact h1 _|exact h2 _|exact h2 _ _|exact h3 _|exact h4 _ _|exact h5 _|exact h6 _|refine Sm.bind ?_ (λ_=>?_)|refine Sm.br ?_ ?_|refine Sm.gd ?_|refine Sm.el (λ_=>?_)|refine Sm.jn (λ_=>?_) (λ_ _ _=>?_)|refine Sm.iter (λ_ _ _ _=>?_) _ _ _|refine Sm.jh ?_ (λ_=>?_)))
theorem gW {a:Int} {p:L}:Sm (dJ n a p) (dJ m a p):=by unfold dJ kp;(repeat' (with_reducible first|exact Sm.rfl|exact lB|exact lC|exact jx|exact fG|exact jy|exact gV|exact dS|exact gW|exact jz|exact lD|exact jA|exact lE|exact jB|exact jC|exact jD|exact jE|exact Sm.app|exact ih _ _|exact h1 _|exact h2 _|exact h2 _ _|exact h3 _|exact h4 _ _|exact h5 _|exact h6 _|refine Sm.bind ?_ (λ_=>?_)|refine Sm.br ?_ ?_|refine Sm.gd ?_|refine Sm.el (λ_=>?_)|refine Sm.jn (λ_=>?_) (λ_ _ _=>?_)|refine Sm.iter (λ_ _ _ _=>?_) _ _ _|refine Sm.jh ?_ (λ_=>?_)))
theorem jz {p:L}:Sm (gk n p) (gk m p):=by unfold gk;(repeat' (with_reducible first|exact Sm.rfl|exact lB|exact lC|exact jx|exact fG|exact jy|exact gV|exact dS|exact gW|exact jz|exact lD|exact jA|exact lE|exact jB|exact jC|exact jD|exact jE|exact Sm.app|exact ih _ _|exact h1 _|exact h2 _|exact h2 _ _|exact h3 _|exact h4 _ _|exact h5 _|exact h6 _|refine Sm.bind ?_ (λ_=>?_)|refine Sm.br ?_ ?_|refine Sm.gd ?_|refine Sm.el (λ_=>?_)|refine Sm.jn (λ_=>?_) (λ_ _ _=>?_)|refine Sm.iter (λ_ _ _ _=>?_) _ _ _|refine Sm.jh ?_ (λ_=>?_)))
theorem Cz:∀ (n m:Nat) (r:ax) (l:Int),Sm (ep n r l) (ep m r l)
 | 0,_,_,_=>.inl (Eq.refl _)
 | _+1,0,_,_=>.inr (.inl (Eq.refl _))
 | n+1,m+1,r,l=>by
  show Sm (gh n (fj n) r l) (gh m (fj m) r l);have ih:∀ r l,Sm ((fj n).ep r l) ((fj m).ep r l):=Cz n m;unfold gh;(repeat' (with_reducible first|exact Sm.rfl|exact lB|exact lC|exact jx|exact fG|exact jy|exact gV|exact dS|exact gW|exact jz|exact lD|exact jA|exact lE|exact jB|exact jC|exact jD|exact jE|exact Sm.app|exact ih _ _|exact h1 _|exact h2 _|exact h2 _ _|exact h3 _|exact h4 _ _|exact h5 _|exact h6 _|refine Sm.bind ?_ (λ_=>?_)|refine Sm.br ?_ ?_|refine Sm.gd ?_|refine Sm.el (λ_=>?_)|refine Sm.jn (λ_=>?_) (λ_ _ _=>?_)|refine Sm.iter (λ_ _ _ _=>?_) _ _ _|refine Sm.jh ?_ (λ_=>?_)))
end
structure XG (T T':bu):Prop where
 alt:∀ p,Sm (T.bo p) (T'.bo p)
 atom:∀ p,Sm (T.dK p) (T'.dK p)
 Fa:∀ p,Sm (T.bI p) (T'.bI p)
 Al:∀ l p,Sm (T.bA l p) (T'.bA l p)
 group:∀ p,Sm (T.dv p) (T'.dv p)
 piece:∀ p,Sm (T.dw p) (T'.dw p)
theorem GZ:∀ n m,XG (aw n) (aw m)\/n=0\/m=0
 | 0,_=>.inr (.inl (Eq.refl _))
 | _+1,0=>.inr (.inr (Eq.refl _))
 | n+1,m+1=>by
  refine .inl ?_;have ih:XG (aw n) (aw m):=by
   rcases GZ n m with h|h|h
   ·exact h
   ·subst h;exact ⟨λ_=>.inl (Eq.refl _),λ_=>.inl (Eq.refl _),λ_=>.inl (Eq.refl _),λ_ _=>.inl (Eq.refl _),λ_=>.inl (Eq.refl _),λ_=>.inl (Eq.refl _)⟩
   subst h;exact ⟨λ_=>.inr (.inl (Eq.refl _)),λ_=>.inr (.inl (Eq.refl _)),λ_=>.inr (.inl (Eq.refl _)),λ_ _=>.inr (.inl (Eq.refl _)),λ_=>.inr (.inl (Eq.refl _)),λ_=>.inr (.inl (Eq.refl _))⟩
  obtain ⟨h1,h2,h3,h4,h5,h6⟩:=ih;refine ⟨λp=>?_,λp=>?_,λp=>?_,λl p=>?_,λp=>?_,λp=>?_⟩
  ·show Sm (cR n (aw n) p) (cR m (aw m) p);unfold cR;(repeat' (with_reducible first|exact Sm.rfl|exact lB|exact lC|exact jx|exact fG|exact jy|exact gV|exact dS|exact gW|exact jz|exact lD|exact jA|exact lE|exact jB|exact jC|exact jD|exact jE|exact Sm.app|exact ih _ _|exact h1 _|exact h2 _|exact h2 _ _|exact h3 _|exact h4 _ _|exact h5 _|exact h6 _|refine Sm.bind ?_ (λ_=>?_)|refine Sm.br ?_ ?_|refine Sm.gd ?_|refine Sm.el (λ_=>?_)|refine Sm.jn (λ_=>?_) (λ_ _ _=>?_)|refine Sm.iter (λ_ _ _ _=>?_) _ _ _|refine Sm.jh ?_ (λ_=>?_)))
  ·show Sm (fc n (aw n) p) (fc m (aw m) p);unfold fc;(repeat' (with_reducible first|exact Sm.rfl|exact lB|exact lC|exact jx|exact fG|exact jy|exact gV|exact dS|exact gW|exact jz|exact lD|exact jA|exact lE|exact jB|exact jC|exact jD|exact jE|exact Sm.app|exact ih _ _|exact h1 _|exact h2 _|exact h2 _ _|exact h3 _|exact h4 _ _|exact h5 _|exact h6 _|refine Sm.bind ?_ (λ_=>?_)|refine Sm.br ?_ ?_|refine Sm.gd ?_|refine Sm.el (λ_=>?_)|refine Sm.jn (λ_=>?_) (λ_ _ _=>?_)|refine Sm.iter (λ_ _ _ _=>?_) _ _ _|refine Sm.jh ?_ (λ_=>?_)))
  ·show Sm (cG n (aw n) p) (cG m (aw m) p);unfold cG;(repeat' (with_reducible first|exact Sm.rfl|exact lB|exact lC|exact jx|exact fG|exact jy|exact gV|exact dS|exact gW|exact jz|exact lD|exact jA|exact lE|exact jB|exact jC|exact jD|exact jE|exact Sm.app|exact ih _ _|exact h1 _|exact h2 _|exact h2 _ _|exact h3 _|exact h4 _ _|exact h5 _|exact h6 _|refine Sm.bind ?_ (λ_=>?_)|refine Sm.br ?_ ?_|refine Sm.gd ?_|refine Sm.el (λ_=>?_)|refine Sm.jn (λ_=>?_) (λ_ _ _=>?_)|refine Sm.iter (λ_ _ _ _=>?_) _ _ _|refine Sm.jh ?_ (λ_=>?_)))
  ·show Sm (cy n (aw n) l p) (cy m (aw m) l p);unfold cy;(repeat' (with_reducible first|exact Sm.rfl|exact lB|exact lC|exact jx|exact fG|exact jy|exact gV|exact dS|exact gW|exact jz|exact lD|exact jA|exact lE|exact jB|exact jC|exact jD|exact jE|exact Sm.app|exact ih _ _|exact h1 _|exact h2 _|exact h2 _ _|exact h3 _|exact h4 _ _|exact h5 _|exact h6 _|refine Sm.bind ?_ (λ_=>?_)|refine Sm.br ?_ ?_|refine Sm.gd ?_|refine Sm.el (λ_=>?_)|refine Sm.jn (λ_=>?_) (λ_ _ _=>?_)|refine Sm.iter (λ_ _ _ _=>?_) _ _ _|refine Sm.jh ?_ (λ_=>?_)))
  ·show Sm (eL n (aw n) p) (eL m (aw m) p);unfold eL;(repeat' (with_reducible first|exact Sm.rfl|exact lB|exact lC|exact jx|exact fG|exact jy|exact gV|exact dS|exact gW|exact jz|exact lD|exact jA|exact lE|exact jB|exact jC|exact jD|exact jE|exact Sm.app|exact ih _ _|exact h1 _|exact h2 _|exact h2 _ _|exact h3 _|exact h4 _ _|exact h5 _|exact h6 _|refine Sm.bind ?_ (λ_=>?_)|refine Sm.br ?_ ?_|refine Sm.gd ?_|refine Sm.el (λ_=>?_)|refine Sm.jn (λ_=>?_) (λ_ _ _=>?_)|refine Sm.iter (λ_ _ _ _=>?_) _ _ _|refine Sm.jh ?_ (λ_=>?_)))
  show Sm (eM n (aw n) p) (eM m (aw m) p);unfold eM;(repeat' (with_reducible first|exact Sm.rfl|exact lB|exact lC|exact jx|exact fG|exact jy|exact gV|exact dS|exact gW|exact jz|exact lD|exact jA|exact lE|exact jB|exact jC|exact jD|exact jE|exact Sm.app|exact ih _ _|exact h1 _|exact h2 _|exact h2 _ _|exact h3 _|exact h4 _ _|exact h5 _|exact h6 _|refine Sm.bind ?_ (λ_=>?_)|refine Sm.br ?_ ?_|refine Sm.gd ?_|refine Sm.el (λ_=>?_)|refine Sm.jn (λ_=>?_) (λ_ _ _=>?_)|refine Sm.iter (λ_ _ _ _=>?_) _ _ _|refine Sm.jh ?_ (λ_=>?_)))
theorem G1 {n m:Nat} {s:ByS}:Sm (iJ n s) (iJ m s):=by
 have h1:∀ p,Sm (bo n p) (bo m p):=λp=>by
  rcases GZ n m with h|h|h
  ·exact h.alt p
  ·subst h;exact .inl (Eq.refl _)
  subst h;exact .inr (.inl (Eq.refl _))
 have h2:∀ r l,Sm (ep n r l) (ep m r l):=Cz n m;unfold iJ nt qJ;(repeat' (with_reducible first|exact Sm.rfl|exact lB|exact lC|exact jx|exact fG|exact jy|exact gV|exact dS|exact gW|exact jz|exact lD|exact jA|exact lE|exact jB|exact jC|exact jD|exact jE|exact Sm.app|exact ih _ _|exact h1 _|exact h2 _|exact h2 _ _|exact h3 _|exact h4 _ _|exact h5 _|exact h6 _|refine Sm.bind ?_ (λ_=>?_)|refine Sm.br ?_ ?_|refine Sm.gd ?_|refine Sm.el (λ_=>?_)|refine Sm.jn (λ_=>?_) (λ_ _ _=>?_)|refine Sm.iter (λ_ _ _ _=>?_) _ _ _|refine Sm.jh ?_ (λ_=>?_)))
end Go.Abs
end
section
namespace Go.Abs
open U
section
variable {n:Nat} {s:ByS}
theorem uM {b:UInt8}:PO (λy=>y=true↔qO b) (jP (b.toNat:Int)):=by
 unfold jP qO;refine PO.br (λh=>PO.br (λq=>PO.ok ?_) λq=>PO.br (λr=>PO.ok ?_) λr=>PO.ok ?_) λh=>PO.br (λr=>PO.ok ?_) λr=>PO.ok ?_<;>simp at *<;>omega
theorem yn {b:UInt8}:PO (λy=>y=true↔qO b) (jR (b.toNat:Int)):=uM
theorem CA {l:List ByS}:PO (λy=>y=true↔s∈l) (slices_Contains_string n l s):=by
 unfold slices_Contains_string;refine PO.bind (W:=λy=>0<=y↔s∈l) ?_ λy hy=>PO.ok (by simpa using hy);unfold slices_Index_string;refine PO.iter (λ(v:Int)=>0<=v/\v<=l.length/\s ∉ l.take v.toNat) ⟨by omega,by omega,by simp⟩ λnext v hn hv=>PO.br (λ_=>PO.el λx _ hx=>PO.br (λq=>PO.ok ?_) λq=>PO.gd λ_=>hn _ ?_) (λq=>PO.ok ?_)
 ·simp at q;subst q;exact ⟨λ_=>List.mem_of_getElem? hx,λ_=>hv.1⟩
 ·have hl:v.toNat<l.length:=(List.getElem?_eq_some_iff.1 hx).1;refine ⟨by omega,by omega,?_⟩;have e:(v+1).toNat=v.toNat+1:=by omega
  rw[e,List.take_add_one,hx];simp at q ⊢;exact ⟨λw=>hv.2.2 w,q⟩
 have:v.toNat=l.length:=by simp at q;omega
 have h:=hv.2.2;rw[this,List.take_length] at h;exact ⟨λw=>by omega,λw=>absurd w h⟩
theorem Fb {t:ByS} {V:Bool->Prop} (ht:(∀ x,x∈t->qO x\/x=95\/48<=x.toNat/\x.toNat<=57)->V true) (hf:(∃ x,x∈t/\¬(qO x\/x=95\/48<=x.toNat/\x.toNat<=57))->V false) {m:Nat} :
  PO V (iter (λnext27 (v26:Int)=>br (decide (v26<(List.length t:Int))) (el t v26 λb35=>U.bind (jP (b35.toNat:Int)) λy39=>br (!y39) (el t v26 λb41=>br ((b41.toNat:Int) !=95) (el t v26 λb46=>br (decide ((b46.toNat:Int)<48)) (.ok (false)) (el t v26 λb52=>br (decide ((b52.toNat:Int)>57)) (.ok (false)) (gd (J (v26+1)) (next27 (v26+1))))) (gd (J (v26+1)) (next27 (v26+1)))) (gd (J (v26+1)) (next27 (v26+1)))) (.ok (true))) m (0)):=by
 refine PO.iter (λ(v:Int)=>0<=v/\v<=t.length/\∀ x,x∈t.take v.toNat->qO x\/x=95\/48<=x.toNat/\x.toNat<=57) ⟨by omega,by omega,by simp⟩ λnext v hn hv=>PO.br (λ_=>PO.el λx _ hx=>?_) (λq=>PO.ok (ht ?_))
 ·have hl:v.toNat<t.length:=(List.getElem?_eq_some_iff.1 hx).1
  have e:(v+1).toNat=v.toNat+1:=by omega
  have go:(qO x\/x=95\/48<=x.toNat/\x.toNat<=57)->PO V (gd (J (v+1)) (next (v+1))):=λhg=>PO.gd λ_=>hn _ ⟨by omega,by omega,λy hy=>by
   rw[e,List.take_add_one,hx] at hy
   simp at hy
   rcases hy with hy|rfl
   ·exact hv.2.2 y hy
   ·exact hg⟩
  refine PO.bind uM λy hy=>PO.br (λq=>?_) λq=>go (.inl (hy.1 (by simpa using q)))
  have hnl:¬qO x:=λw=>by rw[hy.2 w] at q;cases q
  refine PO.el λx' _ hx'=>?_
  rw[hx] at hx';cases hx'
  refine PO.br (λq2=>PO.el λx' _ hx'=>?_) λq2=>go (.inr (.inl ?_))
  ·rw[hx] at hx';cases hx'
   have hne:x≠95:=λw=>by subst w;simp at q2
   refine PO.br (λq3=>PO.ok (hf ⟨x,List.mem_of_getElem? hx,?_⟩)) λq3=>PO.el λx' _ hx'=>?_
   ·simp at q3;rintro (w|w|w)
    ·exact hnl w
    ·exact hne w
    ·omega
   ·rw[hx] at hx';cases hx'
    refine PO.br (λq4=>PO.ok (hf ⟨x,List.mem_of_getElem? hx,?_⟩)) λq4=>go (.inr (.inr ?_))
    ·simp at q4;rintro (w|w|w)
     ·exact hnl w
     ·exact hne w
     ·omega
    ·simp at q3 q4;omega
  ·simp at q2
   exact UInt8.toNat_inj.1 (by simpa using (by omega:x.toNat=95))
 ·have:v.toNat=t.length:=by simp at q;omega
  have h:=hv.2.2
  rwa [this,List.take_length] at h
def M2 (s v:ByS):Prop:=s=35::v\/s=95::v\/v=s/\s.head?≠some 35/\s.head?≠some 95
abbrev M3 (v:ByS):Prop:=∃ c r,v=c::r/\qO c/\∀ x,x∈v->qO x\/x=95\/48<=x.toNat/\x.toNat<=57
theorem MK:¬qO 35:=by unfold qO;decide
theorem ML:¬qO 95:=by unfold qO;decide
theorem K1 {v:ByS} (h1:s.length<=32) (h2:s ∉ Dg) (hv:M2 s v):M3 v↔fp s:=by
 constructor
 ·rintro ⟨c,r,rfl,hc,hr⟩;refine ⟨h1,h2,c,r,?_,hc,hr⟩;rcases hv with e|e|e
  ·exact .inr (.inl e)
  ·exact .inr (.inr e)
  exact .inl e.1.symm
 rintro ⟨_,_,c,r,e,hc,hr⟩;refine ⟨c,r,?_⟩;rcases hv with q|q|q
 ·rcases e with e|e|e
  ·rw[q] at e;cases e;exact absurd hc MK
  ·rw[q] at e;cases e;exact ⟨rfl,hc,hr⟩
  rw[q] at e;cases e
 ·rcases e with e|e|e
  ·rw[q] at e;cases e;exact absurd hc ML
  ·rw[q] at e;cases e
  rw[q] at e;cases e;exact ⟨rfl,hc,hr⟩
 rcases e with e|e|e
 ·rw[q.1,e];exact ⟨rfl,hc,hr⟩
 ·rw[e] at q;exact absurd rfl q.2.1
 rw[e] at q;exact absurd rfl q.2.2
theorem ei:PO (λy=>y=true↔fp s) (fJ n s):=by
 unfold fJ;refine PO.br (λh=>PO.ok ⟨λq=>(by cases q),λq=>by have:=q.1;simp at h;omega⟩) λh=>PO.bind CA λy hy=>PO.br (λh2=>PO.ok ⟨λq=>(by cases q),λq=>absurd (hy.1 h2) q.2.1⟩) λh2=>?_;have hn:s ∉ Dg:=λw=>by rw[hy.2 w] at h2;cases h2
 have hl:s.length<=32:=by simp at h;omega
 refine PO.jn (M2 s) (λv hv=>?_) λj hj=>?_
 ·have key:=K1 hl hn hv;have no:¬M3 v->PO (λy=>y=true↔fp s) (.ok false):=λw=>PO.ok ⟨λq=>(by cases q),λq=>absurd (key.2 q) w⟩;refine PO.br (λh3=>no ?_) λh3=>PO.el λb _ hb=>?_
  ·rintro ⟨c,r,rfl,_⟩;simp at h3;omega
  cases v with
  | nil=>cases hb
  | cons c r=>
   have hbc:c=b:=Option.some.inj hb
   subst hbc
   refine PO.bind uM λy hy=>PO.br (λq=>no ?_) λq=>?_
   ·rintro ⟨c',r',e,hc,_⟩;cases e;rw[hy.2 hc] at q;cases q
   ·have hc:qO c:=hy.1 (by simpa using q);refine Fb (λw=>⟨λ_=>key.1 ⟨c,r,rfl,hc,w⟩,λ_=>rfl⟩) λ⟨x,hx,w⟩=>⟨λq=>(by cases q),λq=>?_⟩;obtain ⟨c',r',e,_,hr⟩:=key.2 q;exact absurd (hr x hx) w
 refine PO.br (λh3=>PO.el λb _ hb=>?_) λh3=>hj _ ?_
 ·cases s with
  | nil=>cases hb
  | cons a t=>
   have hba:a=b:=Option.some.inj hb
   subst hba
   refine PO.br (λq=>PO.gd λ_=>hj _ (.inl ?_)) λq=>PO.el λb _ hb=>?_
   ·simp at q;have:a=35:=UInt8.toNat_inj.1 (by simpa using (by omega:a.toNat=35));subst this;rfl
   ·have hba:a=b:=Option.some.inj hb;subst hba;refine PO.br (λq2=>PO.gd λ_=>hj _ (.inr (.inl ?_))) λq2=>hj _ (.inr (.inr ⟨rfl,?_,?_⟩))
    ·simp at q2;have:a=95:=UInt8.toNat_inj.1 (by simpa using (by omega:a.toNat=95));subst this;rfl
    ·intro w;cases w;simp at q
    intro w;cases w;simp at q2
 cases s with
 | nil=>exact .inr (.inr ⟨rfl,by simp,by simp⟩)
 | cons a t=>simp at h3
theorem A2 (h:fp s):PO (λy=>y=true) (iq n s):=by
 have hs:=h.2.2;obtain ⟨c,r,e,hc,hr⟩:=hs;have hp:1<=s.length:=by rcases e with rfl|rfl|rfl<;>simp
 unfold iq oU;refine PO.br (λq=>by simp at q;omega) λ_=>PO.br (λq=>by have:=h.1;simp at q;omega) λ_=>?_;show PO _ (iter _ n 0);refine PO.iter (λ_=>True) trivial λnext v hn _=>PO.br (λ_=>PO.el λx _ hx=>PO.br (λq=>?_) λ_=>PO.gd λ_=>hn _ trivial) λ_=>?_
 ·simp at q;subst q;exact absurd (List.mem_of_getElem? hx) h.2.1
 have key:∀ v:Int,0<=v->s.drop v.toNat=c::r->PO (λy=>y=true) (br (decide (v>=(List.length s:Int))) (.ok (false)) (el s v λb35=>U.bind (jR (b35.toNat:Int)) λy39=>br (!y39) (.ok (false)) (iter (λnext45 (v44:Int)=>br (decide (v44<(List.length s:Int))) (el s v44 λb52=>U.bind (jR (b52.toNat:Int)) λy56=>br (!y56) (el s v44 λb58=>U.bind (mi (b58.toNat:Int)) λy62=>br (!y62) (el s v44 λb64=>br ((b64.toNat:Int) !=95) (.ok (false)) (gd (J (v44+1)) (next45 (v44+1)))) (gd (J (v44+1)) (next45 (v44+1)))) (gd (J (v44+1)) (next45 (v44+1)))) (.ok (true))) n (v)))):=by
  intro v h0 hd;refine PO.br (λq=>?_) λ_=>PO.el λb _ hb=>PO.bind yn λy hy=>PO.br (λq=>?_) λ_=>?_
  ·simp at q;rw[List.drop_eq_nil_of_le (by omega)] at hd;cases hd
  ·have:s[v.toNat]?=some c:=by rw[<- List.head?_drop,hd];rfl
   rw[hb] at this;cases this;rw[hy.2 hc] at q;cases q
  refine PO.iter (λw=>v<=w) (Int.le_refl _) λnext w hn hw=>PO.br (λ_=>PO.el λx _ hx=>?_) λ_=>PO.ok rfl;have hm:x∈c::r:=by
   rw[<- hd];have:(s.drop v.toNat)[w.toNat - v.toNat]?=some x:=by rw[List.getElem?_drop,<- hx];congr 1;omega
   exact List.mem_of_getElem? this
  have go:PO (λy=>y=true) (gd (J (w+1)) (next (w+1))):=PO.gd λ_=>hn _ (by omega);refine PO.bind yn λy hy=>PO.br (λq=>PO.el λx' _ hx'=>?_) λ_=>go;rw[hx] at hx';cases hx';have:¬qO x:=λw=>by rw[hy.2 w] at q;cases q
  unfold mi;rcases hr x hm with w|w|w
  ·exact absurd w this
  ·subst w;refine PO.any λy _=>PO.br (λ_=>PO.el λx' _ hx'=>?_) λ_=>go;rw[hx] at hx';cases hx';exact PO.br (λq=>by simp at q) λ_=>go
  refine PO.bind (W:=λy=>y=true) (PO.br (λ_=>PO.ok (by simp;omega)) λq=>by simp at q;omega) λy hy=>PO.br (λq=>by rw[hy] at q;cases q) λ_=>go
 refine PO.jn (λv=>0<=v/\s.drop v.toNat=c::r) (λv hv=>key v hv.1 hv.2) λj hj=>PO.el λb _ hb=>PO.br (λq=>hj _ ⟨by omega,?_⟩) λq=>PO.el λb' _ hb'=>PO.br (λq2=>hj _ ⟨by omega,?_⟩) λq2=>hj _ ⟨by omega,?_⟩
 ·rcases e with rfl|rfl|rfl
  ·cases hb;simp at q;exact absurd (show qO c from hc) (by unfold qO;omega)
  ·rfl
  cases hb;simp at q
 ·rw[hb] at hb';cases hb';rcases e with rfl|rfl|rfl
  ·cases hb;simp at q2;exact absurd (show qO c from hc) (by unfold qO;omega)
  ·rfl
  rfl
 rw[hb] at hb';cases hb';rcases e with rfl|rfl|rfl
 ·rfl
 ·cases hb;simp at q
 cases hb;simp at q2
end
end Go.Abs
end
section
namespace Go.Abs
open U
structure I6 (t:aY):Prop where
 c:t.Kind=6->NL t.Text
 i:t.Kind=4->∀ n,PO (λr=>r.1≠[]) (gm n t.Text)
 n:t.Kind=2->∀ n,PO (λr=>0<=r.1/\r.1<=1000000000000000) (ll n t.Text)
def SK (q:Option Z) (p:A):Prop:=(∀ t,t∈p.F->I6 t)/\p.pending=q
def Dj (t:aY) (p:A):Prop:=0<=p.at_/\p.F[p.at_.toNat]?=some t/\(p.skip=true->(t.Kind==7)=false)
section
variable {n:Nat} {p:A} {q:Option Z} {s:ByS} {t:aY}
theorem hP (h:SK q p):PO (λr=>SK q r.2/\I6 r.1/\Dj r.1 r.2/\∀ t,Dj t p->r.1=t) (aE n p):=by
 unfold aE kp;refine PO.jn (λv=>SK q v/\(v.skip=true->∀ t,v.F[v.at_.toNat]?=some t->(t.Kind==7)=false)/\∀ t,Dj t p->Dj t v) (λv hv=>PO.el λx h0 hx=>PO.ok ⟨hv.1,hv.1.1 x (List.mem_of_getElem? hx),⟨h0,hx,λhs=>hv.2.1 hs x hx⟩,λt ht=>?_⟩) (λj hj=>?_)
 ·have:=(hv.2.2 t ht).2.1;rw[hx] at this;cases this;rfl
 refine PO.iter (λv=>SK q v/\∀ t,Dj t p->Dj t v) ⟨h,λt ht=>ht⟩ λnext v hn hv=>PO.br (λhs=>PO.el λx h0 hx=>PO.br (λhk=>PO.gd λ_=>hn _ ⟨hv.1,λt ht=>?_⟩) (λhk=>hj _ ⟨hv.1,λ_ t ht=>?_,hv.2⟩)) (λhs=>hj _ ⟨hv.1,λhs'=>?_,hv.2⟩)
 ·obtain ⟨_,h2,h3⟩:=hv.2 t ht;rw[hx] at h2;cases h2;rw[h3 hs] at hk;cases hk
 ·dsimp only at ht;rw[hx] at ht;cases ht;exact hk
 dsimp only at hs';rw[hs] at hs';cases hs'
theorem K2:PO (λb=>b=(t.Kind==5&&t.Text==s)) (cY t s):=by
 unfold cY;exact PO.br (λh=>PO.ok (by rw[h];rfl)) (λh=>PO.ok (by rw[h];rfl))
theorem qC (h:SK q p):PO (λr=>SK q r.2/\∀ t,Dj t p->Dj t r.2) (bO n p):=by
 unfold bO kp;exact PO.bind (hP h) λy hy=>PO.gd λ_=>PO.ok ⟨hy.1,λt ht=>hy.2.2.2 t ht▸hy.2.2.1⟩
theorem G2 {v:Int} {V:A->Prop}:PO V (eT v p):=PO.mw
theorem I7 {V:A->Prop}:PO V (bm n p):=by
 unfold bm;exact PO.any λy _=>PO.bind (G2 (V:=λ_=>False)) λ_ h=>h.elim
theorem jU {α:Type} {V:α->Prop} {k:A->U α}:PO V (U.bind (bm n p) k):=PO.bind (I7 (V:=λ_=>False)) λ_ h=>h.elim
theorem G3 {α:Type} {v:Int} {V:α->Prop} {k:A->U α}:PO V (U.bind (eT v p) k):=PO.bind (G2 (V:=λ_=>False)) λ_ h=>h.elim
theorem nY (h:SK q p):PO (λr=>SK q r.2/\∀ t,Dj t p->r.1=(t.Kind==5&&t.Text==s)) (cq n s p):=by
 unfold cq;refine PO.bind (hP h) λy hy=>PO.bind K2 λz hz=>PO.br (λhb=>PO.ok ⟨hy.1,λt ht=>?_⟩) (λhb=>PO.gd λ_=>PO.ok ⟨hy.1,λt ht=>?_⟩)
 ·have:=hy.2.2.2 t ht;subst this;rw[<- hz];simpa using hb.symm
 have:=hy.2.2.2 t ht;subst this;rw[<- hz];simpa using hb.symm
theorem ml (h:SK q p):PO (SK q) (bX n s p):=by
 unfold bX;exact PO.bind (nY h) λy hy=>PO.br (λ_=>jU) (λ_=>PO.ok hy.1)
theorem tY (h:SK q p):PO (SK q) (dN n s p):=by
 unfold dN;exact PO.bind (hP h) λy hy=>PO.any λz _=>PO.br (λ_=>jU) (λ_=>PO.gd λ_=>PO.ok hy.1)
theorem qZ (h:SK q p):PO (SK q) (cH n s p):=by
 unfold cH;exact PO.bind (hP h) λy hy=>PO.any λz _=>PO.br (λ_=>jU) (λ_=>PO.ok hy.1)
theorem vZ (h:SK q p):PO (λr=>SK q r.2/\fp r.1) (dO n p):=by
 unfold dO;refine PO.bind (hP h) λy hy=>PO.jn (λv=>SK q v/\fp y.1.Text) (λv hv=>PO.gd λ_=>PO.ok hv) (λj hj=>PO.br (λ_=>jU) (λ_=>PO.bind ei λz hz=>PO.br (λ_=>jU) (λhb=>hj _ ⟨hy.1,hz.1 (by simpa using hb)⟩)))
theorem Ew (h:SK q p):PO (λr=>SK q r.2/\fp r.1.x0/\fp r.1.x1/\r.1.x0≠r.1.x1) (fK n p):=by
 unfold fK;exact PO.bind (vZ h) λa ha=>PO.bind (ml ha.1) λb hb=>PO.bind (qC hb) λc hc=>PO.bind (vZ hc.1) λd hd=>PO.br (λ_=>G3) (λhe=>PO.ok ⟨hd.1,ha.2,hd.2,by simpa using he⟩)
theorem qD {k:Int} (h:SK q p):PO (λr=>r.2=p) (cO k p):=by
 unfold cO kp
 (repeat' (with_reducible first|exact PO.ok (Eq.refl _)|refine PO.br (λ_=>?_) (λ_=>?_)|refine PO.gd λ_=>?_|refine PO.el λ_ _ _=>?_|refine PO.any λy _=>?_))
theorem CB (h:SK q p):PO (λr=>SK q r.2) (fi n p):=by
 unfold fi;refine PO.bind (hP h) λy hy=>PO.any λz _=>PO.br (λ_=>PO.ok hy.1) (λ_=>PO.jn (λv=>SK q v.1) (λv hv=>?_) (λj hj=>?_))
 ·refine PO.iter (λv=>SK q v.1) hv λnext v hn hv=>PO.bind (qD hv) λa ha=>PO.br (λ_=>PO.gd λ_=>hn _ (ha▸hv)) (λ_=>PO.bind (qD (ha▸hv)) λb hb=>PO.any λ_ _=>PO.br (λ_=>PO.gd λ_=>PO.bind (qD (hb▸ha▸hv)) λc hc=>PO.any λ_ _=>PO.ok (hc▸hb▸ha▸hv)) (λ_=>PO.ok (hb▸ha▸hv)))
 have h0:SK q (A.mk y.2.text y.2.F y.2.at_ p.base y.2.skip y.2.pending):=hy.1;refine PO.bind (qD h0) λa ha=>PO.any λ_ _=>PO.br (λ_=>PO.bind (qD (ha▸h0)) λb hb=>PO.any λ_ _=>PO.br (λ_=>PO.ok (hb▸ha▸h0)) (λ_=>PO.bind (qD (hb▸ha▸h0)) λc hc=>PO.br (λ_=>PO.ok (hc▸hb▸ha▸h0)) (λ_=>hj _ (hc▸hb▸ha▸h0)))) (λ_=>hj _ (ha▸h0))
theorem wE (h:SK q p):PO (SK q) (et n p):=by
 unfold et;exact PO.jn (SK q) (λv hv=>PO.gd λ_=>PO.ok hv) (λj hj=>PO.bind (hP h) λy hy=>PO.br (λ_=>PO.bind (hP (p:=A.mk y.2.text y.2.F y.2.at_ p.base y.2.skip y.2.pending) hy.1) λz hz=>PO.any λ_ _=>PO.br (λ_=>jU) (λ_=>hj _ hz.1)) (λ_=>hj _ hy.1))
theorem G4 (h:SK q p):PO (λr=>SK q r.2) (ga n p):=by
 unfold ga;exact PO.bind (hP h) λy hy=>PO.br (λ_=>PO.ok hy.1) (λ_=>PO.bind (hP (p:=A.mk y.2.text y.2.F y.2.at_ p.base y.2.skip y.2.pending) hy.1) λz hz=>PO.any λ_ _=>PO.ok hz.1)
theorem A3:PO (λr=>r.2=p) (eu n p):=by
 unfold eu kp;exact PO.gd λ_=>PO.iter (λ_=>True) trivial λnext v hn _=>PO.br (λ_=>PO.el λ_ _ _=>PO.br (λ_=>PO.el λ_ _ _=>PO.el λ_ _ _=>PO.gd λ_=>PO.any λ_ _=>PO.ok rfl) (λ_=>PO.gd λ_=>hn _ trivial)) (λ_=>PO.ok rfl)
theorem CC {k:Int}:PO (λr=>r.2=p) (fu n k p):=by
 unfold fu kp;exact PO.iter (λ_=>True) trivial λnext v hn _=>PO.br (λ_=>PO.el λ_ _ _=>PO.any λ_ _=>PO.br (λ_=>PO.ok rfl) (λ_=>PO.gd λ_=>hn _ trivial)) (λ_=>PO.gd λ_=>PO.el λ_ _ _=>PO.el λ_ _ _=>PO.gd λ_=>PO.any λ_ _=>PO.ok rfl)
theorem sY.snoc {l:List ByS} (h:sY l) (hs:NL s):sY (l++[s]):=λx hx=>by
 rcases List.mem_append.1 hx with hx|hx
 ·exact h x hx
 simp at hx;subst hx;exact hs
theorem sY.app {l m:List ByS} (h:sY l) (hm:sY m):sY (l++m):=λx hx=>by
 rcases List.mem_append.1 hx with hx|hx
 ·exact h x hx
 exact hm x hx
theorem rY:sY []:=λ_ h=>by cases h
theorem yo (h:SK q p):PO (λr=>SK q r.2/\sY r.1) (gy n p):=by
 unfold gy;refine PO.iter (λv=>SK q v.1/\sY v.2) ⟨h,rY⟩ λnext v hn hv=>PO.bind (hP hv.1) λy hy=>PO.br (λhk=>?_) (λ_=>PO.ok ⟨hy.1,hv.2⟩);refine PO.jn (λw=>SK q w/\Dj y.1 w) (λw hw=>PO.bind (hP hw.1) λz hz=>PO.gd λ_=>PO.gd λ_=>hn _ ⟨hz.1,hv.2.snoc ?_⟩) (λj hj=>?_)
 ·rw[hz.2.2.2 _ hw.2];exact hy.2.1.c (by simpa using hk)
 exact PO.bind A3 λa ha=>PO.br (λ_=>jU) (λ_=>hj _ (ha▸⟨hy.1,hy.2.2.1⟩))
theorem CD (h:SK q p):PO (λr=>SK q r.2/\sY r.1) (kA n p):=yo h
theorem Dk (h:SK q p):PO (λr=>SK q r.2/\fp r.1.Name) (dG n p):=by
 unfold dG kp;refine PO.bind (qC h) λa ha=>PO.gd λ_=>PO.jn (λv=>SK q v.1/\(v.2.Name=[]\/fp v.2.Name)) (λv hv=>?_) (λj hj=>?_)
 ·refine PO.bind (hP hv.1) λy hy=>PO.jn (SK q) (λw hw=>?_) (λj hj=>PO.br (λ_=>jU) (λ_=>hj _ hy.1));refine PO.jn (λu=>SK q u.1/\fp u.2.Name) (λu hu=>PO.gd λ_=>PO.bind (wE (q:=q) hu.1) λz hz=>PO.ok ⟨hz,hu.2⟩) (λj hj=>PO.br (λ_=>?_) (λhb=>hj _ ⟨hw,hv.2.resolve_left (by simpa using hb)⟩));exact PO.any λ_ _=>PO.gd λ_=>PO.gd λ_=>PO.bind ei λz hz=>PO.br (λ_=>jU) (λhb=>hj _ ⟨hw,hz.1 (by simpa using hb)⟩)
 exact PO.bind (hP (q:=q) ha.1) λy hy=>PO.br (λ_=>PO.bind (vZ (q:=q) hy.1) λz hz=>hj _ ⟨hz.1,.inr hz.2⟩) (λ_=>hj _ ⟨hy.1,.inl rfl⟩)
theorem A4 {W:List ByS} (hW:ot [32] (s.length+1) s=W):PO (λb=>b=true->t.Kind=5/\t.Text∈W) (gU n t s):=by
 unfold gU strings_Split kp;exact PO.br (λhk=>PO.bind (W:=λy=>y=W) (PO.gd λ_=>PO.ok hW) λy hy=>PO.bind CA λz hz=>PO.ok λh=>⟨by simpa using hk,hy▸hz.1 h⟩) (λ_=>PO.ok λh=>by cases h)
end
theorem VE.low {j:Bool} {e:Z} (h:VE j e) (h1:(e.Kind==16)=false) (h2:(e.Kind==13)=false):VE false e:=by
 cases h
 case struct=>cases h2
 case and=>cases h1
 case L0=>exact .L0
 case bool h=>exact .bool h
 case num h h'=>exact .num h h'
 case str=>exact .str
 case qB h hs=>exact .qB h hs
 case top=>exact .top
 case bot=>exact .bot
 case type h=>exact .type h
 case bound h hx=>exact .bound h hx
 case ref h=>exact .ref h
 case Lv h=>exact .Lv h
 case index h h'=>exact .index h h'
 case list hs=>exact .list hs
 case rest hs hy=>exact .rest hs hy
 case or h hs=>exact .or h hs
 case unary h hx=>exact .unary h hx
 case binary h hx hy=>exact .binary h hx hy
 case call h hs=>exact .call h hs
 case value hd ht=>exact .value hd ht
theorem qE:∀ (n:Nat) {j:Bool} {e:Z} {v:Int} {p:A},VE j e->PO (λr=>VE false r.1/\r.2=p) (bg n e v p)
 | 0,_,_,_,_,_=>PO.nil
 | n+1,j,e,v,p,h=>by
  show PO _ (eK n (cN n) e v p);have ih:∀ {j:Bool} {e:Z} {p:A},VE j e->PO (λr=>VE false r.1/\r.2=p) ((cN n).bg e v p):=λh=>qE n h;have h0:=h;unfold eK;cases h
  case and x y ps hx hy=>
   refine PO.br (λ_=>PO.el λa _ ha=>PO.el λb _ hb=>?_) (λh=>by cases h)
   cases ha;cases hb
   exact PO.bind (ih hx) λr hr=>PO.bind (ih hy) λs hs=>PO.ok ⟨.and hr.1 hs.1,by rw[hs.2,hr.2]⟩
  case struct ds tl ps hd ht=>
   refine PO.br (λh=>by cases h) (λ_=>PO.br (λ_=>?_) (λh=>by cases h))
   refine PO.iter (λw=>w.1=p/\∀ d,d∈w.2.1->VD false d) ⟨rfl,λ_ h=>by cases h⟩ λnext w hn hw=>PO.br (λ_=>PO.el λd _ hdm=>?_) (λ_=>PO.ok ⟨.value hw.2 ht,hw.1⟩)
   have hd:=hd d (List.mem_of_getElem? hdm)
   refine PO.jn (λu=>u.1=p/\VD false u.2) (λu hu=>PO.gd λ_=>PO.gd λ_=>hn _ ⟨hu.1,λx hx=>?_⟩) (λj hj=>?_)
   ·rcases List.mem_append.1 hx with hx|hx
    ·exact hw.2 x hx
    simp at hx;subst hx;exact hu.2
   ·obtain ⟨wp,wl,wi⟩:=w;obtain ⟨rfl,hw⟩:=hw;cases hd
    case field x _ _ hr hr3 hl ht hx=>
     show PO _ (el [x] 0 λx50=>U.bind ((cN n).bg x50 v wp) λy54=>j (y54.2,au.mk 1 _ _ [] [] [y54.1] [] [] _ _ _))
     refine PO.el λy _ hy=>?_
     cases hy
     refine PO.bind (ih hx) λr hr'=>?_
     exact hj _ ⟨hr'.2,.field hr hr3 hr'.1 hl ht⟩
    case pattern x _ _ hb hl ht hx=>
     show PO _ (el [x] 0 λx50=>U.bind ((cN n).bg x50 v wp) λy54=>j (y54.2,au.mk 2 0 _ [] [] [y54.1] [] [] _ _ _))
     refine PO.el λy _ hy=>?_
     cases hy
     refine PO.bind (ih hx) λr hr'=>?_
     exact hj _ ⟨hr'.2,.pattern hb hr'.1 hl ht⟩
    case vt x _ _ hl ht hx=>
     show PO _ (el [x] 0 λx50=>U.bind ((cN n).bg x50 v wp) λy54=>j (y54.2,au.mk 3 0 [] [] [] [y54.1] [] [] _ _ _))
     refine PO.el λy _ hy=>?_
     cases hy
     refine PO.bind (ih hx) λr hr'=>?_
     exact hj _ ⟨hr'.2,.vt hr'.1 hl ht⟩
    case lets=>exact PO.mw (p:=⟨86,[.sc (.int .i64 v)]⟩)
    case ym=>exact PO.mw (p:=⟨86,[.sc (.int .i64 v)]⟩)
    case I5 hx hb hy hl ht=>exact hj _ ⟨rfl,.I5 hx hb hy hl ht⟩
    case A1 ha hb hn hx hb' hy hl ht=>exact hj _ ⟨rfl,.A1 ha hb hn hx hb' hy hl ht⟩
    case dyn hx hy hl ht=>exact hj _ ⟨rfl,.dyn hx hy hl ht⟩
  all_goals exact PO.br (λh=>by cases h) (λ_=>PO.br (λh=>by cases h) (λ_=>PO.ok ⟨h0.low rfl rfl,rfl⟩))
theorem G5 {n:Nat} {e:Z} {v:Int} {p:A} (h:VM e):PO (λr=>VM r.1/\r.2=p) (bg n e v p):=by
 cases h with
 | e h=>exact (qE n h).mono λr hr=>⟨.e hr.1,hr.2⟩
 | mark h=>
  cases n with
  | zero=>exact PO.nil
  | succ n=>
   show PO (λr=>VM r.1/\r.2=p) (eK n (cN n) (.mk 18 [] 0 [] [] [_] [] [] _) v p)
   unfold eK
   exact PO.br (λh=>by cases h) (λ_=>PO.br (λh=>by cases h) (λ_=>PO.ok ⟨.mark h,rfl⟩))
end Go.Abs
end
section
namespace Go.Abs
open U
def QV (j:Bool) (q:Option Z):Prop:=∀ e,q=some e->VE j e
theorem QV.none {j:Bool}:QV j none:=λ_ h=>by cases h
abbrev EV (j:Bool) (r:Z×A):Prop:=SK none r.2/\VE j r.1
abbrev EA (r:Z×A):Prop:=SK none r.2/\∀ j,VE j r.1
abbrev DV (j:Bool) (r:List au×List ByS×A):Prop:=SK none r.2.2/\(∀ d,d∈r.1->VD j d)/\sY r.2.1
abbrev d0 (v:Int):au:=.mk 0 0 [] [] [] [] [] [] [] [] v
abbrev J9:Prop:=∀ n s,PO (λr=>∀ t,t∈r.1->I6 t) (me n s)
structure VG (n:Nat):Prop where
 ex:∀ {j:Bool} {p:A} {q:Option Z},SK q p->QV j q->PO (EV j) (aF n j p)
 alt:∀ {j:Bool} {p:A} {q:Option Z},SK q p->QV j q->PO (λr=>SK none r.2/\(VE j r.1\/VM r.1)/\((q≠none\/∃ t,Dj t p/\(t.Kind==5&&t.Text==[42])=false)->VE j r.1)) (bF n j p)
 CF:∀ {j:Bool} {p:A} {q:Option Z},SK q p->QV j q->PO (EV j) (bG n j p)
 bin:∀ {l:Int} {j:Bool} {p:A} {q:Option Z},SK q p->QV j q->PO (EV j) (bS n l j p)
 unary:∀ {j:Bool} {p:A} {q:Option Z},SK q p->QV j q->PO (EV j) (cI n j p)
 post:∀ {j:Bool} {p:A} {q:Option Z},SK q p->QV j q->PO (EV j) (cu n j p)
 I8:∀ {j:Bool} {p:A} {q:Option Z},SK q p->QV j q->PO (EV j) (cU n j p)
 named:∀ {p:A},SK none p->PO EA (dA n p)
 qB:∀ {p:A} {t:aY} {v:Int},I6 t->t.Kind=4->PO (λr=>r.2=p/\∀ j,VE j r.1) (df n t v p)
 parens:∀ {j:Bool} {p:A},SK none p->PO (EV j) (cB n j p)
 I9:∀ {j:Bool} {e:Z} {p:A},SK none p->PO (λr=>SK none r.2.2/\VE j r.2.1) (ea n j e p)
 A5:∀ {j:Bool} {p:A},SK none p->PO (EV j) (dc n j p)
 list:∀ {p:A},SK none p->PO EA (dR n p)
 L1:∀ {p:A} {v:Int},SK none p->PO (λr=>SK none r.2/\∀ j,VE j r.1) (eO n (.mk 14 [] 0 [] [] [] [] [] v) p)
 block:∀ {j:Bool} {p:A},SK none p->PO (DV j) (cn n j p)
 K3:∀ {j:Bool} {p:A},SK none p->PO (λr=>DV j r.2 ) (ek n j [] [] p)
 args:∀ {p:A},SK none p->PO (λr=>SK none r.2/\∀ x,x∈r.1->VE false x) (dP n p)
 L2:∀ {p:A},SK none p->PO (λr=>SK none r.2/\∀ x,x∈r.1->VE false x) (eN n [] p)
 item:∀ {p:A},SK none p->PO (λr=>SK none r.2/\VI r.1) (dQ n p)
 field:∀ {j:Bool} {p:A} {v:Int},SK none p->PO (λr=>SK none r.1/\VD j r.2) (dz n j p (d0 v))
 pattern:∀ {j:Bool} {p:A} {v:Int},SK none p->PO (λr=>SK none r.1/\VD j r.2) (cT n j p (d0 v))
 xb:∀ {j:Bool} {p:A} {v:Int},SK none p->PO (λr=>SK none r.1/\VD j r.2) (cS n j p (d0 v))
 decl:∀ {j:Bool} {p:A},SK none p->PO (λr=>SK none r.2/\VD j r.1) (cA n j p)
 decls:∀ {j:Bool} {p:A},SK none p->PO (DV j) (dF n j p)
 L3:∀ {e:Z} {p:A},SK none p->VE false e->PO EA (dL n e p)
 w2:∀ {k j:Bool} {p:A},SK none p->PO (λr=>SK none r.1/\(∀ d,d∈r.2.2.1->VD j d)/\sY r.2.2.2) (dh n k p j [] [])
 w3:∀ {k j:Bool} {p:A} {e:Z},SK none p->PO (λr=>SK none r.1/\VE j r.2.2) (di n k p j e)
 w4:∀ {k:Bool} {p:A} {e:Z},SK none p->VE false e->PO (λr=>SK none r.1/\∀ j,VE j r.2) (cQ n k p e)
 w5:∀ {k:Bool} {p:A} {v:Int},SK none p->PO (λr=>SK none r.1/\∀ j,VE j r.2) (dj n k p (.mk 14 [] 0 [] [] [] [] [] v))
 w6:∀ {k:Bool} {p:A},SK none p->PO (λr=>SK none r.1/\∀ x,x∈r.2->VE false x) (dm n k p [])
 code:∀ {s:ByS} {v:Int},PO (λr=>r.2=true->VE false r.1) (iK n s v)
section
variable {n:Nat} {p:A} {q:Option Z} {j:Bool}
theorem Ja (ih:VG n) (h:SK q p) (hq:QV j q):PO (EV j) (aF (n+1) j p):=by
 show PO _ (ic n (X n) j p);unfold ic;refine PO.jn (λv=>SK q v.1/\(v.2=true->q=none)/\(v.2=false->q≠none\/∃ t,Dj t v.1/\(t.Kind==5&&t.Text==[42])=false)) (λv hv=>?_) (λjj hj=>PO.br (λhp=>PO.bind (hP h) λy hy=>PO.bind K2 λz hz=>hj _ ⟨hy.1,λ_=>?_,λhb=>.inr ⟨y.1,hy.2.2.1,by rw[<- hz];exact hb⟩⟩) (λhp=>hj _ ⟨h,λhb=>(by cases hb),λ_=>.inl ?_⟩))
 ·refine PO.jn (λw=>SK none w.1/\(VE j w.2\/VM w.2)/\(v.2=false->VE j w.2)) (λw hw=>?_) (λjj hj=>?_)
  ·refine PO.jn (λu=>SK none u) (λu hu=>?_) (λj9 hj9=>PO.br (λhb=>PO.bind (hP hw.1) λy hy=>PO.any λ_ _=>PO.br (λ_=>PO.ok ⟨hy.1,hw.2.2 (by simpa using hb)⟩) (λ_=>hj9 _ hy.1)) (λ_=>hj9 _ hw.1));refine PO.jn (λu=>SK none u/\∃ t,Dj t u/\(t.Kind==5&&t.Text==[124])=true) (λu hu=>?_) (λj12 hj12=>PO.bind (hP hu) λy hy=>PO.bind K2 λz hz=>PO.br (λ_=>jU) (λhb=>hj12 _ ⟨hy.1,y.1,hy.2.2.1,by rw[<- hz];simpa using hb⟩));obtain ⟨hu,t,hc,ht⟩:=hu;refine PO.bind (qC hu) λa ha=>PO.bind (W:=λr=>VM r.1/\r.2=a.2) ?_ λb hb=>?_
   ·rcases hw.2.1 with h|h
    ·exact (qE n h).mono λr hr=>⟨.e hr.1,hr.2⟩
    exact G5 h
   obtain ⟨be,bp⟩:=b;obtain ⟨hb1,rfl⟩:=hb;refine PO.iter (λv=>SK none v.1/\(∀ x,x∈v.2->VM x)/\(2<=v.2.length\/v.2.length=1/\Dj t v.1)) ⟨ha.1,λx hx=>(by simp at hx;exact hx▸hb1),.inr ⟨rfl,ha.2 t hc⟩⟩ λnext v hn hv=>PO.bind (nY hv.1) λc hc'=>PO.br (λ_=>PO.bind (ih.alt (j:=false) hc'.1 QV.none) λd hd=>PO.gd λ_=>hn _ ⟨hd.1,λx hx=>?_,.inl ?_⟩) (λhb=>PO.el λx _ _=>PO.ok ⟨hc'.1,?_⟩)
   ·rcases List.mem_append.1 hx with hx|hx
    ·exact hv.2.1 x hx
    simp at hx;subst hx;exact hd.2.1.elim .e id
   ·rcases hv.2.2 with h|h<;>simp<;>omega
   rcases hv.2.2 with h|h
   ·exact .or h hv.2.1
   have:=hc'.2 t h.2;rw[ht] at this;rw[this] at hb;cases hb
  have hq':∀ {j:Bool},QV j q->v.2=true->QV j q:=λh _=>h;refine PO.br (λhj'=>PO.bind (ih.alt (j:=!v.2) hv.1 ?_) λa ha=>hj _ ⟨ha.1,?_,λhb=>?_⟩) (λhj'=>PO.bind (ih.alt (j:=false) hv.1 ?_) λa ha=>hj _ ⟨ha.1,?_,λhb=>?_⟩)
  ·cases hb:v.2 with
   | true=>rw[hv.2.1 hb];exact QV.none
   | false=>exact (hj'▸hq:QV true q)
  ·cases hb:v.2 with
   | true=>
    rcases ha.2.1 with h|h
    ·rw[hb] at h;exact .inr (.e h)
    ·exact .inr h
   | false=>
    have:=ha.2.1
    rw[hb] at this;rw[hj'];exact this
  ·have:=ha.2.2 (hv.2.2 hb);rw[hb] at this;rw[hj'];exact this
  ·rw[<- hj'];exact hq
  ·rw[hj'];exact ha.2.1
  rw[hj'];exact ha.2.2 (hv.2.2 hb)
 ·have:=h.2;rw[this] at hp;cases q with
  | none=>rfl
  | some e=>cases hp
 have:=h.2;rw[this] at hp;cases q with
 | none=>cases hp
 | some e=>exact λq=>by cases q
theorem K4 (ih:VG n) (h:SK q p) (hq:QV j q):PO (λr=>SK none r.2/\(VE j r.1\/VM r.1)/\((q≠none\/∃ t,Dj t p/\(t.Kind==5&&t.Text==[42])=false)->VE j r.1)) (bF (n+1) j p):=by
 show PO _ (eV n (X n) j p);unfold eV;refine PO.br (λhp=>?_) (λhp=>PO.bind (ih.CF h hq) λy hy=>PO.ok ⟨hy.1,.inl hy.2,λ_=>hy.2⟩);have hq0:q=none:=by
  rw[h.2] at hp;cases q with
  | none=>rfl
  | some e=>cases hp
 subst hq0;refine PO.bind (qC h) λa ha=>PO.bind (nY ha.1) λb hb=>PO.br (λhb'=>PO.bind (ih.CF hb.1 QV.none) λy hy=>PO.ok ⟨hy.1,.inr (.mark hy.2),λhh=>?_⟩) (λ_=>PO.bind (ih.CF hb.1 QV.none) λy hy=>PO.ok ⟨hy.1,.inl hy.2,λ_=>hy.2⟩);rcases hh with hh|⟨t,hc,ht⟩
 ·exact absurd rfl hh
 have:=hb.2 t (ha.2 t hc);rw[ht,hb'] at this;cases this
theorem Jb (ih:VG n) (h:SK q p) (hq:QV j q):PO (EV j) (bG (n+1) j p):=by
 show PO _ (eW n (X n) j p);unfold eW;exact PO.bind (ih.bin h hq) λy hy=>PO.iter (λv=>SK none v.1/\VE j v.2) hy λnext v hn hv=>PO.bind (nY hv.1) λa ha=>PO.br (λ_=>PO.bind (ih.bin ha.1 QV.none) λb hb=>hn _ ⟨hb.1,.and hv.2 hb.2⟩) (λ_=>PO.ok ⟨ha.1,hv.2⟩)
theorem Jc {l:Int} {t:aY} {s:ByS} (h:iS l=.ok s):PO (λb=>b=true->t.Text∈GY) (gU n t s):=by
 have key:∀ {W:List ByS},ot [32] (s.length+1) s=W->(∀ x,x∈W->x∈GY)->PO (λb=>b=true->t.Text∈GY) (gU n t s):=λhW hs=>(A4 hW).mono λb hb e=>hs _ (hb e).2;unfold iS at h;have K:∀ {b:Bool} {x y:U ByS},br b x y=.ok s->x=.ok s\/y=.ok s:=λ{b} {x} {y} h=>by cases b;exact .inr h;exact .inl h
 rcases K h with h|h
 ·cases h;exact key (W:=[[124,124]]) (by decide) (by decide)
 rcases K h with h|h
 ·cases h;exact key (W:=[[38,38]]) (by decide) (by decide)
 rcases K h with h|h
 ·cases h;exact key (W:=[[61,61],[33,61],[60],[60,61],[62],[62,61]]) (by decide) (by decide)
 rcases K h with h|h
 ·cases h;exact key (W:=[[43],[45]]) (by decide) (by decide)
 cases h;exact key (W:=[[42],[47],[37]]) (by decide) (by decide)
theorem K5 (ih:VG n) {l:Int} (h:SK q p) (hq:QV j q):PO (EV j) (bS (n+1) l j p):=by
 show PO _ (gq n (X n) l j p);unfold gq;refine PO.br (λ_=>PO.bind (ih.unary h hq) λy hy=>PO.ok hy) (λ_=>PO.gd λ_=>PO.bind (ih.bin h hq) λy hy=>PO.iter (λv=>SK none v.1/\VE j v.2) hy λnext v hn hv=>PO.bind (hP hv.1) λa ha=>PO.any λo ho=>PO.bind (Jc ho) λb hb=>PO.br (λhb'=>?_) (λ_=>PO.ok ⟨ha.1,hv.2⟩));refine PO.bind (qC (q:=none) ha.1) λc hc=>PO.bind (qE n hv.2) λd hd=>?_;obtain ⟨de,dp⟩:=d;obtain ⟨hd,rfl⟩:=hd;refine PO.bind (hP hc.1) λe he=>PO.gd λ_=>PO.gd λ_=>PO.bind (ih.bin (q:=none) he.1 QV.none) λf hf=>hn _ ⟨hf.1,.binary ?_ hd hf.2⟩;rw[he.2.2.2 a.1 (hc.2 a.1 ha.2.2.1)];exact hb hb'
theorem G6 (ih:VG n) (h:SK q p) (hq:QV j q):PO (EV j) (cI (n+1) j p):=by
 show PO _ (gO n (X n) j p);unfold gO;refine PO.br (λ_=>PO.bind (ih.post h hq) λy hy=>PO.ok hy) (λhp=>?_);have hq0:q=none:=by
  rw[h.2] at hp;cases q with
  | none=>rfl
  | some e=>cases hp
 subst hq0;refine PO.bind (hP h) λy hy=>PO.bind (qC (q:=none) hy.1) λa ha=>PO.jn (λv=>v=19/\y.1.Text∈Di\/v=9/\y.1.Text∈Dh) (λv hv=>PO.gd λ_=>PO.bind (ih.unary (q:=none) ha.1 QV.none) λb hb=>PO.ok ⟨hb.1,?_⟩) (λjj hj=>PO.bind (A4 (W:=Di) (by decide)) λb hb=>PO.br (λh=>hj _ (.inl ⟨rfl,(hb h).2⟩)) (λ_=>PO.bind (A4 (W:=Dh) (by decide)) λc hc=>PO.br (λh=>hj _ (.inr ⟨rfl,(hc h).2⟩)) (λ_=>PO.bind (ih.post ha.1 QV.none) λb hb=>PO.ok hb)));rcases hv with ⟨rfl,hv⟩|⟨rfl,hv⟩
 ·exact .unary hv hb.2
 exact .bound hv hb.2
theorem Jd (ih:VG n) (h:SK q p) (hq:QV j q):PO (EV j) (cu (n+1) j p):=by
 show PO _ (fV n (X n) j p);unfold fV;refine PO.bind (ih.I8 h hq) λy hy=>PO.iter (λv=>SK none v.1/\VE j v.2) hy λnext v hn hv=>PO.bind (hP hv.1) λa ha=>PO.bind (qC (q:=none) ha.1) λb hb=>PO.any λ_ _=>PO.br (λ_=>PO.bind (qE n hv.2) λd hd=>?_) (λ_=>PO.any λ_ _=>PO.br (λ_=>PO.bind (qE n hv.2) λd hd=>?_) (λ_=>PO.ok ⟨hb.1,hv.2⟩))
 ·obtain ⟨de,dp⟩:=d;obtain ⟨hd,rfl⟩:=hd;exact PO.gd λ_=>PO.bind (hP (q:=none) hb.1) λc hc=>PO.jn (SK none) (λw hw=>PO.gd λ_=>hn _ ⟨hw,.Lv hd⟩) (λjj hj=>PO.any λ_ _=>PO.br (λ_=>jU) (λ_=>hj _ hc.1))
 obtain ⟨de,dp⟩:=d;obtain ⟨hd,rfl⟩:=hd;exact PO.gd λ_=>PO.bind (ih.w4 hb.1 hd) λc hc=>PO.gd λ_=>hn _ ⟨hc.1,hc.2 j⟩
theorem G7 (ih:VG n) {e:Z} (h:SK none p) (he:VE false e):PO EA (dL (n+1) e p):=by
 show PO _ (fB n (X n) e p);unfold fB;exact PO.bind (ih.ex h QV.none) λa ha=>PO.bind (qZ ha.1) λb hb=>PO.ok ⟨hb,λ_=>.index he ha.2⟩
theorem Je (ih:VG n) (h:SK q p) (hq:QV j q):PO (EV j) (cU (n+1) j p):=by
 show PO _ (fW n (X n) j p);unfold fW;refine PO.br (λ_=>PO.some λe he=>PO.ok ⟨⟨h.1,rfl⟩,hq e (h.2▸he)⟩) (λhp=>?_);have hq0:q=none:=by
  rw[h.2] at hp;cases q with
  | none=>rfl
  | some e=>cases hp
 subst hq0;refine PO.bind (hP h) λa ha=>PO.bind (qC (q:=none) ha.1) λb hb=>PO.jn (λv=>SK none v.1/\VE j v.2) (λv hv=>PO.gd λ_=>PO.ok ⟨hv.1,hv.2⟩) (λjj hj=>?_);refine PO.br (λ_=>PO.bind (ih.named hb.1) λc hc=>PO.ok ⟨hc.1,hc.2 j⟩) λ_=>?_;refine PO.br (λhk=>PO.bind (ha.2.1.n (by simpa using hk) n) λc hc=>hj _ ⟨hb.1,.num hc.1 hc.2⟩) λ_=>?_;refine PO.br (λ_=>hj _ ⟨hb.1,.str⟩) λ_=>?_;refine PO.br (λhk=>PO.bind (ih.qB (p:=b.2) ha.2.1 (by simpa using hk)) λc hc=>hj _ ⟨hc.1▸hb.1,hc.2 j⟩) λ_=>?_;refine PO.any λ_ _=>PO.br (λ_=>hj _ ⟨hb.1,.top⟩) λ_=>?_;refine PO.any λ_ _=>PO.br (λ_=>hj _ ⟨hb.1,.bot⟩) λ_=>?_;refine PO.any λ_ _=>PO.br (λ_=>PO.bind (ih.parens hb.1) λc hc=>PO.ok hc) λ_=>?_;refine PO.any λ_ _=>PO.br (λ_=>PO.bind (ih.A5 hb.1) λc hc=>PO.ok hc) λ_=>?_;exact PO.any λ_ _=>PO.br (λ_=>PO.bind (ih.list hb.1) λc hc=>PO.ok ⟨hc.1,hc.2 j⟩) λ_=>jU
theorem G8 (ih:VG n) (h:SK none p):PO EA (dA (n+1) p):=by
 show PO _ (gN n (X n) p);unfold gN;refine PO.bind (hP h) λa ha=>PO.bind (qC (q:=none) ha.1) λb hb=>PO.jn (λe=>∀ j,VE j (.mk e.Kind e.Text e.iM e.V e.aS [] [] [] e.Pos)) (λe he=>PO.gd λ_=>PO.ok ⟨hb.1,he⟩) (λj7 hj=>?_);refine PO.br (λ_=>hj _ λ_=>.L0) λ_=>PO.jn (λ_=>True) (λv _=>PO.br (λ_=>PO.br (λ_=>hj _ λ_=>.bool (.inr rfl)) (λ_=>hj _ λ_=>.bool (.inl rfl))) (λ_=>?_)) (λk hk=>PO.br (λ_=>hk _ trivial) (λ_=>hk _ trivial));refine PO.jn (λv=>v=true->a.1.Text∈Eu) (λv hv=>PO.br (λh=>hj _ λ_=>.type (hv h)) (λ_=>?_)) (λk hk=>?_)
 ·exact PO.bind (vZ (q:=none) hb.1) λc hc=>PO.bind (hP hc.1) λd hd=>PO.any λ_ _=>PO.br (λ_=>PO.bind (ih.args hd.1) λe he=>PO.ok ⟨he.1,λ_=>.call hc.2 he.2⟩) (λ_=>PO.ok ⟨hd.1,λ_=>.ref hc.2⟩)
 refine PO.br (λh=>hk _ λ_=>?_) (λ_=>PO.br (λh=>hk _ λ_=>?_) (λ_=>PO.br (λh=>hk _ λ_=>?_) (λ_=>hk _ λh=>?_)));all_goals (simp at h;rw[h];decide)
end
end Go.Abs
end
section
namespace Go.Abs
open U
section
variable {n:Nat} {p:A} {j:Bool}
theorem o0 {α:Type} {P:α->Prop} {l:List α} {x:α} (h:∀ y,y∈l->P y) (hx:P x):∀ y,y∈l++[x]->P y:=λy hy=>by
 rcases List.mem_append.1 hy with hy|hy
 ·exact h y hy
 simp at hy;subst hy;exact hx
theorem oE {α:Type} {P:α->Prop}:∀ y:α,y∈[]->P y:=λ_ h=>by cases h
theorem Fc (ih:VG n) {t:aY} {v:Int} (ht:I6 t) (hk:t.Kind=4):PO (λr=>r.2=p/\∀ j,VE j r.1) (df (n+1) t v p):=by
 show PO _ (gu n (X n) t v p);unfold gu;refine PO.bind (ht.i hk n) λy hy=>PO.iter (λw=>w.1=p/\0<=w.2.2/\w.2.2<=w.2.1.B.length/\(∀ x,x∈w.2.1.B->VE false x)/\∃ l,w.2.1=.mk 5 [] 0 [] [] l [] [] v) ⟨rfl,Int.le_refl 0,Int.le_refl 0,oE,[],rfl⟩ λnext w hn hw=>PO.br (λ_=>PO.el λx _ hx=>PO.gd λ_=>PO.gd λ_=>?_) (λhlt=>PO.ok ?_)
 ·obtain ⟨wp,we,wi⟩:=w;obtain ⟨h1,h2,h3,h4,l,h5⟩:=hw;dsimp only at h1 h2 h3 h4 h5;subst h1 h5;have go:∀ {x:Z},VE false x->PO (λr=>r.2=wp/\∀ j,VE j r.1) (next (wp,(Z.mk 5 [] 0 [] [] (l++[x]) [] [] v),wi+1)):=λhx=>hn _ ⟨rfl,by dsimp only;omega,by dsimp only [Z.B] at h3 ⊢;simp;omega,o0 h4 hx,_,rfl⟩;refine PO.br (λ_=>PO.gd λ_=>PO.gd λ_=>go .str) (λ_=>PO.bind ih.code λc hc=>PO.br (λ_=>G3) (λhb=>PO.gd λ_=>PO.gd λ_=>go (hc (by simpa using hb))))
 obtain ⟨wp,we,wi⟩:=w;obtain ⟨h1,h2,h3,h4,l,h5⟩:=hw;dsimp only at h1 h2 h3 h4 h5;subst h1 h5;refine ⟨rfl,λ_=>.qB ?_ h4⟩;dsimp only [Z.B] at h3 ⊢;rintro rfl;have:0<y.1.length:=List.length_pos_iff.2 hy;simp at hlt h3;omega
theorem Fe (ih:VG n) (h:SK none p):PO (EV j) (cB (n+1) j p):=by
 show PO _ (gw n (X n) j p);unfold gw;exact PO.bind (ml h) λa ha=>PO.bind (ih.w3 ha) λb hb=>PO.gd λ_=>PO.ok ⟨hb.1,hb.2⟩
theorem Dl (ih:VG n) {e:Z} (h:SK none p):PO (λr=>SK none r.2.2/\VE j r.2.1) (ea (n+1) j e p):=by
 show PO _ (eU n (X n) j e p);unfold eU;exact PO.bind (ih.ex h QV.none) λa ha=>PO.bind (qZ ha.1) λb hb=>PO.ok ⟨hb,ha.2⟩
theorem Ff (ih:VG n) (h:SK none p):PO (EV j) (dc (n+1) j p):=by
 show PO _ (gr n (X n) j p);unfold gr;refine PO.bind (qC h) λa ha=>PO.jn (λe=>∃ v,e=.mk (bif j then 13 else 22) [] 0 [] [] [] [] [] v) (λe he=>PO.bind (ih.block ha.1) λb hb=>PO.ok ⟨hb.1,?_⟩) (λjj hj=>PO.br (λh=>hj _ ⟨_,by rw[h];rfl⟩) (λh=>hj _ ⟨_,by rw[h];rfl⟩));obtain ⟨v,rfl⟩:=he;cases j with
 | true=>exact .struct hb.2.1 hb.2.2
 | false=>exact .value hb.2.1 hb.2.2
theorem Jf (ih:VG n) (h:SK none p):PO EA (dR (n+1) p):=by
 show PO _ (ij n (X n) p);unfold ij;exact PO.bind (qC h) λa ha=>PO.bind (ml ha.1) λb hb=>PO.bind (ih.w5 hb) λc hc=>PO.gd λ_=>PO.ok ⟨hc.1,hc.2⟩
theorem G9 (ih:VG n) {v:Int} (h:SK none p):PO (λr=>SK none r.2/\∀ j,VE j r.1) (eO (n+1) (.mk 14 [] 0 [] [] [] [] [] v) p):=by
 show PO _ (gv n (X n) _ p);unfold gv;refine PO.iter (λw=>SK none w.2.1/\∃ l,w.1=.mk 14 [] 0 [] [] l [] [] v/\∀ x,x∈l->VI x) ⟨h,[],rfl,oE⟩ λnext w hn hw=>?_;obtain ⟨we,wp,wb⟩:=w;obtain ⟨hw,l,he,hl⟩:=hw;dsimp only at hw he;subst he;refine PO.bind (hP hw) λa ha=>PO.any λ_ _=>PO.br (λ_=>PO.jn (SK none) (λu hu=>PO.bind (qC hu) λb hb=>PO.bind (nY hb.1) λc hc=>PO.br (λ_=>PO.jn (λu=>SK none u.1/\VE false u.2) (λu hu=>PO.gd λ_=>PO.bind (qZ hu.1) λd hd=>PO.ok ⟨hd,λ_=>.rest hl hu.2⟩) (λjj hj=>?_)) (λ_=>PO.bind (ih.item hc.1) λd hd=>PO.gd λ_=>hn _ ⟨hd.1,_,rfl,o0 hl hd.2⟩)) (λjj hj=>PO.br (λ_=>PO.bind (ml (q:=none) ha.1) λb hb=>hj _ hb) (λ_=>hj _ ha.1))) (λ_=>PO.bind (qZ (q:=none) ha.1) λb hb=>PO.ok ⟨hb,λ_=>.list hl⟩);exact PO.bind (hP hc.1) λd hd=>PO.any λ_ _=>PO.br (λ_=>PO.bind (ih.ex (q:=none) hd.1 QV.none) λe he=>hj _ he) (λ_=>hj _ ⟨hd.1,.top⟩)
theorem Jg (ih:VG n) (h:SK none p):PO (λr=>SK none r.2/\VI r.1) (dQ (n+1) p):=by
 show PO _ (ig n (X n) p);unfold ig;refine PO.bind (qC h) λa ha=>PO.bind (hP ha.1) λb hb=>PO.any λ_ _=>PO.br (λ_=>PO.bind (ih.ex (q:=none) hb.1 QV.none) λc hc=>PO.ok ⟨hc.1,.e hc.2⟩) (λ_=>?_);refine PO.bind (tY (q:=none) hb.1) λc hc=>PO.bind (Ew hc) λd hd=>PO.bind (tY hd.1) λe he=>PO.bind (ih.ex he QV.none) λf hf=>PO.gd λ_=>?_;refine PO.jn (λw=>SK none w.1/\∃ l v,w.2=.mk 15 [] 0 d.1.x0 d.1.x1 l [] [] v/\(l=[f.1]\/∃ x,l=[f.1,x]/\VE false x)) (λw hw=>?_) (λjj hj=>PO.bind (hP hf.1) λg hg=>PO.any λ_ _=>PO.br (λ_=>PO.bind (tY (q:=none) hg.1) λk hk=>PO.bind (ih.ex hk QV.none) λm hm=>PO.gd λ_=>hj _ ⟨hm.1,_,_,rfl,.inr ⟨_,rfl,hm.2⟩⟩) (λ_=>hj _ ⟨hg.1,_,_,rfl,.inl rfl⟩));obtain ⟨wp,we⟩:=w;obtain ⟨hw,l,v,he',hl⟩:=hw;dsimp only at hw he';subst he';refine PO.bind (ml hw) λg hg=>PO.bind (ih.ex hg QV.none) λk hk=>PO.gd λ_=>PO.ok ⟨hk.1,?_⟩;rcases hl with rfl|⟨x,rfl,hx⟩
 ·exact .yk hd.2.1 hd.2.2.1 hd.2.2.2 hf.2 hk.2
 exact .yl hd.2.1 hd.2.2.1 hd.2.2.2 hf.2 hx hk.2
theorem Jh (ih:VG n) (h:SK none p):PO (λr=>SK none r.2/\∀ x,x∈r.1->VE false x) (dP (n+1) p):=by
 show PO _ (ia n (X n) p);unfold ia;exact PO.bind (ml h) λa ha=>PO.bind (ih.w6 ha) λb hb=>PO.gd λ_=>PO.ok ⟨hb.1,hb.2⟩
theorem Ha (ih:VG n) (h:SK none p):PO (λr=>SK none r.2/\∀ x,x∈r.1->VE false x) (eN (n+1) [] p):=by
 show PO _ (gp n (X n) [] p);unfold gp;exact PO.bind (hP h) λa ha=>PO.any λ_ _=>PO.br (λ_=>PO.bind (ih.ex (q:=none) ha.1 QV.none) λb hb=>PO.gd λ_=>PO.iter (λw=>SK none w.2/\∀ x,x∈w.1->VE false x) ⟨hb.1,o0 oE hb.2⟩ λnext w hn hw=>PO.bind (nY hw.1) λc hc=>PO.br (λ_=>PO.bind (ih.ex hc.1 QV.none) λd hd=>PO.gd λ_=>hn _ ⟨hd.1,o0 hw.2 hd.2⟩) (λ_=>PO.bind (qZ hc.1) λd hd=>PO.ok ⟨hd,hw.2⟩)) (λ_=>PO.bind (qZ (q:=none) ha.1) λb hb=>PO.ok ⟨hb,oE⟩)
theorem Hb (ih:VG n) (h:SK none p):PO (DV j) (cn (n+1) j p):=by
 show PO _ (gK n (X n) j p);unfold gK;exact PO.bind (ml h) λa ha=>PO.bind (ih.w2 ha) λb hb=>PO.gd λ_=>PO.ok ⟨hb.1,hb.2⟩
theorem Fg (ih:VG n) (h:SK none p):PO (λr=>DV j r.2) (ek (n+1) j [] [] p):=by
 show PO _ (fl n (X n) j [] [] p);unfold fl;exact PO.bind (ih.decls h) λa ha=>PO.bind (qZ ha.1) λb hb=>PO.ok ⟨hb,ha.2⟩
theorem L4 (ih:VG n) {k:Bool} (h:SK none p):PO (λr=>SK none r.1/\(∀ d,d∈r.2.2.1->VD j d)/\sY r.2.2.2) (dh (n+1) k p j [] []):=by
 show PO _ (ey n (X n) k p j [] []);unfold ey;exact PO.bind (ih.K3 (p:=A.mk p.text p.F p.at_ p.base k p.pending) h) λa ha=>PO.ok ⟨ha.1,ha.2⟩
theorem L5 (ih:VG n) {k:Bool} {e:Z} (h:SK none p):PO (λr=>SK none r.1/\VE j r.2.2) (di (n+1) k p j e):=by
 show PO _ (ez n (X n) k p j e);unfold ez;exact PO.bind (ih.I9 (p:=A.mk p.text p.F p.at_ p.base k p.pending) h) λa ha=>PO.ok ⟨ha.1,ha.2⟩
theorem L6 (ih:VG n) {k:Bool} {e:Z} (h:SK none p) (he:VE false e):PO (λr=>SK none r.1/\∀ j,VE j r.2) (cQ (n+1) k p e):=by
 show PO _ (eB n (X n) k p e);unfold eB;exact PO.bind (ih.L3 (p:=A.mk p.text p.F p.at_ p.base k p.pending) h he) λa ha=>PO.ok ⟨ha.1,ha.2⟩
theorem L7 (ih:VG n) {k:Bool} {v:Int} (h:SK none p):PO (λr=>SK none r.1/\∀ j,VE j r.2) (dj (n+1) k p (.mk 14 [] 0 [] [] [] [] [] v)):=by
 show PO _ (eC n (X n) k p _);unfold eC;exact PO.bind (ih.L1 (p:=A.mk p.text p.F p.at_ p.base k p.pending) h) λa ha=>PO.ok ⟨ha.1,ha.2⟩
theorem L8 (ih:VG n) {k:Bool} (h:SK none p):PO (λr=>SK none r.1/\∀ x,x∈r.2->VE false x) (dm (n+1) k p []):=by
 show PO _ (eD n (X n) k p []);unfold eD;exact PO.bind (ih.L2 (p:=A.mk p.text p.F p.at_ p.base k p.pending) h) λa ha=>PO.ok ⟨ha.1,ha.2⟩
theorem Ji (hS:J9) (ih:VG n) {s:ByS} {v:Int}:PO (λr=>r.2=true->VE false r.1) (iK (n+1) s v):=by
 show PO _ (lG n (X n) s v);unfold lG;refine PO.bind (hS n s) λa ha=>PO.br (λ_=>PO.ok λh=>by cases h) (λ_=>PO.any λ_ _=>PO.br (λ_=>PO.ok λh=>by cases h) (λ_=>PO.jh (PO.bind (ih.ex (q:=none) ⟨ha,rfl⟩ QV.none) λb hb=>PO.bind (hP hb.1) λc _=>PO.ok λ_=>hb.2) λp=>PO.qJ λv=>PO.bind (PO.ok (V:=λr=>r.2=false) rfl) λr hr=>PO.ok λh=>(by dsimp only at h;rw[hr] at h;cases h)))
end
end Go.Abs
end
section
namespace Go.Abs
open U
theorem Fh:yj [46,42]:=⟨300,.mk 5 0 0 0 0 [.mk 2 18446744073709551615 18446744073709551615 18446744073709551615 18446744073709551615 []],⟨0,0⟩,by kernel_rfl,rfl⟩
section
variable {n:Nat} {p:A} {j:Bool}
theorem Hc (ih:VG n) {v:Int} (h:SK none p):PO (λr=>SK none r.1/\VD j r.2) (dz (n+1) j p (d0 v)):=by
 show PO _ (gL n (X n) j p (d0 v));unfold gL;refine PO.bind (hP h) λa ha=>PO.gd λ_=>PO.jn (λw=>SK none w.1/\∃ r,1<=r/\r<=3/\w.2=.mk 1 r a.1.Text [] [] [] [] [] [] [] v) (λw hw=>?_) (λjj hj=>PO.bind (nY (q:=none) ha.1) λb hb=>PO.br (λ_=>hj _ ⟨hb.1,3,by decide,by decide,rfl⟩) (λ_=>PO.bind (nY hb.1) λc hc=>PO.br (λ_=>hj _ ⟨hc.1,2,by decide,by decide,rfl⟩) (λ_=>hj _ ⟨hc.1,1,by decide,by decide,rfl⟩)));obtain ⟨wp,wd⟩:=w;obtain ⟨hw,r,h1,h3,hd⟩:=hw;dsimp only at hw hd;subst hd;exact PO.bind (ml hw) λb hb=>PO.bind (ih.ex hb QV.none) λc hc=>PO.ok ⟨hc.1,.field h1 h3 hc.2 rY λ_ h=>by cases h⟩
theorem Dm {n:Nat} {v:Int} (h:SK none p):PO (λr=>SK none r.1/\∃ lb,yj lb/\r.2=.mk 2 0 lb [] [] [] [] [] [] [] v) (fS n p (.mk 2 0 [46,42] [] [] [] [] [] [] [] v)):=by
 unfold fS kp;refine PO.jn (λw=>SK none w.1/\∃ lb,yj lb/\w.2=.mk 2 0 lb [] [] [] [] [] [] [] v) (λw hw=>PO.gd λ_=>PO.bind (qZ (q:=none) hw.1) λa ha=>PO.ok ⟨ha,hw.2⟩) (λjj hj=>PO.bind (nY h) λa ha=>PO.br (λ_=>PO.bind (hP ha.1) λb hb=>PO.any λc hc=>PO.br (λ_=>jU) (λhe=>hj _ ⟨hb.1,_,⟨n,c.1,c.2,hc,by simpa using he⟩,rfl⟩)) (λ_=>hj _ ⟨ha.1,_,Fh,rfl⟩))
theorem He {n:Nat} {k:Bool} {v:Int} (h:SK none p):PO (λr=>SK none r.1/\∃ lb,yj lb/\r.2=.mk 2 0 lb [] [] [] [] [] [] [] v) (fZ n k p (.mk 2 0 [46,42] [] [] [] [] [] [] [] v)):=by
 unfold fZ;exact PO.bind (Dm (p:=A.mk p.text p.F p.at_ p.base k p.pending) h) λa ha=>PO.ok ⟨ha.1,ha.2⟩
theorem Dn (ih:VG n) {v:Int} (h:SK none p):PO (λr=>SK none r.1/\VD j r.2) (cT (n+1) j p (d0 v)):=by
 show PO _ (fU n (X n) j p (d0 v));unfold fU;refine PO.bind (ml h) λa ha=>PO.bind (He ha) λb hb=>PO.gd λ_=>PO.bind (ml (q:=none) hb.1) λc hc=>PO.bind (ih.ex hc QV.none) λd hd=>PO.ok ⟨hd.1,?_⟩;obtain ⟨lb,hl,e⟩:=hb.2;rw[e];exact .pattern hl hd.2 rY λ_ h=>by cases h
theorem Dp (ih:VG n) {v:Int} (h:SK none p):PO (λr=>SK none r.1/\VD j r.2) (cS (n+1) j p (d0 v)):=by
 show PO _ (fT n (X n) j p (d0 v));unfold fT;refine PO.bind (ih.parens (j:=j) h) λa ha=>PO.bind (hP ha.1) λb hb=>PO.any λ_ _=>PO.br (λ_=>PO.bind (qC (q:=none) hb.1) λc hc=>PO.bind (qE n ha.2) λd hd=>?_) (λ_=>PO.bind (ih.ex (q:=some a.1) ⟨hb.1.1,rfl⟩ λe he=>(by cases he;exact ha.2)) λc hc=>PO.ok ⟨hc.1,.vt hc.2 rY λ_ h=>by cases h⟩);obtain ⟨de,dp⟩:=d;obtain ⟨hd,rfl⟩:=hd;exact PO.gd λ_=>PO.bind (ih.ex (q:=none) hc.1 QV.none) λe he=>PO.ok ⟨he.1,.dyn hd he.2 rY λ_ h=>by cases h⟩
theorem Hf:NL []:=λ_ h=>by cases h
theorem Jj (ih:VG n) (h:SK none p):PO (λr=>SK none r.2/\VD j r.1) (cA (n+1) j p):=by
 show PO _ (ib n (X n) j p);unfold ib;refine PO.bind (hP h) λa ha=>PO.bind (qC (q:=none) ha.1) λb hb=>PO.bind (qD hb.1) λc hc=>?_;have hc0:SK none c.2:=hc▸hb.1;refine PO.jn (λw=>SK none w.1/\VD j w.2) (λw hw=>PO.ok ⟨hw.1,hw.2⟩) (λj9 hj=>PO.jn (λ_=>True) (λv _=>?_) (λk hk=>PO.any λ_ _=>PO.br (λ_=>PO.any λ_ _=>hk _ trivial) (λ_=>hk _ trivial)));refine PO.br (λ_=>PO.bind (ih.field hc0) λd hd=>hj _ hd) λ_=>PO.bind (CB hc0) λd hd=>PO.br (λ_=>PO.bind (ih.pattern hd) λe he=>hj _ he) λ_=>?_;refine PO.any λ_ _=>PO.br (λ_=>PO.jn (λw=>SK none w/\j=true) (λw hw=>?_) (λk hk=>PO.br (λ_=>jU) (λhb=>hk _ ⟨hd,by simpa using hb⟩))) λ_=>?_
 ·obtain ⟨hw,rfl⟩:=hw;exact PO.gd λ_=>PO.bind (vZ (q:=none) hw) λe he=>PO.bind (ml he.1) λf hf=>PO.bind (ih.ex (j:=true) hf QV.none) λg hg=>hj _ ⟨hg.1,.lets he.2 hg.2 rY Hf⟩
 refine PO.any λ_ _=>PO.br (λ_=>PO.jn (λw=>SK none w/\j=true) (λw hw=>?_) (λk hk=>PO.br (λ_=>jU) (λhb=>hk _ ⟨hd,by simpa using hb⟩))) λ_=>?_
 ·obtain ⟨hw,rfl⟩:=hw;exact PO.gd λ_=>hj _ ⟨hw,.ym rY Hf⟩
 refine PO.any λ_ _=>PO.br (λ_=>PO.gd λ_=>PO.bind (ih.ex (j:=false) (q:=none) hd QV.none) λe he=>PO.bind (ih.block (j:=false) he.1) λf hf=>hj _ ⟨hf.1,.I5 he.2 hf.2.1 hf.2.2 rY Hf⟩) λ_=>?_;refine PO.any λ_ _=>PO.br (λ_=>PO.gd λ_=>PO.bind (Ew (q:=none) hd) λe he=>PO.bind (tY he.1) λf hf=>PO.bind (ih.ex (j:=false) hf QV.none) λg hg=>PO.bind (ih.block (j:=false) hg.1) λk hk=>hj _ ⟨hk.1,.A1 he.2.1 he.2.2.1 he.2.2.2 hg.2 hk.2.1 hk.2.2 rY Hf⟩) λ_=>?_;exact PO.any λ_ _=>PO.br (λ_=>PO.bind (ih.xb hd) λe he=>hj _ he) λ_=>PO.bind (ih.ex hd QV.none) λe he=>hj _ ⟨he.1,.vt he.2 rY Hf⟩
theorem VD.M4 {d:au} {l:List ByS} (h:VD j d) (hl:sY l):VD j (.mk d.Kind d.cX d.Label d.V d.aS d.B d.Body d.H l d.Trail d.Pos):=by
 cases h
 case field h1 h2 _ ht hx=>exact .field h1 h2 hx hl ht
 case pattern h1 _ ht hx=>exact .pattern h1 hx hl ht
 case vt _ ht hx=>exact .vt hx hl ht
 case lets hb hx _ ht=>exact .lets hb hx hl ht
 case I5 hx hb hy _ ht=>exact .I5 hx hb hy hl ht
 case A1 ha hb hn hx hb' hy _ ht=>exact .A1 ha hb hn hx hb' hy hl ht
 case dyn hx hy _ ht=>exact .dyn hx hy hl ht
 case ym _ ht=>exact .ym hl ht
theorem VD.M5 {d:au} {t:ByS} (h:VD j d) (ht:NL t):VD j (.mk d.Kind d.cX d.Label d.V d.aS d.B d.Body d.H d.lT t d.Pos):=by
 cases h
 case field h1 h2 hl _ hx=>exact .field h1 h2 hx hl ht
 case pattern h1 hl _ hx=>exact .pattern h1 hx hl ht
 case vt hl _ hx=>exact .vt hx hl ht
 case lets hb hx hl _=>exact .lets hb hx hl ht
 case I5 hx hb hy hl _=>exact .I5 hx hb hy hl ht
 case A1 ha hb hn hx hb' hy hl _=>exact .A1 ha hb hn hx hb' hy hl ht
 case dyn hx hy hl _=>exact .dyn hx hy hl ht
 case ym hl _=>exact .ym hl ht
theorem Ex {α:Type} {P:α->Prop} {l:List α} {k:Nat} {x:α} (h:∀ y,y∈l->P y) (hx:P x):∀ y,y∈l.set k x->P y:=λy hy=>by
 rcases List.mem_or_eq_of_mem_set hy with hy|hy
 ·exact h y hy
 exact hy▸hx
theorem Hg (ih:VG n) (h:SK none p):PO (DV j) (dF (n+1) j p):=by
 show PO _ (jd n (X n) j p);unfold jd;refine PO.iter (λw=>SK none w.1/\sY w.2.1/\∀ d,d∈w.2.2.1->VD j d) ⟨h,rY,oE⟩ λnext w hn hw=>PO.bind (G4 hw.1) λa ha=>PO.br (λ_=>PO.bind (hP ha) λb hb=>?_) (λ_=>PO.ok ⟨ha,hw.2.2,hw.2.1⟩);have hc:b.1.Kind=6->NL b.1.Text:=hb.2.1.c;refine PO.jn (λ_=>True) (λv _=>PO.br (λ_=>PO.gd λ_=>hn _ ⟨hb.1,hw.2⟩) (λ_=>?_)) (λk hk=>PO.br (λ_=>hk _ trivial) (λ_=>PO.any λ_ _=>hk _ trivial));refine PO.jn (λv=>SK none v.1/\(v.2=true->b.1.Kind=6)) (λv hv=>PO.br (λh2=>PO.gd λ_=>PO.el λx _ hx=>PO.gd λ_=>hn _ ⟨hv.1,hw.2.1,Ex hw.2.2 ((hw.2.2 x (List.mem_of_getElem? hx)).M5 (hc (hv.2 h2)))⟩) (λ_=>?_)) (λk hk=>PO.br (λh6=>PO.br (λ_=>PO.bind CC λc hc'=>hk _ ⟨hc'▸hb.1,λ_=>(by simpa using h6)⟩) (λ_=>hk _ ⟨hb.1,λh=>by cases h⟩)) (λ_=>hk _ ⟨hb.1,λh=>by cases h⟩));refine PO.jn (λv=>SK none v.1/\(v.2=true->b.1.Kind=6)) (λv hv=>PO.br (λh2=>PO.gd λ_=>PO.gd λ_=>hn _ ⟨hv.1,hw.2.1.snoc (hc (hv.2 h2)),hw.2.2⟩) (λ_=>?_)) (λk hk=>PO.br (λh6=>PO.bind A3 λc hc'=>hk _ ⟨hc'▸hv.1,λ_=>(by simpa using h6)⟩) (λ_=>hk _ ⟨hv.1,λh=>by cases h⟩));exact PO.jn (λ_=>True) (λu _=>PO.br (λ_=>jU) (λ_=>PO.bind (ih.decl hv.1) λc hc'=>PO.gd λ_=>hn _ ⟨hc'.1,rY,o0 hw.2.2 (hc'.2.M4 hw.2.1)⟩)) (λk hk=>PO.br (λ_=>hk _ trivial) (λ_=>hk _ trivial))
end
end Go.Abs
end
section
namespace Go.Abs
set_option maxRecDepth 100000
open U
section
variable {n m:Nat}
theorem lD {s:ByS}:Sm (jl n s) (jl m s):=by unfold jl;(repeat' (with_reducible first|exact Sm.rfl|exact lB|exact lC|exact jx|exact fG|exact jy|exact gV|exact dS|exact gW|exact jz|exact lD|exact jA|exact lE|exact jB|exact jC|exact jD|exact jE|exact Sm.app|exact ih _ _|exact h1 _|exact h2 _|exact h2 _ _|exact h3 _|exact h4 _ _|exact h5 _|exact h6 _|refine Sm.bind ?_ (λ_=>?_)|refine Sm.br ?_ ?_|refine Sm.gd ?_|refine Sm.el (λ_=>?_)|refine Sm.jn (λ_=>?_) (λ_ _ _=>?_)|refine Sm.iter (λ_ _ _ _=>?_) _ _ _|refine Sm.jh ?_ (λ_=>?_)))
theorem jA {s:ByS} {a b:Int}:Sm (gb n s a b) (gb m s a b):=by unfold gb;(repeat' (with_reducible first|exact Sm.rfl|exact lB|exact lC|exact jx|exact fG|exact jy|exact gV|exact dS|exact gW|exact jz|exact lD|exact jA|exact lE|exact jB|exact jC|exact jD|exact jE|exact Sm.app|exact ih _ _|exact h1 _|exact h2 _|exact h2 _ _|exact h3 _|exact h4 _ _|exact h5 _|exact h6 _|refine Sm.bind ?_ (λ_=>?_)|refine Sm.br ?_ ?_|refine Sm.gd ?_|refine Sm.el (λ_=>?_)|refine Sm.jn (λ_=>?_) (λ_ _ _=>?_)|refine Sm.iter (λ_ _ _ _=>?_) _ _ _|refine Sm.jh ?_ (λ_=>?_)))
theorem lE {s:ByS} {a b:Int}:Sm (iF n s a b) (iF m s a b):=by unfold iF;(repeat' (with_reducible first|exact Sm.rfl|exact lB|exact lC|exact jx|exact fG|exact jy|exact gV|exact dS|exact gW|exact jz|exact lD|exact jA|exact lE|exact jB|exact jC|exact jD|exact jE|exact Sm.app|exact ih _ _|exact h1 _|exact h2 _|exact h2 _ _|exact h3 _|exact h4 _ _|exact h5 _|exact h6 _|refine Sm.bind ?_ (λ_=>?_)|refine Sm.br ?_ ?_|refine Sm.gd ?_|refine Sm.el (λ_=>?_)|refine Sm.jn (λ_=>?_) (λ_ _ _=>?_)|refine Sm.iter (λ_ _ _ _=>?_) _ _ _|refine Sm.jh ?_ (λ_=>?_)))
theorem jB {s:ByS}:Sm (km n s) (km m s):=by unfold km;(repeat' (with_reducible first|exact Sm.rfl|exact lB|exact lC|exact jx|exact fG|exact jy|exact gV|exact dS|exact gW|exact jz|exact lD|exact jA|exact lE|exact jB|exact jC|exact jD|exact jE|exact Sm.app|exact ih _ _|exact h1 _|exact h2 _|exact h2 _ _|exact h3 _|exact h4 _ _|exact h5 _|exact h6 _|refine Sm.bind ?_ (λ_=>?_)|refine Sm.br ?_ ?_|refine Sm.gd ?_|refine Sm.el (λ_=>?_)|refine Sm.jn (λ_=>?_) (λ_ _ _=>?_)|refine Sm.iter (λ_ _ _ _=>?_) _ _ _|refine Sm.jh ?_ (λ_=>?_)))
theorem jC {s:ByS}:Sm (jX n s) (jX m s):=by unfold jX;(repeat' (with_reducible first|exact Sm.rfl|exact lB|exact lC|exact jx|exact fG|exact jy|exact gV|exact dS|exact gW|exact jz|exact lD|exact jA|exact lE|exact jB|exact jC|exact jD|exact jE|exact Sm.app|exact ih _ _|exact h1 _|exact h2 _|exact h2 _ _|exact h3 _|exact h4 _ _|exact h5 _|exact h6 _|refine Sm.bind ?_ (λ_=>?_)|refine Sm.br ?_ ?_|refine Sm.gd ?_|refine Sm.el (λ_=>?_)|refine Sm.jn (λ_=>?_) (λ_ _ _=>?_)|refine Sm.iter (λ_ _ _ _=>?_) _ _ _|refine Sm.jh ?_ (λ_=>?_)))
theorem jD {s:ByS}:Sm (kM n s) (kM m s):=by unfold kM;(repeat' (with_reducible first|exact Sm.rfl|exact lB|exact lC|exact jx|exact fG|exact jy|exact gV|exact dS|exact gW|exact jz|exact lD|exact jA|exact lE|exact jB|exact jC|exact jD|exact jE|exact Sm.app|exact ih _ _|exact h1 _|exact h2 _|exact h2 _ _|exact h3 _|exact h4 _ _|exact h5 _|exact h6 _|refine Sm.bind ?_ (λ_=>?_)|refine Sm.br ?_ ?_|refine Sm.gd ?_|refine Sm.el (λ_=>?_)|refine Sm.jn (λ_=>?_) (λ_ _ _=>?_)|refine Sm.iter (λ_ _ _ _=>?_) _ _ _|refine Sm.jh ?_ (λ_=>?_)))
theorem jE {s:ByS}:Sm (mc n s) (mc m s):=by unfold mc;(repeat' (with_reducible first|exact Sm.rfl|exact lB|exact lC|exact jx|exact fG|exact jy|exact gV|exact dS|exact gW|exact jz|exact lD|exact jA|exact lE|exact jB|exact jC|exact jD|exact jE|exact Sm.app|exact ih _ _|exact h1 _|exact h2 _|exact h2 _ _|exact h3 _|exact h4 _ _|exact h5 _|exact h6 _|refine Sm.bind ?_ (λ_=>?_)|refine Sm.br ?_ ?_|refine Sm.gd ?_|refine Sm.el (λ_=>?_)|refine Sm.jn (λ_=>?_) (λ_ _ _=>?_)|refine Sm.iter (λ_ _ _ _=>?_) _ _ _|refine Sm.jh ?_ (λ_=>?_)))
theorem K6 {s:ByS}:Sm (gm n s) (gm m s):=by unfold gm;(repeat' (with_reducible first|exact Sm.rfl|exact lB|exact lC|exact jx|exact fG|exact jy|exact gV|exact dS|exact gW|exact jz|exact lD|exact jA|exact lE|exact jB|exact jC|exact jD|exact jE|exact Sm.app|exact ih _ _|exact h1 _|exact h2 _|exact h2 _ _|exact h3 _|exact h4 _ _|exact h5 _|exact h6 _|refine Sm.bind ?_ (λ_=>?_)|refine Sm.br ?_ ?_|refine Sm.gd ?_|refine Sm.el (λ_=>?_)|refine Sm.jn (λ_=>?_) (λ_ _ _=>?_)|refine Sm.iter (λ_ _ _ _=>?_) _ _ _|refine Sm.jh ?_ (λ_=>?_)))
theorem Fi {a:List Int} {l:List aR} {k:Int}:PO (λr=>(a≠[]\/l≠[])->r.2.1≠[]) (kn a l k):=by
 unfold kn;refine PO.br (λ_=>PO.gd λ_=>PO.ok λ_=>by simp) (λh=>PO.ok λhh=>?_);rcases hh with hh|hh
 ·exact absurd (by simpa using h) hh
 exact hh
theorem Hh {s:ByS} (hs:s≠[]):PO (λr=>r.2.Errno=0->r.1≠[]) (gm n s):=by
 have hp:0<s.length:=List.length_pos_iff.2 hs;unfold gm;refine PO.iter (λv=>v.2.2.2=0\/v.1≠[]\/v.2.1≠[]) (.inl rfl) λnext v hn hv=>PO.br (λ_=>?_) (λhlt=>PO.bind Fi λa ha=>PO.ok λ_=>ha ?_)
 ·refine PO.jn (λ_=>True) (λw _=>?_) (λk hk=>PO.br (λ_=>hk _ trivial) (λ_=>hk _ trivial));have bad:PO (λr:List aR×eS=>r.2.Errno=0->r.1≠[]) (.ok ([],eS.mk 8 v.2.2.2)):=PO.ok λh=>by cases h
  refine PO.gd λ_=>PO.any λ_ _=>PO.br (λ_=>PO.gd λ_=>PO.gd λ_=>PO.any λ_ _=>PO.br (λ_=>bad) (λ_=>PO.any λ_ _=>PO.gd λ_=>PO.gd λ_=>PO.gd λ_=>PO.gd λ_=>hn _ (.inr (.inl (by simp))))) (λ_=>?_);refine PO.el λ_ _ _=>PO.br (λ_=>PO.gd λ_=>PO.any λ_ _=>PO.br (λ_=>bad) (λ_=>PO.gd λ_=>PO.gd λ_=>hn _ (.inr (.inr (by simp))))) (λ_=>?_);exact PO.jn (λ_=>True) (λu _=>PO.br (λ_=>bad) (λ_=>PO.el λ_ _ _=>PO.gd λ_=>PO.gd λ_=>hn _ (.inr (.inr (by simp))))) (λk hk=>PO.el λ_ _ _=>PO.br (λ_=>hk _ trivial) (λ_=>PO.el λ_ _ _=>PO.br (λ_=>hk _ trivial) (λ_=>PO.el λ_ _ _=>hk _ trivial)))
 rcases hv with h|h|h
 ·simp at hlt;omega
 ·exact .inr h
 exact .inl h
theorem Dq {s:ByS} {r:List aR×eS} (hs:s≠[]) (h:gm n s=.ok r) (h0:r.2.Errno=0):∀ m,PO (λr=>r.1≠[]) (gm m s):=λm a e=>by
 have:=K6.get h e;subst this;exact Hh hs _ h h0
theorem Hi {v:Int} (hv:ji v=.ok true) (h:v<0):PO (λt=>t.head?=some 45) (nj n v):=by
 unfold nj;rw[hv];refine PO.bind (PO.ok (V:=λy=>y=true) (Eq.refl true)) λy hy=>PO.br (λh=>by rw[hy] at h;cases h) (λ_=>PO.any λ_ _=>PO.gd λ_=>PO.any λ_ _=>PO.jn (λ(w:ByS)=>w.head?=some 45) (λw hw=>?_) (λk hk=>PO.br (λ_=>PO.gd λ_=>hk _ rfl) (λq=>by simp at q;omega)));refine PO.gd λ_=>PO.any λ_ _=>PO.gd λ_=>PO.jn (λ_=>True) (λu _=>PO.br (λ_=>PO.gd λ_=>PO.gd λ_=>PO.ok ?_) (λ_=>PO.ok hw)) (λk hk=>PO.iter (λ_=>True) trivial λnext x hn _=>PO.br (λ_=>PO.gd λ_=>PO.el λ_ _ _=>PO.br (λ_=>PO.gd λ_=>PO.gd λ_=>hn _ trivial) (λ_=>hk _ trivial)) (λ_=>hk _ trivial));cases w with
 | nil=>cases hw
 | cons c w=>exact hw
theorem Dr {s:ByS} (hs:s.head?≠some 45):∀ n,PO (λr=>0<=r.1/\r.1<=1000000000000000) (ll n s):=λn=>by
 have bad:PO (λr:Int×Int=>0<=r.1/\r.1<=1000000000000000) (.ok (0,8)):=PO.ok ⟨by decide,by decide⟩;unfold ll;refine PO.br (λ_=>bad) (λ_=>PO.jn (λ_=>True) (λv _=>?_) (λk hk=>PO.iter (λ_=>True) trivial λnext x hn _=>PO.br (λ_=>PO.el λ_ _ _=>PO.br (λ_=>PO.gd λ_=>PO.gd λ_=>PO.gd λ_=>hk _ trivial) (λ_=>PO.gd λ_=>hn _ trivial)) (λ_=>hk _ trivial)));refine PO.iter (λ_=>True) trivial λnext x hn _=>PO.br (λ_=>PO.gd λ_=>hn _ trivial) (λ_=>PO.br (λ_=>bad) (λ_=>PO.gd λ_=>PO.any λa _=>PO.br (λ_=>bad) (λ_=>PO.any λb hb=>PO.br (λ_=>bad) (λhb'=>?_))));have hb1:b=true:=by simpa using hb'
 subst hb1;have hmax:a.1<=1000000000000000:=by
  unfold ji at hb;cases h:decide (a.1>=-1000000000000000) with
  | true=>rw[h] at hb;have hb:U.ok (decide (a.1<=1000000000000000))=U.ok true:=hb;injection hb with hb;simpa using hb
  | false=>rw[h] at hb;cases hb
 by_cases h0:0<=a.1
 ·exact PO.any λt _=>PO.br (λ_=>bad) (λ_=>PO.ok ⟨h0,hmax⟩)
 refine PO.bind (Hi hb (by omega)) λt ht=>PO.br (λ_=>bad) (λhe=>?_);have:t=s:=by simpa using he
 subst this;exact absurd ht hs
theorem Fj {s:ByS}:PO (λr=>r.2=true->4<=r.1) (kS n s):=by
 unfold kS;refine PO.iter (λv=>1<=v.2/\(v.1=true->3<=v.2)) ⟨by decide,λh=>by cases h⟩ λnext v hn hv=>PO.br (λ_=>?_) (λ_=>PO.ok λh=>by cases h);refine PO.jn (λw=>1<=w.2/\(w.1=true->2<=w.2)) (λw hw=>PO.gd λ_=>hn _ ⟨by dsimp only;omega,λh=>by have:=hw.2 h;dsimp only;omega⟩) (λk hk=>PO.el λ_ _ _=>PO.br (λ_=>PO.gd λ_=>PO.ok λh=>by have:=hv.2 h;dsimp only;omega) (λ_=>PO.el λ_ _ _=>PO.br (λ_=>?_) (λ_=>hk _ ⟨hv.1,λh=>by have:=hv.2 h;dsimp only;omega⟩)));have h1:=hv.1;refine PO.br (λ_=>PO.gd λ_=>hk _ ⟨by dsimp only;omega,λ_=>by dsimp only;omega⟩) (λ_=>PO.gd λ_=>PO.br (λ_=>PO.gd λ_=>PO.el λ_ _ _=>PO.gd λ_=>hk _ ⟨by dsimp only;omega,λ_=>by dsimp only;omega⟩) (λ_=>PO.gd λ_=>hk _ ⟨by dsimp only;omega,λh=>by cases h⟩))
end
abbrev AT (x:bN):Prop:=∀ t,t∈x.out->I6 t
section
variable {n:Nat} {x:bN}
theorem wF {k l:Int} {s:ByS} (h:AT x) (ht:∀ a b,I6 ⟨k,s,a,b⟩):PO AT (du k s l x):=by
 have key:AT (bN.mk x.text x.at_ (x.out++[(aY.mk k s x.at_ (x.at_+l))]) true):=o0 h (ht _ _);unfold du;exact PO.gd λ_=>PO.gd λ_=>PO.gd λ_=>PO.br (λ_=>PO.ok key) (λ_=>PO.jn (λ_=>True) (λv _=>PO.br (λ_=>PO.ok key) (λ_=>PO.br (λ_=>PO.gd λ_=>PO.gd λ_=>PO.any λ_ _=>PO.ok key) (λ_=>PO.ok key))) (λk hk=>PO.br (λ_=>hk _ trivial) (λ_=>PO.br (λ_=>hk _ trivial) (λ_=>PO.br (λ_=>hk _ trivial) (λ_=>hk _ trivial)))))
theorem I6.of {k a b:Int} {s:ByS} (h:k≠6/\k≠4/\k≠2):I6 ⟨k,s,a,b⟩:=⟨λe=>absurd e h.1,λe=>absurd e h.2.1,λe=>absurd e h.2.2⟩
theorem NL.drop {s:ByS} {k:Nat} (h:NL s):NL (s.drop k):=λx hx=>h x (List.mem_of_mem_drop hx)
theorem CG:∀ {s:ByS},(match n7 s [10] with|some i=>NL (s.take i)|none=>NL s)
 | []=>λ_ h=>by cases h
 | c::s=>by
  have ih:=@CG s;by_cases hc:c=10
  ·subst hc;have:n7 ((10:UInt8)::s) [10]=some 0:=by simp[n7,List.isPrefixOf]
   rw[this];exact λ_ h=>by cases h
  have h3:([10]:ByS).isPrefixOf (c::s)=false:=by simp[List.isPrefixOf,Ne.symm hc]
  unfold n7;rw[h3];cases h4:n7 s [10] with
  | none=>
   rw[h4] at ih
   intro y hy
   rcases List.mem_cons.1 hy with rfl|hy
   ·exact hc
   ·exact ih y hy
  | some i=>
   rw[h4] at ih
   intro y hy
   rcases List.mem_cons.1 hy with rfl|hy
   ·exact hc
   ·exact ih y hy
theorem L9 {s:ByS}:PO (λr=>NL r.1) (strings_Cut s [10]):=by
 unfold strings_Cut;refine PO.gd λ_=>PO.ok ?_;have:=@CG s;split<;>rename_i h<;>rw[h] at this<;>exact this
theorem Ma (h:AT x):PO (λr=>AT r.2) (iG n x):=by
 unfold iG kp;refine PO.gd λ_=>PO.bind Fj λa ha=>PO.br (λ_=>PO.ok h) (λ_=>PO.gd λ_=>PO.gd λ_=>PO.br (λhb=>PO.gd λ_=>PO.gd λhg=>PO.any λb hb'=>PO.br (λ_=>PO.ok h) (λh0=>PO.gd λ_=>PO.gd λ_=>PO.bind (wF h λu v=>⟨λe=>(by cases e),λ_=>Dq ?_ hb' (by simpa using h0),λe=>(by cases e)⟩) λc hc=>PO.ok hc)) (λ_=>PO.any λ_ _=>PO.br (λ_=>PO.ok h) (λ_=>PO.bind (wF h λu v=>.of ⟨by decide,by decide,by decide⟩) λc hc=>PO.ok hc)));have h4:=ha hb;intro e;have:=congrArg List.length e;simp only[sub,List.length_take,List.length_drop,List.length_nil] at this hg;omega
theorem Jk {b:UInt8}:PO (λy=>y=true->b≠45) (jk (b.toNat:Int)):=by
 unfold jk;exact PO.br (λh=>PO.ok λ_ e=>by subst e;simp at h) (λ_=>PO.ok λh=>by cases h)
theorem K7 (h:AT x):PO (λr=>AT r.2) (hU n x):=by
 unfold hU kp;refine PO.gd λ_=>PO.any λ_ _=>PO.br (λ_=>PO.bind L9 λa ha=>PO.gd λ_=>PO.bind (wF h λu v=>⟨λ_=>ha.drop,λe=>(by cases e),λe=>(by cases e)⟩) λb hb=>PO.ok hb) (λ_=>PO.any λ_ _=>PO.br (λ_=>PO.gd λ_=>PO.bind (wF h λu v=>.of ⟨by decide,by decide,by decide⟩) λb hb=>PO.ok hb) (λ_=>PO.el λc _ hc=>PO.bind Jk λd hd=>PO.br (λhd'=>?_) (λ_=>PO.br (λ_=>PO.bind (Ma h) λe he=>PO.ok he) (λ_=>PO.any λ_ _=>PO.br (λ_=>PO.ok h) (λ_=>PO.bind (wF h λu v=>.of ⟨by decide,by decide,by decide⟩) λb hb=>PO.ok hb)))));refine PO.any λe _=>PO.gd λ_=>PO.any λ_ _=>PO.br (λ_=>PO.ok h) (λ_=>PO.gd λ_=>PO.bind (wF h λu v=>⟨λe=>(by cases e),λe=>(by cases e),λ_=>Dr ?_⟩) λb hb=>PO.ok hb);have hc':(gB x.text x.at_).head?=some c:=by rw[<- hc];cases gB x.text x.at_<;>rfl
 intro q;unfold ob at q;cases hl:gB x.text x.at_ with
 | nil=>rw[hl] at hc';cases hc'
 | cons y l=>
  rw[hl] at hc' q;cases hc'
  cases hk:e.toNat with
  | zero=>rw[hk] at q;cases q
  | succ k=>rw[hk] at q;cases q;exact hd hd' rfl
theorem Ds:J9:=λn s=>by
 unfold me;refine PO.br (λ_=>PO.ok oE) (λ_=>PO.iter AT oE λnext v hn hv=>PO.br (λ_=>PO.el λb _ _=>PO.jn (λ_=>True) (λ_ _=>PO.gd λ_=>hn _ hv) (λk hk=>PO.br (λ_=>PO.br (λ_=>PO.bind (wF hv λu v=>.of ⟨by decide,by decide,by decide⟩) λa ha=>hn _ ha) (λ_=>hk _ trivial)) (λ_=>PO.br (λ_=>hk _ trivial) (λ_=>PO.br (λ_=>hk _ trivial) (λ_=>PO.br (λ_=>hk _ trivial) (λ_=>PO.bind (K7 hv) λa ha=>PO.br (λ_=>PO.ok oE) (λ_=>hn _ ha))))))) (λ_=>PO.bind (wF hv λu v=>.of ⟨by decide,by decide,by decide⟩) λa ha=>PO.ok ha))
end
end Go.Abs
end
section
namespace Go.Abs
open U
section
variable {n:Nat}
abbrev WF (c:R):Prop:=c.Aj=false
theorem cC {l:List Bool} {c:R} (hl:∀ b,b∈l->b=true) (hc:WF c):PO WF (u n l c):=by
 unfold u;refine PO.br (λh=>by rw[hc] at h;cases h) (λ_=>PO.bind (W:=λy=>y=false) ?_ λy hy=>PO.ok hy);unfold ik;refine PO.bind (W:=λy=>y = -1) ?_ λy hy=>PO.ok (by subst hy;rfl);unfold kN;refine PO.iter (λ_=>True) trivial λnext v hn _=>PO.br (λ_=>PO.el λx _ hx=>PO.br (λh=>?_) λ_=>PO.gd λ_=>hn _ trivial) (λ_=>PO.ok rfl);have:=hl x (List.mem_of_getElem? hx);subst this;cases h
theorem A6 {b:Bool} {l:List Bool} (h:b=true) (hl:∀ b,b∈l->b=true):∀ c,c∈b::l->c=true:=λc hc=>by
 cases hc with
 | head=>exact h
 | tail _ hc=>exact hl c hc
theorem K8:∀ b:Bool,b∈[]->b=true:=λb h=>by cases h
theorem Ey:∀ {s:ByS},NL s->(n7 s [10]).isSome=false
 | [],_=>rfl
 | c::s,h=>by
  have h1:c≠10:=h c (.head _);have h2:=Ey λx hx=>h x (.tail _ hx);have h3:([10]:ByS).isPrefixOf (c::s)=false:=by simp[List.isPrefixOf,Ne.symm h1]
  unfold n7;rw[h3];cases h4:n7 s [10] with
  | none=>rfl
  | some i=>rw[h4] at h2;cases h2
theorem eg {l:List ByS} (h:sY l):PO (λy=>y=true) (gx n l):=by
 unfold gx gg;refine PO.bind (W:=λy=>y=false) (PO.bind (W:=λy=>y = -1) ?_ λy hy=>PO.ok (by subst hy;rfl)) λy hy=>PO.ok (by subst hy;rfl);unfold il;refine PO.iter (λ_=>True) trivial λnext v hn _=>PO.br (λ_=>PO.el λx _ hx=>PO.bind (W:=λy=>y=false) ?_ λy hy=>PO.br (λh=>by rw[hy] at h;cases h) λ_=>PO.gd λ_=>hn _ trivial) (λ_=>PO.ok rfl);unfold mf strings_Contains;refine PO.bind (PO.gd λ_=>PO.ok ?_) λy hy=>PO.ok hy;exact Ey (h x (List.mem_of_getElem? hx))
theorem Hj {t a:ByS} {W:List ByS} (h0:(t !=[])=true) (hW:ot [32] (a.length+1) a=W) (h:t∈W):PO (λy=>y=true) (fE n t a):=by
 unfold fE strings_Split;refine PO.br (λ_=>PO.bind (W:=λy=>y=W) (PO.gd λ_=>PO.ok hW) λy hy=>?_) (λq=>by rw[h0] at q;cases q);subst hy;refine PO.bind (W:=λy=>y=true) ?_ λy hy=>PO.ok hy;unfold slices_Contains_string;refine PO.bind (W:=λy=>0<=y) ?_ λy hy=>PO.ok (by simpa using hy);obtain ⟨k,hk,hkt⟩:=List.getElem_of_mem h;unfold slices_Index_string;refine PO.iter (λ(v:Int)=>0<=v/\v<=k) ⟨by omega,by omega⟩ λnext v hn hv=>PO.br (λ_=>PO.el λx _ hx=>PO.br (λ_=>PO.ok hv.1) λq=>PO.gd λ_=>hn _ ⟨by omega,?_⟩) (λq=>?_)
 ·by_cases e:v.toNat=k
  ·subst e;rw[List.getElem?_eq_getElem hk] at hx;cases hx;rw[hkt] at q;simp at q
  omega
 simp at q;omega
inductive VP:Bool->Bool->Bool->Z->Prop
 | e {j o i:Bool} {x:Z} (h:VE j x):VP j o i x
 | item {o:Bool} {x:Z} (h:VI x):VP false o true x
 | alt {i:Bool} {x:Z} (h:VM x):VP false true i x
theorem cK {α:Type} {x:U α}:U.bind x (λy=>.ok y)=x:=by cases x<;>rfl
theorem ch {α β:Type} {a:α} {k:α->U β}:U.bind (.ok a) k=k a:=rfl
theorem cL {α β γ:Type} {x:U α} {f:α->U β} {g:β->U γ}:U.bind (U.bind x f) g=U.bind x λa=>U.bind (f a) g:=by cases x<;>rfl
theorem lQ:Gk .i64 0 1=0:=by decide
theorem lR:Gk .i64 1 1=1:=by decide
theorem fH {v:Int} (h0:0<=v) (h1:v<=1000000000000000):PO (λy=>y=true) (ji v):=by
 unfold ji;exact PO.br (λ_=>PO.ok (by simpa using h1)) λq=>by simp at q;omega
theorem gH {s:ByS} (h:NL s):sY [s]:=λx hx=>by cases hx with|head=>exact h|tail _ h=>cases h
theorem cM:sY []:=λ_ h=>by cases h
theorem pB {α:Type} {x y:U α}:br true x y=x:=rfl
theorem pC {α:Type} {x y:U α}:br false x y=y:=rfl
theorem dY {α X:Type} {j:X->U α} {a:X}:jn j (λk=>k a)=j a:=rfl
theorem k8 {a:Bool} (h:a=true):∀ b,b∈[a]->b=true:=A6 h K8
theorem kV {a a':Bool} (h:a=true) (h':a'=true):∀ b,b∈[a,a']->b=true:=A6 h (k8 h')
theorem gI {a a' a'':Bool} (h:a=true) (h':a'=true) (h'':a''=true):∀ b,b∈[a,a',a'']->b=true:=A6 h (kV h' h'')
theorem jF {a a' a'' b:Bool} (h:a=true) (h':a'=true) (h'':a''=true) (hb:b=true):∀ c,c∈[a,a',a'',b]->c=true:=A6 h (gI h' h'' hb)
theorem gX:PO (λy=>y=true) (mg ⟨[],[]⟩):=PO.ok rfl
theorem eF {a b:ByS} (ha:fp a) (hb:fp b) (hn:a≠b):PO (λy=>y=true) (jY n ⟨a,b⟩):=by
 unfold jY;refine PO.bind ei λy hy=>PO.br (λ_=>PO.bind ei λz hz=>PO.br (λ_=>PO.ok (by simpa using hn)) λq=>?_) λq=>?_
 ·rw[hz.2 hb] at q;cases q
 rw[hy.2 ha] at q;cases q
theorem gY {t a:ByS} (W:List ByS) (hW:ot [32] (a.length+1) a=W) (h:t∈W) (h0:[] ∉ W):PO (λy=>y=true) (fE n t a):=
 Hj (by cases t with|nil=>exact absurd h h0|cons _ _=>rfl) hW h
theorem Ez {t:ByS} (h:t∈Eu):t∈([110,117,108,108]::Eu):=.tail _ h
theorem CH {t:ByS} (h:t∈GY):t∈([[43],[45],[42],[47],[37],[61,61],[33,61],[60],[60,61],[62],[62,61],[38,38],[124,124]]:List ByS):=by
 simp only[List.mem_cons,List.not_mem_nil,or_false] at h ⊢;rcases h with h|h|h|h|h|h|h|h|h|h|h|h|h<;>simp only[h,true_or,or_true]
theorem Hk {q:aW} {e:Z} {c:R} (h:VE q.mL e) (hc:WF c):PO WF (dx n e q c):=by
 obtain ⟨qj,qo,qi,ql⟩:=q;dsimp only at h;unfold dx dW dX ef kp;cases h with
 | L0=>(simp[pB,pC,dY,cK,ch,cL,lQ,lR,Z.Kind,Z.iM,Z.Text,Z.V,Z.aS,Z.B,Z.Decls,Z.H];repeat' (with_reducible first|exact PO.ok (by assumption)|exact hj _ (by assumption)|refine cC ?_ (by assumption)|(refine PO.bind (cC ?_ (by assumption)) λc hc=>?_)|(refine PO.bind (eg (by first|assumption|exact cM|exact gH (by assumption))) λy hy=>?_;subst hy)|(refine PO.bind gX λy hy=>?_;subst hy)|(refine PO.bind ei λy hy=>?_;obtain rfl:=hy.2 (by assumption))|(refine PO.bind (jG (by assumption)) λy hy=>?_;rw[hy])|(refine jF ?_ ?_ ?_ ?_<;>first|rfl|assumption)|(refine PO.bind (eF (by assumption) (by assumption) (by assumption)) λy hy=>?_;subst hy)|(refine PO.bind (gY _ (by decide) h (by decide)) λy hy=>?_;subst hy)|(refine PO.bind (fH (by assumption) (by assumption)) λy hy=>?_;subst hy)|refine PO.jn WF (λc hc=>?_) (λj hj=>?_)|(refine k8 ?_;first|rfl|assumption|(simp_all;done)|(simp;omega))|(refine gI ?_ ?_ ?_<;>first|rfl|assumption)|(refine kV ?_ ?_<;>first|rfl|assumption|(simp_all;done)|(simp;omega))|refine PO.br (λ_=>?_) (λ_=>?_)|refine PO.gd λ_=>?_))
 | bool h=>(simp[pB,pC,dY,cK,ch,cL,lQ,lR,Z.Kind,Z.iM,Z.Text,Z.V,Z.aS,Z.B,Z.Decls,Z.H];repeat' (with_reducible first|exact PO.ok (by assumption)|exact hj _ (by assumption)|refine cC ?_ (by assumption)|(refine PO.bind (cC ?_ (by assumption)) λc hc=>?_)|(refine PO.bind (eg (by first|assumption|exact cM|exact gH (by assumption))) λy hy=>?_;subst hy)|(refine PO.bind gX λy hy=>?_;subst hy)|(refine PO.bind ei λy hy=>?_;obtain rfl:=hy.2 (by assumption))|(refine PO.bind (jG (by assumption)) λy hy=>?_;rw[hy])|(refine jF ?_ ?_ ?_ ?_<;>first|rfl|assumption)|(refine PO.bind (eF (by assumption) (by assumption) (by assumption)) λy hy=>?_;subst hy)|(refine PO.bind (gY _ (by decide) h (by decide)) λy hy=>?_;subst hy)|(refine PO.bind (fH (by assumption) (by assumption)) λy hy=>?_;subst hy)|refine PO.jn WF (λc hc=>?_) (λj hj=>?_)|(refine k8 ?_;first|rfl|assumption|(simp_all;done)|(simp;omega))|(refine gI ?_ ?_ ?_<;>first|rfl|assumption)|(refine kV ?_ ?_<;>first|rfl|assumption|(simp_all;done)|(simp;omega))|refine PO.br (λ_=>?_) (λ_=>?_)|refine PO.gd λ_=>?_))
 | num h0 h1=>(simp[pB,pC,dY,cK,ch,cL,lQ,lR,Z.Kind,Z.iM,Z.Text,Z.V,Z.aS,Z.B,Z.Decls,Z.H];repeat' (with_reducible first|exact PO.ok (by assumption)|exact hj _ (by assumption)|refine cC ?_ (by assumption)|(refine PO.bind (cC ?_ (by assumption)) λc hc=>?_)|(refine PO.bind (eg (by first|assumption|exact cM|exact gH (by assumption))) λy hy=>?_;subst hy)|(refine PO.bind gX λy hy=>?_;subst hy)|(refine PO.bind ei λy hy=>?_;obtain rfl:=hy.2 (by assumption))|(refine PO.bind (jG (by assumption)) λy hy=>?_;rw[hy])|(refine jF ?_ ?_ ?_ ?_<;>first|rfl|assumption)|(refine PO.bind (eF (by assumption) (by assumption) (by assumption)) λy hy=>?_;subst hy)|(refine PO.bind (gY _ (by decide) h (by decide)) λy hy=>?_;subst hy)|(refine PO.bind (fH (by assumption) (by assumption)) λy hy=>?_;subst hy)|refine PO.jn WF (λc hc=>?_) (λj hj=>?_)|(refine k8 ?_;first|rfl|assumption|(simp_all;done)|(simp;omega))|(refine gI ?_ ?_ ?_<;>first|rfl|assumption)|(refine kV ?_ ?_<;>first|rfl|assumption|(simp_all;done)|(simp;omega))|refine PO.br (λ_=>?_) (λ_=>?_)|refine PO.gd λ_=>?_))
 | str=>(simp[pB,pC,dY,cK,ch,cL,lQ,lR,Z.Kind,Z.iM,Z.Text,Z.V,Z.aS,Z.B,Z.Decls,Z.H];repeat' (with_reducible first|exact PO.ok (by assumption)|exact hj _ (by assumption)|refine cC ?_ (by assumption)|(refine PO.bind (cC ?_ (by assumption)) λc hc=>?_)|(refine PO.bind (eg (by first|assumption|exact cM|exact gH (by assumption))) λy hy=>?_;subst hy)|(refine PO.bind gX λy hy=>?_;subst hy)|(refine PO.bind ei λy hy=>?_;obtain rfl:=hy.2 (by assumption))|(refine PO.bind (jG (by assumption)) λy hy=>?_;rw[hy])|(refine jF ?_ ?_ ?_ ?_<;>first|rfl|assumption)|(refine PO.bind (eF (by assumption) (by assumption) (by assumption)) λy hy=>?_;subst hy)|(refine PO.bind (gY _ (by decide) h (by decide)) λy hy=>?_;subst hy)|(refine PO.bind (fH (by assumption) (by assumption)) λy hy=>?_;subst hy)|refine PO.jn WF (λc hc=>?_) (λj hj=>?_)|(refine k8 ?_;first|rfl|assumption|(simp_all;done)|(simp;omega))|(refine gI ?_ ?_ ?_<;>first|rfl|assumption)|(refine kV ?_ ?_<;>first|rfl|assumption|(simp_all;done)|(simp;omega))|refine PO.br (λ_=>?_) (λ_=>?_)|refine PO.gd λ_=>?_))
 | qB h hs=>have h:=List.length_pos_iff.2 h;(simp[pB,pC,dY,cK,ch,cL,lQ,lR,Z.Kind,Z.iM,Z.Text,Z.V,Z.aS,Z.B,Z.Decls,Z.H];repeat' (with_reducible first|exact PO.ok (by assumption)|exact hj _ (by assumption)|refine cC ?_ (by assumption)|(refine PO.bind (cC ?_ (by assumption)) λc hc=>?_)|(refine PO.bind (eg (by first|assumption|exact cM|exact gH (by assumption))) λy hy=>?_;subst hy)|(refine PO.bind gX λy hy=>?_;subst hy)|(refine PO.bind ei λy hy=>?_;obtain rfl:=hy.2 (by assumption))|(refine PO.bind (jG (by assumption)) λy hy=>?_;rw[hy])|(refine jF ?_ ?_ ?_ ?_<;>first|rfl|assumption)|(refine PO.bind (eF (by assumption) (by assumption) (by assumption)) λy hy=>?_;subst hy)|(refine PO.bind (gY _ (by decide) h (by decide)) λy hy=>?_;subst hy)|(refine PO.bind (fH (by assumption) (by assumption)) λy hy=>?_;subst hy)|refine PO.jn WF (λc hc=>?_) (λj hj=>?_)|(refine k8 ?_;first|rfl|assumption|(simp_all;done)|(simp;omega))|(refine gI ?_ ?_ ?_<;>first|rfl|assumption)|(refine kV ?_ ?_<;>first|rfl|assumption|(simp_all;done)|(simp;omega))|refine PO.br (λ_=>?_) (λ_=>?_)|refine PO.gd λ_=>?_))
 | top=>(simp[pB,pC,dY,cK,ch,cL,lQ,lR,Z.Kind,Z.iM,Z.Text,Z.V,Z.aS,Z.B,Z.Decls,Z.H];repeat' (with_reducible first|exact PO.ok (by assumption)|exact hj _ (by assumption)|refine cC ?_ (by assumption)|(refine PO.bind (cC ?_ (by assumption)) λc hc=>?_)|(refine PO.bind (eg (by first|assumption|exact cM|exact gH (by assumption))) λy hy=>?_;subst hy)|(refine PO.bind gX λy hy=>?_;subst hy)|(refine PO.bind ei λy hy=>?_;obtain rfl:=hy.2 (by assumption))|(refine PO.bind (jG (by assumption)) λy hy=>?_;rw[hy])|(refine jF ?_ ?_ ?_ ?_<;>first|rfl|assumption)|(refine PO.bind (eF (by assumption) (by assumption) (by assumption)) λy hy=>?_;subst hy)|(refine PO.bind (gY _ (by decide) h (by decide)) λy hy=>?_;subst hy)|(refine PO.bind (fH (by assumption) (by assumption)) λy hy=>?_;subst hy)|refine PO.jn WF (λc hc=>?_) (λj hj=>?_)|(refine k8 ?_;first|rfl|assumption|(simp_all;done)|(simp;omega))|(refine gI ?_ ?_ ?_<;>first|rfl|assumption)|(refine kV ?_ ?_<;>first|rfl|assumption|(simp_all;done)|(simp;omega))|refine PO.br (λ_=>?_) (λ_=>?_)|refine PO.gd λ_=>?_))
 | bot=>(simp[pB,pC,dY,cK,ch,cL,lQ,lR,Z.Kind,Z.iM,Z.Text,Z.V,Z.aS,Z.B,Z.Decls,Z.H];repeat' (with_reducible first|exact PO.ok (by assumption)|exact hj _ (by assumption)|refine cC ?_ (by assumption)|(refine PO.bind (cC ?_ (by assumption)) λc hc=>?_)|(refine PO.bind (eg (by first|assumption|exact cM|exact gH (by assumption))) λy hy=>?_;subst hy)|(refine PO.bind gX λy hy=>?_;subst hy)|(refine PO.bind ei λy hy=>?_;obtain rfl:=hy.2 (by assumption))|(refine PO.bind (jG (by assumption)) λy hy=>?_;rw[hy])|(refine jF ?_ ?_ ?_ ?_<;>first|rfl|assumption)|(refine PO.bind (eF (by assumption) (by assumption) (by assumption)) λy hy=>?_;subst hy)|(refine PO.bind (gY _ (by decide) h (by decide)) λy hy=>?_;subst hy)|(refine PO.bind (fH (by assumption) (by assumption)) λy hy=>?_;subst hy)|refine PO.jn WF (λc hc=>?_) (λj hj=>?_)|(refine k8 ?_;first|rfl|assumption|(simp_all;done)|(simp;omega))|(refine gI ?_ ?_ ?_<;>first|rfl|assumption)|(refine kV ?_ ?_<;>first|rfl|assumption|(simp_all;done)|(simp;omega))|refine PO.br (λ_=>?_) (λ_=>?_)|refine PO.gd λ_=>?_))
 | type h=>have h:=Ez h;(simp[pB,pC,dY,cK,ch,cL,lQ,lR,Z.Kind,Z.iM,Z.Text,Z.V,Z.aS,Z.B,Z.Decls,Z.H];repeat' (with_reducible first|exact PO.ok (by assumption)|exact hj _ (by assumption)|refine cC ?_ (by assumption)|(refine PO.bind (cC ?_ (by assumption)) λc hc=>?_)|(refine PO.bind (eg (by first|assumption|exact cM|exact gH (by assumption))) λy hy=>?_;subst hy)|(refine PO.bind gX λy hy=>?_;subst hy)|(refine PO.bind ei λy hy=>?_;obtain rfl:=hy.2 (by assumption))|(refine PO.bind (jG (by assumption)) λy hy=>?_;rw[hy])|(refine jF ?_ ?_ ?_ ?_<;>first|rfl|assumption)|(refine PO.bind (eF (by assumption) (by assumption) (by assumption)) λy hy=>?_;subst hy)|(refine PO.bind (gY _ (by decide) h (by decide)) λy hy=>?_;subst hy)|(refine PO.bind (fH (by assumption) (by assumption)) λy hy=>?_;subst hy)|refine PO.jn WF (λc hc=>?_) (λj hj=>?_)|(refine k8 ?_;first|rfl|assumption|(simp_all;done)|(simp;omega))|(refine gI ?_ ?_ ?_<;>first|rfl|assumption)|(refine kV ?_ ?_<;>first|rfl|assumption|(simp_all;done)|(simp;omega))|refine PO.br (λ_=>?_) (λ_=>?_)|refine PO.gd λ_=>?_))
 | bound h hx=>(simp[pB,pC,dY,cK,ch,cL,lQ,lR,Z.Kind,Z.iM,Z.Text,Z.V,Z.aS,Z.B,Z.Decls,Z.H];repeat' (with_reducible first|exact PO.ok (by assumption)|exact hj _ (by assumption)|refine cC ?_ (by assumption)|(refine PO.bind (cC ?_ (by assumption)) λc hc=>?_)|(refine PO.bind (eg (by first|assumption|exact cM|exact gH (by assumption))) λy hy=>?_;subst hy)|(refine PO.bind gX λy hy=>?_;subst hy)|(refine PO.bind ei λy hy=>?_;obtain rfl:=hy.2 (by assumption))|(refine PO.bind (jG (by assumption)) λy hy=>?_;rw[hy])|(refine jF ?_ ?_ ?_ ?_<;>first|rfl|assumption)|(refine PO.bind (eF (by assumption) (by assumption) (by assumption)) λy hy=>?_;subst hy)|(refine PO.bind (gY _ (by decide) h (by decide)) λy hy=>?_;subst hy)|(refine PO.bind (fH (by assumption) (by assumption)) λy hy=>?_;subst hy)|refine PO.jn WF (λc hc=>?_) (λj hj=>?_)|(refine k8 ?_;first|rfl|assumption|(simp_all;done)|(simp;omega))|(refine gI ?_ ?_ ?_<;>first|rfl|assumption)|(refine kV ?_ ?_<;>first|rfl|assumption|(simp_all;done)|(simp;omega))|refine PO.br (λ_=>?_) (λ_=>?_)|refine PO.gd λ_=>?_))
 | ref h=>(simp[pB,pC,dY,cK,ch,cL,lQ,lR,Z.Kind,Z.iM,Z.Text,Z.V,Z.aS,Z.B,Z.Decls,Z.H];repeat' (with_reducible first|exact PO.ok (by assumption)|exact hj _ (by assumption)|refine cC ?_ (by assumption)|(refine PO.bind (cC ?_ (by assumption)) λc hc=>?_)|(refine PO.bind (eg (by first|assumption|exact cM|exact gH (by assumption))) λy hy=>?_;subst hy)|(refine PO.bind gX λy hy=>?_;subst hy)|(refine PO.bind ei λy hy=>?_;obtain rfl:=hy.2 (by assumption))|(refine PO.bind (jG (by assumption)) λy hy=>?_;rw[hy])|(refine jF ?_ ?_ ?_ ?_<;>first|rfl|assumption)|(refine PO.bind (eF (by assumption) (by assumption) (by assumption)) λy hy=>?_;subst hy)|(refine PO.bind (gY _ (by decide) h (by decide)) λy hy=>?_;subst hy)|(refine PO.bind (fH (by assumption) (by assumption)) λy hy=>?_;subst hy)|refine PO.jn WF (λc hc=>?_) (λj hj=>?_)|(refine k8 ?_;first|rfl|assumption|(simp_all;done)|(simp;omega))|(refine gI ?_ ?_ ?_<;>first|rfl|assumption)|(refine kV ?_ ?_<;>first|rfl|assumption|(simp_all;done)|(simp;omega))|refine PO.br (λ_=>?_) (λ_=>?_)|refine PO.gd λ_=>?_))
 | Lv hx=>(simp[pB,pC,dY,cK,ch,cL,lQ,lR,Z.Kind,Z.iM,Z.Text,Z.V,Z.aS,Z.B,Z.Decls,Z.H];repeat' (with_reducible first|exact PO.ok (by assumption)|exact hj _ (by assumption)|refine cC ?_ (by assumption)|(refine PO.bind (cC ?_ (by assumption)) λc hc=>?_)|(refine PO.bind (eg (by first|assumption|exact cM|exact gH (by assumption))) λy hy=>?_;subst hy)|(refine PO.bind gX λy hy=>?_;subst hy)|(refine PO.bind ei λy hy=>?_;obtain rfl:=hy.2 (by assumption))|(refine PO.bind (jG (by assumption)) λy hy=>?_;rw[hy])|(refine jF ?_ ?_ ?_ ?_<;>first|rfl|assumption)|(refine PO.bind (eF (by assumption) (by assumption) (by assumption)) λy hy=>?_;subst hy)|(refine PO.bind (gY _ (by decide) h (by decide)) λy hy=>?_;subst hy)|(refine PO.bind (fH (by assumption) (by assumption)) λy hy=>?_;subst hy)|refine PO.jn WF (λc hc=>?_) (λj hj=>?_)|(refine k8 ?_;first|rfl|assumption|(simp_all;done)|(simp;omega))|(refine gI ?_ ?_ ?_<;>first|rfl|assumption)|(refine kV ?_ ?_<;>first|rfl|assumption|(simp_all;done)|(simp;omega))|refine PO.br (λ_=>?_) (λ_=>?_)|refine PO.gd λ_=>?_))
 | index hx hy=>(simp[pB,pC,dY,cK,ch,cL,lQ,lR,Z.Kind,Z.iM,Z.Text,Z.V,Z.aS,Z.B,Z.Decls,Z.H];repeat' (with_reducible first|exact PO.ok (by assumption)|exact hj _ (by assumption)|refine cC ?_ (by assumption)|(refine PO.bind (cC ?_ (by assumption)) λc hc=>?_)|(refine PO.bind (eg (by first|assumption|exact cM|exact gH (by assumption))) λy hy=>?_;subst hy)|(refine PO.bind gX λy hy=>?_;subst hy)|(refine PO.bind ei λy hy=>?_;obtain rfl:=hy.2 (by assumption))|(refine PO.bind (jG (by assumption)) λy hy=>?_;rw[hy])|(refine jF ?_ ?_ ?_ ?_<;>first|rfl|assumption)|(refine PO.bind (eF (by assumption) (by assumption) (by assumption)) λy hy=>?_;subst hy)|(refine PO.bind (gY _ (by decide) h (by decide)) λy hy=>?_;subst hy)|(refine PO.bind (fH (by assumption) (by assumption)) λy hy=>?_;subst hy)|refine PO.jn WF (λc hc=>?_) (λj hj=>?_)|(refine k8 ?_;first|rfl|assumption|(simp_all;done)|(simp;omega))|(refine gI ?_ ?_ ?_<;>first|rfl|assumption)|(refine kV ?_ ?_<;>first|rfl|assumption|(simp_all;done)|(simp;omega))|refine PO.br (λ_=>?_) (λ_=>?_)|refine PO.gd λ_=>?_))
 | struct hd ht=>(simp[pB,pC,dY,cK,ch,cL,lQ,lR,Z.Kind,Z.iM,Z.Text,Z.V,Z.aS,Z.B,Z.Decls,Z.H];repeat' (with_reducible first|exact PO.ok (by assumption)|exact hj _ (by assumption)|refine cC ?_ (by assumption)|(refine PO.bind (cC ?_ (by assumption)) λc hc=>?_)|(refine PO.bind (eg (by first|assumption|exact cM|exact gH (by assumption))) λy hy=>?_;subst hy)|(refine PO.bind gX λy hy=>?_;subst hy)|(refine PO.bind ei λy hy=>?_;obtain rfl:=hy.2 (by assumption))|(refine PO.bind (jG (by assumption)) λy hy=>?_;rw[hy])|(refine jF ?_ ?_ ?_ ?_<;>first|rfl|assumption)|(refine PO.bind (eF (by assumption) (by assumption) (by assumption)) λy hy=>?_;subst hy)|(refine PO.bind (gY _ (by decide) h (by decide)) λy hy=>?_;subst hy)|(refine PO.bind (fH (by assumption) (by assumption)) λy hy=>?_;subst hy)|refine PO.jn WF (λc hc=>?_) (λj hj=>?_)|(refine k8 ?_;first|rfl|assumption|(simp_all;done)|(simp;omega))|(refine gI ?_ ?_ ?_<;>first|rfl|assumption)|(refine kV ?_ ?_<;>first|rfl|assumption|(simp_all;done)|(simp;omega))|refine PO.br (λ_=>?_) (λ_=>?_)|refine PO.gd λ_=>?_))
 | list hs=>(simp[pB,pC,dY,cK,ch,cL,lQ,lR,Z.Kind,Z.iM,Z.Text,Z.V,Z.aS,Z.B,Z.Decls,Z.H];repeat' (with_reducible first|exact PO.ok (by assumption)|exact hj _ (by assumption)|refine cC ?_ (by assumption)|(refine PO.bind (cC ?_ (by assumption)) λc hc=>?_)|(refine PO.bind (eg (by first|assumption|exact cM|exact gH (by assumption))) λy hy=>?_;subst hy)|(refine PO.bind gX λy hy=>?_;subst hy)|(refine PO.bind ei λy hy=>?_;obtain rfl:=hy.2 (by assumption))|(refine PO.bind (jG (by assumption)) λy hy=>?_;rw[hy])|(refine jF ?_ ?_ ?_ ?_<;>first|rfl|assumption)|(refine PO.bind (eF (by assumption) (by assumption) (by assumption)) λy hy=>?_;subst hy)|(refine PO.bind (gY _ (by decide) h (by decide)) λy hy=>?_;subst hy)|(refine PO.bind (fH (by assumption) (by assumption)) λy hy=>?_;subst hy)|refine PO.jn WF (λc hc=>?_) (λj hj=>?_)|(refine k8 ?_;first|rfl|assumption|(simp_all;done)|(simp;omega))|(refine gI ?_ ?_ ?_<;>first|rfl|assumption)|(refine kV ?_ ?_<;>first|rfl|assumption|(simp_all;done)|(simp;omega))|refine PO.br (λ_=>?_) (λ_=>?_)|refine PO.gd λ_=>?_))
 | rest hs hy=>(simp[pB,pC,dY,cK,ch,cL,lQ,lR,Z.Kind,Z.iM,Z.Text,Z.V,Z.aS,Z.B,Z.Decls,Z.H];repeat' (with_reducible first|exact PO.ok (by assumption)|exact hj _ (by assumption)|refine cC ?_ (by assumption)|(refine PO.bind (cC ?_ (by assumption)) λc hc=>?_)|(refine PO.bind (eg (by first|assumption|exact cM|exact gH (by assumption))) λy hy=>?_;subst hy)|(refine PO.bind gX λy hy=>?_;subst hy)|(refine PO.bind ei λy hy=>?_;obtain rfl:=hy.2 (by assumption))|(refine PO.bind (jG (by assumption)) λy hy=>?_;rw[hy])|(refine jF ?_ ?_ ?_ ?_<;>first|rfl|assumption)|(refine PO.bind (eF (by assumption) (by assumption) (by assumption)) λy hy=>?_;subst hy)|(refine PO.bind (gY _ (by decide) h (by decide)) λy hy=>?_;subst hy)|(refine PO.bind (fH (by assumption) (by assumption)) λy hy=>?_;subst hy)|refine PO.jn WF (λc hc=>?_) (λj hj=>?_)|(refine k8 ?_;first|rfl|assumption|(simp_all;done)|(simp;omega))|(refine gI ?_ ?_ ?_<;>first|rfl|assumption)|(refine kV ?_ ?_<;>first|rfl|assumption|(simp_all;done)|(simp;omega))|refine PO.br (λ_=>?_) (λ_=>?_)|refine PO.gd λ_=>?_))
 | and hx hy=>(simp[pB,pC,dY,cK,ch,cL,lQ,lR,Z.Kind,Z.iM,Z.Text,Z.V,Z.aS,Z.B,Z.Decls,Z.H];repeat' (with_reducible first|exact PO.ok (by assumption)|exact hj _ (by assumption)|refine cC ?_ (by assumption)|(refine PO.bind (cC ?_ (by assumption)) λc hc=>?_)|(refine PO.bind (eg (by first|assumption|exact cM|exact gH (by assumption))) λy hy=>?_;subst hy)|(refine PO.bind gX λy hy=>?_;subst hy)|(refine PO.bind ei λy hy=>?_;obtain rfl:=hy.2 (by assumption))|(refine PO.bind (jG (by assumption)) λy hy=>?_;rw[hy])|(refine jF ?_ ?_ ?_ ?_<;>first|rfl|assumption)|(refine PO.bind (eF (by assumption) (by assumption) (by assumption)) λy hy=>?_;subst hy)|(refine PO.bind (gY _ (by decide) h (by decide)) λy hy=>?_;subst hy)|(refine PO.bind (fH (by assumption) (by assumption)) λy hy=>?_;subst hy)|refine PO.jn WF (λc hc=>?_) (λj hj=>?_)|(refine k8 ?_;first|rfl|assumption|(simp_all;done)|(simp;omega))|(refine gI ?_ ?_ ?_<;>first|rfl|assumption)|(refine kV ?_ ?_<;>first|rfl|assumption|(simp_all;done)|(simp;omega))|refine PO.br (λ_=>?_) (λ_=>?_)|refine PO.gd λ_=>?_))
 | or h hs=>(simp[pB,pC,dY,cK,ch,cL,lQ,lR,Z.Kind,Z.iM,Z.Text,Z.V,Z.aS,Z.B,Z.Decls,Z.H];repeat' (with_reducible first|exact PO.ok (by assumption)|exact hj _ (by assumption)|refine cC ?_ (by assumption)|(refine PO.bind (cC ?_ (by assumption)) λc hc=>?_)|(refine PO.bind (eg (by first|assumption|exact cM|exact gH (by assumption))) λy hy=>?_;subst hy)|(refine PO.bind gX λy hy=>?_;subst hy)|(refine PO.bind ei λy hy=>?_;obtain rfl:=hy.2 (by assumption))|(refine PO.bind (jG (by assumption)) λy hy=>?_;rw[hy])|(refine jF ?_ ?_ ?_ ?_<;>first|rfl|assumption)|(refine PO.bind (eF (by assumption) (by assumption) (by assumption)) λy hy=>?_;subst hy)|(refine PO.bind (gY _ (by decide) h (by decide)) λy hy=>?_;subst hy)|(refine PO.bind (fH (by assumption) (by assumption)) λy hy=>?_;subst hy)|refine PO.jn WF (λc hc=>?_) (λj hj=>?_)|(refine k8 ?_;first|rfl|assumption|(simp_all;done)|(simp;omega))|(refine gI ?_ ?_ ?_<;>first|rfl|assumption)|(refine kV ?_ ?_<;>first|rfl|assumption|(simp_all;done)|(simp;omega))|refine PO.br (λ_=>?_) (λ_=>?_)|refine PO.gd λ_=>?_))
 | unary h hx=>(simp[pB,pC,dY,cK,ch,cL,lQ,lR,Z.Kind,Z.iM,Z.Text,Z.V,Z.aS,Z.B,Z.Decls,Z.H];repeat' (with_reducible first|exact PO.ok (by assumption)|exact hj _ (by assumption)|refine cC ?_ (by assumption)|(refine PO.bind (cC ?_ (by assumption)) λc hc=>?_)|(refine PO.bind (eg (by first|assumption|exact cM|exact gH (by assumption))) λy hy=>?_;subst hy)|(refine PO.bind gX λy hy=>?_;subst hy)|(refine PO.bind ei λy hy=>?_;obtain rfl:=hy.2 (by assumption))|(refine PO.bind (jG (by assumption)) λy hy=>?_;rw[hy])|(refine jF ?_ ?_ ?_ ?_<;>first|rfl|assumption)|(refine PO.bind (eF (by assumption) (by assumption) (by assumption)) λy hy=>?_;subst hy)|(refine PO.bind (gY _ (by decide) h (by decide)) λy hy=>?_;subst hy)|(refine PO.bind (fH (by assumption) (by assumption)) λy hy=>?_;subst hy)|refine PO.jn WF (λc hc=>?_) (λj hj=>?_)|(refine k8 ?_;first|rfl|assumption|(simp_all;done)|(simp;omega))|(refine gI ?_ ?_ ?_<;>first|rfl|assumption)|(refine kV ?_ ?_<;>first|rfl|assumption|(simp_all;done)|(simp;omega))|refine PO.br (λ_=>?_) (λ_=>?_)|refine PO.gd λ_=>?_))
 | binary h hx hy=>have h:=CH h;(simp[pB,pC,dY,cK,ch,cL,lQ,lR,Z.Kind,Z.iM,Z.Text,Z.V,Z.aS,Z.B,Z.Decls,Z.H];repeat' (with_reducible first|exact PO.ok (by assumption)|exact hj _ (by assumption)|refine cC ?_ (by assumption)|(refine PO.bind (cC ?_ (by assumption)) λc hc=>?_)|(refine PO.bind (eg (by first|assumption|exact cM|exact gH (by assumption))) λy hy=>?_;subst hy)|(refine PO.bind gX λy hy=>?_;subst hy)|(refine PO.bind ei λy hy=>?_;obtain rfl:=hy.2 (by assumption))|(refine PO.bind (jG (by assumption)) λy hy=>?_;rw[hy])|(refine jF ?_ ?_ ?_ ?_<;>first|rfl|assumption)|(refine PO.bind (eF (by assumption) (by assumption) (by assumption)) λy hy=>?_;subst hy)|(refine PO.bind (gY _ (by decide) h (by decide)) λy hy=>?_;subst hy)|(refine PO.bind (fH (by assumption) (by assumption)) λy hy=>?_;subst hy)|refine PO.jn WF (λc hc=>?_) (λj hj=>?_)|(refine k8 ?_;first|rfl|assumption|(simp_all;done)|(simp;omega))|(refine gI ?_ ?_ ?_<;>first|rfl|assumption)|(refine kV ?_ ?_<;>first|rfl|assumption|(simp_all;done)|(simp;omega))|refine PO.br (λ_=>?_) (λ_=>?_)|refine PO.gd λ_=>?_))
 | call h hs=>(simp[pB,pC,dY,cK,ch,cL,lQ,lR,Z.Kind,Z.iM,Z.Text,Z.V,Z.aS,Z.B,Z.Decls,Z.H];repeat' (with_reducible first|exact PO.ok (by assumption)|exact hj _ (by assumption)|refine cC ?_ (by assumption)|(refine PO.bind (cC ?_ (by assumption)) λc hc=>?_)|(refine PO.bind (eg (by first|assumption|exact cM|exact gH (by assumption))) λy hy=>?_;subst hy)|(refine PO.bind gX λy hy=>?_;subst hy)|(refine PO.bind ei λy hy=>?_;obtain rfl:=hy.2 (by assumption))|(refine PO.bind (jG (by assumption)) λy hy=>?_;rw[hy])|(refine jF ?_ ?_ ?_ ?_<;>first|rfl|assumption)|(refine PO.bind (eF (by assumption) (by assumption) (by assumption)) λy hy=>?_;subst hy)|(refine PO.bind (gY _ (by decide) h (by decide)) λy hy=>?_;subst hy)|(refine PO.bind (fH (by assumption) (by assumption)) λy hy=>?_;subst hy)|refine PO.jn WF (λc hc=>?_) (λj hj=>?_)|(refine k8 ?_;first|rfl|assumption|(simp_all;done)|(simp;omega))|(refine gI ?_ ?_ ?_<;>first|rfl|assumption)|(refine kV ?_ ?_<;>first|rfl|assumption|(simp_all;done)|(simp;omega))|refine PO.br (λ_=>?_) (λ_=>?_)|refine PO.gd λ_=>?_))
 | value hd ht=>(simp[pB,pC,dY,cK,ch,cL,lQ,lR,Z.Kind,Z.iM,Z.Text,Z.V,Z.aS,Z.B,Z.Decls,Z.H];repeat' (with_reducible first|exact PO.ok (by assumption)|exact hj _ (by assumption)|refine cC ?_ (by assumption)|(refine PO.bind (cC ?_ (by assumption)) λc hc=>?_)|(refine PO.bind (eg (by first|assumption|exact cM|exact gH (by assumption))) λy hy=>?_;subst hy)|(refine PO.bind gX λy hy=>?_;subst hy)|(refine PO.bind ei λy hy=>?_;obtain rfl:=hy.2 (by assumption))|(refine PO.bind (jG (by assumption)) λy hy=>?_;rw[hy])|(refine jF ?_ ?_ ?_ ?_<;>first|rfl|assumption)|(refine PO.bind (eF (by assumption) (by assumption) (by assumption)) λy hy=>?_;subst hy)|(refine PO.bind (gY _ (by decide) h (by decide)) λy hy=>?_;subst hy)|(refine PO.bind (fH (by assumption) (by assumption)) λy hy=>?_;subst hy)|refine PO.jn WF (λc hc=>?_) (λj hj=>?_)|(refine k8 ?_;first|rfl|assumption|(simp_all;done)|(simp;omega))|(refine gI ?_ ?_ ?_<;>first|rfl|assumption)|(refine kV ?_ ?_<;>first|rfl|assumption|(simp_all;done)|(simp;omega))|refine PO.br (λ_=>?_) (λ_=>?_)|refine PO.gd λ_=>?_))
theorem K9 {q:aW} {e:Z} {c:R} (h:VP q.mL q.GJ q.vX e) (hc:WF c):PO WF (dx n e q c):=by
 obtain ⟨qj,qo,qi,ql⟩:=q;dsimp only at h;cases h with
 | e h=>exact Hk h hc
 | item h=>
  cases h with
  | e h=>exact Hk h hc
  | yk ha hb hn hx hy=>unfold dx dW dX kp;(simp[pB,pC,dY,cK,ch,cL,lQ,lR,Z.Kind,Z.iM,Z.Text,Z.V,Z.aS,Z.B,Z.Decls,Z.H];repeat' (with_reducible first|exact PO.ok (by assumption)|exact hj _ (by assumption)|refine cC ?_ (by assumption)|(refine PO.bind (cC ?_ (by assumption)) λc hc=>?_)|(refine PO.bind (eg (by first|assumption|exact cM|exact gH (by assumption))) λy hy=>?_;subst hy)|(refine PO.bind gX λy hy=>?_;subst hy)|(refine PO.bind ei λy hy=>?_;obtain rfl:=hy.2 (by assumption))|(refine PO.bind (jG (by assumption)) λy hy=>?_;rw[hy])|(refine jF ?_ ?_ ?_ ?_<;>first|rfl|assumption)|(refine PO.bind (eF (by assumption) (by assumption) (by assumption)) λy hy=>?_;subst hy)|(refine PO.bind (gY _ (by decide) h (by decide)) λy hy=>?_;subst hy)|(refine PO.bind (fH (by assumption) (by assumption)) λy hy=>?_;subst hy)|refine PO.jn WF (λc hc=>?_) (λj hj=>?_)|(refine k8 ?_;first|rfl|assumption|(simp_all;done)|(simp;omega))|(refine gI ?_ ?_ ?_<;>first|rfl|assumption)|(refine kV ?_ ?_<;>first|rfl|assumption|(simp_all;done)|(simp;omega))|refine PO.br (λ_=>?_) (λ_=>?_)|refine PO.gd λ_=>?_))
  | yl ha hb hn hx hy hz=>unfold dx dW dX kp;(simp[pB,pC,dY,cK,ch,cL,lQ,lR,Z.Kind,Z.iM,Z.Text,Z.V,Z.aS,Z.B,Z.Decls,Z.H];repeat' (with_reducible first|exact PO.ok (by assumption)|exact hj _ (by assumption)|refine cC ?_ (by assumption)|(refine PO.bind (cC ?_ (by assumption)) λc hc=>?_)|(refine PO.bind (eg (by first|assumption|exact cM|exact gH (by assumption))) λy hy=>?_;subst hy)|(refine PO.bind gX λy hy=>?_;subst hy)|(refine PO.bind ei λy hy=>?_;obtain rfl:=hy.2 (by assumption))|(refine PO.bind (jG (by assumption)) λy hy=>?_;rw[hy])|(refine jF ?_ ?_ ?_ ?_<;>first|rfl|assumption)|(refine PO.bind (eF (by assumption) (by assumption) (by assumption)) λy hy=>?_;subst hy)|(refine PO.bind (gY _ (by decide) h (by decide)) λy hy=>?_;subst hy)|(refine PO.bind (fH (by assumption) (by assumption)) λy hy=>?_;subst hy)|refine PO.jn WF (λc hc=>?_) (λj hj=>?_)|(refine k8 ?_;first|rfl|assumption|(simp_all;done)|(simp;omega))|(refine gI ?_ ?_ ?_<;>first|rfl|assumption)|(refine kV ?_ ?_<;>first|rfl|assumption|(simp_all;done)|(simp;omega))|refine PO.br (λ_=>?_) (λ_=>?_)|refine PO.gd λ_=>?_))
 | alt h=>
  cases h with
  | e h=>exact Hk h hc
  | mark hx=>unfold dx dW dX kp;(simp[pB,pC,dY,cK,ch,cL,lQ,lR,Z.Kind,Z.iM,Z.Text,Z.V,Z.aS,Z.B,Z.Decls,Z.H];repeat' (with_reducible first|exact PO.ok (by assumption)|exact hj _ (by assumption)|refine cC ?_ (by assumption)|(refine PO.bind (cC ?_ (by assumption)) λc hc=>?_)|(refine PO.bind (eg (by first|assumption|exact cM|exact gH (by assumption))) λy hy=>?_;subst hy)|(refine PO.bind gX λy hy=>?_;subst hy)|(refine PO.bind ei λy hy=>?_;obtain rfl:=hy.2 (by assumption))|(refine PO.bind (jG (by assumption)) λy hy=>?_;rw[hy])|(refine jF ?_ ?_ ?_ ?_<;>first|rfl|assumption)|(refine PO.bind (eF (by assumption) (by assumption) (by assumption)) λy hy=>?_;subst hy)|(refine PO.bind (gY _ (by decide) h (by decide)) λy hy=>?_;subst hy)|(refine PO.bind (fH (by assumption) (by assumption)) λy hy=>?_;subst hy)|refine PO.jn WF (λc hc=>?_) (λj hj=>?_)|(refine k8 ?_;first|rfl|assumption|(simp_all;done)|(simp;omega))|(refine gI ?_ ?_ ?_<;>first|rfl|assumption)|(refine kV ?_ ?_<;>first|rfl|assumption|(simp_all;done)|(simp;omega))|refine PO.br (λ_=>?_) (λ_=>?_)|refine PO.gd λ_=>?_))
end
end Go.Abs
end
section
namespace Go.Abs
open U
theorem jG {n:Nat} {s:ByS} (h:yj s):PO (λy=>y.2.Errno=0) (iJ n s):=by
 obtain ⟨m,r,f,h,hf⟩:=h;intro a e;have:=G1.get h e;subst this;exact hf
theorem A7 {α:Type} {a x:α} {k:Nat} (h:[a][k]?=some x):x=a:=by
 have:=List.mem_of_getElem? h;simpa using this
theorem Hl {α:Type} {p:α->Prop} {a b x:α} {k:Nat} (h:[a,b][k]?=some x) (ha:p a) (hb:p b):p x:=by
 have:=List.mem_of_getElem? h;simp at this;rcases this with rfl|rfl<;>assumption
theorem MM {α:Type} {p:α->Prop} {a b c x:α} {k:Nat} (h:[a,b,c][k]?=some x) (ha:p a) (hb:p b) (hc:p c):p x:=by
 have:=List.mem_of_getElem? h;simp at this;rcases this with rfl|rfl|rfl<;>assumption
theorem EC {j o i:Bool} {e x:Z} {k:Nat} (h:VP j o i e) (hx:e.B[k]?=some x):VP (e.Kind==16&&j) (e.Kind==17) (e.Kind==14&&(e.iM==0||decide ((k:Int)+1<(e.B.length:Int)))) x:=by
 have key:∀ {j:Bool} {e:Z},VE j e->e.B[k]?=some x->VP (e.Kind==16&&j) (e.Kind==17) (e.Kind==14&&(e.iM==0||decide ((k:Int)+1<(e.B.length:Int)))) x:=by
  intro j e h hx;cases h<;>(simp only[Z.B] at hx)<;>simp only[Z.Kind,Z.iM,Z.B]
  case qB hs=>exact .e (hs _ (List.mem_of_getElem? hx))
  case bound hx'=>exact .e (A7 hx▸hx')
  case Lv hx'=>exact .e (A7 hx▸hx')
  case index ha hb=>exact .e (Hl hx ha hb)
  case list hs=>exact .item (hs _ (List.mem_of_getElem? hx))
  case rest l y p hs hy=>
   by_cases hk:k<l.length
   ·rw[List.getElem?_append_left hk] at hx;have e:(14==14&&((1:Int)==0||decide ((k:Int)+1<((l++[y]).length:Int))))=true:=by simp;omega
    refine e▸?_;exact .item (hs _ (List.mem_of_getElem? hx))
   ·rw[List.getElem?_append_right (by omega)] at hx;have:=A7 hx;subst this;exact .e hy
  case and ha hb=>exact .e (Hl hx ha hb)
  case or hs=>exact .alt (hs _ (List.mem_of_getElem? hx))
  case unary hx'=>exact .e (A7 hx▸hx')
  case binary ha hb=>exact .e (Hl hx ha hb)
  case call hs=>exact .e (hs _ (List.mem_of_getElem? hx))
  all_goals cases hx
 cases h with
 | e h=>exact key h hx
 | item h=>
  cases h with
  | e h=>exact key h hx
  | yk _ _ _ ha hb=>exact .e (Hl hx ha hb)
  | yl _ _ _ ha hb hc=>exact .e (MM hx ha hb hc)
 | alt h=>
  cases h with
  | e h=>exact key h hx
  | mark hx'=>exact .e (A7 hx▸hx')
theorem Hm {j o i:Bool} {e x:Z} {k:Nat} (h:VP j o i e) (hx:e.B[k]?=some x):(e.Kind==10)=false:=by
 have key:∀ {j:Bool} {e:Z},VE j e->e.B[k]?=some x->(e.Kind==10)=false:=by
  intro j e h hx;cases h
  case ref=>cases hx
  all_goals rfl
 cases h with
 | e h=>exact key h hx
 | item h=>
  cases h with
  | e h=>exact key h hx
  | yk=>rfl
  | yl=>rfl
 | alt h=>
  cases h with
  | e h=>exact key h hx
  | mark=>rfl
theorem CI {j o i:Bool} {e:Z} (h:VP j o i e):∀ d,d∈e.Decls->VD (e.Kind==13) d:=by
 have key:∀ {j:Bool} {e:Z},VE j e->∀ d,d∈e.Decls->VD (e.Kind==13) d:=by
  intro j e h;cases h
  case struct hd _=>exact hd
  case value hd _=>exact hd
  all_goals exact λ_ h=>by cases h
 cases h with
 | e h=>exact key h
 | item h=>
  cases h with
  | e h=>exact key h
  | yk=>exact λ_ h=>by cases h
  | yl=>exact λ_ h=>by cases h
 | alt h=>
  cases h with
  | e h=>exact key h
  | mark=>exact λ_ h=>by cases h
structure CV (n:Nat):Prop where
 e:∀ {q:aW} {e:Z} {c:R},VP q.mL q.GJ q.vX e->WF c->PO WF (aO n e q c)
 d:∀ {x:au} {z:Bool} {l:Int} {c:R},VD z x->WF c->PO WF (dB n x z l c)
 l:∀ {xs:List au} {z:Bool} {l:Int} {c:R},(∀ d,d∈xs->VD z d)->WF c->PO WF (bY n xs z l c)
theorem Jl {n:Nat} (ih:CV n) {q:aW} {e:Z} {c:R} (h:VP q.mL q.GJ q.vX e) (hc:WF c):PO WF (aO (n+1) e q c):=by
 show PO WF (eo n (aT n) e q c);unfold eo;refine PO.jn WF (λv hv=>PO.bind (K9 h hv) λy hy=>PO.iter (λw=>WF w.1/\0<=w.2) ⟨hy,Int.le_refl 0⟩ λnext w hn hw=>PO.br (λ_=>?_) (λ_=>?_)) (λj hj=>PO.br (λ_=>hj _ hc) (λ_=>hj _ hc))
 ·refine PO.jn WF (λv hv=>PO.gd λ_=>hn _ ⟨hv,by dsimp only;omega⟩) λj hj=>PO.el λx h0 hx=>?_;have hv:=EC h hx;rw[Int.toNat_of_nonneg h0] at hv;have E:∀ {a b c:Bool} {lv:Int},a=(e.Kind==16&&q.mL)->b=(e.Kind==17)->c=(e.Kind==14&&(e.iM==0||decide (w.2+1<(e.B.length:Int))))->PO WF (U.bind ((aT n).aO x ⟨a,b,c,lv⟩ w.1) λy=>j y):=λha hb hc=>
   PO.bind (ih.e (by rw[ha,hb,hc];exact hv) hw.1) λy hy=>hj _ hy
  have K10:=Hm h hx;rw[K10];repeat' (with_reducible first|refine PO.br (λ_=>?_) (λ_=>?_)|refine PO.gd λ_=>?_)
  all_goals refine E ?_ ?_ ?_<;>simp[*]
 exact PO.bind (ih.l (CI h) hw.1) λy hy=>PO.ok hy
theorem Hn {n:Nat} (ih:CV n) {xs:List au} {z:Bool} {l:Int} {c:R} (h:∀ d,d∈xs->VD z d) (hc:WF c):PO WF (bY (n+1) xs z l c):=by
 show PO WF (eb n (aT n) xs z l c);unfold eb;exact PO.iter (λw=>WF w.1) hc λnext w hn hw=>PO.br (λ_=>PO.el λx _ hx=>PO.bind (ih.d (h _ (List.mem_of_getElem? hx)) hw) λy hy=>PO.gd λ_=>hn _ hy) (λ_=>PO.ok hw)
theorem La {x a:Z} {k:Int} (h0:0<=k) (hx:[a][k.toNat]?=some x) (h:VE true a):VP (k==0) false false x:=by
 have e:=A7 hx;subst e;have:k.toNat<1:=(List.getElem?_eq_some_iff.1 hx).1;have e:(k==0)=true:=by simp;omega
 rw[e];exact .e h
theorem Jm {n:Nat} (ih:CV n) {x:au} {z:Bool} {l:Int} {c:R} (h:VD z x) (hc:WF c):PO WF (dB (n+1) x z l c):=by
 show PO WF (en n (aT n) x z l c);unfold en kp;cases z<;>cases h<;>(simp[pB,pC,dY,cK,ch,cL,au.Kind,au.cX,au.Label,au.V,au.aS,au.B,au.Body,au.H,au.lT,au.Trail];repeat' (with_reducible first|exact PO.ok (by assumption)|exact hj _ (by assumption)|refine cC ?_ (by assumption)|(refine PO.bind (cC ?_ (by assumption)) λc hc=>?_)|(refine PO.bind (eg (by first|assumption|exact cM|exact gH (by assumption))) λy hy=>?_;subst hy)|(refine PO.bind gX λy hy=>?_;subst hy)|(refine PO.bind ei λy hy=>?_;obtain rfl:=hy.2 (by assumption))|(refine PO.bind (jG (by assumption)) λy hy=>?_;rw[hy])|(refine jF ?_ ?_ ?_ ?_<;>first|rfl|assumption)|(refine PO.bind (eF (by assumption) (by assumption) (by assumption)) λy hy=>?_;subst hy)|(refine PO.bind (gY _ (by decide) h (by decide)) λy hy=>?_;subst hy)|(refine PO.bind (fH (by assumption) (by assumption)) λy hy=>?_;subst hy)|refine PO.jn WF (λc hc=>?_) (λj hj=>?_)|(refine k8 ?_;first|rfl|assumption|(simp_all;done)|(simp;omega))|(refine gI ?_ ?_ ?_<;>first|rfl|assumption)|(refine kV ?_ ?_<;>first|rfl|assumption|(simp_all;done)|(simp;omega))|refine PO.br (λ_=>?_) (λ_=>?_)|refine PO.gd λ_=>?_));all_goals refine PO.iter (λw=>WF w.1/\0<=w.2) ⟨by assumption,Int.le_refl 0⟩ λnext w hn hw=>PO.br (λ_=>PO.el λx h0 hx=>PO.bind (W:=WF) (ih.e ?_ hw.1) λy hy=>PO.gd λ_=>hn _ ⟨hy,by have:=hw.2;dsimp only;omega⟩) (λ_=>ih.l (by first|assumption|exact λ_ h=>by cases h) hw.1)
 all_goals first|exact .e (A7 hx▸(by assumption))|exact .e (Hl hx (by assumption) (by assumption))|exact La h0 hx (by assumption)|cases hx
theorem yp:∀ n,CV n
 | 0=>⟨λ_ _=>PO.nil,λ_ _=>PO.nil,λ_ _=>PO.nil⟩
 | n+1=>⟨Jl (yp n),Jm (yp n),Hn (yp n)⟩
structure VF (f:iC):Prop where
 p:f.gE=[]\/fp f.gE
 i:∀ x,x∈f.dC->fp x.Name
 d:∀ d,d∈f.Decls->VD true d
 t:sY f.H
end Go.Abs
end
section
namespace Go.Abs
open U
mutual
inductive Mb:Nat->Z->Prop
 | mk {n:Nat} {e:Z} (hs:∀ x,x∈e.B->Mb n x) (hd:∀ d,d∈e.Decls->Mc n d):Mb (n+1) e
inductive Mc:Nat->au->Prop
 | mk {n:Nat} {d:au} (hb:∀ x,x∈d.Body->Mc n x) (hs:∀ x,x∈d.B->Mb n x):Mc (n+1) d
end
def DL (e:Z) (b:Int):Prop:=Mb b.toNat e
def Fk (l:List au) (b:Int):Prop:=∀ d,d∈l->Mc b.toNat d
theorem Jn {e:Z} {b:Int} (h0:0<=b) (hd:Fk e.Decls b) (hs:∀ x,x∈e.B->DL x b):DL e (b+1):=by
 have e1:(b+1).toNat=b.toNat+1:=by omega
 unfold DL;rw[e1];exact .mk hs hd
theorem Ho {l:List au} {b:Int} (h:∀ d,d∈l->1<=b/\Fk d.Body (b - 1)/\∀ x,x∈d.B->DL x (b - 1)):Fk l b:=by
 intro d hd;obtain ⟨h1,h2,h3⟩:=h d hd;have e1:b.toNat=(b - 1).toNat+1:=by omega
 rw[e1];exact .mk h2 h3
section
variable {n:Nat}
abbrev DP (c c':R):Prop:=c'.deep=c.deep
theorem yq {l:List Bool} {c:R}:PO (DP c) (u n l c):=by
 unfold u;exact PO.br (λ_=>PO.ok rfl) (λ_=>PO.any λy _=>PO.ok rfl)
theorem A8 {e:Z} {c:R}:PO (DP c) (dW n e c):=by
 unfold dW
 (repeat' (with_reducible first|exact PO.ok (by assumption)|exact PO.ok (Eq.refl _)|exact hj _ (by assumption)|exact hj _ (Eq.refl _)|(refine PO.jn (λ(v:R)=>v.deep=c.deep) (λv hv=>?_) (λj hj=>?_))|(refine PO.jn (λ(_:Bool)=>True) (λv hv=>?_) (λj hj=>?_))|((first|refine PO.bind yq λy hy=>?_|refine PO.bind A8 λy hy=>?_|refine PO.bind A9 λy hy=>?_|refine PO.bind ED λy hy=>?_);have hy:=Eq.trans hy (by first|assumption|exact Eq.refl _))|exact hj _ trivial|refine PO.br (λ_=>?_) (λ_=>?_)|refine PO.gd λ_=>?_|refine PO.any λy _=>?_))
theorem A9 {e:Z} {c:R}:PO (DP c) (dX n e c):=by
 unfold dX
 (repeat' (with_reducible first|exact PO.ok (by assumption)|exact PO.ok (Eq.refl _)|exact hj _ (by assumption)|exact hj _ (Eq.refl _)|(refine PO.jn (λ(v:R)=>v.deep=c.deep) (λv hv=>?_) (λj hj=>?_))|(refine PO.jn (λ(_:Bool)=>True) (λv hv=>?_) (λj hj=>?_))|((first|refine PO.bind yq λy hy=>?_|refine PO.bind A8 λy hy=>?_|refine PO.bind A9 λy hy=>?_|refine PO.bind ED λy hy=>?_);have hy:=Eq.trans hy (by first|assumption|exact Eq.refl _))|exact hj _ trivial|refine PO.br (λ_=>?_) (λ_=>?_)|refine PO.gd λ_=>?_|refine PO.any λy _=>?_))
theorem ED {e:Z} {c:R}:PO (DP c) (ef n e c):=by
 unfold ef kp
 (repeat' (with_reducible first|exact PO.ok (by assumption)|exact PO.ok (Eq.refl _)|exact hj _ (by assumption)|exact hj _ (Eq.refl _)|(refine PO.jn (λ(v:R)=>v.deep=c.deep) (λv hv=>?_) (λj hj=>?_))|(refine PO.jn (λ(_:Bool)=>True) (λv hv=>?_) (λj hj=>?_))|((first|refine PO.bind yq λy hy=>?_|refine PO.bind A8 λy hy=>?_|refine PO.bind A9 λy hy=>?_|refine PO.bind ED λy hy=>?_);have hy:=Eq.trans hy (by first|assumption|exact Eq.refl _))|exact hj _ trivial|refine PO.br (λ_=>?_) (λ_=>?_)|refine PO.gd λ_=>?_|refine PO.any λy _=>?_))
theorem Md {q:aW} {e:Z} {c:R}:PO (DP c) (dx n e q c):=by
 unfold dx kp
 (repeat' (with_reducible first|exact PO.ok (by assumption)|exact PO.ok (Eq.refl _)|exact hj _ (by assumption)|exact hj _ (Eq.refl _)|(refine PO.jn (λ(v:R)=>v.deep=c.deep) (λv hv=>?_) (λj hj=>?_))|(refine PO.jn (λ(_:Bool)=>True) (λv hv=>?_) (λj hj=>?_))|((first|refine PO.bind yq λy hy=>?_|refine PO.bind A8 λy hy=>?_|refine PO.bind A9 λy hy=>?_|refine PO.bind ED λy hy=>?_);have hy:=Eq.trans hy (by first|assumption|exact Eq.refl _))|exact hj _ trivial|refine PO.br (λ_=>?_) (λ_=>?_)|refine PO.gd λ_=>?_|refine PO.any λy _=>?_))
end
abbrev PE (lv:Int) (P:Prop) (c c':R):Prop:=c'.deep=false->c.deep=false/\(0<=lv->P)
structure CE (n:Nat):Prop where
 e:∀ {q:aW} {e:Z} {c:R},PO (PE q.level (q.level<=16/\DL e (17 - q.level)) c) (aO n e q c)
 d:∀ {x:au} {z:Bool} {l:Int} {c:R},PO (PE l (l<=16/\Fk x.Body (16 - l)/\∀ y,y∈x.B->DL y (16 - l)) c) (dB n x z l c)
 l:∀ {xs:List au} {z:Bool} {l:Int} {c:R},PO (PE l (l<=17->Fk xs (17 - l)) c) (bY n xs z l c)
theorem CJ {l:Int} (h0:0<=l) (h1:l<=16):IntKind.wrap .i64 (l+1)=l+1:=by
 have h0:-9223372036854775808<=l+1:=by omega
 have h1:l+1<=9223372036854775807:=by omega
 generalize l+1=x at *;have:IntKind.wrap .i64 x=if x % 18446744073709551616>=9223372036854775808 then x % 18446744073709551616 - 18446744073709551616 else x % 18446744073709551616:=by
  simp[IntKind.wrap,IntKind.bits,IntKind.signed]
 rw[this];split<;>omega
theorem Jo {n:Nat} (ih:CE n) {q:aW} {e:Z} {c:R}:PO (PE q.level (q.level<=16/\DL e (17 - q.level)) c) (aO (n+1) e q c):=by
 show PO _ (eo n (aT n) e q c);unfold eo;refine PO.jn (λv=>v.deep=false->c.deep=false/\q.level<=16) (λv hv=>?_) (λj hj=>PO.br (λh=>hj _ λq=>(by cases q)) (λh=>hj _ λhc=>⟨hc,by simpa using h⟩));refine PO.bind Md λy hy=>PO.iter (λw=>0<=w.2/\(w.1.deep=false->c.deep=false/\q.level<=16/\(0<=q.level->∀ x,x∈e.B.take w.2.toNat->DL x (16 - q.level)))) ⟨Int.le_refl 0,λh=>?_⟩ λnext w hn hw=>PO.br (λ_=>?_) (λhlt=>?_)
 ·have:=hv (hy▸h);exact ⟨this.1,this.2,λ_ x hx=>by simp at hx⟩
 ·refine PO.jn (λv=>v.deep=false->w.1.deep=false/\(0<=q.level->q.level<=16->∀ x,e.B[w.2.toNat]?=some x->DL x (16 - q.level))) (λv hv=>PO.gd λ_=>hn _ ⟨by dsimp only;omega,λh=>?_⟩) λj hj=>PO.el λx h0 hx=>?_
  ·obtain ⟨h1,h2⟩:=hv h;obtain ⟨h3,h4,h5⟩:=hw.2 h1;refine ⟨h3,h4,λh0 x hx=>?_⟩;have e1:(w.2+1).toNat=w.2.toNat+1:=by omega
   rw[e1,List.take_add_one] at hx;simp only[List.mem_append,Option.mem_toList] at hx;rcases hx with hx|hx
   ·exact h5 h0 x hx
   exact h2 h0 h4 x hx
  have E:∀ {a b c:Bool},PO (PE q.level _ _) (U.bind ((aT n).aO x ⟨a,b,c,IntKind.wrap .i64 (q.level+1)⟩ w.1) λy=>j y):=λ{a b c}=>
   PO.bind ih.e λy hy=>hj _ λh=>by
    obtain ⟨h1,h2⟩:=hy h;refine ⟨h1,λh0 h16 z hz=>?_⟩;rw[hx] at hz;cases hz;have:=h2 (by dsimp only;rw[CJ h0 h16];omega);dsimp only at this;rw[CJ h0 h16] at this;have e:(17:Int) - (q.level+1)=16 - q.level:=by omega
    exact e▸this.2
  repeat' (with_reducible first|exact E|refine PO.br (λ_=>?_) (λ_=>?_)|refine PO.gd λ_=>?_)
 refine PO.bind ih.l λy hy=>PO.ok λh=>?_;obtain ⟨h1,h2⟩:=hy h;obtain ⟨h3,h4,h5⟩:=hw.2 h1;refine ⟨h3,λh0=>⟨h4,?_⟩⟩;rw[CJ h0 h4] at h2;have h6:=h2 (by omega) (by omega);have e1:(17:Int) - (q.level+1)=16 - q.level:=by omega
 have e2:(17:Int) - q.level=16 - q.level+1:=by omega
 rw[e1] at h6;rw[e2];refine Jn (by omega) h6 λx hx=>h5 h0 x ?_;have:e.B.length<=w.2.toNat:=by simp at hlt;omega
 rwa [List.take_of_length_le this]
theorem Hp {n:Nat} (ih:CE n) {xs:List au} {z:Bool} {l:Int} {c:R}:PO (PE l (l<=17->Fk xs (17 - l)) c) (bY (n+1) xs z l c):=by
 show PO _ (eb n (aT n) xs z l c);unfold eb;refine PO.iter (λw=>0<=w.2/\(w.1.deep=false->c.deep=false/\(0<=l->∀ d,d∈xs.take w.2.toNat->l<=16/\Fk d.Body (16 - l)/\∀ x,x∈d.B->DL x (16 - l)))) ⟨Int.le_refl 0,λh=>⟨h,λ_ d hd=>by simp at hd⟩⟩ λnext w hn hw=>PO.br (λ_=>PO.el λd h0 hd=>PO.bind ih.d λy hy=>PO.gd λ_=>hn _ ⟨by dsimp only;omega,λh=>?_⟩) (λhlt=>PO.ok λh=>?_)
 ·obtain ⟨h1,h2⟩:=hy h;obtain ⟨h3,h4⟩:=hw.2 h1;refine ⟨h3,λh0 x hx=>?_⟩;have e1:(w.2+1).toNat=w.2.toNat+1:=by omega
  rw[e1,List.take_add_one] at hx;simp only[List.mem_append,Option.mem_toList] at hx;rcases hx with hx|hx
  ·exact h4 h0 x hx
  rw[hd] at hx;cases hx;exact h2 h0
 obtain ⟨h1,h2⟩:=hw.2 h;refine ⟨h1,λh0 h17=>Ho λd hd=>?_⟩;have:xs.length<=w.2.toNat:=by simp at hlt;omega
 rw[List.take_of_length_le this] at h2;obtain ⟨h3,h4,h5⟩:=h2 h0 d hd;have e:(17:Int) - l - 1=16 - l:=by omega
 rw[e];exact ⟨by omega,h4,h5⟩
theorem Jp {n:Nat} (ih:CE n) {x:au} {z:Bool} {l:Int} {c:R}:PO (PE l (l<=16/\Fk x.Body (16 - l)/\∀ y,y∈x.B->DL y (16 - l)) c) (dB (n+1) x z l c):=by
 show PO _ (en n (aT n) x z l c);unfold en kp;refine PO.jn (λv=>v.deep=false->c.deep=false/\l<=16) (λc0 hc0=>?_) (λj hj=>PO.br (λh=>hj _ λq=>(by cases q)) (λh=>hj _ λhc=>⟨hc,by simpa using h⟩));have fin:∀ {v:R} {own:Bool},v.deep=c0.deep->PO (PE l (l<=16/\Fk x.Body (16 - l)/\∀ y,y∈x.B->DL y (16 - l)) c) (iter (λnext35 (v34:R×Int)=>br (decide (v34.2<(List.length x.B:Int))) (el x.B v34.2 λx42=>br z (br own (U.bind ((aT n).aO x42 (aW.mk (v34.2==0) false false (IntKind.wrap .i64 (l+1))) v34.1) λy48=>gd (J (v34.2+1)) (next35 (y48,v34.2+1))) (U.bind ((aT n).aO x42 (aW.mk false false false (IntKind.wrap .i64 (l+1))) v34.1) λy50=>gd (J (v34.2+1)) (next35 (y50,v34.2+1)))) (U.bind ((aT n).aO x42 (aW.mk false false false (IntKind.wrap .i64 (l+1))) v34.1) λy52=>gd (J (v34.2+1)) (next35 (y52,v34.2+1)))) (U.bind ((aT n).bY x.Body false (IntKind.wrap .i64 (l+1)) v34.1) λy54=>.ok (y54))) n (v,0)):=by
  intro v own hv;refine PO.iter (λw=>0<=w.2/\(w.1.deep=false->c.deep=false/\l<=16/\(0<=l->∀ y,y∈x.B.take w.2.toNat->DL y (16 - l)))) ⟨Int.le_refl 0,λh=>?_⟩ λnext w hn hw=>PO.br (λ_=>PO.el λy h0 hy=>?_) (λhlt=>?_)
  ·have:=hc0 (hv▸h);exact ⟨this.1,this.2,λ_ x hx=>by simp at hx⟩
  ·have E:∀ {a:Bool},PO (PE l (l<=16/\Fk x.Body (16 - l)/\∀ y,y∈x.B->DL y (16 - l)) c) (U.bind ((aT n).aO y (aW.mk a false false (IntKind.wrap .i64 (l+1))) w.1) λy48=>gd (J (w.2+1)) (next (y48,w.2+1))):=λ{a}=>
    PO.bind ih.e λc1 h1=>PO.gd λ_=>hn _ ⟨by dsimp only;omega,λh=>by
     obtain ⟨h2,h3⟩:=h1 h;obtain ⟨h4,h5,h6⟩:=hw.2 h2;refine ⟨h4,h5,λh0 z hz=>?_⟩;have e1:(w.2+1).toNat=w.2.toNat+1:=by omega
     rw[e1,List.take_add_one] at hz;simp only[List.mem_append,Option.mem_toList] at hz;rcases hz with hz|hz
     ·exact h6 h0 z hz
     rw[hy] at hz;cases hz;dsimp only at h3;rw[CJ h0 h5] at h3;have e:(17:Int) - (l+1)=16 - l:=by omega
     exact e▸(h3 (by omega)).2⟩
   exact PO.br (λ_=>PO.br (λ_=>E) (λ_=>E)) (λ_=>E)
  refine PO.bind ih.l λy hy=>PO.ok λh=>?_;obtain ⟨h1,h2⟩:=hy h;obtain ⟨h3,h4,h5⟩:=hw.2 h1;refine ⟨h3,λh0=>⟨h4,?_,λy hy=>h5 h0 y ?_⟩⟩
  ·rw[CJ h0 h4] at h2;have h6:=h2 (by omega) (by omega);have e1:(17:Int) - (l+1)=16 - l:=by omega
   rwa [e1] at h6
  have:x.B.length<=w.2.toNat:=by simp at hlt;omega
  rwa [List.take_of_length_le this]
 (repeat' (with_reducible first|exact fin (by assumption)|exact hj _ (by assumption)|exact hj _ (Eq.refl _)|(refine PO.jn (λ(v:R)=>v.deep=c0.deep) (λv hv=>?_) (λj hj=>?_))|(refine PO.jn (λ(_:Bool)=>True) (λv hv=>?_) (λj hj=>?_))|(refine PO.jn (λ(_:Int)=>True) (λv hv=>?_) (λj hj=>?_))|(refine PO.bind yq λy hy=>?_;have hy:=Eq.trans hy (by first|assumption|exact Eq.refl _))|exact hj _ trivial|refine PO.br (λ_=>?_) (λ_=>?_)|refine PO.gd λ_=>?_|refine PO.any λy _=>?_))
theorem yr:∀ n,CE n
 | 0=>⟨PO.nil,PO.nil,PO.nil⟩
 | n+1=>⟨Jo (yr n),Jp (yr n),Hp (yr n)⟩
end Go.Abs
end
section
namespace Go.Abs
open U
theorem Dt:∀ n,VG n
 | 0=>⟨λ_ _=>PO.nil,λ_ _=>PO.nil,λ_ _=>PO.nil,λ_ _=>PO.nil,λ_ _=>PO.nil,λ_ _=>PO.nil,λ_ _=>PO.nil,λ_=>PO.nil,λ_ _=>PO.nil,λ_=>PO.nil,λ_=>PO.nil,λ_=>PO.nil,λ_=>PO.nil,λ_=>PO.nil,λ_=>PO.nil,λ_=>PO.nil,λ_=>PO.nil,λ_=>PO.nil,λ_=>PO.nil,λ_=>PO.nil,λ_=>PO.nil,λ_=>PO.nil,λ_=>PO.nil,λ_=>PO.nil,λ_ _=>PO.nil,λ_=>PO.nil,λ_=>PO.nil,λ_ _=>PO.nil,λ_=>PO.nil,λ_=>PO.nil,PO.nil⟩
 | n+1=>have ih:=Dt n
  ⟨Ja ih,K4 ih,Jb ih,K5 ih,G6 ih,Jd ih,Je ih,G8 ih,Fc ih,Fe ih,Dl ih,Ff ih,Jf ih,G9 ih,Hb ih,Fg ih,Jh ih,Ha ih,Jg ih,Hc ih,Dn ih,Dp ih,Jj ih,Hg ih,G7 ih,L4 ih,L5 ih,L6 ih,L7 ih,L8 ih,Ji Ds ih⟩
section
variable {n:Nat} {p:A}
theorem Jq {j:Bool} {l:List ByS} (h:SK none p) (hl:sY l):PO (DV j) (iH n l j p):=by
 have ih:=Dt n;unfold iH;refine PO.iter (λw=>SK none w.1/\sY w.2.1/\∀ d,d∈w.2.2.1->VD j d) ⟨h,hl,oE⟩ λnext w hn hw=>PO.bind (G4 hw.1) λa ha=>PO.br (λ_=>PO.bind (hP ha) λb hb=>?_) (λ_=>PO.ok ⟨ha,hw.2.2,hw.2.1⟩);have hc:b.1.Kind=6->NL b.1.Text:=hb.2.1.c;refine PO.jn (λ_=>True) (λv _=>PO.br (λ_=>PO.gd λ_=>hn _ ⟨hb.1,hw.2⟩) (λ_=>?_)) (λk hk=>PO.br (λ_=>hk _ trivial) (λ_=>PO.any λ_ _=>hk _ trivial));refine PO.jn (λv=>SK none v.1/\(v.2=true->b.1.Kind=6)) (λv hv=>PO.br (λh2=>PO.gd λ_=>PO.el λx _ hx=>PO.gd λ_=>hn _ ⟨hv.1,hw.2.1,Ex hw.2.2 ((hw.2.2 x (List.mem_of_getElem? hx)).M5 (hc (hv.2 h2)))⟩) (λ_=>?_)) (λk hk=>PO.br (λh6=>PO.br (λ_=>PO.bind CC λc hc'=>hk _ ⟨hc'▸hb.1,λ_=>(by simpa using h6)⟩) (λ_=>hk _ ⟨hb.1,λh=>by cases h⟩)) (λ_=>hk _ ⟨hb.1,λh=>by cases h⟩));refine PO.jn (λv=>SK none v.1/\(v.2=true->b.1.Kind=6)) (λv hv=>PO.br (λh2=>PO.gd λ_=>PO.gd λ_=>hn _ ⟨hv.1,hw.2.1.snoc (hc (hv.2 h2)),hw.2.2⟩) (λ_=>?_)) (λk hk=>PO.br (λh6=>PO.bind A3 λc hc'=>hk _ ⟨hc'▸hv.1,λ_=>(by simpa using h6)⟩) (λ_=>hk _ ⟨hv.1,λh=>by cases h⟩));exact PO.jn (λ_=>True) (λu _=>PO.br (λ_=>jU) (λ_=>PO.bind (ih.decl hv.1) λc hc'=>PO.gd λ_=>hn _ ⟨hc'.1,rY,o0 hw.2.2 (hc'.2.M4 hw.2.1)⟩)) (λk hk=>PO.br (λ_=>hk _ trivial) (λ_=>hk _ trivial))
theorem Lb (h:SK none p):PO (λr=>VF r.1) (iU n p):=by
 unfold iU;refine PO.bind (yo h) λa ha=>PO.jn (λv=>SK none v.1/\(v.2.1.gE=[]\/fp v.2.1.gE)/\sY v.2.2) (λv hv=>?_) (λjj hj=>?_)
 ·refine PO.jn (λw=>SK none w.1/\(w.2.gE=[]\/fp w.2.gE)/\∀ x,x∈w.2.dC->fp x.Name) (λw hw=>?_) (λjj hj=>?_)
  ·exact PO.bind (Jq (j:=true) hw.1 hv.2.2) λb hb=>PO.bind (hP hb.1) λc hc=>PO.br (λ_=>jU) (λ_=>PO.ok ⟨hw.2.1,hw.2.2,hb.2.1,hb.2.2⟩)
  refine PO.iter (λw=>SK none w.1/\(w.2.gE=[]\/fp w.2.gE)/\∀ x,x∈w.2.dC->fp x.Name) ⟨hv.1,hv.2.1,oE⟩ λnext w hn hw=>PO.bind (hP hw.1) λb hb=>PO.any λ_ _=>PO.br (λ_=>?_) (λ_=>hj _ ⟨hb.1,hw.2⟩);have go:∀ {V:Int->Prop},PO (λr=>VF r.1) (U.bind (dG n (A.mk b.2.text b.2.F b.2.at_ w.1.base b.2.skip b.2.pending)) λy=>gd (mV 40 (List.length w.2.dC) (List.length [y.1])) (next (y.2,(iC.mk w.2.gE (w.2.dC++[y.1]) [] [])))):=λ{V}=>PO.bind (Dk (q:=none) hb.1) λc hc=>PO.gd λ_=>hn _ ⟨hc.1,hw.2.1,o0 hw.2.2 hc.2⟩;exact PO.br (λ_=>go (V:=λ_=>True)) (λ_=>PO.gd λ_=>PO.el λ_ _ _=>PO.br (λ_=>go (V:=λ_=>True)) (λ_=>hj _ ⟨hb.1,hw.2⟩))
 exact PO.bind (hP ha.1) λb hb=>PO.any λ_ _=>PO.br (λ_=>PO.gd λ_=>PO.bind (vZ (q:=none) hb.1) λc hc=>PO.bind (wE hc.1) λd hd=>PO.bind (CD hd) λe he=>PO.gd λ_=>hj _ ⟨he.1,.inr hc.2,ha.2.app he.2⟩) (λ_=>hj _ ⟨hb.1,.inl rfl,ha.2⟩)
theorem EE {c:R} (h:WF c):PO (λr=>r.1≠9->c.deep=false) (fw c):=by
 unfold fw;exact PO.br (λq=>by rw[h] at q;cases q) (λ_=>PO.br (λ_=>PO.ok λq=>absurd rfl q) (λq=>PO.ok λ_=>q))
theorem PO.and {α:Type} {V W:α->Prop} {x:U α} (h:PO V x) (h':PO W x):PO (λa=>V a/\W a) x:=λa e=>⟨h a e,h' a e⟩
theorem CK {e:Z} (h:VE true e):PO (λr=>r≠9->DL e 16) (iT n e):=by
 unfold iT;refine PO.bind (((yp n).e (q:=⟨true,false,false,1⟩) (.e h) rfl).and ((yr n).e (q:=⟨true,false,false,1⟩) (c:=⟨false,false⟩))) λc hc=>PO.bind (EE hc.1) λr hr=>PO.ok λh9=>?_;exact ((hc.2 (hr h9)).2 (by decide)).2
theorem Jr {f:iC} (h:VF f):PO (λr=>r≠9->Fk f.Decls 16) (lq n f):=by
 unfold lq kp;refine PO.jn WF (λv hv=>PO.iter (λw=>WF w.1) hv λnext w hn hw=>PO.br (λ_=>PO.el λx _ hx=>PO.bind ei λy hy=>PO.bind (cC (k8 (hy.2 (h.i x (List.mem_of_getElem? hx)))) hw) λc hc=>PO.gd λ_=>hn _ hc) (λ_=>?_)) (λjj hj=>PO.br (λ_=>PO.bind (eg h.t) λy hy=>PO.bind (cC (kV rfl hy) rfl) λc hc=>hj _ hc) (λhb=>PO.bind ei λz hz=>PO.bind (eg h.t) λy hy=>PO.bind (cC (kV (hz.2 (h.p.resolve_left (by simpa using hb))) hy) rfl) λc hc=>hj _ hc));refine PO.bind (((yp n).l h.d hw).and ((yr n).l (l:=1))) λc hc=>PO.bind (EE hc.1) λr hr=>PO.ok λh9=>?_;exact (hc.2 (hr h9)).2 (by decide) (by decide)
theorem Lc {s:ByS}:PO (λr=>r.2.Errno=0->VF r.1/\Fk r.1.Decls 16) (jZ n s):=by
 unfold jZ;refine PO.bind (Ds n s) λa ha=>PO.br (λhb=>PO.ok λh=>absurd (h:a.2.Errno=0) (by simpa using hb)) (λ_=>PO.jh (PO.bind (Lb ⟨ha,rfl⟩) λb hb=>PO.bind (Jr hb) λc hc=>PO.br (λ_=>PO.ok λh=>by cases h) (λh9=>PO.ok λ_=>⟨hb,hc (by simpa using h9)⟩)) λp=>PO.qJ λv=>PO.bind (PO.ok (V:=λr=>r.2.Errno=8) rfl) λr hr=>PO.ok λh=>?_);dsimp only at h;rw[hr] at h;cases h
theorem Ld {s:ByS}:PO (λr=>r.2.Errno=0->VE true r.1/\DL r.1 16) (mh n s):=by
 unfold mh;refine PO.bind (Ds n s) λa ha=>PO.br (λhb=>PO.ok λh=>absurd (h:a.2.Errno=0) (by simpa using hb)) (λ_=>PO.jh (PO.bind ((Dt n).ex (j:=true) (q:=none) ⟨ha,rfl⟩ QV.none) λb hb=>?_) λp=>PO.qJ λv=>PO.bind (PO.ok (V:=λr=>r.2.Errno=8) rfl) λr hr=>PO.ok λh=>?_)
 ·refine PO.jn (SK none) (λv hv=>PO.jn (λ_=>True) (λ_ _=>PO.bind (CK hb.2) λc hc=>PO.br (λ_=>PO.ok λh=>by cases h) (λh9=>PO.ok λ_=>⟨hb.2,hc (by simpa using h9)⟩)) (λk hk=>PO.bind (hP hv) λy hy=>PO.br (λ_=>jU) (λ_=>hk _ trivial))) (λk hk=>PO.bind (hP hb.1) λy hy=>PO.br (λ_=>PO.gd λ_=>hk _ hy.1) (λ_=>hk _ hy.1))
 dsimp only at h;rw[hr] at h;cases h
end
end Go.Abs
end
section
namespace Go.Abs
open U
abbrev fM:sB->Prop:=λ_=>False
theorem sw {m:Nat->Nat} (hm:g m) {l:List ByS} {s:ByS} (hl:l.length<=1099511627776):Ev (λi=>slices_Index_string (m i) l s) (λ_=>True) fM:=by
 unfold slices_Index_string;refine Ev.iter hm (λ(v:Int)=>0<=v/\v<=l.length) (λv=>(l.length - v).toNat) (by omega) ?_;intro v hv next hn
 (repeat' (with_reducible first|refine Ev.gA ?_|refine Ev.eA (λ_ _=>?_)|apply Ev.bK|apply Ev.bE|(first|apply Ev.bk|apply Ev.W|apply Ev.cr|apply Ev.bz|apply Ev.br)<;>intro _|(apply Ev.lK;try dsimp only)))
 all_goals first|exact Ev.ok trivial|exact hn _ (by (first|omega|(simp[J,mV,sX,maxLen]<;>omega))) (by (first|omega|(simp[J,mV,sX,maxLen]<;>omega)))
theorem kB {m:Nat->Nat} (hm:g m) {l:List ByS} {s:ByS} (hl:l.length<=1099511627776):Ev (λi=>slices_Contains_string (m i) l s) (λ_=>True) fM:=by
 unfold slices_Contains_string;exact Ev.Y (sw hm hl) λ_ _=>Ev.ok trivial
theorem sE {c:Int}:Ev (λ_=>jP c) (λ_=>True) fM:=by
 unfold jP
 (repeat' (with_reducible first|refine Ev.gA ?_|refine Ev.eA (λ_ _=>?_)|apply Ev.bK|apply Ev.bE|(first|apply Ev.bk|apply Ev.W|apply Ev.cr|apply Ev.bz|apply Ev.br)<;>intro _|(apply Ev.lK;try dsimp only)))
 all_goals exact Ev.ok trivial
theorem gR {m:Nat->Nat} (hm:g m) {s:ByS}:Ev (λi=>fJ (m i) s) (λ_=>True) fM:=by
 unfold fJ;refine Ev.bk (λ_=>Ev.ok trivial) (λh=>?_);refine Ev.Y (kB hm (by simp)) λy _=>?_;refine Ev.br (λ_=>Ev.ok trivial) (λ_=>?_);refine Ev.jn (λv=>v.length<=32) (λv hv=>?_) (λj hj=>?_)
 ·(repeat' (with_reducible first|refine Ev.gA ?_|refine Ev.eA (λ_ _=>?_)|apply Ev.bK|apply Ev.bE|(first|apply Ev.bk|apply Ev.W|apply Ev.cr|apply Ev.bz|apply Ev.br)<;>intro _|(apply Ev.lK;try dsimp only)))
  ·exact Ev.ok trivial
  refine Ev.Y sE λy _=>?_
  (repeat' (with_reducible first|refine Ev.gA ?_|refine Ev.eA (λ_ _=>?_)|apply Ev.bK|apply Ev.bE|(first|apply Ev.bk|apply Ev.W|apply Ev.cr|apply Ev.bz|apply Ev.br)<;>intro _|(apply Ev.lK;try dsimp only)))
  ·exact Ev.ok trivial
  refine Ev.iter hm (λ(x:Int)=>0<=x/\x<=v.length) (λx=>(v.length - x).toNat) (by omega) ?_;intro x hx next hn
  (repeat' (with_reducible first|refine Ev.gA ?_|refine Ev.eA (λ_ _=>?_)|apply Ev.bK|apply Ev.bE|(first|apply Ev.bk|apply Ev.W|apply Ev.cr|apply Ev.bz|apply Ev.br)<;>intro _|(apply Ev.lK;try dsimp only)))
  ·refine Ev.Y sE λy _=>?_
   (repeat' (with_reducible first|refine Ev.gA ?_|refine Ev.eA (λ_ _=>?_)|apply Ev.bK|apply Ev.bE|(first|apply Ev.bk|apply Ev.W|apply Ev.cr|apply Ev.bz|apply Ev.br)<;>intro _|(apply Ev.lK;try dsimp only)))
   all_goals first|exact Ev.ok trivial|exact hn _ (by (first|omega|(simp[J,mV,sX,maxLen]<;>omega))) (by (first|omega|(simp[J,mV,sX,maxLen]<;>omega)))
  exact Ev.ok trivial
 (repeat' (with_reducible first|refine Ev.gA ?_|refine Ev.eA (λ_ _=>?_)|apply Ev.bK|apply Ev.bE|(first|apply Ev.bk|apply Ev.W|apply Ev.cr|apply Ev.bz|apply Ev.br)<;>intro _|(apply Ev.lK;try dsimp only)))
 all_goals refine hj _ ?_
 all_goals first|omega|(have:=my (c:=s) (i:=1) (by omega) (by omega);omega)
theorem qF {c:Int}:Ev (λ_=>ji c) (λr=>r=true->-1000000000000000<=c/\c<=1000000000000000) fM:=by
 unfold ji
 (repeat' (with_reducible first|refine Ev.gA ?_|refine Ev.eA (λ_ _=>?_)|apply Ev.bK|apply Ev.bE|(first|apply Ev.bk|apply Ev.W|apply Ev.cr|apply Ev.bz|apply Ev.br)<;>intro _|(apply Ev.lK;try dsimp only)))
 all_goals first|exact Ev.ok (by simp;omega)|exact Ev.ok (by simp)
theorem zq {c:Int}:Ev (λ_=>qp c) (λr=>0<=r/\r<18446744073709551616) fM:=by
 unfold qp
 (repeat' (with_reducible first|refine Ev.gA ?_|refine Ev.eA (λ_ _=>?_)|apply Ev.bK|apply Ev.bE|(first|apply Ev.bk|apply Ev.W|apply Ev.cr|apply Ev.bz|apply Ev.br)<;>intro _|(apply Ev.lK;try dsimp only)))
 all_goals exact Ev.ok (wrap_u64 _)
theorem um {a:Int} (h:0<=a/\a<18446744073709551616):Ev (λ_=>kh a 10) (λr=>1<=r.length/\r.length<=20) fM:=by
 unfold kh;refine Ev.gd ⟨rfl,h.1,h.2⟩ (Ev.ok ⟨GD 19 _,B7 20 _⟩)
theorem zr {m:Nat->Nat} (hm:g m) {c:Int}:Ev (λi=>nj (m i) c) (λ_=>True) fM:=by
 unfold nj;refine Ev.Y qF λy _=>?_;refine Ev.bz (λ_=>Ev.ok trivial) (λ_=>?_);refine Ev.Y zq λy _=>?_;refine Ev.gA (Ev.Y (um (wrap_u64 _)) λy hy=>?_);refine Ev.jn (λv=>v.length<=30) (λv hv=>?_) (λj hj=>?_)
 ·refine Ev.gA (Ev.Y (um (wrap_u64 _)) λy hy=>?_);refine Ev.gA ?_;refine Ev.jn (λv=>v.length<=30) (λv hv=>?_) (λj hj=>?_)
  ·(repeat' (with_reducible first|refine Ev.gA ?_|refine Ev.eA (λ_ _=>?_)|apply Ev.bK|apply Ev.bE|(first|apply Ev.bk|apply Ev.W|apply Ev.cr|apply Ev.bz|apply Ev.br)<;>intro _|(apply Ev.lK;try dsimp only)))
   all_goals exact Ev.ok trivial
  refine Ev.iter hm (λx=>x.length<=30) (λx=>x.length) ?_ ?_
  ·have:=my (c:=y) (i:=1) (by omega) (by omega);omega
  intro x hx next hn
  (repeat' (with_reducible first|refine Ev.gA ?_|refine Ev.eA (λ_ _=>?_)|apply Ev.bK|apply Ev.bE|(first|apply Ev.bk|apply Ev.W|apply Ev.cr|apply Ev.bz|apply Ev.br)<;>intro _|(apply Ev.lK;try dsimp only)))
  ·have:=Ai (c:=x) (j:=x.length - 1) (by omega) (by omega);exact hn _ (by omega) (by omega)
  ·exact hj _ (by omega)
  exact hj _ (by omega)
 (repeat' (with_reducible first|refine Ev.gA ?_|refine Ev.eA (λ_ _=>?_)|apply Ev.bK|apply Ev.bE|(first|apply Ev.bk|apply Ev.W|apply Ev.cr|apply Ev.bz|apply Ev.br)<;>intro _|(apply Ev.lK;try dsimp only)))
 all_goals exact hj _ (by (first|omega|(simp[J,mV,sX,maxLen]<;>omega)))
theorem tL {m:Nat->Nat} (hm:g m) {s:ByS}:Ev (λi=>ll (m i) s) (λ_=>True) fM:=by
 unfold ll;refine Ev.bk (λ_=>Ev.ok trivial) (λh=>?_);refine Ev.jn (λv=>v.1.length<=20/\v.2.length<=20) (λv hv=>?_) (λj hj=>?_)
 ·refine Ev.iter hm (λx=>x.length<=20) (λx=>20 - x.length) hv.2 ?_;intro x hx next hn
  (repeat' (with_reducible first|refine Ev.gA ?_|refine Ev.eA (λ_ _=>?_)|apply Ev.bK|apply Ev.bE|(first|apply Ev.bk|apply Ev.W|apply Ev.cr|apply Ev.bz|apply Ev.br)<;>intro _|(apply Ev.lK;try dsimp only)))
  ·exact hn _ (by (first|omega|(simp[J,mV,sX,maxLen]<;>omega))) (by (first|omega|(simp[J,mV,sX,maxLen]<;>omega)))
  ·exact Ev.ok trivial
  refine Ev.fQ (Q:=λ_=>True) ?_ λy _=>?_
  ·unfold ov;exact Ev.gA (Ev.ok trivial)
  refine Ev.br (λ_=>Ev.ok trivial) (λ_=>?_);refine Ev.Y qF λy _=>?_;refine Ev.bz (λ_=>Ev.ok trivial) (λ_=>?_);refine Ev.Y (zr hm) λy _=>?_;refine Ev.br (λ_=>Ev.ok trivial) (λ_=>Ev.ok trivial)
 refine Ev.iter hm (λ(x:Int)=>0<=x/\x<=s.length) (λx=>(s.length - x).toNat) (by omega) ?_;intro x hx next hn
 (repeat' (with_reducible first|refine Ev.gA ?_|refine Ev.eA (λ_ _=>?_)|apply Ev.bK|apply Ev.bE|(first|apply Ev.bk|apply Ev.W|apply Ev.cr|apply Ev.bz|apply Ev.br)<;>intro _|(apply Ev.lK;try dsimp only)))
 ·have h1:=xO (c:=s) (j:=x);have h2:=my (c:=s) (i:=x+1) (by omega) (by omega);exact hj _ (by dsimp only;omega)
 ·exact hn _ (by (first|omega|(simp[J,mV,sX,maxLen]<;>omega))) (by (first|omega|(simp[J,mV,sX,maxLen]<;>omega)))
 exact hj _ (by dsimp only;simp;omega)
end Go.Abs
end
section
namespace Go.Abs
open U
theorem sx {s p:ByS}:Ev (λ_=>strings_HasPrefix s p) (λr=>r=true->p.length<=s.length) fM:=by
 unfold strings_HasPrefix stringslite_HasPrefix;refine Ev.Y (Q:=λr=>r=true->p.length<=s.length) ?_ λ_ h=>Ev.ok h
 (repeat' (with_reducible first|refine Ev.gA ?_|refine Ev.eA (λ_ _=>?_)|apply Ev.bK|apply Ev.bE|(first|apply Ev.bk|apply Ev.W|apply Ev.cr|apply Ev.bz|apply Ev.br)<;>intro _|(apply Ev.lK;try dsimp only)))
 ·exact Ev.ok (λ_=>by omega)
 exact Ev.ok (by simp)
theorem yu {a b:ByS} (h:1<=b.length) (ha:a.length<4294967281):Ev (λ_=>strings_Split a b) (λr=>r.length<=a.length+2) fM:=by
 unfold strings_Split;exact Ev.gd ⟨h,ha⟩ (Ev.ok (xP _ _ _))
theorem ra {a b:ByS} (ha:a.length<4294967281):Ev (λ_=>strings_Contains a b) (λ_=>True) fM:=by
 unfold strings_Contains;exact Ev.gd ha (Ev.ok trivial)
theorem mn {c:Int}:Ev (λ_=>jk c) (λr=>r=decide (48<=c/\c<=57)) fM:=by
 unfold jk
 (repeat' (with_reducible first|refine Ev.gA ?_|refine Ev.eA (λ_ _=>?_)|apply Ev.bK|apply Ev.bE|(first|apply Ev.bk|apply Ev.W|apply Ev.cr|apply Ev.bz|apply Ev.br)<;>intro _|(apply Ev.lK;try dsimp only)))
 ·exact Ev.ok (by simp;omega)
 exact Ev.ok (by simp;omega)
theorem sF {c:Int}:Ev (λ_=>mA c) (λ_=>True) fM:=by
 unfold mA
 (repeat' (with_reducible first|refine Ev.gA ?_|refine Ev.eA (λ_ _=>?_)|apply Ev.bK|apply Ev.bE|(first|apply Ev.bk|apply Ev.W|apply Ev.cr|apply Ev.bz|apply Ev.br)<;>intro _|(apply Ev.lK;try dsimp only)))
 all_goals exact Ev.ok trivial
theorem wQ {m:Nat->Nat} (hm:g m) {s:ByS} (hs:s.length<=65536) :
  Ev (λi=>nR (m i) s) (λr=>0<=r/\r<=s.length/\∀ b:UInt8,s[0]?=some b->48<=(b.toNat:Int)->(b.toNat:Int)<=57->1<=r) fM:=by
 unfold nR
 refine Ev.jn (λv=>0<=v/\v<=s.length/\∀ b:UInt8,s[0]?=some b->48<=(b.toNat:Int)->(b.toNat:Int)<=57->1<=v) (λv hv=>?_) (λj hj=>?_)
 ·refine Ev.jn (λb=>b=true->v+1<=s.length) (λb hb=>?_) (λj hj=>?_)
  ·refine Ev.br (λh=>?_) (λ_=>Ev.ok hv)
   have:=hb h
   refine Ev.gA ?_
   refine Ev.iter hm (λ(x:Int)=>v+1<=x/\x<=s.length) (λx=>(s.length - x).toNat) (by omega) ?_
   intro x hx next hn
   (repeat' (with_reducible first|refine Ev.gA ?_|refine Ev.eA (λ_ _=>?_)|apply Ev.bK|apply Ev.bE|(first|apply Ev.bk|apply Ev.W|apply Ev.cr|apply Ev.bz|apply Ev.br)<;>intro _|(apply Ev.lK;try dsimp only)))
   ·refine Ev.Y mn λy _=>?_
    (repeat' (with_reducible first|refine Ev.gA ?_|refine Ev.eA (λ_ _=>?_)|apply Ev.bK|apply Ev.bE|(first|apply Ev.bk|apply Ev.W|apply Ev.cr|apply Ev.bz|apply Ev.br)<;>intro _|(apply Ev.lK;try dsimp only)))
    ·exact hn _ (by (first|omega|(simp[J,mV,sX,maxLen]<;>omega))) (by (first|omega|(simp[J,mV,sX,maxLen]<;>omega)))
    ·exact Ev.ok ⟨by omega,by omega,λ_ _ _ _=>by omega⟩
   ·exact Ev.ok ⟨by omega,by omega,λ_ _ _ _=>by omega⟩
  ·(repeat' (with_reducible first|refine Ev.gA ?_|refine Ev.eA (λ_ _=>?_)|apply Ev.bK|apply Ev.bE|(first|apply Ev.bk|apply Ev.W|apply Ev.cr|apply Ev.bz|apply Ev.br)<;>intro _|(apply Ev.lK;try dsimp only)))
   ·refine Ev.Y mn λy _=>?_
    exact hj _ (λ_=>by omega)
   all_goals exact hj _ (by simp)
 ·refine Ev.iter hm (λ(x:Int)=>0<=x/\x<=s.length) (λx=>(s.length - x).toNat) (by omega) ?_
  intro x hx next hn
  refine Ev.bk (λh=>?_) (λh=>?_)
  ·refine Ev.eA (λb hb=>?_)
   refine Ev.Y mn λy hy=>?_
   refine Ev.br (λ_=>?_) (λh2=>?_)
   ·(repeat' (with_reducible first|refine Ev.gA ?_|refine Ev.eA (λ_ _=>?_)|apply Ev.bK|apply Ev.bE|(first|apply Ev.bk|apply Ev.W|apply Ev.cr|apply Ev.bz|apply Ev.br)<;>intro _|(apply Ev.lK;try dsimp only)))
    exact hn _ (by (first|omega|(simp[J,mV,sX,maxLen]<;>omega))) (by (first|omega|(simp[J,mV,sX,maxLen]<;>omega)))
   ·refine hj _ ⟨hx.1,hx.2,λb' hb' h3 h4=>?_⟩
    rcases Int.lt_or_le x 1 with q|q
    ·have:x=0:=by omega
     subst this
     simp only[Int.toNat_zero] at hb
     rw[hb] at hb';cases hb'
     rw[hy] at h2
     exact absurd ⟨h3,h4⟩ (of_decide_eq_false h2)
    ·exact q
  ·refine hj _ ⟨hx.1,hx.2,λb' hb' _ _=>?_⟩
   have:=(List.getElem?_eq_some_iff.1 hb').1
   omega
theorem vu {m:Nat->Nat} (hm:g m) {s:ByS}:Ev (λi=>mb (m i) s) (λr=>r.length<=s.length) fM:=by
 unfold mb;refine Ev.iter hm (λ(x:Int)=>0<=x/\x<=3) (λx=>(3 - x).toNat) (by omega) ?_;intro x hx next hn;refine Ev.bk (λh=>?_) (λh=>Ev.ok (by simp));simp only[List.length_cons,List.length_nil] at h;refine Ev.el (by omega) (by simp;omega) (λa ha=>?_);have hal:a.length<=60:=by
  have hm:=List.mem_of_getElem? ha;simp only[List.mem_cons,List.mem_singleton,List.not_mem_nil,or_false] at hm;rcases hm with rfl|rfl|rfl<;>simp
 refine Ev.Y (yu (by simp) (by omega)) λl hl=>?_;refine Ev.iter hm (λ(z:Int)=>0<=z/\z<=l.length) (λz=>(l.length - z).toNat) (by omega) ?_;intro z hz next2 hn2
 (repeat' (with_reducible first|refine Ev.gA ?_|refine Ev.eA (λ_ _=>?_)|apply Ev.bK|apply Ev.bE|(first|apply Ev.bk|apply Ev.W|apply Ev.cr|apply Ev.bz|apply Ev.br)<;>intro _|(apply Ev.lK;try dsimp only)))
 ·refine Ev.Y sx λy hy=>?_;refine Ev.br (λh=>Ev.ok (hy h)) (λ_=>?_)
  (repeat' (with_reducible first|refine Ev.gA ?_|refine Ev.eA (λ_ _=>?_)|apply Ev.bK|apply Ev.bE|(first|apply Ev.bk|apply Ev.W|apply Ev.cr|apply Ev.bz|apply Ev.br)<;>intro _|(apply Ev.lK;try dsimp only)))
  exact hn2 _ (by (first|omega|(simp[J,mV,sX,maxLen]<;>omega))) (by (first|omega|(simp[J,mV,sX,maxLen]<;>omega)))
 exact hn _ (by (first|omega|(simp[J,mV,sX,maxLen]<;>omega))) (by (first|omega|(simp[J,mV,sX,maxLen]<;>omega)))
theorem zE {m:Nat->Nat} (hm:g m) {s:ByS} (hs:s.length<=65536):Ev (λi=>qq (m i) s) (λr=>0<=r/\r<=s.length) fM:=by
 unfold qq;refine Ev.jn (λv=>0<=v/\v<=s.length) (λv hv=>?_) (λj hj=>?_)
 ·refine Ev.W (λh=>?_) (λ_=>Ev.ok hv);refine Ev.eA (λb _=>?_);refine Ev.Y sF λy _=>?_
  (repeat' (with_reducible first|refine Ev.gA ?_|refine Ev.eA (λ_ _=>?_)|apply Ev.bK|apply Ev.bE|(first|apply Ev.bk|apply Ev.W|apply Ev.cr|apply Ev.bz|apply Ev.br)<;>intro _|(apply Ev.lK;try dsimp only)))
  all_goals exact Ev.ok (by omega)
 refine Ev.iter hm (λ(x:Int)=>0<=x/\x<=s.length) (λx=>(s.length - x).toNat) (by omega) ?_;intro x hx next hn;refine Ev.jn (λ_=>x<s.length) (λ_ h=>?_) (λj2 hj2=>?_)
 ·(repeat' (with_reducible first|refine Ev.gA ?_|refine Ev.eA (λ_ _=>?_)|apply Ev.bK|apply Ev.bE|(first|apply Ev.bk|apply Ev.W|apply Ev.cr|apply Ev.bz|apply Ev.br)<;>intro _|(apply Ev.lK;try dsimp only)))
  exact hn _ (by (first|omega|(simp[J,mV,sX,maxLen]<;>omega))) (by (first|omega|(simp[J,mV,sX,maxLen]<;>omega)))
 refine Ev.bk (λh=>?_) (λ_=>hj _ hx);refine Ev.eA (λb _=>?_);refine Ev.Y sF λy _=>?_;refine Ev.br (λ_=>hj2 _ h) (λ_=>?_)
 (repeat' (with_reducible first|refine Ev.gA ?_|refine Ev.eA (λ_ _=>?_)|apply Ev.bK|apply Ev.bE|(first|apply Ev.bk|apply Ev.W|apply Ev.cr|apply Ev.bz|apply Ev.br)<;>intro _|(apply Ev.lK;try dsimp only)))
 ·refine Ev.Y mn λy _=>?_
  (repeat' (with_reducible first|refine Ev.gA ?_|refine Ev.eA (λ_ _=>?_)|apply Ev.bK|apply Ev.bE|(first|apply Ev.bk|apply Ev.W|apply Ev.cr|apply Ev.bz|apply Ev.br)<;>intro _|(apply Ev.lK;try dsimp only)))
  all_goals first|exact hj2 _ h|exact hj _ hx
 all_goals first|exact hj2 _ h|exact hj _ hx
theorem wa {m:Nat->Nat} (hm:g m) {s:ByS} (hs:s.length<=65536):Ev (λi=>kS (m i) s) (λr=>r.1=0\/2<=r.1/\r.1<=s.length) fM:=by
 unfold kS;refine Ev.iter hm (λx=>1<=x.2/\x.2<=65540) (λx=>(65540 - x.2).toNat) (by simp) ?_;intro x hx next hn;refine Ev.bk (λh=>?_) (λ_=>Ev.ok (by simp));refine Ev.jn (λv=>x.2<=v.2/\v.2<=s.length+1) (λv hv=>?_) (λj hj=>?_)
 ·refine Ev.gA (hn _ (by dsimp only;omega) (by dsimp only;omega))
 (repeat' (with_reducible first|refine Ev.gA ?_|refine Ev.eA (λ_ _=>?_)|apply Ev.bK|apply Ev.bE|(first|apply Ev.bk|apply Ev.W|apply Ev.cr|apply Ev.bz|apply Ev.br)<;>intro _|(apply Ev.lK;try dsimp only)))
 all_goals first|exact Ev.ok (.inr ⟨by (first|omega|(simp[J,mV,sX,maxLen]<;>omega)),by (first|omega|(simp[J,mV,sX,maxLen]<;>omega))⟩)|exact hj _ (by dsimp only;omega)
theorem wR {m:Nat->Nat} (hm:g m) {s:ByS} (hs:s.length<=70000):Ev (λi=>gb (m i) s 16 8) (λr=>r.2=0\/r.2=1\/r.2=2) fM:=by
 unfold gb;refine Ev.br (λ_=>Ev.ok (.inr (.inr rfl))) (λ_=>?_);refine Ev.jn (λv=>v=(s,16)) (λv hv=>?_) (λj9 hj9=>?_)
 ·subst hv;dsimp only;refine Ev.jn (λv=>v=8) (λv hv=>?_) (λj12 hj12=>?_)
  ·subst hv;refine Ev.jn (λ_=>True) (λv _=>?_) (λj hj=>?_)
   ·refine Ev.gd (wrap_u64 _).1 ?_;have hl:(ofBytes s).length<=70000:=by simpa[ofBytes] using hs
    refine Ev.iter hm (λ(x:Bool×Int×Int)=>x.1=false/\0<=x.2.2/\x.2.2<=(ofBytes s).length) (λx=>((ofBytes s).length - x.2.2).toNat) (by simp) ?_;intro x hx next hn;refine Ev.bk (λhlt=>?_) (λ_=>Ev.br (λh=>by rw[hx.1] at h;cases h) (λ_=>Ev.ok (.inl rfl)));refine Ev.eA λc _=>?_;refine Ev.jn (λ_=>True) (λv _=>?_) (λj38 hj38=>?_)
    ·refine Ev.br (λ_=>Ev.ok (.inr (.inr rfl))) (λ_=>Ev.br (λ_=>Ev.ok (.inr (.inl rfl))) (λ_=>Ev.br (λ_=>Ev.ok (.inr (.inl rfl))) (λ_=>Ev.br (λ_=>Ev.ok (.inr (.inl rfl))) (λ_=>?_))));exact Ev.gA (hn _ ⟨hx.1,by dsimp only;omega,by dsimp only;omega⟩ (by dsimp only;omega))
    refine Ev.jn (λv=>v=false) (λv hv=>?_) (λj58 hj58=>?_)
    ·subst hv;refine Ev.bE ?_;refine Ev.jn (λ_=>True) (λv _=>?_) (λj64 hj64=>Ev.br (λ_=>hj64 _ trivial) (λ_=>hj64 _ trivial));refine Ev.br (λ_=>hj38 _ trivial) (λ_=>Ev.fh rfl (Ev.br (λ_=>Ev.fh rfl (Ev.br (λ_=>Ev.fh rfl (hj38 _ trivial)) (λ_=>Ev.ok (.inr (.inr rfl))))) (λ_=>Ev.ok (.inr (.inr rfl)))))
    exact Ev.br (λ_=>hj58 _ rfl) (λ_=>hj58 _ rfl)
   exact Ev.br (λh=>by simp at h) (λ_=>Ev.br (λ_=>hj _ trivial) (λh=>by simp at h))
  exact Ev.br (λh=>by simp at h) (λ_=>Ev.br (λh=>by simp at h) (λ_=>Ev.br (λh=>by simp at h) (λ_=>hj12 _ rfl)))
 refine Ev.jn (λv=>v=true) (λv hv=>?_) (λj99 hj99=>?_)
 ·subst hv;exact Ev.bK (hj9 _ rfl)
 exact Ev.br (λ_=>hj99 _ (by simp)) (λh=>by simp at h)
theorem Ba {m:Nat->Nat} (hm:g m) {s:ByS} (hs:s.length<=70000):Ev (λi=>iF (m i) s 16 8) (λ_=>True) fM:=by
 unfold iF;refine Ev.Y (wR hm hs) λy hy=>Ev.cr (λh=>?_) (λ_=>Ev.ok trivial);refine Ev.fh (a:=true) ?_ (Ev.ok trivial);unfold pg;simp only[U.gd];rw[if_pos ⟨by omega,by omega⟩]
theorem vw {m:Nat->Nat} (hm:g m) {s:ByS} (hs:s.length<=70000):Ev (λi=>km (m i) s) (λr=>0<=r.2/\r.2<=s.length) fM:=by
 unfold km;refine Ev.bk (λ_=>Ev.ok (by simp)) (λh=>?_);refine Ev.eA (λb _=>?_);refine Ev.jn (λ_=>True) (λv _=>?_) (λj hj=>?_)
 ·(repeat' (with_reducible first|refine Ev.gA ?_|refine Ev.eA (λ_ _=>?_)|apply Ev.bK|apply Ev.bE|(first|apply Ev.bk|apply Ev.W|apply Ev.cr|apply Ev.bz|apply Ev.br)<;>intro _|(apply Ev.lK;try dsimp only)))
  all_goals first|exact Ev.ok (by dsimp only;omega)|skip
  refine Ev.Y (Ba hm (by have:=tX (c:=s) (i:=2) (j:=4) (by omega) (by omega) (by omega);omega)) λy _=>?_
  (repeat' (with_reducible first|refine Ev.gA ?_|refine Ev.eA (λ_ _=>?_)|apply Ev.bK|apply Ev.bE|(first|apply Ev.bk|apply Ev.W|apply Ev.cr|apply Ev.bz|apply Ev.br)<;>intro _|(apply Ev.lK;try dsimp only)))
  all_goals exact Ev.ok (by dsimp only;omega)
 (repeat' (with_reducible first|refine Ev.gA ?_|refine Ev.eA (λ_ _=>?_)|apply Ev.bK|apply Ev.bE|(first|apply Ev.bk|apply Ev.W|apply Ev.cr|apply Ev.bz|apply Ev.br)<;>intro _|(apply Ev.lK;try dsimp only)))
 all_goals exact hj _ trivial
theorem rZ {m:Nat->Nat} (hm:g m) {s:ByS} :
  Ev (λi=>jX (m i) s) (λr=>r.1.length<=s.length/\∀ c:UInt8,s[1]?=some c->c.toNat≠34->r.2.Errno=0->1<=r.1.length) fM:=by
 unfold jX
 refine Ev.bk (λ_=>Ev.ok ⟨by simp,λ_ _ _ h=>by simp at h⟩) (λh=>?_)
 refine Ev.W (λ_=>Ev.ok ⟨by simp,λ_ _ _ h=>by simp at h⟩) (λh=>?_)
 refine Ev.eA (λb _=>?_)
 refine Ev.cr (λ_=>Ev.ok ⟨by simp,λ_ _ _ h=>by simp at h⟩) (λh=>?_)
 refine Ev.iter hm (λ(x:List Int×Int)=>1<=x.2/\x.2<=s.length/\x.1.length<=x.2/\(x.2=1\/1<=x.1.length)) (λx=>(s.length - x.2).toNat) (by simp;omega) ?_
 intro x hx next hn
 refine Ev.bk (λ_=>Ev.ok ⟨by simp,λ_ _ _ h=>by simp at h⟩) (λh=>?_)
 refine Ev.eA (λb hb=>?_)
 refine Ev.W (λh34=>?_) (λh34=>?_)
 ·refine Ev.gA (Ev.bk (λ_=>Ev.gA (Ev.ok ⟨by simp,λ_ _ _ h=>by simp at h⟩)) (λ_=>?_))
  refine Ev.ok ⟨by simp[lP];omega,λc hc hc2 _=>?_⟩
  rcases hx.2.2.2 with q|q
  ·rw[q] at hb
   simp only[Int.toNat_one] at hb
   rw[hb] at hc;cases hc
   omega
  ·simpa[lP] using q
 ·refine Ev.eA (λb2 _=>?_)
  refine Ev.W (λ_=>?_) (λ_=>?_)
  ·refine Ev.gA ?_
   have hl:=my (c:=s) (i:=x.2) (by omega) (by omega)
   refine Ev.Y (vw hm (by omega)) λy hy=>?_
   refine Ev.W (λ_=>Ev.ok ⟨by simp,λ_ _ _ h=>by simp at h⟩) (λh0=>?_)
   (repeat' (with_reducible first|refine Ev.gA ?_|refine Ev.eA (λ_ _=>?_)|apply Ev.bK|apply Ev.bE|(first|apply Ev.bk|apply Ev.W|apply Ev.cr|apply Ev.bz|apply Ev.br)<;>intro _|(apply Ev.lK;try dsimp only)))
   exact hn _ (by simp;omega) (by (first|omega|(simp[J,mV,sX,maxLen]<;>omega)))
  ·refine Ev.jn (λ_=>True) (λv _=>?_) (λj hj=>?_)
   ·refine Ev.br (λ_=>Ev.ok ⟨by simp,λ_ _ _ h=>by simp at h⟩) (λ_=>?_)
    (repeat' (with_reducible first|refine Ev.gA ?_|refine Ev.eA (λ_ _=>?_)|apply Ev.bK|apply Ev.bE|(first|apply Ev.bk|apply Ev.W|apply Ev.cr|apply Ev.bz|apply Ev.br)<;>intro _|(apply Ev.lK;try dsimp only)))
    exact hn _ (by simp;omega) (by (first|omega|(simp[J,mV,sX,maxLen]<;>omega)))
   ·(repeat' (with_reducible first|refine Ev.gA ?_|refine Ev.eA (λ_ _=>?_)|apply Ev.bK|apply Ev.bE|(first|apply Ev.bk|apply Ev.W|apply Ev.cr|apply Ev.bz|apply Ev.br)<;>intro _|(apply Ev.lK;try dsimp only)))
    all_goals exact hj _ trivial
end Go.Abs
end
section
namespace Go.Abs
open U
theorem zF {m:Nat->Nat} (hm:g m) {s:ByS} (hs:s.length<=65536):Ev (λi=>mc (m i) s) (λr=>r.2=true->r.1.length+2<=s.length) fM:=by
 unfold mc;refine Ev.iter hm (λ(x:Int×Int)=>0<=x.2/\x.2<=s.length/\x.1<=x.2/\ -x.2<=x.1) (λx=>(s.length - x.2).toNat) (by simp) ?_;intro x hx next hn
 (repeat' (with_reducible first|refine Ev.gA ?_|refine Ev.eA (λ_ _=>?_)|apply Ev.bK|apply Ev.bE|(first|apply Ev.bk|apply Ev.W|apply Ev.cr|apply Ev.bz|apply Ev.br)<;>intro _|(apply Ev.lK;try dsimp only)))
 ·exact hn _ (by dsimp only;omega) (by dsimp only;omega)
 ·have:=tX (c:=s) (i:=1) (j:=x.2) (by omega) (by omega) (by omega);exact Ev.ok λ_=>by dsimp only;omega
 ·exact hn _ (by dsimp only;omega) (by dsimp only;omega)
 ·exact hn _ (by dsimp only;omega) (by dsimp only;omega)
 exact Ev.ok (by simp)
theorem wT {m:Nat->Nat} (hm:g m) {s:ByS} (hs:s.length<=65536) (h0:s[0]?=some 92):Ev (λi=>kM (m i) s) (λr=>r.2=0\/2<=r.2/\r.2<=s.length) fM:=by
 unfold kM;refine Ev.jn (λv=>2<=v) (λv hv=>?_) (λj hj=>?_)
 ·refine Ev.bk (λ_=>Ev.ok (.inl rfl)) (λh=>?_);refine Ev.gA ?_;have hl:=Ai (c:=s) (j:=v) (by omega) (by omega);refine Ev.gA (Ev.gA ?_);refine Ev.Y (rZ hm) λy hy=>?_;refine Ev.cr (λ_=>Ev.ok (.inl rfl)) (λhe=>?_);have h1:([34]++ob s v++[34])[1]?=some (92:UInt8):=by
   cases s with
   | nil=>simp at h0
   | cons a s=>
    simp at h0;subst h0
    have:v.toNat=(v.toNat - 1)+1:=by omega
    simp[ob];rw[this];simp
  have:=hy.2 _ h1 (by decide) he;refine Ev.eA λb _=>Ev.ok (.inr ⟨hv,by dsimp only;omega⟩)
 refine Ev.Y sx λy _=>?_
 (repeat' (with_reducible first|refine Ev.gA ?_|refine Ev.eA (λ_ _=>?_)|apply Ev.bK|apply Ev.bE|(first|apply Ev.bk|apply Ev.W|apply Ev.cr|apply Ev.bz|apply Ev.br)<;>intro _|(apply Ev.lK;try dsimp only)))
 all_goals exact hj _ (by omega)
def Du (n:Nat) (x:aR):Prop:=0<=x.Pos/\x.Pos<=n/\(x.Code=true->x.Pos+x.Text.length<n)
theorem rb {t:List Int} {out:List aR} {f:Int} (ho:out.length<=70000) :
  Ev (λ_=>kn t out f) (λr=>r.1=[]/\r.2.2=f/\((t=[]/\r.2.1=out)\/(1<=t.length/\∃ x:aR,r.2.1=out++[x]/\x.Code=false/\x.Pos=f))) fM:=by
 unfold kn
 (repeat' (with_reducible first|refine Ev.gA ?_|refine Ev.eA (λ_ _=>?_)|apply Ev.bK|apply Ev.bE|(first|apply Ev.bk|apply Ev.W|apply Ev.cr|apply Ev.bz|apply Ev.br)<;>intro _|(apply Ev.lK;try dsimp only)))
 ·exact Ev.ok ⟨rfl,rfl,.inr ⟨by omega,_,rfl,rfl,rfl⟩⟩
 ·exact Ev.ok ⟨rfl,rfl,.inl ⟨List.eq_nil_of_length_eq_zero (by omega),rfl⟩⟩
theorem sG {m:Nat->Nat} (hm:g m) {s:ByS} (hs:s.length<=65536):Ev (λi=>gm (m i) s) (λr=>r.1.length<=s.length/\∀ x,x∈r.1->Du s.length x) fM:=by
 unfold gm;refine Ev.iter hm (λ(x:List aR×List Int×Int×Int)=>0<=x.2.2.2/\x.2.2.2<=s.length/\0<=x.2.2.1/\x.2.2.1<=s.length/\(x.1.length:Int)+min 1 x.2.1.length<=x.2.2.2/\(x.2.1.length:Int)<=x.2.2.2/\∀ p,p∈x.1->Du s.length p)
  (λx=>(s.length - x.2.2.2).toNat) (by simp) ?_
 rintro ⟨out,t,f,i⟩ ⟨h1,h2,h3,h4,h5,h6,h7⟩ next hn;dsimp only at h1 h2 h3 h4 h5 h6 h7 hn ⊢;refine Ev.bk (λhi=>?_) (λhi=>?_)
 ·refine Ev.jn (λv=>0<=v/\v<=s.length) (λv hv=>?_) (λj hj=>?_)
  ·refine Ev.gA (Ev.Y sx λy hy=>?_);refine Ev.br (λhp=>?_) (λ_=>?_)
   ·refine Ev.gA (Ev.gA ?_);have hl:=my (c:=s) (i:=i+1) (by omega) (by omega);refine Ev.Y (zF hm (by omega)) λc hc=>?_;refine Ev.bz (λ_=>Ev.ok ⟨by simp,λ_ h=>by cases h⟩) (λhct=>?_);have hc2:=hc hct;refine Ev.Y (rb (by omega)) λr hr=>?_;obtain ⟨r1,r2,r3⟩:=hr;have hr4:(r.2.1.length:Int)<=i/\∀ p,p∈r.2.1->Du s.length p:=by
     rcases r3 with ⟨a,b⟩|⟨a,x,b,c1,c2⟩
     ·rw[b];subst a;exact ⟨by simp at h5;omega,h7⟩
     rw[b];refine ⟨by simp;omega,λp hp=>?_⟩;rcases List.mem_append.1 hp with q|q
     ·exact h7 p q
     simp at q;subst q;exact ⟨by omega,by omega,λq=>by rw[c1] at q;cases q⟩
    (repeat' (with_reducible first|refine Ev.gA ?_|refine Ev.eA (λ_ _=>?_)|apply Ev.bK|apply Ev.bE|(first|apply Ev.bk|apply Ev.W|apply Ev.cr|apply Ev.bz|apply Ev.br)<;>intro _|(apply Ev.lK;try dsimp only)))
    refine hn _ ⟨by dsimp only;omega,by dsimp only;omega,by dsimp only;omega,by dsimp only;omega,by rw[r1];simp;omega,by rw[r1];simp;omega,λp hp=>?_⟩ (by dsimp only;omega);rcases List.mem_append.1 hp with q|q
    ·exact hr4.2 p q
    simp at q;subst q;exact ⟨by dsimp only;omega,by dsimp only;omega,λ_=>by dsimp only;omega⟩
   refine Ev.eA (λb hb=>?_);refine Ev.W (λh92=>?_) (λ_=>?_)
   ·refine Ev.gA ?_;have hl:=my (c:=s) (i:=i) (by omega) (by omega);have h0:(gB s i)[0]?=some (92:UInt8):=by
     simp only[gB,List.getElem?_drop,Nat.add_zero,hb];congr 1;apply UInt8.toNat_inj.1;show b.toNat=92;omega
    refine Ev.Y (wT hm (by omega) h0) λe he=>?_;refine Ev.W (λ_=>Ev.ok ⟨by simp,λ_ h=>by cases h⟩) (λhne=>?_)
    (repeat' (with_reducible first|refine Ev.gA ?_|refine Ev.eA (λ_ _=>?_)|apply Ev.bK|apply Ev.bE|(first|apply Ev.bk|apply Ev.W|apply Ev.cr|apply Ev.bz|apply Ev.br)<;>intro _|(apply Ev.lK;try dsimp only)))
    exact hn _ ⟨by dsimp only;omega,by dsimp only;omega,hv.1,hv.2,by simp;omega,by simp;omega,h7⟩ (by dsimp only;omega)
   refine Ev.jn (λ_=>True) (λw _=>?_) (λj2 hj2=>?_)
   ·refine Ev.br (λ_=>Ev.ok ⟨by simp,λ_ h=>by cases h⟩) (λ_=>?_)
    (repeat' (with_reducible first|refine Ev.gA ?_|refine Ev.eA (λ_ _=>?_)|apply Ev.bK|apply Ev.bE|(first|apply Ev.bk|apply Ev.W|apply Ev.cr|apply Ev.bz|apply Ev.br)<;>intro _|(apply Ev.lK;try dsimp only)))
    exact hn _ ⟨by dsimp only;omega,by dsimp only;omega,hv.1,hv.2,by simp;omega,by simp;omega,h7⟩ (by dsimp only;omega)
   (repeat' (with_reducible first|refine Ev.gA ?_|refine Ev.eA (λ_ _=>?_)|apply Ev.bK|apply Ev.bE|(first|apply Ev.bk|apply Ev.W|apply Ev.cr|apply Ev.bz|apply Ev.br)<;>intro _|(apply Ev.lK;try dsimp only)))
   all_goals exact hj2 _ trivial
  (repeat' (with_reducible first|refine Ev.gA ?_|refine Ev.eA (λ_ _=>?_)|apply Ev.bK|apply Ev.bE|(first|apply Ev.bk|apply Ev.W|apply Ev.cr|apply Ev.bz|apply Ev.br)<;>intro _|(apply Ev.lK;try dsimp only)))
  all_goals exact hj _ (by omega)
 refine Ev.Y (rb (by omega)) λr hr=>?_;obtain ⟨r1,r2,r3⟩:=hr;refine Ev.ok ?_;rcases r3 with ⟨a,b⟩|⟨a,x,b,c1,c2⟩
 ·dsimp only;rw[b];exact ⟨by omega,h7⟩
 dsimp only;rw[b];refine ⟨by simp;omega,λp hp=>?_⟩;rcases List.mem_append.1 hp with q|q
 ·exact h7 p q
 simp at q;subst q;exact ⟨by omega,by omega,λq=>by rw[c1] at q;cases q⟩
structure Me (a:Int) (t:aY):Prop where
 p0:0<=t.Pos
 pe:t.Pos<t.End
 e:t.End<=a
 k:t.Kind≠0
 ip:t.Kind=4->(t.Text.length:Int)+2<=t.End - t.Pos
 tl:t.Text.length<=65536
structure wG (a:Int) (l:List aY):Prop where
 len:(l.length:Int)<=a
 ok:∀ t,t∈l->Me a t
 sorted:l.Pairwise λt u=>t.End<=u.Pos
theorem wG.snoc {a:Int} {l:List aY} (h:wG a l) {t:aY} (h1:t.Pos=a) (h2:a<t.End) (h0:0<=a) (hk:t.Kind≠0) (hi:t.Kind=4->(t.Text.length:Int)+2<=t.End - t.Pos) (hl:t.Text.length<=65536):wG t.End (l++[t]):=by
 refine ⟨by have:=h.len;simp;omega,λu hu=>?_,?_⟩
 ·rcases List.mem_append.1 hu with q|q
  ·obtain ⟨a1,a2,a3,a4,a5,a6⟩:=h.ok u q;exact ⟨a1,a2,by omega,a4,a5,a6⟩
  simp at q;subst q;exact ⟨by omega,by omega,by omega,hk,hi,hl⟩
 refine List.pairwise_append.2 ⟨h.sorted,by simp,λu hu v hv=>?_⟩;simp at hv;subst hv;have:=(h.ok u hu).e;omega
theorem wG.mono {a b:Int} {l:List aY} (h:wG a l) (hab:a<=b):wG b l:=
 ⟨by have:=h.len;omega,λt ht=>let q:=h.ok t ht;⟨q.p0,q.pe,by have:=q.e;omega,q.k,q.ip,q.tl⟩,h.sorted⟩
structure CL (s:ByS) (x:bN):Prop where
 text:x.text=s
 yL:0<=x.at_
 Am:x.at_<=s.length
 out:wG x.at_ x.out
theorem o4 {k n:Int} {t:ByS} {x:bN} (h0:0<=x.at_) (h1:x.at_<=70000) (hn:0<=n) (hn2:n<=70000) (ho:x.out.length<=70000) (ht:t.length<=70000) :
  Ev (λ_=>du k t n x) (λr=>r.text=x.text/\r.at_=x.at_+n/\r.out=x.out++[aY.mk k t x.at_ (x.at_+n)]) fM:=by
 unfold du
 refine Ev.gA (Ev.gA (Ev.gA (Ev.W (λ_=>Ev.ok ⟨rfl,rfl,rfl⟩) (λ_=>?_))))
 refine Ev.jn (λ_=>True) (λv _=>?_) (λj hj=>?_)
 ·refine Ev.br (λ_=>Ev.ok ⟨rfl,rfl,rfl⟩) (λ_=>?_)
  refine Ev.W (λ_=>?_) (λ_=>Ev.ok ⟨rfl,rfl,rfl⟩)
  (repeat' (with_reducible first|refine Ev.gA ?_|refine Ev.eA (λ_ _=>?_)|apply Ev.bK|apply Ev.bE|(first|apply Ev.bk|apply Ev.W|apply Ev.cr|apply Ev.bz|apply Ev.br)<;>intro _|(apply Ev.lK;try dsimp only)))
  exact Ev.Y (ra (by simp)) λy _=>Ev.ok ⟨rfl,rfl,rfl⟩
 ·(repeat' (with_reducible first|refine Ev.gA ?_|refine Ev.eA (λ_ _=>?_)|apply Ev.bK|apply Ev.bE|(first|apply Ev.bk|apply Ev.W|apply Ev.cr|apply Ev.bz|apply Ev.br)<;>intro _|(apply Ev.lK;try dsimp only)))
  all_goals exact hj _ trivial
theorem CL.add {s:ByS} (hs:s.length<=65536) {x:bN} (h:CL s x) {k n:Int} {t:ByS} (hn:1<=n) (hn2:x.at_+n<=s.length) (ht:t.length<=65536) (hk:k≠0) (hi:k=4->(t.length:Int)+2<=n) :
  Ev (λ_=>du k t n x) (λr=>CL s r/\x.at_<r.at_) fM:=by
 have hl:=h.out.len
 have h0:=h.yL
 have h1:=h.Am
 refine (o4 (k:=k) (t:=t) h0 (by omega) (by omega) (by omega) (by omega) (by omega)).Ag λr hr=>?_
 refine ⟨⟨by rw[hr.1];exact h.text,by omega,by omega,?_⟩,by omega⟩
 rw[hr.2.1,hr.2.2]
 have:=h.out.snoc (t:=aY.mk k t x.at_ (x.at_+n)) rfl (by dsimp only;omega) h0 hk (λq=>by have:=hi q;dsimp only;omega) ht
 exact this
theorem tM {m:Nat->Nat} (hm:g m) {s:ByS} (hs:s.length<=65536) {x:bN} (h:CL s x) :
  Ev (λi=>iG (m i) x) (λr=>CL s r.2/\(r.1=true->x.at_<r.2.at_)) fM:=by
 have hl:=h.out.len
 have h0:=h.yL
 have h1:=h.Am
 have ht:=h.text
 unfold iG kp
 simp only[ht]
 refine Ev.gA ?_
 have hq:=my (c:=s) (i:=x.at_) (by omega) (by omega)
 refine Ev.Y (wa hm (by omega)) λy hy=>?_
 refine Ev.W (λ_=>Ev.ok ⟨h,by simp⟩) (λhne=>?_)
 refine Ev.gA (Ev.gA ?_)
 have hq2:=tX (c:=s) (i:=x.at_) (j:=x.at_+y.1) (by omega) (by omega) (by omega)
 refine Ev.br (λ_=>?_) (λ_=>?_)
 ·refine Ev.gA (Ev.gA ?_)
  have hq3:=tX (c:=sub s x.at_ (x.at_+y.1)) (i:=1) (j:=y.1 - 1) (by omega) (by omega) (by omega)
  refine Ev.Y (sG hm (by omega)) λz _=>?_
  refine Ev.cr (λ_=>Ev.ok ⟨h,by simp⟩) (λ_=>?_)
  refine Ev.gA (Ev.gA ?_)
  refine Ev.Y (h.add hs (by omega) (by omega) (by omega) (by decide) (λ_=>by omega)) λr hr=>Ev.ok ⟨hr.1,λ_=>hr.2⟩
 ·refine Ev.Y (rZ hm) λz hz=>?_
  refine Ev.cr (λ_=>Ev.ok ⟨h,by simp⟩) (λ_=>?_)
  refine Ev.Y (h.add hs (by omega) (by omega) (by omega) (by decide) (λq=>by simp at q)) λr hr=>Ev.ok ⟨hr.1,λ_=>hr.2⟩
theorem EF:∀ (s p:ByS) (i:Nat),n7 s p=some i->i<=s.length
 | [],p,i,h=>by
  unfold n7 at h;split at h
  ·cases h;simp
  cases h
 | b::l,p,i,h=>by
  unfold n7 at h;split at h
  ·cases h;simp
  cases q:n7 l p with
  | none=>rw[q] at h;cases h
  | some k=>rw[q] at h;cases h;have:=EF l p k q;simp;omega
theorem Fl {s p:ByS} (h:(ob s p.length==p)=true):∃ r,s=p++r:=by
 have:=beq_iff_eq.1 h;simp only[ob,Int.toNat_natCast] at this;exact ⟨s.drop p.length,by conv=>lhs;rw[<- List.take_append_drop p.length s,this]⟩
theorem zI {s p:ByS}:Ev (λ_=>strings_HasPrefix s p) (λr=>r=true->∃ q,s=p++q) fM:=by
 unfold strings_HasPrefix stringslite_HasPrefix;refine Ev.Y (Q:=λr=>r=true->∃ q,s=p++q) ?_ λ_ h=>Ev.ok h
 (repeat' (with_reducible first|refine Ev.gA ?_|refine Ev.eA (λ_ _=>?_)|apply Ev.bK|apply Ev.bE|(first|apply Ev.bk|apply Ev.W|apply Ev.cr|apply Ev.bz|apply Ev.br)<;>intro _|(apply Ev.lK;try dsimp only)))
 ·exact Ev.ok (λh=>Fl h)
 exact Ev.ok (by simp)
theorem sW {m:Nat->Nat} (hm:g m) {s:ByS} (hs:s.length<=65536) {x:bN} (h:CL s x) (hlt:x.at_<s.length) :
  Ev (λi=>hU (m i) x) (λr=>CL s r.2/\(r.1=true->x.at_<r.2.at_)) fM:=by
 have hl:=h.out.len
 have h0:=h.yL
 have h1:=h.Am
 have ht:=h.text
 unfold hU kp
 simp only[ht]
 refine Ev.gA ?_
 have hq:=my (c:=s) (i:=x.at_) (by omega) (by omega)
 refine Ev.Y zI λy hy=>?_
 refine Ev.br (λhp=>?_) (λ_=>?_)
 ·obtain ⟨r,hr⟩:=hy hp
  rw[hr] at hq ⊢
  refine Ev.fQ (Q:=λc=>2<=c.1.length/\c.1.length<=([47,47]++r:ByS).length) ?_ λc hc=>?_
  ·unfold strings_Cut
   refine Ev.gA (Ev.ok ?_)
   split
   ·rename_i i hi
    have:=EF _ _ _ hi
    refine ⟨?_,by simp;omega⟩
    have h2:2<=i:=by
     cases q:n7 r [10] with
     | none=>simp[n7,q] at hi
     | some k=>simp[n7,q] at hi;omega
    simp at this ⊢;omega
   ·simp
  ·refine Ev.gA ?_
   have:=my (c:=c.1) (i:=2) (by omega) (by omega)
   refine Ev.Y (h.add hs (by omega) (by omega) (by omega) (by decide) (λq=>by simp at q)) λr hr=>Ev.ok ⟨hr.1,λ_=>hr.2⟩
 ·refine Ev.Y (zE hm (by omega)) λy hy=>?_
  refine Ev.bk (λhp=>?_) (λ_=>?_)
  ·refine Ev.gA ?_
   have:=xO (c:=gB s x.at_) (j:=y)
   refine Ev.Y (h.add hs (by omega) (by omega) (by omega) (by decide) (λq=>by simp at q)) λr hr=>Ev.ok ⟨hr.1,λ_=>hr.2⟩
  ·refine Ev.eA (λb hb=>?_)
   refine Ev.Y mn λd hd=>?_
   refine Ev.br (λhdt=>?_) (λ_=>?_)
   ·rw[hd] at hdt
    have hdd:=of_decide_eq_true hdt
    refine Ev.Y (wQ hm (by omega)) λy hy=>?_
    have hy1:=hy.2.2 b hb hdd.1 hdd.2
    refine Ev.gA ?_
    have:=xO (c:=gB s x.at_) (j:=y)
    refine Ev.Y (tL hm) λz _=>?_
    refine Ev.cr (λ_=>Ev.ok ⟨h,by simp⟩) (λ_=>?_)
    refine Ev.gA ?_
    refine Ev.Y (h.add hs (by omega) (by omega) (by omega) (by decide) (λq=>by simp at q)) λr hr=>Ev.ok ⟨hr.1,λ_=>hr.2⟩
   ·refine Ev.W (λ_=>?_) (λ_=>?_)
    ·exact Ev.Y (tM hm hs h) λr hr=>Ev.ok hr
    ·refine Ev.Y (vu hm) λy hy=>?_
     refine Ev.W (λ_=>Ev.ok ⟨h,by simp⟩) (λhne=>?_)
     have:1<=y.length:=by
      cases y with
      | nil=>exact absurd rfl hne
      | cons=>simp
     refine Ev.Y (h.add hs (by omega) (by omega) (by omega) (by decide) (λq=>by simp at q)) λr hr=>Ev.ok ⟨hr.1,λ_=>hr.2⟩
structure Mf (s:ByS) (F:List aY):Prop where
 M6:s.length<=65536
 is:∃ l,F=l++[aY.mk 0 [] s.length s.length]/\wG s.length l
theorem rv {m:Nat->Nat} (hm:g m) {s:ByS}:Ev (λi=>me (m i) s) (λr=>0<=r.2.At/\r.2.At<=s.length/\(r.2.Errno=0->r.2.At=0/\Mf s r.1)) fM:=by
 unfold me;refine Ev.bk (λ_=>Ev.ok ⟨by simp,by simp,by simp⟩) (λh=>?_);refine Ev.iter hm (λ(x:bN)=>CL s x) (λx=>(s.length - x.at_).toNat) ⟨rfl,by simp,by simp,by simp,by simp,by simp⟩ ?_;intro x hx next hn;have hl:=hx.out.len;have h0:=hx.yL;have h1:=hx.Am;refine Ev.bk (λhlt=>?_) (λhge=>?_)
 ·refine Ev.eA (λb hb=>?_);refine Ev.jn (λ_=>True) (λv _=>?_) (λj hj=>?_)
  ·refine Ev.gA (hn _ ⟨hx.text,by dsimp only;omega,by dsimp only;omega,hx.out.mono (by dsimp only;omega)⟩ (by dsimp only;omega))
  refine Ev.W (λ_=>?_) (λ_=>?_)
  ·refine Ev.br (λ_=>?_) (λ_=>hj _ trivial);refine Ev.Y (hx.add (by omega) (by omega) (by omega) (by simp) (by decide) (λq=>by simp at q)) λr hr=>?_;exact hn _ ⟨hr.1.text,hr.1.yL,hr.1.Am,hr.1.out⟩ (by have:=hr.1.Am;dsimp only;omega)
  (repeat' (with_reducible first|refine Ev.gA ?_|refine Ev.eA (λ_ _=>?_)|apply Ev.bK|apply Ev.bE|(first|apply Ev.bk|apply Ev.W|apply Ev.cr|apply Ev.bz|apply Ev.br)<;>intro _|(apply Ev.lK;try dsimp only)))
  all_goals first|exact hj _ trivial|skip
  refine Ev.Y (sW hm (by omega) hx hlt) λr hr=>?_;refine Ev.bz (λ_=>Ev.ok ⟨hr.1.yL,hr.1.Am,by simp⟩) (λhb=>hn _ hr.1 (by have:=hr.1.Am;have:=hr.2 hb;omega))
 have:x.at_=s.length:=by omega
 refine Ev.Y (o4 (by omega) (by omega) (by omega) (by omega) (by omega) (by simp)) λr hr=>?_;refine Ev.ok ⟨by simp,by simp,λ_=>⟨rfl,by omega,x.out,?_,this▸hx.out⟩⟩;rw[hr.2.2,this];simp
end Go.Abs
end
