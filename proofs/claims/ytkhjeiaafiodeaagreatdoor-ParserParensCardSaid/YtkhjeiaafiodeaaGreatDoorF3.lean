/- PROVED: lemmas of a proof that ParserParens returns true. CONDITIONS: as each states. -/
import Derived.Test.YtkhjeiaafiodeaaGreatDoorF2
section
namespace Go.Abs
open Go.Proofs D
structure bC where
 ct:R→D (u×R)
 fG:R→D (u×R)
 cH:R→D (u×R)
 cn:(List u)→R→D ((List u)×R)
 fm:R→D (u×R)
 fo:R→D (u×R)
def fY (n:Nat) (T:bC) (p0:R):D (u×R):=
 D.bind (T.cH p0) fun y3=>iter (fun next6 (v5:R×(List u))=>D.bind (cA v5.1) fun y10=>br (y10.1==124) (gd (bK (y10.2.at_+1)) (D.bind (T.cH (R.mk y10.2.text (y10.2.at_+1))) fun y14=>gd (cV 64 (List.length v5.2) (List.length [y14.1])) (next6 (y14.2,v5.2++[y14.1])))) (D.bind (kV 4 v5.2) fun y17=>.ok (y17,y10.2))) n (y3.2,[y3.1])
def iX (n:Nat) (T:bC) (p0:R):D (u×R):=
 D.bind (cA p0) fun y3=>jn (fun (v4:R)=>gd (bK (v4.at_+1)) (D.bind (nF n y3.1) fun y10=>.ok (y10,(R.mk v4.text (v4.at_+1))))) fun j5=>br (decide (y3.2.at_≥(List.length y3.2.text:Int))) (D.bind (dt (List.length y3.2.text:Int) y3.2) fun y13=>j5 (y13)) (br (y3.1==40) (D.bind (T.fm y3.2) fun y17=>.ok (y17.1,y17.2)) (br (y3.1==91) (D.bind (kt n y3.2) fun y21=>.ok (y21.1,y21.2)) (br (y3.1==46) (gd (bK (y3.2.at_+1)) (D.bind (gk n 0 255) fun y27=>.ok ((u.mk 2 y27.x0 y27.x1 y27.x2 y27.x3 []),(R.mk y3.2.text (y3.2.at_+1))))) (br (y3.1==92) (gd (bK (y3.2.at_+1)) (br (decide ((y3.2.at_+1)<(List.length y3.2.text:Int))) (gd (bK (y3.2.at_+1)) (el y3.2.text (y3.2.at_+1) fun b36=>D.bind (ow n (b36.toNat:Int)) fun y40=>br y40.2 (gd (bK (y3.2.at_+2)) (.ok ((u.mk 2 y40.1.x0 y40.1.x1 y40.1.x2 y40.1.x3 []),(R.mk y3.2.text (y3.2.at_+2))))) (D.bind (fU n 0 y3.2) fun y47=>D.bind (nF n y47.1) fun y48=>.ok (y48,y47.2)))) (D.bind (fU n 0 y3.2) fun y50=>D.bind (nF n y50.1) fun y51=>.ok (y51,y50.2)))) (jn (fun (v52:Bool)=>br v52 (D.bind (dt y3.2.at_ y3.2) fun y56=>j5 (y56)) (j5 (y3.2))) fun j53=>br (decide (y3.1<32)) (j53 (true)) (br (decide (y3.1>126)) (j53 (true)) (D.bind (strings_IndexByte ([40,41,91,93,123,125,124,42,43,63,46,92]:List UInt8) y3.1) fun y59=>j53 ((decide (y59≥0))))))))))
def fO (n:Nat) (T:bC) (p0:R):D (u×R):=
 D.bind (T.cn [] p0) fun y5=>iter (fun next8 (v7:R×(List u))=>br (decide (v7.1.at_<(List.length v7.1.text:Int))) (D.bind (cA v7.1) fun y13=>br (y13.1 !=124) (D.bind (cA y13.2) fun y15=>br (y15.1 !=41) (D.bind (T.cn v7.2 y15.2) fun y17=>next8 (y17.2,y17.1)) (D.bind (kV 3 v7.2) fun y19=>.ok (y19,y15.2))) (D.bind (kV 3 v7.2) fun y21=>.ok (y21,y13.2))) (D.bind (kV 3 v7.2) fun y23=>.ok (y23,v7.1))) n (y5.2,y5.1)
def fA (_:Nat) (T:bC) (p0:(List u)) (p1:R):D ((List u)×R):=
 D.bind (T.fo p1) fun y1=>gd (cV 64 (List.length p0) (List.length [(u.mk 0 0 0 0 0 [])])) (.ok (p0++[y1.1],y1.2))
def iJ (_:Nat) (T:bC) (p0:R):D (u×R):=
 gd (bK (p0.at_+1)) (D.bind (cA (R.mk p0.text (p0.at_+1))) fun y6=>br (y6.1==41) (gd (bK (y6.2.at_+1)) (.ok ((u.mk 1 0 0 0 0 []),(R.mk y6.2.text (y6.2.at_+1))))) (D.bind (T.ct y6.2) fun y12=>jn (fun (v13:R)=>gd (bK (v13.at_+1)) (.ok (y12.1,(R.mk v13.text (v13.at_+1))))) fun j14=>D.bind (cA y12.2) fun y20=>br (y20.1 !=41) (D.bind (dt y20.2.at_ y20.2) fun y22=>j14 (y22)) (j14 (y20.2))))
def iK (n:Nat) (T:bC) (p0:R):D (u×R):=
 D.bind (T.fG p0) fun y3=>iter (fun next5 (v4:R×u)=>jn (fun (v8:R×u)=>gd (bK (v8.1.at_+1)) (next5 ((R.mk v8.1.text (v8.1.at_+1)),v8.2))) fun j9=>D.bind (cA v4.1) fun y13=>br (y13.1==42) (j9 (y13.2,(u.mk 5 0 0 0 0 [v4.2]))) (br (y13.1==43) (j9 (y13.2,(u.mk 3 0 0 0 0 [v4.2,(u.mk 5 0 0 0 0 [v4.2])]))) (br (y13.1==63) (j9 (y13.2,(u.mk 4 0 0 0 0 [v4.2,(u.mk 1 0 0 0 0 [])]))) (.ok (v4.2,y13.2))))) n (y3.2,y3.1)
def aT:Nat→bC
 | 0=>⟨fun _=>.stuck,fun _=>.stuck,fun _=>.stuck,fun _ _=>.stuck,fun _=>.stuck,fun _=>.stuck⟩
 | n+1=>⟨fY n (aT n),iX n (aT n),fO n (aT n),fA n (aT n),iJ n (aT n),iK n (aT n)⟩
def ct (n:Nat) (p0:R):D (u×R):=(aT n).ct p0
def fG (n:Nat) (p0:R):D (u×R):=(aT n).fG p0
def cH (n:Nat) (p0:R):D (u×R):=(aT n).cH p0
def cn (n:Nat) (p0:(List u)) (p1:R):D ((List u)×R):=(aT n).cn p0 p1
def fm (n:Nat) (p0:R):D (u×R):=(aT n).fm p0
def fo (n:Nat) (p0:R):D (u×R):=(aT n).fo p0
structure c6 (T:bC):Prop where
 ct:∀ (p0:R),CT Tryz.prog 206 [.ptr 0 0] [.box (aJ p0)] (T.ct p0) (fun x=>.agg (eH x.1)) (fun x=>[.box (aJ x.2)])
 fG:∀ (p0:R),CT Tryz.prog 275 [.ptr 0 0] [.box (aJ p0)] (T.fG p0) (fun x=>.agg (eH x.1)) (fun x=>[.box (aJ x.2)])
 cH:∀ (p0:R),CT Tryz.prog 238 [.ptr 0 0] [.box (aJ p0)] (T.cH p0) (fun x=>.agg (eH x.1)) (fun x=>[.box (aJ x.2)])
 cn:∀ (p0:(List u)) (p1:R),CT Tryz.prog 262 [.ptr 0 0,.ptr 1 0] [.box [.arr 2 (List.length p0)],.box [.ptr 3 0],.arr 137 6 (u.Cs p0),.box (aJ p1)] (T.cn p0 p1) (fun _=>.fX []) (fun x=>[.box [.arr 2 (List.length x.1)],.box [.ptr 3 0],.arr 137 6 (u.Cs x.1),.box (aJ x.2)])
 fm:∀ (p0:R),CT Tryz.prog 290 [.ptr 0 0] [.box (aJ p0)] (T.fm p0) (fun x=>.agg (eH x.1)) (fun x=>[.box (aJ x.2)])
 fo:∀ (p0:R),CT Tryz.prog 263 [.ptr 0 0] [.box (aJ p0)] (T.fo p0) (fun x=>.agg (eH x.1)) (fun x=>[.box (aJ x.2)])
theorem mQ (n:Nat) (T:bC) (hT:c6 T) (p0:R):CT Tryz.prog 206 [.ptr 0 0] [.box (aJ p0)] (fY n T p0) (fun x=>.agg (eH x.1)) (fun x=>[.box (aJ x.2)]):=by
 refine zC Tryz.func206 O fun r hp h hr E hE=>B fun _ hK1=>A (aK 102 (hE _ O) ⟨O,O,O,O⟩ O ?_)
 refine zQ hK1 (B fun _ hK2=>A (zm O (zk hp hr h [0] Tryz.call238 (hT.cH p0) O (fun _=>O) fun y3 h=>FU 106 [y3.1] u.y u.b7 (hE _ O) ⟨O,O,O,O⟩ ⟨O,O,O⟩ O ?_)))
 refine za O (aX (kz 106 10003 [(0,.ptr 0 0),(2,.ptr 102 0),(3,.arr 10003 (List.length [y3.1]))] [(0,.box (aJ y3.2)),(102,.box [I 0,Sc (.int .u64 0),Sc (.int .u64 0),Sc (.int .u64 0),Sc (.int .u64 0),Sc (.slice none 0 0)])] (hE _ O) O O ⟨O,O⟩ ⟨⟨_,O,O,O⟩,⟨_,O,O,O⟩,⟨_,O,O,O⟩,trivial⟩ ⟨⟨_,O,O,O,O,O⟩,⟨_,O,O,O,O,O⟩,trivial⟩) ?_)
 refine zQ hK2 (B fun _ hK4=>z (zL hr h (fun (v5:R×(List u))=>[(0,.ptr 0 0),(2,.ptr 102 0),(3,.arr 10003 (List.length v5.2))]) (fun (v5:R×(List u))=>[(0,.box (aJ v5.1)),(102,.box [I 0,Sc (.int .u64 0),Sc (.int .u64 0),Sc (.int .u64 0),Sc (.int .u64 0),Sc (.slice none 0 0)]),(10003,.app 137 6 (u.Cs v5.2))]) O fun _ v5 _ hK7 h=>B fun _ hK8=>B fun _ hK9=>A (zm O (zk hp hr h [0] Tryz.call239 (cO v5.1) O (fun _=>O) fun y10 h=>zc O (zQ hK9 (zB O h (fun _ h=>?_) fun _ h=>?_))))))
 · refine V (hK8 _ _ (z (B fun _ hK12=>A (zm O (zn O (zf O (zl O (zd hr h fun hg13 h=>zo hg13 O (zn O (zf O (zs O (zQ hK12 (A (zm O (zm O (zk hp hr h [0] Tryz.call238 (hT.cH (R.mk y10.2.text (y10.2.at_+1))) O (fun _=>O) fun y14 h=>b4 [y14.1] u.y ⟨O,O⟩ O ?_))))))))))))))))
   refine zd hr h fun hg15 h=>lQ 121 ⟨jV.h,eL.h,u.y,u.b7,u.jh,hE _ O,O,O,(.inl O),⟨O,O,O⟩,hg15⟩ O ?_
   refine za O (aX (kz 121 10003 [(0,.ptr 0 0),(2,.ptr 102 0),(3,.arr 10003 (List.length (v5.2++[y14.1])))] [(0,.box (aJ y14.2)),(102,.box [I 0,Sc (.int .u64 0),Sc (.int .u64 0),Sc (.int .u64 0),Sc (.int .u64 0),Sc (.slice none 0 0)])] (hE _ O) O O ⟨O,O⟩ ⟨⟨_,O,O,O⟩,⟨_,O,O,O⟩,⟨_,O,O,O⟩,trivial⟩ ⟨⟨_,O,O,O,O,O⟩,⟨_,O,O,O,O,O⟩,trivial⟩) ?_)
   exact N (hK7 _ _ _ h O)
 · refine bB (hK4 _ _ (B fun _ hK16=>A (J (lY u.y u.b7 O O O) O ?_)))
   exact zk hp hr h [] Tryz.call240 (ns 4 v5.2) O (fun _=>O) fun y17 h=>zs O (zQ hK16 (H (zX (.cons (aZ O O O) .nil) h O)))
theorem rC (n:Nat) (T:bC) (hT:c6 T) (p0:R):CT Tryz.prog 275 [.ptr 0 0] [.box (aJ p0)] (iX n T p0) (fun x=>.agg (eH x.1)) (fun x=>[.box (aJ x.2)]):=by
 refine zC Tryz.func275 O fun r hp h hr E hE=>?_
 refine B fun _ hK1=>?_
 refine A ?_
 refine aK 102 (hE _ O) ⟨O,O,O,O⟩ O ?_
 refine zQ hK1 ?_
 refine B fun _ hK2=>?_
 refine A ?_
 refine zm O ?_
 refine zk hp hr h [0] Tryz.call239 (cO p0) O (fun _=>O) fun y3 h=>?_
 refine za O ?_
 refine zQ hK2 ?_
 refine zM h (fun (v4:R)=>[(0,.ptr 0 0),(2,.ptr 102 0),(3,Sc (.int .u8 y3.1))]) (fun (v4:R)=>[(0,.box (aJ v4)),(102,.box [I 0,Sc (.int .u64 0),Sc (.int .u64 0),Sc (.int .u64 0),Sc (.int .u64 0),Sc (.slice none 0 0)])]) (fun v4 h=>?_) fun _ _ hK6 h=>?_
 · refine B fun _ hK7=>?_
   refine A ?_
   refine zm O ?_
   refine zn O ?_
   refine zf O ?_
   refine zl O ?_
   refine zd hr h fun hg8 h=>?_
   refine zo hg8 O ?_
   refine zn O ?_
   refine zf O ?_
   refine zs O ?_
   refine zQ hK7 ?_
   refine B fun _ hK9=>?_
   refine A ?_
   refine zm O ?_
   refine zk hp hr h [] Tryz.call294 (rB n y3.1) O (fun _=>O) fun y10 h=>?_
   refine zs O ?_
   refine zQ hK9 ?_
   refine H ?_
   exact zX (.cons (aZ O O O) .nil) h O
 · refine z ?_
   refine B fun _ hK11=>?_
   refine bL [0,1,2,3,4,5,6,7,8,9,10] O (by kernel_rfl) ?_
   refine zD O (W O) O ?_
   refine zD O (da O) O ?_
   refine zD O (bR O) O ?_
   refine zD O (bp O O O) O ?_
   refine zD O (W O) O ?_
   refine zD O (da O) O ?_
   refine zD O (bR O) O ?_
   refine zD O (bp O O O) O ?_
   refine zD O (dr O) O ?_
   refine zD O (bw O O O) O ?_
   refine fK O O O (aL O) O ?_
   refine cX ?_
   refine hK11 _ _ ?_
   refine zB O h (fun _ h=>?_) fun _ h=>?_
   · refine A ?_
     refine zm O ?_
     refine zm O ?_
     refine zn O ?_
     refine zf O ?_
     refine zl O ?_
     refine J (dr O) O ?_
     refine zk hp hr h [0] Tryz.call207 (dQ (List.length y3.2.text:Int) y3.2) O (fun _=>O) fun y13 h=>?_
     refine N ?_
     exact hK6 _ _ _ h O
   · refine B fun _ hK14=>?_
     refine A ?_
     refine zm O ?_
     refine zc O ?_
     refine za O ?_
     refine zQ hK14 ?_
     refine zB O h (fun _ h=>?_) fun _ h=>?_
     · refine B fun _ hK16=>?_
       refine A ?_
       refine zm O ?_
       refine zk hp hr h [0] Tryz.call290 (hT.fm y3.2) O (fun _=>O) fun y17 h=>?_
       refine zs O ?_
       refine zQ hK16 ?_
       refine H ?_
       exact zX (.cons (aZ O O O) .nil) h O
     · refine B fun _ hK18=>?_
       refine A ?_
       refine zm O ?_
       refine zc O ?_
       refine za O ?_
       refine zQ hK18 ?_
       refine zB O h (fun _ h=>?_) fun _ h=>?_
       · refine B fun _ hK20=>?_
         refine A ?_
         refine zm O ?_
         refine zk hp hr h [0] Tryz.call291 (sH n y3.2) O (fun _=>O) fun y21 h=>?_
         refine zs O ?_
         refine zQ hK20 ?_
         refine H ?_
         exact zX (.cons (aZ O O O) .nil) h O
       · refine B fun _ hK22=>?_
         refine A ?_
         refine zm O ?_
         refine zc O ?_
         refine za O ?_
         refine zQ hK22 ?_
         refine zB O h (fun _ h=>?_) fun _ h=>?_
         · refine B fun _ hK24=>?_
           refine A ?_
           refine zm O ?_
           refine zn O ?_
           refine zf O ?_
           refine zl O ?_
           refine zd hr h fun hg25 h=>?_
           refine zo hg25 O ?_
           refine zn O ?_
           refine zf O ?_
           refine zs O ?_
           refine zQ hK24 ?_
           refine B fun _ hK26=>?_
           refine A ?_
           refine zk hp hr h [] Tryz.call292 (gm n 0 255) O (fun _=>O) fun y27 h=>?_
           refine J (dC O O) O ?_
           refine zs O ?_
           refine zQ hK26 ?_
           refine b3 (jt 102 O O) ?_
           refine H ?_
           exact zX (.cons (aZ O O O) .nil) h O
         · refine B fun _ hK28=>?_
           refine A ?_
           refine zm O ?_
           refine zc O ?_
           refine za O ?_
           refine zQ hK28 ?_
           refine zB O h (fun _ h=>?_) fun _ h=>?_
           · refine B fun _ hK30=>?_
             refine B fun _ hK31=>?_
             refine bL [0,1,2,3,4,5,6,7,8,9,10] O (by kernel_rfl) ?_
             refine zD O (W O) O ?_
             refine zD O (da O) O ?_
             refine zD O (bR O) O ?_
             refine zD O (bp O O O) O ?_
             refine zd hr h fun hg32 h=>?_
             refine zD O (k9 O O hg32) O ?_
             refine zD O (W O) O ?_
             refine zD O (da O) O ?_
             refine zD O (bR O) O ?_
             refine zD O (bp O O O) O ?_
             refine zD O (dr O) O ?_
             refine zD O (bw O O O) O ?_
             refine cX ?_
             refine hK31 _ _ ?_
             refine zB O h (fun _ h=>?_) fun _ h=>?_
             · refine B fun _ hK34=>?_
               refine bL [0,1,2,3,4,5,6,7,8,9,14,10,11,12,13,15,16] O (by kernel_rfl) ?_
               refine zD O (W O) O ?_
               refine zD O (da O) O ?_
               refine zD O (bR O) O ?_
               refine zD O (bp O O O) O ?_
               refine zD O (W O) O ?_
               refine zD O (da O) O ?_
               refine zD O (bR O) O ?_
               refine zD O (bp O O O) O ?_
               refine zd hr h fun hg35 h=>?_
               refine zD O (k9 O O hg35) O ?_
               refine ze hr h fun b36 h37 h38 h39 h=>?_
               refine zD O (dZ O O h37 h39) O ?_
               refine s4 O (bX O) 104 (hE _ O) ⟨O,O,O,O,O⟩ ⟨O,O,O,O⟩ ?_
               refine dL O (bX O) hr h [] Tryz.call293 (vX n (b36.toNat:Int)) ⟨O,O,O,O,O,O,trivial⟩ O O (fun _=>⟨O,O,O⟩) (fun _=>⟨O,O⟩) hp (fun y40 h=>⟨aL O,?_⟩)
               refine zD O (W O) O ?_
               refine zD O (o4 O O) O ?_
               refine zD O (o4 O O) O ?_
               refine rU O ⟨O,O,O,O,O,O,O,O⟩ O (fun e15 he=>⟨aL O,?_⟩)
               subst he
               refine sC O O O (aL O) O ?_
               refine cX ?_
               refine hK34 _ _ ?_
               refine B fun _ hK41=>?_
               refine A ?_
               refine zm O ?_
               refine zQ hK41 ?_
               refine zB O h (fun _ h=>?_) fun _ h=>?_
               · refine B fun _ hK43=>?_
                 refine A ?_
                 refine zm O ?_
                 refine zn O ?_
                 refine zf O ?_
                 refine zl O ?_
                 refine zd hr h fun hg44 h=>?_
                 refine zo hg44 O ?_
                 refine zn O ?_
                 refine zf O ?_
                 refine zs O ?_
                 refine zQ hK43 ?_
                 refine B fun _ hK45=>?_
                 refine A ?_
                 refine zA O ?_
                 refine J (dC O O) O ?_
                 refine zs O ?_
                 refine zQ hK45 ?_
                 refine b3 (jt 102 O O) ?_
                 refine H ?_
                 exact zX (.cons (aZ O O O) .nil) h O
               · refine V ?_
                 refine hK30 _ _ ?_
                 refine B fun _ hK46=>?_
                 refine A ?_
                 refine zm O ?_
                 refine zk hp hr h [0] Tryz.call295 (jB n 0 y3.2) O (fun _=>O) fun y47 h=>?_
                 refine zk hp hr h [] Tryz.call294 (rB n y47.1) O (fun _=>O) fun y48 h=>?_
                 refine zs O ?_
                 refine zQ hK46 ?_
                 refine H ?_
                 exact zX (.cons (aZ O O O) .nil) h O
             · refine V ?_
               refine hK30 _ _ ?_
               refine B fun _ hK49=>?_
               refine A ?_
               refine zm O ?_
               refine zk hp hr h [0] Tryz.call295 (jB n 0 y3.2) O (fun _=>O) fun y50 h=>?_
               refine zk hp hr h [] Tryz.call294 (rB n y50.1) O (fun _=>O) fun y51 h=>?_
               refine zs O ?_
               refine zQ hK49 ?_
               refine H ?_
               exact zX (.cons (aZ O O O) .nil) h O
           · refine zM h (fun (v52:Bool)=>[(0,.ptr 0 0),(2,.ptr 102 0),(3,Sc (.int .u8 y3.1)),(89,Bo v52)]) (fun (v52:Bool)=>[(0,.box (aJ y3.2)),(102,.box [I 0,Sc (.int .u64 0),Sc (.int .u64 0),Sc (.int .u64 0),Sc (.int .u64 0),Sc (.slice none 0 0)])]) (fun v52 h=>?_) fun _ _ hK54 h=>?_
             · refine zB O h (fun _ h=>?_) fun _ h=>?_
               · refine A ?_
                 refine zm O ?_
                 refine zm O ?_
                 refine zn O ?_
                 refine zf O ?_
                 refine zl O ?_
                 refine zk hp hr h [0] Tryz.call207 (dQ y3.2.at_ y3.2) O (fun _=>O) fun y56 h=>?_
                 refine N ?_
                 exact hK6 _ _ _ h O
               · refine V ?_
                 exact hK6 _ _ _ h O
             · refine A ?_
               refine zm O ?_
               refine zc O ?_
               refine zm O ?_
               refine zb (decide (y3.1<32)) (fun hb57=>?_) fun hb57=>?_
               · refine z1 hb57 h fun h=>?_
                 refine zg hb57 O ?_
                 refine zg hb57 O ?_
                 refine zy hb57 O ?_
                 refine zm O ?_
                 refine zg O O ?_
                 refine zg O O ?_
                 refine zg O O ?_
                 refine zt O ?_
                 refine za O ?_
                 refine N ?_
                 exact hK54 _ _ _ h O
               · refine z2 hb57 h fun h=>?_
                 refine zG hb57 O (W O) ?_
                 refine zG hb57 O (bw O O O) ?_
                 refine zw hb57 O ?_
                 refine zm O ?_
                 refine zb (decide (y3.1>126)) (fun hb58=>?_) fun hb58=>?_
                 · refine z1 hb58 h fun h=>?_
                   refine zg hb58 O ?_
                   refine zg hb58 O ?_
                   refine zg hb58 O ?_
                   refine zy hb58 O ?_
                   refine za O ?_
                   refine N ?_
                   exact hK54 _ _ _ h O
                 · refine z2 hb58 h fun h=>?_
                   refine zG hb58 O (W O) ?_
                   refine zK hb58 O hp hr h [] Tryz.call296 (kC ([40,41,91,93,123,125,124,42,43,63,46,92]:List UInt8) y3.1) O (fun _=>O) fun y59 h=>?_
                   refine zG hb58 O (bw O O O) ?_
                   refine zw hb58 O ?_
                   refine za O ?_
                   refine N ?_
                   exact hK54 _ _ _ h O
theorem mu (n:Nat) (T:bC) (hT:c6 T) (p0:R):CT Tryz.prog 238 [.ptr 0 0] [.box (aJ p0)] (fO n T p0) (fun x=>.agg (eH x.1)) (fun x=>[.box (aJ x.2)]):=by
 refine zC Tryz.func238 O fun r hp h hr E hE=>B fun _ hK1=>A (eg 101 (hE _ O) ⟨O,O,O,O,O,O,O⟩ O ?_)
 refine aK 102 (hE _ O) ⟨O,O,O,O⟩ O ?_
 refine zQ hK1 (B fun _ hK2=>A (aK 103 (hE _ O) ⟨O,O,O,O⟩ O ?_))
 refine zQ hK2 (B fun _ hK3=>A (J (pc O O) O ?_))
 refine za O (zQ hK3 (B fun _ hK4=>A (zm O (aX (rn (j:=103) (off:=0) 26592 (sz:=6) (el:=137) (hE _ O) O O ⟨O,O,O⟩ O O) ?_))))
 refine jf hr h [103,101,26592,0] Tryz.call262 (hT.cn [] p0) ⟨O,O,O,O,O,O,⟨hE _ O,trivial⟩⟩ O (fun _=>⟨O,O,O⟩) (fun _=>⟨O,O⟩) hp (fun y5 h=>?_)
 refine zQ hK4 (B fun _ hK6=>z (zL hr h (fun (v7:R×(List u))=>[(0,.ptr 0 0),(1,.ptr 101 0),(2,.ptr 102 0),(3,.ptr 103 0),(4,.fn 262 [] [.ptr 103 0,.ptr 101 0])]) (fun (v7:R×(List u))=>[(0,.box (aJ v7.1)),(101,.box [.ptr 0 0]),(102,.box [I 0,Sc (.int .u64 0),Sc (.int .u64 0),Sc (.int .u64 0),Sc (.int .u64 0),Sc (.slice none 0 0)]),(103,.box [.arr 26592 (List.length v7.2)]),(26592,.arr 137 6 (u.Cs v7.2))]) O fun _ v7 _ hK9 h=>B fun _ hK10=>B fun _ hK11=>bL [0,1,2,3,4,5,6,7,8,9,10,11,12,13,14,15,16,17,18,19] O (by kernel_rfl) (zD O (bp O O O) O (zD O (da O) O (zD O (bR O) O (zD O (bp O O O) O (zD O (bp O O O) O (zD O (da O) O (zD O (bR O) O (zD O (bp O O O) O (zD O (dr O) O (zD O (bw O O O) O (zD O (W O) O (zb (decide (v7.1.at_<(List.length v7.1.text:Int))) (fun hb12=>?_) fun hb12=>?_))))))))))))))
 · refine z1 hb12 h fun h=>en hb12 O ⟨O,O⟩ (bp O O O) ⟨O,O,O⟩ ?_
   refine dL O (ym hb12 O ⟨O,O⟩) hr h [0] Tryz.call239 (cO v7.1) ⟨O,O,O,O,O,O,trivial⟩ O O (fun _=>⟨O,O,O⟩) (fun _=>⟨O,O⟩) hp (fun y13 h=>⟨aL O,?_⟩)
   refine en hb12 O ⟨O,O⟩ (bw O O O) ⟨O,O,O⟩ ?_
   refine zD O (dD hb12 O O) O (zD O (W O) O (zb (y13.1 !=124) (fun hb14=>?_) fun hb14=>?_))
   · refine z1 hb14 h fun h=>en hb14 O ⟨O,O⟩ (bp O O O) ⟨O,O,O⟩ ?_
     refine dL O (ym hb14 O ⟨O,O⟩) hr h [0] Tryz.call239 (cO y13.2) ⟨O,O,O,O,O,O,trivial⟩ O O (fun _=>⟨O,O,O⟩) (fun _=>⟨O,O⟩) hp (fun y15 h=>⟨aL O,?_⟩)
     refine en hb14 O ⟨O,O⟩ (bw O O O) ⟨O,O,O⟩ ?_
     refine zD O (dD hb14 O O) O (cX (hK11 _ _ (zB O h (fun _ h=>?_) fun _ h=>?_)))
     · refine V (hK10 _ _ (z (A (zm O (jf hr h [103,101,26592,0] Tryz.call262 (hT.cn v7.2 y15.2) ⟨O,O,O,O,O,O,⟨hE _ O,trivial⟩⟩ O (fun _=>⟨O,O,O⟩) (fun _=>⟨O,O⟩) hp (fun y17 h=>?_))))))
       exact N (hK9 _ _ _ h O)
     · refine bB (hK6 _ _ (B fun _ hK18=>A (aX (pO (j:=103) (off:=0) u.y u.b7 O O O O (hE _ O) O) ?_)))
       exact zl O (zk hp hr h [] Tryz.call240 (ns 3 v7.2) O (fun _=>O) fun y19 h=>zs O (zQ hK18 (H (zX (.cons (aZ O O O) .nil) h O))))
   · refine z2 hb14 h fun h=>ef hb14 O ⟨O,O⟩ ⟨O,O⟩ ?_
     refine tI hb14 O ⟨O,O⟩ ⟨O,O⟩ ?_
     refine ef hb14 O ⟨O,O⟩ ⟨O,O⟩ ?_
     refine zD O (dy hb14 O O) O (cX (hK11 _ _ (dm O (fun hc=>?_) (fun hc=>?_))))
     · exact absurd (hc) (by simp)
     · refine bB (hK6 _ _ (B fun _ hK20=>A (aX (pO (j:=103) (off:=0) u.y u.b7 O O O O (hE _ O) O) ?_)))
       exact zl O (zk hp hr h [] Tryz.call240 (ns 3 v7.2) O (fun _=>O) fun y21 h=>zs O (zQ hK20 (H (zX (.cons (aZ O O O) .nil) h O))))
 · refine z2 hb12 h fun h=>ef hb12 O ⟨O,O⟩ ⟨O,O⟩ ?_
   refine tI hb12 O ⟨O,O⟩ ⟨O,O⟩ ?_
   refine ef hb12 O ⟨O,O⟩ ⟨O,O⟩ ?_
   refine zD O (dy hb12 O O) O (zD O (W O) O (ef O O ⟨O,O⟩ ⟨O,O⟩ ?_))
   refine tI O O ⟨O,O⟩ ⟨O,O⟩ ?_
   refine ef O O ⟨O,O⟩ ⟨O,O⟩ ?_
   refine zD O (dI O O) O (cX (hK11 _ _ (dm O (fun hc=>?_) (fun hc=>?_))))
   · exact absurd (hc) (by simp)
   · refine bB (hK6 _ _ (B fun _ hK22=>A (aX (pO (j:=103) (off:=0) u.y u.b7 O O O O (hE _ O) O) ?_)))
     exact zl O (zk hp hr h [] Tryz.call240 (ns 3 v7.2) O (fun _=>O) fun y23 h=>zs O (zQ hK22 (H (zX (.cons (aZ O O O) .nil) h O))))
theorem lD (n:Nat) (T:bC) (hT:c6 T) (p0:(List u)) (p1:R):CT Tryz.prog 262 [.ptr 0 0,.ptr 1 0] [.box [.arr 2 (List.length p0)],.box [.ptr 3 0],.arr 137 6 (u.Cs p0),.box (aJ p1)] (fA n T p0 p1) (fun _=>.fX []) (fun x=>[.box [.arr 2 (List.length x.1)],.box [.ptr 3 0],.arr 137 6 (u.Cs x.1),.box (aJ x.2)]):=by
 refine zC Tryz.func262 O fun r hp h hr E hE=>mi [] ?_
 refine o7 [0,1,3,4,2,5,6] 7 8 O (by kernel_rfl) ?_
 refine zD O (fj [.arr 2 (List.length p0)] O O ⟨.inl O,trivial⟩ O) O (zD O (bp O O O) O (zD O (mf O) O (tM [(u.mk 0 0 0 0 0 [])] u.y O (bX O) ⟨O,O,O⟩ ⟨O,O⟩ ?_)))
 refine dL O (bX O) hr h [3] Tryz.call263 (hT.fo p1) ⟨O,O,O,O,O,O,trivial⟩ O O (fun _=>⟨O,O,O⟩) (fun _=>⟨O,O⟩) hp (fun y1 h=>⟨cP ⟨trivial,⟨trivial,⟨trivial,⟨⟨⟨_,O,M.ff ⟨.inl O,trivial⟩⟩,trivial⟩,trivial⟩⟩⟩⟩,?_⟩)
 refine zd hr h fun hg2 h=>nq 107 O (bX O) ⟨jV.h,eL.h,u.y,u.b7,u.jh,hE _ O,O,O,(.inl O),⟨O,O,O⟩,hg2⟩ O O ⟨aL O,?_⟩
 refine zD O (me O O (Int.natCast_nonneg _) (rX _ _)) O (rY ?_ ?_)
 · refine mK p0 O (⟨u.y,u.b7,Int.natCast_nonneg _,jM _ _,O,O,O,O,O,lG.h,O,O,O⟩:vQ _ _ _ _ _ _ _ _ _ 0 _ _ _ _ _ _ y1.1 _ (u.C y1.1)) O ⟨aL O,?_⟩
   refine cf O ⟨O,O,O,O,O,O,O,O⟩ O (fun e8 he=>⟨aL O,?_⟩)
   subst he
   refine gi (eT.trans (mL 0 0 (m':=List.length (p0++[y1.1])) O O (by simp) O) (jg 107 2 [(0,.ptr 0 0),(1,.ptr 1 0)] [(0,.box [.arr 2 (List.length (p0++[y1.1]))]),(1,.box [.ptr 3 0]),(3,.box (aJ y1.2))] (hE _ O) O O ⟨O,O⟩ ⟨⟨_,O,O,O⟩,⟨_,O,O,O⟩,trivial⟩ ⟨⟨_,O,O,O,O,O⟩,⟨_,O,O,O,O,O⟩,⟨_,O,O,O,O,O⟩,trivial⟩)) ?_
   exact zY .nil h O
 · refine cf O ⟨O,O,O,O,O,O,O,O⟩ O (fun e7 he=>⟨aL O,?_⟩)
   subst he
   refine mK p0 O (⟨u.y,u.b7,Int.natCast_nonneg _,jM _ _,O,O,O,O,O,lG.h,O,O,O⟩:vQ _ _ _ _ _ _ _ _ _ 0 _ _ _ _ _ _ y1.1 _ (u.C y1.1)) O ⟨aL O,?_⟩
   refine gi (eT.trans (mL 0 0 (m':=List.length (p0++[y1.1])) O O (by simp) O) (jg 107 2 [(0,.ptr 0 0),(1,.ptr 1 0)] [(0,.box [.arr 2 (List.length (p0++[y1.1]))]),(1,.box [.ptr 3 0]),(3,.box (aJ y1.2))] (hE _ O) O O ⟨O,O⟩ ⟨⟨_,O,O,O⟩,⟨_,O,O,O⟩,trivial⟩ ⟨⟨_,O,O,O,O,O⟩,⟨_,O,O,O,O,O⟩,⟨_,O,O,O,O,O⟩,trivial⟩)) ?_
   exact zY .nil h O
theorem qF (n:Nat) (T:bC) (hT:c6 T) (p0:R):CT Tryz.prog 290 [.ptr 0 0] [.box (aJ p0)] (iJ n T p0) (fun x=>.agg (eH x.1)) (fun x=>[.box (aJ x.2)]):=by
 refine zC Tryz.func290 O fun r hp h hr E hE=>B fun _ hK1=>A (aK 102 (hE _ O) ⟨O,O,O,O⟩ O ?_)
 refine zQ hK1 (B fun _ hK2=>A (zm O (zn O (zf O (zl O (zd hr h fun hg3 h=>zo hg3 O (zn O (zf O (zs O (zQ hK2 (B fun _ hK4=>B fun _ hK5=>A (zm O (zk hp hr h [0] Tryz.call239 (cO (R.mk p0.text (p0.at_+1))) O (fun _=>O) fun y6 h=>zc O (zQ hK5 (zB O h (fun _ h=>?_) fun _ h=>?_)))))))))))))))
 · refine B fun _ hK8=>A (zm O (zn O (zf O (zl O (zd hr h fun hg9 h=>zo hg9 O (zn O (zf O (zs O (zQ hK8 (B fun _ hK10=>A (J (dC O O) O ?_)))))))))))
   refine zs O (zQ hK10 (b3 (jt 102 O O) ?_))
   exact H (zX (.cons (aZ O O O) .nil) h O)
 · refine V (hK4 _ _ (B fun _ hK11=>A (zm O (zk hp hr h [0] Tryz.call206 (hT.ct y6.2) O (fun _=>O) fun y12 h=>aK 103 (hE _ O) ⟨O,O,O,O⟩ O ?_))))
   refine zs O (zQ hK11 (zM h (fun (v13:R)=>[(0,.ptr 0 0),(2,.ptr 102 0),(3,.ptr 103 0)]) (fun (v13:R)=>[(0,.box (aJ v13)),(102,.box [I 0,Sc (.int .u64 0),Sc (.int .u64 0),Sc (.int .u64 0),Sc (.int .u64 0),Sc (.slice none 0 0)]),(103,.box (eH y12.1))]) (fun v13 h=>?_) fun _ _ hK15 h=>?_))
   · refine B fun _ hK16=>A (zm O (zn O (zf O (zl O (zd hr h fun hg17 h=>zo hg17 O (zn O (zf O (zs O (zQ hK16 (B fun _ hK18=>A (zA O ?_)))))))))))
     exact zs O (zQ hK18 (H (zX (.cons (aZ O O O) .nil) h O)))
   · refine B fun _ hK19=>A (zm O (zk hp hr h [0] Tryz.call239 (cO y12.2) O (fun _=>O) fun y20 h=>zc O (zQ hK19 (zB O h (fun _ h=>?_) fun _ h=>?_))))
     · exact A (zm O (zm O (zn O (zf O (zl O (zk hp hr h [0] Tryz.call207 (dQ y20.2.at_ y20.2) O (fun _=>O) fun y22 h=>N (hK15 _ _ _ h O)))))))
     · exact V (hK15 _ _ _ h O)
theorem qG (n:Nat) (T:bC) (hT:c6 T) (p0:R):CT Tryz.prog 263 [.ptr 0 0] [.box (aJ p0)] (iK n T p0) (fun x=>.agg (eH x.1)) (fun x=>[.box (aJ x.2)]):=by
 refine zC Tryz.func263 O fun r hp h hr E hE=>B fun _ hK1=>A (aK 102 (hE _ O) ⟨O,O,O,O⟩ O ?_)
 refine zQ hK1 (B fun _ hK2=>A (zm O (zk hp hr h [0] Tryz.call275 (hT.fG p0) O (fun _=>O) fun y3 h=>aK 103 (hE _ O) ⟨O,O,O,O⟩ O ?_)))
 refine zs O (zQ hK2 (z (zL hr h (fun (v4:R×u)=>[(0,.ptr 0 0),(2,.ptr 102 0),(3,.ptr 103 0)]) (fun (v4:R×u)=>[(0,.box (aJ v4.1)),(102,.box [I 0,Sc (.int .u64 0),Sc (.int .u64 0),Sc (.int .u64 0),Sc (.int .u64 0),Sc (.slice none 0 0)]),(103,.box (eH v4.2))]) O fun _ v4 _ hK6 h=>z (B fun _ hK7=>A (zA O ?_)))))
 refine b4 [v4.2] u.y ⟨O,O⟩ O ?_
 refine J (bQ O O O) O ?_
 refine aK 104 (hE _ O) ⟨O,O,O,O⟩ O ?_
 refine zs O (zQ hK7 (zM h (fun (v8:R×u)=>[(0,.ptr 0 0),(2,.ptr 102 0),(3,.ptr 103 0)]) (fun (v8:R×u)=>[(0,.box (aJ v8.1)),(102,.box [I 0,Sc (.int .u64 0),Sc (.int .u64 0),Sc (.int .u64 0),Sc (.int .u64 0),Sc (.slice none 0 0)]),(103,.box (eH v8.2))]) (fun v8 h=>?_) fun _ _ hK10 h=>?_))
 · exact A (zm O (zn O (zf O (zl O (zd hr h fun hg11 h=>zo hg11 O (zn O (zf O (zs O (N (hK6 _ _ _ h O))))))))))
 · refine B fun _ hK12=>A (zm O (zk hp hr h [0] Tryz.call239 (cO v4.1) O (fun _=>O) fun y13 h=>zQ hK12 (z (B fun _ hK14=>A (zc O (za O (zQ hK14 (zB O h (fun _ h=>?_) fun _ h=>?_))))))))
   · refine A (zA O ?_)
     exact zs O (N (hK10 _ _ _ h O))
   · refine B fun _ hK16=>A (zc O (za O (zQ hK16 (zB O h (fun _ h=>?_) fun _ h=>?_))))
     · refine A (zA O ?_)
       refine zA O ?_
       refine b4 [v4.2,(u.mk 5 0 0 0 0 [v4.2])] u.y ⟨O,O⟩ O ?_
       refine J (bQ O O O) O ?_
       exact zs O (N (hK10 _ _ _ h O))
     · refine B fun _ hK18=>A (zc O (za O (zQ hK18 (zB O h (fun _ h=>?_) fun _ h=>?_))))
       · refine A (zA O ?_)
         refine J (bQ O O O) O ?_
         refine b4 [v4.2,(u.mk 1 0 0 0 0 [])] u.y ⟨O,O⟩ O ?_
         refine J (bQ O O O) O ?_
         exact zs O (N (hK10 _ _ _ h O))
       · refine B fun _ hK20=>A (zA O ?_)
         exact zs O (zQ hK20 (H (zX (.cons (aZ O O O) .nil) h O)))
theorem cW:∀ n,c6 (aT n)
 | 0=>⟨fun _=>cy,fun _=>cy,fun _=>cy,fun _ _=>cy,fun _=>cy,fun _=>cy⟩
 | n+1=>⟨fun p0=>mQ n _ (cW n) p0,fun p0=>rC n _ (cW n) p0,fun p0=>mu n _ (cW n) p0,fun p0 p1=>lD n _ (cW n) p0 p1,fun p0=>qF n _ (cW n) p0,fun p0=>qG n _ (cW n) p0⟩
theorem nt (n:Nat) (p0:R):CT Tryz.prog 206 [.ptr 0 0] [.box (aJ p0)] (ct n p0) (fun x=>.agg (eH x.1)) (fun x=>[.box (aJ x.2)]):=(cW n).ct p0
def mw (n:Nat) (p0:(List UInt8)):D (u×dH):=
 br (decide ((List.length p0:Int)>1000)) (.ok ((u.mk 0 0 0 0 0 []),(dH.mk 2 0))) (nN (D.bind (ct n (R.mk p0 0)) fun y9=>jn (fun (_:R)=>D.bind (rA n y9.1) fun y15=>br (y15==9) (.ok ((u.mk 0 0 0 0 0 []),(dH.mk 9 0))) (.ok (y9.1,(dH.mk 0 0)))) fun j11=>br (decide (y9.2.at_<(List.length p0:Int))) (D.bind (dt y9.2.at_ y9.2) fun y22=>j11 (y22)) (j11 (y9.2))) (fun p=>sB 202 p fun v25=>D.bind (ln v25) fun y26=>.ok (y26.1,y26.2)))
theorem sn (n:Nat) (p0:(List UInt8)):CT Tryz.prog 163 [F p0] [] (mw n p0) (fun x=>.fX [.agg (eH x.1),.agg [I x.2.Errno,I x.2.At]]) (fun _=>[]):=by
 refine rV Tryz.func163 O O fun r h hr E hE=>?_
 refine B fun _ hK1=>A (aK 102 (hE _ O) ⟨O,O,O,O⟩ O ?_)
 refine aK 103 (hE _ O) ⟨O,O,O,O⟩ O ?_
 refine zQ hK1 (B fun _ hK2=>B fun _ hK3=>A (zm O (J (dr O) O (zc O (zQ hK3 (zB O h (fun _ h=>?_) fun _ h=>?_))))))
 · refine B fun _ hK5=>A (J (dC O O) O ?_)
   refine J (bQ O O O) O ?_
   refine zs O (zs O (zQ hK5 (b3 (jt 102 O O) ?_)))
   exact H (s5 (n:=Tryz.f163.ntmps) (.inl O) (mh (.inl O) _ (.cons (aZ O O O) (.cons (aZ O O O) .nil)) h.symm (AV.le_refl _) trivial))
 · refine V (hK2 _ _ (B fun _ hK6=>A (zm O (J (bQ O O O) O ?_))))
   refine eg 112 (hE _ O) ⟨O,O,O,O,O,O,O⟩ O ?_
   refine aK 104 (hE _ O) ⟨O,O,O,O⟩ O ?_
   refine zs O (zQ hK6 (B fun _ hK7=>A (J (pc O O) O ?_)))
   refine xj O ?_
   have hrO:=hr
   obtain ⟨r,hr,h,hc⟩:=uQ hr h
   refine zQ hK7 (B fun _ hK8=>A (zl O (oL hr h [112] Tryz.call206 (nt n (R.mk p0 0)) ⟨O,O,O,O,O,O,trivial⟩ O O (fun _=>⟨O,O,O⟩) (fun _=>⟨O,O⟩) O (fun p hp=>?_) (fun y9 h=>?_))))
   · obtain ⟨v24,rfl,hc⟩:=lR hrO (lf hc hp)
     obtain ⟨hns,hok,_⟩:=ki hrO hc
     repeat (first|refine lg ?_|refine kl ?_)
     refine ij (n:=Tryz.f163.ntmps) [104,102,103,112] Tryz.call205 (kD v24) hns O ⟨O,O,O,O⟩ (fun _=>⟨O,O⟩) (fun x hx=>?_)
     exact fL (.inl O) _ (.cons (aZ O O O) (.cons (aZ O O O) .nil)) (hok x hx).symm (AV.le_refl _) trivial
   · refine zs O (zQ hK8 (zM h (fun (v10:R)=>[(0,F p0),(2,.ptr 102 0),(3,.ptr 103 0)]) (fun (v10:R)=>[(102,.box (eH y9.1)),(103,.box [I 0,I 0]),(104,.box [.ptr 112 0]),(112,.box (aJ v10))]) (fun v10 h=>?_) fun _ _ hK12 h=>?_))
     · refine B fun _ hK13=>B fun _ hK14=>A (zA O ?_)
       refine oL hr h [] Tryz.call208 (vW n y9.1) ⟨O,O,O,O,O,O,trivial⟩ O O (fun _=>⟨O,O,O⟩) (fun _=>⟨O,O⟩) O (fun p hp=>?_) (fun y15 h=>?_)
       · obtain ⟨v19,rfl,hc⟩:=lR hrO (lf hc hp)
         obtain ⟨hns,hok,_⟩:=ki hrO hc
         repeat (first|refine lg ?_|refine kl ?_)
         refine ij (n:=Tryz.f163.ntmps) [104,102,103,112] Tryz.call205 (kD v19) hns O ⟨O,O,O,O⟩ (fun _=>⟨O,O⟩) (fun x hx=>?_)
         exact fL (.inl O) _ (.cons (aZ O O O) (.cons (aZ O O O) .nil)) (hok x hx).symm (AV.le_refl _) trivial
       · refine zc O (zQ hK14 (zB O h (fun _ h=>?_) fun _ h=>?_))
         · refine B fun _ hK17=>A (J (dC O O) O ?_)
           refine J (bQ O O O) O ?_
           refine zs O (zs O (zQ hK17 (b3 (jt 102 O O) ?_)))
           refine H (kU (n:=Tryz.f163.ntmps) (.inl O) [104,102,103,112] Tryz.call205 (lK [.box [.ptr 3 0],.box [I 0,Sc (.int .u64 0),Sc (.int .u64 0),Sc (.int .u64 0),Sc (.int .u64 0),.pv (.sl (List.length ([]:List u)) (u.Cs []))],.box [I 9,I 0],.box (aJ v10)]) ⟨O,O,O,O⟩ O O ?_)
           exact fL (.inl O) _ (.cons (aZ O O O) (.cons (aZ O O O) .nil)) (pQ hc h.symm) (AV.le_refl _) trivial
         · refine V (hK13 _ _ (B fun _ hK18=>A (zA O ?_)))
           refine J (bQ O O O) O ?_
           refine zs O (zs O (zQ hK18 (H (kU (n:=Tryz.f163.ntmps) (.inl O) [104,102,103,112] Tryz.call205 (lK [.box [.ptr 3 0],.box (eH y9.1),.box [I 0,I 0],.box (aJ v10)]) ⟨O,O,O,O⟩ O O ?_))))
           exact fL (.inl O) _ (.cons (aZ O O O) (.cons (aZ O O O) .nil)) (pQ hc h.symm) (AV.le_refl _) trivial
     · refine B fun _ hK20=>A (zl O (zn O (zf O (zl O (zm O (J (dr O) O (zc O (zQ hK20 (zB O h (fun _ h=>?_) fun _ h=>?_)))))))))
       · refine bL [0,1,2,3,4,5] O (by kernel_rfl) (zD O (bp O O O) O (zD O (bp O O O) O (zD O (da O) O (zD O (bR O) O (zD O (bp O O O) O (FW O (bX O) O hr h [112] Tryz.call207 (dQ y9.2.at_ y9.2) ⟨O,O,O,O,O,O,trivial⟩ O O (fun _=>⟨O,O,O⟩) (fun _=>⟨O,O⟩) O (fun p hp=>?_) (fun y22 h=>?_)))))))
         · obtain ⟨v23,rfl,hc⟩:=lR hrO (lf hc hp)
           obtain ⟨hns,hok,_⟩:=ki hrO hc
           repeat (first|refine lg ?_|refine kl ?_)
           refine ij (n:=Tryz.f163.ntmps) [104,102,103,112] Tryz.call205 (kD v23) hns O ⟨O,O,O,O⟩ (fun _=>⟨O,O⟩) (fun x hx=>?_)
           exact fL (.inl O) _ (.cons (aZ O O O) (.cons (aZ O O O) .nil)) (hok x hx).symm (AV.le_refl _) trivial
         · exact cX (hK12 _ _ _ h O)
       · exact V (hK12 _ _ _ h O)
def gV (n:Nat) (p0:L) (p1:o):D (L×o):=
 jn (fun (v1:L×o)=>gd (bK (v1.1.at_+1)) (D.bind (bV n ([93]:List UInt8) (L.mk v1.1.text v1.1.bo (v1.1.at_+1) v1.1.base v1.1.skip v1.1.pending)) fun y6=>.ok (y6,v1.2))) fun j2=>D.bind (bc n ([61,126]:List UInt8) p0) fun y8=>br y8.1 (D.bind (az n y8.2) fun y11=>D.bind (mw n y11.1.Text) fun y13=>br (y13.2.Errno !=0) (D.bind (bj n (L.mk y11.2.text y11.2.bo y11.2.at_ y8.2.base y11.2.skip y11.2.pending)) fun y16=>j2 (y16,(o.mk p1.Kind p1.cG y11.1.Text p1.bt p1.bz p1.bf p1.Body p1.cz p1.jy p1.Trail p1.Pos))) (j2 ((L.mk y11.2.text y11.2.bo y11.2.at_ y8.2.base y11.2.skip y11.2.pending),(o.mk p1.Kind p1.cG y11.1.Text p1.bt p1.bz p1.bf p1.Body p1.cz p1.jy p1.Trail p1.Pos)))) (j2 (y8.2,p1))
theorem n9 (n:Nat) (p0:L) (p1:o):CT Tryz.prog 201 [.ptr 0 0,.ptr 1 0] [.box [.ptr 2 0],.box [.ptr 3 0],.box (Q p0),.box (dE p1)] (gV n p0 p1) (fun _=>.fX []) (fun x=>[.box [.ptr 2 0],.box [.ptr 3 0],.box (Q x.1),.box (dE x.2)]):=by
 refine zC Tryz.func201 O fun r hp h hr E hE=>zM h (fun (v1:L×o)=>[(0,.ptr 0 0),(1,.ptr 1 0)]) (fun (v1:L×o)=>[(0,.box [.ptr 2 0]),(1,.box [.ptr 3 0]),(2,.box (Q v1.1)),(3,.box (dE v1.2))]) (fun v1 h=>?_) fun _ _ hK3 h=>?_
 · exact B fun _ hK4=>A (zl O (zn O (zf O (zl O (zd hr h fun hg5 h=>zo hg5 O (zn O (zf O (zs O (zQ hK4 (A (zl O (zk hp hr h [2] Tryz.call202 (du n ([93]:List UInt8) (L.mk v1.1.text v1.1.bo (v1.1.at_+1) v1.1.base v1.1.skip v1.1.pending)) O (fun _=>O) fun y6 h=>N (zY .nil h O)))))))))))))
 · refine B fun _ hK7=>A (zl O (zk hp hr h [2] Tryz.call76 (df n ([61,126]:List UInt8) p0) O (fun _=>O) fun y8 h=>zQ hK7 (zB O h (fun _ h=>?_) fun _ h=>?_)))
   · refine B fun _ hK10=>bL [0,1,2,3,4,5,6] O (by kernel_rfl) (zD O (fj [.ptr 3 0] O O ⟨.inl O,trivial⟩ O) O (zD O (bp O O O) O (dL O (bX O) hr h [2] Tryz.call34 (aI n y8.2) ⟨O,O,O,O,O,O,trivial⟩ O O (fun _=>⟨O,O,O⟩) (fun _=>⟨O,O⟩) hp (fun y11 h=>⟨cP ⟨trivial,⟨⟨⟨_,O,M.ff ⟨.inl O,trivial⟩⟩,trivial⟩,trivial⟩⟩,?_⟩))))
     refine zD O (kj O O) O ?_
     refine zD O (da O) O (zD O (bR O) O (cf O ⟨O,O,O,O,O,O,O,O⟩ O (fun e6 he=>⟨aL O,?_⟩)))
     subst he
     refine cX (hK10 _ _ (B fun _ hK12=>A (zl O (zn O (zf O (zl O (zk hp hr h [] Tryz.call163 (sn n y11.1.Text) O (fun _=>O) fun y13 h=>zm O (zx O (zx O (aK 102 (hE _ O) ⟨O,O,O,O⟩ O ?_))))))))))
     refine aK 103 (hE _ O) ⟨O,O,O,O⟩ O ?_
     refine zs O (zs O (zQ hK12 (B fun _ hK14=>A (zf O (zl O (zc O (zQ hK14 (zB O h (fun _ h=>?_) fun _ h=>?_))))))))
     · exact A (zl O (zk hp hr h [2] Tryz.call35 (bF n (L.mk y11.2.text y11.2.bo y11.2.at_ y8.2.base y11.2.skip y11.2.pending)) O (fun _=>O) fun y16 h=>N (hK3 _ _ _ h O)))
     · exact V (hK3 _ _ _ h O)
   · exact V (hK3 _ _ _ h O)
def fp (n:Nat) (p0:Bool) (p1:L) (p2:o):D (L×o):=
 D.bind (gV n (L.mk p1.text p1.bo p1.at_ p1.base p0 p1.pending) p2) fun y4=>.ok ((L.mk y4.1.text y4.1.bo y4.1.at_ y4.1.base p1.skip y4.1.pending),y4.2)
theorem pV (n:Nat) (p0:Bool) (p1:L) (p2:o):CT Tryz.prog 200 [.ptr 0 0,Bo p0,.fn 201 [] [.ptr 1 0,.ptr 2 0]] [.box (Q p1),.box [.ptr 0 0],.box [.ptr 3 0],.box (dE p2)] (fp n p0 p1 p2) (fun _=>.fX []) (fun x=>[.box (Q x.1),.box [.ptr 0 0],.box [.ptr 3 0],.box (dE x.2)]):=by
 refine zC Tryz.func200 O fun r hp h hr E hE=>B fun _ hK1=>A (zm O (zn O (zf O (zl O (za O (zQ hK1 (B fun _ hK2=>A (zm O (zm O (zn O (zf O (zs O (zQ hK2 (B fun _ hK3=>A (zm O (zk hp hr h [1,2,0,3] Tryz.call201 (n9 n (L.mk p1.text p1.bo p1.at_ p1.base p0 p1.pending) p2) O (fun _=>O) fun y4 h=>zQ hK3 (A (zm O (zm O ?_)))))))))))))))))))
 exact zn O (zf O (zs O (N (zY .nil h O))))
def fq (n:Nat) (p0:L):D (Bool×L):=
 D.bind (az n p0) fun y3=>br (y3.1.Kind==0) (.ok (true,(L.mk y3.2.text y3.2.bo y3.2.at_ p0.base y3.2.skip y3.2.pending))) (D.bind (az n (L.mk y3.2.text y3.2.bo y3.2.at_ p0.base y3.2.skip y3.2.pending)) fun y5=>D.bind (bJ y5.1 ([125]:List UInt8)) fun y6=>.ok (y6,(L.mk y5.2.text y5.2.bo y5.2.at_ p0.base y5.2.skip y5.2.pending)))
theorem mx (n:Nat) (p0:L):CT Tryz.prog 105 [.ptr 0 0] [.box (Q p0)] (fq n p0) (fun x=>Bo x.1) (fun x=>[.box (Q x.2)]):=by
 refine zC Tryz.func105 O fun r hp h hr E hE=>B fun _ hK1=>A (za O (zQ hK1 (B fun _ hK2=>A (zm O (zk hp hr h [0] Tryz.call34 (aI n p0) O (fun _=>O) fun y3 h=>J (kj O O) O ?_)))))
 refine zc O (zm O (zb (y3.1.Kind==0) (fun hb4=>?_) fun hb4=>?_))
 · exact z1 hb4 h fun h=>zg hb4 O (zg hb4 O (zg hb4 O (zy hb4 O (za O (zQ hK2 (H (zX (.cons (K O) .nil) h O)))))))
 · exact z2 hb4 h fun h=>zG hb4 O (W O) (zK hb4 O hp hr h [0] Tryz.call34 (aI n (L.mk y3.2.text y3.2.bo y3.2.at_ p0.base y3.2.skip y3.2.pending)) O (fun _=>O) fun y5 h=>zK hb4 O hp hr h [] Tryz.call72 (cI y5.1 ([125]:List UInt8)) O (fun _=>O) fun y6 h=>zw hb4 O (za O (zQ hK2 (H (zX (.cons (K O) .nil) h O)))))
def eJ (n:Nat) (p0:Int) (p1:L):D (Bool×L):=
 iter (fun next5 (v4:Int)=>br (decide (v4<p1.at_)) (el p1.bo v4 fun Gb=>D.bind (bJ Gb ([44]:List UInt8)) fun y16=>br (!y16) (.ok (false,p1)) (gd (bK (v4+1)) (next5 (v4+1)))) (gd (bK (p0 - 1)) (el p1.bo (p0 - 1) fun x22=>el p1.bo p1.at_ fun x26=>gd ((0:Int)≤x22.End∧(x22.End:Int)≤x26.Pos∧x26.Pos≤(List.length p1.text:Int)) (D.bind (strings_Contains (sub p1.text x22.End x26.Pos) ([10]:List UInt8)) fun y31=>.ok ((!y31),p1))))) n (p0)
theorem lp (n:Nat) (p0:Int) (p1:L):CT Tryz.prog 106 [.ptr 0 0,I p0] [.box (Q p1)] (eJ n p0 p1) (fun x=>Bo x.1) (fun x=>[.box (Q x.2)]):=by
 refine zC Tryz.func106 O fun r hp h hr E hE=>B fun _ hK1=>A (za O (zQ hK1 (B fun _ hK2=>B fun _ hK3=>A (zm O (za O (zQ hK3 (z (zL hr h (fun (v4:Int)=>[(0,.ptr 0 0),(1,I p0),(5,I v4)]) (fun (v4:Int)=>[(0,.box (Q p1))]) O fun _ v4 _ hK6 h=>B fun _ hK7=>B fun _ hK8=>A (zm O (zm O (zn O (zf O (zl O (zc O (zQ hK8 (zB O h (fun _ h=>?_) fun _ h=>?_))))))))))))))))
 · refine V (hK7 _ _ (B fun _ hK10=>z (B fun _ hK11=>A (zm O (zn O (zf O (zl O (zm O (ze hr h fun Gb h13 h14 h15 h=>J (ia au.y au.b7 h13 h14 h15 O O O) O (J (iw O O) O ?_))))))))))
   refine zk hp hr h [] Tryz.call72 (cI Gb ([44]:List UInt8)) O (fun _=>O) fun y16 h=>J (eS O) O (zQ hK11 (zB O h (fun _ h=>?_) fun _ h=>?_))
   · exact B fun _ hK18=>A (za O (zQ hK18 (H (zX (.cons (K O) .nil) h O))))
   · exact V (hK10 _ _ (A (zm O (zd hr h fun hg19 h=>zo hg19 O (za O (N (hK6 _ _ _ h O)))))))
 · refine bB (hK2 _ _ (B fun _ hK20=>bL [0,1,2,3,4,5,6,7,8,9,10,11,12,13,14,15,16,17,18,19,20,21,22,23,24,25,26,27] O (by kernel_rfl) (zD O (W O) O (zD O (da O) O (zD O (bR O) O (zD O (bp O O O) O (zD O (W O) O (zD O (da O) O (zD O (bR O) O (zD O (bp O O O) O (zD O (W O) O (zd hr h fun hg21 h=>zD O (qv O O hg21) O (ze hr h fun x22 h23 h24 h25 h=>zD O (ia au.y au.b7 h23 h24 h25 O O O) O (zD O (kZ O O) O (zD O (gx O O) O (zD O (W O) O (zD O (da O) O (zD O (bR O) O (zD O (bp O O O) O (zD O (W O) O (zD O (da O) O ?_)))))))))))))))))))))
   refine zD O (bR O) O (zD O (bp O O O) O (ze hr h fun x26 h27 h28 h29 h=>zD O (ia au.y au.b7 h27 h28 h29 O O O) O (zD O (kZ O O) O (zD O (gx O O) O (zd hr h fun hg30 h=>zD O (ve O O O hg30.1 hg30.2.1 hg30.2.2) O (dL O (bX O) hr h [] Tryz.call94 (jz (sub p1.text x22.End x26.Pos) ([10]:List UInt8)) ⟨O,O,O,O,O,O,trivial⟩ O O (fun _=>⟨O,O,O⟩) (fun _=>⟨O,O⟩) hp (fun y31 h=>⟨aL O,?_⟩)))))))
   exact zD O (eS O) O (fK O O O (aL O) O (cX (hK20 _ _ (H (zX (.cons (K O) .nil) h O)))))
def gp (_:Int):D (aj×Bool):=
 .ok ((aj.mk 0 [] 0 [] [] [] [] [] 0),false)
theorem r6 (v:Int):Bg Tryz.prog 316 [.ptr 0 0,.ptr 1 0] [.box [.any,.any,.any,.any,.any,.any,.any,.any,.any],.box [.any]] (some (.iface 86 (.agg #[.int .i64 v]))) (gp v) (fun x=>[.box (be x.1),.box [Bo x.2]]):=by
 refine ml (m:=some (.iface 86 (.agg #[.int .i64 v]))) (mv:=.lF 86 (.agg [I v])) (fun g=>.lF 86 (.agg (.cons (.pv (.sc _)) .nil))) Tryz.func316 O O O fun r h hr E hE=>?_
 refine B fun _ hK1=>A (zm O (J (tK O O) O (zQ hK1 (dm O (fun hc=>?_) (fun hc=>?_)))))
 · refine A (J (dC O O) O ?_)
   refine zs O (zs O (aX (jt 0 O O) ?_))
   exact N (rW (.inr O) _ h.symm ⟨O,O,trivial⟩)
 · exact absurd (hc) (by simp)
theorem qH (es:List M):Bg Tryz.prog 316 [.ptr 0 0,.ptr 1 0] es none (D.ok ()) (fun _=>es):=by
 refine ml (m:=none) (mv:=Sc .nilIface) (fun g=>.pv (.sc _)) Tryz.func316 O O O fun r h hr E hE=>?_
 refine B fun _ hK1=>A (zm O (J (tL O) O (zQ hK1 (dm O (fun hc=>?_) (fun hc=>?_)))))
 · exact absurd (hc) (by simp)
 · exact V (oo h)
def oN (p0:au):D (Bool):=
 .ok ((p0.Kind==6))
theorem uB (p0:au):CT Tryz.prog 314 [.agg (fF p0)] [] (oN p0) (fun x=>Bo x) (fun _=>[]):=by
 refine zC Tryz.func314 O fun r hp h hr E hE=>B fun _ hK1=>A (eg 101 (hE _ O) ⟨O,O,O,O,O,O,O⟩ O ?_)
 exact za O (zQ hK1 (B fun _ hK2=>A (zf O (zl O (zc O (za O (zQ hK2 (H (zX (.cons (K O) .nil) h O)))))))))
def im (n:Nat) (p0:(List au)):D (Int):=
 iter (fun next5 (v4:Int)=>br (decide (v4<(List.length p0:Int))) (el p0 v4 fun zJ=>D.bind (oN zJ) fun y17=>br y17 (.ok (v4)) (gd (bK (v4+1)) (next5 (v4+1)))) (.ok ((-1)))) n (0)
theorem mR (n:Nat) (p0:(List au)):CT Tryz.prog 319 [.pv (.sl (List.length p0) (au.Cs p0)),.fn 314 [] []] [] (im n p0) (fun x=>I x) (fun _=>[]):=by
 refine zC Tryz.func319 O fun r hp h hr E hE=>B fun _ hK1=>A (za O (zQ hK1 (B fun _ hK2=>B fun _ hK3=>A (zm O (J (cJ O) O (zm O (zQ hK3 (z (zL hr h (fun (v4:Int)=>[(0,.pv (.sl (List.length p0) (au.Cs p0))),(1,.fn 314 [] []),(7,I (List.length p0:Int)),(8,I v4)]) (fun (v4:Int)=>[]) O fun _ v4 _ hK6 h=>B fun _ hK7=>A (zc O (zQ hK7 (B fun _ hK8=>zB O h (fun _ h=>?_) fun _ h=>?_))))))))))))
 · refine V (hK8 _ _ (B fun _ hK10=>z (B fun _ hK11=>A (zm O (za O (zQ hK11 (B fun _ hK12=>A (zm O (zm O (zm O (ze hr h fun zJ h14 h15 h16 h=>J (ia au.y au.b7 h14 h15 h16 O O O) O (J (iw O O) O ?_))))))))))))
   refine zk hp hr h [] Tryz.call314 (uB zJ) O (fun _=>O) fun y17 h=>zQ hK12 (zB O h (fun _ h=>?_) fun _ h=>?_)
   · exact B fun _ hK19=>A (zm O (za O (zQ hK19 (H (zX (.cons (K O) .nil) h O)))))
   · exact V (hK10 _ _ (A (zd hr h fun hg20 h=>zo hg20 O (zm O (N (hK6 _ _ _ h O))))))
 · exact bB (hK2 _ _ (B fun _ hK21=>A (za O (zQ hK21 (H (zX (.cons (K O) .nil) h O))))))
def fH (n:Nat) (p0:(List au)):D (Bool):=
 D.bind (im n p0) fun y3=>.ok ((decide (y3≥0)))
theorem lE (n:Nat) (p0:(List au)):CT Tryz.prog 315 [.pv (.sl (List.length p0) (au.Cs p0)),.fn 314 [] []] [] (fH n p0) (fun x=>Bo x) (fun _=>[]):=by
 exact zC Tryz.func315 O fun r hp h hr E hE=>B fun _ hK1=>A (za O (zQ hK1 (B fun _ hK2=>A (zm O (zm O (zk hp hr h [] Tryz.call319 (mR n p0) O (fun _=>O) fun y3 h=>zc O (za O (zQ hK2 (H (zX (.cons (K O) .nil) h O))))))))))
def bD (p0:Int) (p1:(List UInt8)) (p2:Int) (p3:P):D (P):=
 gd (bK (p3.at_+p2)) (gd (cV 40 (List.length p3.out) (List.length [(au.mk p0 p1 p3.at_ (p3.at_+p2))])) (gd (bK (p3.at_+p2)) (br (p0==6) (.ok ((P.mk p3.text (p3.at_+p2) (p3.out++[(au.mk p0 p1 p3.at_ (p3.at_+p2))]) p3.line))) (jn (fun (v9:Bool)=>br v9 (.ok ((P.mk p3.text (p3.at_+p2) (p3.out++[(au.mk p0 p1 p3.at_ (p3.at_+p2))]) true))) (br (p0==5) (gd (c7 ([32]:List UInt8) p1) (gd (c7 (([32]:List UInt8)++p1) ([32]:List UInt8)) (D.bind (strings_Contains ([32,95,124,95,32,95,32,46,46,46,32,41,32,93,32,125,32,63,32]:List UInt8) ((([32]:List UInt8)++p1)++([32]:List UInt8))) fun y16=>.ok ((P.mk p3.text (p3.at_+p2) (p3.out++[(au.mk p0 p1 p3.at_ (p3.at_+p2))]) y16))))) (.ok ((P.mk p3.text (p3.at_+p2) (p3.out++[(au.mk p0 p1 p3.at_ (p3.at_+p2))]) false))))) fun j10=>br (p0==1) (j10 ((p0==1))) (br (p0==2) (j10 ((p0==2))) (br (p0==3) (j10 ((p0==3))) (j10 ((p0==4)))))))))
theorem eY (p0:Int) (p1:(List UInt8)) (p2:Int) (p3:P):CT Tryz.prog 53 [.ptr 0 0,I p0,F p1,I p2] [.box [F p3.text,I p3.at_,.arr 1 (List.length p3.out),Bo p3.line],.app 49 4 (au.Cs p3.out)] (bD p0 p1 p2 p3) (fun _=>.fX []) (fun x=>[.box [F x.text,I x.at_,.arr 1 (List.length x.out),Bo x.line],.app 49 4 (au.Cs x.out)]):=by
 refine zC Tryz.func53 O fun r hp h hr E hE=>B fun _ hK1=>mi [] ?_
 refine bL [0,1,2,3,4,5,6,7,8,9,10,11,12,13,14,15,16,17,18,19,20,21,22] O (by kernel_rfl) (zD O (W O) O (zD O (W O) O (zD O (da O) O (zD O (bR O) O (zD O (bp O O O) O (zD O (W O) O (zD O (W O) O (zD O (W O) O (zD O (da O) O (zD O (bR O) O (zD O (bp O O O) O (zD O (W O) O (zD O (da O) O (zD O (bR O) O (zD O (bp O O O) O (zD O (W O) O (zd hr h fun hg2 h=>zD O (k9 O O hg2) O (zD O (bQ O O O) O ?_))))))))))))))))))
 refine ig [(au.mk p0 p1 p3.at_ (p3.at_+p2))] au.y O (bX O) ⟨O,O⟩ ⟨O,O⟩ ?_
 refine zd hr h fun hg3 h=>xi 127 O (bX O) ⟨jV.h,eL.h,au.y,au.b7,au.jh,hE _ O,O,O,(.inl O),⟨O,O,O⟩,hg3⟩ O O ⟨aL O,?_⟩
 refine zD O (da O) O (zD O (bR O) O (cf O ⟨O,O,O,O,O,O,O,O⟩ O (fun e22 he=>⟨aL O,?_⟩)))
 subst he
 refine gi (kz 127 1 [(0,.ptr 0 0),(1,I p0),(2,F p1),(3,I p2)] [(0,.box [F p3.text,I p3.at_,.arr 1 (List.length (p3.out++[(au.mk p0 p1 p3.at_ (p3.at_+p2))])),Bo p3.line])] (hE _ O) O O ⟨O,O⟩ ⟨⟨_,O,O,O⟩,⟨_,O,O,O⟩,⟨_,O,O,O⟩,⟨_,O,O,O⟩,trivial⟩ ⟨⟨_,O,O,O,O,O⟩,trivial⟩) ?_
 refine hK1 _ _ (B fun _ hK4=>A (zm O (zn O (zf O (zl O (zm O (zd hr h fun hg5 h=>zo hg5 O (zn O (zf O (zs O (zQ hK4 (B fun _ hK6=>A (zm O (zQ hK6 (z (B fun _ hK7=>A (zc O (za O (zQ hK7 (zB O h (fun _ h=>?_) fun _ h=>?_))))))))))))))))))))
 · exact V (zY .nil h O)
 · refine zM h (fun (v9:Bool)=>[(0,.ptr 0 0),(1,I p0),(2,F p1),(3,I p2),(52,Bo v9)]) (fun (v9:Bool)=>[(0,.box [F p3.text,I (p3.at_+p2),.arr 1 (List.length (p3.out++[(au.mk p0 p1 p3.at_ (p3.at_+p2))])),Bo p3.line]),(1,.app 49 4 (au.Cs (p3.out++[(au.mk p0 p1 p3.at_ (p3.at_+p2))])))]) (fun v9 h=>?_) fun _ _ hK11 h=>?_
   · refine zB O h (fun _ h=>?_) fun _ h=>?_
     · exact A (zm O (zn O (zf O (zs O (N (zY .nil h O))))))
     · refine A (zm O (zm O (zc O (zm O (zb (p0==5) (fun hb13=>?_) fun hb13=>?_)))))
       · exact z1 hb13 h fun h=>zG hb13 O (W O) (zd hr h fun hg14 h=>zG hb13 O (lN O O hg14) (zd hr h fun hg15 h=>zG hb13 O (lN O O hg15) (zK hb13 O hp hr h [] Tryz.call94 (jz ([32,95,124,95,32,95,32,46,46,46,32,41,32,93,32,125,32,63,32]:List UInt8) ((([32]:List UInt8)++p1)++([32]:List UInt8))) O (fun _=>O) fun y16 h=>zy hb13 O (zn O (zf O (zs O (N (zY .nil h O))))))))
       · exact z2 hb13 h fun h=>zg hb13 O (zg hb13 O (zg hb13 O (zg hb13 O (zw hb13 O (zn O (zf O (zs O (N (zY .nil h O)))))))))
   · refine B fun _ hK17=>A (zc O (za O (zQ hK17 (zB O h (fun _ h=>?_) fun _ h=>?_))))
     · exact V (hK11 _ _ _ h O)
     · refine B fun _ hK19=>A (zc O (za O (zQ hK19 (zB O h (fun _ h=>?_) fun _ h=>?_))))
       · exact V (hK11 _ _ _ h O)
       · refine B fun _ hK21=>A (zc O (za O (zQ hK21 (zB O h (fun _ h=>?_) fun _ h=>?_))))
         · exact V (hK11 _ _ _ h O)
         · exact A (zc O (za O (N (hK11 _ _ _ h O))))
def stringslite_HasPrefix (p0:(List UInt8)) (p1:(List UInt8)):D (Bool):=
 br (decide ((List.length p0:Int)≥(List.length p1:Int))) (gd ((0:Int)≤(List.length p1:Int)∧(List.length p1:Int)≤(List.length p0:Int)) (.ok (((iU p0 (List.length p1:Int))==p1)))) (.ok (false))
theorem pn (p0:(List UInt8)) (p1:(List UInt8)):CT Tryz.prog 137 [F p0,F p1] [] (stringslite_HasPrefix p0 p1) (fun x=>Bo x) (fun _=>[]):=by
 refine zC Tryz.func137 O fun r hp h hr E hE=>B fun _ hK1=>A (za O (zQ hK1 (B fun _ hK2=>A (zm O (J (dr O) O (zm O (J (dr O) O (zc O (zm O (zb (decide ((List.length p0:Int)≥(List.length p1:Int))) (fun hb3=>?_) fun hb3=>?_))))))))))
 · exact z1 hb3 h fun h=>zG hb3 O (W O) (zG hb3 O (W O) (zG hb3 O (dr O) (zd hr h fun hg4 h=>zG hb3 O (pK O O hg4.1 hg4.2) (zG hb3 O (W O) (zG hb3 O (jc O O) (zy hb3 O (za O (zQ hK2 (H (zX (.cons (K O) .nil) h O))))))))))
 · exact z2 hb3 h fun h=>zg hb3 O (zg hb3 O (zg hb3 O (zg hb3 O (zg hb3 O (zg hb3 O (zw hb3 O (za O (zQ hK2 (H (zX (.cons (K O) .nil) h O))))))))))
def strings_HasPrefix (p0:(List UInt8)) (p1:(List UInt8)):D (Bool):=
 D.bind (stringslite_HasPrefix p0 p1) fun y3=>.ok (y3)
theorem iY (p0:(List UInt8)) (p1:(List UInt8)):CT Tryz.prog 95 [F p0,F p1] [] (strings_HasPrefix p0 p1) (fun x=>Bo x) (fun _=>[]):=by
 exact zC Tryz.func95 O fun r hp h hr E hE=>B fun _ hK1=>A (za O (zQ hK1 (B fun _ hK2=>A (zm O (zm O (zk hp hr h [] Tryz.call137 (pn p0 p1) O (fun _=>O) fun y3 h=>za O (zQ hK2 (H (zX (.cons (K O) .nil) h O)))))))))
def gv (p0:Int):D (Bool):=
 br (decide (p0≥48)) (.ok ((decide (p0≤57)))) (.ok (false))
theorem kG (p0:Int):CT Tryz.prog 98 [Sc (.int .u8 p0)] [] (gv p0) (fun x=>Bo x) (fun _=>[]):=by
 refine zC Tryz.func98 O fun r hp h hr E hE=>B fun _ hK1=>A (za O (zQ hK1 (B fun _ hK2=>A (zm O (zc O (zm O (zb (decide (p0≥48)) (fun hb3=>?_) fun hb3=>?_)))))))
 · exact z1 hb3 h fun h=>zG hb3 O (W O) (zG hb3 O (bw O O O) (zy hb3 O (za O (zQ hK2 (H (zX (.cons (K O) .nil) h O))))))
 · exact z2 hb3 h fun h=>zg hb3 O (zg hb3 O (zw hb3 O (za O (zQ hK2 (H (zX (.cons (K O) .nil) h O))))))
def jC (n:Nat) (p0:(List UInt8)):D (Int):=
 jn (fun (v3:Int)=>jn (fun (v7:Bool)=>br v7 (gd (bK (v3+1)) (iter (fun next14 (v13:Int)=>br (decide (v13<(List.length p0:Int))) (el p0 v13 fun b19=>D.bind (gv (b19.toNat:Int)) fun y23=>br y23 (gd (bK (v13+1)) (next14 (v13+1))) (.ok (v13))) (.ok (v13))) n (v3+1))) (.ok (v3))) fun j8=>gd (bK (v3+1)) (br (decide ((v3+1)<(List.length p0:Int))) (el p0 v3 fun b31=>br ((b31.toNat:Int)==46) (gd (bK (v3+1)) (el p0 (v3+1) fun b37=>D.bind (gv (b37.toNat:Int)) fun y41=>j8 (y41))) (j8 (false))) (j8 (false)))) fun j4=>iter (fun next43 (v42:Int)=>br (decide (v42<(List.length p0:Int))) (el p0 v42 fun b48=>D.bind (gv (b48.toNat:Int)) fun y52=>br y52 (gd (bK (v42+1)) (next43 (v42+1))) (j4 (v42))) (j4 (v42))) n (0)
theorem vz (n:Nat) (p0:(List UInt8)):CT Tryz.prog 99 [F p0] [] (jC n p0) (fun x=>I x) (fun _=>[]):=by
 refine zC Tryz.func99 O fun r hp h hr E hE=>B fun _ hK1=>A (za O (zQ hK1 (B fun _ hK2=>A (za O (zQ hK2 (zM h (fun (v3:Int)=>[(0,F p0),(3,I v3)]) (fun (v3:Int)=>[]) (fun v3 h=>?_) fun _ _ hK5 h=>?_))))))
 · refine B fun _ hK6=>zM h (fun (v7:Bool)=>[(0,F p0),(3,I v3),(33,Bo v7)]) (fun (v7:Bool)=>[]) (fun v7 h=>?_) fun _ _ hK9 h=>?_
   · refine zB O h (fun _ h=>?_) fun _ h=>?_
     · refine B fun _ hK11=>A (zm O (zd hr h fun hg12 h=>zo hg12 O (za O (zQ hK11 (z (zL hr h (fun (v13:Int)=>[(0,F p0),(3,I v13)]) (fun (v13:Int)=>[]) O fun _ v13 _ hK15 h=>B fun _ hK16=>B fun _ hK17=>A (zm O (zm O (J (dr O) O (zc O (zm O (zb (decide (v13<(List.length p0:Int))) (fun hb18=>?_) fun hb18=>?_))))))))))))
       · refine z1 hb18 h fun h=>zG hb18 O (W O) (zG hb18 O (W O) (ze hr h fun b19 h20 h21 h22 h=>zG hb18 O (dZ O O h20 h22) (zK hb18 O hp hr h [] Tryz.call98 (kG (b19.toNat:Int)) O (fun _=>O) fun y23 h=>zy hb18 O (zQ hK17 (zB O h (fun _ h=>?_) fun _ h=>?_)))))
         · exact V (hK16 _ _ (z (A (zm O (zd hr h fun hg25 h=>zo hg25 O (za O (N (hK15 _ _ _ h O))))))))
         · exact bB (hK6 _ _ (B fun _ hK26=>A (zm O (za O (zQ hK26 (H (zX (.cons (K O) .nil) h O)))))))
       · refine z2 hb18 h fun h=>zg hb18 O (zg hb18 O (zg hb18 O (zg hb18 O (zw hb18 O (zQ hK17 (dm O (fun hc=>?_) (fun hc=>?_)))))))
         · exact absurd (hc) (by simp)
         · exact bB (hK6 _ _ (B fun _ hK27=>A (zm O (za O (zQ hK27 (H (zX (.cons (K O) .nil) h O)))))))
     · exact V (hK6 _ _ (B fun _ hK28=>A (zm O (za O (zQ hK28 (H (zX (.cons (K O) .nil) h O)))))))
   · refine A (zm O (zd hr h fun hg29 h=>zo hg29 O (zm O (J (dr O) O (zc O (zm O (zb (decide ((v3+1)<(List.length p0:Int))) (fun hb30=>?_) fun hb30=>?_)))))))
     · refine z1 hb30 h fun h=>zG hb30 O (W O) (zG hb30 O (W O) (ze hr h fun b31 h32 h33 h34 h=>zG hb30 O (dZ O O h32 h34) (zG hb30 O (bw O O O) (zy hb30 O (zm O (zb ((b31.toNat:Int)==46) (fun hb35=>?_) fun hb35=>?_))))))
       · exact z1 hb35 h fun h=>zG hb35 O (W O) (zG hb35 O (W O) (zd hr h fun hg36 h=>zG hb35 O (k9 O O hg36) (ze hr h fun b37 h38 h39 h40 h=>zG hb35 O (dZ O O h38 h40) (zK hb35 O hp hr h [] Tryz.call98 (kG (b37.toNat:Int)) O (fun _=>O) fun y41 h=>zy hb35 O (N (hK9 _ _ _ h O))))))
       · exact z2 hb35 h fun h=>zg hb35 O (zg hb35 O (zg hb35 O (zg hb35 O (zg hb35 O (zw hb35 O (N (hK9 _ _ _ h O)))))))
     · exact z2 hb30 h fun h=>zg hb30 O (zg hb30 O (zg hb30 O (zg hb30 O (zw hb30 O (zm O (zg O O (zg O O (zg O O (zg O O (zg O O (J (dI O O) O (N (hK9 _ _ _ h O)))))))))))))
 · refine z (zL hr h (fun (v42:Int)=>[(0,F p0),(3,I v42)]) (fun (v42:Int)=>[]) O fun _ v42 _ hK44 h=>B fun _ hK45=>B fun _ hK46=>A (zm O (zm O (J (dr O) O (zc O (zm O (zb (decide (v42<(List.length p0:Int))) (fun hb47=>?_) fun hb47=>?_)))))))
   · refine z1 hb47 h fun h=>zG hb47 O (W O) (zG hb47 O (W O) (ze hr h fun b48 h49 h50 h51 h=>zG hb47 O (dZ O O h49 h51) (zK hb47 O hp hr h [] Tryz.call98 (kG (b48.toNat:Int)) O (fun _=>O) fun y52 h=>zy hb47 O (zQ hK46 (zB O h (fun _ h=>?_) fun _ h=>?_)))))
     · exact V (hK45 _ _ (z (A (zm O (zd hr h fun hg54 h=>zo hg54 O (za O (N (hK44 _ _ _ h O))))))))
     · exact bB (hK5 _ _ _ h O)
   · refine z2 hb47 h fun h=>zg hb47 O (zg hb47 O (zg hb47 O (zg hb47 O (zw hb47 O (zQ hK46 (dm O (fun hc=>?_) (fun hc=>?_)))))))
     · exact absurd (hc) (by simp)
     · exact bB (hK5 _ _ _ h O)
def eV (n:Nat) (p0:(List UInt8)):D ((List UInt8)):=
 iter (fun next5 (v4:Int)=>br (decide (v4<(List.length [([95,124,95,32,46,46,46]:List UInt8),([61,61,32,33,61,32,60,61,32,62,61,32,61,126,32,33,126,32,38,38,32,124,124]:List UInt8),([95,32,40,32,41,32,91,32,93,32,123,32,125,32,58,32,44,32,46,32,63,32,33,32,42,32,38,32,124,32,61,32,60,32,62,32,43,32,45,32,47,32,37]:List UInt8)]:Int))) (el [([95,124,95,32,46,46,46]:List UInt8),([61,61,32,33,61,32,60,61,32,62,61,32,61,126,32,33,126,32,38,38,32,124,124]:List UInt8),([95,32,40,32,41,32,91,32,93,32,123,32,125,32,58,32,44,32,46,32,63,32,33,32,42,32,38,32,124,32,61,32,60,32,62,32,43,32,45,32,47,32,37]:List UInt8)] v4 fun Gb=>D.bind (strings_Split Gb ([32]:List UInt8)) fun y17=>iter (fun next19 (v18:Int)=>br (decide (v18<(List.length y17:Int))) (el y17 v18 fun x26=>D.bind (strings_HasPrefix p0 x26) fun y31=>br y31 (.ok (x26)) (gd (bK (v18+1)) (next19 (v18+1)))) (gd (bK (v4+1)) (next5 (v4+1)))) n (0)) (.ok (([]:List UInt8)))) n (0)
theorem tO (n:Nat) (p0:(List UInt8)):CT Tryz.prog 102 [F p0] [] (eV n p0) (fun x=>F x) (fun _=>[]):=by
 refine zC Tryz.func102 O fun r hp h hr E hE=>B fun _ hK1=>A (za O (zQ hK1 (B fun _ hK2=>B fun _ hK3=>A (b4 [([95,124,95,32,46,46,46]:List UInt8),([61,61,32,33,61,32,60,61,32,62,61,32,61,126,32,33,126,32,38,38,32,124,124]:List UInt8),([95,32,40,32,41,32,91,32,93,32,123,32,125,32,58,32,44,32,46,32,63,32,33,32,42,32,38,32,124,32,61,32,60,32,62,32,43,32,45,32,47,32,37]:List UInt8)] fk ⟨O,O⟩ O ?_))))
 refine J (cJ O) O (zm O (zQ hK3 (z (zL hr h (fun (v4:Int)=>[(0,F p0),(7,.pv (.sl (List.length [([95,124,95,32,46,46,46]:List UInt8),([61,61,32,33,61,32,60,61,32,62,61,32,61,126,32,33,126,32,38,38,32,124,124]:List UInt8),([95,32,40,32,41,32,91,32,93,32,123,32,125,32,58,32,44,32,46,32,63,32,33,32,42,32,38,32,124,32,61,32,60,32,62,32,43,32,45,32,47,32,37]:List UInt8)]) (ch [([95,124,95,32,46,46,46]:List UInt8),([61,61,32,33,61,32,60,61,32,62,61,32,61,126,32,33,126,32,38,38,32,124,124]:List UInt8),([95,32,40,32,41,32,91,32,93,32,123,32,125,32,58,32,44,32,46,32,63,32,33,32,42,32,38,32,124,32,61,32,60,32,62,32,43,32,45,32,47,32,37]:List UInt8)]))),(8,I (List.length [([95,124,95,32,46,46,46]:List UInt8),([61,61,32,33,61,32,60,61,32,62,61,32,61,126,32,33,126,32,38,38,32,124,124]:List UInt8),([95,32,40,32,41,32,91,32,93,32,123,32,125,32,58,32,44,32,46,32,63,32,33,32,42,32,38,32,124,32,61,32,60,32,62,32,43,32,45,32,47,32,37]:List UInt8)]:Int)),(9,I v4)]) (fun (v4:Int)=>[]) O fun _ v4 _ hK6 h=>B fun _ hK7=>A (zc O (zQ hK7 (B fun _ hK8=>zB O h (fun _ h=>?_) fun _ h=>?_)))))))
 · refine V (hK8 _ _ (B fun _ hK10=>z (B fun _ hK11=>A (ze hr h fun Gb h13 h14 h15 h=>J (ia fk hO h13 h14 h15 O O O) O (J (gx O O) O (za O (zQ hK11 (B fun _ hK16=>A (zm O (zk hp hr h [] Tryz.call146 (mP Gb ([32]:List UInt8)) O (fun _=>O) fun y17 h=>J (cJ O) O (zm O (zQ hK16 (z (zL hr h (fun (v18:Int)=>[(0,F p0),(7,.pv (.sl (List.length [([95,124,95,32,46,46,46]:List UInt8),([61,61,32,33,61,32,60,61,32,62,61,32,61,126,32,33,126,32,38,38,32,124,124]:List UInt8),([95,32,40,32,41,32,91,32,93,32,123,32,125,32,58,32,44,32,46,32,63,32,33,32,42,32,38,32,124,32,61,32,60,32,62,32,43,32,45,32,47,32,37]:List UInt8)]) (ch [([95,124,95,32,46,46,46]:List UInt8),([61,61,32,33,61,32,60,61,32,62,61,32,61,126,32,33,126,32,38,38,32,124,124]:List UInt8),([95,32,40,32,41,32,91,32,93,32,123,32,125,32,58,32,44,32,46,32,63,32,33,32,42,32,38,32,124,32,61,32,60,32,62,32,43,32,45,32,47,32,37]:List UInt8)]))),(8,I (List.length [([95,124,95,32,46,46,46]:List UInt8),([61,61,32,33,61,32,60,61,32,62,61,32,61,126,32,33,126,32,38,38,32,124,124]:List UInt8),([95,32,40,32,41,32,91,32,93,32,123,32,125,32,58,32,44,32,46,32,63,32,33,32,42,32,38,32,124,32,61,32,60,32,62,32,43,32,45,32,47,32,37]:List UInt8)]:Int)),(9,I v4),(14,.pv (.sl (List.length y17) (ch y17))),(15,I (List.length y17:Int)),(16,I v18)]) (fun (v18:Int)=>[]) O fun _ v18 _ hK20 h=>B fun _ hK21=>A (zc O (zQ hK21 (B fun _ hK22=>?_)))))))))))))))))
   refine zB O h (fun _ h=>?_) fun _ h=>?_
   · refine V (hK22 _ _ (B fun _ hK24=>z (B fun _ hK25=>A (ze hr h fun x26 h27 h28 h29 h=>J (ia fk hO h27 h28 h29 O O O) O (J (gx O O) O (za O (zQ hK25 (B fun _ hK30=>A (zm O (zm O (zk hp hr h [] Tryz.call95 (iY p0 x26) O (fun _=>O) fun y31 h=>zQ hK30 (zB O h (fun _ h=>?_) fun _ h=>?_))))))))))))
     · exact B fun _ hK33=>A (zm O (za O (zQ hK33 (H (zX (.cons (K O) .nil) h O)))))
     · exact V (hK24 _ _ (A (zd hr h fun hg34 h=>zo hg34 O (zm O (N (hK20 _ _ _ h O))))))
   · exact bB (hK10 _ _ (A (zd hr h fun hg35 h=>zo hg35 O (zm O (N (hK6 _ _ _ h O))))))
 · exact bB (hK2 _ _ (B fun _ hK36=>A (za O (zQ hK36 (H (zX (.cons (K O) .nil) h O))))))
def ei (p0:Int):D (Int):=
 .ok (wE .u8 p0 32)
theorem dJ (p0:Int):CT Tryz.prog 250 [Sc (.int .u8 p0)] [] (ei p0) (fun x=>Sc (.int .u8 x)) (fun _=>[]):=by
 exact zC Tryz.func250 O fun r hp h hr E hE=>B fun _ hK1=>A (za O (zQ hK1 (B fun _ hK2=>A (zm O (J (yu O O) O (za O (zQ hK2 (H (zX (.cons (K O) .nil) h O)))))))))
end Go.Abs
end
section
namespace Go.Abs
open Go.Proofs D
def my (n:Nat) (p0:(List UInt8)):D (Bool):=
 jn (fun (v4:(List UInt8))=>jn (fun (v8:Int×Int×Bool)=>iter (fun next13 (v12:Int×Int)=>br (decide (v12.2<(List.length v4:Int))) (jn (fun (v18:Int)=>gd (bK (v12.2+1)) (next13 (v18,v12.2+1))) fun j19=>jn (fun (_:Unit)=>el v4 v12.2 fun b27=>br ((b27.toNat:Int)==95) (br (v12.1 !=48) (.ok (false)) (j19 (95))) (br (v12.1==95) (.ok (false)) (j19 (33)))) fun j23=>el v4 v12.2 fun b42=>br (decide (48≤(b42.toNat:Int))) (el v4 v12.2 fun b47=>br (decide ((b47.toNat:Int)≤57)) (j19 (48)) (br v8.2.2 (el v4 v12.2 fun b54=>D.bind (ei (b54.toNat:Int)) fun y58=>br (decide (97≤y58)) (el v4 v12.2 fun b60=>D.bind (ei (b60.toNat:Int)) fun y64=>br (decide (y64≤102)) (j19 (48)) (j23 ())) (j23 ())) (j23 ()))) (br v8.2.2 (el v4 v12.2 fun b68=>D.bind (ei (b68.toNat:Int)) fun y72=>br (decide (97≤y72)) (el v4 v12.2 fun b74=>D.bind (ei (b74.toNat:Int)) fun y78=>br (decide (y78≤102)) (j19 (48)) (j23 ())) (j23 ())) (j23 ()))) (.ok ((v12.1 !=95)))) n (v8.1,v8.2.1)) fun j9=>jn (fun (v82:Bool)=>br v82 (el v4 1 fun b88=>D.bind (ei (b88.toNat:Int)) fun y92=>j9 (48,2,(y92==120))) (j9 (94,0,false))) fun j83=>br (decide ((List.length v4:Int)≥2)) (el v4 0 fun b94=>br ((b94.toNat:Int)==48) (el v4 1 fun b99=>D.bind (ei (b99.toNat:Int)) fun y103=>br (y103==98) (j83 (true)) (el v4 1 fun b105=>D.bind (ei (b105.toNat:Int)) fun y109=>br (y109==111) (j83 (true)) (el v4 1 fun b111=>D.bind (ei (b111.toNat:Int)) fun y115=>j83 ((y115==120))))) (j83 (false))) (j83 (false))) fun j5=>br (decide ((List.length p0:Int)≥1)) (el p0 0 fun b118=>br ((b118.toNat:Int)==45) (gd ((0:Int)≤1∧1≤(List.length p0:Int)) (j5 (dp p0 1))) (el p0 0 fun b124=>br ((b124.toNat:Int)==43) (gd ((0:Int)≤1∧1≤(List.length p0:Int)) (j5 (dp p0 1))) (j5 (p0)))) (j5 (p0))
theorem pW (n:Nat) (p0:(List UInt8)):CT Tryz.prog 251 [F p0] [] (my n p0) (fun x=>Bo x) (fun _=>[]):=by
 refine zC Tryz.func251 O fun r hp h hr E hE=>B fun _ hK1=>A (za O (zQ hK1 (B fun _ hK2=>A (za O (zQ hK2 (B fun _ hK3=>A (za O (zQ hK3 (zM h (fun (v4:(List UInt8))=>[(0,F v4),(3,Sc (.int .i32 94)),(4,I 0)]) (fun (v4:(List UInt8))=>[]) (fun v4 h=>?_) fun _ _ hK6 h=>?_)))))))))
 · refine B fun _ hK7=>A (za O (zQ hK7 (zM h (fun (v8:Int×Int×Bool)=>[(0,F v4),(3,Sc (.int .i32 v8.1)),(4,I v8.2.1),(5,Bo v8.2.2)]) (fun (v8:Int×Int×Bool)=>[]) (fun v8 h=>?_) fun _ _ hK10 h=>?_)))
   · refine B fun _ hK11=>z (zL hr h (fun (v12:Int×Int)=>[(0,F v4),(3,Sc (.int .i32 v12.1)),(4,I v12.2),(5,Bo v8.2.2)]) (fun (v12:Int×Int)=>[]) O fun _ v12 _ hK14 h=>B fun _ hK15=>B fun _ hK16=>A (zm O (zm O (J (dr O) O (zc O (zQ hK16 (zB O h (fun _ h=>?_) fun _ h=>?_)))))))
     · refine V (hK15 _ _ (zM h (fun (v18:Int)=>[(0,F v4),(3,Sc (.int .i32 v18)),(4,I v12.2),(5,Bo v8.2.2)]) (fun (v18:Int)=>[]) (fun v18 h=>?_) fun _ _ hK20 h=>?_))
       · exact A (zm O (zd hr h fun hg21 h=>zo hg21 O (za O (N (hK14 _ _ _ h O)))))
       · refine z (zM h (fun (v22:Unit)=>[(0,F v4),(3,Sc (.int .i32 v12.1)),(4,I v12.2),(5,Bo v8.2.2)]) (fun (v22:Unit)=>[]) (fun v22 h=>?_) fun _ _ hK24 h=>?_)
         · refine B fun _ hK25=>B fun _ hK26=>A (zm O (zm O (ze hr h fun b27 h28 h29 h30 h=>J (dZ O O h28 h30) O (zc O (zQ hK26 (zB O h (fun _ h=>?_) fun _ h=>?_))))))
           · refine B fun _ hK32=>B fun _ hK33=>A (zm O (zc O (zQ hK33 (zB O h (fun _ h=>?_) fun _ h=>?_))))
             · exact B fun _ hK35=>A (za O (zQ hK35 (H (zX (.cons (K O) .nil) h O))))
             · exact V (hK32 _ _ (B fun _ hK36=>A (za O (zQ hK36 (bB (hK20 _ _ _ h O))))))
           · refine V (hK25 _ _ (B fun _ hK37=>B fun _ hK38=>A (zm O (zc O (zQ hK38 (zB O h (fun _ h=>?_) fun _ h=>?_))))))
             · exact B fun _ hK40=>A (za O (zQ hK40 (H (zX (.cons (K O) .nil) h O))))
             · exact V (hK37 _ _ (A (za O (N (hK20 _ _ _ h O)))))
         · refine B fun _ hK41=>A (zm O (zm O (ze hr h fun b42 h43 h44 h45 h=>J (dZ O O h43 h45) O (zc O (zm O (zb (decide (48≤(b42.toNat:Int))) (fun hb46=>?_) fun hb46=>?_))))))
           · refine z1 hb46 h fun h=>zG hb46 O (W O) (zG hb46 O (W O) (ze hr h fun b47 h48 h49 h50 h=>zG hb46 O (dZ O O h48 h50) (zG hb46 O (bw O O O) (zy hb46 O (zm O (zb (decide ((b47.toNat:Int)≤57)) (fun hb51=>?_) fun hb51=>?_))))))
             · refine z1 hb51 h fun h=>zg hb51 O (zg hb51 O (zu O (zu O (zu O (zu O (zu O (zg hb51 O (zg hb51 O (zu O (zu O (zu O (zu O (zu O (zg hb51 O (zy hb51 O (zQ hK41 (dm O (fun hc=>?_) (fun hc=>?_))))))))))))))))))
               · exact B fun _ hK52=>A (za O (zQ hK52 (bB (hK20 _ _ _ h O))))
               · exact absurd (hc) (by simp)
             · refine z2 hb51 h fun h=>zG hb51 O (W O) (zG hb51 O (W O) (zb v8.2.2 (fun hb53=>?_) fun hb53=>?_))
               · refine z1 hb53 h fun h=>zG hb53 O (W O) (zG hb53 O (W O) (ze hr h fun b54 h55 h56 h57 h=>zG hb53 O (dZ O O h55 h57) (zK hb53 O hp hr h [] Tryz.call250 (dJ (b54.toNat:Int)) O (fun _=>O) fun y58 h=>zG hb53 O (bw O O O) (zG hb51 O (dD hb53 O O) (zG hb51 O (W O) (zb (decide (97≤y58)) (fun hb59=>?_) fun hb59=>?_))))))
                 · refine z1 hb59 h fun h=>zG hb59 O (W O) (zG hb59 O (W O) (ze hr h fun b60 h61 h62 h63 h=>zG hb59 O (dZ O O h61 h63) (zK hb59 O hp hr h [] Tryz.call250 (dJ (b60.toNat:Int)) O (fun _=>O) fun y64 h=>zG hb59 O (bw O O O) (zG hb51 O (dD hb59 O O) (zw hb51 O (zQ hK41 (zB O h (fun _ h=>?_) fun _ h=>?_)))))))
                   · exact B fun _ hK66=>A (za O (zQ hK66 (bB (hK20 _ _ _ h O))))
                   · exact V (hK24 _ _ _ h O)
                 · refine z2 hb59 h fun h=>zg hb59 O (zg hb59 O (zg hb59 O (zg hb59 O (zg hb59 O (zG hb51 O (dy hb59 O O) (zw hb51 O (zQ hK41 (dm O (fun hc=>?_) (fun hc=>?_)))))))))
                   · exact absurd (hc) (by simp)
                   · exact V (hK24 _ _ _ h O)
               · refine z2 hb53 h fun h=>zg hb53 O (zg hb53 O (zg hb53 O (zg hb53 O (zg hb53 O (zG hb51 O (dy hb53 O O) (zG hb51 O (W O) (zg O O (zg O O (zg O O (zg O O (zg O O (zG hb51 O (dI O O) (zw hb51 O (zQ hK41 (dm O (fun hc=>?_) (fun hc=>?_))))))))))))))))
                 · exact absurd (hc) (by simp)
                 · exact V (hK24 _ _ _ h O)
           · refine z2 hb46 h fun h=>zg hb46 O (zg hb46 O (zg hb46 O (zg hb46 O (zw hb46 O (zm O (zG O O (W O) (zG O O (W O) (zb v8.2.2 (fun hb67=>?_) fun hb67=>?_))))))))
             · refine z1 hb67 h fun h=>zG hb67 O (W O) (zG hb67 O (W O) (ze hr h fun b68 h69 h70 h71 h=>zG hb67 O (dZ O O h69 h71) (zK hb67 O hp hr h [] Tryz.call250 (dJ (b68.toNat:Int)) O (fun _=>O) fun y72 h=>zG hb67 O (bw O O O) (zG O O (dD hb67 O O) (zG O O (W O) (zb (decide (97≤y72)) (fun hb73=>?_) fun hb73=>?_))))))
               · refine z1 hb73 h fun h=>zG hb73 O (W O) (zG hb73 O (W O) (ze hr h fun b74 h75 h76 h77 h=>zG hb73 O (dZ O O h75 h77) (zK hb73 O hp hr h [] Tryz.call250 (dJ (b74.toNat:Int)) O (fun _=>O) fun y78 h=>zG hb73 O (bw O O O) (zG O O (dD hb73 O O) (J (dI O O) O (zQ hK41 (zB O h (fun _ h=>?_) fun _ h=>?_)))))))
                 · exact B fun _ hK80=>A (za O (zQ hK80 (bB (hK20 _ _ _ h O))))
                 · exact V (hK24 _ _ _ h O)
               · refine z2 hb73 h fun h=>zg hb73 O (zg hb73 O (zg hb73 O (zg hb73 O (zg hb73 O (zG O O (dy hb73 O O) (J (dI O O) O (zQ hK41 (dm O (fun hc=>?_) (fun hc=>?_)))))))))
                 · exact absurd (hc) (by simp)
                 · exact V (hK24 _ _ _ h O)
             · refine z2 hb67 h fun h=>zg hb67 O (zg hb67 O (zg hb67 O (zg hb67 O (zg hb67 O (zG O O (dy hb67 O O) (zG O O (W O) (zg O O (zg O O (zg O O (zg O O (zg O O (zG O O (dI O O) (J (dI O O) O (zQ hK41 (dm O (fun hc=>?_) (fun hc=>?_))))))))))))))))
               · exact absurd (hc) (by simp)
               · exact V (hK24 _ _ _ h O)
     · exact bB (hK11 _ _ (B fun _ hK81=>A (zm O (zc O (za O (zQ hK81 (H (zX (.cons (K O) .nil) h O))))))))
   · refine zM h (fun (v82:Bool)=>[(0,F v4),(3,Sc (.int .i32 94)),(4,I 0),(5,Bo false),(46,Bo v82)]) (fun (v82:Bool)=>[]) (fun v82 h=>?_) fun _ _ hK84 h=>?_
     · refine zB O h (fun _ h=>?_) fun _ h=>?_
       · exact B fun _ hK86=>A (za O (zQ hK86 (B fun _ hK87=>A (za O (zQ hK87 (A (zm O (ze hr h fun b88 h89 h90 h91 h=>J (dZ O O h89 h91) O (zk hp hr h [] Tryz.call250 (dJ (b88.toNat:Int)) O (fun _=>O) fun y92 h=>zc O (za O (N (hK10 _ _ _ h O))))))))))))
       · exact V (hK10 _ _ _ h O)
     · refine A (zm O (J (dr O) O (zc O (zm O (zb (decide ((List.length v4:Int)≥2)) (fun hb93=>?_) fun hb93=>?_)))))
       · refine z1 hb93 h fun h=>zG hb93 O (W O) (ze hr h fun b94 h95 h96 h97 h=>zG hb93 O (dZ O O h95 h97) (zG hb93 O (bw O O O) (zy hb93 O (zm O (zb ((b94.toNat:Int)==48) (fun hb98=>?_) fun hb98=>?_)))))
         · refine z1 hb98 h fun h=>zG hb98 O (W O) (ze hr h fun b99 h100 h101 h102 h=>zG hb98 O (dZ O O h100 h102) (zK hb98 O hp hr h [] Tryz.call250 (dJ (b99.toNat:Int)) O (fun _=>O) fun y103 h=>zG hb98 O (bw O O O) (zG hb98 O (W O) (zb (y103==98) (fun hb104=>?_) fun hb104=>?_))))
           · exact z1 hb104 h fun h=>zg hb104 O (zg hb104 O (zg hb104 O (zg hb104 O (zG hb98 O (dD hb104 O O) (zG hb98 O (W O) (zg O O (zg O O (zg O O (zg O O (zG hb98 O (uL O O) (zy hb98 O (N (hK84 _ _ _ h O)))))))))))))
           · refine z2 hb104 h fun h=>zG hb104 O (W O) (ze hr h fun b105 h106 h107 h108 h=>zG hb104 O (dZ O O h106 h108) (zK hb104 O hp hr h [] Tryz.call250 (dJ (b105.toNat:Int)) O (fun _=>O) fun y109 h=>zG hb104 O (bw O O O) (zG hb98 O (dy hb104 O O) (zG hb98 O (W O) (zb (y109==111) (fun hb110=>?_) fun hb110=>?_)))))
             · exact z1 hb110 h fun h=>zg hb110 O (zg hb110 O (zg hb110 O (zg hb110 O (zG hb98 O (dD hb110 O O) (zy hb98 O (N (hK84 _ _ _ h O)))))))
             · exact z2 hb110 h fun h=>zG hb110 O (W O) (ze hr h fun b111 h112 h113 h114 h=>zG hb110 O (dZ O O h112 h114) (zK hb110 O hp hr h [] Tryz.call250 (dJ (b111.toNat:Int)) O (fun _=>O) fun y115 h=>zG hb110 O (bw O O O) (zG hb98 O (dy hb110 O O) (zy hb98 O (N (hK84 _ _ _ h O))))))
         · exact z2 hb98 h fun h=>zg hb98 O (zg hb98 O (zg hb98 O (zg hb98 O (zg hb98 O (zu O (zu O (zu O (zu O (zg hb98 O (zg hb98 O (zu O (zu O (zu O (zu O (zg hb98 O (zw hb98 O (N (hK84 _ _ _ h O))))))))))))))))))
       · exact z2 hb93 h fun h=>zg hb93 O (zg hb93 O (zg hb93 O (zw hb93 O (zm O (zg O O (zg O O (zg O O (zg O O (zg O O (zu O (zu O (zu O (zu O (zg O O (zg O O (zu O (zu O (zu O (zu O (zg O O (J (dI O O) O (N (hK84 _ _ _ h O)))))))))))))))))))))))
 · refine B fun _ hK116=>A (zm O (J (dr O) O (zc O (zm O (zb (decide ((List.length p0:Int)≥1)) (fun hb117=>?_) fun hb117=>?_)))))
   · refine z1 hb117 h fun h=>zG hb117 O (W O) (ze hr h fun b118 h119 h120 h121 h=>zG hb117 O (dZ O O h119 h121) (zG hb117 O (bw O O O) (zG hb117 O (W O) (zb ((b118.toNat:Int)==45) (fun hb122=>?_) fun hb122=>?_))))
     · refine z1 hb122 h fun h=>zg hb122 O (zg hb122 O (zg hb122 O (zG hb117 O (dD hb122 O O) (zy hb117 O (zQ hK116 (dm O (fun hc=>?_) (fun hc=>?_)))))))
       · exact A (zm O (zd hr h fun hg123 h=>J (hZ O O hg123.1 hg123.2) O (za O (N (hK6 _ _ _ h O)))))
       · exact absurd (hc) (by simp)
     · refine z2 hb122 h fun h=>zG hb122 O (W O) (ze hr h fun b124 h125 h126 h127 h=>zG hb122 O (dZ O O h125 h127) (zG hb122 O (bw O O O) (zG hb117 O (dy hb122 O O) (zy hb117 O (zQ hK116 (zB O h (fun _ h=>?_) fun _ h=>?_))))))
       · exact A (zm O (zd hr h fun hg129 h=>J (hZ O O hg129.1 hg129.2) O (za O (N (hK6 _ _ _ h O)))))
       · exact V (hK6 _ _ _ h O)
   · refine z2 hb117 h fun h=>zg hb117 O (zg hb117 O (zg hb117 O (zg hb117 O (zu O (zu O (zu O (zg hb117 O (zw hb117 O (zQ hK116 (dm O (fun hc=>?_) (fun hc=>?_)))))))))))
     · exact absurd (hc) (by simp)
     · exact V (hK6 _ _ _ h O)
def iL (n:Nat) (p0:(List UInt8)) (p1:Int) (p2:Int):D (Int×Int):=
 br (p0==([]:List UInt8)) (.ok (0,2)) (jn (fun (v8:(List UInt8)×Int)=>jn (fun (v11:Int)=>jn (fun (v15:Int)=>gd ((0:Int)≤(IntKind.wrap .u64 v11)) (iter (fun next25 (v24:Bool×Int×Int)=>br (decide (v24.2.2<(List.length (ofBytes v8.1):Int))) (el (ofBytes v8.1) v24.2.2 fun x32=>jn (fun (v37:Int)=>br (decide (v37≥(IntKind.wrap .u8 v8.2))) (.ok (0,2)) (br (decide (v24.2.1≥v15)) (.ok (IntKind.wrap .u64 ((nO .u64 1 (IntKind.wrap .u64 v11)) - 1),1)) (br (decide ((IntKind.wrap .u64 ((IntKind.wrap .u64 (v24.2.1*(IntKind.wrap .u64 v8.2)))+(IntKind.wrap .u64 v37)))<(IntKind.wrap .u64 (v24.2.1*(IntKind.wrap .u64 v8.2))))) (.ok (IntKind.wrap .u64 ((nO .u64 1 (IntKind.wrap .u64 v11)) - 1),1)) (br (decide ((IntKind.wrap .u64 ((IntKind.wrap .u64 (v24.2.1*(IntKind.wrap .u64 v8.2)))+(IntKind.wrap .u64 v37)))>(IntKind.wrap .u64 ((nO .u64 1 (IntKind.wrap .u64 v11)) - 1)))) (.ok (IntKind.wrap .u64 ((nO .u64 1 (IntKind.wrap .u64 v11)) - 1),1)) (gd (bK (v24.2.2+1)) (next25 (v24.1,IntKind.wrap .u64 ((IntKind.wrap .u64 (v24.2.1*(IntKind.wrap .u64 v8.2)))+(IntKind.wrap .u64 v37)),v24.2.2+1))))))) fun j38=>jn (fun (v57:Bool)=>br v57 (gd (bK (v24.2.2+1)) (next25 (true,v24.2.1,v24.2.2+1))) (jn (fun (v63:Bool)=>br v63 (j38 (IntKind.wrap .u8 (x32 - 48))) (D.bind (ei x32) fun y68=>br (decide (97≤y68)) (D.bind (ei x32) fun y70=>br (decide (y70≤122)) (D.bind (ei x32) fun y72=>j38 (IntKind.wrap .u8 ((IntKind.wrap .u8 (y72 - 97))+10))) (.ok (0,2))) (.ok (0,2)))) fun j64=>br (decide (48≤x32)) (j64 ((decide (x32≤57)))) (j64 (false)))) fun j58=>br (x32==95) (j58 ((p1==0))) (j58 (false))) (br v24.1 (D.bind (my n p0) fun y80=>br (!y80) (.ok (0,2)) (.ok (v24.2.1,0))) (.ok (v24.2.1,0)))) n (false,0,0))) fun j16=>br (v8.2==10) (j16 (1844674407370955162)) (br (v8.2==16) (j16 (1152921504606846976)) (gd (((IntKind.wrap .u64 v8.2):Int)≠0) (j16 (IntKind.wrap .u64 ((IntKind.wrap .u64 (Int.tdiv 18446744073709551615 (IntKind.wrap .u64 v8.2)))+1)))))) fun j12=>br (p2==0) (j12 (64)) (br (decide (p2<0)) (.ok (0,4)) (br (decide (p2>64)) (.ok (0,4)) (j12 (p2))))) fun j9=>jn (fun (v98:Bool)=>br v98 (j9 (p0,p1)) (br (p1==0) (el p0 0 fun b106=>br ((b106.toNat:Int)==48) (jn (fun (v111:Bool)=>br v111 (gd ((0:Int)≤2∧2≤(List.length p0:Int)) (j9 (dp p0 2,2))) (jn (fun (v117:Bool)=>br v117 (gd ((0:Int)≤2∧2≤(List.length p0:Int)) (j9 (dp p0 2,8))) (br (decide ((List.length p0:Int)≥3)) (el p0 1 fun b125=>D.bind (ei (b125.toNat:Int)) fun y129=>br (y129==120) (gd ((0:Int)≤2∧2≤(List.length p0:Int)) (j9 (dp p0 2,16))) (gd ((0:Int)≤1∧1≤(List.length p0:Int)) (j9 (dp p0 1,8)))) (gd ((0:Int)≤1∧1≤(List.length p0:Int)) (j9 (dp p0 1,8))))) fun j118=>br (decide ((List.length p0:Int)≥3)) (el p0 1 fun b138=>D.bind (ei (b138.toNat:Int)) fun y142=>j118 ((y142==111))) (j118 (false)))) fun j112=>br (decide ((List.length p0:Int)≥3)) (el p0 1 fun b144=>D.bind (ei (b144.toNat:Int)) fun y148=>j112 ((y148==98))) (j112 (false))) (j9 (p0,10))) (.ok (0,3)))) fun j99=>br (decide (2≤p1)) (j99 ((decide (p1≤36)))) (j99 (false)))
theorem pX (n:Nat) (p0:(List UInt8)) (p1:Int) (p2:Int):CT Tryz.prog 228 [F p0,I p1,I p2] [] (iL n p0 p1 p2) (fun x=>.fX [Sc (.int .u64 x.1),Oi x.2]) (fun _=>[]):=by
 refine zC Tryz.func228 O fun r hp h hr E hE=>B fun _ hK1=>A (za O (za O (zQ hK1 (B fun _ hK2=>B fun _ hK3=>A (zm O (J (jc O O) O (zQ hK3 (zB O h (fun _ h=>?_) fun _ h=>?_))))))))
 · refine B fun _ hK5=>A (J (o9 O) O ?_)
   exact za O (za O (zQ hK5 (H (zX (.cons (K O) (.cons (K O) .nil)) h O))))
 · refine V (hK2 _ _ (B fun _ hK6=>A (zm O (zc O (za O (zQ hK6 (B fun _ hK7=>A (zm O (za O (zQ hK7 (zM h (fun (v8:(List UInt8)×Int)=>[(0,F v8.1),(1,I v8.2),(2,I p2),(8,Bo (p1==0)),(9,F p0)]) (fun (v8:(List UInt8)×Int)=>[]) (fun v8 h=>?_) fun _ _ hK10 h=>?_)))))))))))
   · refine zM h (fun (v11:Int)=>[(0,F v8.1),(1,I v8.2),(2,I v11),(8,Bo (p1==0)),(9,F p0)]) (fun (v11:Int)=>[]) (fun v11 h=>?_) fun _ _ hK13 h=>?_
     · refine B fun _ hK14=>A (za O (zQ hK14 (zM h (fun (v15:Int)=>[(0,F v8.1),(1,I v8.2),(2,I v11),(8,Bo (p1==0)),(9,F p0),(10,Sc (.int .u64 v15))]) (fun (v15:Int)=>[]) (fun v15 h=>?_) fun _ _ hK17 h=>?_)))
       · refine B fun _ hK18=>A (zm O (J (lX O) O (zd hr h fun hg19 h=>J (xk O O hg19) O (J (tH O O) O (za O (zQ hK18 (B fun _ hK20=>A (za O (zQ hK20 (B fun _ hK21=>A (za O (zQ hK21 (B fun _ hK22=>B fun _ hK23=>A (zm O (F0 (Cs:=sE) O (fun _=>O) O ?_)))))))))))))))
         refine J (cJ O) O (zm O (zQ hK23 (z (zL hr h (fun (v24:Bool×Int×Int)=>[(0,F v8.1),(1,I v8.2),(2,I v11),(8,Bo (p1==0)),(9,F p0),(10,Sc (.int .u64 v15)),(11,Sc (.int .u64 (IntKind.wrap .u64 ((nO .u64 1 (IntKind.wrap .u64 v11)) - 1)))),(12,Bo v24.1),(13,Sc (.int .u64 v24.2.1)),(99,.pv (.sl (List.length (ofBytes v8.1)) (sE (ofBytes v8.1)))),(100,I (List.length (ofBytes v8.1):Int)),(101,I v24.2.2)]) (fun (v24:Bool×Int×Int)=>[]) O fun _ v24 _ hK26 h=>B fun _ hK27=>A (zc O (zQ hK27 (B fun _ hK28=>zB O h (fun _ h=>?_) fun _ h=>?_)))))))
         · refine V (hK28 _ _ (B fun _ hK30=>z (B fun _ hK31=>A (ze hr h fun x32 h33 h34 h35 h=>J (ia kr nr h33 h34 h35 O O O) O (J (gx O O) O (za O (zQ hK31 (B fun _ hK36=>A (za O (zQ hK36 (zM h (fun (v37:Int)=>[(0,F v8.1),(1,I v8.2),(2,I v11),(8,Bo (p1==0)),(9,F p0),(10,Sc (.int .u64 v15)),(11,Sc (.int .u64 (IntKind.wrap .u64 ((nO .u64 1 (IntKind.wrap .u64 v11)) - 1)))),(12,Bo v24.1),(13,Sc (.int .u64 v24.2.1)),(16,Sc (.int .u8 v37)),(99,.pv (.sl (List.length (ofBytes v8.1)) (sE (ofBytes v8.1)))),(100,I (List.length (ofBytes v8.1):Int)),(101,I v24.2.2)]) (fun (v37:Int)=>[]) (fun v37 h=>?_) fun _ _ hK39 h=>?_)))))))))))
           · refine B fun _ hK40=>B fun _ hK41=>A (zm O (zm O (J (lX O) O (zc O (zQ hK41 (zB O h (fun _ h=>?_) fun _ h=>?_))))))
             · refine B fun _ hK43=>A (J (o9 O) O ?_)
               exact za O (za O (zQ hK43 (H (zX (.cons (K O) (.cons (K O) .nil)) h O))))
             · refine V (hK40 _ _ (B fun _ hK44=>B fun _ hK45=>A (zm O (zm O (zc O (zQ hK45 (zB O h (fun _ h=>?_) fun _ h=>?_)))))))
               · refine B fun _ hK47=>A (zm O (J (o9 O) O ?_))
                 exact za O (za O (zQ hK47 (H (zX (.cons (K O) (.cons (K O) .nil)) h O))))
               · refine V (hK44 _ _ (B fun _ hK48=>A (zm O (zm O (J (lX O) O (J (FG O O) O (za O (zQ hK48 (B fun _ hK49=>A (zm O (zm O (J (lX O) O (J (je O O) O (za O (zQ hK49 (B fun _ hK50=>B fun _ hK51=>A (zm O (zm O (zc O (zm O ?_))))))))))))))))))))
                 refine zb (decide ((IntKind.wrap .u64 ((IntKind.wrap .u64 (v24.2.1*(IntKind.wrap .u64 v8.2)))+(IntKind.wrap .u64 v37)))<(IntKind.wrap .u64 (v24.2.1*(IntKind.wrap .u64 v8.2))))) (fun hb52=>?_) fun hb52=>?_
                 · refine z1 hb52 h fun h=>zg hb52 O (zg hb52 O (zg hb52 O (zy hb52 O (zQ hK51 (dm O (fun hc=>?_) (fun hc=>?_))))))
                   · refine B fun _ hK53=>A (zm O (J (o9 O) O ?_))
                     exact za O (za O (zQ hK53 (H (zX (.cons (K O) (.cons (K O) .nil)) h O))))
                   · exact absurd (hc) (by simp)
                 · refine z2 hb52 h fun h=>zG hb52 O (W O) (zG hb52 O (W O) (zG hb52 O (bw O O O) (zw hb52 O (zQ hK51 (zB O h (fun _ h=>?_) fun _ h=>?_)))))
                   · refine B fun _ hK55=>A (zm O (J (o9 O) O ?_))
                     exact za O (za O (zQ hK55 (H (zX (.cons (K O) (.cons (K O) .nil)) h O))))
                   · exact V (hK50 _ _ (A (zm O (za O (zQ hK30 (A (zd hr h fun hg56 h=>zo hg56 O (zm O (N (hK26 _ _ _ h O))))))))))
           · refine z (zM h (fun (v57:Bool)=>[(0,F v8.1),(1,I v8.2),(2,I v11),(8,Bo (p1==0)),(9,F p0),(10,Sc (.int .u64 v15)),(11,Sc (.int .u64 (IntKind.wrap .u64 ((nO .u64 1 (IntKind.wrap .u64 v11)) - 1)))),(12,Bo v24.1),(13,Sc (.int .u64 v24.2.1)),(15,Sc (.int .u8 x32)),(99,.pv (.sl (List.length (ofBytes v8.1)) (sE (ofBytes v8.1)))),(100,I (List.length (ofBytes v8.1):Int)),(101,I v24.2.2),(106,Bo v57)]) (fun (v57:Bool)=>[]) (fun v57 h=>?_) fun _ _ hK59 h=>?_)
             · refine zB O h (fun _ h=>?_) fun _ h=>?_
               · exact B fun _ hK61=>A (za O (zQ hK61 (bB (hK30 _ _ (A (zd hr h fun hg62 h=>zo hg62 O (zm O (N (hK26 _ _ _ h O)))))))))
               · refine zM h (fun (v63:Bool)=>[(0,F v8.1),(1,I v8.2),(2,I v11),(8,Bo (p1==0)),(9,F p0),(10,Sc (.int .u64 v15)),(11,Sc (.int .u64 (IntKind.wrap .u64 ((nO .u64 1 (IntKind.wrap .u64 v11)) - 1)))),(12,Bo v24.1),(13,Sc (.int .u64 v24.2.1)),(15,Sc (.int .u8 x32)),(99,.pv (.sl (List.length (ofBytes v8.1)) (sE (ofBytes v8.1)))),(100,I (List.length (ofBytes v8.1):Int)),(101,I v24.2.2),(112,Bo v63)]) (fun (v63:Bool)=>[]) (fun v63 h=>?_) fun _ _ hK65 h=>?_
                 · refine zB O h (fun _ h=>?_) fun _ h=>?_
                   · exact A (zm O (J (tH O O) O (za O (N (hK39 _ _ _ h O)))))
                   · refine B fun _ hK67=>A (zm O (zk hp hr h [] Tryz.call250 (dJ x32) O (fun _=>O) fun y68 h=>zc O (zm O (zb (decide (97≤y68)) (fun hb69=>?_) fun hb69=>?_))))
                     · refine z1 hb69 h fun h=>zG hb69 O (W O) (zK hb69 O hp hr h [] Tryz.call250 (dJ x32) O (fun _=>O) fun y70 h=>zG hb69 O (bw O O O) (zy hb69 O (za O (zQ hK67 (zB O h (fun _ h=>?_) fun _ h=>?_)))))
                       · exact A (zm O (zk hp hr h [] Tryz.call250 (dJ x32) O (fun _=>O) fun y72 h=>J (tH O O) O (J (je O O) O (za O (N (hK39 _ _ _ h O))))))
                       · refine B fun _ hK73=>A (J (o9 O) O ?_)
                         exact za O (za O (zQ hK73 (H (zX (.cons (K O) (.cons (K O) .nil)) h O))))
                     · refine z2 hb69 h fun h=>zg hb69 O (zg hb69 O (zg hb69 O (zw hb69 O (za O (zQ hK67 (dm O (fun hc=>?_) (fun hc=>?_)))))))
                       · exact absurd (hc) (by simp)
                       · refine B fun _ hK74=>A (J (o9 O) O ?_)
                         exact za O (za O (zQ hK74 (H (zX (.cons (K O) (.cons (K O) .nil)) h O))))
                 · refine A (zm O (zc O (zm O (zb (decide (48≤x32)) (fun hb75=>?_) fun hb75=>?_))))
                   · exact z1 hb75 h fun h=>zG hb75 O (W O) (zG hb75 O (bw O O O) (zy hb75 O (za O (N (hK65 _ _ _ h O)))))
                   · exact z2 hb75 h fun h=>zg hb75 O (zg hb75 O (zw hb75 O (za O (N (hK65 _ _ _ h O)))))
             · refine A (zm O (zc O (zm O (zb (x32==95) (fun hb76=>?_) fun hb76=>?_))))
               · exact z1 hb76 h fun h=>zG hb76 O (W O) (zy hb76 O (za O (N (hK59 _ _ _ h O))))
               · exact z2 hb76 h fun h=>zg hb76 O (zw hb76 O (za O (N (hK59 _ _ _ h O))))
         · refine bB (hK22 _ _ (B fun _ hK77=>B fun _ hK78=>A (zm O (zm O (zb v24.1 (fun hb79=>?_) fun hb79=>?_)))))
           · refine z1 hb79 h fun h=>zG hb79 O (W O) (zK hb79 O hp hr h [] Tryz.call251 (pW n p0) O (fun _=>O) fun y80 h=>zG hb79 O (eS O) (zy hb79 O (zQ hK78 (zB O h (fun _ h=>?_) fun _ h=>?_))))
             · refine B fun _ hK82=>A (J (o9 O) O ?_)
               exact za O (za O (zQ hK82 (H (zX (.cons (K O) (.cons (K O) .nil)) h O))))
             · exact V (hK77 _ _ (B fun _ hK83=>A (zm O (za O (za O (zQ hK83 (H (zX (.cons (K O) (.cons (K O) .nil)) h O))))))))
           · refine z2 hb79 h fun h=>zg hb79 O (zg hb79 O (zg hb79 O (zw hb79 O (zQ hK78 (dm O (fun hc=>?_) (fun hc=>?_))))))
             · exact absurd (hc) (by simp)
             · exact V (hK77 _ _ (B fun _ hK84=>A (zm O (za O (za O (zQ hK84 (H (zX (.cons (K O) (.cons (K O) .nil)) h O))))))))
       · refine B fun _ hK85=>A (zm O (zQ hK85 (z (B fun _ hK86=>A (zc O (za O (zQ hK86 (zB O h (fun _ h=>?_) fun _ h=>?_))))))))
         · exact A (za O (N (hK17 _ _ _ h O)))
         · refine B fun _ hK88=>A (zc O (za O (zQ hK88 (zB O h (fun _ h=>?_) fun _ h=>?_))))
           · exact A (za O (N (hK17 _ _ _ h O)))
           · exact A (zm O (J (lX O) O (zd hr h fun hg90 h=>J (zZ O O hg90) O (J (je O O) O (za O (N (hK17 _ _ _ h O)))))))
     · refine B fun _ hK91=>A (zm O (zc O (zQ hK91 (zB O h (fun _ h=>?_) fun _ h=>?_))))
       · exact A (za O (N (hK13 _ _ _ h O)))
       · refine B fun _ hK93=>A (zm O (zc O (zm O (zb (decide (p2<0)) (fun hb94=>?_) fun hb94=>?_))))
         · refine z1 hb94 h fun h=>zg hb94 O (zg hb94 O (zy hb94 O (zQ hK93 (dm O (fun hc=>?_) (fun hc=>?_)))))
           · refine B fun _ hK95=>A (J (o9 O) O ?_)
             exact za O (za O (zQ hK95 (H (zX (.cons (K O) (.cons (K O) .nil)) h O))))
           · exact absurd (hc) (by simp)
         · refine z2 hb94 h fun h=>zG hb94 O (W O) (zG hb94 O (bw O O O) (zw hb94 O (zQ hK93 (zB O h (fun _ h=>?_) fun _ h=>?_))))
           · refine B fun _ hK97=>A (J (o9 O) O ?_)
             exact za O (za O (zQ hK97 (H (zX (.cons (K O) (.cons (K O) .nil)) h O))))
           · exact V (hK13 _ _ _ h O)
   · refine z (zM h (fun (v98:Bool)=>[(0,F p0),(1,I p1),(2,I p2),(8,Bo (p1==0)),(9,F p0),(25,Bo v98)]) (fun (v98:Bool)=>[]) (fun v98 h=>?_) fun _ _ hK100 h=>?_)
     · refine zB O h (fun _ h=>?_) fun _ h=>?_
       · exact V (hK10 _ _ _ h O)
       · refine B fun _ hK102=>A (zm O (zc O (za O (zQ hK102 (zB O h (fun _ h=>?_) fun _ h=>?_)))))
         · refine B fun _ hK104=>A (za O (zQ hK104 (B fun _ hK105=>A (zm O (ze hr h fun b106 h107 h108 h109 h=>J (dZ O O h107 h109) O (zc O (zQ hK105 (zB O h (fun _ h=>?_) fun _ h=>?_))))))))
           · refine z (zM h (fun (v111:Bool)=>[(0,F p0),(2,I p2),(8,Bo (p1==0)),(9,F p0),(40,Bo v111)]) (fun (v111:Bool)=>[]) (fun v111 h=>?_) fun _ _ hK113 h=>?_)
             · refine zB O h (fun _ h=>?_) fun _ h=>?_
               · exact B fun _ hK115=>A (za O (zQ hK115 (A (zm O (zd hr h fun hg116 h=>J (hZ O O hg116.1 hg116.2) O (za O (N (hK10 _ _ _ h O))))))))
               · refine zM h (fun (v117:Bool)=>[(0,F p0),(2,I p2),(8,Bo (p1==0)),(9,F p0),(52,Bo v117)]) (fun (v117:Bool)=>[]) (fun v117 h=>?_) fun _ _ hK119 h=>?_
                 · refine zB O h (fun _ h=>?_) fun _ h=>?_
                   · exact B fun _ hK121=>A (za O (zQ hK121 (A (zm O (zd hr h fun hg122 h=>J (hZ O O hg122.1 hg122.2) O (za O (N (hK10 _ _ _ h O))))))))
                   · refine B fun _ hK123=>A (zm O (J (dr O) O (zc O (zm O (zb (decide ((List.length p0:Int)≥3)) (fun hb124=>?_) fun hb124=>?_)))))
                     · refine z1 hb124 h fun h=>zG hb124 O (W O) (ze hr h fun b125 h126 h127 h128 h=>zG hb124 O (dZ O O h126 h128) (zK hb124 O hp hr h [] Tryz.call250 (dJ (b125.toNat:Int)) O (fun _=>O) fun y129 h=>zG hb124 O (bw O O O) (zy hb124 O (za O (zQ hK123 (zB O h (fun _ h=>?_) fun _ h=>?_))))))
                       · exact B fun _ hK131=>A (za O (zQ hK131 (A (zm O (zd hr h fun hg132 h=>J (hZ O O hg132.1 hg132.2) O (za O (N (hK10 _ _ _ h O))))))))
                       · exact B fun _ hK133=>A (za O (zQ hK133 (A (zm O (zd hr h fun hg134 h=>J (hZ O O hg134.1 hg134.2) O (za O (N (hK10 _ _ _ h O))))))))
                     · refine z2 hb124 h fun h=>zg hb124 O (zg hb124 O (zg hb124 O (zg hb124 O (zw hb124 O (za O (zQ hK123 (dm O (fun hc=>?_) (fun hc=>?_))))))))
                       · exact absurd (hc) (by simp)
                       · exact B fun _ hK135=>A (za O (zQ hK135 (A (zm O (zd hr h fun hg136 h=>J (hZ O O hg136.1 hg136.2) O (za O (N (hK10 _ _ _ h O))))))))
                 · refine A (zm O (J (dr O) O (zc O (zm O (zb (decide ((List.length p0:Int)≥3)) (fun hb137=>?_) fun hb137=>?_)))))
                   · exact z1 hb137 h fun h=>zG hb137 O (W O) (ze hr h fun b138 h139 h140 h141 h=>zG hb137 O (dZ O O h139 h141) (zK hb137 O hp hr h [] Tryz.call250 (dJ (b138.toNat:Int)) O (fun _=>O) fun y142 h=>zG hb137 O (bw O O O) (zy hb137 O (za O (N (hK119 _ _ _ h O))))))
                   · exact z2 hb137 h fun h=>zg hb137 O (zg hb137 O (zg hb137 O (zg hb137 O (zw hb137 O (za O (N (hK119 _ _ _ h O)))))))
             · refine A (zm O (J (dr O) O (zc O (zm O (zb (decide ((List.length p0:Int)≥3)) (fun hb143=>?_) fun hb143=>?_)))))
               · exact z1 hb143 h fun h=>zG hb143 O (W O) (ze hr h fun b144 h145 h146 h147 h=>zG hb143 O (dZ O O h145 h147) (zK hb143 O hp hr h [] Tryz.call250 (dJ (b144.toNat:Int)) O (fun _=>O) fun y148 h=>zG hb143 O (bw O O O) (zy hb143 O (za O (N (hK113 _ _ _ h O))))))
               · exact z2 hb143 h fun h=>zg hb143 O (zg hb143 O (zg hb143 O (zg hb143 O (zw hb143 O (za O (N (hK113 _ _ _ h O)))))))
           · exact V (hK10 _ _ _ h O)
         · refine B fun _ hK149=>A (J (o9 O) O ?_)
           exact za O (za O (zQ hK149 (H (zX (.cons (K O) (.cons (K O) .nil)) h O))))
     · refine A (zm O (zc O (zm O (zb (decide (2≤p1)) (fun hb150=>?_) fun hb150=>?_))))
       · exact z1 hb150 h fun h=>zG hb150 O (W O) (zG hb150 O (bw O O O) (zy hb150 O (za O (N (hK100 _ _ _ h O)))))
       · exact z2 hb150 h fun h=>zg hb150 O (zg hb150 O (zw hb150 O (za O (N (hK100 _ _ _ h O)))))
def jY (n:Nat) (p0:(List UInt8)) (p1:Int) (p2:Int):D (Int×Bool):=
 D.bind (iL n p0 p1 p2) fun y3=>br (y3.2 !=0) (D.bind (mN ([80,97,114,115,101,85,105,110,116]:List UInt8) p0 p1 p2 y3.2) fun y8=>.ok (y3.1,y8)) (.ok (y3.1,false))
theorem r7 (n:Nat) (p0:(List UInt8)) (p1:Int) (p2:Int):CT Tryz.prog 234 [F p0,I p1,I p2] [] (jY n p0 p1 p2) (fun x=>.fX [Sc (.int .u64 x.1),Oe 216 x.2]) (fun _=>[]):=by
 refine zC Tryz.func234 O fun r hp h hr E hE=>B fun _ hK1=>A (za O (za O (zQ hK1 (B fun _ hK2=>A (zm O (zm O (zm O (jf hr h [] Tryz.call228 (pX n p0 p1 p2) ⟨O,O,O,O,O,O,trivial⟩ O (fun _=>⟨O,O,DZ O⟩) (fun _=>⟨F1,O⟩) hp (fun y3 h=>?_)))))))))
 refine zm O (zx O (zx O (za O (za O (zQ hK2 (B fun _ hK4=>B fun _ hK5=>A (zm O (J (F2 O) O (zQ hK5 (zB O h (fun _ h=>?_) fun _ h=>?_))))))))))
 · refine B fun _ hK7=>A (zm O (zm O (zm O (zm O (zm O (jf hr h [] Tryz.call191 (s6 ([80,97,114,115,101,85,105,110,116]:List UInt8) p0 p1 p2 y3.2) ⟨O,O,(by simp[AV.gg.k7,AV.gg,AX]<;>rfl),O,O,O,trivial⟩ O (fun _=>⟨O,O,CL⟩) (fun _=>⟨DY,O⟩) hp (fun y8 h=>?_)))))))
   exact za O (za O (zQ hK7 (H (zX (.cons (K O) (.cons (K O) .nil)) h O))))
 · exact V (hK4 _ _ (B fun _ hK9=>A (zm O (za O (za O (zQ hK9 (H (zX (.cons (K O) (.cons (K O) .nil)) h O))))))))
def lq (n:Nat) (p0:(List UInt8)):D (Int×Int):=
 br (decide ((List.length p0:Int)<2)) (.ok (0,0)) (el p0 1 fun b8=>jn (fun (v12:Bool)=>br v12 (el p0 1 fun b17=>.ok ((b17.toNat:Int),2)) (br ((b8.toNat:Int)==110) (.ok (10,2)) (br ((b8.toNat:Int)==116) (.ok (9,2)) (br ((b8.toNat:Int)==114) (.ok (13,2)) (br ((b8.toNat:Int)==120) (br (decide ((List.length p0:Int)<4)) (.ok (0,0)) (gd ((0:Int)≤2∧(2:Int)≤4∧4≤(List.length p0:Int)) (D.bind (jY n (sub p0 2 4) 16 8) fun y38=>br y38.2 (.ok (0,0)) (.ok (IntKind.wrap .u8 y38.1,4))))) (.ok (0,0))))))) fun j13=>br ((b8.toNat:Int)==34) (j13 (((b8.toNat:Int)==34))) (j13 (((b8.toNat:Int)==92))))
theorem tQ (n:Nat) (p0:(List UInt8)):CT Tryz.prog 197 [F p0] [] (lq n p0) (fun x=>.fX [Sc (.int .u8 x.1),I x.2]) (fun _=>[]):=by
 refine zC Tryz.func197 O fun r hp h hr E hE=>B fun _ hK1=>A (za O (za O (zQ hK1 (B fun _ hK2=>B fun _ hK3=>A (zm O (J (dr O) O (zc O (zQ hK3 (zB O h (fun _ h=>?_) fun _ h=>?_)))))))))
 · exact B fun _ hK5=>A (za O (za O (zQ hK5 (H (zX (.cons (K O) (.cons (K O) .nil)) h O)))))
 · refine V (hK2 _ _ (B fun _ hK6=>B fun _ hK7=>A (zm O (ze hr h fun b8 h9 h10 h11 h=>J (dZ O O h9 h11) O (zQ hK7 (z (zM h (fun (v12:Bool)=>[(0,F p0),(10,Sc (.int .u8 (b8.toNat:Int))),(11,Bo v12)]) (fun (v12:Bool)=>[]) (fun v12 h=>?_) fun _ _ hK14 h=>?_)))))))
   · refine zB O h (fun _ h=>?_) fun _ h=>?_
     · exact B fun _ hK16=>A (zm O (ze hr h fun b17 h18 h19 h20 h=>J (dZ O O h18 h20) O (za O (za O (zQ hK16 (H (zX (.cons (K O) (.cons (K O) .nil)) h O)))))))
     · refine B fun _ hK21=>A (zc O (za O (zQ hK21 (zB O h (fun _ h=>?_) fun _ h=>?_))))
       · exact B fun _ hK23=>A (za O (za O (zQ hK23 (H (zX (.cons (K O) (.cons (K O) .nil)) h O)))))
       · refine B fun _ hK24=>A (zc O (za O (zQ hK24 (zB O h (fun _ h=>?_) fun _ h=>?_))))
         · exact B fun _ hK26=>A (za O (za O (zQ hK26 (H (zX (.cons (K O) (.cons (K O) .nil)) h O)))))
         · refine B fun _ hK27=>A (zc O (za O (zQ hK27 (zB O h (fun _ h=>?_) fun _ h=>?_))))
           · exact B fun _ hK29=>A (za O (za O (zQ hK29 (H (zX (.cons (K O) (.cons (K O) .nil)) h O)))))
           · refine B fun _ hK30=>A (zc O (za O (zQ hK30 (zB O h (fun _ h=>?_) fun _ h=>?_))))
             · refine B fun _ hK32=>B fun _ hK33=>A (zm O (J (dr O) O (zc O (zQ hK33 (zB O h (fun _ h=>?_) fun _ h=>?_)))))
               · exact B fun _ hK35=>A (za O (za O (zQ hK35 (H (zX (.cons (K O) (.cons (K O) .nil)) h O)))))
               · refine V (hK32 _ _ (B fun _ hK36=>A (zm O (zd hr h fun hg37 h=>J (ve O O O hg37.1 hg37.2.1 hg37.2.2) O (jf hr h [] Tryz.call234 (r7 n (sub p0 2 4) 16 8) ⟨O,O,O,O,O,O,trivial⟩ O (fun _=>⟨O,O,AU O⟩) (fun _=>⟨CH,O⟩) hp (fun y38 h=>?_))))))
                 refine zm O (zx O (zx O (za O (za O (zQ hK36 (B fun _ hK39=>B fun _ hK40=>A (zm O (J (Cw O) O (zQ hK40 (zB O h (fun _ h=>?_) fun _ h=>?_))))))))))
                 · exact B fun _ hK42=>A (za O (za O (zQ hK42 (H (zX (.cons (K O) (.cons (K O) .nil)) h O)))))
                 · exact V (hK39 _ _ (B fun _ hK43=>A (zm O (J (lX O) O (za O (za O (zQ hK43 (H (zX (.cons (K O) (.cons (K O) .nil)) h O)))))))))
             · exact V (hK6 _ _ (B fun _ hK44=>A (za O (za O (zQ hK44 (H (zX (.cons (K O) (.cons (K O) .nil)) h O)))))))
   · refine B fun _ hK45=>A (zc O (za O (zQ hK45 (zB O h (fun _ h=>?_) fun _ h=>?_))))
     · exact V (hK14 _ _ _ h O)
     · exact A (zc O (za O (N (hK14 _ _ _ h O))))
def kH (n:Nat) (p0:(List UInt8)):D ((List UInt8)×dH):=
 br (decide ((List.length p0:Int)>65536)) (.ok (([]:List UInt8),(dH.mk 2 0))) (br ((List.length p0:Int)==0) (.ok (([]:List UInt8),(dH.mk 8 0))) (el p0 0 fun b10=>br ((b10.toNat:Int) !=34) (.ok (([]:List UInt8),(dH.mk 8 0))) (iter (fun next21 (v20:(List Int)×Int)=>br (decide (v20.2≥(List.length p0:Int))) (.ok (([]:List UInt8),(dH.mk 8 (List.length p0:Int)))) (el p0 v20.2 fun b27=>br ((b27.toNat:Int)==34) (gd (bK (v20.2+1)) (br (decide ((v20.2+1)<(List.length p0:Int))) (gd (bK (v20.2+1)) (.ok (([]:List UInt8),(dH.mk 8 (v20.2+1))))) (.ok (jX v20.1,(dH.mk 0 0))))) (el p0 v20.2 fun b40=>br ((b40.toNat:Int)==92) (gd ((0:Int)≤v20.2∧v20.2≤(List.length p0:Int)) (D.bind (lq n (dp p0 v20.2)) fun y47=>br (y47.2==0) (.ok (([]:List UInt8),(dH.mk 8 v20.2))) (gd (cV 1 (List.length v20.1) (List.length [y47.1])) (gd (bK (v20.2+y47.2)) (next21 (v20.1++[y47.1],v20.2+y47.2)))))) (jn (fun (v55:Bool)=>br v55 (.ok (([]:List UInt8),(dH.mk 8 v20.2))) (el p0 v20.2 fun b61=>gd (cV 1 (List.length v20.1) (List.length [(b61.toNat:Int)])) (gd (bK (v20.2+1)) (next21 (v20.1++[(b61.toNat:Int)],v20.2+1))))) fun j56=>el p0 v20.2 fun b67=>br (decide ((b67.toNat:Int)<32)) (j56 (true)) (el p0 v20.2 fun b72=>j56 ((decide ((b72.toNat:Int)>126)))))))) n ([],1))))
theorem qA (n:Nat) (p0:(List UInt8)):CT Tryz.prog 145 [F p0] [] (kH n p0) (fun x=>.fX [F x.1,.agg [I x.2.Errno,I x.2.At]]) (fun _=>[]):=by
 refine zC Tryz.func145 O fun r hp h hr E hE=>B fun _ hK1=>A (za O (aK 103 (hE _ O) ⟨O,O,O,O⟩ O ?_))
 refine zQ hK1 (yz ?_)
 refine B fun _ hK2=>B fun _ hK3=>A (zm O (J (dr O) O (zc O (zQ hK3 (zB O h (fun _ h=>?_) fun _ h=>?_)))))
 · refine B fun _ hK5=>A (J (bQ O O O) O ?_)
   exact za O (zs O (zQ hK5 (H (zX (.cons (K O) (.cons (aZ O O O) .nil)) h O))))
 · refine V (hK2 _ _ (B fun _ hK6=>B fun _ hK7=>A (zm O (J (dr O) O (zc O (zm O (zb ((List.length p0:Int)==0) (fun hb8=>?_) fun hb8=>?_)))))))
   · refine z1 hb8 h fun h=>zg hb8 O (zg hb8 O (zg hb8 O (zy hb8 O (zQ hK7 (dm O (fun hc=>?_) (fun hc=>?_))))))
     · refine B fun _ hK9=>A (J (bQ O O O) O ?_)
       exact za O (zs O (zQ hK9 (H (zX (.cons (K O) (.cons (aZ O O O) .nil)) h O))))
     · exact absurd (hc) (by simp)
   · refine z2 hb8 h fun h=>zG hb8 O (W O) (ze hr h fun b10 h11 h12 h13 h=>zG hb8 O (dZ O O h11 h13) (zG hb8 O (bw O O O) (zw hb8 O (zQ hK7 (zB O h (fun _ h=>?_) fun _ h=>?_)))))
     · refine B fun _ hK15=>A (J (bQ O O O) O ?_)
       exact za O (zs O (zQ hK15 (H (zX (.cons (K O) (.cons (aZ O O O) .nil)) h O))))
     · refine V (hK6 _ _ (B fun _ hK16=>A (za O (zQ hK16 (B fun _ hK17=>A (za O (zQ hK17 (B fun _ hK18=>x9 ?_))))))))
       refine hK18 _ _ (B fun _ hK19=>z (b3 (sA (d:=4) 10004 (sz:=1) (el:=5) (hE _ O) O ⟨O,O,O⟩) ?_))
       refine zL hr h (fun (v20:(List Int)×Int)=>[(0,F p0),(3,.ptr 103 0),(4,.arr 10004 (List.length v20.1)),(5,I v20.2)]) (fun (v20:(List Int)×Int)=>[(103,.box [I 0,I 0]),(10004,.app 5 1 (sE v20.1))]) O fun _ v20 _ hK22 h=>z (z (B fun _ hK23=>A (zm O (zm O (J (dr O) O (zc O (za O (zQ hK23 (zB O h (fun _ h=>?_) fun _ h=>?_)))))))))
       · refine B fun _ hK25=>A (zm O (J (dr O) O (J (bQ O O O) O ?_)))
         exact za O (zs O (zQ hK25 (H (zX (.cons (K O) (.cons (aZ O O O) .nil)) h O))))
       · refine B fun _ hK26=>A (zm O (zm O (ze hr h fun b27 h28 h29 h30 h=>J (dZ O O h28 h30) O (zc O (za O (zQ hK26 (zB O h (fun _ h=>?_) fun _ h=>?_)))))))
         · refine bB (hK19 _ _ (B fun _ hK32=>B fun _ hK33=>A (zm O (zd hr h fun hg34 h=>zo hg34 O (zm O (J (dr O) O (zc O (zQ hK33 (zB O h (fun _ h=>?_) fun _ h=>?_)))))))))
           · refine B fun _ hK36=>A (zm O (zd hr h fun hg37 h=>zo hg37 O (J (bQ O O O) O ?_)))
             exact za O (zs O (zQ hK36 (H (zX (.cons (K O) (.cons (aZ O O O) .nil)) h O))))
           · refine V (hK32 _ _ (B fun _ hK38=>A (J (lY kr nr O O O) O ?_)))
             refine J (AT O O) O (J (bQ O O O) O ?_)
             exact za O (zs O (zQ hK38 (H (zX (.cons (K O) (.cons (aZ O O O) .nil)) h O))))
         · refine B fun _ hK39=>A (zm O (zm O (ze hr h fun b40 h41 h42 h43 h=>J (dZ O O h41 h43) O (zc O (za O (zQ hK39 (zB O h (fun _ h=>?_) fun _ h=>?_)))))))
           · refine B fun _ hK45=>A (zm O (zm O (zd hr h fun hg46 h=>J (hZ O O hg46.1 hg46.2) O (zk hp hr h [] Tryz.call197 (tQ n (dp p0 v20.2)) O (fun _=>O) fun y47 h=>zm O (zx O (zx O (za O (za O (zQ hK45 (B fun _ hK48=>B fun _ hK49=>A (zm O (zc O (zQ hK49 (zB O h (fun _ h=>?_) fun _ h=>?_))))))))))))))
             · refine B fun _ hK51=>A (zm O (J (bQ O O O) O ?_))
               exact za O (zs O (zQ hK51 (H (zX (.cons (K O) (.cons (aZ O O O) .nil)) h O))))
             · refine V (hK48 _ _ (B fun _ hK52=>A (zm O (zm O (b4 [y47.1] kr ⟨O,O⟩ O ?_)))))
               refine zd hr h fun hg53 h=>lQ 161 ⟨jV.h,eL.h,kr,nr,uS,hE _ O,O,O,(.inl O),⟨O,O,O⟩,hg53⟩ O ?_
               refine za O (aX (kz 161 10004 [(0,F p0),(3,.ptr 103 0),(4,.arr 10004 (List.length (v20.1++[y47.1]))),(5,I v20.2),(7,I y47.2)] [(103,.box [I 0,I 0])] (hE _ O) O O ⟨O,O⟩ ⟨⟨_,O,O,O⟩,⟨_,O,O,O⟩,⟨_,O,O,O⟩,⟨_,O,O,O⟩,⟨_,O,O,O⟩,trivial⟩ ⟨⟨_,O,O,O,O,O⟩,trivial⟩) ?_)
               exact zQ hK52 (A (zm O (zm O (zd hr h fun hg54 h=>zo hg54 O (za O (N (hK22 _ _ _ h O)))))))
           · refine zM h (fun (v55:Bool)=>[(0,F p0),(3,.ptr 103 0),(4,.arr 10004 (List.length v20.1)),(5,I v20.2),(65,Bo v55)]) (fun (v55:Bool)=>[(103,.box [I 0,I 0]),(10004,.app 5 1 (sE v20.1))]) (fun v55 h=>?_) fun _ _ hK57 h=>?_
             · refine zB O h (fun _ h=>?_) fun _ h=>?_
               · refine B fun _ hK59=>A (zm O (J (bQ O O O) O ?_))
                 exact za O (zs O (zQ hK59 (H (zX (.cons (K O) (.cons (aZ O O O) .nil)) h O))))
               · refine B fun _ hK60=>A (zm O (zm O (zm O (ze hr h fun b61 h62 h63 h64 h=>J (dZ O O h62 h64) O (b4 [(b61.toNat:Int)] kr ⟨O,O⟩ O ?_)))))
                 refine zd hr h fun hg65 h=>lQ 126 ⟨jV.h,eL.h,kr,nr,uS,hE _ O,O,O,(.inl O),⟨O,O,O⟩,hg65⟩ O ?_
                 refine za O (aX (kz 126 10004 [(0,F p0),(3,.ptr 103 0),(4,.arr 10004 (List.length (v20.1++[(b61.toNat:Int)]))),(5,I v20.2)] [(103,.box [I 0,I 0])] (hE _ O) O O ⟨O,O⟩ ⟨⟨_,O,O,O⟩,⟨_,O,O,O⟩,⟨_,O,O,O⟩,⟨_,O,O,O⟩,trivial⟩ ⟨⟨_,O,O,O,O,O⟩,trivial⟩) ?_)
                 exact zQ hK60 (A (zm O (zd hr h fun hg66 h=>zo hg66 O (za O (N (hK22 _ _ _ h O))))))
             · refine A (zm O (zm O (ze hr h fun b67 h68 h69 h70 h=>J (dZ O O h68 h70) O (zc O (zm O (zb (decide ((b67.toNat:Int)<32)) (fun hb71=>?_) fun hb71=>?_))))))
               · exact z1 hb71 h fun h=>zg hb71 O (zg hb71 O (zg hb71 O (zg hb71 O (zy hb71 O (za O (N (hK57 _ _ _ h O)))))))
               · exact z2 hb71 h fun h=>zG hb71 O (W O) (zG hb71 O (W O) (ze hr h fun b72 h73 h74 h75 h=>zG hb71 O (dZ O O h73 h75) (zG hb71 O (bw O O O) (zw hb71 O (za O (N (hK57 _ _ _ h O)))))))
def kn (p0:(List Int)) (p1:(List aS)) (p2:Int):D ((List Int)×(List aS)×Int):=
 br (decide ((List.length p0:Int)>0)) (gd (cV 32 (List.length p1) (List.length [(aS.mk (jX p0) false p2)])) (.ok ([],p1++[(aS.mk (jX p0) false p2)],p2))) (.ok ([],p1,p2))
theorem po (p0:(List Int)) (p1:(List aS)) (p2:Int):CT Tryz.prog 194 [.ptr 0 0,.ptr 1 0,.ptr 2 0] [.box [.arr 3 (List.length p0)],.box [.arr 4 (List.length p1)],.box [I p2],.app 5 1 (sE p0),.app 189 3 (aS.Cs p1)] (kn p0 p1 p2) (fun _=>.fX []) (fun x=>[.box [.arr 3 (List.length x.1)],.box [.arr 4 (List.length x.2.1)],.box [I x.2.2],.app 5 1 (sE x.1),.app 189 3 (aS.Cs x.2.1)]):=by
 refine zC Tryz.func194 O fun r hp h hr E hE=>B fun _ hK1=>B fun _ hK2=>A (J (nE kr nr O O O O O) O ?_)
 refine J (cJ O) O (zc O (zQ hK2 (zB O h (fun _ h=>?_) fun _ h=>?_)))
 · refine A (zl O (J (nE kr nr O O O O O) O ?_))
   refine J (AT O O) O (zl O (J (bQ O O O) O ?_))
   refine b4 [(aS.mk (jX p0) false p2)] aS.y ⟨O,O⟩ O ?_
   refine zd hr h fun hg4 h=>lQ 112 ⟨jV.h,eL.h,aS.y,aS.b7,aS.jh,hE _ O,O,O,(.inl O),⟨O,O,O⟩,hg4⟩ O ?_
   refine zs O (aX (kz 112 4 [(0,.ptr 0 0),(1,.ptr 1 0),(2,.ptr 2 0)] [(0,.box [.arr 3 (List.length p0)]),(1,.box [.arr 4 (List.length (p1++[(aS.mk (jX p0) false p2)]))]),(2,.box [I p2]),(3,.app 5 1 (sE p0))] (hE _ O) O O ⟨O,O⟩ ⟨⟨_,O,O,O⟩,⟨_,O,O,O⟩,⟨_,O,O,O⟩,trivial⟩ ⟨⟨_,O,O,O,O,O⟩,⟨_,O,O,O,O,O⟩,⟨_,O,O,O,O,O⟩,⟨_,O,O,O,O,O⟩,trivial⟩) ?_)
   refine zQ hK1 (A (zs O (aX (eT.xW [(0,.ptr 0 0),(1,.ptr 1 0),(2,.ptr 2 0)] [(0,.box [Sc (.slice none 0 0)]),(1,.box [.arr 4 (List.length (p1++[(aS.mk (jX p0) false p2)]))]),(2,.box [I p2]),(4,.app 189 3 (aS.Cs (p1++[(aS.mk (jX p0) false p2)])))] ⟨O,O,O,trivial⟩ ⟨O,O,O,O,trivial⟩) ?_)))
   refine aX (rT (j:=0) (off:=0) 3 (sz:=1) (el:=5) (hE _ O) O O ⟨O,O,O⟩ O) ?_
   exact N (zY .nil h O)
 · refine V (hK1 _ _ (A (zs O (aX (eT.xW [(0,.ptr 0 0),(1,.ptr 1 0),(2,.ptr 2 0)] [(0,.box [Sc (.slice none 0 0)]),(1,.box [.arr 4 (List.length p1)]),(2,.box [I p2]),(4,.app 189 3 (aS.Cs p1))] ⟨O,O,O,trivial⟩ ⟨O,O,O,O,trivial⟩) ?_))))
   refine aX (rT (j:=0) (off:=0) 3 (sz:=1) (el:=5) (hE _ O) O O ⟨O,O,O⟩ O) ?_
   exact N (zY .nil h O)
def pY (n:Nat) (p0:(List UInt8)):D ((List UInt8)×Bool):=
 iter (fun next6 (v5:Int×Int)=>br (decide (v5.2<(List.length p0:Int))) (el p0 v5.2 fun b14=>br ((b14.toNat:Int)==40) (gd (bK (v5.1+1)) (gd (bK (v5.2+1)) (next6 (v5.1+1,v5.2+1)))) (br ((b14.toNat:Int)==41) (gd (bK (v5.1 - 1)) (br ((v5.1 - 1)==0) (gd ((0:Int)≤1∧(1:Int)≤v5.2∧v5.2≤(List.length p0:Int)) (.ok (sub p0 1 v5.2,true))) (gd (bK (v5.2+1)) (next6 (v5.1 - 1,v5.2+1))))) (gd (bK (v5.2+1)) (next6 (v5.1,v5.2+1))))) (.ok (([]:List UInt8),false))) n (0,0)
theorem xu (n:Nat) (p0:(List UInt8)):CT Tryz.prog 195 [F p0] [] (pY n p0) (fun x=>.fX [F x.1,Bo x.2]) (fun _=>[]):=by
 refine zC Tryz.func195 O fun r hp h hr E hE=>B fun _ hK1=>A (za O (za O (zQ hK1 (B fun _ hK2=>A (za O (zQ hK2 (B fun _ hK3=>B fun _ hK4=>A (zm O (J (dr O) O (zm O (zQ hK4 (z (zL hr h (fun (v5:Int×Int)=>[(0,F p0),(4,I v5.1),(7,I (List.length p0:Int)),(8,I v5.2)]) (fun (v5:Int×Int)=>[]) O fun _ v5 _ hK7 h=>B fun _ hK8=>A (zc O (zQ hK8 (B fun _ hK9=>zB O h (fun _ h=>?_) fun _ h=>?_))))))))))))))))
 · refine V (hK9 _ _ (B fun _ hK11=>z (B fun _ hK12=>A (zm O (za O (zQ hK12 (B fun _ hK13=>A (zm O (zm O (ze hr h fun b14 h15 h16 h17 h=>J (dZ O O h15 h17) O (zQ hK13 (z (B fun _ hK18=>A (zc O (za O (zQ hK18 (zB O h (fun _ h=>?_) fun _ h=>?_)))))))))))))))))
   · exact A (zm O (zd hr h fun hg20 h=>zo hg20 O (za O (zQ hK11 (A (zd hr h fun hg21 h=>zo hg21 O (zm O (N (hK7 _ _ _ h O)))))))))
   · refine B fun _ hK22=>A (zc O (za O (zQ hK22 (zB O h (fun _ h=>?_) fun _ h=>?_))))
     · refine B fun _ hK24=>A (zm O (zd hr h fun hg25 h=>J (qv O O hg25) O (za O (zQ hK24 (B fun _ hK26=>A (zm O (zc O (zQ hK26 (zB O h (fun _ h=>?_) fun _ h=>?_)))))))))
       · exact B fun _ hK28=>A (zm O (zm O (zd hr h fun hg29 h=>J (ve O O O hg29.1 hg29.2.1 hg29.2.2) O (za O (za O (zQ hK28 (H (zX (.cons (K O) (.cons (K O) .nil)) h O))))))))
       · exact V (hK11 _ _ (A (zd hr h fun hg30 h=>zo hg30 O (zm O (N (hK7 _ _ _ h O))))))
     · exact V (hK11 _ _ (A (zd hr h fun hg31 h=>zo hg31 O (zm O (N (hK7 _ _ _ h O))))))
 · exact bB (hK3 _ _ (B fun _ hK32=>A (za O (za O (zQ hK32 (H (zX (.cons (K O) (.cons (K O) .nil)) h O)))))))
def nu (n:Nat) (p0:(List UInt8)):D (Int×Int):=
 jn (fun (v3:Int)=>br (decide ((List.length p0:Int)<v3)) (.ok (0,0)) (gd ((0:Int)≤v3∧v3≤(List.length p0:Int)) (gd (c7 ([34]:List UInt8) (iU p0 v3)) (gd (c7 (([34]:List UInt8)++(iU p0 v3)) ([34]:List UInt8)) (D.bind (kH n ((([34]:List UInt8)++(iU p0 v3))++([34]:List UInt8))) fun y14=>br (y14.2.Errno !=0) (.ok (0,0)) (el y14.1 0 fun b20=>.ok ((b20.toNat:Int),v3))))))) fun j4=>D.bind (strings_HasPrefix p0 ([92,120]:List UInt8)) fun y25=>br y25 (j4 (4)) (j4 (2))
theorem vA (n:Nat) (p0:(List UInt8)):CT Tryz.prog 196 [F p0] [] (nu n p0) (fun x=>.fX [Sc (.int .u8 x.1),I x.2]) (fun _=>[]):=by
 refine zC Tryz.func196 O fun r hp h hr E hE=>B fun _ hK1=>A (za O (za O (zQ hK1 (B fun _ hK2=>A (za O (zQ hK2 (zM h (fun (v3:Int)=>[(0,F p0),(4,I v3)]) (fun (v3:Int)=>[]) (fun v3 h=>?_) fun _ _ hK5 h=>?_)))))))
 · refine B fun _ hK6=>B fun _ hK7=>A (zm O (J (dr O) O (zm O (zc O (zQ hK7 (zB O h (fun _ h=>?_) fun _ h=>?_))))))
   · exact B fun _ hK9=>A (za O (za O (zQ hK9 (H (zX (.cons (K O) (.cons (K O) .nil)) h O)))))
   · refine V (hK6 _ _ (B fun _ hK10=>A (zm O (zm O (zd hr h fun hg11 h=>J (pK O O hg11.1 hg11.2) O (zd hr h fun hg12 h=>J (lN O O hg12) O (zd hr h fun hg13 h=>J (lN O O hg13) O (zk hp hr h [] Tryz.call145 (qA n ((([34]:List UInt8)++(iU p0 v3))++([34]:List UInt8))) O (fun _=>O) fun y14 h=>zm O (zx O (zx O (aK 106 (hE _ O) ⟨O,O,O,O⟩ O ?_)))))))))))
     refine za O (zs O (zQ hK10 (B fun _ hK15=>B fun _ hK16=>A (zf O (zl O (zc O (zQ hK16 (zB O h (fun _ h=>?_) fun _ h=>?_))))))))
     · exact B fun _ hK18=>A (za O (za O (zQ hK18 (H (zX (.cons (K O) (.cons (K O) .nil)) h O)))))
     · exact V (hK15 _ _ (B fun _ hK19=>A (zm O (ze hr h fun b20 h21 h22 h23 h=>J (dZ O O h21 h23) O (zm O (za O (za O (zQ hK19 (H (zX (.cons (K O) (.cons (K O) .nil)) h O))))))))))
 · refine B fun _ hK24=>A (zm O (zk hp hr h [] Tryz.call95 (iY p0 ([92,120]:List UInt8)) O (fun _=>O) fun y25 h=>zQ hK24 (zB O h (fun _ h=>?_) fun _ h=>?_)))
   · exact A (za O (N (hK5 _ _ _ h O)))
   · exact V (hK5 _ _ _ h O)
def lr (n:Nat) (p0:(List UInt8)):D ((List aS)×dH):=
 iter (fun next9 (v8:(List aS)×(List Int)×Int×Int)=>br (decide (v8.2.2.2<(List.length p0:Int))) (jn (fun (v14:Int)=>gd ((0:Int)≤v8.2.2.2∧v8.2.2.2≤(List.length p0:Int)) (D.bind (strings_HasPrefix (dp p0 v8.2.2.2) ([92,40]:List UInt8)) fun y19=>br y19 (gd (bK (v8.2.2.2+1)) (gd ((0:Int)≤(v8.2.2.2+1)∧(v8.2.2.2+1)≤(List.length p0:Int)) (D.bind (pY n (dp p0 (v8.2.2.2+1))) fun y24=>br (!y24.2) (.ok ([],(dH.mk 8 v8.2.2.2))) (D.bind (kn v8.2.1 v8.1 v14) fun y30=>gd (bK (v8.2.2.2+2)) (gd (cV 32 (List.length y30.2.1) (List.length [(aS.mk y24.1 true (v8.2.2.2+2))])) (gd (bK ((List.length y24.1:Int)+3)) (gd (bK (v8.2.2.2+((List.length y24.1:Int)+3))) (next9 (y30.2.1++[(aS.mk y24.1 true (v8.2.2.2+2))],y30.1,y30.2.2,v8.2.2.2+((List.length y24.1:Int)+3)))))))))) (el p0 v8.2.2.2 fun b37=>br ((b37.toNat:Int)==92) (gd ((0:Int)≤v8.2.2.2∧v8.2.2.2≤(List.length p0:Int)) (D.bind (nu n (dp p0 v8.2.2.2)) fun y44=>br (y44.2==0) (.ok ([],(dH.mk 8 v8.2.2.2))) (gd (cV 1 (List.length v8.2.1) (List.length [y44.1])) (gd (bK (v8.2.2.2+y44.2)) (next9 (v8.1,v8.2.1++[y44.1],v14,v8.2.2.2+y44.2)))))) (jn (fun (v52:Bool)=>br v52 (.ok ([],(dH.mk 8 v8.2.2.2))) (el p0 v8.2.2.2 fun b58=>gd (cV 1 (List.length v8.2.1) (List.length [(b58.toNat:Int)])) (gd (bK (v8.2.2.2+1)) (next9 (v8.1,v8.2.1++[(b58.toNat:Int)],v14,v8.2.2.2+1))))) fun j53=>el p0 v8.2.2.2 fun b64=>br (decide ((b64.toNat:Int)<32)) (j53 (true)) (el p0 v8.2.2.2 fun b69=>br (decide ((b69.toNat:Int)>126)) (j53 (true)) (el p0 v8.2.2.2 fun b74=>j53 (((b74.toNat:Int)==34)))))))) fun j15=>br ((List.length v8.2.1:Int)==0) (j15 (v8.2.2.2)) (j15 (v8.2.2.1))) (D.bind (kn v8.2.1 v8.1 v8.2.2.1) fun y81=>.ok (y81.2.1,(dH.mk 0 0)))) n ([],[],0,0)
theorem rD (n:Nat) (p0:(List UInt8)):CT Tryz.prog 144 [F p0] [] (lr n p0) (fun x=>.fX [.pv (.sl (List.length x.1) (aS.Cs x.1)),.agg [I x.2.Errno,I x.2.At]]) (fun _=>[]):=by
 refine zC Tryz.func144 O fun r hp h hr E hE=>B fun _ hK1=>A (za O (aK 103 (hE _ O) ⟨O,O,O,O⟩ O ?_))
 refine zQ hK1 (B fun _ hK2=>A (aK 104 (hE _ O) ⟨O,O,O,O⟩ O ?_))
 refine zQ hK2 (B fun _ hK3=>A (aK 105 (hE _ O) ⟨O,O,O,O⟩ O ?_))
 refine zQ hK3 (B fun _ hK4=>A (aK 106 (hE _ O) ⟨O,O,O,O⟩ O ?_))
 refine zs O (zQ hK4 (B fun _ hK5=>A (J (pc O O) O ?_)))
 refine za O (zQ hK5 (B fun _ hK6=>B fun _ hK7=>A (za O (zQ hK7 (z (b3 (rT (j:=104) (off:=0) 26656 (sz:=3) (el:=189) (hE _ O) O O ⟨O,O,O⟩ O) ?_))))))
 refine b3 (rT (j:=105) (off:=0) 26720 (sz:=1) (el:=5) (hE _ O) O O ⟨O,O,O⟩ O) ?_
 refine zL hr h (fun (v8:(List aS)×(List Int)×Int×Int)=>[(0,F p0),(3,.ptr 103 0),(4,.ptr 104 0),(5,.ptr 105 0),(6,.ptr 106 0),(7,.fn 194 [] [.ptr 105 0,.ptr 104 0,.ptr 106 0]),(8,I v8.2.2.2)]) (fun (v8:(List aS)×(List Int)×Int×Int)=>[(103,.box [I 0,I 0]),(104,.box [.arr 26656 (List.length v8.1)]),(105,.box [.arr 26720 (List.length v8.2.1)]),(106,.box [I v8.2.2.1]),(26656,.app 189 3 (aS.Cs v8.1)),(26720,.app 5 1 (sE v8.2.1))]) O fun _ v8 _ hK10 h=>B fun _ hK11=>B fun _ hK12=>A (zm O (zm O (J (dr O) O (zc O (zQ hK12 (zB O h (fun _ h=>?_) fun _ h=>?_))))))
 · refine V (hK11 _ _ (z (zM h (fun (v14:Int)=>[(0,F p0),(3,.ptr 103 0),(4,.ptr 104 0),(5,.ptr 105 0),(6,.ptr 106 0),(7,.fn 194 [] [.ptr 105 0,.ptr 104 0,.ptr 106 0]),(8,I v8.2.2.2)]) (fun (v14:Int)=>[(103,.box [I 0,I 0]),(104,.box [.arr 26656 (List.length v8.1)]),(105,.box [.arr 26720 (List.length v8.2.1)]),(106,.box [I v14]),(26656,.app 189 3 (aS.Cs v8.1)),(26720,.app 5 1 (sE v8.2.1))]) (fun v14 h=>?_) fun _ _ hK16 h=>?_)))
   · refine z (B fun _ hK17=>A (zm O (zm O (zd hr h fun hg18 h=>J (hZ O O hg18.1 hg18.2) O (zk hp hr h [] Tryz.call95 (iY (dp p0 v8.2.2.2) ([92,40]:List UInt8)) O (fun _=>O) fun y19 h=>za O (zQ hK17 (zB O h (fun _ h=>?_) fun _ h=>?_)))))))
     · refine B fun _ hK21=>A (zm O (zm O (zd hr h fun hg22 h=>zo hg22 O (zd hr h fun hg23 h=>J (hZ O O hg23.1 hg23.2) O (zk hp hr h [] Tryz.call195 (xu n (dp p0 (v8.2.2.2+1))) O (fun _=>O) fun y24 h=>zm O (zx O (zx O (za O (za O (zQ hK21 (B fun _ hK25=>B fun _ hK26=>A (zm O (J (eS O) O (zQ hK26 (zB O h (fun _ h=>?_) fun _ h=>?_)))))))))))))))
       · refine B fun _ hK28=>A (zm O (J (bQ O O O) O ?_))
         refine za O (zs O (zQ hK28 (b3 (yp (d:=2) O O) ?_)))
         exact H (zX (.cons (K O) (.cons (aZ O O O) .nil)) h O)
       · refine V (hK25 _ _ (B fun _ hK29=>A (zm O (jf hr h [105,104,106,26720,26656] Tryz.call194 (po v8.2.1 v8.1 v14) ⟨O,O,O,O,O,O,⟨hE _ O,⟨hE _ O,trivial⟩⟩⟩ O (fun _=>⟨O,O,O⟩) (fun _=>⟨O,O⟩) hp (fun y30 h=>?_)))))
         refine zQ hK29 (B fun _ hK31=>A (zl O (zm O (zm O (zd hr h fun hg32 h=>zo hg32 O (J (bQ O O O) O ?_))))))
         refine b4 [(aS.mk y24.1 true (v8.2.2.2+2))] aS.y ⟨O,O⟩ O ?_
         refine zd hr h fun hg33 h=>lQ 155 ⟨jV.h,eL.h,aS.y,aS.b7,aS.jh,hE _ O,O,O,(.inl O),⟨O,O,O⟩,hg33⟩ O ?_
         refine zs O (aX (kz 155 26656 [(0,F p0),(3,.ptr 103 0),(4,.ptr 104 0),(5,.ptr 105 0),(6,.ptr 106 0),(7,.fn 194 [] [.ptr 105 0,.ptr 104 0,.ptr 106 0]),(8,I v8.2.2.2),(9,F y24.1)] [(103,.box [I 0,I 0]),(104,.box [.arr 26656 (List.length (y30.2.1++[(aS.mk y24.1 true (v8.2.2.2+2))]))]),(26720,.app 5 1 (sE y30.1)),(105,.box [.arr 26720 (List.length y30.1)]),(106,.box [I y30.2.2])] (hE _ O) O O ⟨O,O⟩ ⟨⟨_,O,O,O⟩,⟨_,O,O,O⟩,⟨_,O,O,O⟩,⟨_,O,O,O⟩,⟨_,O,O,O⟩,⟨_,O,O,O⟩,⟨_,O,O,O⟩,⟨_,O,O,O⟩,trivial⟩ ⟨⟨_,O,O,O,O,O⟩,⟨_,O,O,O,O,O⟩,⟨_,O,O,O,O,O⟩,⟨_,O,O,O,O,O⟩,⟨_,O,O,O,O,O⟩,trivial⟩) ?_)
         exact zQ hK31 (A (zm O (zm O (J (dr O) O (zd hr h fun hg34 h=>zo hg34 O (zd hr h fun hg35 h=>zo hg35 O (za O (N (hK10 _ _ _ h O)))))))))
     · refine B fun _ hK36=>A (zm O (zm O (ze hr h fun b37 h38 h39 h40 h=>J (dZ O O h38 h40) O (zc O (za O (zQ hK36 (zB O h (fun _ h=>?_) fun _ h=>?_)))))))
       · refine B fun _ hK42=>A (zm O (zm O (zd hr h fun hg43 h=>J (hZ O O hg43.1 hg43.2) O (zk hp hr h [] Tryz.call196 (vA n (dp p0 v8.2.2.2)) O (fun _=>O) fun y44 h=>zm O (zx O (zx O (za O (za O (zQ hK42 (B fun _ hK45=>B fun _ hK46=>A (zm O (zc O (zQ hK46 (zB O h (fun _ h=>?_) fun _ h=>?_))))))))))))))
         · refine B fun _ hK48=>A (zm O (J (bQ O O O) O ?_))
           refine za O (zs O (zQ hK48 (b3 (yp (d:=2) O O) ?_)))
           exact H (zX (.cons (K O) (.cons (aZ O O O) .nil)) h O)
         · refine V (hK45 _ _ (B fun _ hK49=>A (zl O (zm O (b4 [y44.1] kr ⟨O,O⟩ O ?_)))))
           refine zd hr h fun hg50 h=>lQ 180 ⟨jV.h,eL.h,kr,nr,uS,hE _ O,O,O,(.inl O),⟨O,O,O⟩,hg50⟩ O ?_
           refine zs O (aX (kz 180 26720 [(0,F p0),(3,.ptr 103 0),(4,.ptr 104 0),(5,.ptr 105 0),(6,.ptr 106 0),(7,.fn 194 [] [.ptr 105 0,.ptr 104 0,.ptr 106 0]),(8,I v8.2.2.2),(12,I y44.2)] [(103,.box [I 0,I 0]),(26656,.app 189 3 (aS.Cs v8.1)),(104,.box [.arr 26656 (List.length v8.1)]),(105,.box [.arr 26720 (List.length (v8.2.1++[y44.1]))]),(106,.box [I v14])] (hE _ O) O O ⟨O,O⟩ ⟨⟨_,O,O,O⟩,⟨_,O,O,O⟩,⟨_,O,O,O⟩,⟨_,O,O,O⟩,⟨_,O,O,O⟩,⟨_,O,O,O⟩,⟨_,O,O,O⟩,⟨_,O,O,O⟩,trivial⟩ ⟨⟨_,O,O,O,O,O⟩,⟨_,O,O,O,O,O⟩,⟨_,O,O,O,O,O⟩,⟨_,O,O,O,O,O⟩,⟨_,O,O,O,O,O⟩,trivial⟩) ?_)
           exact zQ hK49 (A (zm O (zm O (zd hr h fun hg51 h=>zo hg51 O (za O (N (hK10 _ _ _ h O)))))))
       · refine zM h (fun (v52:Bool)=>[(0,F p0),(3,.ptr 103 0),(4,.ptr 104 0),(5,.ptr 105 0),(6,.ptr 106 0),(7,.fn 194 [] [.ptr 105 0,.ptr 104 0,.ptr 106 0]),(8,I v8.2.2.2),(84,Bo v52)]) (fun (v52:Bool)=>[(103,.box [I 0,I 0]),(104,.box [.arr 26656 (List.length v8.1)]),(105,.box [.arr 26720 (List.length v8.2.1)]),(106,.box [I v14]),(26656,.app 189 3 (aS.Cs v8.1)),(26720,.app 5 1 (sE v8.2.1))]) (fun v52 h=>?_) fun _ _ hK54 h=>?_
         · refine zB O h (fun _ h=>?_) fun _ h=>?_
           · refine B fun _ hK56=>A (zm O (J (bQ O O O) O ?_))
             refine za O (zs O (zQ hK56 (b3 (yp (d:=2) O O) ?_)))
             exact H (zX (.cons (K O) (.cons (aZ O O O) .nil)) h O)
           · refine B fun _ hK57=>mi [] ?_
             refine bL [0,1,2,3,4,5,6] O (by kernel_rfl) (zD O (bp O O O) O (zD O (W O) O (zD O (W O) O (ze hr h fun b58 h59 h60 h61 h=>zD O (dZ O O h59 h61) O (ig [(b58.toNat:Int)] kr O (bX O) ⟨O,O⟩ ⟨O,O⟩ ?_)))))
             refine zd hr h fun hg62 h=>xi 127 O (bX O) ⟨jV.h,eL.h,kr,nr,uS,hE _ O,O,O,(.inl O),⟨O,O,O⟩,hg62⟩ O O ⟨aL O,?_⟩
             refine cf O ⟨O,O,O,O,O,O,O,O⟩ O (fun e6 he=>⟨aL O,?_⟩)
             subst he
             refine gi (kz 127 26720 [(0,F p0),(3,.ptr 103 0),(4,.ptr 104 0),(5,.ptr 105 0),(6,.ptr 106 0),(7,.fn 194 [] [.ptr 105 0,.ptr 104 0,.ptr 106 0]),(8,I v8.2.2.2)] [(103,.box [I 0,I 0]),(26656,.app 189 3 (aS.Cs v8.1)),(104,.box [.arr 26656 (List.length v8.1)]),(105,.box [.arr 26720 (List.length (v8.2.1++[(b58.toNat:Int)]))]),(106,.box [I v14])] (hE _ O) O O ⟨O,O⟩ ⟨⟨_,O,O,O⟩,⟨_,O,O,O⟩,⟨_,O,O,O⟩,⟨_,O,O,O⟩,⟨_,O,O,O⟩,⟨_,O,O,O⟩,⟨_,O,O,O⟩,trivial⟩ ⟨⟨_,O,O,O,O,O⟩,⟨_,O,O,O,O,O⟩,⟨_,O,O,O,O,O⟩,⟨_,O,O,O,O,O⟩,⟨_,O,O,O,O,O⟩,trivial⟩) ?_
             exact hK57 _ _ (A (zm O (zd hr h fun hg63 h=>zo hg63 O (za O (N (hK10 _ _ _ h O))))))
         · refine A (zm O (zm O (ze hr h fun b64 h65 h66 h67 h=>J (dZ O O h65 h67) O (zc O (zm O (zb (decide ((b64.toNat:Int)<32)) (fun hb68=>?_) fun hb68=>?_))))))
           · exact z1 hb68 h fun h=>zg hb68 O (zg hb68 O (zg hb68 O (zg hb68 O (zy hb68 O (zm O (zg O O (zg O O (zg O O (zg O O (zt O (za O (N (hK54 _ _ _ h O)))))))))))))
           · refine z2 hb68 h fun h=>zG hb68 O (W O) (zG hb68 O (W O) (ze hr h fun b69 h70 h71 h72 h=>zG hb68 O (dZ O O h70 h72) (zG hb68 O (bw O O O) (zw hb68 O (zm O (zb (decide ((b69.toNat:Int)>126)) (fun hb73=>?_) fun hb73=>?_))))))
             · exact z1 hb73 h fun h=>zg hb73 O (zg hb73 O (zg hb73 O (zg hb73 O (zy hb73 O (za O (N (hK54 _ _ _ h O)))))))
             · exact z2 hb73 h fun h=>zG hb73 O (W O) (zG hb73 O (W O) (ze hr h fun b74 h75 h76 h77 h=>zG hb73 O (dZ O O h75 h77) (zG hb73 O (bw O O O) (zw hb73 O (za O (N (hK54 _ _ _ h O)))))))
   · refine B fun _ hK78=>A (J (nE kr nr O O O O O) O ?_)
     refine J (cJ O) O (zc O (zQ hK78 (zB O h (fun _ h=>?_) fun _ h=>?_)))
     · exact A (zm O (zs O (N (hK16 _ _ _ h O))))
     · exact V (hK16 _ _ _ h O)
 · refine bB (hK6 _ _ (B fun _ hK80=>A (zm O (jf hr h [105,104,106,26720,26656] Tryz.call194 (po v8.2.1 v8.1 v8.2.2.1) ⟨O,O,O,O,O,O,⟨hE _ O,⟨hE _ O,trivial⟩⟩⟩ O (fun _=>⟨O,O,O⟩) (fun _=>⟨O,O⟩) hp (fun y81 h=>?_)))))
   refine zQ hK80 (B fun _ hK82=>A (J (nE aS.y aS.b7 O O O O O) O ?_))
   refine J (bQ O O O) O ?_
   exact za O (zs O (zQ hK82 (H (zX (.cons (K O) (.cons (aZ O O O) .nil)) h O))))
def iP (n:Nat) (p0:(List UInt8)):D (Int×Bool):=
 iter (fun next6 (v5:Bool×Int)=>br (decide (v5.2<(List.length p0:Int))) (jn (fun (v11:Bool×Int)=>gd (bK (v11.2+1)) (next6 (v11.1,v11.2+1))) fun j12=>el p0 v5.2 fun b16=>br ((b16.toNat:Int)==34) (gd (bK (v5.2+1)) (.ok (v5.2+1,v5.1))) (el p0 v5.2 fun b24=>br ((b24.toNat:Int)==92) (br v5.1 (gd (bK (v5.2+1)) (j12 (true,v5.2+1))) (gd (bK (v5.2+1)) (br (decide ((v5.2+1)<(List.length p0:Int))) (gd (bK (v5.2+1)) (el p0 (v5.2+1) fun b35=>gd (bK (v5.2+1)) (j12 (((b35.toNat:Int)==40),v5.2+1)))) (gd (bK (v5.2+1)) (j12 (false,v5.2+1)))))) (j12 (v5.1,v5.2)))) (.ok (0,false))) n (false,1)
theorem uC (n:Nat) (p0:(List UInt8)):CT Tryz.prog 143 [F p0] [] (iP n p0) (fun x=>.fX [I x.1,Bo x.2]) (fun _=>[]):=by
 refine zC Tryz.func143 O fun r hp h hr E hE=>B fun _ hK1=>A (za O (za O (zQ hK1 (B fun _ hK2=>A (za O (zQ hK2 (B fun _ hK3=>B fun _ hK4=>A (za O (zQ hK4 (z (zL hr h (fun (v5:Bool×Int)=>[(0,F p0),(4,Bo v5.1),(5,I v5.2)]) (fun (v5:Bool×Int)=>[]) O fun _ v5 _ hK7 h=>B fun _ hK8=>B fun _ hK9=>A (zm O (zm O (J (dr O) O (zc O (zQ hK9 ?_))))))))))))))))
 refine zB O h (fun _ h=>?_) fun _ h=>?_
 · refine V (hK8 _ _ (zM h (fun (v11:Bool×Int)=>[(0,F p0),(4,Bo v11.1),(5,I v11.2)]) (fun (v11:Bool×Int)=>[]) (fun v11 h=>?_) fun _ _ hK13 h=>?_))
   · exact A (zm O (zd hr h fun hg14 h=>zo hg14 O (za O (N (hK7 _ _ _ h O)))))
   · refine z (z (B fun _ hK15=>A (zm O (zm O (ze hr h fun b16 h17 h18 h19 h=>J (dZ O O h17 h19) O (zc O (za O (zQ hK15 (zB O h (fun _ h=>?_) fun _ h=>?_)))))))))
     · exact B fun _ hK21=>A (zm O (zd hr h fun hg22 h=>zo hg22 O (zm O (za O (za O (zQ hK21 (H (zX (.cons (K O) (.cons (K O) .nil)) h O))))))))
     · refine B fun _ hK23=>A (zm O (zm O (ze hr h fun b24 h25 h26 h27 h=>J (dZ O O h25 h27) O (zc O (za O (zQ hK23 (zB O h (fun _ h=>?_) fun _ h=>?_)))))))
       · refine B fun _ hK29=>A (zm O (zm O (zb v5.1 (fun hb30=>?_) fun hb30=>?_)))
         · exact z1 hb30 h fun h=>zg hb30 O (zg hb30 O (zg hb30 O (zg hb30 O (zg hb30 O (zg hb30 O (zu O (zu O (zu O (zu O (zu O (zg hb30 O (zy hb30 O (za O (zQ hK29 (A (zm O (zd hr h fun hg31 h=>zo hg31 O (za O (N (hK13 _ _ _ h O))))))))))))))))))))
         · refine z2 hb30 h fun h=>zG hb30 O (W O) (zd hr h fun hg32 h=>zG hb30 O (k9 O O hg32) (zG hb30 O (W O) (zG hb30 O (dr O) (zG hb30 O (bw O O O) (zG hb30 O (W O) (zb (decide ((v5.2+1)<(List.length p0:Int))) (fun hb33=>?_) fun hb33=>?_))))))
           · exact z1 hb33 h fun h=>zG hb33 O (W O) (zG hb33 O (W O) (zd hr h fun hg34 h=>zG hb33 O (k9 O O hg34) (ze hr h fun b35 h36 h37 h38 h=>zG hb33 O (dZ O O h36 h38) (zG hb33 O (bw O O O) (zG hb30 O (dD hb33 O O) (zw hb30 O (za O (zQ hK29 (A (zm O (zd hr h fun hg39 h=>zo hg39 O (za O (N (hK13 _ _ _ h O))))))))))))))
           · exact z2 hb33 h fun h=>zg hb33 O (zg hb33 O (zg hb33 O (zg hb33 O (zg hb33 O (zG hb30 O (dy hb33 O O) (zw hb30 O (za O (zQ hK29 (A (zm O (zd hr h fun hg40 h=>zo hg40 O (za O (N (hK13 _ _ _ h O))))))))))))))
       · exact V (hK13 _ _ _ h O)
 · exact bB (hK3 _ _ (B fun _ hK41=>A (za O (za O (zQ hK41 (H (zX (.cons (K O) (.cons (K O) .nil)) h O)))))))
def gq (n:Nat) (p0:P):D (Bool×P):=
 gd ((0:Int)≤p0.at_∧p0.at_≤(List.length p0.text:Int)) (D.bind (iP n (dp p0.text p0.at_)) fun y4=>br (y4.1==0) (.ok (false,p0)) (gd (bK (p0.at_+y4.1)) (gd ((0:Int)≤p0.at_∧(p0.at_:Int)≤(p0.at_+y4.1)∧(p0.at_+y4.1)≤(List.length p0.text:Int)) (br y4.2 (gd (bK (y4.1 - 1)) (gd ((0:Int)≤1∧(1:Int)≤(y4.1 - 1)∧(y4.1 - 1)≤(List.length (sub p0.text p0.at_ (p0.at_+y4.1)):Int)) (D.bind (lr n (sub (sub p0.text p0.at_ (p0.at_+y4.1)) 1 (y4.1 - 1))) fun y19=>br (y19.2.Errno !=0) (.ok (false,p0)) (gd (bK (y4.1 - 1)) (gd ((0:Int)≤1∧(1:Int)≤(y4.1 - 1)∧(y4.1 - 1)≤(List.length (sub p0.text p0.at_ (p0.at_+y4.1)):Int)) (D.bind (bD 4 (sub (sub p0.text p0.at_ (p0.at_+y4.1)) 1 (y4.1 - 1)) y4.1 p0) fun y26=>.ok (true,y26))))))) (D.bind (kH n (sub p0.text p0.at_ (p0.at_+y4.1))) fun y29=>br (y29.2.Errno !=0) (.ok (false,p0)) (D.bind (bD 3 y29.1 y4.1 p0) fun y35=>.ok (true,y35)))))))
theorem r8 (n:Nat) (p0:P):CT Tryz.prog 101 [.ptr 0 0] [.box [F p0.text,I p0.at_,.arr 1 (List.length p0.out),Bo p0.line],.app 49 4 (au.Cs p0.out)] (gq n p0) (fun x=>Bo x.1) (fun x=>[.box [F x.2.text,I x.2.at_,.arr 1 (List.length x.2.out),Bo x.2.line],.app 49 4 (au.Cs x.2.out)]):=by
 refine zC Tryz.func101 O fun r hp h hr E hE=>B fun _ hK1=>A (za O (zQ hK1 (B fun _ hK2=>bL [0,1,2,3,4,5,6,7,8,9,10,11,12,13,14] O (by kernel_rfl) (zD O (W O) O (zD O (da O) O (zD O (bR O) O (zD O (bp O O O) O (zD O (W O) O (zD O (da O) O (zD O (bR O) O (zD O (bp O O O) O (zd hr h fun hg3 h=>zD O (hZ O O hg3.1 hg3.2) O (dL O (bX O) hr h [] Tryz.call143 (uC n (dp p0.text p0.at_)) ⟨O,O,O,O,O,O,trivial⟩ O O (fun _=>⟨O,O,O⟩) (fun _=>⟨O,O⟩) hp (fun y4 h=>⟨aL O,?_⟩))))))))))))))
 refine zD O (W O) O (zD O (o4 O O) O (zD O (o4 O O) O (fK O O O (aL O) O (fK O O O (aL O) O (cX (hK2 _ _ (B fun _ hK5=>B fun _ hK6=>A (zm O (zc O (zQ hK6 (zB O h (fun _ h=>?_) fun _ h=>?_)))))))))))
 · exact B fun _ hK8=>A (za O (zQ hK8 (H (zX (.cons (K O) .nil) h O))))
 · refine V (hK5 _ _ (B fun _ hK9=>bL [0,1,2,3,4,5,6,7,8,9,10,11,12,13,14,15] O (by kernel_rfl) (zD O (W O) O (zD O (da O) O (zD O (bR O) O (zD O (bp O O O) O (zD O (W O) O (zD O (da O) O (zD O (bR O) O (zD O (bp O O O) O (zD O (W O) O (zD O (da O) O (zD O (bR O) O (zD O (bp O O O) O (zD O (W O) O (zd hr h fun hg10 h=>zD O (k9 O O hg10) O (zd hr h fun hg11 h=>zD O (ve O O O hg11.1 hg11.2.1 hg11.2.2) O (fK O O O (aL O) O (cX (hK9 _ _ (B fun _ hK12=>?_)))))))))))))))))))))
   refine B fun _ hK13=>A (zm O (zQ hK13 (zB O h (fun _ h=>?_) fun _ h=>?_)))
   · refine B fun _ hK15=>B fun _ hK16=>A (zm O (zm O (zd hr h fun hg17 h=>J (qv O O hg17) O (zd hr h fun hg18 h=>J (ve O O O hg18.1 hg18.2.1 hg18.2.2) O (zk hp hr h [] Tryz.call144 (rD n (sub (sub p0.text p0.at_ (p0.at_+y4.1)) 1 (y4.1 - 1))) O (fun _=>O) fun y19 h=>zm O (zx O (zx O (aK 107 (hE _ O) ⟨O,O,O,O⟩ O ?_))))))))
     refine za O (zs O (zQ hK16 (B fun _ hK20=>A (zf O (zl O (zc O (zQ hK20 (zB O h (fun _ h=>?_) fun _ h=>?_))))))))
     · exact B fun _ hK22=>A (za O (zQ hK22 (H (zX (.cons (K O) .nil) h O))))
     · refine V (hK15 _ _ (B fun _ hK23=>A (zm O (zm O (zm O (zd hr h fun hg24 h=>J (qv O O hg24) O (zd hr h fun hg25 h=>J (ve O O O hg25.1 hg25.2.1 hg25.2.2) O (zm O (jf hr h [0,1] Tryz.call53 (eY 4 (sub (sub p0.text p0.at_ (p0.at_+y4.1)) 1 (y4.1 - 1)) y4.1 p0) ⟨O,O,O,O,O,O,⟨hE _ O,trivial⟩⟩ O (fun _=>⟨O,O,O⟩) (fun _=>⟨O,O⟩) hp (fun y26 h=>?_))))))))))
       exact zQ hK23 (B fun _ hK27=>A (za O (zQ hK27 (H (zX (.cons (K O) .nil) h O)))))
   · refine V (hK12 _ _ (B fun _ hK28=>A (zm O (zk hp hr h [] Tryz.call145 (qA n (sub p0.text p0.at_ (p0.at_+y4.1))) O (fun _=>O) fun y29 h=>zm O (zx O (zx O (aK 109 (hE _ O) ⟨O,O,O,O⟩ O ?_)))))))
     refine za O (zs O (zQ hK28 (B fun _ hK30=>B fun _ hK31=>A (zf O (zl O (zc O (zQ hK31 (zB O h (fun _ h=>?_) fun _ h=>?_))))))))
     · exact B fun _ hK33=>A (za O (zQ hK33 (H (zX (.cons (K O) .nil) h O))))
     · refine V (hK30 _ _ (B fun _ hK34=>A (zm O (zm O (zm O (jf hr h [0,1] Tryz.call53 (eY 3 y29.1 y4.1 p0) ⟨O,O,O,O,O,O,⟨hE _ O,trivial⟩⟩ O (fun _=>⟨O,O,O⟩) (fun _=>⟨O,O⟩) hp (fun y35 h=>?_)))))))
       exact zQ hK34 (B fun _ hK36=>A (za O (zQ hK36 (H (zX (.cons (K O) .nil) h O)))))
def jD (p0:Int):D (Bool):=
 br (decide (p0≥97)) (br (decide (p0≤122)) (.ok (true)) (br (decide (p0≥65)) (br (decide (p0≤90)) (.ok (true)) (.ok ((p0==95)))) (.ok ((p0==95))))) (br (decide (p0≥65)) (br (decide (p0≤90)) (.ok (true)) (.ok ((p0==95)))) (.ok ((p0==95))))
theorem rE (p0:Int):CT Tryz.prog 139 [Sc (.int .u8 p0)] [] (jD p0) (fun x=>Bo x) (fun _=>[]):=by
 refine zC Tryz.func139 O fun r hp h hr E hE=>B fun _ hK1=>A (za O (zQ hK1 (B fun _ hK2=>A (zm O (zc O (zm O (zb (decide (p0≥97)) (fun hb3=>?_) fun hb3=>?_)))))))
 · refine z1 hb3 h fun h=>zG hb3 O (W O) (zG hb3 O (bw O O O) (zy hb3 O (zm O (zb (decide (p0≤122)) (fun hb4=>?_) fun hb4=>?_))))
   · exact z1 hb4 h fun h=>zg hb4 O (zg hb4 O (zg hb4 O (zu O (zu O (zg hb4 O (zy hb4 O (zm O (zg O O (zg O O (zt O (za O (zQ hK2 (H (zX (.cons (K O) .nil) h O))))))))))))))
   · refine z2 hb4 h fun h=>zG hb4 O (W O) (zG hb4 O (bw O O O) (zG hb4 O (W O) (zb (decide (p0≥65)) (fun hb5=>?_) fun hb5=>?_)))
     · refine z1 hb5 h fun h=>zG hb5 O (W O) (zG hb5 O (bw O O O) (zG hb4 O (dD hb5 O O) (zw hb4 O (zm O (zb (decide (p0≤90)) (fun hb6=>?_) fun hb6=>?_)))))
       · exact z1 hb6 h fun h=>zg hb6 O (zg hb6 O (zy hb6 O (za O (zQ hK2 (H (zX (.cons (K O) .nil) h O))))))
       · exact z2 hb6 h fun h=>zG hb6 O (W O) (zG hb6 O (bw O O O) (zw hb6 O (za O (zQ hK2 (H (zX (.cons (K O) .nil) h O))))))
     · exact z2 hb5 h fun h=>zg hb5 O (zg hb5 O (zG hb4 O (dy hb5 O O) (zw hb4 O (zm O (zG O O (W O) (zG O O (bw O O O) (J (dI O O) O (za O (zQ hK2 (H (zX (.cons (K O) .nil) h O)))))))))))
 · refine z2 hb3 h fun h=>zg hb3 O (zg hb3 O (zw hb3 O (zm O (zG O O (W O) (zG O O (bw O O O) (zG O O (W O) (zb (decide (p0≥65)) (fun hb7=>?_) fun hb7=>?_)))))))
   · refine z1 hb7 h fun h=>zG hb7 O (W O) (zG hb7 O (bw O O O) (zG O O (dD hb7 O O) (J (dI O O) O (zm O (zb (decide (p0≤90)) (fun hb8=>?_) fun hb8=>?_)))))
     · exact z1 hb8 h fun h=>zg hb8 O (zg hb8 O (zy hb8 O (za O (zQ hK2 (H (zX (.cons (K O) .nil) h O))))))
     · exact z2 hb8 h fun h=>zG hb8 O (W O) (zG hb8 O (bw O O O) (zw hb8 O (za O (zQ hK2 (H (zX (.cons (K O) .nil) h O))))))
   · exact z2 hb7 h fun h=>zg hb7 O (zg hb7 O (zG O O (dy hb7 O O) (J (dI O O) O (zm O (zG O O (W O) (zG O O (bw O O O) (J (dI O O) O (za O (zQ hK2 (H (zX (.cons (K O) .nil) h O)))))))))))
def jE (n:Nat) (p0:(List UInt8)):D (Int):=
 jn (fun (v3:Int)=>br (v3==1) (el p0 0 fun b9=>D.bind (jD (b9.toNat:Int)) fun y13=>br (!y13) (.ok (0)) (el p0 0 fun b16=>br ((b16.toNat:Int)==95) (.ok (0)) (.ok (v3)))) (.ok (v3))) fun j4=>iter (fun next25 (v24:Int)=>jn (fun (_:Unit)=>gd (bK (v24+1)) (next25 (v24+1))) fun j28=>br (decide (v24<(List.length p0:Int))) (el p0 v24 fun b33=>D.bind (jD (b33.toNat:Int)) fun y37=>br y37 (j28 ()) (br (decide (v24>0)) (el p0 v24 fun b40=>D.bind (gv (b40.toNat:Int)) fun y44=>br y44 (j28 ()) (br (v24==0) (el p0 v24 fun b47=>br ((b47.toNat:Int)==35) (j28 ()) (j4 (v24))) (j4 (v24)))) (br (v24==0) (el p0 v24 fun b53=>br ((b53.toNat:Int)==35) (j28 ()) (j4 (v24))) (j4 (v24))))) (j4 (v24))) n (0)
theorem xv (n:Nat) (p0:(List UInt8)):CT Tryz.prog 97 [F p0] [] (jE n p0) (fun x=>I x) (fun _=>[]):=by
 refine zC Tryz.func97 O fun r hp h hr E hE=>B fun _ hK1=>A (za O (zQ hK1 (B fun _ hK2=>A (za O (zQ hK2 (zM h (fun (v3:Int)=>[(0,F p0),(3,I v3)]) (fun (v3:Int)=>[]) (fun v3 h=>?_) fun _ _ hK5 h=>?_))))))
 · refine B fun _ hK6=>B fun _ hK7=>A (zm O (zc O (zm O (zb (v3==1) (fun hb8=>?_) fun hb8=>?_))))
   · refine z1 hb8 h fun h=>zG hb8 O (W O) (ze hr h fun b9 h10 h11 h12 h=>zG hb8 O (dZ O O h10 h12) (zK hb8 O hp hr h [] Tryz.call139 (rE (b9.toNat:Int)) O (fun _=>O) fun y13 h=>zG hb8 O (eS O) (zy hb8 O (zm O (zb (!y13) (fun hb14=>?_) fun hb14=>?_)))))
     · refine z1 hb14 h fun h=>zg hb14 O (zg hb14 O (zg hb14 O (zu O (zu O (zu O (zg hb14 O (zy hb14 O (zQ hK7 (dm O (fun hc=>?_) (fun hc=>?_))))))))))
       · exact B fun _ hK15=>A (za O (zQ hK15 (H (zX (.cons (K O) .nil) h O))))
       · exact absurd (hc) (by simp)
     · refine z2 hb14 h fun h=>zG hb14 O (W O) (zG hb14 O (bw O O O) (zG hb14 O (W O) (zG hb8 O (W O) (ze hr h fun b16 h17 h18 h19 h=>zG hb8 O (dZ O O h17 h19) (zG hb8 O (bw O O O) (zG hb14 O (dD hb8 O O) (zw hb14 O (zQ hK7 (zB O h (fun _ h=>?_) fun _ h=>?_)))))))))
       · exact B fun _ hK21=>A (za O (zQ hK21 (H (zX (.cons (K O) .nil) h O))))
       · exact V (hK6 _ _ (B fun _ hK22=>A (zm O (za O (zQ hK22 (H (zX (.cons (K O) .nil) h O)))))))
   · refine z2 hb8 h fun h=>zg hb8 O (zg hb8 O (zg hb8 O (zg hb8 O (zw hb8 O (zm O (zG O O (W O) (zG O O (bw O O O) (zG O O (W O) (zg hb8 O (zg hb8 O (zg hb8 O (zG O O (dy hb8 O O) (J (dI O O) O (zQ hK7 (dm O (fun hc=>?_) (fun hc=>?_))))))))))))))))
     · exact absurd (hc) (by simp)
     · exact V (hK6 _ _ (B fun _ hK23=>A (zm O (za O (zQ hK23 (H (zX (.cons (K O) .nil) h O)))))))
 · refine z (zL hr h (fun (v24:Int)=>[(0,F p0),(3,I v24)]) (fun (v24:Int)=>[]) O fun _ v24 _ hK26 h=>zM h (fun (v27:Unit)=>[(0,F p0),(3,I v24)]) (fun (v27:Unit)=>[]) (fun v27 h=>?_) fun _ _ hK29 h=>?_)
   · exact z (A (zm O (zd hr h fun hg30 h=>zo hg30 O (za O (N (hK26 _ _ _ h O))))))
   · refine B fun _ hK31=>A (zm O (zm O (J (dr O) O (zc O (zm O (zb (decide (v24<(List.length p0:Int))) (fun hb32=>?_) fun hb32=>?_))))))
     · refine z1 hb32 h fun h=>zG hb32 O (W O) (zG hb32 O (W O) (ze hr h fun b33 h34 h35 h36 h=>zG hb32 O (dZ O O h34 h36) (zK hb32 O hp hr h [] Tryz.call139 (rE (b33.toNat:Int)) O (fun _=>O) fun y37 h=>zG hb32 O (W O) (zb y37 (fun hb38=>?_) fun hb38=>?_))))
       · refine z1 hb38 h fun h=>zg hb38 O (zg hb38 O (zg hb38 O (zu O (zu O (zu O (zu O (zg hb38 O (zG hb32 O (dD hb38 O O) (zG hb32 O (W O) (zg O O (zg O O (zg O O (zu O (zu O (zu O (zu O (zg O O (zG hb32 O (uL O O) (zy hb32 O (zQ hK31 (dm O (fun hc=>?_) (fun hc=>?_))))))))))))))))))))))
         · exact V (hK29 _ _ _ h O)
         · exact absurd (hc) (by simp)
       · refine z2 hb38 h fun h=>zG hb38 O (W O) (zG hb38 O (bw O O O) (zG hb38 O (W O) (zb (decide (v24>0)) (fun hb39=>?_) fun hb39=>?_)))
         · refine z1 hb39 h fun h=>zG hb39 O (W O) (zG hb39 O (W O) (ze hr h fun b40 h41 h42 h43 h=>zG hb39 O (dZ O O h41 h43) (zK hb39 O hp hr h [] Tryz.call98 (kG (b40.toNat:Int)) O (fun _=>O) fun y44 h=>zG hb38 O (dD hb39 O O) (zG hb32 O (dy hb38 O O) (zG hb32 O (W O) (zb y44 (fun hb45=>?_) fun hb45=>?_))))))
           · refine z1 hb45 h fun h=>zg hb45 O (zg hb45 O (zg hb45 O (zu O (zu O (zu O (zu O (zg hb45 O (zG hb32 O (dD hb45 O O) (zy hb32 O (zQ hK31 (dm O (fun hc=>?_) (fun hc=>?_))))))))))))
             · exact V (hK29 _ _ _ h O)
             · exact absurd (hc) (by simp)
           · refine z2 hb45 h fun h=>zG hb45 O (W O) (zG hb45 O (bw O O O) (zG hb45 O (W O) (zb (v24==0) (fun hb46=>?_) fun hb46=>?_)))
             · refine z1 hb46 h fun h=>zG hb46 O (W O) (zG hb46 O (W O) (ze hr h fun b47 h48 h49 h50 h=>zG hb46 O (dZ O O h48 h50) (zG hb46 O (bw O O O) (zG hb45 O (dD hb46 O O) (zG hb32 O (dy hb45 O O) (zy hb32 O (zQ hK31 (zB O h (fun _ h=>?_) fun _ h=>?_))))))))
               · exact V (hK29 _ _ _ h O)
               · exact bB (hK5 _ _ _ h O)
             · refine z2 hb46 h fun h=>zg hb46 O (zg hb46 O (zg hb46 O (zg hb46 O (zG hb45 O (dy hb46 O O) (zG hb32 O (dy hb45 O O) (zy hb32 O (zQ hK31 (dm O (fun hc=>?_) (fun hc=>?_)))))))))
               · exact absurd (hc) (by simp)
               · exact bB (hK5 _ _ _ h O)
         · refine z2 hb39 h fun h=>zg hb39 O (zg hb39 O (zg hb39 O (zg hb39 O (zG hb38 O (dy hb39 O O) (zG hb32 O (dy hb38 O O) (zG hb32 O (W O) (zG O O (W O) (zG O O (bw O O O) (zG O O (W O) (zb (v24==0) (fun hb52=>?_) fun hb52=>?_))))))))))
           · refine z1 hb52 h fun h=>zG hb52 O (W O) (zG hb52 O (W O) (ze hr h fun b53 h54 h55 h56 h=>zG hb52 O (dZ O O h54 h56) (zG hb52 O (bw O O O) (zG O O (dD hb52 O O) (zG hb32 O (dI O O) (zy hb32 O (zQ hK31 (zB O h (fun _ h=>?_) fun _ h=>?_))))))))
             · exact V (hK29 _ _ _ h O)
             · exact bB (hK5 _ _ _ h O)
           · refine z2 hb52 h fun h=>zg hb52 O (zg hb52 O (zg hb52 O (zg hb52 O (zG O O (dy hb52 O O) (zG hb32 O (dI O O) (zy hb32 O (zQ hK31 (dm O (fun hc=>?_) (fun hc=>?_)))))))))
             · exact absurd (hc) (by simp)
             · exact bB (hK5 _ _ _ h O)
     · refine z2 hb32 h fun h=>zg hb32 O (zg hb32 O (zg hb32 O (zg hb32 O (zg hb32 O (zu O (zu O (zu O (zu O (zu O (zu O (zu O (zu O (zg hb32 O (zg hb32 O (zu O (zu O (zu O (zu O (zu O (zu O (zu O (zu O (zg hb32 O ?_)))))))))))))))))))))))
       refine zw hb32 O (zQ hK31 (dm O (fun hc=>?_) (fun hc=>?_)))
       · exact absurd (hc) (by simp)
       · exact bB (hK5 _ _ _ h O)
def ej (n:Nat) (p0:P):D (Bool×P):=
 gd ((0:Int)≤p0.at_∧p0.at_≤(List.length p0.text:Int)) (D.bind (strings_HasPrefix (dp p0.text p0.at_) ([47,47]:List UInt8)) fun y6=>br y6 (D.bind (strings_Cut (dp p0.text p0.at_) ([10]:List UInt8)) fun y9=>gd ((0:Int)≤2∧2≤(List.length y9.1:Int)) (D.bind (bD 6 (dp y9.1 2) (List.length y9.1:Int) p0) fun y12=>.ok (true,y12))) (D.bind (jE n (dp p0.text p0.at_)) fun y16=>br (decide (y16>0)) (gd ((0:Int)≤y16∧y16≤(List.length (dp p0.text p0.at_):Int)) (D.bind (bD 1 (iU (dp p0.text p0.at_) y16) y16 p0) fun y21=>.ok (true,y21))) (el (dp p0.text p0.at_) 0 fun b25=>D.bind (gv (b25.toNat:Int)) fun y30=>br y30 (D.bind (jC n (dp p0.text p0.at_)) fun y33=>gd ((0:Int)≤y33∧y33≤(List.length (dp p0.text p0.at_):Int)) (D.bind (mr n (iU (dp p0.text p0.at_) y33)) fun y37=>br (y37.2 !=0) (.ok (false,p0)) (gd ((0:Int)≤y33∧y33≤(List.length (dp p0.text p0.at_):Int)) (D.bind (bD 2 (iU (dp p0.text p0.at_) y33) y33 p0) fun y42=>.ok (true,y42))))) (br ((b25.toNat:Int)==34) (D.bind (gq n p0) fun y47=>.ok (y47.1,y47.2)) (D.bind (eV n (dp p0.text p0.at_)) fun y49=>br (y49==([]:List UInt8)) (.ok (false,p0)) (D.bind (bD 5 y49 (List.length y49:Int) p0) fun y54=>.ok (true,y54)))))))
theorem rF (n:Nat) (p0:P):CT Tryz.prog 54 [.ptr 0 0] [.box [F p0.text,I p0.at_,.arr 1 (List.length p0.out),Bo p0.line],.app 49 4 (au.Cs p0.out)] (ej n p0) (fun x=>Bo x.1) (fun x=>[.box [F x.2.text,I x.2.at_,.arr 1 (List.length x.2.out),Bo x.2.line],.app 49 4 (au.Cs x.2.out)]):=by
 refine zC Tryz.func54 O fun r hp h hr E hE=>B fun _ hK1=>A (za O (zQ hK1 (B fun _ hK2=>bL [0,1,2,3,4,5,6,7,8,9] O (by kernel_rfl) (zD O (W O) O (zD O (da O) O (zD O (bR O) O (zD O (bp O O O) O (zD O (W O) O (zD O (da O) O (zD O (bR O) O (zD O (bp O O O) O (zd hr h fun hg3 h=>zD O (hZ O O hg3.1 hg3.2) O (fK O O O (aL O) O (cX (hK2 _ _ (B fun _ hK4=>B fun _ hK5=>A (zm O (zk hp hr h [] Tryz.call95 (iY (dp p0.text p0.at_) ([47,47]:List UInt8)) O (fun _=>O) fun y6 h=>?_))))))))))))))))))
 refine zQ hK5 (zB O h (fun _ h=>?_) fun _ h=>?_)
 · refine B fun _ hK8=>A (zm O (zk hp hr h [] Tryz.call96 (vS (dp p0.text p0.at_) ([10]:List UInt8)) O (fun _=>O) fun y9 h=>zm O (zx O (zx O (zx O (za O (za O (za O (zQ hK8 (B fun _ hK10=>A (zm O (zm O (zd hr h fun hg11 h=>J (hZ O O hg11.1 hg11.2) O (zm O (J (dr O) O (jf hr h [0,1] Tryz.call53 (eY 6 (dp y9.1 2) (List.length y9.1:Int) p0) ⟨O,O,O,O,O,O,⟨hE _ O,trivial⟩⟩ O (fun _=>⟨O,O,O⟩) (fun _=>⟨O,O⟩) hp (fun y12 h=>?_)))))))))))))))))
   exact zQ hK10 (B fun _ hK13=>A (za O (zQ hK13 (H (zX (.cons (K O) .nil) h O)))))
 · refine V (hK4 _ _ (B fun _ hK14=>B fun _ hK15=>A (zm O (zk hp hr h [] Tryz.call97 (xv n (dp p0.text p0.at_)) O (fun _=>O) fun y16 h=>za O (zQ hK15 (B fun _ hK17=>A (zm O (zc O (zQ hK17 (zB O h (fun _ h=>?_) fun _ h=>?_))))))))))
   · refine B fun _ hK19=>A (zm O (zm O (zm O (zd hr h fun hg20 h=>J (pK O O hg20.1 hg20.2) O (zm O (jf hr h [0,1] Tryz.call53 (eY 1 (iU (dp p0.text p0.at_) y16) y16 p0) ⟨O,O,O,O,O,O,⟨hE _ O,trivial⟩⟩ O (fun _=>⟨O,O,O⟩) (fun _=>⟨O,O⟩) hp (fun y21 h=>?_)))))))
     exact zQ hK19 (B fun _ hK22=>A (za O (zQ hK22 (H (zX (.cons (K O) .nil) h O)))))
   · refine V (hK14 _ _ (B fun _ hK23=>B fun _ hK24=>A (zm O (ze hr h fun b25 h26 h27 h28 h=>J (dZ O O h26 h28) O (za O (zQ hK24 (z (B fun _ hK29=>A (zm O (zk hp hr h [] Tryz.call98 (kG (b25.toNat:Int)) O (fun _=>O) fun y30 h=>za O (zQ hK29 (zB O h (fun _ h=>?_) fun _ h=>?_))))))))))))
     · refine B fun _ hK32=>A (zm O (zk hp hr h [] Tryz.call99 (vz n (dp p0.text p0.at_)) O (fun _=>O) fun y33 h=>za O (zQ hK32 (B fun _ hK34=>B fun _ hK35=>A (zm O (zm O (zd hr h fun hg36 h=>J (pK O O hg36.1 hg36.2) O (zk hp hr h [] Tryz.call100 (sj n (iU (dp p0.text p0.at_) y33)) O (fun _=>O) fun y37 h=>zm O (zx O (zx O (za O (za O (zQ hK35 (B fun _ hK38=>A (zm O (zc O (zQ hK38 ?_)))))))))))))))))
       refine zB O h (fun _ h=>?_) fun _ h=>?_
       · exact B fun _ hK40=>A (za O (zQ hK40 (H (zX (.cons (K O) .nil) h O))))
       · refine V (hK34 _ _ (A (zm O (zm O (zm O (zd hr h fun hg41 h=>J (pK O O hg41.1 hg41.2) O (zm O (jf hr h [0,1] Tryz.call53 (eY 2 (iU (dp p0.text p0.at_) y33) y33 p0) ⟨O,O,O,O,O,O,⟨hE _ O,trivial⟩⟩ O (fun _=>⟨O,O,O⟩) (fun _=>⟨O,O⟩) hp (fun y42 h=>?_)))))))))
         exact zQ hK23 (B fun _ hK43=>A (za O (zQ hK43 (H (zX (.cons (K O) .nil) h O)))))
     · refine B fun _ hK44=>A (zm O (zc O (za O (zQ hK44 (zB O h (fun _ h=>?_) fun _ h=>?_)))))
       · refine B fun _ hK46=>A (zm O (jf hr h [0,1] Tryz.call101 (r8 n p0) ⟨O,O,O,O,O,O,⟨hE _ O,trivial⟩⟩ O (fun _=>⟨O,O,O⟩) (fun _=>⟨O,O⟩) hp (fun y47 h=>?_)))
         exact za O (zQ hK46 (H (zX (.cons (K O) .nil) h O)))
       · refine B fun _ hK48=>A (zm O (zk hp hr h [] Tryz.call102 (tO n (dp p0.text p0.at_)) O (fun _=>O) fun y49 h=>za O (zQ hK48 (B fun _ hK50=>B fun _ hK51=>A (zm O (J (jc O O) O (zQ hK51 (zB O h (fun _ h=>?_) fun _ h=>?_))))))))
         · exact B fun _ hK53=>A (za O (zQ hK53 (H (zX (.cons (K O) .nil) h O))))
         · refine V (hK50 _ _ (A (zm O (zm O (zm O (J (dr O) O (jf hr h [0,1] Tryz.call53 (eY 5 y49 (List.length y49:Int) p0) ⟨O,O,O,O,O,O,⟨hE _ O,trivial⟩⟩ O (fun _=>⟨O,O,O⟩) (fun _=>⟨O,O⟩) hp (fun y54 h=>?_))))))))
           exact zQ hK23 (B fun _ hK55=>A (za O (zQ hK55 (H (zX (.cons (K O) .nil) h O)))))
def fP (n:Nat) (p0:(List UInt8)):D ((List au)×dH):=
 br (decide ((List.length p0:Int)>65536)) (.ok ([],(dH.mk 2 0))) (iter (fun next10 (v9:P)=>br (decide (v9.at_<(List.length p0:Int))) (el p0 v9.at_ fun b16=>jn (fun (_:Unit)=>gd (bK (v9.at_+1)) (next10 ((P.mk v9.text (v9.at_+1) v9.out v9.line)))) fun j22=>br ((b16.toNat:Int)==10) (br v9.line (D.bind (bD 7 ([10]:List UInt8) 1 v9) fun y34=>next10 ((P.mk y34.text y34.at_ y34.out false))) (j22 ())) (br ((b16.toNat:Int)==32) (j22 ()) (br ((b16.toNat:Int)==9) (j22 ()) (br ((b16.toNat:Int)==13) (j22 ()) (D.bind (ej n v9) fun y44=>br (!y44.1) (.ok ([],(dH.mk 8 y44.2.at_))) (next10 (y44.2))))))) (D.bind (bD 0 ([]:List UInt8) 0 v9) fun y48=>.ok (y48.out,(dH.mk 0 0)))) n ((P.mk p0 0 [] false)))
theorem pZ (n:Nat) (p0:(List UInt8)):CT Tryz.prog 24 [F p0] [] (fP n p0) (fun x=>.fX [.pv (.sl (List.length x.1) (au.Cs x.1)),.agg [I x.2.Errno,I x.2.At]]) (fun _=>[]):=by
 refine zC Tryz.func24 O fun r hp h hr E hE=>B fun _ hK1=>A (za O (aK 103 (hE _ O) ⟨O,O,O,O⟩ O ?_))
 refine zQ hK1 (yz ?_)
 refine B fun _ hK2=>B fun _ hK3=>A (zm O (J (dr O) O (zc O (zQ hK3 (zB O h (fun _ h=>?_) fun _ h=>?_)))))
 · refine B fun _ hK5=>A (J (bQ O O O) O ?_)
   refine za O (zs O (zQ hK5 (b3 (yp (d:=2) O O) ?_)))
   exact H (zX (.cons (K O) (.cons (aZ O O O) .nil)) h O)
 · refine V (hK2 _ _ (B fun _ hK6=>A (zm O (J (dC O O) O ?_))))
   refine eg 111 (hE _ O) ⟨O,O,O,O,O,O,O⟩ O ?_
   refine za O (zQ hK6 (B fun _ hK7=>x9 ?_))
   refine hK7 _ _ (B fun _ hK8=>z (b3 (rT (j:=111) (off:=2) 27106 (sz:=4) (el:=49) (hE _ O) O O ⟨O,O,O⟩ O) ?_))
   refine zL hr h (fun (v9:P)=>[(0,F p0),(3,.ptr 103 0),(4,.ptr 111 0)]) (fun (v9:P)=>[(103,.box [I 0,I 0]),(111,.box [F v9.text,I v9.at_,.arr 27106 (List.length v9.out),Bo v9.line]),(27106,.app 49 4 (au.Cs v9.out))]) O fun _ v9 _ hK11 h=>B fun _ hK12=>B fun _ hK13=>A (zm O (zn O (zf O (zl O (zm O (J (dr O) O (zc O (zQ hK13 (zB O h (fun _ h=>?_) fun _ h=>?_)))))))))
   · refine V (hK12 _ _ (z (B fun _ hK15=>A (zm O (zm O (zn O (zf O (zl O (ze hr h fun b16 h17 h18 h19 h=>J (dZ O O h17 h19) O (zQ hK15 (z (B fun _ hK20=>z (zM h (fun (v21:Unit)=>[(0,F p0),(3,.ptr 103 0),(4,.ptr 111 0)]) (fun (v21:Unit)=>[(103,.box [I 0,I 0]),(111,.box [F v9.text,I v9.at_,.arr 27106 (List.length v9.out),Bo v9.line]),(27106,.app 49 4 (au.Cs v9.out))]) (fun v21 h=>?_) fun _ _ hK23 h=>?_)))))))))))))
     · exact B fun _ hK24=>A (zm O (zn O (zf O (zl O (zd hr h fun hg25 h=>zo hg25 O (zn O (zf O (zs O (zQ hK24 (bB (hK11 _ _ _ h O)))))))))))
     · refine z (B fun _ hK26=>z (B fun _ hK27=>B fun _ hK28=>B fun _ hK29=>A (zc O (za O (zQ hK29 (zB O h (fun _ h=>?_) fun _ h=>?_))))))
       · refine bB (hK26 _ _ (B fun _ hK31=>A (zm O (zn O (zf O (zl O (zQ hK31 (zB O h (fun _ h=>?_) fun _ h=>?_))))))))
         · refine B fun _ hK33=>A (zm O (jf hr h [111,27106] Tryz.call53 (eY 7 ([10]:List UInt8) 1 v9) ⟨O,O,O,O,O,O,⟨hE _ O,trivial⟩⟩ O (fun _=>⟨O,O,O⟩) (fun _=>⟨O,O⟩) hp (fun y34 h=>?_)))
           exact zQ hK33 (B fun _ hK35=>A (zm O (zn O (zf O (zs O (zQ hK35 (bB (hK11 _ _ _ h O))))))))
         · exact V (hK23 _ _ _ h O)
       · refine V (hK28 _ _ (B fun _ hK36=>B fun _ hK37=>A (zc O (za O (zQ hK37 (zB O h (fun hb38 h=>?_) fun _ h=>?_))))))
         · refine V (hK36 _ _ (dm O (fun hc=>?_) (fun hc=>?_)))
           · exact bB (hK23 _ _ _ h O)
           · exact absurd (hb38.symm.trans hc) (by simp)
         · refine B fun _ hK39=>A (zc O (za O (zQ hK39 (zB O h (fun hb40 h=>?_) fun _ h=>?_))))
           · refine V (hK36 _ _ (dm O (fun hc=>?_) (fun hc=>?_)))
             · exact bB (hK23 _ _ _ h O)
             · exact absurd (hb40.symm.trans hc) (by simp)
           · refine A (zc O (za O (zQ hK36 (zB O h (fun _ h=>?_) fun _ h=>?_))))
             · exact bB (hK23 _ _ _ h O)
             · refine V (hK27 _ _ (bB (hK20 _ _ (B fun _ hK42=>B fun _ hK43=>A (zm O (jf hr h [111,27106] Tryz.call54 (rF n v9) ⟨O,O,O,O,O,O,⟨hE _ O,trivial⟩⟩ O (fun _=>⟨O,O,O⟩) (fun _=>⟨O,O⟩) hp (fun y44 h=>?_)))))))
               refine J (eS O) O (zQ hK43 (zB O h (fun _ h=>?_) fun _ h=>?_))
               · refine B fun _ hK46=>bL [0,1,2,3,4,5,6] O (by kernel_rfl) (zD O (W O) O (zD O (da O) O (zD O (bR O) O (zD O (fj [.any,I y44.2.at_,.any,.any] O O ⟨.inr O,.inl O,.inr O,.inr O,trivial⟩ O) O (zD O (bQ O O O) O ?_)))))
                 refine fK O O O (cP ⟨trivial,⟨⟨⟨_,O,M.ff ⟨.inr O,.inl O,.inr O,.inr O,trivial⟩⟩,trivial⟩,⟨trivial,⟨trivial,⟨trivial,trivial⟩⟩⟩⟩⟩) O (cf O ⟨O,O,O,O,O,O,O,O⟩ O (fun e6 he=>⟨aL O,?_⟩))
                 subst he
                 refine cX (hK46 _ _ (b3 (yp (d:=2) O O) ?_))
                 exact H (zX (.cons (K O) (.cons (aZ O O O) .nil)) h O)
               · exact V (hK42 _ _ (bB (hK11 _ _ _ h O)))
   · refine bB (hK8 _ _ (B fun _ hK47=>A (zm O (jf hr h [111,27106] Tryz.call53 (eY 0 ([]:List UInt8) 0 v9) ⟨O,O,O,O,O,O,⟨hE _ O,trivial⟩⟩ O (fun _=>⟨O,O,O⟩) (fun _=>⟨O,O⟩) hp (fun y48 h=>?_)))))
     refine zQ hK47 (B fun _ hK49=>A (zm O (zn O (zf O (J (nE au.y au.b7 O O O O O) O ?_)))))
     refine J (bQ O O O) O ?_
     exact za O (zs O (zQ hK49 (H (zX (.cons (K O) (.cons (aZ O O O) .nil)) h O))))
end Go.Abs
end
section
namespace Go.Abs
open D
theorem p7 {s p:List UInt8}:Ev (fun _=>strings_HasPrefix s p) (fun r=>r=true→p.length≤s.length) gA:=by
 unfold strings_HasPrefix stringslite_HasPrefix
 refine Ev.aQ (Q:=fun r=>r=true→p.length≤s.length) ?_ fun _ h=>Ev.ok h
 (repeat' (first|((with_reducible first|refine Ev.gd ?_ ?_|refine Ev.kp ?_ (fun _ _=>?_));(next=>(first|omega|(simp[bK,cV,c7,maxLen]<;>omega))))|with_reducible (first|apply Ev.cD|apply Ev.cg)|(with_reducible (first|apply Ev.ba|apply Ev.bE|apply Ev.b5|apply Ev.bA|apply Ev.br)<;>intro _)|((with_reducible apply Ev.jN);try dsimp only)))
 ·exact Ev.ok (fun _=>by omega)
 ·exact Ev.ok (by simp)
theorem vB {a b:List UInt8} (h:1≤b.length) (ha:a.length<4294967281):Ev (fun _=>strings_Split a b) (fun r=>r.length≤a.length+2) gA:=by
 unfold strings_Split
 exact Ev.gd ⟨h,ha⟩ (Ev.ok (vp _ _ _))
theorem oB {a b:List UInt8} (ha:a.length<4294967281):Ev (fun _=>strings_Contains a b) (fun _=>True) gA:=by
 unfold strings_Contains
 exact Ev.gd ha (Ev.ok trivial)
theorem ko {c:Int}:Ev (fun _=>gv c) (fun r=>r=decide (48≤c∧c≤57)) gA:=by
 unfold gv
 (repeat' (first|((with_reducible first|refine Ev.gd ?_ ?_|refine Ev.kp ?_ (fun _ _=>?_));(next=>(first|omega|(simp[bK,cV,c7,maxLen]<;>omega))))|with_reducible (first|apply Ev.cD|apply Ev.cg)|(with_reducible (first|apply Ev.ba|apply Ev.bE|apply Ev.b5|apply Ev.bA|apply Ev.br)<;>intro _)|((with_reducible apply Ev.jN);try dsimp only)))
 ·exact Ev.ok (by simp;omega)
 ·exact Ev.ok (by simp;omega)
theorem qB {c:Int}:Ev (fun _=>jD c) (fun _=>True) gA:=by
 unfold jD
 (repeat' (first|((with_reducible first|refine Ev.gd ?_ ?_|refine Ev.kp ?_ (fun _ _=>?_));(next=>(first|omega|(simp[bK,cV,c7,maxLen]<;>omega))))|with_reducible (first|apply Ev.cD|apply Ev.cg)|(with_reducible (first|apply Ev.ba|apply Ev.bE|apply Ev.b5|apply Ev.bA|apply Ev.br)<;>intro _)|((with_reducible apply Ev.jN);try dsimp only)))
 all_goals exact Ev.ok trivial
theorem uD {m:Nat→Nat} (hm:cm m) {s:List UInt8} (hs:s.length≤65536) :
  Ev (fun i=>jC (m i) s) (fun r=>0≤r∧r≤s.length∧∀ b:UInt8,s[0]?=some b→48≤(b.toNat:Int)→(b.toNat:Int)≤57→1≤r) gA:=by
 unfold jC
 refine Ev.jn (fun v=>0≤v∧v≤s.length∧∀ b:UInt8,s[0]?=some b→48≤(b.toNat:Int)→(b.toNat:Int)≤57→1≤v) (fun v hv=>?_) (fun j hj=>?_)
 ·refine Ev.jn (fun b=>b=true→v+1≤s.length) (fun b hb=>?_) (fun j hj=>?_)
  ·refine Ev.br (fun h=>?_) (fun _=>Ev.ok hv)
   have:=hb h
   refine Ev.gd (by (first|omega|(simp[bK]<;>omega))) ?_
   refine Ev.iter hm (fun (x:Int)=>v+1≤x∧x≤s.length) (fun x=>(s.length - x).toNat) (by omega) ?_
   intro x hx next hn
   (repeat' (first|((with_reducible first|refine Ev.gd ?_ ?_|refine Ev.kp ?_ (fun _ _=>?_));(next=>(first|omega|(simp[bK,cV,c7,maxLen]<;>omega))))|with_reducible (first|apply Ev.cD|apply Ev.cg)|(with_reducible (first|apply Ev.ba|apply Ev.bE|apply Ev.b5|apply Ev.bA|apply Ev.br)<;>intro _)|((with_reducible apply Ev.jN);try dsimp only)))
   ·refine Ev.aQ ko fun y _=>?_
    (repeat' (first|((with_reducible first|refine Ev.gd ?_ ?_|refine Ev.kp ?_ (fun _ _=>?_));(next=>(first|omega|(simp[bK]<;>omega))))|with_reducible (first|apply Ev.cD|apply Ev.cg)|(with_reducible (first|apply Ev.ba|apply Ev.bE|apply Ev.b5|apply Ev.bA|apply Ev.br)<;>intro _)|((with_reducible apply Ev.jN);try dsimp only)))
    ·exact hn _ (by (first|omega|(simp[bK,cV,c7,maxLen]<;>omega))) (by (first|omega|(simp[bK,cV,c7,maxLen]<;>omega)))
    ·exact Ev.ok ⟨by omega,by omega,fun _ _ _ _=>by omega⟩
   ·exact Ev.ok ⟨by omega,by omega,fun _ _ _ _=>by omega⟩
  ·(repeat' (first|((with_reducible first|refine Ev.gd ?_ ?_|refine Ev.kp ?_ (fun _ _=>?_));(next=>(first|omega|(simp[bK]<;>omega))))|with_reducible (first|apply Ev.cD|apply Ev.cg)|(with_reducible (first|apply Ev.ba|apply Ev.bE|apply Ev.b5|apply Ev.bA|apply Ev.br)<;>intro _)|((with_reducible apply Ev.jN);try dsimp only)))
   ·refine Ev.aQ ko fun y _=>?_
    exact hj _ (fun _=>by omega)
   all_goals exact hj _ (by simp)
 ·refine Ev.iter hm (fun (x:Int)=>0≤x∧x≤s.length) (fun x=>(s.length - x).toNat) (by omega) ?_
  intro x hx next hn
  refine Ev.ba (fun h=>?_) (fun h=>?_)
  ·refine Ev.el (by omega) (by omega) (fun b hb=>?_)
   refine Ev.aQ ko fun y hy=>?_
   refine Ev.br (fun _=>?_) (fun h2=>?_)
   ·(repeat' (first|((with_reducible first|refine Ev.gd ?_ ?_|refine Ev.kp ?_ (fun _ _=>?_));(next=>(first|omega|(simp[bK]<;>omega))))|with_reducible (first|apply Ev.cD|apply Ev.cg)|(with_reducible (first|apply Ev.ba|apply Ev.bE|apply Ev.b5|apply Ev.bA|apply Ev.br)<;>intro _)|((with_reducible apply Ev.jN);try dsimp only)))
    exact hn _ (by (first|omega|(simp[bK,cV,c7,maxLen]<;>omega))) (by (first|omega|(simp[bK,cV,c7,maxLen]<;>omega)))
   ·refine hj _ ⟨hx.1,hx.2,fun b' hb' h3 h4=>?_⟩
    rcases Int.lt_or_le x 1 with q|q
    ·have:x=0:=by omega
     subst this
     simp only[Int.toNat_zero] at hb
     rw[hb] at hb';cases hb'
     rw[hy] at h2
     exact absurd ⟨h3,h4⟩ (of_decide_eq_false h2)
    ·exact q
  ·refine hj _ ⟨hx.1,hx.2,fun b' hb' _ _=>?_⟩
   have:=(List.getElem?_eq_some_iff.1 hb').1
   omega
theorem s7 {m:Nat→Nat} (hm:cm m) {s:List UInt8}:Ev (fun i=>eV (m i) s) (fun r=>r.length≤s.length) gA:=by
 unfold eV
 refine Ev.iter hm (fun (x:Int)=>0≤x∧x≤3) (fun x=>(3 - x).toNat) (by omega) ?_
 intro x hx next hn
 refine Ev.ba (fun h=>?_) (fun h=>Ev.ok (by simp))
 simp only[List.length_cons,List.length_nil] at h
 refine Ev.el (by omega) (by simp;omega) (fun a ha=>?_)
 have hal:a.length≤60:=by
  have hm:=List.mem_of_getElem? ha
  simp only[List.mem_cons,List.not_mem_nil,or_false] at hm
  rcases hm with rfl|rfl|rfl<;>simp
 refine Ev.aQ (vB (by simp) (by omega)) fun l hl=>?_
 refine Ev.iter hm (fun (z:Int)=>0≤z∧z≤l.length) (fun z=>(l.length - z).toNat) (by omega) ?_
 intro z hz next2 hn2
 (repeat' (first|((with_reducible first|refine Ev.gd ?_ ?_|refine Ev.kp ?_ (fun _ _=>?_));(next=>(first|omega|(simp[bK]<;>omega))))|with_reducible (first|apply Ev.cD|apply Ev.cg)|(with_reducible (first|apply Ev.ba|apply Ev.bE|apply Ev.b5|apply Ev.bA|apply Ev.br)<;>intro _)|((with_reducible apply Ev.jN);try dsimp only)))
 ·refine Ev.aQ p7 fun y hy=>?_
  refine Ev.br (fun h=>Ev.ok (hy h)) (fun _=>?_)
  (repeat' (first|((with_reducible first|refine Ev.gd ?_ ?_|refine Ev.kp ?_ (fun _ _=>?_));(next=>(first|omega|(simp[bK]<;>omega))))|with_reducible (first|apply Ev.cD|apply Ev.cg)|(with_reducible (first|apply Ev.ba|apply Ev.bE|apply Ev.b5|apply Ev.bA|apply Ev.br)<;>intro _)|((with_reducible apply Ev.jN);try dsimp only)))
  exact hn2 _ (by (first|omega|(simp[bK,cV,c7,maxLen]<;>omega))) (by (first|omega|(simp[bK,cV,c7,maxLen]<;>omega)))
 ·exact hn _ (by (first|omega|(simp[bK,cV,c7,maxLen]<;>omega))) (by (first|omega|(simp[bK,cV,c7,maxLen]<;>omega)))
theorem wa {m:Nat→Nat} (hm:cm m) {s:List UInt8} (hs:s.length≤65536):Ev (fun i=>jE (m i) s) (fun r=>0≤r∧r≤s.length) gA:=by
 unfold jE
 refine Ev.jn (fun v=>0≤v∧v≤s.length) (fun v hv=>?_) (fun j hj=>?_)
 ·refine Ev.bE (fun h=>?_) (fun _=>Ev.ok hv)
  refine Ev.el (by omega) (by omega) (fun b _=>?_)
  refine Ev.aQ qB fun y _=>?_
  (repeat' (first|((with_reducible first|refine Ev.gd ?_ ?_|refine Ev.kp ?_ (fun _ _=>?_));(next=>(first|omega|(simp[bK,cV,c7,maxLen]<;>omega))))|with_reducible (first|apply Ev.cD|apply Ev.cg)|(with_reducible (first|apply Ev.ba|apply Ev.bE|apply Ev.b5|apply Ev.bA|apply Ev.br)<;>intro _)|((with_reducible apply Ev.jN);try dsimp only)))
  all_goals exact Ev.ok (by omega)
 ·refine Ev.iter hm (fun (x:Int)=>0≤x∧x≤s.length) (fun x=>(s.length - x).toNat) (by omega) ?_
  intro x hx next hn
  refine Ev.jn (fun _=>x<s.length) (fun _ h=>?_) (fun j2 hj2=>?_)
  ·(repeat' (first|((with_reducible first|refine Ev.gd ?_ ?_|refine Ev.kp ?_ (fun _ _=>?_));(next=>(first|omega|(simp[bK]<;>omega))))|with_reducible (first|apply Ev.cD|apply Ev.cg)|(with_reducible (first|apply Ev.ba|apply Ev.bE|apply Ev.b5|apply Ev.bA|apply Ev.br)<;>intro _)|((with_reducible apply Ev.jN);try dsimp only)))
   exact hn _ (by (first|omega|(simp[bK,cV,c7,maxLen]<;>omega))) (by (first|omega|(simp[bK,cV,c7,maxLen]<;>omega)))
  ·refine Ev.ba (fun h=>?_) (fun _=>hj _ hx)
   refine Ev.el (by omega) (by omega) (fun b _=>?_)
   refine Ev.aQ qB fun y _=>?_
   refine Ev.br (fun _=>hj2 _ h) (fun _=>?_)
   (repeat' (first|((with_reducible first|refine Ev.gd ?_ ?_|refine Ev.kp ?_ (fun _ _=>?_));(next=>(first|omega|(simp[bK,cV,c7,maxLen]<;>omega))))|with_reducible (first|apply Ev.cD|apply Ev.cg)|(with_reducible (first|apply Ev.ba|apply Ev.bE|apply Ev.b5|apply Ev.bA|apply Ev.br)<;>intro _)|((with_reducible apply Ev.jN);try dsimp only)))
   ·refine Ev.aQ ko fun y _=>?_
    (repeat' (first|((with_reducible first|refine Ev.gd ?_ ?_|refine Ev.kp ?_ (fun _ _=>?_));(next=>(first|omega|(simp[bK,cV,c7,maxLen]<;>omega))))|with_reducible (first|apply Ev.cD|apply Ev.cg)|(with_reducible (first|apply Ev.ba|apply Ev.bE|apply Ev.b5|apply Ev.bA|apply Ev.br)<;>intro _)|((with_reducible apply Ev.jN);try dsimp only)))
    all_goals first|exact hj2 _ h|exact hj _ hx
   all_goals first|exact hj2 _ h|exact hj _ hx
theorem tR {m:Nat→Nat} (hm:cm m) {s:List UInt8} (hs:s.length≤65536):Ev (fun i=>iP (m i) s) (fun r=>r.1=0∨2≤r.1∧r.1≤s.length) gA:=by
 unfold iP
 refine Ev.iter hm (fun x=>1≤x.2∧x.2≤65540) (fun x=>(65540 - x.2).toNat) (by simp) ?_
 intro x hx next hn
 refine Ev.ba (fun h=>?_) (fun _=>Ev.ok (by simp))
 refine Ev.jn (fun v=>x.2≤v.2∧v.2≤s.length+1) (fun v hv=>?_) (fun j hj=>?_)
 ·refine Ev.gd (by (first|omega|(simp[bK]<;>omega))) (hn _ (by dsimp only;omega) (by dsimp only;omega))
 ·(repeat' (first|((with_reducible first|refine Ev.gd ?_ ?_|refine Ev.kp ?_ (fun _ _=>?_));(next=>(first|omega|(simp[bK]<;>omega))))|with_reducible (first|apply Ev.cD|apply Ev.cg)|(with_reducible (first|apply Ev.ba|apply Ev.bE|apply Ev.b5|apply Ev.bA|apply Ev.br)<;>intro _)|((with_reducible apply Ev.jN);try dsimp only)))
  all_goals first|exact Ev.ok (.inr ⟨by (first|omega|(simp[bK,cV,c7,maxLen]<;>omega)),by (first|omega|(simp[bK,cV,c7,maxLen]<;>omega))⟩)|exact hj _ (by dsimp only;omega)
theorem uE {m:Nat→Nat} (hm:cm m) {s:List UInt8} (hs:s.length≤70000):Ev (fun i=>iL (m i) s 16 8) (fun r=>r.2=0∨r.2=1∨r.2=2) gA:=by
 unfold iL
 refine Ev.br (fun _=>Ev.ok (.inr (.inr rfl))) (fun _=>?_)
 refine Ev.jn (fun v=>v=(s,16)) (fun v hv=>?_) (fun j9 hj9=>?_)
 ·subst hv
  dsimp only
  refine Ev.jn (fun v=>v=8) (fun v hv=>?_) (fun j12 hj12=>?_)
  ·subst hv
   refine Ev.jn (fun _=>True) (fun v _=>?_) (fun j hj=>?_)
   ·refine Ev.gd (wrap_u64 _).1 ?_
    have hl:(ofBytes s).length≤70000:=by simpa[ofBytes] using hs
    refine Ev.iter hm (fun (x:Bool×Int×Int)=>x.1=false∧0≤x.2.2∧x.2.2≤(ofBytes s).length) (fun x=>((ofBytes s).length - x.2.2).toNat) (by simp) ?_
    intro x hx next hn
    refine Ev.ba (fun hlt=>?_) (fun _=>Ev.br (fun h=>by rw[hx.1] at h;cases h) (fun _=>Ev.ok (.inl rfl)))
    refine Ev.el (by omega) (by omega) fun c _=>?_
    refine Ev.jn (fun _=>True) (fun v _=>?_) (fun j38 hj38=>?_)
    ·refine Ev.br (fun _=>Ev.ok (.inr (.inr rfl))) (fun _=>Ev.br (fun _=>Ev.ok (.inr (.inl rfl))) (fun _=>Ev.br (fun _=>Ev.ok (.inr (.inl rfl))) (fun _=>Ev.br (fun _=>Ev.ok (.inr (.inl rfl))) (fun _=>?_))))
     exact Ev.gd (by (first|omega|(simp[bK]<;>omega))) (hn _ ⟨hx.1,by dsimp only;omega,by dsimp only;omega⟩ (by dsimp only;omega))
    ·refine Ev.jn (fun v=>v=false) (fun v hv=>?_) (fun j58 hj58=>?_)
     ·subst hv
      refine Ev.cg ?_
      refine Ev.jn (fun _=>True) (fun v _=>?_) (fun j64 hj64=>Ev.br (fun _=>hj64 _ trivial) (fun _=>hj64 _ trivial))
      refine Ev.br (fun _=>hj38 _ trivial) (fun _=>Ev.qw rfl (Ev.br (fun _=>Ev.qw rfl (Ev.br (fun _=>Ev.qw rfl (hj38 _ trivial)) (fun _=>Ev.ok (.inr (.inr rfl))))) (fun _=>Ev.ok (.inr (.inr rfl)))))
     ·exact Ev.br (fun _=>hj58 _ rfl) (fun _=>hj58 _ rfl)
   ·exact Ev.br (fun h=>by simp at h) (fun _=>Ev.br (fun _=>hj _ trivial) (fun h=>by simp at h))
  ·exact Ev.br (fun h=>by simp at h) (fun _=>Ev.br (fun h=>by simp at h) (fun _=>Ev.br (fun h=>by simp at h) (fun _=>hj12 _ rfl)))
 ·refine Ev.jn (fun v=>v=true) (fun v hv=>?_) (fun j99 hj99=>?_)
  ·subst hv
   exact Ev.cD (hj9 _ rfl)
  ·exact Ev.br (fun _=>hj99 _ (by simp)) (fun h=>by simp at h)
theorem xw {m:Nat→Nat} (hm:cm m) {s:List UInt8} (hs:s.length≤70000):Ev (fun i=>jY (m i) s 16 8) (fun _=>True) gA:=by
 unfold jY
 refine Ev.aQ (uE hm hs) fun y hy=>Ev.b5 (fun h=>?_) (fun _=>Ev.ok trivial)
 refine Ev.qw (a:=true) ?_ (Ev.ok trivial)
 unfold mN
 simp only[D.gd]
 rw[if_pos ⟨by omega,by omega⟩]
theorem s8 {m:Nat→Nat} (hm:cm m) {s:List UInt8} (hs:s.length≤70000):Ev (fun i=>lq (m i) s) (fun r=>0≤r.2∧r.2≤s.length) gA:=by
 unfold lq
 refine Ev.ba (fun _=>Ev.ok (by simp)) (fun h=>?_)
 refine Ev.el (by omega) (by omega) (fun b _=>?_)
 refine Ev.jn (fun _=>True) (fun v _=>?_) (fun j hj=>?_)
 ·(repeat' (first|((with_reducible first|refine Ev.gd ?_ ?_|refine Ev.kp ?_ (fun _ _=>?_));(next=>(first|omega|(simp[bK,cV,c7,maxLen]<;>omega))))|with_reducible (first|apply Ev.cD|apply Ev.cg)|(with_reducible (first|apply Ev.ba|apply Ev.bE|apply Ev.b5|apply Ev.bA|apply Ev.br)<;>intro _)|((with_reducible apply Ev.jN);try dsimp only)))
  all_goals first|exact Ev.ok (by dsimp only;omega)|skip
  refine Ev.aQ (xw hm (by have:=rZ (c:=s) (i:=2) (j:=4) (by omega) (by omega) (by omega);omega)) fun y _=>?_
  ·(repeat' (first|((with_reducible first|refine Ev.gd ?_ ?_|refine Ev.kp ?_ (fun _ _=>?_));(next=>(first|omega|(simp[bK,cV,c7,maxLen]<;>omega))))|with_reducible (first|apply Ev.cD|apply Ev.cg)|(with_reducible (first|apply Ev.ba|apply Ev.bE|apply Ev.b5|apply Ev.bA|apply Ev.br)<;>intro _)|((with_reducible apply Ev.jN);try dsimp only)))
   all_goals exact Ev.ok (by dsimp only;omega)
 ·(repeat' (first|((with_reducible first|refine Ev.gd ?_ ?_|refine Ev.kp ?_ (fun _ _=>?_));(next=>(first|omega|(simp[bK,cV,c7,maxLen]<;>omega))))|with_reducible (first|apply Ev.cD|apply Ev.cg)|(with_reducible (first|apply Ev.ba|apply Ev.bE|apply Ev.b5|apply Ev.bA|apply Ev.br)<;>intro _)|((with_reducible apply Ev.jN);try dsimp only)))
  all_goals exact hj _ trivial
theorem pr {m:Nat→Nat} (hm:cm m) {s:List UInt8} :
  Ev (fun i=>kH (m i) s) (fun r=>r.1.length≤s.length∧∀ c:UInt8,s[1]?=some c→c.toNat≠34→r.2.Errno=0→1≤r.1.length) gA:=by
 unfold kH
 refine Ev.ba (fun _=>Ev.ok ⟨by simp,fun _ _ _ h=>by simp at h⟩) (fun h=>?_)
 refine Ev.bE (fun _=>Ev.ok ⟨by simp,fun _ _ _ h=>by simp at h⟩) (fun h=>?_)
 refine Ev.el (by omega) (by omega) (fun b _=>?_)
 refine Ev.b5 (fun _=>Ev.ok ⟨by simp,fun _ _ _ h=>by simp at h⟩) (fun h=>?_)
 refine Ev.iter hm (fun (x:List Int×Int)=>1≤x.2∧x.2≤s.length∧x.1.length≤x.2∧(x.2=1∨1≤x.1.length)) (fun x=>(s.length - x.2).toNat) (by simp;omega) ?_
 intro x hx next hn
 refine Ev.ba (fun _=>Ev.ok ⟨by simp,fun _ _ _ h=>by simp at h⟩) (fun h=>?_)
 refine Ev.el (by omega) (by omega) (fun b hb=>?_)
 refine Ev.bE (fun h34=>?_) (fun h34=>?_)
 ·refine Ev.gd (by (first|omega|(simp[bK]<;>omega))) (Ev.ba (fun _=>Ev.gd (by (first|omega|(simp[bK]<;>omega))) (Ev.ok ⟨by simp,fun _ _ _ h=>by simp at h⟩)) (fun _=>?_))
  refine Ev.ok ⟨by simp[jX];omega,fun c hc hc2 _=>?_⟩
  rcases hx.2.2.2 with q|q
  ·rw[q] at hb
   simp only[Int.toNat_one] at hb
   rw[hb] at hc;cases hc
   omega
  ·simpa[jX] using q
 ·refine Ev.el (by omega) (by omega) (fun b2 _=>?_)
  refine Ev.bE (fun _=>?_) (fun _=>?_)
  ·refine Ev.gd (by omega) ?_
   have hl:=jR (c:=s) (i:=x.2) (by omega) (by omega)
   refine Ev.aQ (s8 hm (by omega)) fun y hy=>?_
   refine Ev.bE (fun _=>Ev.ok ⟨by simp,fun _ _ _ h=>by simp at h⟩) (fun h0=>?_)
   (repeat' (first|((with_reducible first|refine Ev.gd ?_ ?_|refine Ev.kp ?_ (fun _ _=>?_));(next=>(first|omega|(simp[bK,cV,maxLen]<;>omega))))|with_reducible (first|apply Ev.cD|apply Ev.cg)|(with_reducible (first|apply Ev.ba|apply Ev.bE|apply Ev.b5|apply Ev.bA|apply Ev.br)<;>intro _)|((with_reducible apply Ev.jN);try dsimp only)))
   exact hn _ (by simp;omega) (by (first|omega|(simp[bK,cV,c7,maxLen]<;>omega)))
  ·refine Ev.jn (fun _=>True) (fun v _=>?_) (fun j hj=>?_)
   ·refine Ev.br (fun _=>Ev.ok ⟨by simp,fun _ _ _ h=>by simp at h⟩) (fun _=>?_)
    (repeat' (first|((with_reducible first|refine Ev.gd ?_ ?_|refine Ev.kp ?_ (fun _ _=>?_));(next=>(first|omega|(simp[bK,cV,maxLen]<;>omega))))|with_reducible (first|apply Ev.cD|apply Ev.cg)|(with_reducible (first|apply Ev.ba|apply Ev.bE|apply Ev.b5|apply Ev.bA|apply Ev.br)<;>intro _)|((with_reducible apply Ev.jN);try dsimp only)))
    exact hn _ (by simp;omega) (by (first|omega|(simp[bK,cV,c7,maxLen]<;>omega)))
   ·(repeat' (first|((with_reducible first|refine Ev.gd ?_ ?_|refine Ev.kp ?_ (fun _ _=>?_));(next=>(first|omega|(simp[bK,cV,c7,maxLen]<;>omega))))|with_reducible (first|apply Ev.cD|apply Ev.cg)|(with_reducible (first|apply Ev.ba|apply Ev.bE|apply Ev.b5|apply Ev.bA|apply Ev.br)<;>intro _)|((with_reducible apply Ev.jN);try dsimp only)))
    all_goals exact hj _ trivial
end Go.Abs
end
