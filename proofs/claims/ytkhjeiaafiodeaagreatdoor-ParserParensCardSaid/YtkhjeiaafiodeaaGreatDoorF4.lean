/- PROVED: lemmas of a proof that ParserParens returns true. CONDITIONS: as each states. -/
import Derived.Test.YtkhjeiaafiodeaaGreatDoorF3
section
namespace Go.Abs
open Go.Proofs D
structure m where
 fV:(List UInt8)→Int→D (aj×Bool)
 aV:Bool→L→D (aj×L)
 cL:L→D ((List aj)×L)
 fu:(List aj)→L→D ((List aj)×L)
 bn:Int→Bool→L→D (aj×L)
 ca:Bool→L→D ((List o)×(List (List UInt8))×L)
 eZ:Bool→(List o)→(List (List UInt8))→L→D (Bool×(List o)×(List (List UInt8))×L)
 ck:Bool→L→D (aj×L)
 aW:Bool→L→D (aj×L)
 cl:Bool→L→D (o×L)
 dh:Bool→L→D ((List o)×(List (List UInt8))×L)
 cE:Bool→L→o→D (L×o)
 aD:Bool→L→D (aj×L)
 cZ:Bool→L→o→D (L×o)
 cR:au→Int→L→D (aj×L)
 de:L→D (aj×L)
 cM:L→D (aj×L)
 fv:aj→L→D (aj×L)
 cx:L→D (aj×L)
 bM:Bool→L→D (aj×L)
 ea:Bool→aj→L→D (Bool×aj×L)
 cF:Bool→L→o→D (L×o)
 bG:Bool→L→D (aj×L)
 eB:aj→L→D (aj×L)
 bS:Bool→L→D (aj×L)
 bU:Bool→L→D (aj×L)
 cS:Bool→L→Bool→(List o)→(List (List UInt8))→D (L×Bool×(List o)×(List (List UInt8)))
 cu:Bool→L→Bool→aj→D (L×Bool×aj)
 cw:Bool→L→aj→D (L×aj)
 cT:Bool→L→aj→D (L×aj)
 cU:Bool→L→(List aj)→D (L×(List aj))
def iQ (n:Nat) (T:m) (p0:(List UInt8)) (p1:Int):D (aj×Bool):=
 D.bind (fP n p0) fun y3=>br (y3.2.Errno !=0) (.ok ((aj.mk 0 [] 0 [] [] [] [] [] 0),false)) (D.bind (fH n y3.1) fun y9=>br y9 (.ok ((aj.mk 0 [] 0 [] [] [] [] [] 0),false)) (nN (D.bind (T.aD false (L.mk p0 y3.1 0 p1 true none)) fun y15=>D.bind (az n y15.2) fun y17=>.ok (y15.1,(y17.1.Kind==0))) (fun p=>sB 86 p fun v19=>D.bind (gp v19) fun y20=>.ok (y20.1,y20.2))))
def bO (n:Nat) (T:m) (p0:Bool) (p1:L):D (aj×L):=
 br (Option.isNone (Option.map aj.C p1.pending)) (D.bind (bm n p1) fun y7=>D.bind (bc n ([42]:List UInt8) y7.2) fun y9=>br y9.1 (D.bind (T.aW false y9.2) fun y12=>.ok ((aj.mk 18 [] 0 [] [] [y12.1] [] [] y7.1),y12.2)) (D.bind (T.aW p0 y9.2) fun y14=>.ok (y14.1,y14.2))) (D.bind (T.aW p0 p1) fun y16=>.ok (y16.1,y16.2))
def dF (n:Nat) (T:m) (p0:L):D ((List aj)×L):=
 D.bind (bu n ([40]:List UInt8) p0) fun y3=>D.bind (T.cU true y3 []) fun y6=>gd (bK (y6.1.at_+1)) (.ok (y6.2,(L.mk y6.1.text y6.1.bo (y6.1.at_+1) y6.1.base y6.1.skip y6.1.pending)))
def eO (n:Nat) (T:m) (p0:(List aj)) (p1:L):D ((List aj)×L):=
 D.bind (az n p1) fun y3=>D.bind (bJ y3.1 ([41]:List UInt8)) fun y4=>br (!y4) (D.bind (T.aD false (L.mk y3.2.text y3.2.bo y3.2.at_ p1.base y3.2.skip y3.2.pending)) fun y7=>gd (cV 144 (List.length p0) (List.length [(aj.mk 0 ([]:List UInt8) 0 ([]:List UInt8) ([]:List UInt8) [] [] [] 0)])) (iter (fun next10 (v9:(List aj)×L)=>D.bind (bc n ([44]:List UInt8) v9.2) fun y14=>br y14.1 (D.bind (T.aD false y14.2) fun y16=>gd (cV 144 (List.length v9.1) (List.length [(aj.mk 0 ([]:List UInt8) 0 ([]:List UInt8) ([]:List UInt8) [] [] [] 0)])) (next10 (v9.1++[y16.1],y16.2))) (D.bind (bV n ([41]:List UInt8) y14.2) fun y18=>.ok (v9.1,y18))) n (p0++[y7.1],y7.2))) (D.bind (bV n ([41]:List UInt8) (L.mk y3.2.text y3.2.bo y3.2.at_ p1.base y3.2.skip y3.2.pending)) fun y29=>.ok (p0,y29))
def cb (n:Nat) (T:m) (p0:Int) (p1:Bool) (p2:L):D (aj×L):=
 br (decide (p0>4)) (D.bind (T.bU p1 p2) fun y6=>.ok (y6.1,y6.2)) (gd (bK (p0+1)) (D.bind (T.bn (p0+1) p1 p2) fun y9=>iter (fun next12 (v11:L×aj)=>D.bind (az n v11.1) fun y16=>D.bind (db p0) fun y17=>D.bind (dM n y16.1 y17) fun y18=>br y18 (D.bind (bm n (L.mk y16.2.text y16.2.bo y16.2.at_ v11.1.base y16.2.skip y16.2.pending)) fun y21=>D.bind (bk n v11.2 y21.1 y21.2) fun y22=>D.bind (az n y22.2) fun y24=>gd (bK (y24.2.at_+1)) (gd (bK (p0+1)) (D.bind (T.bn (p0+1) false (L.mk y24.2.text y24.2.bo (y24.2.at_+1) y22.2.base y24.2.skip y24.2.pending)) fun y28=>next12 (y28.2,(aj.mk 20 y24.1.Text 0 [] [] [y22.1,y28.1] [] [] y22.1.Pos))))) (.ok (v11.2,(L.mk y16.2.text y16.2.bo y16.2.at_ v11.1.base y16.2.skip y16.2.pending)))) n (y9.2,y9.1)))
def dw (n:Nat) (T:m) (p0:Bool) (p1:L):D ((List o)×(List (List UInt8))×L):=
 D.bind (bu n ([123]:List UInt8) p1) fun y3=>D.bind (T.cS false y3 p0 [] []) fun y7=>gd (bK (y7.1.at_+1)) (.ok (y7.2.2.1,y7.2.2.2,(L.mk y7.1.text y7.1.bo (y7.1.at_+1) y7.1.base y7.1.skip y7.1.pending)))
def eC (n:Nat) (T:m) (p0:Bool) (_:(List o)) (_:(List (List UInt8))) (p3:L):D (Bool×(List o)×(List (List UInt8))×L):=
 D.bind (T.dh p0 p3) fun y2=>D.bind (bV n ([125]:List UInt8) y2.2.2) fun y3=>.ok (p0,y2.1,y2.2.1,y3)
def di (n:Nat) (T:m) (p0:Bool) (p1:L):D (aj×L):=
 D.bind (bm n p1) fun y3=>jn (fun (v4:aj)=>D.bind (T.ca p0 y3.2) fun y8=>.ok ((aj.mk v4.Kind v4.Text v4.jv v4.bt v4.bz [] y8.1 y8.2.1 v4.Pos),y8.2.2)) fun j5=>br p0 (j5 ((aj.mk 13 [] 0 [] [] [] [] [] y3.1))) (j5 ((aj.mk 22 [] 0 [] [] [] [] [] y3.1)))
def bP (n:Nat) (T:m) (p0:Bool) (p1:L):D (aj×L):=
 D.bind (T.bn 0 p0 p1) fun y3=>iter (fun next6 (v5:L×aj)=>D.bind (bc n ([38]:List UInt8) v5.1) fun y10=>br y10.1 (D.bind (T.bn 0 p0 y10.2) fun y12=>next6 (y12.2,(aj.mk 16 [] 0 [] [] [v5.2,y12.1] [] [] v5.2.Pos))) (.ok (v5.2,y10.2))) n (y3.2,y3.1)
def fw (n:Nat) (T:m) (p0:Bool) (p1:L):D (o×L):=
 D.bind (az n p1) fun y3=>D.bind (bm n (L.mk y3.2.text y3.2.bo y3.2.at_ p1.base y3.2.skip y3.2.pending)) fun y5=>D.bind (cQ 1 y5.2) fun y7=>jn (fun (v8:L×o)=>.ok (v8.2,v8.1)) fun j9=>jn (fun (v12:Bool)=>br v12 (D.bind (T.cZ p0 y7.2 (o.mk 0 0 [] [] [] [] [] [] [] [] y5.1)) fun y16=>j9 (y16.1,y16.2)) (D.bind (eA n y7.2) fun y18=>br y18.1 (D.bind (T.cF p0 y18.2 (o.mk 0 0 [] [] [] [] [] [] [] [] y5.1)) fun y20=>j9 (y20.1,y20.2)) (D.bind (eI y3.1 ([108,101,116]:List UInt8)) fun y22=>br y22 (jn (fun (v24:L)=>gd (bK (v24.at_+1)) (D.bind (dc n (L.mk v24.text v24.bo (v24.at_+1) v24.base v24.skip v24.pending)) fun y30=>D.bind (bu n ([61]:List UInt8) y30.2) fun y32=>D.bind (T.aD true y32) fun y33=>j9 (y33.2,(o.mk 4 0 y30.1 [] [] [y33.1] [] [] [] [] y5.1)))) fun j25=>br (!p0) (D.bind (bj n y18.2) fun y36=>j25 (y36)) (j25 (y18.2))) (D.bind (bJ y3.1 ([46,46,46]:List UInt8)) fun y38=>br y38 (jn (fun (v40:L)=>gd (bK (v40.at_+1)) (j9 ((L.mk v40.text v40.bo (v40.at_+1) v40.base v40.skip v40.pending),(o.mk 8 0 [] [] [] [] [] [] [] [] y5.1)))) fun j41=>br (!p0) (D.bind (bj n y18.2) fun y47=>j41 (y47)) (j41 (y18.2))) (D.bind (eI y3.1 ([105,102]:List UInt8)) fun y49=>br y49 (gd (bK (y18.2.at_+1)) (D.bind (T.aD false (L.mk y18.2.text y18.2.bo (y18.2.at_+1) y18.2.base y18.2.skip y18.2.pending)) fun y55=>D.bind (T.ca false y55.2) fun y56=>j9 (y56.2.2,(o.mk 5 0 [] [] [] [y55.1] y56.1 y56.2.1 [] [] y5.1)))) (D.bind (eI y3.1 ([102,111,114]:List UInt8)) fun y58=>br y58 (gd (bK (y18.2.at_+1)) (D.bind (eX n (L.mk y18.2.text y18.2.bo (y18.2.at_+1) y18.2.base y18.2.skip y18.2.pending)) fun y63=>D.bind (dv n ([105,110]:List UInt8) y63.2) fun y65=>D.bind (T.aD false y65) fun y67=>D.bind (T.ca false y67.2) fun y68=>j9 (y68.2.2,(o.mk 6 0 [] y63.1.x0 y63.1.x1 [y67.1] y68.1 y68.2.1 [] [] y5.1)))) (D.bind (bJ y3.1 ([40]:List UInt8)) fun y70=>br y70 (D.bind (T.cE p0 y18.2 (o.mk 0 0 [] [] [] [] [] [] [] [] y5.1)) fun y72=>j9 (y72.1,y72.2)) (D.bind (T.aD p0 y18.2) fun y74=>j9 (y74.2,(o.mk 3 0 [] [] [] [y74.1] [] [] [] [] y5.1)))))))))) fun j13=>D.bind (eU n y3.1) fun y75=>br y75 (D.bind (dM n y7.1 ([58,32,63,32,33]:List UInt8)) fun y77=>j13 (y77)) (j13 (false))
def kI (n:Nat) (T:m) (p0:Bool) (p1:L):D ((List o)×(List (List UInt8))×L):=
 iter (fun next7 (v6:L×(List (List UInt8))×(List o)×Int×Bool)=>D.bind (fq n v6.1) fun y11=>br (!y11.1) (D.bind (az n y11.2) fun y14=>jn (fun (v15:Bool)=>br v15 (gd (bK (y14.2.at_+1)) (next7 ((L.mk y14.2.text y14.2.bo (y14.2.at_+1) y11.2.base y14.2.skip y14.2.pending),v6.2.1,v6.2.2.1,v6.2.2.2.1,true))) (jn (fun (v21:L×Bool)=>br v21.2 (gd (bK ((List.length v6.2.2.1:Int) - 1)) (el v6.2.2.1 ((List.length v6.2.2.1:Int) - 1) fun x27=>gd (bK (v21.1.at_+1)) (next7 ((L.mk v21.1.text v21.1.bo (v21.1.at_+1) v21.1.base v21.1.skip v21.1.pending),v6.2.1,List.set v6.2.2.1 ((List.length v6.2.2.1:Int) - 1).toNat (o.mk x27.Kind x27.cG x27.Label x27.bt x27.bz x27.bf x27.Body x27.cz x27.jy y14.1.Text x27.Pos),v6.2.2.2.1,v6.2.2.2.2)))) (jn (fun (v32:L×Bool)=>br v32.2 (gd (cV 16 (List.length v6.2.1) (List.length [y14.1.Text])) (gd (bK (v32.1.at_+1)) (next7 ((L.mk v32.1.text v32.1.bo (v32.1.at_+1) v32.1.base v32.1.skip v32.1.pending),v6.2.1++[y14.1.Text],v6.2.2.1,v6.2.2.2.1,v6.2.2.2.2)))) (jn (fun (v39:Bool)=>br v39 (D.bind (bj n v32.1) fun y43=>next7 (y43,v6.2.1,v6.2.2.1,v6.2.2.2.1,v6.2.2.2.2)) (D.bind (T.cl p0 v32.1) fun y45=>gd (cV 184 (List.length v6.2.2.1) (List.length [(o.mk y45.1.Kind y45.1.cG y45.1.Label y45.1.bt y45.1.bz y45.1.bf y45.1.Body y45.1.cz v6.2.1 y45.1.Trail y45.1.Pos)])) (next7 (y45.2,[],v6.2.2.1++[(o.mk y45.1.Kind y45.1.cG y45.1.Label y45.1.bt y45.1.bz y45.1.bf y45.1.Body y45.1.cz v6.2.1 y45.1.Trail y45.1.Pos)],y45.2.at_,false)))) fun j40=>br (y14.1.Kind==6) (j40 (true)) (j40 ((!v6.2.2.2.2))))) fun j33=>br (y14.1.Kind==6) (D.bind (dP n v21.1) fun y52=>j33 (y52.2,y52.1)) (j33 (v21.1,false)))) fun j22=>br (y14.1.Kind==6) (br (decide (v6.2.2.2.1>0)) (D.bind (eJ n v6.2.2.2.1 (L.mk y14.2.text y14.2.bo y14.2.at_ y11.2.base y14.2.skip y14.2.pending)) fun y55=>j22 (y55.2,y55.1)) (j22 ((L.mk y14.2.text y14.2.bo y14.2.at_ y11.2.base y14.2.skip y14.2.pending),false))) (j22 ((L.mk y14.2.text y14.2.bo y14.2.at_ y11.2.base y14.2.skip y14.2.pending),false)))) fun j16=>br (y14.1.Kind==7) (j16 (true)) (D.bind (bJ y14.1 ([44]:List UInt8)) fun y57=>j16 (y57))) (.ok (v6.2.2.1,v6.2.1,y11.2))) n (p1,[],[],(-1),true)
def eD (n:Nat) (T:m) (p0:Bool) (p1:L) (p2:o):D (L×o):=
 D.bind (T.bM p0 p1) fun y2=>D.bind (az n y2.2) fun y5=>D.bind (bJ y5.1 ([58]:List UInt8)) fun y6=>br y6 (D.bind (bm n (L.mk y5.2.text y5.2.bo y5.2.at_ y2.2.base y5.2.skip y5.2.pending)) fun y9=>D.bind (bk n y2.1 y9.1 y9.2) fun y10=>gd (bK (y10.2.at_+1)) (D.bind (T.aD false (L.mk y10.2.text y10.2.bo (y10.2.at_+1) y10.2.base y10.2.skip y10.2.pending)) fun y14=>.ok (y14.2,(o.mk 7 p2.cG p2.Label p2.bt p2.bz [y10.1,y14.1] p2.Body p2.cz p2.jy p2.Trail p2.Pos)))) (D.bind (T.aD p0 (L.mk y5.2.text y5.2.bo y5.2.at_ y2.2.base y5.2.skip (some y2.1))) fun y16=>.ok (y16.2,(o.mk 3 p2.cG p2.Label p2.bt p2.bz [y16.1] p2.Body p2.cz p2.jy p2.Trail p2.Pos)))
def cB (n:Nat) (T:m) (p0:Bool) (p1:L):D (aj×L):=
 jn (fun (v2:L×Bool)=>jn (fun (v5:L×aj)=>jn (fun (v8:L)=>jn (fun (v11:L)=>D.bind (bm n v11) fun y15=>D.bind (bk n v5.2 y15.1 y15.2) fun y16=>iter (fun next19 (v18:L×(List aj))=>D.bind (bc n ([124]:List UInt8) v18.1) fun y23=>br y23.1 (D.bind (T.aV false y23.2) fun y25=>gd (cV 144 (List.length v18.2) (List.length [y25.1])) (next19 (y25.2,v18.2++[y25.1]))) (el v18.2 0 fun x28=>.ok ((aj.mk 17 [] 0 [] [] v18.2 [] [] x28.Pos),y23.2))) n (y16.2,[y16.1])) fun j12=>D.bind (az n v8) fun y33=>D.bind (bJ y33.1 ([124]:List UInt8)) fun y34=>br (!y34) (D.bind (bj n (L.mk y33.2.text y33.2.bo y33.2.at_ v8.base y33.2.skip y33.2.pending)) fun y36=>j12 (y36)) (j12 ((L.mk y33.2.text y33.2.bo y33.2.at_ v8.base y33.2.skip y33.2.pending)))) fun j9=>br (!v2.2) (D.bind (az n v5.1) fun y39=>D.bind (bJ y39.1 ([124]:List UInt8)) fun y40=>br (!y40) (.ok (v5.2,(L.mk y39.2.text y39.2.bo y39.2.at_ v5.1.base y39.2.skip y39.2.pending))) (j9 ((L.mk y39.2.text y39.2.bo y39.2.at_ v5.1.base y39.2.skip y39.2.pending)))) (j9 (v5.1))) fun j6=>br p0 (D.bind (T.aV (!v2.2) v2.1) fun y44=>j6 (y44.2,y44.1)) (D.bind (T.aV false v2.1) fun y45=>j6 (y45.2,y45.1))) fun j3=>br (Option.isNone (Option.map aj.C p1.pending)) (D.bind (az n p1) fun y47=>D.bind (bJ y47.1 ([42]:List UInt8)) fun y48=>j3 ((L.mk y47.2.text y47.2.bo y47.2.at_ p1.base y47.2.skip y47.2.pending),y48)) (j3 (p1,false))
def fa (n:Nat) (T:m) (p0:Bool) (p1:L) (p2:o):D (L×o):=
 D.bind (az n p1) fun y2=>gd (bK (y2.2.at_+1)) (jn (fun (v5:L×o)=>D.bind (bu n ([58]:List UInt8) v5.1) fun y9=>D.bind (T.aD p0 y9) fun y10=>.ok (y10.2,(o.mk v5.2.Kind v5.2.cG v5.2.Label v5.2.bt v5.2.bz [y10.1] v5.2.Body v5.2.cz v5.2.jy v5.2.Trail v5.2.Pos))) fun j6=>D.bind (bc n ([63]:List UInt8) (L.mk y2.2.text y2.2.bo (y2.2.at_+1) p1.base y2.2.skip y2.2.pending)) fun y12=>br y12.1 (j6 (y12.2,(o.mk 1 3 y2.1.Text p2.bt p2.bz p2.bf p2.Body p2.cz p2.jy p2.Trail p2.Pos))) (D.bind (bc n ([33]:List UInt8) y12.2) fun y15=>br y15.1 (j6 (y15.2,(o.mk 1 2 y2.1.Text p2.bt p2.bz p2.bf p2.Body p2.cz p2.jy p2.Trail p2.Pos))) (j6 (y15.2,(o.mk 1 1 y2.1.Text p2.bt p2.bz p2.bf p2.Body p2.cz p2.jy p2.Trail p2.Pos)))))
def eP (n:Nat) (T:m) (p0:au) (p1:Int) (p2:L):D (aj×L):=
 D.bind (lr n p0.Text) fun y3=>iter (fun next8 (v7:L×aj×Int)=>br (decide (v7.2.2<(List.length y3.1:Int))) (el y3.1 v7.2.2 fun xx=>gd (bK (p1+1)) (gd (bK ((p1+1)+xx.Pos)) (br (!xx.Code) (gd (cV 144 (List.length v7.2.1.bf) (List.length [(aj.mk 4 xx.Text 0 [] [] [] [] [] ((p1+1)+xx.Pos))])) (gd (bK (v7.2.2+1)) (next8 (v7.1,(aj.mk v7.2.1.Kind v7.2.1.Text v7.2.1.jv v7.2.1.bt v7.2.1.bz (v7.2.1.bf++[(aj.mk 4 xx.Text 0 [] [] [] [] [] ((p1+1)+xx.Pos))]) [] [] v7.2.1.Pos),v7.2.2+1)))) (D.bind (T.fV xx.Text ((p1+1)+xx.Pos)) fun y29=>br (!y29.2) (D.bind (eh p1 v7.1) fun y33=>gd (cV 144 (List.length v7.2.1.bf) (List.length [y29.1])) (gd (bK (v7.2.2+1)) (next8 (y33,(aj.mk v7.2.1.Kind v7.2.1.Text v7.2.1.jv v7.2.1.bt v7.2.1.bz (v7.2.1.bf++[y29.1]) [] [] v7.2.1.Pos),v7.2.2+1)))) (gd (cV 144 (List.length v7.2.1.bf) (List.length [y29.1])) (gd (bK (v7.2.2+1)) (next8 (v7.1,(aj.mk v7.2.1.Kind v7.2.1.Text v7.2.1.jv v7.2.1.bt v7.2.1.bz (v7.2.1.bf++[y29.1]) [] [] v7.2.1.Pos),v7.2.2+1)))))))) (.ok ((aj.mk v7.2.1.Kind v7.2.1.Text v7.2.1.jv v7.2.1.bt v7.2.1.bz v7.2.1.bf [] [] v7.2.1.Pos),v7.1))) n (p2,(aj.mk 5 [] 0 [] [] [] [] [] p1),0)
def fy (n:Nat) (T:m) (p0:L):D (aj×L):=
 D.bind (bm n p0) fun y3=>D.bind (az n y3.2) fun y6=>D.bind (eI y6.1 ([102,111,114]:List UInt8)) fun y7=>br (!y7) (D.bind (T.aD false (L.mk y6.2.text y6.2.bo y6.2.at_ y3.2.base y6.2.skip y6.2.pending)) fun y10=>.ok (y10.1,y10.2)) (D.bind (dv n ([102,111,114]:List UInt8) (L.mk y6.2.text y6.2.bo y6.2.at_ y3.2.base y6.2.skip y6.2.pending)) fun y12=>D.bind (eX n y12) fun y14=>D.bind (dv n ([105,110]:List UInt8) y14.2) fun y16=>D.bind (T.aD false y16) fun y18=>gd (cV 144 (List.length ([]:List aj)) (List.length [y18.1])) (jn (fun (v20:L×aj)=>D.bind (bu n ([58]:List UInt8) v20.1) fun y24=>D.bind (T.aD false y24) fun y26=>gd (cV 144 (List.length v20.2.bf) (List.length [y26.1])) (.ok ((aj.mk v20.2.Kind v20.2.Text v20.2.jv v20.2.bt v20.2.bz (v20.2.bf++[y26.1]) [] [] v20.2.Pos),y26.2))) fun j21=>D.bind (az n y18.2) fun y30=>D.bind (eI y30.1 ([105,102]:List UInt8)) fun y31=>br y31 (D.bind (dv n ([105,102]:List UInt8) (L.mk y30.2.text y30.2.bo y30.2.at_ y18.2.base y30.2.skip y30.2.pending)) fun y34=>D.bind (T.aD false y34) fun y35=>gd (cV 144 (List.length ([]++[y18.1])) (List.length [y35.1])) (j21 (y35.2,(aj.mk 15 [] 0 y14.1.x0 y14.1.x1 (([]++[y18.1])++[y35.1]) [] [] y3.1)))) (j21 ((L.mk y30.2.text y30.2.bo y30.2.at_ y18.2.base y30.2.skip y30.2.pending),(aj.mk 15 [] 0 y14.1.x0 y14.1.x1 ([]++[y18.1]) [] [] y3.1)))))
def dG (n:Nat) (T:m) (p0:L):D (aj×L):=
 D.bind (bm n p0) fun y3=>D.bind (bu n ([91]:List UInt8) y3.2) fun y5=>D.bind (T.cT true y5 (aj.mk 14 [] 0 [] [] [] [] [] y3.1)) fun y7=>gd (bK (y7.1.at_+1)) (.ok (y7.2,(L.mk y7.1.text y7.1.bo (y7.1.at_+1) y7.1.base y7.1.skip y7.1.pending)))
def eQ (n:Nat) (T:m) (p0:aj) (p1:L):D (aj×L):=
 iter (fun next4 (v3:aj×L×Bool)=>D.bind (az n v3.2.1) fun y8=>D.bind (bJ y8.1 ([93]:List UInt8)) fun y9=>br (!y9) (jn (fun (v12:L)=>D.bind (bm n v12) fun y16=>D.bind (bc n ([46,46,46]:List UInt8) y16.2) fun y19=>br y19.1 (jn (fun (v23:L×aj)=>gd (cV 144 (List.length v3.1.bf) (List.length [(aj.mk 0 ([]:List UInt8) 0 ([]:List UInt8) ([]:List UInt8) [] [] [] 0)])) (D.bind (bV n ([93]:List UInt8) v23.1) fun y28=>.ok ((aj.mk v3.1.Kind v3.1.Text 1 v3.1.bt v3.1.bz (v3.1.bf++[v23.2]) v3.1.Decls v3.1.cz v3.1.Pos),y28))) fun j24=>D.bind (az n y19.2) fun y31=>D.bind (bJ y31.1 ([93]:List UInt8)) fun y32=>br (!y32) (D.bind (T.aD false (L.mk y31.2.text y31.2.bo y31.2.at_ y19.2.base y31.2.skip y31.2.pending)) fun y34=>j24 (y34.2,y34.1)) (j24 ((L.mk y31.2.text y31.2.bo y31.2.at_ y19.2.base y31.2.skip y31.2.pending),(aj.mk 6 [] 0 [] [] [] [] [] y16.1)))) (D.bind (T.de y19.2) fun y35=>gd (cV 144 (List.length v3.1.bf) (List.length [(aj.mk 0 ([]:List UInt8) 0 ([]:List UInt8) ([]:List UInt8) [] [] [] 0)])) (next4 ((aj.mk v3.1.Kind v3.1.Text v3.1.jv v3.1.bt v3.1.bz (v3.1.bf++[y35.1]) v3.1.Decls v3.1.cz v3.1.Pos),y35.2,false)))) fun j13=>br (!v3.2.2) (D.bind (bu n ([44]:List UInt8) (L.mk y8.2.text y8.2.bo y8.2.at_ v3.2.1.base y8.2.skip y8.2.pending)) fun y39=>j13 (y39)) (j13 ((L.mk y8.2.text y8.2.bo y8.2.at_ v3.2.1.base y8.2.skip y8.2.pending)))) (D.bind (bV n ([93]:List UInt8) (L.mk y8.2.text y8.2.bo y8.2.at_ v3.2.1.base y8.2.skip y8.2.pending)) fun y40=>.ok (v3.1,y40))) n (p0,p1,true)
def dx (n:Nat) (T:m) (p0:L):D (aj×L):=
 D.bind (az n p0) fun y3=>D.bind (bm n (L.mk y3.2.text y3.2.bo y3.2.at_ p0.base y3.2.skip y3.2.pending)) fun y4=>jn (fun (v6:aj)=>gd (bK (y4.2.at_+1)) (.ok ((aj.mk v6.Kind v6.Text v6.jv v6.bt v6.bz [] [] [] v6.Pos),(L.mk y4.2.text y4.2.bo (y4.2.at_+1) y4.2.base y4.2.skip y4.2.pending)))) fun j7=>br (y3.1.Text==([110,117,108,108]:List UInt8)) (j7 ((aj.mk 1 [] 0 [] [] [] [] [] y4.1))) (jn (fun (v15:Bool)=>br v15 (br (y3.1.Text==([116,114,117,101]:List UInt8)) (j7 ((aj.mk 2 [] 1 [] [] [] [] [] y4.1))) (j7 ((aj.mk 2 [] 0 [] [] [] [] [] y4.1)))) (jn (fun (v22:Bool)=>br v22 (j7 ((aj.mk 8 y3.1.Text 0 [] [] [] [] [] y4.1))) (D.bind (dc n y4.2) fun y27=>D.bind (az n y27.2) fun y30=>D.bind (bJ y30.1 ([40]:List UInt8)) fun y31=>br y31 (D.bind (T.cL (L.mk y30.2.text y30.2.bo y30.2.at_ y27.2.base y30.2.skip y30.2.pending)) fun y34=>.ok ((aj.mk 21 y27.1 0 [] [] y34.1 [] [] y4.1),y34.2)) (.ok ((aj.mk 10 y27.1 0 [] [] [] [] [] y4.1),(L.mk y30.2.text y30.2.bo y30.2.at_ y27.2.base y30.2.skip y30.2.pending))))) fun j23=>br (y3.1.Text==([98,111,111,108]:List UInt8)) (j23 ((y3.1.Text==([98,111,111,108]:List UInt8)))) (br (y3.1.Text==([105,110,116]:List UInt8)) (j23 ((y3.1.Text==([105,110,116]:List UInt8)))) (br (y3.1.Text==([110,117,109,98,101,114]:List UInt8)) (j23 ((y3.1.Text==([110,117,109,98,101,114]:List UInt8)))) (j23 ((y3.1.Text==([115,116,114,105,110,103]:List UInt8)))))))) fun j16=>br (y3.1.Text==([116,114,117,101]:List UInt8)) (j16 ((y3.1.Text==([116,114,117,101]:List UInt8)))) (j16 ((y3.1.Text==([102,97,108,115,101]:List UInt8)))))
def cK (n:Nat) (T:m) (p0:Bool) (p1:L):D (aj×L):=
 D.bind (bu n ([40]:List UInt8) p1) fun y3=>D.bind (T.cu true y3 p0 (aj.mk 0 [] 0 [] [] [] [] [] 0)) fun y6=>gd (bK (y6.1.at_+1)) (.ok (y6.2.2,(L.mk y6.1.text y6.1.bo (y6.1.at_+1) y6.1.base y6.1.skip y6.1.pending)))
def dj (n:Nat) (T:m) (p0:Bool) (_:aj) (p2:L):D (Bool×aj×L):=
 D.bind (T.aD p0 p2) fun y2=>D.bind (bV n ([41]:List UInt8) y2.2) fun y3=>.ok (p0,y2.1,y3)
def eE (n:Nat) (T:m) (p0:Bool) (p1:L) (p2:o):D (L×o):=
 D.bind (bu n ([91]:List UInt8) p1) fun y4=>D.bind (fp n true y4 (o.mk 2 p2.cG ([46,42]:List UInt8) p2.bt p2.bz p2.bf p2.Body p2.cz p2.jy p2.Trail p2.Pos)) fun y6=>gd (bK (y6.1.at_+1)) (D.bind (bu n ([58]:List UInt8) (L.mk y6.1.text y6.1.bo (y6.1.at_+1) y6.1.base y6.1.skip y6.1.pending)) fun y10=>D.bind (T.aD p0 y10) fun y11=>.ok (y11.2,(o.mk y6.2.Kind y6.2.cG y6.2.Label y6.2.bt y6.2.bz [y11.1] y6.2.Body y6.2.cz y6.2.jy y6.2.Trail y6.2.Pos)))
def bZ (n:Nat) (T:m) (p0:Bool) (p1:L):D (aj×L):=
 D.bind (T.bS p0 p1) fun y3=>iter (fun next5 (v4:L×aj)=>D.bind (az n v4.1) fun y8=>D.bind (bm n (L.mk y8.2.text y8.2.bo y8.2.at_ v4.1.base y8.2.skip y8.2.pending)) fun y9=>D.bind (bJ y8.1 ([46]:List UInt8)) fun y11=>br y11 (D.bind (bk n v4.2 y9.1 y9.2) fun y14=>gd (bK (y14.2.at_+1)) (D.bind (az n (L.mk y14.2.text y14.2.bo (y14.2.at_+1) y14.2.base y14.2.skip y14.2.pending)) fun y18=>jn (fun (v19:L)=>gd (bK (v19.at_+1)) (next5 ((L.mk v19.text v19.bo (v19.at_+1) v19.base v19.skip v19.pending),(aj.mk 11 y18.1.Text 0 [] [] [y14.1] [] [] y14.1.Pos)))) fun j20=>D.bind (eU n y18.1) fun y25=>br (!y25) (D.bind (bj n (L.mk y18.2.text y18.2.bo y18.2.at_ y14.2.base y18.2.skip y18.2.pending)) fun y27=>j20 (y27)) (j20 ((L.mk y18.2.text y18.2.bo y18.2.at_ y14.2.base y18.2.skip y18.2.pending))))) (D.bind (bJ y8.1 ([91]:List UInt8)) fun y29=>br y29 (D.bind (bk n v4.2 y9.1 y9.2) fun y32=>gd (bK (y32.2.at_+1)) (D.bind (T.cw true (L.mk y32.2.text y32.2.bo (y32.2.at_+1) y32.2.base y32.2.skip y32.2.pending) y32.1) fun y36=>gd (bK (y36.1.at_+1)) (next5 ((L.mk y36.1.text y36.1.bo (y36.1.at_+1) y36.1.base y36.1.skip y36.1.pending),y36.2)))) (.ok (v4.2,y9.2)))) n (y3.2,y3.1)
def dU (n:Nat) (T:m) (p0:aj) (p1:L):D (aj×L):=
 D.bind (T.aD false p1) fun y2=>D.bind (bV n ([93]:List UInt8) y2.2) fun y3=>.ok ((aj.mk 12 [] 0 [] [] [p0,y2.1] [] [] p0.Pos),y3)
def b1 (n:Nat) (T:m) (p0:Bool) (p1:L):D (aj×L):=
 br (Option.isSome (Option.map aj.C p1.pending)) (some? p1.pending fun q6=>.ok (q6,(L.mk p1.text p1.bo p1.at_ p1.base p1.skip none))) (D.bind (az n p1) fun y11=>D.bind (bm n (L.mk y11.2.text y11.2.bo y11.2.at_ p1.base y11.2.skip y11.2.pending)) fun y12=>jn (fun (v14:L×aj)=>gd (bK (v14.1.at_+1)) (.ok (v14.2,(L.mk v14.1.text v14.1.bo (v14.1.at_+1) v14.1.base v14.1.skip v14.1.pending)))) fun j15=>br (y11.1.Kind==1) (D.bind (T.cx y12.2) fun y23=>.ok (y23.1,y23.2)) (br (y11.1.Kind==2) (D.bind (mr n y11.1.Text) fun y27=>j15 (y12.2,(aj.mk 3 [] y27.1 [] [] [] [] [] y12.1))) (br (y11.1.Kind==3) (j15 (y12.2,(aj.mk 4 y11.1.Text 0 [] [] [] [] [] y12.1))) (br (y11.1.Kind==4) (D.bind (T.cR y11.1 y12.1 y12.2) fun y32=>j15 (y32.2,y32.1)) (D.bind (bJ y11.1 ([95]:List UInt8)) fun y34=>br y34 (j15 (y12.2,(aj.mk 6 [] 0 [] [] [] [] [] y12.1))) (D.bind (bJ y11.1 ([95,124,95]:List UInt8)) fun y37=>br y37 (j15 (y12.2,(aj.mk 7 [] 0 [] [] [] [] [] y12.1))) (D.bind (bJ y11.1 ([40]:List UInt8)) fun y40=>br y40 (D.bind (T.bM p0 y12.2) fun y43=>.ok (y43.1,y43.2)) (D.bind (bJ y11.1 ([123]:List UInt8)) fun y45=>br y45 (D.bind (T.ck p0 y12.2) fun y48=>.ok (y48.1,y48.2)) (D.bind (bJ y11.1 ([91]:List UInt8)) fun y50=>br y50 (D.bind (T.cM y12.2) fun y53=>.ok (y53.1,y53.2)) (D.bind (bj n y12.2) fun y54=>j15 (y54,(aj.mk 0 [] 0 [] [] [] [] [] y12.1))))))))))))
def cq (n:Nat) (T:m) (p0:Bool) (p1:L):D (aj×L):=
 br (Option.isSome (Option.map aj.C p1.pending)) (D.bind (T.bG p0 p1) fun y6=>.ok (y6.1,y6.2)) (D.bind (az n p1) fun y8=>D.bind (bm n (L.mk y8.2.text y8.2.bo y8.2.at_ p1.base y8.2.skip y8.2.pending)) fun y9=>jn (fun (v11:Int)=>gd (bK (y9.2.at_+1)) (D.bind (T.bU false (L.mk y9.2.text y9.2.bo (y9.2.at_+1) y9.2.base y9.2.skip y9.2.pending)) fun y17=>.ok ((aj.mk v11 y8.1.Text 0 [] [] [y17.1] [] [] y9.1),y17.2))) fun j12=>D.bind (dM n y8.1 ([45,32,33]:List UInt8)) fun y19=>br y19 (j12 (19)) (D.bind (dM n y8.1 ([60,32,60,61,32,62,32,62,61,32,33,61,32,61,126,32,33,126]:List UInt8)) fun y22=>br y22 (j12 (9)) (D.bind (T.bG p0 y9.2) fun y25=>.ok (y25.1,y25.2))))
def dV (_:Nat) (T:m) (p0:Bool) (p1:L) (p2:Bool) (p3:(List o)) (p4:(List (List UInt8))):D (L×Bool×(List o)×(List (List UInt8))):=
 D.bind (T.eZ p2 p3 p4 (L.mk p1.text p1.bo p1.at_ p1.base p0 p1.pending)) fun y4=>.ok ((L.mk y4.2.2.2.text y4.2.2.2.bo y4.2.2.2.at_ y4.2.2.2.base p1.skip y4.2.2.2.pending),y4.1,y4.2.1,y4.2.2.1)
def c8 (_:Nat) (T:m) (p0:Bool) (p1:L) (p2:Bool) (p3:aj):D (L×Bool×aj):=
 D.bind (T.ea p2 p3 (L.mk p1.text p1.bo p1.at_ p1.base p0 p1.pending)) fun y4=>.ok ((L.mk y4.2.2.text y4.2.2.bo y4.2.2.at_ y4.2.2.base p1.skip y4.2.2.pending),y4.1,y4.2.1)
def dW (_:Nat) (T:m) (p0:Bool) (p1:L) (p2:aj):D (L×aj):=
 D.bind (T.eB p2 (L.mk p1.text p1.bo p1.at_ p1.base p0 p1.pending)) fun y4=>.ok ((L.mk y4.2.text y4.2.bo y4.2.at_ y4.2.base p1.skip y4.2.pending),y4.1)
def dX (_:Nat) (T:m) (p0:Bool) (p1:L) (p2:aj):D (L×aj):=
 D.bind (T.fv p2 (L.mk p1.text p1.bo p1.at_ p1.base p0 p1.pending)) fun y4=>.ok ((L.mk y4.2.text y4.2.bo y4.2.at_ y4.2.base p1.skip y4.2.pending),y4.1)
def dY (_:Nat) (T:m) (p0:Bool) (p1:L) (p2:(List aj)):D (L×(List aj)):=
 D.bind (T.fu p2 (L.mk p1.text p1.bo p1.at_ p1.base p0 p1.pending)) fun y4=>.ok ((L.mk y4.2.text y4.2.bo y4.2.at_ y4.2.base p1.skip y4.2.pending),y4.1)
def ai:Nat→m
 | 0=>⟨fun _ _=>.stuck,fun _ _=>.stuck,fun _=>.stuck,fun _ _=>.stuck,fun _ _ _=>.stuck,fun _ _=>.stuck,fun _ _ _ _=>.stuck,fun _ _=>.stuck,fun _ _=>.stuck,fun _ _=>.stuck,fun _ _=>.stuck,fun _ _ _=>.stuck,fun _ _=>.stuck,fun _ _ _=>.stuck,fun _ _ _=>.stuck,fun _=>.stuck,fun _=>.stuck,fun _ _=>.stuck,fun _=>.stuck,fun _ _=>.stuck,fun _ _ _=>.stuck,fun _ _ _=>.stuck,fun _ _=>.stuck,fun _ _=>.stuck,fun _ _=>.stuck,fun _ _=>.stuck,fun _ _ _ _ _=>.stuck,fun _ _ _ _=>.stuck,fun _ _ _=>.stuck,fun _ _ _=>.stuck,fun _ _ _=>.stuck⟩
 | n+1=>⟨iQ n (ai n),bO n (ai n),dF n (ai n),eO n (ai n),cb n (ai n),dw n (ai n),eC n (ai n),di n (ai n),bP n (ai n),fw n (ai n),kI n (ai n),eD n (ai n),cB n (ai n),fa n (ai n),eP n (ai n),fy n (ai n),dG n (ai n),eQ n (ai n),dx n (ai n),cK n (ai n),dj n (ai n),eE n (ai n),bZ n (ai n),dU n (ai n),b1 n (ai n),cq n (ai n),dV n (ai n),c8 n (ai n),dW n (ai n),dX n (ai n),dY n (ai n)⟩
def fV (n:Nat) (p0:(List UInt8)) (p1:Int):D (aj×Bool):=(ai n).fV p0 p1
def aV (n:Nat) (p0:Bool) (p1:L):D (aj×L):=(ai n).aV p0 p1
def cL (n:Nat) (p0:L):D ((List aj)×L):=(ai n).cL p0
def fu (n:Nat) (p0:(List aj)) (p1:L):D ((List aj)×L):=(ai n).fu p0 p1
def bn (n:Nat) (p0:Int) (p1:Bool) (p2:L):D (aj×L):=(ai n).bn p0 p1 p2
def ca (n:Nat) (p0:Bool) (p1:L):D ((List o)×(List (List UInt8))×L):=(ai n).ca p0 p1
def eZ (n:Nat) (p0:Bool) (p1:(List o)) (p2:(List (List UInt8))) (p3:L):D (Bool×(List o)×(List (List UInt8))×L):=(ai n).eZ p0 p1 p2 p3
def ck (n:Nat) (p0:Bool) (p1:L):D (aj×L):=(ai n).ck p0 p1
def aW (n:Nat) (p0:Bool) (p1:L):D (aj×L):=(ai n).aW p0 p1
def cl (n:Nat) (p0:Bool) (p1:L):D (o×L):=(ai n).cl p0 p1
def dh (n:Nat) (p0:Bool) (p1:L):D ((List o)×(List (List UInt8))×L):=(ai n).dh p0 p1
def cE (n:Nat) (p0:Bool) (p1:L) (p2:o):D (L×o):=(ai n).cE p0 p1 p2
def aD (n:Nat) (p0:Bool) (p1:L):D (aj×L):=(ai n).aD p0 p1
def cZ (n:Nat) (p0:Bool) (p1:L) (p2:o):D (L×o):=(ai n).cZ p0 p1 p2
def cR (n:Nat) (p0:au) (p1:Int) (p2:L):D (aj×L):=(ai n).cR p0 p1 p2
def de (n:Nat) (p0:L):D (aj×L):=(ai n).de p0
def cM (n:Nat) (p0:L):D (aj×L):=(ai n).cM p0
def fv (n:Nat) (p0:aj) (p1:L):D (aj×L):=(ai n).fv p0 p1
def cx (n:Nat) (p0:L):D (aj×L):=(ai n).cx p0
def bM (n:Nat) (p0:Bool) (p1:L):D (aj×L):=(ai n).bM p0 p1
def ea (n:Nat) (p0:Bool) (p1:aj) (p2:L):D (Bool×aj×L):=(ai n).ea p0 p1 p2
def cF (n:Nat) (p0:Bool) (p1:L) (p2:o):D (L×o):=(ai n).cF p0 p1 p2
def bG (n:Nat) (p0:Bool) (p1:L):D (aj×L):=(ai n).bG p0 p1
def eB (n:Nat) (p0:aj) (p1:L):D (aj×L):=(ai n).eB p0 p1
def bS (n:Nat) (p0:Bool) (p1:L):D (aj×L):=(ai n).bS p0 p1
def bU (n:Nat) (p0:Bool) (p1:L):D (aj×L):=(ai n).bU p0 p1
def cS (n:Nat) (p0:Bool) (p1:L) (p2:Bool) (p3:(List o)) (p4:(List (List UInt8))):D (L×Bool×(List o)×(List (List UInt8))):=(ai n).cS p0 p1 p2 p3 p4
def cu (n:Nat) (p0:Bool) (p1:L) (p2:Bool) (p3:aj):D (L×Bool×aj):=(ai n).cu p0 p1 p2 p3
def cw (n:Nat) (p0:Bool) (p1:L) (p2:aj):D (L×aj):=(ai n).cw p0 p1 p2
def cT (n:Nat) (p0:Bool) (p1:L) (p2:aj):D (L×aj):=(ai n).cT p0 p1 p2
def cU (n:Nat) (p0:Bool) (p1:L) (p2:(List aj)):D (L×(List aj)):=(ai n).cU p0 p1 p2
structure bb (T:m):Prop where
 fV:∀ (p0:(List UInt8)) (p1:Int),CT Tryz.prog 298 [F p0,I p1] [] (T.fV p0 p1) (fun x=>.fX [.agg (be x.1),Bo x.2]) (fun _=>[])
 aV:∀ (p0:Bool) (p1:L),CT Tryz.prog 73 [.ptr 0 0,Bo p0] [.box (Q p1)] (T.aV p0 p1) (fun x=>.agg (be x.1)) (fun x=>[.box (Q x.2)])
 cL:∀ (p0:L),CT Tryz.prog 297 [.ptr 0 0] [.box (Q p0)] (T.cL p0) (fun x=>.pv (.sl (List.length x.1) (aj.Cs x.1))) (fun x=>[.box (Q x.2)])
 fu:∀ (p0:(List aj)) (p1:L),CT Tryz.prog 313 [.ptr 0 0,.ptr 1 0] [.box [.ptr 2 0],.box [.arr 3 (List.length p0)],.box (Q p1),.arr 38 9 (aj.Cs p0)] (T.fu p0 p1) (fun _=>.fX []) (fun x=>[.box [.ptr 2 0],.box [.arr 3 (List.length x.1)],.box (Q x.2),.arr 38 9 (aj.Cs x.1)])
 bn:∀ (p0:Int) (p1:Bool) (p2:L),CT Tryz.prog 174 [.ptr 0 0,I p0,Bo p1] [.box (Q p2)] (T.bn p0 p1 p2) (fun x=>.agg (be x.1)) (fun x=>[.box (Q x.2)])
 ca:∀ (p0:Bool) (p1:L),CT Tryz.prog 156 [.ptr 0 0,Bo p0] [.box (Q p1)] (T.ca p0 p1) (fun x=>.fX [.pv (.sl (List.length x.1) (o.Cs x.1)),.pv (.sl (List.length x.2.1) (ch x.2.1))]) (fun x=>[.box (Q x.2.2)])
 eZ:∀ (p0:Bool) (p1:(List o)) (p2:(List (List UInt8))) (p3:L),CT Tryz.prog 203 [.ptr 0 0,.ptr 1 0,.ptr 2 0,.ptr 3 0] [.box [.ptr 4 0],.box [Bo p0],.box [.pv (.sl (List.length p1) (o.Cs p1))],.box [.pv (.sl (List.length p2) (ch p2))],.box (Q p3)] (T.eZ p0 p1 p2 p3) (fun _=>.fX []) (fun x=>[.box [.ptr 4 0],.box [Bo x.1],.box [.pv (.sl (List.length x.2.1) (o.Cs x.2.1))],.box [.pv (.sl (List.length x.2.2.1) (ch x.2.2.1))],.box (Q x.2.2.2)])
 ck:∀ (p0:Bool) (p1:L),CT Tryz.prog 278 [.ptr 0 0,Bo p0] [.box (Q p1)] (T.ck p0 p1) (fun x=>.agg (be x.1)) (fun x=>[.box (Q x.2)])
 aW:∀ (p0:Bool) (p1:L),CT Tryz.prog 119 [.ptr 0 0,Bo p0] [.box (Q p1)] (T.aW p0 p1) (fun x=>.agg (be x.1)) (fun x=>[.box (Q x.2)])
 cl:∀ (p0:Bool) (p1:L),CT Tryz.prog 107 [.ptr 0 0,Bo p0] [.box (Q p1)] (T.cl p0 p1) (fun x=>.agg (dE x.1)) (fun x=>[.box (Q x.2)])
 dh:∀ (p0:Bool) (p1:L),CT Tryz.prog 60 [.ptr 0 0,Sc (.slice none 0 0),Bo p0] [.box (Q p1)] (T.dh p0 p1) (fun x=>.fX [.pv (.sl (List.length x.1) (o.Cs x.1)),.pv (.sl (List.length x.2.1) (ch x.2.1))]) (fun x=>[.box (Q x.2.2)])
 cE:∀ (p0:Bool) (p1:L) (p2:o),CT Tryz.prog 159 [.ptr 0 0,.ptr 1 0,Bo p0] [.box (Q p1),.box (dE p2)] (T.cE p0 p1 p2) (fun _=>.fX []) (fun x=>[.box (Q x.1),.box (dE x.2)])
 aD:∀ (p0:Bool) (p1:L),CT Tryz.prog 33 [.ptr 0 0,Bo p0] [.box (Q p1)] (T.aD p0 p1) (fun x=>.agg (be x.1)) (fun x=>[.box (Q x.2)])
 cZ:∀ (p0:Bool) (p1:L) (p2:o),CT Tryz.prog 152 [.ptr 0 0,.ptr 1 0,Bo p0] [.box (Q p1),.box (dE p2)] (T.cZ p0 p1 p2) (fun _=>.fX []) (fun x=>[.box (Q x.1),.box (dE x.2)])
 cR:∀ (p0:au) (p1:Int) (p2:L),CT Tryz.prog 277 [.ptr 0 0,.agg (fF p0),I p1] [.box (Q p2)] (T.cR p0 p1 p2) (fun x=>.agg (be x.1)) (fun x=>[.box (Q x.2)])
 de:∀ (p0:L),CT Tryz.prog 300 [.ptr 0 0] [.box (Q p0)] (T.de p0) (fun x=>.agg (be x.1)) (fun x=>[.box (Q x.2)])
 cM:∀ (p0:L),CT Tryz.prog 279 [.ptr 0 0] [.box (Q p0)] (T.cM p0) (fun x=>.agg (be x.1)) (fun x=>[.box (Q x.2)])
 fv:∀ (p0:aj) (p1:L),CT Tryz.prog 299 [.ptr 0 0,.ptr 1 0] [.box [.ptr 2 0],.box [I p0.Kind,F p0.Text,I p0.jv,F p0.bt,F p0.bz,.arr 3 (List.length p0.bf),.pv (.sl (List.length p0.Decls) (o.Cs p0.Decls)),.pv (.sl (List.length p0.cz) (ch p0.cz)),I p0.Pos],.box (Q p1),.arr 38 9 (aj.Cs p0.bf)] (T.fv p0 p1) (fun _=>.fX []) (fun x=>[.box [.ptr 2 0],.box [I x.1.Kind,F x.1.Text,I x.1.jv,F x.1.bt,F x.1.bz,.arr 3 (List.length x.1.bf),.pv (.sl (List.length x.1.Decls) (o.Cs x.1.Decls)),.pv (.sl (List.length x.1.cz) (ch x.1.cz)),I x.1.Pos],.box (Q x.2),.arr 38 9 (aj.Cs x.1.bf)])
 cx:∀ (p0:L),CT Tryz.prog 276 [.ptr 0 0] [.box (Q p0)] (T.cx p0) (fun x=>.agg (be x.1)) (fun x=>[.box (Q x.2)])
 bM:∀ (p0:Bool) (p1:L),CT Tryz.prog 204 [.ptr 0 0,Bo p0] [.box (Q p1)] (T.bM p0 p1) (fun x=>.agg (be x.1)) (fun x=>[.box (Q x.2)])
 ea:∀ (p0:Bool) (p1:aj) (p2:L),CT Tryz.prog 237 [.ptr 0 0,.ptr 1 0,.ptr 2 0] [.box [.ptr 3 0],.box [Bo p0],.box (be p1),.box (Q p2)] (T.ea p0 p1 p2) (fun _=>.fX []) (fun x=>[.box [.ptr 3 0],.box [Bo x.1],.box (be x.2.1),.box (Q x.2.2)])
 cF:∀ (p0:Bool) (p1:L) (p2:o),CT Tryz.prog 154 [.ptr 0 0,.ptr 1 0,Bo p0] [.box (Q p1),.box (dE p2)] (T.cF p0 p1 p2) (fun _=>.fX []) (fun x=>[.box (Q x.1),.box (dE x.2)])
 bG:∀ (p0:Bool) (p1:L),CT Tryz.prog 243 [.ptr 0 0,Bo p0] [.box (Q p1)] (T.bG p0 p1) (fun x=>.agg (be x.1)) (fun x=>[.box (Q x.2)])
 eB:∀ (p0:aj) (p1:L),CT Tryz.prog 265 [.ptr 0 0,.ptr 1 0] [.box (be p0),.box [.ptr 2 0],.box (Q p1)] (T.eB p0 p1) (fun _=>.fX []) (fun x=>[.box (be x.1),.box [.ptr 2 0],.box (Q x.2)])
 bS:∀ (p0:Bool) (p1:L),CT Tryz.prog 264 [.ptr 0 0,Bo p0] [.box (Q p1)] (T.bS p0 p1) (fun x=>.agg (be x.1)) (fun x=>[.box (Q x.2)])
 bU:∀ (p0:Bool) (p1:L),CT Tryz.prog 214 [.ptr 0 0,Bo p0] [.box (Q p1)] (T.bU p0 p1) (fun x=>.agg (be x.1)) (fun x=>[.box (Q x.2)])
 cS:∀ (p0:Bool) (p1:L) (p2:Bool) (p3:(List o)) (p4:(List (List UInt8))),CT Tryz.prog 200 [.ptr 0 0,Bo p0,.fn 203 [] [.ptr 1 0,.ptr 2 0,.ptr 3 0,.ptr 4 0]] [.box (Q p1),.box [.ptr 0 0],.box [Bo p2],.box [.pv (.sl (List.length p3) (o.Cs p3))],.box [.pv (.sl (List.length p4) (ch p4))]] (T.cS p0 p1 p2 p3 p4) (fun _=>.fX []) (fun x=>[.box (Q x.1),.box [.ptr 0 0],.box [Bo x.2.1],.box [.pv (.sl (List.length x.2.2.1) (o.Cs x.2.2.1))],.box [.pv (.sl (List.length x.2.2.2) (ch x.2.2.2))]])
 cu:∀ (p0:Bool) (p1:L) (p2:Bool) (p3:aj),CT Tryz.prog 200 [.ptr 0 0,Bo p0,.fn 237 [] [.ptr 1 0,.ptr 2 0,.ptr 3 0]] [.box (Q p1),.box [.ptr 0 0],.box [Bo p2],.box (be p3)] (T.cu p0 p1 p2 p3) (fun _=>.fX []) (fun x=>[.box (Q x.1),.box [.ptr 0 0],.box [Bo x.2.1],.box (be x.2.2)])
 cw:∀ (p0:Bool) (p1:L) (p2:aj),CT Tryz.prog 200 [.ptr 0 0,Bo p0,.fn 265 [] [.ptr 1 0,.ptr 2 0]] [.box (Q p1),.box (be p2),.box [.ptr 0 0]] (T.cw p0 p1 p2) (fun _=>.fX []) (fun x=>[.box (Q x.1),.box (be x.2),.box [.ptr 0 0]])
 cT:∀ (p0:Bool) (p1:L) (p2:aj),CT Tryz.prog 200 [.ptr 0 0,Bo p0,.fn 299 [] [.ptr 1 0,.ptr 2 0]] [.box (Q p1),.box [.ptr 0 0],.box [I p2.Kind,F p2.Text,I p2.jv,F p2.bt,F p2.bz,.arr 3 (List.length p2.bf),.pv (.sl (List.length p2.Decls) (o.Cs p2.Decls)),.pv (.sl (List.length p2.cz) (ch p2.cz)),I p2.Pos],.arr 38 9 (aj.Cs p2.bf)] (T.cT p0 p1 p2) (fun _=>.fX []) (fun x=>[.box (Q x.1),.box [.ptr 0 0],.box [I x.2.Kind,F x.2.Text,I x.2.jv,F x.2.bt,F x.2.bz,.arr 3 (List.length x.2.bf),.pv (.sl (List.length x.2.Decls) (o.Cs x.2.Decls)),.pv (.sl (List.length x.2.cz) (ch x.2.cz)),I x.2.Pos],.arr 38 9 (aj.Cs x.2.bf)])
 cU:∀ (p0:Bool) (p1:L) (p2:(List aj)),CT Tryz.prog 200 [.ptr 0 0,Bo p0,.fn 313 [] [.ptr 1 0,.ptr 2 0]] [.box (Q p1),.box [.ptr 0 0],.box [.arr 3 (List.length p2)],.arr 38 9 (aj.Cs p2)] (T.cU p0 p1 p2) (fun _=>.fX []) (fun x=>[.box (Q x.1),.box [.ptr 0 0],.box [.arr 3 (List.length x.2)],.arr 38 9 (aj.Cs x.2)])
theorem vC (n:Nat) (T:m) (hT:bb T) (p0:(List UInt8)) (p1:Int):CT Tryz.prog 298 [F p0,I p1] [] (iQ n T p0 p1) (fun x=>.fX [.agg (be x.1),Bo x.2]) (fun _=>[]):=by
 refine rV Tryz.func298 O O fun r h hr E hE=>?_
 refine B fun _ hK1=>A (aK 104 (hE _ O) ⟨O,O,O,O⟩ O ?_)
 refine aK 105 (hE _ O) ⟨O,O,O,O⟩ O ?_
 refine zQ hK1 (B fun _ hK2=>A (zm O (jf hr h [] Tryz.call24 (pZ n p0) ⟨O,O,O,O,O,O,trivial⟩ O (fun _=>⟨O,O,O⟩) (fun _=>⟨O,O⟩) (fun _ _ _ hd hp=>uR (P:=Tryz.prog) (fn:=Tryz.f298) hd hp) (fun y3 h=>?_))))
 refine zm O (zx O (zx O (aK 107 (hE _ O) ⟨O,O,O,O⟩ O ?_)))
 refine za O (zs O (zQ hK2 (B fun _ hK4=>A (za O (zQ hK4 (B fun _ hK5=>B fun _ hK6=>A (zf O (zl O (zc O (zm O (zb (y3.2.Errno !=0) (fun hb7=>?_) fun hb7=>?_)))))))))))
 · refine z1 hb7 h fun h=>zg hb7 O (zg hb7 O (zg hb7 O (zy hb7 O (zQ hK6 (dm O (fun hc=>?_) (fun hc=>?_))))))
   · refine B fun _ hK8=>A (J (dC O O) O ?_)
     refine zs O (zs O (zQ hK8 (b3 (jt 104 O O) ?_)))
     exact H (s5 (n:=Tryz.f298.ntmps) (.inl O) (mh (.inl O) _ (.cons (aZ O O O) (.cons (xg O O) .nil)) h.symm (AV.le_refl _) trivial))
   · exact absurd (hc) (by simp)
 · refine z2 hb7 h fun h=>zG hb7 O (W O) (zG hb7 O (W O) (Cc hb7 ⟨O,O⟩ hr h [] Tryz.call315 (lE n y3.1) ⟨O,O,O,O,O,O,trivial⟩ O (fun _=>⟨O,O,O⟩) (fun _=>⟨O,O⟩) (fun _ _ _ hd hp=>uR (P:=Tryz.prog) (fn:=Tryz.f298) hd hp) (fun y9 h=>?_)))
   refine zw hb7 O (zQ hK6 (zB O h (fun _ h=>?_) fun _ h=>?_))
   · refine B fun _ hK11=>A (J (dC O O) O ?_)
     refine zs O (zs O (zQ hK11 (b3 (jt 104 O O) ?_)))
     exact H (s5 (n:=Tryz.f298.ntmps) (.inl O) (mh (.inl O) _ (.cons (aZ O O O) (.cons (xg O O) .nil)) h.symm (AV.le_refl _) trivial))
   · refine V (hK5 _ _ (B fun _ hK12=>A (zm O (zm O (zm O (J (dC O O) O ?_))))))
     refine eg 128 (hE _ O) ⟨O,O,O,O,O,O,O⟩ O ?_
     refine za O (zQ hK12 (B fun _ hK13=>A (J (pc O O) O ?_)))
     refine xj O ?_
     have hrO:=hr
     obtain ⟨r,hr,h,hc⟩:=uQ hr h
     refine zQ hK13 (B fun _ hK14=>A (zm O (aX (jt 128 O O) ?_)))
     refine oL hr h [128] Tryz.call33 (hT.aD false (L.mk p0 y3.1 0 p1 true none)) ⟨O,O,O,O,O,O,trivial⟩ O O (fun _=>⟨O,O,O⟩) (fun _=>⟨O,O⟩) O (fun p hp=>?_) (fun y15 h=>?_)
     · obtain ⟨v18,rfl,hc⟩:=lR hrO (lf hc hp)
       obtain ⟨hns,hok,_⟩:=ki hrO hc
       repeat (first|refine lg ?_|refine kl ?_)
       refine ij (n:=Tryz.f298.ntmps) [104,105] Tryz.call316 (r6 v18) hns O ⟨O,O,O,O⟩ (fun _=>⟨O,O⟩) (fun x hx=>?_)
       exact fL (.inl O) _ (.cons (aZ O O O) (.cons (xg O O) .nil)) (hok x hx).symm (AV.le_refl _) trivial
     · refine zs O (zQ hK14 (B fun _ hK16=>bL [0,1,2,3,4,5,6] O (by kernel_rfl) (zD O (iT O O O O) O ?_)))
       refine zD O (W O) O (FV O (bX O) hr h [128] Tryz.call34 (aI n y15.2) ⟨O,O,O,O,O,O,trivial⟩ O O (fun _=>⟨O,O,O⟩) (fun _=>⟨O,O⟩) (rv n y15.2) (fun y17 h=>⟨cP ⟨trivial,⟨⟨⟨_,O,M.le_refl _⟩,trivial⟩,trivial⟩⟩,?_⟩))
       refine zD O (kj O O) O ?_
       refine zD O (bw O O O) O (cf O ⟨O,O,O,O,O,O,O,O⟩ O (fun e5 he=>⟨aL O,?_⟩))
       subst he
       refine cf O ⟨O,O,O,O,O,O,O,O⟩ O (fun e6 he=>⟨aL O,?_⟩)
       subst he
       refine cX (hK16 _ _ (H (kU (n:=Tryz.f298.ntmps) (.inl O) [104,105] Tryz.call316 (qH [.box (be y15.1),.box [Bo (y17.1.Kind==0)]]) ⟨O,O,O,O⟩ O O ?_)))
       exact fL (.inl O) _ (.cons (aZ O O O) (.cons (xg O O) .nil)) (pQ hc h.symm) (AV.le_refl _) trivial
theorem mT (n:Nat) (T:m) (hT:bb T) (p0:Bool) (p1:L):CT Tryz.prog 73 [.ptr 0 0,Bo p0] [.box (Q p1)] (bO n T p0 p1) (fun x=>.agg (be x.1)) (fun x=>[.box (Q x.2)]):=by
 refine zC Tryz.func73 O fun r hp h hr E hE=>B fun _ hK1=>A (aK 104 (hE _ O) ⟨O,O,O,O⟩ O ?_)
 refine zQ hK1 (B fun _ hK2=>A (za O (zQ hK2 (B fun _ hK3=>B fun _ hK4=>A (zm O (zn O (zf O (zl O (J (B9 O O) O (zQ hK4 (zB O h (fun _ h=>?_) fun _ h=>?_)))))))))))
 · refine B fun _ hK6=>A (zm O (zk hp hr h [0] Tryz.call75 (cj n p1) O (fun _=>O) fun y7 h=>za O (zQ hK6 (B fun _ hK8=>A (zm O (zk hp hr h [0] Tryz.call76 (df n ([42]:List UInt8) y7.2) O (fun _=>O) fun y9 h=>zQ hK8 (zB O h (fun _ h=>?_) fun _ h=>?_)))))))
   · refine B fun _ hK11=>A (zm O (zk hp hr h [0] Tryz.call119 (hT.aW false y9.2) O (fun _=>O) fun y12 h=>b4 [y12.1] aj.y ⟨O,O⟩ O ?_))
     refine zm O (J (dC O O) O ?_)
     refine zs O (zQ hK11 (b3 (jt 104 O O) ?_))
     exact H (zX (.cons (aZ O O O) .nil) h O)
   · exact V (hK3 _ _ (B fun _ hK13=>A (zm O (zm O (zk hp hr h [0] Tryz.call119 (hT.aW p0 y9.2) O (fun _=>O) fun y14 h=>zs O (zQ hK13 (H (zX (.cons (aZ O O O) .nil) h O))))))))
 · exact V (hK3 _ _ (B fun _ hK15=>A (zm O (zm O (zk hp hr h [0] Tryz.call119 (hT.aW p0 p1) O (fun _=>O) fun y16 h=>zs O (zQ hK15 (H (zX (.cons (aZ O O O) .nil) h O))))))))
theorem qI (n:Nat) (T:m) (hT:bb T) (p0:L):CT Tryz.prog 297 [.ptr 0 0] [.box (Q p0)] (dF n T p0) (fun x=>.pv (.sl (List.length x.1) (aj.Cs x.1))) (fun x=>[.box (Q x.2)]):=by
 refine zC Tryz.func297 O fun r hp h hr E hE=>B fun _ hK1=>A (eg 101 (hE _ O) ⟨O,O,O,O,O,O,O⟩ O ?_)
 refine za O (zQ hK1 (B fun _ hK2=>A (zl O (zk hp hr h [0] Tryz.call155 (cY n ([40]:List UInt8) p0) O (fun _=>O) fun y3 h=>zQ hK2 (B fun _ hK4=>A (aK 103 (hE _ O) ⟨O,O,O,O⟩ O ?_))))))
 refine zQ hK4 (B fun _ hK5=>A (zl O (J (pc O O) O ?_)))
 refine aX (rn (j:=103) (off:=0) 26592 (sz:=9) (el:=38) (hE _ O) O O ⟨O,O,O⟩ O O) ?_
 refine jf hr h [0,101,103,26592] Tryz.call200 (hT.cU true y3 []) ⟨O,O,O,O,O,O,⟨hE _ O,trivial⟩⟩ O (fun _=>⟨O,O,O⟩) (fun _=>⟨O,O⟩) hp (fun y6 h=>?_)
 refine zQ hK5 (B fun _ hK7=>A (zl O (zn O (zf O (zl O (zd hr h fun hg8 h=>zo hg8 O (zn O (zf O (zs O (zQ hK7 (B fun _ hK9=>A (aX (pO (j:=103) (off:=0) aj.y aj.b7 O O O O (hE _ O) O) ?_))))))))))))
 exact zl O (za O (zQ hK9 (H (zX (.cons (K O) .nil) h O))))
theorem pw (n:Nat) (T:m) (hT:bb T) (p0:(List aj)) (p1:L):CT Tryz.prog 313 [.ptr 0 0,.ptr 1 0] [.box [.ptr 2 0],.box [.arr 3 (List.length p0)],.box (Q p1),.arr 38 9 (aj.Cs p0)] (eO n T p0 p1) (fun _=>.fX []) (fun x=>[.box [.ptr 2 0],.box [.arr 3 (List.length x.1)],.box (Q x.2),.arr 38 9 (aj.Cs x.1)]):=by
 refine zC Tryz.func313 O fun r hp h hr E hE=>B fun _ hK1=>B fun _ hK2=>A (zl O (zk hp hr h [2] Tryz.call34 (aI n p1) O (fun _=>O) fun y3 h=>zk hp hr h [] Tryz.call72 (cI y3.1 ([41]:List UInt8)) O (fun _=>O) fun y4 h=>J (eS O) O (zQ hK2 (zB O h (fun _ h=>?_) fun _ h=>?_))))
 · refine B fun _ hK6=>mi [] ?_
   refine o7 [0,1,3,4,2,5,6] 7 8 O (by kernel_rfl) ?_
   refine zD O (fj [.arr 3 (List.length p0)] O O ⟨.inl O,trivial⟩ O) O (zD O (bp O O O) O (zD O (mf O) O (tM [(aj.mk 0 ([]:List UInt8) 0 ([]:List UInt8) ([]:List UInt8) [] [] [] 0)] aj.y O (bX O) ⟨O,O,O⟩ ⟨O,O⟩ ?_)))
   refine dL O (bX O) hr h [2] Tryz.call33 (hT.aD false (L.mk y3.2.text y3.2.bo y3.2.at_ p1.base y3.2.skip y3.2.pending)) ⟨O,O,O,O,O,O,trivial⟩ O O (fun _=>⟨O,O,O⟩) (fun _=>⟨O,O⟩) hp (fun y7 h=>⟨cP ⟨trivial,⟨trivial,⟨trivial,⟨⟨⟨_,O,M.ff ⟨.inl O,trivial⟩⟩,trivial⟩,trivial⟩⟩⟩⟩,?_⟩)
   refine zd hr h fun hg8 h=>nq 111 O (bX O) ⟨jV.h,eL.h,aj.y,aj.b7,aj.jh,hE _ O,O,O,(.inl O),⟨O,O,O⟩,hg8⟩ O O ⟨aL O,?_⟩
   refine zD O (me O O (Int.natCast_nonneg _) (rX _ _)) O (rY ?_ ?_)
   · refine mK p0 O (⟨aj.y,aj.b7,Int.natCast_nonneg _,jM _ _,O,O,O,O,O,lG.h,O,O,O⟩:vQ _ _ _ _ _ _ _ _ _ 0 _ _ _ _ _ _ y7.1 _ (aj.C y7.1)) O ⟨aL O,?_⟩
     refine cf O ⟨O,O,O,O,O,O,O,O⟩ O (fun e8 he=>⟨aL O,?_⟩)
     subst he
     refine gi (eT.trans (mL 1 0 (m':=List.length (p0++[y7.1])) O O (by simp) O) (jg 111 3 [(0,.ptr 0 0),(1,.ptr 1 0)] [(0,.box [.ptr 2 0]),(1,.box [.arr 3 (List.length (p0++[y7.1]))]),(2,.box (Q y7.2))] (hE _ O) O O ⟨O,O⟩ ⟨⟨_,O,O,O⟩,⟨_,O,O,O⟩,trivial⟩ ⟨⟨_,O,O,O,O,O⟩,⟨_,O,O,O,O,O⟩,⟨_,O,O,O,O,O⟩,trivial⟩)) ?_
     refine hK6 _ _ (z (zL hr h (fun (v9:(List aj)×L)=>[(0,.ptr 0 0),(1,.ptr 1 0)]) (fun (v9:(List aj)×L)=>[(0,.box [.ptr 2 0]),(1,.box [.arr 3 (List.length v9.1)]),(2,.box (Q v9.2)),(3,.arr 38 9 (aj.Cs v9.1))]) O fun _ v9 _ hK11 h=>B fun _ hK12=>B fun _ hK13=>A (zl O (zk hp hr h [2] Tryz.call76 (df n ([44]:List UInt8) v9.2) O (fun _=>O) fun y14 h=>zQ hK13 (zB O h (fun _ h=>?_) fun _ h=>?_)))))
     · refine V (hK12 _ _ (z (mi [] ?_)))
       refine o7 [0,1,3,4,2,5,6] 7 8 O (by kernel_rfl) ?_
       refine zD O (fj [.arr 3 (List.length v9.1)] O O ⟨.inl O,trivial⟩ O) O (zD O (bp O O O) O (zD O (mf O) O (tM [(aj.mk 0 ([]:List UInt8) 0 ([]:List UInt8) ([]:List UInt8) [] [] [] 0)] aj.y O (bX O) ⟨O,O,O⟩ ⟨O,O⟩ ?_)))
       refine dL O (bX O) hr h [2] Tryz.call33 (hT.aD false y14.2) ⟨O,O,O,O,O,O,trivial⟩ O O (fun _=>⟨O,O,O⟩) (fun _=>⟨O,O⟩) hp (fun y16 h=>⟨cP ⟨trivial,⟨trivial,⟨trivial,⟨⟨⟨_,O,M.ff ⟨.inl O,trivial⟩⟩,trivial⟩,trivial⟩⟩⟩⟩,?_⟩)
       refine zd hr h fun hg17 h=>nq 120 O (bX O) ⟨jV.h,eL.h,aj.y,aj.b7,aj.jh,hE _ O,O,O,(.inl O),⟨O,O,O⟩,hg17⟩ O O ⟨aL O,?_⟩
       refine zD O (me O O (Int.natCast_nonneg _) (rX _ _)) O (rY ?_ ?_)
       · refine mK v9.1 O (⟨aj.y,aj.b7,Int.natCast_nonneg _,jM _ _,O,O,O,O,O,lG.h,O,O,O⟩:vQ _ _ _ _ _ _ _ _ _ 0 _ _ _ _ _ _ y16.1 _ (aj.C y16.1)) O ⟨aL O,?_⟩
         refine cf O ⟨O,O,O,O,O,O,O,O⟩ O (fun e8 he=>⟨aL O,?_⟩)
         subst he
         refine gi (eT.trans (mL 1 0 (m':=List.length (v9.1++[y16.1])) O O (by simp) O) (jg 120 3 [(0,.ptr 0 0),(1,.ptr 1 0)] [(0,.box [.ptr 2 0]),(1,.box [.arr 3 (List.length (v9.1++[y16.1]))]),(2,.box (Q y16.2))] (hE _ O) O O ⟨O,O⟩ ⟨⟨_,O,O,O⟩,⟨_,O,O,O⟩,trivial⟩ ⟨⟨_,O,O,O,O,O⟩,⟨_,O,O,O,O,O⟩,⟨_,O,O,O,O,O⟩,trivial⟩)) ?_
         exact hK11 _ _ _ h O
       · refine cf O ⟨O,O,O,O,O,O,O,O⟩ O (fun e7 he=>⟨aL O,?_⟩)
         subst he
         refine mK v9.1 O (⟨aj.y,aj.b7,Int.natCast_nonneg _,jM _ _,O,O,O,O,O,lG.h,O,O,O⟩:vQ _ _ _ _ _ _ _ _ _ 0 _ _ _ _ _ _ y16.1 _ (aj.C y16.1)) O ⟨aL O,?_⟩
         refine gi (eT.trans (mL 1 0 (m':=List.length (v9.1++[y16.1])) O O (by simp) O) (jg 120 3 [(0,.ptr 0 0),(1,.ptr 1 0)] [(0,.box [.ptr 2 0]),(1,.box [.arr 3 (List.length (v9.1++[y16.1]))]),(2,.box (Q y16.2))] (hE _ O) O O ⟨O,O⟩ ⟨⟨_,O,O,O⟩,⟨_,O,O,O⟩,trivial⟩ ⟨⟨_,O,O,O,O,O⟩,⟨_,O,O,O,O,O⟩,⟨_,O,O,O,O,O⟩,trivial⟩)) ?_
         exact hK11 _ _ _ h O
     · exact bB (hK1 _ _ (A (zl O (zk hp hr h [2] Tryz.call202 (du n ([41]:List UInt8) y14.2) O (fun _=>O) fun y18 h=>N (zY .nil h O)))))
   · refine cf O ⟨O,O,O,O,O,O,O,O⟩ O (fun e7 he=>⟨aL O,?_⟩)
     subst he
     refine mK p0 O (⟨aj.y,aj.b7,Int.natCast_nonneg _,jM _ _,O,O,O,O,O,lG.h,O,O,O⟩:vQ _ _ _ _ _ _ _ _ _ 0 _ _ _ _ _ _ y7.1 _ (aj.C y7.1)) O ⟨aL O,?_⟩
     refine gi (eT.trans (mL 1 0 (m':=List.length (p0++[y7.1])) O O (by simp) O) (jg 111 3 [(0,.ptr 0 0),(1,.ptr 1 0)] [(0,.box [.ptr 2 0]),(1,.box [.arr 3 (List.length (p0++[y7.1]))]),(2,.box (Q y7.2))] (hE _ O) O O ⟨O,O⟩ ⟨⟨_,O,O,O⟩,⟨_,O,O,O⟩,trivial⟩ ⟨⟨_,O,O,O,O,O⟩,⟨_,O,O,O,O,O⟩,⟨_,O,O,O,O,O⟩,trivial⟩)) ?_
     refine hK6 _ _ (z (zL hr h (fun (v19:(List aj)×L)=>[(0,.ptr 0 0),(1,.ptr 1 0)]) (fun (v19:(List aj)×L)=>[(0,.box [.ptr 2 0]),(1,.box [.arr 3 (List.length v19.1)]),(2,.box (Q v19.2)),(3,.arr 38 9 (aj.Cs v19.1))]) O fun _ v19 _ hK21 h=>B fun _ hK22=>B fun _ hK23=>A (zl O (zk hp hr h [2] Tryz.call76 (df n ([44]:List UInt8) v19.2) O (fun _=>O) fun y24 h=>zQ hK23 (zB O h (fun _ h=>?_) fun _ h=>?_)))))
     · refine V (hK22 _ _ (z (mi [] ?_)))
       refine o7 [0,1,3,4,2,5,6] 7 8 O (by kernel_rfl) ?_
       refine zD O (fj [.arr 3 (List.length v19.1)] O O ⟨.inl O,trivial⟩ O) O (zD O (bp O O O) O (zD O (mf O) O (tM [(aj.mk 0 ([]:List UInt8) 0 ([]:List UInt8) ([]:List UInt8) [] [] [] 0)] aj.y O (bX O) ⟨O,O,O⟩ ⟨O,O⟩ ?_)))
       refine dL O (bX O) hr h [2] Tryz.call33 (hT.aD false y24.2) ⟨O,O,O,O,O,O,trivial⟩ O O (fun _=>⟨O,O,O⟩) (fun _=>⟨O,O⟩) hp (fun y26 h=>⟨cP ⟨trivial,⟨trivial,⟨trivial,⟨⟨⟨_,O,M.ff ⟨.inl O,trivial⟩⟩,trivial⟩,trivial⟩⟩⟩⟩,?_⟩)
       refine zd hr h fun hg27 h=>nq 120 O (bX O) ⟨jV.h,eL.h,aj.y,aj.b7,aj.jh,hE _ O,O,O,(.inl O),⟨O,O,O⟩,hg27⟩ O O ⟨aL O,?_⟩
       refine zD O (me O O (Int.natCast_nonneg _) (rX _ _)) O (rY ?_ ?_)
       · refine mK v19.1 O (⟨aj.y,aj.b7,Int.natCast_nonneg _,jM _ _,O,O,O,O,O,lG.h,O,O,O⟩:vQ _ _ _ _ _ _ _ _ _ 0 _ _ _ _ _ _ y26.1 _ (aj.C y26.1)) O ⟨aL O,?_⟩
         refine cf O ⟨O,O,O,O,O,O,O,O⟩ O (fun e8 he=>⟨aL O,?_⟩)
         subst he
         refine gi (eT.trans (mL 1 0 (m':=List.length (v19.1++[y26.1])) O O (by simp) O) (jg 120 3 [(0,.ptr 0 0),(1,.ptr 1 0)] [(0,.box [.ptr 2 0]),(1,.box [.arr 3 (List.length (v19.1++[y26.1]))]),(2,.box (Q y26.2))] (hE _ O) O O ⟨O,O⟩ ⟨⟨_,O,O,O⟩,⟨_,O,O,O⟩,trivial⟩ ⟨⟨_,O,O,O,O,O⟩,⟨_,O,O,O,O,O⟩,⟨_,O,O,O,O,O⟩,trivial⟩)) ?_
         exact hK21 _ _ _ h O
       · refine cf O ⟨O,O,O,O,O,O,O,O⟩ O (fun e7 he=>⟨aL O,?_⟩)
         subst he
         refine mK v19.1 O (⟨aj.y,aj.b7,Int.natCast_nonneg _,jM _ _,O,O,O,O,O,lG.h,O,O,O⟩:vQ _ _ _ _ _ _ _ _ _ 0 _ _ _ _ _ _ y26.1 _ (aj.C y26.1)) O ⟨aL O,?_⟩
         refine gi (eT.trans (mL 1 0 (m':=List.length (v19.1++[y26.1])) O O (by simp) O) (jg 120 3 [(0,.ptr 0 0),(1,.ptr 1 0)] [(0,.box [.ptr 2 0]),(1,.box [.arr 3 (List.length (v19.1++[y26.1]))]),(2,.box (Q y26.2))] (hE _ O) O O ⟨O,O⟩ ⟨⟨_,O,O,O⟩,⟨_,O,O,O⟩,trivial⟩ ⟨⟨_,O,O,O,O,O⟩,⟨_,O,O,O,O,O⟩,⟨_,O,O,O,O,O⟩,trivial⟩)) ?_
         exact hK21 _ _ _ h O
     · exact bB (hK1 _ _ (A (zl O (zk hp hr h [2] Tryz.call202 (du n ([41]:List UInt8) y24.2) O (fun _=>O) fun y28 h=>N (zY .nil h O)))))
 · exact V (hK1 _ _ (A (zl O (zk hp hr h [2] Tryz.call202 (du n ([41]:List UInt8) (L.mk y3.2.text y3.2.bo y3.2.at_ p1.base y3.2.skip y3.2.pending)) O (fun _=>O) fun y29 h=>N (zY .nil h O)))))
theorem px (n:Nat) (T:m) (hT:bb T) (p0:Int) (p1:Bool) (p2:L):CT Tryz.prog 174 [.ptr 0 0,I p0,Bo p1] [.box (Q p2)] (cb n T p0 p1 p2) (fun x=>.agg (be x.1)) (fun x=>[.box (Q x.2)]):=by
 refine zC Tryz.func174 O fun r hp h hr E hE=>B fun _ hK1=>A (aK 106 (hE _ O) ⟨O,O,O,O⟩ O ?_)
 refine zQ hK1 (B fun _ hK2=>B fun _ hK3=>A (zm O (zc O (zQ hK3 (zB O h (fun _ h=>?_) fun _ h=>?_)))))
 · exact B fun _ hK5=>A (zm O (zm O (zk hp hr h [0] Tryz.call214 (hT.bU p1 p2) O (fun _=>O) fun y6 h=>zs O (zQ hK5 (H (zX (.cons (aZ O O O) .nil) h O))))))
 · refine V (hK2 _ _ (B fun _ hK7=>A (zm O (zm O (zd hr h fun hg8 h=>zo hg8 O (zm O (zk hp hr h [0] Tryz.call174 (hT.bn (p0+1) p1 p2) O (fun _=>O) fun y9 h=>aK 107 (hE _ O) ⟨O,O,O,O⟩ O ?_)))))))
   refine zs O (zQ hK7 (B fun _ hK10=>z (zL hr h (fun (v11:L×aj)=>[(0,.ptr 0 0),(1,I p0),(2,Bo p1),(6,.ptr 106 0),(7,.ptr 107 0)]) (fun (v11:L×aj)=>[(0,.box (Q v11.1)),(106,.box [I 0,F [],I 0,F [],F [],Sc (.slice none 0 0),Sc (.slice none 0 0),Sc (.slice none 0 0),I 0]),(107,.box (be v11.2))]) O fun _ v11 _ hK13 h=>B fun _ hK14=>B fun _ hK15=>A (zm O (zk hp hr h [0] Tryz.call34 (aI n v11.1) O (fun _=>O) fun y16 h=>zm O (zk hp hr h [] Tryz.call215 (sG p0) O (fun _=>O) fun y17 h=>zk hp hr h [] Tryz.call151 (lk n y16.1 y17) O (fun _=>O) fun y18 h=>zQ hK15 (zB O h (fun _ h=>?_) fun _ h=>?_)))))))
   · refine V (hK14 _ _ (z (B fun _ hK20=>bL [0,1,2,3,4,5] O (by kernel_rfl) (zD O (W O) O (zD O (iT O O O O) O ?_)))))
     refine zD O (W O) O (dL O (bX O) hr h [0] Tryz.call75 (cj n (L.mk y16.2.text y16.2.bo y16.2.at_ v11.1.base y16.2.skip y16.2.pending)) ⟨O,O,O,O,O,O,trivial⟩ O O (fun _=>⟨O,O,O⟩) (fun _=>⟨O,O⟩) hp (fun y21 h=>⟨cP ⟨trivial,⟨⟨⟨_,O,M.le_refl _⟩,trivial⟩,⟨trivial,trivial⟩⟩⟩,?_⟩))
     refine dL O (bX O) hr h [0] Tryz.call74 (gj n v11.2 y21.1 y21.2) ⟨O,O,O,O,O,O,trivial⟩ O O (fun _=>⟨O,O,O⟩) (fun _=>⟨O,O⟩) hp (fun y22 h=>⟨aL O,?_⟩)
     refine cf O ⟨O,O,O,O,O,O,O,O⟩ O (fun e5 he=>⟨aL O,?_⟩)
     subst he
     refine cX (hK20 _ _ (B fun _ hK23=>A (zm O (zk hp hr h [0] Tryz.call34 (aI n y22.2) O (fun _=>O) fun y24 h=>J (kj O O) O ?_))))
     refine za O (zQ hK23 (B fun _ hK25=>A (zm O (zn O (zf O (zl O (zd hr h fun hg26 h=>zo hg26 O (zn O (zf O (zs O (zQ hK25 (mi [] ?_))))))))))))
     refine bL [0,1,2,3,4,7,8,5,6,9,10] O (by kernel_rfl) (zD O (W O) O (zD O (iT O O O O) O ?_))
     refine zD O (W O) O (zD O (W O) O (zd hr h fun hg27 h=>zD O (k9 O O hg27) O (zD O (bR O) O (zD O (fj [.any,.any,.any,.any,.any,.any,.any,.any,I y22.1.Pos] O O ⟨.inr O,.inr O,.inr O,.inr O,.inr O,.inr O,.inr O,.inr O,.inl O,trivial⟩ O) O (dL O (bX O) hr h [0] Tryz.call174 (hT.bn (p0+1) false (L.mk y24.2.text y24.2.bo (y24.2.at_+1) y22.2.base y24.2.skip y24.2.pending)) ⟨O,O,O,O,O,O,trivial⟩ O O (fun _=>⟨O,O,O⟩) (fun _=>⟨O,O⟩) hp (fun y28 h=>⟨cP ⟨⟨⟨_,O,M.ff ⟨.inr O,.inr O,.inr O,.inr O,.inr O,.inr O,.inr O,.inr O,.inl O,trivial⟩⟩,trivial⟩,⟨trivial,⟨trivial,⟨trivial,⟨trivial,⟨⟨⟨_,O,M.le_refl _⟩,trivial⟩,⟨trivial,trivial⟩⟩⟩⟩⟩⟩⟩,?_⟩))))))
     refine ig [y22.1,y28.1] aj.y O (bX O) ⟨O,O⟩ ⟨O,O⟩ ?_
     refine zD O (dC O O) O ?_
     refine cf O ⟨O,O,O,O,O,O,O,O⟩ O (fun e10 he=>⟨aL O,?_⟩)
     subst he
     refine gi (eT.trans (gE 107 6 O O O) (gE 107 7 O O O)) ?_
     exact hK13 _ _ _ h O
   · refine bB (hK10 _ _ (B fun _ hK29=>A (zA O ?_)))
     exact zs O (zQ hK29 (H (zX (.cons (aZ O O O) .nil) h O)))
theorem p8 (n:Nat) (T:m) (hT:bb T) (p0:Bool) (p1:L):CT Tryz.prog 156 [.ptr 0 0,Bo p0] [.box (Q p1)] (dw n T p0 p1) (fun x=>.fX [.pv (.sl (List.length x.1) (o.Cs x.1)),.pv (.sl (List.length x.2.1) (ch x.2.1))]) (fun x=>[.box (Q x.2.2)]):=by
 refine zC Tryz.func156 O fun r hp h hr E hE=>?_
 refine B fun _ hK1=>?_
 refine A ?_
 refine eg 102 (hE _ O) ⟨O,O,O,O,O,O,O⟩ O ?_
 refine eg 103 (hE _ O) ⟨O,O,O,O,O,O,O⟩ O ?_
 refine za O ?_
 refine za O ?_
 refine zQ hK1 ?_
 refine B fun _ hK2=>?_
 refine A ?_
 refine zl O ?_
 refine zk hp hr h [0] Tryz.call155 (cY n ([123]:List UInt8) p1) O (fun _=>O) fun y3 h=>?_
 refine zQ hK2 ?_
 refine B fun _ hK4=>?_
 refine A ?_
 refine aK 106 (hE _ O) ⟨O,O,O,O⟩ O ?_
 refine zQ hK4 ?_
 refine B fun _ hK5=>?_
 refine A ?_
 refine aK 107 (hE _ O) ⟨O,O,O,O⟩ O ?_
 refine zQ hK5 ?_
 refine B fun _ hK6=>?_
 refine A ?_
 refine zl O ?_
 refine J (pc O O) O ?_
 refine aX (jt 106 O O) ?_
 refine aX (jt 107 O O) ?_
 refine zk hp hr h [0,102,103,106,107] Tryz.call200 (hT.cS false y3 p0 [] []) O (fun _=>O) fun y7 h=>?_
 refine zQ hK6 ?_
 refine B fun _ hK8=>?_
 refine A ?_
 refine zl O ?_
 refine zn O ?_
 refine zf O ?_
 refine zl O ?_
 refine zd hr h fun hg9 h=>?_
 refine zo hg9 O ?_
 refine zn O ?_
 refine zf O ?_
 refine zs O ?_
 refine zQ hK8 ?_
 refine B fun _ hK10=>?_
 refine bL [0,1,2,3] O (by kernel_rfl) ?_
 refine zD O (bp O O O) O ?_
 refine zD O (fj [.pv (.sl (List.length y7.2.2.2) (ch y7.2.2.2))] O O ⟨.inl O,trivial⟩ O) O ?_
 refine fK O O O (cP ⟨⟨⟨_,O,M.ff ⟨.inl O,trivial⟩⟩,trivial⟩,⟨trivial,trivial⟩⟩) O ?_
 refine fK O O O (aL O) O ?_
 refine cX ?_
 refine hK10 _ _ ?_
 refine H ?_
 exact zX (.cons (K O) (.cons (K O) .nil)) h O
theorem oO (n:Nat) (T:m) (hT:bb T) (p0:Bool) (p1:(List o)) (p2:(List (List UInt8))) (p3:L):CT Tryz.prog 203 [.ptr 0 0,.ptr 1 0,.ptr 2 0,.ptr 3 0] [.box [.ptr 4 0],.box [Bo p0],.box [.pv (.sl (List.length p1) (o.Cs p1))],.box [.pv (.sl (List.length p2) (ch p2))],.box (Q p3)] (eC n T p0 p1 p2 p3) (fun _=>.fX []) (fun x=>[.box [.ptr 4 0],.box [Bo x.1],.box [.pv (.sl (List.length x.2.1) (o.Cs x.2.1))],.box [.pv (.sl (List.length x.2.2.1) (ch x.2.2.1))],.box (Q x.2.2.2)]):=by
 exact zC Tryz.func203 O fun r hp h hr E hE=>B fun _ hK1=>A (zl O (zl O (zk hp hr h [4] Tryz.call60 (hT.dh p0 p3) O (fun _=>O) fun y2 h=>zm O (zx O (zx O (zs O (zs O (zQ hK1 (A (zl O (zk hp hr h [4] Tryz.call202 (du n ([125]:List UInt8) y2.2.2) O (fun _=>O) fun y3 h=>N (zY .nil h O))))))))))))
theorem py (n:Nat) (T:m) (hT:bb T) (p0:Bool) (p1:L):CT Tryz.prog 278 [.ptr 0 0,Bo p0] [.box (Q p1)] (di n T p0 p1) (fun x=>.agg (be x.1)) (fun x=>[.box (Q x.2)]):=by
 refine zC Tryz.func278 O fun r hp h hr E hE=>B fun _ hK1=>A (aK 104 (hE _ O) ⟨O,O,O,O⟩ O ?_)
 refine zQ hK1 (B fun _ hK2=>A (zm O (zk hp hr h [0] Tryz.call75 (cj n p1) O (fun _=>O) fun y3 h=>J (dC O O) O ?_)))
 refine aK 105 (hE _ O) ⟨O,O,O,O⟩ O ?_
 refine zs O (zQ hK2 (zM h (fun (v4:aj)=>[(0,.ptr 0 0),(1,Bo p0),(4,.ptr 104 0),(5,.ptr 105 0)]) (fun (v4:aj)=>[(0,.box (Q y3.2)),(104,.box [I 0,F [],I 0,F [],F [],Sc (.slice none 0 0),Sc (.slice none 0 0),Sc (.slice none 0 0),I 0]),(105,.box [I v4.Kind,F v4.Text,I v4.jv,F v4.bt,F v4.bz,Sc (.slice none 0 0),Sc (.slice none 0 0),Sc (.slice none 0 0),I v4.Pos])]) (fun v4 h=>?_) fun _ _ hK6 h=>?_))
 · refine B fun _ hK7=>A (zm O (zm O (zk hp hr h [0] Tryz.call156 (hT.ca p0 y3.2) O (fun _=>O) fun y8 h=>zm O (zx O (zx O (zf O (zs O (zf O (zs O (zQ hK7 (B fun _ hK9=>A (zA O ?_))))))))))))
   refine zs O (zQ hK9 (b3 (jt 104 O O) ?_))
   exact H (zX (.cons (aZ O O O) .nil) h O)
 · refine B fun _ hK10=>A (zm O (zQ hK10 (zB O h (fun _ h=>?_) fun _ h=>?_)))
   · exact A (zf O (zs O (N (hK6 _ _ _ h O))))
   · exact V (hK6 _ _ _ h O)
theorem mU (n:Nat) (T:m) (hT:bb T) (p0:Bool) (p1:L):CT Tryz.prog 119 [.ptr 0 0,Bo p0] [.box (Q p1)] (bP n T p0 p1) (fun x=>.agg (be x.1)) (fun x=>[.box (Q x.2)]):=by
 refine zC Tryz.func119 O fun r hp h hr E hE=>B fun _ hK1=>A (aK 104 (hE _ O) ⟨O,O,O,O⟩ O ?_)
 refine zQ hK1 (B fun _ hK2=>A (zm O (zm O (zk hp hr h [0] Tryz.call174 (hT.bn 0 p0 p1) O (fun _=>O) fun y3 h=>aK 105 (hE _ O) ⟨O,O,O,O⟩ O ?_))))
 refine zs O (zQ hK2 (B fun _ hK4=>z (zL hr h (fun (v5:L×aj)=>[(0,.ptr 0 0),(1,Bo p0),(4,.ptr 104 0),(5,.ptr 105 0)]) (fun (v5:L×aj)=>[(0,.box (Q v5.1)),(104,.box [I 0,F [],I 0,F [],F [],Sc (.slice none 0 0),Sc (.slice none 0 0),Sc (.slice none 0 0),I 0]),(105,.box (be v5.2))]) O fun _ v5 _ hK7 h=>B fun _ hK8=>B fun _ hK9=>A (zm O (zk hp hr h [0] Tryz.call76 (df n ([38]:List UInt8) v5.1) O (fun _=>O) fun y10 h=>zQ hK9 (zB O h (fun _ h=>?_) fun _ h=>?_))))))
 · refine V (hK8 _ _ (z (mi [] ?_)))
   refine bL [0,1,2,5,6,3,4,7,8] O (by kernel_rfl) (zD O (iT O O O O) O ?_)
   refine zD O (W O) O (zD O (W O) O (zD O (bR O) O (zD O (fj [.any,.any,.any,.any,.any,.any,.any,.any,I v5.2.Pos] O O ⟨.inr O,.inr O,.inr O,.inr O,.inr O,.inr O,.inr O,.inr O,.inl O,trivial⟩ O) O (dL O (bX O) hr h [0] Tryz.call174 (hT.bn 0 p0 y10.2) ⟨O,O,O,O,O,O,trivial⟩ O O (fun _=>⟨O,O,O⟩) (fun _=>⟨O,O⟩) hp (fun y12 h=>⟨cP ⟨⟨⟨_,O,M.ff ⟨.inr O,.inr O,.inr O,.inr O,.inr O,.inr O,.inr O,.inr O,.inl O,trivial⟩⟩,trivial⟩,⟨trivial,⟨trivial,⟨trivial,⟨⟨⟨_,O,M.le_refl _⟩,trivial⟩,trivial⟩⟩⟩⟩⟩,?_⟩)))))
   refine ig [v5.2,y12.1] aj.y O (bX O) ⟨O,O⟩ ⟨O,O⟩ ?_
   refine zD O (dC O O) O ?_
   refine cf O ⟨O,O,O,O,O,O,O,O⟩ O (fun e8 he=>⟨aL O,?_⟩)
   subst he
   refine gi (eT.trans (gE 105 6 O O O) (gE 105 7 O O O)) ?_
   exact hK7 _ _ _ h O
 · refine bB (hK4 _ _ (B fun _ hK13=>A (zA O ?_)))
   exact zs O (zQ hK13 (H (zX (.cons (aZ O O O) .nil) h O)))
theorem qJ (n:Nat) (T:m) (hT:bb T) (p0:Bool) (p1:L):CT Tryz.prog 107 [.ptr 0 0,Bo p0] [.box (Q p1)] (fw n T p0 p1) (fun x=>.agg (dE x.1)) (fun x=>[.box (Q x.2)]):=by
 refine zC Tryz.func107 O fun r hp h hr E hE=>B fun _ hK1=>A (aK 104 (hE _ O) ⟨O,O,O,O⟩ O ?_)
 refine zQ hK1 (B fun _ hK2=>A (zm O (zk hp hr h [0] Tryz.call34 (aI n p1) O (fun _=>O) fun y3 h=>aK 105 (hE _ O) ⟨O,O,O,O⟩ O ?_)))
 refine zs O (zQ hK2 (B fun _ hK4=>A (zm O (zk hp hr h [0] Tryz.call75 (cj n (L.mk y3.2.text y3.2.bo y3.2.at_ p1.base y3.2.skip y3.2.pending)) O (fun _=>O) fun y5 h=>J (dC O O) O ?_))))
 refine aK 106 (hE _ O) ⟨O,O,O,O⟩ O ?_
 refine zs O (zQ hK4 (B fun _ hK6=>A (zm O (zk hp hr h [0] Tryz.call149 (eN 1 y5.2) O (fun _=>O) fun y7 h=>aK 107 (hE _ O) ⟨O,O,O,O⟩ O ?_))))
 refine zs O (zQ hK6 (zM h (fun (v8:L×o)=>[(0,.ptr 0 0),(1,Bo p0),(4,.ptr 104 0),(6,.ptr 106 0)]) (fun (v8:L×o)=>[(0,.box (Q v8.1)),(104,.box [I 0,I 0,F [],F [],F [],Sc (.slice none 0 0),Sc (.slice none 0 0),Sc (.slice none 0 0),Sc (.slice none 0 0),F [],I 0]),(106,.box (dE v8.2))]) (fun v8 h=>?_) fun _ _ hK10 h=>?_))
 · refine B fun _ hK11=>A (zA O ?_)
   exact zs O (zQ hK11 (H (zX (.cons (aZ O O O) .nil) h O)))
 · refine z (zM h (fun (v12:Bool)=>[(0,.ptr 0 0),(1,Bo p0),(4,.ptr 104 0),(5,.ptr 105 0),(6,.ptr 106 0),(21,Bo v12)]) (fun (v12:Bool)=>[(0,.box (Q y7.2)),(104,.box [I 0,I 0,F [],F [],F [],Sc (.slice none 0 0),Sc (.slice none 0 0),Sc (.slice none 0 0),Sc (.slice none 0 0),F [],I 0]),(105,.box (fF y3.1)),(106,.box [I 0,I 0,F [],F [],F [],Sc (.slice none 0 0),Sc (.slice none 0 0),Sc (.slice none 0 0),Sc (.slice none 0 0),F [],I y5.1])]) (fun v12 h=>?_) fun _ _ hK14 h=>?_)
   · refine zB O h (fun _ h=>?_) fun _ h=>?_
     · refine A (zm O (zm O (aX (jt 106 O O) ?_)))
       exact zk hp hr h [0,106] Tryz.call152 (hT.cZ p0 y7.2 (o.mk 0 0 [] [] [] [] [] [] [] [] y5.1)) O (fun _=>O) fun y16 h=>N (hK10 _ _ _ h O)
     · refine B fun _ hK17=>A (zm O (zk hp hr h [0] Tryz.call153 (n8 n y7.2) O (fun _=>O) fun y18 h=>za O (zQ hK17 (zB O h (fun _ h=>?_) fun _ h=>?_))))
       · refine A (zm O (zm O (aX (jt 106 O O) ?_)))
         exact zk hp hr h [0,106] Tryz.call154 (hT.cF p0 y18.2 (o.mk 0 0 [] [] [] [] [] [] [] [] y5.1)) O (fun _=>O) fun y20 h=>N (hK10 _ _ _ h O)
       · refine B fun _ hK21=>A (zA O ?_)
         refine zk hp hr h [] Tryz.call56 (gI y3.1 ([108,101,116]:List UInt8)) O (fun _=>O) fun y22 h=>za O (zQ hK21 (zB O h (fun _ h=>?_) fun _ h=>?_))
         · refine zM h (fun (v24:L)=>[(0,.ptr 0 0),(1,Bo p0),(4,.ptr 104 0),(6,.ptr 106 0)]) (fun (v24:L)=>[(0,.box (Q v24)),(104,.box [I 0,I 0,F [],F [],F [],Sc (.slice none 0 0),Sc (.slice none 0 0),Sc (.slice none 0 0),Sc (.slice none 0 0),F [],I 0]),(106,.box [I 0,I 0,F [],F [],F [],Sc (.slice none 0 0),Sc (.slice none 0 0),Sc (.slice none 0 0),Sc (.slice none 0 0),F [],I y5.1])]) (fun v24 h=>?_) fun _ _ hK26 h=>?_
           · refine B fun _ hK27=>A (zm O (zn O (zf O (zl O (zd hr h fun hg28 h=>zo hg28 O (zn O (zf O (zs O (zQ hK27 (B fun _ hK29=>A (zm O (zk hp hr h [0] Tryz.call57 (fT n (L.mk v24.text v24.bo (v24.at_+1) v24.base v24.skip v24.pending)) O (fun _=>O) fun y30 h=>zf O (zs O (zf O (zs O (zQ hK29 (B fun _ hK31=>A (zm O (zk hp hr h [0] Tryz.call155 (cY n ([61]:List UInt8) y30.2) O (fun _=>O) fun y32 h=>?_)))))))))))))))))))
             refine zQ hK31 (A (zm O (zk hp hr h [0] Tryz.call33 (hT.aD true y32) O (fun _=>O) fun y33 h=>b4 [y33.1] aj.y ⟨O,O⟩ O ?_)))
             refine zf O (zs O (aX (gE 106 6 O O O) ?_))
             refine aX (gE 106 7 O O O) ?_
             refine aX (gE 106 8 O O O) ?_
             exact N (hK10 _ _ _ h O)
           · refine B fun _ hK34=>A (zm O (J (eS O) O (zQ hK34 (zB O h (fun _ h=>?_) fun _ h=>?_))))
             · exact A (zm O (zk hp hr h [0] Tryz.call35 (bF n y18.2) O (fun _=>O) fun y36 h=>N (hK26 _ _ _ h O)))
             · exact V (hK26 _ _ _ h O)
         · refine B fun _ hK37=>A (zA O ?_)
           refine zk hp hr h [] Tryz.call72 (cI y3.1 ([46,46,46]:List UInt8)) O (fun _=>O) fun y38 h=>za O (zQ hK37 (zB O h (fun _ h=>?_) fun _ h=>?_))
           · refine zM h (fun (v40:L)=>[(0,.ptr 0 0),(1,Bo p0),(4,.ptr 104 0),(6,.ptr 106 0)]) (fun (v40:L)=>[(0,.box (Q v40)),(104,.box [I 0,I 0,F [],F [],F [],Sc (.slice none 0 0),Sc (.slice none 0 0),Sc (.slice none 0 0),Sc (.slice none 0 0),F [],I 0]),(106,.box [I 0,I 0,F [],F [],F [],Sc (.slice none 0 0),Sc (.slice none 0 0),Sc (.slice none 0 0),Sc (.slice none 0 0),F [],I y5.1])]) (fun v40 h=>?_) fun _ _ hK42 h=>?_
             · refine B fun _ hK43=>A (zm O (zn O (zf O (zl O (zd hr h fun hg44 h=>zo hg44 O (zn O (zf O (zs O (zQ hK43 (A (zf O (zs O (aX (gE 106 5 O O O) ?_)))))))))))))
               refine aX (gE 106 6 O O O) ?_
               refine aX (gE 106 7 O O O) ?_
               refine aX (gE 106 8 O O O) ?_
               exact N (hK10 _ _ _ h O)
             · refine B fun _ hK45=>A (zm O (J (eS O) O (zQ hK45 (zB O h (fun _ h=>?_) fun _ h=>?_))))
               · exact A (zm O (zk hp hr h [0] Tryz.call35 (bF n y18.2) O (fun _=>O) fun y47 h=>N (hK42 _ _ _ h O)))
               · exact V (hK42 _ _ _ h O)
           · refine B fun _ hK48=>A (zA O ?_)
             refine zk hp hr h [] Tryz.call56 (gI y3.1 ([105,102]:List UInt8)) O (fun _=>O) fun y49 h=>za O (zQ hK48 (zB O h (fun _ h=>?_) fun _ h=>?_))
             · refine B fun _ hK51=>A (zm O (zn O (zf O (zl O (zd hr h fun hg52 h=>zo hg52 O (zn O (zf O (zs O (zQ hK51 (B fun _ hK53=>A (zf O (zs O (zQ hK53 (B fun _ hK54=>A (zm O (zk hp hr h [0] Tryz.call33 (hT.aD false (L.mk y18.2.text y18.2.bo (y18.2.at_+1) y18.2.base y18.2.skip y18.2.pending)) O (fun _=>O) fun y55 h=>b4 [y55.1] aj.y ⟨O,O⟩ O ?_))))))))))))))))
               refine zf O (zs O (zQ hK54 (A (zm O (zk hp hr h [0] Tryz.call156 (hT.ca false y55.2) O (fun _=>O) fun y56 h=>zm O (zx O (zx O (zf O (zs O (zf O (zs O (aX (gE 106 8 O O O) ?_))))))))))))
               exact N (hK10 _ _ _ h O)
             · refine B fun _ hK57=>A (zA O ?_)
               refine zk hp hr h [] Tryz.call56 (gI y3.1 ([102,111,114]:List UInt8)) O (fun _=>O) fun y58 h=>za O (zQ hK57 (zB O h (fun _ h=>?_) fun _ h=>?_))
               · refine B fun _ hK60=>A (zm O (zn O (zf O (zl O (zd hr h fun hg61 h=>zo hg61 O (zn O (zf O (zs O (zQ hK60 (B fun _ hK62=>A (zm O (zk hp hr h [0] Tryz.call157 (lJ n (L.mk y18.2.text y18.2.bo (y18.2.at_+1) y18.2.base y18.2.skip y18.2.pending)) O (fun _=>O) fun y63 h=>zf O (zs O (zf O (zs O (zQ hK62 (B fun _ hK64=>A (zm O (zk hp hr h [0] Tryz.call158 (gU n ([105,110]:List UInt8) y63.2) O (fun _=>O) fun y65 h=>?_)))))))))))))))))))
                 refine zQ hK64 (B fun _ hK66=>A (zm O (zk hp hr h [0] Tryz.call33 (hT.aD false y65) O (fun _=>O) fun y67 h=>b4 [y67.1] aj.y ⟨O,O⟩ O ?_)))
                 refine zf O (zs O (zQ hK66 (A (zm O (zk hp hr h [0] Tryz.call156 (hT.ca false y67.2) O (fun _=>O) fun y68 h=>zm O (zx O (zx O (zf O (zs O (zf O (zs O (aX (gE 106 8 O O O) ?_))))))))))))
                 exact N (hK10 _ _ _ h O)
               · refine B fun _ hK69=>A (zA O ?_)
                 refine zk hp hr h [] Tryz.call72 (cI y3.1 ([40]:List UInt8)) O (fun _=>O) fun y70 h=>za O (zQ hK69 (zB O h (fun _ h=>?_) fun _ h=>?_))
                 · refine A (zm O (zm O (aX (jt 106 O O) ?_)))
                   exact zk hp hr h [0,106] Tryz.call159 (hT.cE p0 y18.2 (o.mk 0 0 [] [] [] [] [] [] [] [] y5.1)) O (fun _=>O) fun y72 h=>N (hK10 _ _ _ h O)
                 · refine B fun _ hK73=>A (zf O (zs O (zQ hK73 (A (zm O (zm O (zk hp hr h [0] Tryz.call33 (hT.aD p0 y18.2) O (fun _=>O) fun y74 h=>b4 [y74.1] aj.y ⟨O,O⟩ O ?_)))))))
                   refine zf O (zs O (aX (gE 106 6 O O O) ?_))
                   refine aX (gE 106 7 O O O) ?_
                   refine aX (gE 106 8 O O O) ?_
                   exact N (hK10 _ _ _ h O)
   · refine A (zA O ?_)
     refine zk hp hr h [] Tryz.call150 (pj n y3.1) O (fun _=>O) fun y75 h=>zm O (zb y75 (fun hb76=>?_) fun hb76=>?_)
     · refine z1 hb76 h fun h=>zG hb76 O (iT O O O O) ?_
       exact zK hb76 O hp hr h [] Tryz.call151 (lk n y7.1 ([58,32,63,32,33]:List UInt8)) O (fun _=>O) fun y77 h=>zy hb76 O (za O (N (hK14 _ _ _ h O)))
     · exact z2 hb76 h fun h=>zg hb76 O (zg hb76 O (zw hb76 O (za O (N (hK14 _ _ _ h O)))))
theorem oa (n:Nat) (T:m) (hT:bb T) (p0:Bool) (p1:L):CT Tryz.prog 60 [.ptr 0 0,Sc (.slice none 0 0),Bo p0] [.box (Q p1)] (kI n T p0 p1) (fun x=>.fX [.pv (.sl (List.length x.1) (o.Cs x.1)),.pv (.sl (List.length x.2.1) (ch x.2.1))]) (fun x=>[.box (Q x.2.2)]):=by
 refine zC Tryz.func60 O fun r hp h hr E hE=>B fun _ hK1=>A (za O (za O (zQ hK1 (B fun _ hK2=>A (za O (zQ hK2 (B fun _ hK3=>A (za O (zQ hK3 (B fun _ hK4=>A (za O (zQ hK4 (B fun _ hK5=>z (b3 (sA (d:=1) 10001 (sz:=1) (el:=9) (hE _ O) O ⟨O,O,O⟩) ?_))))))))))))))
 refine b3 (AP (d:=8) 10008 (sz:=11) (el:=53) (hE _ O) O ⟨O,O,O⟩) ?_
 refine zL hr h (fun (v6:L×(List (List UInt8))×(List o)×Int×Bool)=>[(0,.ptr 0 0),(1,.arr 10001 (List.length v6.2.1)),(2,Bo p0),(8,.arr 10008 (List.length v6.2.2.1)),(9,I v6.2.2.2.1),(10,Bo v6.2.2.2.2)]) (fun (v6:L×(List (List UInt8))×(List o)×Int×Bool)=>[(0,.box (Q v6.1)),(10001,.app 9 1 (ch v6.2.1)),(10008,.arr 53 11 (o.Cs v6.2.2.1))]) O fun _ v6 _ hK8 h=>B fun _ hK9=>B fun _ hK10=>A (zm O (zk hp hr h [0] Tryz.call105 (mx n v6.1) O (fun _=>O) fun y11 h=>J (eS O) O (zQ hK10 (zB O h (fun _ h=>?_) fun _ h=>?_))))
 · refine V (hK9 _ _ (z (B fun _ hK13=>A (zm O (zk hp hr h [0] Tryz.call34 (aI n y11.2) O (fun _=>O) fun y14 h=>aK 111 (hE _ O) ⟨O,O,O,O⟩ O ?_)))))
   refine zs O (zQ hK13 (z (zM h (fun (v15:Bool)=>[(0,.ptr 0 0),(1,.arr 10001 (List.length v6.2.1)),(2,Bo p0),(8,.arr 10008 (List.length v6.2.2.1)),(9,I v6.2.2.2.1),(10,Bo v6.2.2.2.2),(11,.ptr 111 0),(31,Bo v15)]) (fun (v15:Bool)=>[(0,.box [F y14.2.text,.pv (.sl (List.length y14.2.bo) (au.Cs y14.2.bo)),I y14.2.at_,I y11.2.base,Bo y14.2.skip,.pv (.pt (Option.map aj.C y14.2.pending))]),(111,.box (fF y14.1)),(10001,.app 9 1 (ch v6.2.1)),(10008,.arr 53 11 (o.Cs v6.2.2.1))]) (fun v15 h=>?_) fun _ _ hK17 h=>?_)))
   · refine zB O h (fun _ h=>?_) fun _ h=>?_
     · exact B fun _ hK19=>A (za O (zQ hK19 (A (zm O (zn O (zf O (zl O (zd hr h fun hg20 h=>zo hg20 O (zn O (zf O (zs O (N (hK8 _ _ _ h O)))))))))))))
     · refine zM h (fun (v21:L×Bool)=>[(0,.ptr 0 0),(1,.arr 10001 (List.length v6.2.1)),(2,Bo p0),(8,.arr 10008 (List.length v6.2.2.1)),(9,I v6.2.2.2.1),(10,Bo v6.2.2.2.2),(11,.ptr 111 0),(46,Bo v21.2)]) (fun (v21:L×Bool)=>[(0,.box (Q v21.1)),(111,.box (fF y14.1)),(10001,.app 9 1 (ch v6.2.1)),(10008,.arr 53 11 (o.Cs v6.2.2.1))]) (fun v21 h=>?_) fun _ _ hK23 h=>?_
       · refine zB O h (fun _ h=>?_) fun _ h=>?_
         · refine B fun _ hK25=>A (zm O (zm O (J (mf O) O (zd hr h fun hg26 h=>J (qv O O hg26) O (zf O (zl O (ze hr h fun x27 h28 h29 h30 h=>J (me O O h28 h29) O (zf O (CC (⟨o.y,o.b7,h28,h30,O,O,O,O,O,lG.h,O,O,O⟩:vQ _ _ _ _ _ _ _ _ _ 9 _ _ _ _ _ _ (o.mk x27.Kind x27.cG x27.Label x27.bt x27.bz x27.bf x27.Body x27.cz x27.jy y14.1.Text x27.Pos) _ [.sc (S y14.1.Text)]) ?_)))))))))
           refine aX (CJ 8 (m':=List.length (List.set v6.2.2.1 ((List.length v6.2.2.1:Int) - 1).toNat (o.mk x27.Kind x27.cG x27.Label x27.bt x27.bz x27.bf x27.Body x27.cz x27.jy y14.1.Text x27.Pos))) O (by simp)) ?_
           exact zQ hK25 (A (zm O (zn O (zf O (zl O (zd hr h fun hg31 h=>zo hg31 O (zn O (zf O (zs O (N (hK8 _ _ _ h O)))))))))))
         · refine zM h (fun (v32:L×Bool)=>[(0,.ptr 0 0),(1,.arr 10001 (List.length v6.2.1)),(2,Bo p0),(8,.arr 10008 (List.length v6.2.2.1)),(9,I v6.2.2.2.1),(10,Bo v6.2.2.2.2),(11,.ptr 111 0),(74,Bo v32.2)]) (fun (v32:L×Bool)=>[(0,.box (Q v32.1)),(111,.box (fF y14.1)),(10001,.app 9 1 (ch v6.2.1)),(10008,.arr 53 11 (o.Cs v6.2.2.1))]) (fun v32 h=>?_) fun _ _ hK34 h=>?_
           · refine zB O h (fun _ h=>?_) fun _ h=>?_
             · refine B fun _ hK36=>A (zm O (zf O (zl O (b4 [y14.1.Text] fk ⟨O,O⟩ O ?_))))
               refine zd hr h fun hg37 h=>lQ 186 ⟨jV.h,eL.h,fk,hO,rq,hE _ O,O,O,(.inl O),⟨O,O,O⟩,hg37⟩ O ?_
               refine za O (aX (kz 186 10001 [(0,.ptr 0 0),(1,.arr 10001 (List.length (v6.2.1++[y14.1.Text]))),(2,Bo p0),(8,.arr 10008 (List.length v6.2.2.1)),(9,I v6.2.2.2.1),(10,Bo v6.2.2.2.2)] [(10008,.arr 53 11 (o.Cs v6.2.2.1)),(0,.box (Q v32.1))] (hE _ O) O O ⟨O,O⟩ ⟨⟨_,O,O,O⟩,⟨_,O,O,O⟩,⟨_,O,O,O⟩,⟨_,O,O,O⟩,⟨_,O,O,O⟩,⟨_,O,O,O⟩,trivial⟩ ⟨⟨_,O,O,O,O,O⟩,⟨_,O,O,O,O,O⟩,trivial⟩) ?_)
               exact zQ hK36 (A (zm O (zn O (zf O (zl O (zd hr h fun hg38 h=>zo hg38 O (zn O (zf O (zs O (N (hK8 _ _ _ h O)))))))))))
             · refine zM h (fun (v39:Bool)=>[(0,.ptr 0 0),(1,.arr 10001 (List.length v6.2.1)),(2,Bo p0),(8,.arr 10008 (List.length v6.2.2.1)),(9,I v6.2.2.2.1),(10,Bo v6.2.2.2.2),(94,Bo v39)]) (fun (v39:Bool)=>[(0,.box (Q v32.1)),(10001,.app 9 1 (ch v6.2.1)),(10008,.arr 53 11 (o.Cs v6.2.2.1))]) (fun v39 h=>?_) fun _ _ hK41 h=>?_
               · refine zB O h (fun _ h=>?_) fun _ h=>?_
                 · exact A (zm O (zk hp hr h [0] Tryz.call35 (bF n v32.1) O (fun _=>O) fun y43 h=>N (hK8 _ _ _ h O)))
                 · refine B fun _ hK44=>A (zm O (zm O (zk hp hr h [0] Tryz.call107 (hT.cl p0 v32.1) O (fun _=>O) fun y45 h=>aK 112 (hE _ O) ⟨O,O,O,O⟩ O ?_)))
                   refine zs O (zQ hK44 (B fun _ hK46=>A (J (lY fk hO O O O) O ?_)))
                   refine zf O (zs O (zQ hK46 (B fun _ hK47=>A (za O (zQ hK47 (B fun _ hK48=>A (zm O (zA O ?_))))))))
                   refine b4 [(o.mk y45.1.Kind y45.1.cG y45.1.Label y45.1.bt y45.1.bz y45.1.bf y45.1.Body y45.1.cz v6.2.1 y45.1.Trail y45.1.Pos)] o.y ⟨O,O⟩ O ?_
                   refine zd hr h fun hg49 h=>s3 126 ⟨jV.h,eL.h,o.y,o.b7,o.jh,hE _ O,O,O,(.inl O),⟨O,O,O⟩,hg49⟩ O ?_
                   refine za O (aX (jg 126 10008 [(0,.ptr 0 0),(1,Sc (.slice none 0 0)),(2,Bo p0),(8,.arr 10008 (List.length (v6.2.2.1++[(o.mk y45.1.Kind y45.1.cG y45.1.Label y45.1.bt y45.1.bz y45.1.bf y45.1.Body y45.1.cz v6.2.1 y45.1.Trail y45.1.Pos)])))] [(0,.box (Q y45.2))] (hE _ O) O O ⟨O,O⟩ ⟨⟨_,O,O,O⟩,⟨_,O,O,O⟩,⟨_,O,O,O⟩,⟨_,O,O,O⟩,trivial⟩ ⟨⟨_,O,O,O,O,O⟩,trivial⟩) ?_)
                   refine zQ hK48 (A (zm O (zn O (zf O (zl O (za O (za O (aX (sA (d:=1) 10001 (sz:=1) (el:=9) (hE _ O) O ⟨O,O,O⟩) ?_))))))))
                   exact N (hK8 _ _ _ h O)
               · refine A (zf O (zl O (zc O (zm O (zb (y14.1.Kind==6) (fun hb50=>?_) fun hb50=>?_)))))
                 · exact z1 hb50 h fun h=>zg hb50 O (zg hb50 O (zy hb50 O (za O (N (hK41 _ _ _ h O)))))
                 · exact z2 hb50 h fun h=>zG hb50 O (W O) (zG hb50 O (eS O) (zw hb50 O (za O (N (hK41 _ _ _ h O)))))
           · refine A (zf O (zl O (zc O (zm O (zb (y14.1.Kind==6) (fun hb51=>?_) fun hb51=>?_)))))
             · exact z1 hb51 h fun h=>zG hb51 O (W O) (zK hb51 O hp hr h [0] Tryz.call103 (iu n v21.1) O (fun _=>O) fun y52 h=>zy hb51 O (za O (N (hK34 _ _ _ h O))))
             · exact z2 hb51 h fun h=>zg hb51 O (zg hb51 O (zw hb51 O (za O (N (hK34 _ _ _ h O)))))
       · refine A (zf O (zl O (zc O (zm O (zb (y14.1.Kind==6) (fun hb53=>?_) fun hb53=>?_)))))
         · refine z1 hb53 h fun h=>zG hb53 O (W O) (zG hb53 O (bw O O O) (zy hb53 O (zm O (zb (decide (v6.2.2.2.1>0)) (fun hb54=>?_) fun hb54=>?_))))
           · exact z1 hb54 h fun h=>zG hb54 O (W O) (zG hb54 O (W O) (zK hb54 O hp hr h [0] Tryz.call106 (lp n v6.2.2.2.1 (L.mk y14.2.text y14.2.bo y14.2.at_ y11.2.base y14.2.skip y14.2.pending)) O (fun _=>O) fun y55 h=>zy hb54 O (za O (N (hK23 _ _ _ h O)))))
           · exact z2 hb54 h fun h=>zg hb54 O (zg hb54 O (zg hb54 O (zw hb54 O (za O (N (hK23 _ _ _ h O))))))
         · exact z2 hb53 h fun h=>zg hb53 O (zg hb53 O (zw hb53 O (zm O (zg O O (zg O O (zg O O (J (dI O O) O (za O (N (hK23 _ _ _ h O))))))))))
   · refine A (zf O (zl O (zc O (zm O (zb (y14.1.Kind==7) (fun hb56=>?_) fun hb56=>?_)))))
     · exact z1 hb56 h fun h=>zg hb56 O (zg hb56 O (zy hb56 O (za O (N (hK17 _ _ _ h O)))))
     · refine z2 hb56 h fun h=>zG hb56 O (iT O O O O) ?_
       exact zK hb56 O hp hr h [] Tryz.call72 (cI y14.1 ([44]:List UInt8)) O (fun _=>O) fun y57 h=>zw hb56 O (za O (N (hK17 _ _ _ h O)))
 · refine bB (hK5 _ _ (B fun _ hK58=>A (zm O (J (lY fk hO O O O) O ?_))))
   refine za O (za O (zQ hK58 (b3 (Cz (d:=6) o.y o.b7 O O O (hE _ O)) ?_)))
   exact H (zX (.cons (K O) (.cons (K O) .nil)) h O)
theorem oP (n:Nat) (T:m) (hT:bb T) (p0:Bool) (p1:L) (p2:o):CT Tryz.prog 159 [.ptr 0 0,.ptr 1 0,Bo p0] [.box (Q p1),.box (dE p2)] (eD n T p0 p1 p2) (fun _=>.fX []) (fun x=>[.box (Q x.1),.box (dE x.2)]):=by
 refine zC Tryz.func159 O fun r hp h hr E hE=>B fun _ hK1=>A (zm O (zm O (zk hp hr h [0] Tryz.call204 (hT.bM p0 p1) O (fun _=>O) fun y2 h=>aK 106 (hE _ O) ⟨O,O,O,O⟩ O ?_)))
 refine zs O (zQ hK1 (B fun _ hK3=>B fun _ hK4=>A (zm O (zk hp hr h [0] Tryz.call34 (aI n y2.2) O (fun _=>O) fun y5 h=>zk hp hr h [] Tryz.call72 (cI y5.1 ([58]:List UInt8)) O (fun _=>O) fun y6 h=>zQ hK4 (zB O h (fun _ h=>?_) fun _ h=>?_)))))
 · refine B fun _ hK8=>bL [0,1,2,3,4,5] O (by kernel_rfl) (zD O (W O) O (zD O (iT O O O O) O ?_))
   refine zD O (W O) O (dL O (bX O) hr h [0] Tryz.call75 (cj n (L.mk y5.2.text y5.2.bo y5.2.at_ y2.2.base y5.2.skip y5.2.pending)) ⟨O,O,O,O,O,O,trivial⟩ O O (fun _=>⟨O,O,O⟩) (fun _=>⟨O,O⟩) hp (fun y9 h=>⟨cP ⟨trivial,⟨⟨⟨_,O,M.le_refl _⟩,trivial⟩,⟨trivial,trivial⟩⟩⟩,?_⟩))
   refine dL O (bX O) hr h [0] Tryz.call74 (gj n y2.1 y9.1 y9.2) ⟨O,O,O,O,O,O,trivial⟩ O O (fun _=>⟨O,O,O⟩) (fun _=>⟨O,O⟩) hp (fun y10 h=>⟨aL O,?_⟩)
   refine cf O ⟨O,O,O,O,O,O,O,O⟩ O (fun e5 he=>⟨aL O,?_⟩)
   subst he
   refine cX (hK8 _ _ (B fun _ hK11=>A (zm O (zn O (zf O (zl O (zd hr h fun hg12 h=>zo hg12 O (zn O (zf O (zs O (zQ hK11 (B fun _ hK13=>bL [0,1,2,3,4,5,6,7,8,9,10,11] O (by kernel_rfl) (zD O (W O) O (zD O (W O) O (zD O (iT O O O O) O ?_)))))))))))))))
   refine zD O (W O) O (dL O (bX O) hr h [0] Tryz.call33 (hT.aD false (L.mk y10.2.text y10.2.bo (y10.2.at_+1) y10.2.base y10.2.skip y10.2.pending)) ⟨O,O,O,O,O,O,trivial⟩ O O (fun _=>⟨O,O,O⟩) (fun _=>⟨O,O⟩) hp (fun y14 h=>⟨cP ⟨trivial,⟨⟨⟨_,O,M.le_refl _⟩,trivial⟩,⟨trivial,⟨trivial,trivial⟩⟩⟩⟩,?_⟩))
   refine ig [y10.1,y14.1] aj.y O (bX O) ⟨O,O⟩ ⟨O,O⟩ ?_
   refine zD O (da O) O (zD O (bR O) O (cf O ⟨O,O,O,O,O,O,O,O⟩ O (fun e8 he=>⟨aL O,?_⟩)))
   subst he
   refine zD O (da O) O (zD O (bR O) O (cf O ⟨O,O,O,O,O,O,O,O⟩ O (fun e11 he=>⟨aL O,?_⟩)))
   subst he
   exact cX (hK13 _ _ (H (zX .nil h O)))
 · refine V (hK3 _ _ (B fun _ hK15=>A (zm O (zn O (zf O (aX (FN (d:=6) (ps:=aj.C y2.1) O O (hE _ O)) ?_))))))
   refine zs O (zQ hK15 (A (zm O (zm O (zm O (zm O (zk hp hr h [0] Tryz.call33 (hT.aD p0 (L.mk y5.2.text y5.2.bo y5.2.at_ y2.2.base y5.2.skip (some y2.1))) O (fun _=>O) fun y16 h=>b4 [y16.1] aj.y ⟨O,O⟩ O ?_)))))))
   exact zn O (zf O (zs O (zn O (zf O (zs O (N (zY .nil h O)))))))
theorem qK (n:Nat) (T:m) (hT:bb T) (p0:Bool) (p1:L):CT Tryz.prog 33 [.ptr 0 0,Bo p0] [.box (Q p1)] (cB n T p0 p1) (fun x=>.agg (be x.1)) (fun x=>[.box (Q x.2)]):=by
 refine zC Tryz.func33 O fun r hp h hr E hE=>B fun _ hK1=>A (aK 104 (hE _ O) ⟨O,O,O,O⟩ O ?_)
 refine zQ hK1 (zM h (fun (v2:L×Bool)=>[(0,.ptr 0 0),(1,Bo p0),(4,.ptr 104 0),(5,Bo v2.2)]) (fun (v2:L×Bool)=>[(0,.box (Q v2.1)),(104,.box [I 0,F [],I 0,F [],F [],Sc (.slice none 0 0),Sc (.slice none 0 0),Sc (.slice none 0 0),I 0])]) (fun v2 h=>?_) fun _ _ hK4 h=>?_)
 · refine zM h (fun (v5:L×aj)=>[(0,.ptr 0 0),(1,Bo p0),(4,.ptr 104 0),(5,Bo v2.2),(6,.ptr 106 0)]) (fun (v5:L×aj)=>[(0,.box (Q v5.1)),(104,.box [I 0,F [],I 0,F [],F [],Sc (.slice none 0 0),Sc (.slice none 0 0),Sc (.slice none 0 0),I 0]),(106,.box (be v5.2))]) (fun v5 h=>?_) fun _ _ hK7 h=>?_
   · refine zM h (fun (v8:L)=>[(0,.ptr 0 0),(1,Bo p0),(4,.ptr 104 0),(6,.ptr 106 0)]) (fun (v8:L)=>[(0,.box (Q v8)),(104,.box [I 0,F [],I 0,F [],F [],Sc (.slice none 0 0),Sc (.slice none 0 0),Sc (.slice none 0 0),I 0]),(106,.box (be v5.2))]) (fun v8 h=>?_) fun _ _ hK10 h=>?_
     · refine zM h (fun (v11:L)=>[(0,.ptr 0 0),(1,Bo p0),(4,.ptr 104 0),(6,.ptr 106 0)]) (fun (v11:L)=>[(0,.box (Q v11)),(104,.box [I 0,F [],I 0,F [],F [],Sc (.slice none 0 0),Sc (.slice none 0 0),Sc (.slice none 0 0),I 0]),(106,.box (be v5.2))]) (fun v11 h=>?_) fun _ _ hK13 h=>?_
       · refine B fun _ hK14=>mi [] ?_
         refine bL [0,1,2,3,4,5,6] O (by kernel_rfl) (zD O (W O) O (zD O (iT O O O O) O ?_))
         refine zD O (W O) O (dL O (bX O) hr h [0] Tryz.call75 (cj n v11) ⟨O,O,O,O,O,O,trivial⟩ O O (fun _=>⟨O,O,O⟩) (fun _=>⟨O,O⟩) hp (fun y15 h=>⟨cP ⟨trivial,⟨⟨⟨_,O,M.le_refl _⟩,trivial⟩,⟨trivial,trivial⟩⟩⟩,?_⟩))
         refine dL O (bX O) hr h [0] Tryz.call74 (gj n v5.2 y15.1 y15.2) ⟨O,O,O,O,O,O,trivial⟩ O O (fun _=>⟨O,O,O⟩) (fun _=>⟨O,O⟩) hp (fun y16 h=>⟨aL O,?_⟩)
         refine FT [y16.1] aj.y aj.b7 O (bX O) 145 (hE _ O) ⟨O,O,O,O⟩ ⟨O,O,O,O⟩ ⟨O,O,O,O⟩ ?_
         refine sC O O O (aL O) O ?_
         refine gi (kz 145 10007 [(0,.ptr 0 0),(1,Bo p0),(4,.ptr 104 0),(7,.arr 10007 (List.length [y16.1]))] [(0,.box (Q y16.2)),(104,.box [I 0,F [],I 0,F [],F [],Sc (.slice none 0 0),Sc (.slice none 0 0),Sc (.slice none 0 0),I 0])] (hE _ O) O O ⟨O,O⟩ ⟨⟨_,O,O,O⟩,⟨_,O,O,O⟩,⟨_,O,O,O⟩,⟨_,O,O,O⟩,trivial⟩ ⟨⟨_,O,O,O,O,O⟩,⟨_,O,O,O,O,O⟩,trivial⟩) ?_
         refine hK14 _ _ (B fun _ hK17=>z (zL hr h (fun (v18:L×(List aj))=>[(0,.ptr 0 0),(1,Bo p0),(4,.ptr 104 0),(7,.arr 10007 (List.length v18.2))]) (fun (v18:L×(List aj))=>[(0,.box (Q v18.1)),(104,.box [I 0,F [],I 0,F [],F [],Sc (.slice none 0 0),Sc (.slice none 0 0),Sc (.slice none 0 0),I 0]),(10007,.app 38 9 (aj.Cs v18.2))]) O fun _ v18 _ hK20 h=>B fun _ hK21=>B fun _ hK22=>A (zm O (zk hp hr h [0] Tryz.call76 (df n ([124]:List UInt8) v18.1) O (fun _=>O) fun y23 h=>zQ hK22 (zB O h (fun _ h=>?_) fun _ h=>?_)))))
         · refine V (hK21 _ _ (z (A (zm O (zm O (zk hp hr h [0] Tryz.call73 (hT.aV false y23.2) O (fun _=>O) fun y25 h=>b4 [y25.1] aj.y ⟨O,O⟩ O ?_))))))
           refine zd hr h fun hg26 h=>lQ 152 ⟨jV.h,eL.h,aj.y,aj.b7,aj.jh,hE _ O,O,O,(.inl O),⟨O,O,O⟩,hg26⟩ O ?_
           refine za O (aX (kz 152 10007 [(0,.ptr 0 0),(1,Bo p0),(4,.ptr 104 0),(7,.arr 10007 (List.length (v18.2++[y25.1])))] [(0,.box (Q y25.2)),(104,.box [I 0,F [],I 0,F [],F [],Sc (.slice none 0 0),Sc (.slice none 0 0),Sc (.slice none 0 0),I 0])] (hE _ O) O O ⟨O,O⟩ ⟨⟨_,O,O,O⟩,⟨_,O,O,O⟩,⟨_,O,O,O⟩,⟨_,O,O,O⟩,trivial⟩ ⟨⟨_,O,O,O,O,O⟩,⟨_,O,O,O,O,O⟩,trivial⟩) ?_)
           exact N (hK20 _ _ _ h O)
         · refine bB (hK17 _ _ (B fun _ hK27=>A (J (lY aj.y aj.b7 O O O) O ?_)))
           refine J (lY aj.y aj.b7 O O O) O ?_
           refine ze hr h fun x28 h29 h30 h31 h=>J (ia aj.y aj.b7 h29 h30 h31 O O O) O (J (kZ O O) O (J (gx O O) O (J (dC O O) O ?_)))
           refine zs O (zQ hK27 (b3 (jt 104 O O) ?_))
           exact H (zX (.cons (aZ O O O) .nil) h O)
       · refine B fun _ hK32=>A (zm O (zk hp hr h [0] Tryz.call34 (aI n v8) O (fun _=>O) fun y33 h=>zk hp hr h [] Tryz.call72 (cI y33.1 ([124]:List UInt8)) O (fun _=>O) fun y34 h=>J (eS O) O (zQ hK32 (zB O h (fun _ h=>?_) fun _ h=>?_))))
         · exact A (zm O (zk hp hr h [0] Tryz.call35 (bF n (L.mk y33.2.text y33.2.bo y33.2.at_ v8.base y33.2.skip y33.2.pending)) O (fun _=>O) fun y36 h=>N (hK13 _ _ _ h O)))
         · exact V (hK13 _ _ _ h O)
     · refine B fun _ hK37=>A (zm O (J (eS O) O (zm O (zb (!v2.2) (fun hb38=>?_) fun hb38=>?_))))
       · refine z1 hb38 h fun h=>zG hb38 O (W O) (zK hb38 O hp hr h [0] Tryz.call34 (aI n v5.1) O (fun _=>O) fun y39 h=>zK hb38 O hp hr h [] Tryz.call72 (cI y39.1 ([124]:List UInt8)) O (fun _=>O) fun y40 h=>zG hb38 O (eS O) (zy hb38 O (zQ hK37 (zB O h (fun _ h=>?_) fun _ h=>?_))))
         · refine B fun _ hK42=>A (zA O ?_)
           exact zs O (zQ hK42 (H (zX (.cons (aZ O O O) .nil) h O)))
         · exact V (hK10 _ _ _ h O)
       · refine z2 hb38 h fun h=>zg hb38 O (zg hb38 O (zg hb38 O (zg hb38 O (zw hb38 O (zQ hK37 (dm O (fun hc=>?_) (fun hc=>?_)))))))
         · exact absurd (hc) (by simp)
         · exact V (hK10 _ _ _ h O)
   · refine A (zm O (zm O (zm O (zb p0 (fun hb43=>?_) fun hb43=>?_))))
     · refine z1 hb43 h fun h=>zG hb43 O (W O) (zG hb43 O (eS O) (zy hb43 O (zk hp hr h [0] Tryz.call73 (hT.aV (!v2.2) v2.1) O (fun _=>O) fun y44 h=>aK 106 (hE _ O) ⟨O,O,O,O⟩ O ?_)))
       exact zs O (N (hK7 _ _ _ h O))
     · refine z2 hb43 h fun h=>zg hb43 O (zg hb43 O (zw hb43 O (zk hp hr h [0] Tryz.call73 (hT.aV false v2.1) O (fun _=>O) fun y45 h=>aK 106 (hE _ O) ⟨O,O,O,O⟩ O ?_)))
       exact zs O (N (hK7 _ _ _ h O))
 · refine A (zm O (zn O (zf O (zl O (J (B9 O O) O (zm O (zb (Option.isNone (Option.map aj.C p1.pending)) (fun hb46=>?_) fun hb46=>?_)))))))
   · exact z1 hb46 h fun h=>zG hb46 O (W O) (zK hb46 O hp hr h [0] Tryz.call34 (aI n p1) O (fun _=>O) fun y47 h=>zK hb46 O hp hr h [] Tryz.call72 (cI y47.1 ([42]:List UInt8)) O (fun _=>O) fun y48 h=>zy hb46 O (za O (N (hK4 _ _ _ h O))))
   · exact z2 hb46 h fun h=>zg hb46 O (zg hb46 O (zg hb46 O (zw hb46 O (za O (N (hK4 _ _ _ h O))))))
theorem p9 (n:Nat) (T:m) (hT:bb T) (p0:Bool) (p1:L) (p2:o):CT Tryz.prog 152 [.ptr 0 0,.ptr 1 0,Bo p0] [.box (Q p1),.box (dE p2)] (fa n T p0 p1 p2) (fun _=>.fX []) (fun x=>[.box (Q x.1),.box (dE x.2)]):=by
 refine zC Tryz.func152 O fun r hp h hr E hE=>B fun _ hK1=>A (zm O (zm O (zm O (zm O (zk hp hr h [0] Tryz.call34 (aI n p1) O (fun _=>O) fun y2 h=>J (kj O O) O ?_)))))
 refine zn O (zf O (zs O (zn O (zf O (zs O (zn O (zf O (zs O (zQ hK1 (B fun _ hK3=>A (zm O (zn O (zf O (zl O (zd hr h fun hg4 h=>zo hg4 O (zn O (zf O (zs O (zQ hK3 (zM h (fun (v5:L×o)=>[(0,.ptr 0 0),(1,.ptr 1 0),(2,Bo p0)]) (fun (v5:L×o)=>[(0,.box (Q v5.1)),(1,.box (dE v5.2))]) (fun v5 h=>?_) fun _ _ hK7 h=>?_))))))))))))))))))))
 · refine B fun _ hK8=>A (zm O (zk hp hr h [0] Tryz.call155 (cY n ([58]:List UInt8) v5.1) O (fun _=>O) fun y9 h=>zQ hK8 (A (zm O (zm O (zm O (zk hp hr h [0] Tryz.call33 (hT.aD p0 y9) O (fun _=>O) fun y10 h=>b4 [y10.1] aj.y ⟨O,O⟩ O ?_)))))))
   exact zn O (zf O (zs O (N (zY .nil h O))))
 · refine z (B fun _ hK11=>A (zm O (zk hp hr h [0] Tryz.call76 (df n ([63]:List UInt8) (L.mk y2.2.text y2.2.bo (y2.2.at_+1) p1.base y2.2.skip y2.2.pending)) O (fun _=>O) fun y12 h=>za O (zQ hK11 (zB O h (fun _ h=>?_) fun _ h=>?_)))))
   · exact A (zm O (zn O (zf O (zs O (N (hK7 _ _ _ h O))))))
   · refine B fun _ hK14=>A (zm O (zk hp hr h [0] Tryz.call76 (df n ([33]:List UInt8) y12.2) O (fun _=>O) fun y15 h=>za O (zQ hK14 (zB O h (fun _ h=>?_) fun _ h=>?_))))
     · exact A (zm O (zn O (zf O (zs O (N (hK7 _ _ _ h O))))))
     · exact V (hK7 _ _ _ h O)
theorem pz (n:Nat) (T:m) (hT:bb T) (p0:au) (p1:Int) (p2:L):CT Tryz.prog 277 [.ptr 0 0,.agg (fF p0),I p1] [.box (Q p2)] (eP n T p0 p1 p2) (fun x=>.agg (be x.1)) (fun x=>[.box (Q x.2)]):=by
 refine zC Tryz.func277 O fun r hp h hr E hE=>B fun _ hK1=>A (eg 104 (hE _ O) ⟨O,O,O,O,O,O,O⟩ O ?_)
 refine aK 106 (hE _ O) ⟨O,O,O,O⟩ O ?_
 refine zQ hK1 (B fun _ hK2=>A (zf O (zl O (zk hp hr h [] Tryz.call144 (rD n p0.Text) O (fun _=>O) fun y3 h=>zm O (zx O (zx O (aK 108 (hE _ O) ⟨O,O,O,O⟩ O ?_)))))))
 refine za O (zs O (zQ hK2 (B fun _ hK4=>A (zm O (J (dC O O) O ?_)))))
 refine aK 109 (hE _ O) ⟨O,O,O,O⟩ O ?_
 refine zs O (zQ hK4 (B fun _ hK5=>B fun _ hK6=>A (zm O (J (cJ O) O (zm O (zQ hK6 (z (b3 (rn (j:=109) (off:=5) 26981 (sz:=9) (el:=38) (hE _ O) O O ⟨O,O,O⟩ O O) ?_))))))))
 refine zL hr h (fun (v7:L×aj×Int)=>[(0,.ptr 0 0),(1,.agg (fF p0)),(2,I p1),(6,.ptr 106 0),(9,.ptr 109 0),(23,.pv (.sl (List.length y3.1) (aS.Cs y3.1))),(24,I (List.length y3.1:Int)),(25,I v7.2.2)]) (fun (v7:L×aj×Int)=>[(0,.box (Q v7.1)),(106,.box [I 0,F [],I 0,F [],F [],Sc (.slice none 0 0),Sc (.slice none 0 0),Sc (.slice none 0 0),I 0]),(109,.box [I v7.2.1.Kind,F v7.2.1.Text,I v7.2.1.jv,F v7.2.1.bt,F v7.2.1.bz,.arr 26981 (List.length v7.2.1.bf),Sc (.slice none 0 0),Sc (.slice none 0 0),I v7.2.1.Pos]),(26981,.arr 38 9 (aj.Cs v7.2.1.bf))]) O fun _ v7 _ hK9 h=>B fun _ hK10=>A (zc O (zQ hK10 (B fun _ hK11=>zB O h (fun _ h=>?_) fun _ h=>?_)))
 · refine V (hK11 _ _ (B fun _ hK13=>z (B fun _ hK14=>A (ze hr h fun xx h16 h17 h18 h=>J (ia aS.y aS.b7 h16 h17 h18 O O O) O (J (iw O O) O ?_)))))
   refine aK 111 (hE _ O) ⟨O,O,O,O⟩ O ?_
   refine zs O (zQ hK14 (B fun _ hK19=>A (zm O (zd hr h fun hg20 h=>zo hg20 O (zf O (zl O (zd hr h fun hg21 h=>zo hg21 O (za O (zQ hK19 (B fun _ hK22=>B fun _ hK23=>A (zf O (zl O (J (eS O) O (zQ hK23 (zB O h (fun _ h=>?_) fun _ h=>?_)))))))))))))))
   · refine B fun _ hK25=>A (zf O (zl O (zf O (zl O (zm O (J (bQ O O O) O ?_))))))
     refine b4 [(aj.mk 4 xx.Text 0 [] [] [] [] [] ((p1+1)+xx.Pos))] aj.y ⟨O,O⟩ O ?_
     refine zd hr h fun hg26 h=>s3 144 ⟨jV.h,eL.h,aj.y,aj.b7,aj.jh,hE _ O,O,O,(.inl O),⟨O,O,O⟩,hg26⟩ O ?_
     refine zf O (zs O (aX (jg 144 26981 [(0,.ptr 0 0),(1,.agg (fF p0)),(2,I p1),(6,.ptr 106 0),(9,.ptr 109 0),(11,.ptr 111 0),(12,I ((p1+1)+xx.Pos)),(23,.pv (.sl (List.length y3.1) (aS.Cs y3.1))),(24,I (List.length y3.1:Int)),(25,I v7.2.2)] [(0,.box (Q v7.1)),(106,.box [I 0,F [],I 0,F [],F [],Sc (.slice none 0 0),Sc (.slice none 0 0),Sc (.slice none 0 0),I 0]),(109,.box [I v7.2.1.Kind,F v7.2.1.Text,I v7.2.1.jv,F v7.2.1.bt,F v7.2.1.bz,.arr 26981 (List.length (v7.2.1.bf++[(aj.mk 4 xx.Text 0 [] [] [] [] [] ((p1+1)+xx.Pos))])),Sc (.slice none 0 0),Sc (.slice none 0 0),I v7.2.1.Pos]),(111,.box [F xx.Text,Bo xx.Code,I xx.Pos])] (hE _ O) O O ⟨O,O⟩ ⟨⟨_,O,O,O⟩,⟨_,O,O,O⟩,⟨_,O,O,O⟩,⟨_,O,O,O⟩,⟨_,O,O,O⟩,⟨_,O,O,O⟩,⟨_,O,O,O⟩,⟨_,O,O,O⟩,⟨_,O,O,O⟩,⟨_,O,O,O⟩,trivial⟩ ⟨⟨_,O,O,O,O,O⟩,⟨_,O,O,O,O,O⟩,⟨_,O,O,O,O,O⟩,⟨_,O,O,O,O,O⟩,trivial⟩) ?_))
     exact zQ hK25 (bB (hK13 _ _ (A (zd hr h fun hg27 h=>zo hg27 O (zm O (N (hK9 _ _ _ h O)))))))
   · refine V (hK22 _ _ (B fun _ hK28=>A (zf O (zl O (zm O (zk hp hr h [] Tryz.call298 (hT.fV xx.Text ((p1+1)+xx.Pos)) O (fun _=>O) fun y29 h=>zm O (zx O (zx O (aK 113 (hE _ O) ⟨O,O,O,O⟩ O ?_)))))))))
     refine zs O (za O (zQ hK28 (B fun _ hK30=>B fun _ hK31=>A (zm O (J (eS O) O (zQ hK31 (zB O h (fun _ h=>?_) fun _ h=>?_)))))))
     · refine A (zm O (zm O (zk hp hr h [0] Tryz.call77 (iH p1 v7.1) O (fun _=>O) fun y33 h=>zQ hK30 (A (zf O (zl O (zA O ?_)))))))
       refine b4 [y29.1] aj.y ⟨O,O⟩ O ?_
       refine zd hr h fun hg34 h=>s3 162 ⟨jV.h,eL.h,aj.y,aj.b7,aj.jh,hE _ O,O,O,(.inl O),⟨O,O,O⟩,hg34⟩ O ?_
       refine zf O (zs O (aX (jg 162 26981 [(0,.ptr 0 0),(1,.agg (fF p0)),(2,I p1),(6,.ptr 106 0),(9,.ptr 109 0),(23,.pv (.sl (List.length y3.1) (aS.Cs y3.1))),(24,I (List.length y3.1:Int)),(25,I v7.2.2)] [(0,.box (Q y33)),(106,.box [I 0,F [],I 0,F [],F [],Sc (.slice none 0 0),Sc (.slice none 0 0),Sc (.slice none 0 0),I 0]),(109,.box [I v7.2.1.Kind,F v7.2.1.Text,I v7.2.1.jv,F v7.2.1.bt,F v7.2.1.bz,.arr 26981 (List.length (v7.2.1.bf++[y29.1])),Sc (.slice none 0 0),Sc (.slice none 0 0),I v7.2.1.Pos])] (hE _ O) O O ⟨O,O⟩ ⟨⟨_,O,O,O⟩,⟨_,O,O,O⟩,⟨_,O,O,O⟩,⟨_,O,O,O⟩,⟨_,O,O,O⟩,⟨_,O,O,O⟩,⟨_,O,O,O⟩,⟨_,O,O,O⟩,trivial⟩ ⟨⟨_,O,O,O,O,O⟩,⟨_,O,O,O,O,O⟩,⟨_,O,O,O,O,O⟩,trivial⟩) ?_))
       exact zQ hK13 (A (zd hr h fun hg35 h=>zo hg35 O (zm O (N (hK9 _ _ _ h O)))))
     · refine V (hK30 _ _ (A (zf O (zl O (zA O ?_)))))
       refine b4 [y29.1] aj.y ⟨O,O⟩ O ?_
       refine zd hr h fun hg36 h=>s3 162 ⟨jV.h,eL.h,aj.y,aj.b7,aj.jh,hE _ O,O,O,(.inl O),⟨O,O,O⟩,hg36⟩ O ?_
       refine zf O (zs O (aX (jg 162 26981 [(0,.ptr 0 0),(1,.agg (fF p0)),(2,I p1),(6,.ptr 106 0),(9,.ptr 109 0),(23,.pv (.sl (List.length y3.1) (aS.Cs y3.1))),(24,I (List.length y3.1:Int)),(25,I v7.2.2)] [(0,.box (Q v7.1)),(106,.box [I 0,F [],I 0,F [],F [],Sc (.slice none 0 0),Sc (.slice none 0 0),Sc (.slice none 0 0),I 0]),(109,.box [I v7.2.1.Kind,F v7.2.1.Text,I v7.2.1.jv,F v7.2.1.bt,F v7.2.1.bz,.arr 26981 (List.length (v7.2.1.bf++[y29.1])),Sc (.slice none 0 0),Sc (.slice none 0 0),I v7.2.1.Pos])] (hE _ O) O O ⟨O,O⟩ ⟨⟨_,O,O,O⟩,⟨_,O,O,O⟩,⟨_,O,O,O⟩,⟨_,O,O,O⟩,⟨_,O,O,O⟩,⟨_,O,O,O⟩,⟨_,O,O,O⟩,⟨_,O,O,O⟩,trivial⟩ ⟨⟨_,O,O,O,O,O⟩,⟨_,O,O,O,O,O⟩,⟨_,O,O,O,O,O⟩,trivial⟩) ?_))
       exact zQ hK13 (A (zd hr h fun hg37 h=>zo hg37 O (zm O (N (hK9 _ _ _ h O)))))
 · refine bB (hK5 _ _ (B fun _ hK38=>A (aX (pO (j:=109) (off:=5) aj.y aj.b7 O O O O (hE _ O) O) ?_)))
   refine zA O ?_
   refine zs O (zQ hK38 (b3 (jt 106 O O) ?_))
   exact H (zX (.cons (aZ O O O) .nil) h O)
theorem qL (n:Nat) (T:m) (hT:bb T) (p0:L):CT Tryz.prog 300 [.ptr 0 0] [.box (Q p0)] (fy n T p0) (fun x=>.agg (be x.1)) (fun x=>[.box (Q x.2)]):=by
 refine zC Tryz.func300 O fun r hp h hr E hE=>B fun _ hK1=>A (aK 102 (hE _ O) ⟨O,O,O,O⟩ O ?_)
 refine zQ hK1 (B fun _ hK2=>A (zm O (zk hp hr h [0] Tryz.call75 (cj n p0) O (fun _=>O) fun y3 h=>za O (zQ hK2 (B fun _ hK4=>B fun _ hK5=>A (zm O (zk hp hr h [0] Tryz.call34 (aI n y3.2) O (fun _=>O) fun y6 h=>zk hp hr h [] Tryz.call56 (gI y6.1 ([102,111,114]:List UInt8)) O (fun _=>O) fun y7 h=>J (eS O) O (zQ hK5 (zB O h (fun _ h=>?_) fun _ h=>?_)))))))))
 · exact B fun _ hK9=>A (zm O (zk hp hr h [0] Tryz.call33 (hT.aD false (L.mk y6.2.text y6.2.bo y6.2.at_ y3.2.base y6.2.skip y6.2.pending)) O (fun _=>O) fun y10 h=>zs O (zQ hK9 (H (zX (.cons (aZ O O O) .nil) h O)))))
 · refine V (hK4 _ _ (B fun _ hK11=>A (zm O (zk hp hr h [0] Tryz.call158 (gU n ([102,111,114]:List UInt8) (L.mk y6.2.text y6.2.bo y6.2.at_ y3.2.base y6.2.skip y6.2.pending)) O (fun _=>O) fun y12 h=>zQ hK11 (B fun _ hK13=>A (zm O (zk hp hr h [0] Tryz.call157 (lJ n y12) O (fun _=>O) fun y14 h=>zm O (J (dC O O) O ?_))))))))
   refine aK 104 (hE _ O) ⟨O,O,O,O⟩ O ?_
   refine zs O (zQ hK13 (B fun _ hK15=>A (zm O (zk hp hr h [0] Tryz.call158 (gU n ([105,110]:List UInt8) y14.2) O (fun _=>O) fun y16 h=>zQ hK15 (B fun _ hK17=>b3 (rn (j:=104) (off:=5) 26661 (sz:=9) (el:=38) (hE _ O) O O ⟨O,O,O⟩ O O) ?_)))))
   refine mi [] ?_
   refine bL [0,1,2,3,4,5,6,7] O (by kernel_rfl) (zD O (bR O) O (zD O (fj [.any,.any,.any,.any,.any,.arr 26661 (List.length ([]:List aj)),.any,.any,.any] O O ⟨.inr O,.inr O,.inr O,.inr O,.inr O,.inl O,.inr O,.inr O,.inr O,trivial⟩ O) O (zD O (W O) O (dL O (bX O) hr h [0] Tryz.call33 (hT.aD false y16) ⟨O,O,O,O,O,O,trivial⟩ O O (fun _=>⟨O,O,O⟩) (fun _=>⟨O,O⟩) hp (fun y18 h=>⟨cP ⟨trivial,⟨⟨⟨_,O,M.ff ⟨.inr O,.inr O,.inr O,.inr O,.inr O,.inl O,.inr O,.inr O,.inr O,trivial⟩⟩,trivial⟩,⟨trivial,trivial⟩⟩⟩,?_⟩)))))
   refine ig [y18.1] aj.y O (bX O) ⟨O,O⟩ ⟨O,O⟩ ?_
   refine zd hr h fun hg19 h=>nq 126 O (bX O) ⟨jV.h,eL.h,aj.y,aj.b7,aj.jh,hE _ O,O,O,(.inl O),⟨O,O,O⟩,hg19⟩ O O ⟨aL O,?_⟩
   refine zD O (bR O) O (cf O ⟨O,O,O,O,O,O,O,O⟩ O (fun e7 he=>⟨aL O,?_⟩))
   subst he
   refine gi (jg 126 26661 [(0,.ptr 0 0),(2,.ptr 102 0),(4,.ptr 104 0)] [(0,.box (Q y18.2)),(102,.box [I 0,F [],I 0,F [],F [],Sc (.slice none 0 0),Sc (.slice none 0 0),Sc (.slice none 0 0),I 0]),(104,.box [I 15,F [],I 0,F y14.1.x0,F y14.1.x1,.arr 26661 (List.length ([]++[y18.1])),Sc (.slice none 0 0),Sc (.slice none 0 0),I y3.1])] (hE _ O) O O ⟨O,O⟩ ⟨⟨_,O,O,O⟩,⟨_,O,O,O⟩,⟨_,O,O,O⟩,trivial⟩ ⟨⟨_,O,O,O,O,O⟩,⟨_,O,O,O,O,O⟩,⟨_,O,O,O,O,O⟩,trivial⟩) ?_
   refine hK17 _ _ (zM h (fun (v20:L×aj)=>[(0,.ptr 0 0),(2,.ptr 102 0),(4,.ptr 104 0)]) (fun (v20:L×aj)=>[(0,.box (Q v20.1)),(102,.box [I 0,F [],I 0,F [],F [],Sc (.slice none 0 0),Sc (.slice none 0 0),Sc (.slice none 0 0),I 0]),(104,.box [I v20.2.Kind,F v20.2.Text,I v20.2.jv,F v20.2.bt,F v20.2.bz,.arr 26661 (List.length v20.2.bf),Sc (.slice none 0 0),Sc (.slice none 0 0),I v20.2.Pos]),(26661,.arr 38 9 (aj.Cs v20.2.bf))]) (fun v20 h=>?_) fun _ _ hK22 h=>?_)
   · refine B fun _ hK23=>A (zm O (zk hp hr h [0] Tryz.call155 (cY n ([58]:List UInt8) v20.1) O (fun _=>O) fun y24 h=>zQ hK23 (B fun _ hK25=>mi [] ?_)))
     refine bL [0,1,2,3,4,5,6,7] O (by kernel_rfl) (zD O (bR O) O (zD O (fj [.any,.any,.any,.any,.any,.arr 26661 (List.length v20.2.bf),.any,.any,.any] O O ⟨.inr O,.inr O,.inr O,.inr O,.inr O,.inl O,.inr O,.inr O,.inr O,trivial⟩ O) O (zD O (W O) O (dL O (bX O) hr h [0] Tryz.call33 (hT.aD false y24) ⟨O,O,O,O,O,O,trivial⟩ O O (fun _=>⟨O,O,O⟩) (fun _=>⟨O,O⟩) hp (fun y26 h=>⟨cP ⟨trivial,⟨⟨⟨_,O,M.ff ⟨.inr O,.inr O,.inr O,.inr O,.inr O,.inl O,.inr O,.inr O,.inr O,trivial⟩⟩,trivial⟩,⟨trivial,trivial⟩⟩⟩,?_⟩)))))
     refine ig [y26.1] aj.y O (bX O) ⟨O,O⟩ ⟨O,O⟩ ?_
     refine zd hr h fun hg27 h=>nq 147 O (bX O) ⟨jV.h,eL.h,aj.y,aj.b7,aj.jh,hE _ O,O,O,(.inl O),⟨O,O,O⟩,hg27⟩ O O ⟨aL O,?_⟩
     refine zD O (bR O) O (cf O ⟨O,O,O,O,O,O,O,O⟩ O (fun e7 he=>⟨aL O,?_⟩))
     subst he
     refine gi (jg 147 26661 [(0,.ptr 0 0),(2,.ptr 102 0),(4,.ptr 104 0)] [(0,.box (Q y26.2)),(102,.box [I 0,F [],I 0,F [],F [],Sc (.slice none 0 0),Sc (.slice none 0 0),Sc (.slice none 0 0),I 0]),(104,.box [I v20.2.Kind,F v20.2.Text,I v20.2.jv,F v20.2.bt,F v20.2.bz,.arr 26661 (List.length (v20.2.bf++[y26.1])),Sc (.slice none 0 0),Sc (.slice none 0 0),I v20.2.Pos])] (hE _ O) O O ⟨O,O⟩ ⟨⟨_,O,O,O⟩,⟨_,O,O,O⟩,⟨_,O,O,O⟩,trivial⟩ ⟨⟨_,O,O,O,O,O⟩,⟨_,O,O,O,O,O⟩,⟨_,O,O,O,O,O⟩,trivial⟩) ?_
     refine hK25 _ _ (B fun _ hK28=>A (aX (pO (j:=104) (off:=5) aj.y aj.b7 O O O O (hE _ O) O) ?_))
     refine zA O ?_
     refine zs O (zQ hK28 (b3 (jt 102 O O) ?_))
     exact H (zX (.cons (aZ O O O) .nil) h O)
   · refine B fun _ hK29=>A (zm O (zk hp hr h [0] Tryz.call34 (aI n y18.2) O (fun _=>O) fun y30 h=>zk hp hr h [] Tryz.call56 (gI y30.1 ([105,102]:List UInt8)) O (fun _=>O) fun y31 h=>zQ hK29 (zB O h (fun _ h=>?_) fun _ h=>?_)))
     · refine B fun _ hK33=>A (zm O (zk hp hr h [0] Tryz.call158 (gU n ([105,102]:List UInt8) (L.mk y30.2.text y30.2.bo y30.2.at_ y18.2.base y30.2.skip y30.2.pending)) O (fun _=>O) fun y34 h=>zQ hK33 (mi [] ?_)))
       refine bL [0,1,2,3,4,5,6,7] O (by kernel_rfl) (zD O (bR O) O (zD O (fj [.any,.any,.any,.any,.any,.arr 26661 (List.length ([]++[y18.1])),.any,.any,.any] O O ⟨.inr O,.inr O,.inr O,.inr O,.inr O,.inl O,.inr O,.inr O,.inr O,trivial⟩ O) O (zD O (W O) O (dL O (bX O) hr h [0] Tryz.call33 (hT.aD false y34) ⟨O,O,O,O,O,O,trivial⟩ O O (fun _=>⟨O,O,O⟩) (fun _=>⟨O,O⟩) hp (fun y35 h=>⟨cP ⟨trivial,⟨⟨⟨_,O,M.ff ⟨.inr O,.inr O,.inr O,.inr O,.inr O,.inl O,.inr O,.inr O,.inr O,trivial⟩⟩,trivial⟩,⟨trivial,trivial⟩⟩⟩,?_⟩)))))
       refine ig [y35.1] aj.y O (bX O) ⟨O,O⟩ ⟨O,O⟩ ?_
       refine zd hr h fun hg36 h=>nq 138 O (bX O) ⟨jV.h,eL.h,aj.y,aj.b7,aj.jh,hE _ O,O,O,(.inl O),⟨O,O,O⟩,hg36⟩ O O ⟨aL O,?_⟩
       refine zD O (bR O) O (cf O ⟨O,O,O,O,O,O,O,O⟩ O (fun e7 he=>⟨aL O,?_⟩))
       subst he
       refine gi (jg 138 26661 [(0,.ptr 0 0),(2,.ptr 102 0),(4,.ptr 104 0)] [(0,.box (Q y35.2)),(102,.box [I 0,F [],I 0,F [],F [],Sc (.slice none 0 0),Sc (.slice none 0 0),Sc (.slice none 0 0),I 0]),(104,.box [I 15,F [],I 0,F y14.1.x0,F y14.1.x1,.arr 26661 (List.length (([]++[y18.1])++[y35.1])),Sc (.slice none 0 0),Sc (.slice none 0 0),I y3.1])] (hE _ O) O O ⟨O,O⟩ ⟨⟨_,O,O,O⟩,⟨_,O,O,O⟩,⟨_,O,O,O⟩,trivial⟩ ⟨⟨_,O,O,O,O,O⟩,⟨_,O,O,O,O,O⟩,⟨_,O,O,O,O,O⟩,trivial⟩) ?_
       exact hK22 _ _ _ h O
     · exact V (hK22 _ _ _ h O)
theorem qM (n:Nat) (T:m) (hT:bb T) (p0:L):CT Tryz.prog 279 [.ptr 0 0] [.box (Q p0)] (dG n T p0) (fun x=>.agg (be x.1)) (fun x=>[.box (Q x.2)]):=by
 refine zC Tryz.func279 O fun r hp h hr E hE=>B fun _ hK1=>A (eg 101 (hE _ O) ⟨O,O,O,O,O,O,O⟩ O ?_)
 refine aK 102 (hE _ O) ⟨O,O,O,O⟩ O ?_
 refine zQ hK1 (B fun _ hK2=>A (zl O (zk hp hr h [0] Tryz.call75 (cj n p0) O (fun _=>O) fun y3 h=>J (dC O O) O ?_)))
 refine aK 103 (hE _ O) ⟨O,O,O,O⟩ O ?_
 refine zs O (zQ hK2 (B fun _ hK4=>A (zl O (zk hp hr h [0] Tryz.call155 (cY n ([91]:List UInt8) y3.2) O (fun _=>O) fun y5 h=>zQ hK4 (B fun _ hK6=>A (zl O (J (pc O O) O ?_)))))))
 refine aX (rn (j:=103) (off:=5) 26597 (sz:=9) (el:=38) (hE _ O) O O ⟨O,O,O⟩ O O) ?_
 refine aX (jt 103 O O) ?_
 refine jf hr h [0,101,103,26597] Tryz.call200 (hT.cT true y5 (aj.mk 14 [] 0 [] [] [] [] [] y3.1)) ⟨O,O,O,O,O,O,⟨hE _ O,trivial⟩⟩ O (fun _=>⟨O,O,O⟩) (fun _=>⟨O,O⟩) hp (fun y7 h=>?_)
 refine zQ hK6 (B fun _ hK8=>A (zl O (zn O (zf O (zl O (zd hr h fun hg9 h=>zo hg9 O (zn O (zf O (zs O (zQ hK8 (B fun _ hK10=>A (aX (pO (j:=103) (off:=5) aj.y aj.b7 O O O O (hE _ O) O) ?_))))))))))))
 refine zA O ?_
 exact zs O (zQ hK10 (H (zX (.cons (aZ O O O) .nil) h O)))
theorem pA (n:Nat) (T:m) (hT:bb T) (p0:aj) (p1:L):CT Tryz.prog 299 [.ptr 0 0,.ptr 1 0] [.box [.ptr 2 0],.box [I p0.Kind,F p0.Text,I p0.jv,F p0.bt,F p0.bz,.arr 3 (List.length p0.bf),.pv (.sl (List.length p0.Decls) (o.Cs p0.Decls)),.pv (.sl (List.length p0.cz) (ch p0.cz)),I p0.Pos],.box (Q p1),.arr 38 9 (aj.Cs p0.bf)] (eQ n T p0 p1) (fun _=>.fX []) (fun x=>[.box [.ptr 2 0],.box [I x.1.Kind,F x.1.Text,I x.1.jv,F x.1.bt,F x.1.bz,.arr 3 (List.length x.1.bf),.pv (.sl (List.length x.1.Decls) (o.Cs x.1.Decls)),.pv (.sl (List.length x.1.cz) (ch x.1.cz)),I x.1.Pos],.box (Q x.2),.arr 38 9 (aj.Cs x.1.bf)]):=by
 refine zC Tryz.func299 O fun r hp h hr E hE=>B fun _ hK1=>B fun _ hK2=>A (za O (zQ hK2 (z (zL hr h (fun (v3:aj×L×Bool)=>[(0,.ptr 0 0),(1,.ptr 1 0),(2,Bo v3.2.2)]) (fun (v3:aj×L×Bool)=>[(0,.box [.ptr 2 0]),(1,.box [I v3.1.Kind,F v3.1.Text,I v3.1.jv,F v3.1.bt,F v3.1.bz,.arr 3 (List.length v3.1.bf),.pv (.sl (List.length v3.1.Decls) (o.Cs v3.1.Decls)),.pv (.sl (List.length v3.1.cz) (ch v3.1.cz)),I v3.1.Pos]),(2,.box (Q v3.2.1)),(3,.arr 38 9 (aj.Cs v3.1.bf))]) O fun _ v3 _ hK5 h=>B fun _ hK6=>B fun _ hK7=>A (zl O (zk hp hr h [2] Tryz.call34 (aI n v3.2.1) O (fun _=>O) fun y8 h=>zk hp hr h [] Tryz.call72 (cI y8.1 ([93]:List UInt8)) O (fun _=>O) fun y9 h=>J (eS O) O (zQ hK7 (zB O h (fun _ h=>?_) fun _ h=>?_))))))))
 · refine V (hK6 _ _ (B fun _ hK11=>z (zM h (fun (v12:L)=>[(0,.ptr 0 0),(1,.ptr 1 0)]) (fun (v12:L)=>[(0,.box [.ptr 2 0]),(1,.box [I v3.1.Kind,F v3.1.Text,I v3.1.jv,F v3.1.bt,F v3.1.bz,.arr 3 (List.length v3.1.bf),.pv (.sl (List.length v3.1.Decls) (o.Cs v3.1.Decls)),.pv (.sl (List.length v3.1.cz) (ch v3.1.cz)),I v3.1.Pos]),(2,.box (Q v12)),(3,.arr 38 9 (aj.Cs v3.1.bf))]) (fun v12 h=>?_) fun _ _ hK14 h=>?_)))
   · refine B fun _ hK15=>A (zl O (zk hp hr h [2] Tryz.call75 (cj n v12) O (fun _=>O) fun y16 h=>za O (zQ hK15 (B fun _ hK17=>B fun _ hK18=>A (zl O (zk hp hr h [2] Tryz.call76 (df n ([46,46,46]:List UInt8) y16.2) O (fun _=>O) fun y19 h=>zQ hK18 (zB O h (fun _ h=>?_) fun _ h=>?_)))))))
     · refine B fun _ hK21=>A (zf O (zs O (zQ hK21 (B fun _ hK22=>A (zm O (J (dC O O) O ?_))))))
       refine aK 104 (hE _ O) ⟨O,O,O,O⟩ O ?_
       refine zs O (zQ hK22 (zM h (fun (v23:L×aj)=>[(0,.ptr 0 0),(1,.ptr 1 0),(4,.ptr 104 0)]) (fun (v23:L×aj)=>[(0,.box [.ptr 2 0]),(1,.box [I v3.1.Kind,F v3.1.Text,I 1,F v3.1.bt,F v3.1.bz,.arr 3 (List.length v3.1.bf),.pv (.sl (List.length v3.1.Decls) (o.Cs v3.1.Decls)),.pv (.sl (List.length v3.1.cz) (ch v3.1.cz)),I v3.1.Pos]),(2,.box (Q v23.1)),(104,.box (be v23.2)),(3,.arr 38 9 (aj.Cs v3.1.bf))]) (fun v23 h=>?_) fun _ _ hK25 h=>?_))
       · refine B fun _ hK26=>mi [] ?_
         refine o7 [0,1,2,3,4,5,6,8] 7 9 O (by kernel_rfl) ?_
         refine zD O (bR O) O (zD O (bp O O O) O (zD O (iT O O O O) O ?_))
         refine zD O (mf O) O (tM [(aj.mk 0 ([]:List UInt8) 0 ([]:List UInt8) ([]:List UInt8) [] [] [] 0)] aj.y O (bX O) ⟨O,O,O⟩ ⟨O,O⟩ ?_)
         refine zd hr h fun hg27 h=>nq 131 O (bX O) ⟨jV.h,eL.h,aj.y,aj.b7,aj.jh,hE _ O,O,O,(.inl O),⟨O,O,O⟩,hg27⟩ O O ⟨aL O,?_⟩
         refine zD O (me O O (Int.natCast_nonneg _) (rX _ _)) O (zD O (bR O) O (rY ?_ ?_))
         · refine mK v3.1.bf O (⟨aj.y,aj.b7,Int.natCast_nonneg _,jM _ _,O,O,O,O,O,lG.h,O,O,O⟩:vQ _ _ _ _ _ _ _ _ _ 0 _ _ _ _ _ _ v23.2 _ (aj.C v23.2)) O ⟨aL O,?_⟩
           refine cf O ⟨O,O,O,O,O,O,O,O⟩ O (fun e9 he=>⟨aL O,?_⟩)
           subst he
           refine gi (eT.trans (mL 1 5 (m':=List.length (v3.1.bf++[v23.2])) O O (by simp) O) (jg 131 3 [(0,.ptr 0 0),(1,.ptr 1 0)] [(0,.box [.ptr 2 0]),(1,.box [I v3.1.Kind,F v3.1.Text,I 1,F v3.1.bt,F v3.1.bz,.arr 3 (List.length (v3.1.bf++[v23.2])),.pv (.sl (List.length v3.1.Decls) (o.Cs v3.1.Decls)),.pv (.sl (List.length v3.1.cz) (ch v3.1.cz)),I v3.1.Pos]),(2,.box (Q v23.1))] (hE _ O) O O ⟨O,O⟩ ⟨⟨_,O,O,O⟩,⟨_,O,O,O⟩,trivial⟩ ⟨⟨_,O,O,O,O,O⟩,⟨_,O,O,O,O,O⟩,⟨_,O,O,O,O,O⟩,trivial⟩)) ?_
           exact hK26 _ _ (bB (hK1 _ _ (A (zl O (zk hp hr h [2] Tryz.call202 (du n ([93]:List UInt8) v23.1) O (fun _=>O) fun y28 h=>N (zY .nil h O))))))
         · refine cf O ⟨O,O,O,O,O,O,O,O⟩ O (fun e8 he=>⟨aL O,?_⟩)
           subst he
           refine mK v3.1.bf O (⟨aj.y,aj.b7,Int.natCast_nonneg _,jM _ _,O,O,O,O,O,lG.h,O,O,O⟩:vQ _ _ _ _ _ _ _ _ _ 0 _ _ _ _ _ _ v23.2 _ (aj.C v23.2)) O ⟨aL O,?_⟩
           refine gi (eT.trans (mL 1 5 (m':=List.length (v3.1.bf++[v23.2])) O O (by simp) O) (jg 131 3 [(0,.ptr 0 0),(1,.ptr 1 0)] [(0,.box [.ptr 2 0]),(1,.box [I v3.1.Kind,F v3.1.Text,I 1,F v3.1.bt,F v3.1.bz,.arr 3 (List.length (v3.1.bf++[v23.2])),.pv (.sl (List.length v3.1.Decls) (o.Cs v3.1.Decls)),.pv (.sl (List.length v3.1.cz) (ch v3.1.cz)),I v3.1.Pos]),(2,.box (Q v23.1))] (hE _ O) O O ⟨O,O⟩ ⟨⟨_,O,O,O⟩,⟨_,O,O,O⟩,trivial⟩ ⟨⟨_,O,O,O,O,O⟩,⟨_,O,O,O,O,O⟩,⟨_,O,O,O,O,O⟩,trivial⟩)) ?_
           exact hK26 _ _ (bB (hK1 _ _ (A (zl O (zk hp hr h [2] Tryz.call202 (du n ([93]:List UInt8) v23.1) O (fun _=>O) fun y29 h=>N (zY .nil h O))))))
       · refine B fun _ hK30=>A (zl O (zk hp hr h [2] Tryz.call34 (aI n y19.2) O (fun _=>O) fun y31 h=>zk hp hr h [] Tryz.call72 (cI y31.1 ([93]:List UInt8)) O (fun _=>O) fun y32 h=>J (eS O) O (zQ hK30 (zB O h (fun _ h=>?_) fun _ h=>?_))))
         · exact A (zl O (zk hp hr h [2] Tryz.call33 (hT.aD false (L.mk y31.2.text y31.2.bo y31.2.at_ y19.2.base y31.2.skip y31.2.pending)) O (fun _=>O) fun y34 h=>zs O (N (hK25 _ _ _ h O))))
         · refine b3 (gE 104 5 O O O) ?_
           refine b3 (gE 104 6 O O O) ?_
           refine b3 (gE 104 7 O O O) ?_
           exact V (hK25 _ _ _ h O)
     · refine V (hK17 _ _ (mi [] ?_))
       refine o7 [0,1,2,4,5,3,6,7,9] 8 10 O (by kernel_rfl) ?_
       refine zD O (bR O) O (zD O (fj [.any,.any,.any,.any,.any,.arr 3 (List.length v3.1.bf),.any,.any,.any] O O ⟨.inr O,.inr O,.inr O,.inr O,.inr O,.inl O,.inr O,.inr O,.inr O,trivial⟩ O) O (zD O (bp O O O) O (zD O (mf O) O (tM [(aj.mk 0 ([]:List UInt8) 0 ([]:List UInt8) ([]:List UInt8) [] [] [] 0)] aj.y O (bX O) ⟨O,O,O⟩ ⟨O,O⟩ ?_))))
       refine dL O (bX O) hr h [2] Tryz.call300 (hT.de y19.2) ⟨O,O,O,O,O,O,trivial⟩ O O (fun _=>⟨O,O,O⟩) (fun _=>⟨O,O⟩) hp (fun y35 h=>⟨cP ⟨trivial,⟨trivial,⟨trivial,⟨⟨⟨_,O,M.ff ⟨.inr O,.inr O,.inr O,.inr O,.inr O,.inl O,.inr O,.inr O,.inr O,trivial⟩⟩,trivial⟩,⟨trivial,trivial⟩⟩⟩⟩⟩,?_⟩)
       refine zd hr h fun hg36 h=>nq 140 O (bX O) ⟨jV.h,eL.h,aj.y,aj.b7,aj.jh,hE _ O,O,O,(.inl O),⟨O,O,O⟩,hg36⟩ O O ⟨aL O,?_⟩
       refine zD O (me O O (Int.natCast_nonneg _) (rX _ _)) O (zD O (bR O) O (rY ?_ ?_))
       · refine mK v3.1.bf O (⟨aj.y,aj.b7,Int.natCast_nonneg _,jM _ _,O,O,O,O,O,lG.h,O,O,O⟩:vQ _ _ _ _ _ _ _ _ _ 0 _ _ _ _ _ _ y35.1 _ (aj.C y35.1)) O ⟨aL O,?_⟩
         refine cf O ⟨O,O,O,O,O,O,O,O⟩ O (fun e10 he=>⟨aL O,?_⟩)
         subst he
         refine gi (eT.trans (mL 1 5 (m':=List.length (v3.1.bf++[y35.1])) O O (by simp) O) (jg 140 3 [(0,.ptr 0 0),(1,.ptr 1 0)] [(0,.box [.ptr 2 0]),(1,.box [I v3.1.Kind,F v3.1.Text,I v3.1.jv,F v3.1.bt,F v3.1.bz,.arr 3 (List.length (v3.1.bf++[y35.1])),.pv (.sl (List.length v3.1.Decls) (o.Cs v3.1.Decls)),.pv (.sl (List.length v3.1.cz) (ch v3.1.cz)),I v3.1.Pos]),(2,.box (Q y35.2))] (hE _ O) O O ⟨O,O⟩ ⟨⟨_,O,O,O⟩,⟨_,O,O,O⟩,trivial⟩ ⟨⟨_,O,O,O,O,O⟩,⟨_,O,O,O,O,O⟩,⟨_,O,O,O,O,O⟩,trivial⟩)) ?_
         exact hK11 _ _ (A (za O (N (hK5 _ _ _ h O))))
       · refine cf O ⟨O,O,O,O,O,O,O,O⟩ O (fun e9 he=>⟨aL O,?_⟩)
         subst he
         refine mK v3.1.bf O (⟨aj.y,aj.b7,Int.natCast_nonneg _,jM _ _,O,O,O,O,O,lG.h,O,O,O⟩:vQ _ _ _ _ _ _ _ _ _ 0 _ _ _ _ _ _ y35.1 _ (aj.C y35.1)) O ⟨aL O,?_⟩
         refine gi (eT.trans (mL 1 5 (m':=List.length (v3.1.bf++[y35.1])) O O (by simp) O) (jg 140 3 [(0,.ptr 0 0),(1,.ptr 1 0)] [(0,.box [.ptr 2 0]),(1,.box [I v3.1.Kind,F v3.1.Text,I v3.1.jv,F v3.1.bt,F v3.1.bz,.arr 3 (List.length (v3.1.bf++[y35.1])),.pv (.sl (List.length v3.1.Decls) (o.Cs v3.1.Decls)),.pv (.sl (List.length v3.1.cz) (ch v3.1.cz)),I v3.1.Pos]),(2,.box (Q y35.2))] (hE _ O) O O ⟨O,O⟩ ⟨⟨_,O,O,O⟩,⟨_,O,O,O⟩,trivial⟩ ⟨⟨_,O,O,O,O,O⟩,⟨_,O,O,O,O,O⟩,⟨_,O,O,O,O,O⟩,trivial⟩)) ?_
         exact hK11 _ _ (A (za O (N (hK5 _ _ _ h O))))
   · refine B fun _ hK37=>A (zm O (J (eS O) O (zQ hK37 (zB O h (fun _ h=>?_) fun _ h=>?_))))
     · exact A (zl O (zk hp hr h [2] Tryz.call155 (cY n ([44]:List UInt8) (L.mk y8.2.text y8.2.bo y8.2.at_ v3.2.1.base y8.2.skip y8.2.pending)) O (fun _=>O) fun y39 h=>N (hK14 _ _ _ h O)))
     · exact V (hK14 _ _ _ h O)
 · exact bB (hK1 _ _ (A (zl O (zk hp hr h [2] Tryz.call202 (du n ([93]:List UInt8) (L.mk y8.2.text y8.2.bo y8.2.at_ v3.2.1.base y8.2.skip y8.2.pending)) O (fun _=>O) fun y40 h=>N (zY .nil h O)))))
theorem qb (n:Nat) (T:m) (hT:bb T) (p0:L):CT Tryz.prog 276 [.ptr 0 0] [.box (Q p0)] (dx n T p0) (fun x=>.agg (be x.1)) (fun x=>[.box (Q x.2)]):=by
 refine zC Tryz.func276 O fun r hp h hr E hE=>B fun _ hK1=>A (aK 102 (hE _ O) ⟨O,O,O,O⟩ O ?_)
 refine zQ hK1 (B fun _ hK2=>A (zm O (zk hp hr h [0] Tryz.call34 (aI n p0) O (fun _=>O) fun y3 h=>zm O (zk hp hr h [0] Tryz.call75 (cj n (L.mk y3.2.text y3.2.bo y3.2.at_ p0.base y3.2.skip y3.2.pending)) O (fun _=>O) fun y4 h=>aK 103 (hE _ O) ⟨O,O,O,O⟩ O ?_))))
 refine zs O (za O (zQ hK2 (B fun _ hK5=>A (zm O (J (dC O O) O ?_)))))
 refine aK 105 (hE _ O) ⟨O,O,O,O⟩ O ?_
 refine zs O (zQ hK5 (zM h (fun (v6:aj)=>[(0,.ptr 0 0),(2,.ptr 102 0),(5,.ptr 105 0)]) (fun (v6:aj)=>[(0,.box (Q y4.2)),(102,.box [I 0,F [],I 0,F [],F [],Sc (.slice none 0 0),Sc (.slice none 0 0),Sc (.slice none 0 0),I 0]),(105,.box [I v6.Kind,F v6.Text,I v6.jv,F v6.bt,F v6.bz,Sc (.slice none 0 0),Sc (.slice none 0 0),Sc (.slice none 0 0),I v6.Pos])]) (fun v6 h=>?_) fun _ _ hK8 h=>?_))
 · refine B fun _ hK9=>A (zm O (zn O (zf O (zl O (zd hr h fun hg10 h=>zo hg10 O (zn O (zf O (zs O (zQ hK9 (B fun _ hK11=>A (zA O ?_)))))))))))
   refine zs O (zQ hK11 (b3 (jt 102 O O) ?_))
   exact H (zX (.cons (aZ O O O) .nil) h O)
 · refine B fun _ hK12=>A (zf O (zl O (zQ hK12 (z (B fun _ hK13=>A (J (jc O O) O (za O (zQ hK13 (zB O h (fun _ h=>?_) fun _ h=>?_)))))))))
   · exact A (zf O (zs O (N (hK8 _ _ _ h O))))
   · refine zM h (fun (v15:Bool)=>[(0,.ptr 0 0),(2,.ptr 102 0),(3,.ptr 103 0),(5,.ptr 105 0),(13,F y3.1.Text),(29,Bo v15)]) (fun (v15:Bool)=>[(0,.box (Q y4.2)),(102,.box [I 0,F [],I 0,F [],F [],Sc (.slice none 0 0),Sc (.slice none 0 0),Sc (.slice none 0 0),I 0]),(103,.box (fF y3.1)),(105,.box [I 0,F [],I 0,F [],F [],Sc (.slice none 0 0),Sc (.slice none 0 0),Sc (.slice none 0 0),I y4.1])]) (fun v15 h=>?_) fun _ _ hK17 h=>?_
     · refine zB O h (fun _ h=>?_) fun _ h=>?_
       · refine B fun _ hK19=>A (zf O (zs O (zQ hK19 (B fun _ hK20=>A (zf O (zl O (J (jc O O) O (zQ hK20 (zB O h (fun _ h=>?_) fun _ h=>?_)))))))))
         · exact A (zf O (zs O (N (hK8 _ _ _ h O))))
         · exact V (hK8 _ _ _ h O)
       · refine zM h (fun (v22:Bool)=>[(0,.ptr 0 0),(2,.ptr 102 0),(3,.ptr 103 0),(5,.ptr 105 0),(37,Bo v22)]) (fun (v22:Bool)=>[(0,.box (Q y4.2)),(102,.box [I 0,F [],I 0,F [],F [],Sc (.slice none 0 0),Sc (.slice none 0 0),Sc (.slice none 0 0),I 0]),(103,.box (fF y3.1)),(105,.box [I 0,F [],I 0,F [],F [],Sc (.slice none 0 0),Sc (.slice none 0 0),Sc (.slice none 0 0),I y4.1])]) (fun v22 h=>?_) fun _ _ hK24 h=>?_
         · refine zB O h (fun _ h=>?_) fun _ h=>?_
           · refine bL [0,1,2,3,4,5] O (by kernel_rfl) (zD O (bR O) O (zD O (fj [.any,F y3.1.Text,.any,.any] O O ⟨.inr O,.inl O,.inr O,.inr O,trivial⟩ O) O (zD O (bR O) O (cf O ⟨O,O,O,O,O,O,O,O⟩ O (fun e3 he=>⟨cP ⟨trivial,⟨⟨⟨_,O,M.ff ⟨.inr O,.inl O,.inr O,.inr O,trivial⟩⟩,trivial⟩,⟨trivial,trivial⟩⟩⟩,?_⟩)))))
             subst he
             refine zD O (bR O) O (cf O ⟨O,O,O,O,O,O,O,O⟩ O (fun e5 he=>⟨aL O,?_⟩))
             subst he
             exact cX (hK8 _ _ _ h O)
           · refine B fun _ hK26=>A (zm O (zk hp hr h [0] Tryz.call57 (fT n y4.2) O (fun _=>O) fun y27 h=>zf O (zs O (zf O (zs O (zQ hK26 (B fun _ hK28=>B fun _ hK29=>A (zm O (zk hp hr h [0] Tryz.call34 (aI n y27.2) O (fun _=>O) fun y30 h=>zk hp hr h [] Tryz.call72 (cI y30.1 ([40]:List UInt8)) O (fun _=>O) fun y31 h=>zQ hK29 (zB O h (fun _ h=>?_) fun _ h=>?_))))))))))
             · refine B fun _ hK33=>A (zf O (zs O (zQ hK33 (A (zm O (zk hp hr h [0] Tryz.call297 (hT.cL (L.mk y30.2.text y30.2.bo y30.2.at_ y27.2.base y30.2.skip y30.2.pending)) O (fun _=>O) fun y34 h=>zf O (zs O (zQ hK28 (B fun _ hK35=>A (zA O ?_))))))))))
               refine zs O (zQ hK35 (b3 (jt 102 O O) ?_))
               exact H (zX (.cons (aZ O O O) .nil) h O)
             · refine V (hK28 _ _ (B fun _ hK36=>A (zA O ?_)))
               refine zs O (zQ hK36 (b3 (jt 102 O O) ?_))
               exact H (zX (.cons (aZ O O O) .nil) h O)
         · refine B fun _ hK37=>A (J (jc O O) O (za O (zQ hK37 (zB O h (fun _ h=>?_) fun _ h=>?_))))
           · exact V (hK24 _ _ _ h O)
           · refine B fun _ hK39=>A (J (jc O O) O (za O (zQ hK39 (zB O h (fun _ h=>?_) fun _ h=>?_))))
             · exact V (hK24 _ _ _ h O)
             · refine B fun _ hK41=>A (J (jc O O) O (za O (zQ hK41 (zB O h (fun _ h=>?_) fun _ h=>?_))))
               · exact V (hK24 _ _ _ h O)
               · exact A (J (jc O O) O (za O (N (hK24 _ _ _ h O))))
     · refine B fun _ hK43=>A (J (jc O O) O (za O (zQ hK43 (zB O h (fun _ h=>?_) fun _ h=>?_))))
       · exact V (hK17 _ _ _ h O)
       · exact A (J (jc O O) O (za O (N (hK17 _ _ _ h O))))
theorem pB (n:Nat) (T:m) (hT:bb T) (p0:Bool) (p1:L):CT Tryz.prog 204 [.ptr 0 0,Bo p0] [.box (Q p1)] (cK n T p0 p1) (fun x=>.agg (be x.1)) (fun x=>[.box (Q x.2)]):=by
 refine zC Tryz.func204 O fun r hp h hr E hE=>B fun _ hK1=>A (eg 102 (hE _ O) ⟨O,O,O,O,O,O,O⟩ O ?_)
 refine eg 103 (hE _ O) ⟨O,O,O,O,O,O,O⟩ O ?_
 refine aK 104 (hE _ O) ⟨O,O,O,O⟩ O ?_
 refine zQ hK1 (B fun _ hK2=>A (zl O (zk hp hr h [0] Tryz.call155 (cY n ([40]:List UInt8) p1) O (fun _=>O) fun y3 h=>zQ hK2 (B fun _ hK4=>A (aK 105 (hE _ O) ⟨O,O,O,O⟩ O ?_)))))
 refine zQ hK4 (B fun _ hK5=>A (zl O (J (pc O O) O ?_)))
 refine aX (jt 105 O O) ?_
 refine zk hp hr h [0,102,103,105] Tryz.call200 (hT.cu true y3 p0 (aj.mk 0 [] 0 [] [] [] [] [] 0)) O (fun _=>O) fun y6 h=>zQ hK5 (B fun _ hK7=>A (zl O (zn O (zf O (zl O (zd hr h fun hg8 h=>zo hg8 O (zn O (zf O (zs O (zQ hK7 (B fun _ hK9=>A (zA O ?_))))))))))))
 exact zs O (zQ hK9 (H (zX (.cons (aZ O O O) .nil) h O)))
theorem ob (n:Nat) (T:m) (hT:bb T) (p0:Bool) (p1:aj) (p2:L):CT Tryz.prog 237 [.ptr 0 0,.ptr 1 0,.ptr 2 0] [.box [.ptr 3 0],.box [Bo p0],.box (be p1),.box (Q p2)] (dj n T p0 p1 p2) (fun _=>.fX []) (fun x=>[.box [.ptr 3 0],.box [Bo x.1],.box (be x.2.1),.box (Q x.2.2)]):=by
 exact zC Tryz.func237 O fun r hp h hr E hE=>B fun _ hK1=>A (zl O (zl O (zk hp hr h [3] Tryz.call33 (hT.aD p0 p2) O (fun _=>O) fun y2 h=>zs O (zQ hK1 (A (zl O (zk hp hr h [3] Tryz.call202 (du n ([41]:List UInt8) y2.2) O (fun _=>O) fun y3 h=>N (zY .nil h O))))))))
theorem oQ (n:Nat) (T:m) (hT:bb T) (p0:Bool) (p1:L) (p2:o):CT Tryz.prog 154 [.ptr 0 0,.ptr 1 0,Bo p0] [.box (Q p1),.box (dE p2)] (eE n T p0 p1 p2) (fun _=>.fX []) (fun x=>[.box (Q x.1),.box (dE x.2)]):=by
 refine zC Tryz.func154 O fun r hp h hr E hE=>?_
 refine B fun _ hK1=>?_
 refine A ?_
 refine eg 103 (hE _ O) ⟨O,O,O,O,O,O,O⟩ O ?_
 refine eg 104 (hE _ O) ⟨O,O,O,O,O,O,O⟩ O ?_
 refine zQ hK1 ?_
 refine B fun _ hK2=>?_
 refine bL [0,1,2,3,4,5,6,7] O (by kernel_rfl) ?_
 refine zD O (bp O O O) O ?_
 refine zD O (fj [.ptr 1 0] O O ⟨.inl O,trivial⟩ O) O ?_
 refine zD O (da O) O ?_
 refine zD O (bR O) O ?_
 refine cf O ⟨O,O,O,O,O,O,O,O⟩ O (fun e4 he=>⟨cP ⟨trivial,⟨trivial,⟨⟨⟨_,O,M.ff ⟨.inl O,trivial⟩⟩,trivial⟩,⟨trivial,trivial⟩⟩⟩⟩,?_⟩)
 subst he
 refine zD O (da O) O ?_
 refine zD O (bR O) O ?_
 refine cf O ⟨O,O,O,O,O,O,O,O⟩ O (fun e7 he=>⟨aL O,?_⟩)
 subst he
 refine cX ?_
 refine hK2 _ _ ?_
 refine B fun _ hK3=>?_
 refine A ?_
 refine zl O ?_
 refine zk hp hr h [0] Tryz.call155 (cY n ([91]:List UInt8) p1) O (fun _=>O) fun y4 h=>?_
 refine zQ hK3 ?_
 refine B fun _ hK5=>?_
 refine A ?_
 refine zl O ?_
 refine J (pc O O) O ?_
 refine zk hp hr h [0,103,104,1] Tryz.call200 (pV n true y4 (o.mk 2 p2.cG ([46,42]:List UInt8) p2.bt p2.bz p2.bf p2.Body p2.cz p2.jy p2.Trail p2.Pos)) O (fun _=>O) fun y6 h=>?_
 refine zQ hK5 ?_
 refine B fun _ hK7=>?_
 refine A ?_
 refine zl O ?_
 refine zn O ?_
 refine zf O ?_
 refine zl O ?_
 refine zd hr h fun hg8 h=>?_
 refine zo hg8 O ?_
 refine zn O ?_
 refine zf O ?_
 refine zs O ?_
 refine zQ hK7 ?_
 refine B fun _ hK9=>?_
 refine A ?_
 refine zl O ?_
 refine zk hp hr h [0] Tryz.call155 (cY n ([58]:List UInt8) (L.mk y6.1.text y6.1.bo (y6.1.at_+1) y6.1.base y6.1.skip y6.1.pending)) O (fun _=>O) fun y10 h=>?_
 refine zQ hK9 ?_
 refine bL [0,1,2,3,4,5,6,7] O (by kernel_rfl) ?_
 refine zD O (fj [.ptr 1 0] O O ⟨.inl O,trivial⟩ O) O ?_
 refine zD O (bp O O O) O ?_
 refine zD O (W O) O ?_
 refine dL O (bX O) hr h [0] Tryz.call33 (hT.aD p0 y10) ⟨O,O,O,O,O,O,trivial⟩ O O (fun _=>⟨O,O,O⟩) (fun _=>⟨O,O⟩) hp (fun y11 h=>⟨cP ⟨trivial,⟨trivial,⟨⟨⟨_,O,M.ff ⟨.inl O,trivial⟩⟩,trivial⟩,trivial⟩⟩⟩,?_⟩)
 refine ig [y11.1] aj.y O (bX O) ⟨O,O⟩ ⟨O,O⟩ ?_
 refine zD O (da O) O ?_
 refine zD O (bR O) O ?_
 refine cf O ⟨O,O,O,O,O,O,O,O⟩ O (fun e7 he=>⟨aL O,?_⟩)
 subst he
 refine cX ?_
 exact zY .nil h O
theorem oR (n:Nat) (T:m) (hT:bb T) (p0:Bool) (p1:L):CT Tryz.prog 243 [.ptr 0 0,Bo p0] [.box (Q p1)] (bZ n T p0 p1) (fun x=>.agg (be x.1)) (fun x=>[.box (Q x.2)]):=by
 refine zC Tryz.func243 O fun r hp h hr E hE=>B fun _ hK1=>A (eg 102 (hE _ O) ⟨O,O,O,O,O,O,O⟩ O ?_)
 refine aK 104 (hE _ O) ⟨O,O,O,O⟩ O ?_
 refine zQ hK1 (B fun _ hK2=>A (zl O (zm O (zk hp hr h [0] Tryz.call264 (hT.bS p0 p1) O (fun _=>O) fun y3 h=>aK 105 (hE _ O) ⟨O,O,O,O⟩ O ?_))))
 refine zs O (zQ hK2 (z (zL hr h (fun (v4:L×aj)=>[(0,.ptr 0 0),(1,Bo p0),(2,.ptr 102 0),(4,.ptr 104 0),(5,.ptr 105 0)]) (fun (v4:L×aj)=>[(0,.box (Q v4.1)),(102,.box [.ptr 0 0]),(104,.box [I 0,F [],I 0,F [],F [],Sc (.slice none 0 0),Sc (.slice none 0 0),Sc (.slice none 0 0),I 0]),(105,.box (be v4.2))]) O fun _ v4 _ hK6 h=>z (B fun _ hK7=>bL [0,2,4,1,3,5,6] O (by kernel_rfl) (zD O (bp O O O) O (zD O (fj [.ptr 0 0] O O ⟨.inl O,trivial⟩ O) O (s4 O (bX O) 106 (hE _ O) ⟨O,O,O,O,O⟩ ⟨O,O,O,O⟩ ?_)))))))
 refine dL O (bX O) hr h [0] Tryz.call34 (aI n v4.1) ⟨O,O,O,O,O,O,trivial⟩ O O (fun _=>⟨O,O,O⟩) (fun _=>⟨O,O⟩) hp (fun y8 h=>⟨cP ⟨trivial,⟨⟨⟨_,O,M.ff ⟨.inl O,trivial⟩⟩,trivial⟩,⟨trivial,trivial⟩⟩⟩,?_⟩)
 refine dL O (bX O) hr h [0] Tryz.call75 (cj n (L.mk y8.2.text y8.2.bo y8.2.at_ v4.1.base y8.2.skip y8.2.pending)) ⟨O,O,O,O,O,O,trivial⟩ O O (fun _=>⟨O,O,O⟩) (fun _=>⟨O,O⟩) hp (fun y9 h=>⟨aL O,?_⟩)
 refine rU O ⟨O,O,O,O,O,O,O,O⟩ O (fun e5 he=>⟨aL O,?_⟩)
 subst he
 refine sC O O O (aL O) O ?_
 refine cX (hK7 _ _ (z (B fun _ hK10=>A (zA O ?_))))
 refine zk hp hr h [] Tryz.call72 (cI y8.1 ([46]:List UInt8)) O (fun _=>O) fun y11 h=>za O (zQ hK10 (zB O h (fun _ h=>?_) fun _ h=>?_))
 · refine B fun _ hK13=>A (zl O (zA O ?_))
   refine zm O (zk hp hr h [0] Tryz.call74 (gj n v4.2 y9.1 y9.2) O (fun _=>O) fun y14 h=>zs O (zQ hK13 (B fun _ hK15=>A (zl O (zn O (zf O (zl O (zd hr h fun hg16 h=>zo hg16 O (zn O (zf O (zs O (zQ hK15 (B fun _ hK17=>A (zl O (zk hp hr h [0] Tryz.call34 (aI n (L.mk y14.2.text y14.2.bo (y14.2.at_+1) y14.2.base y14.2.skip y14.2.pending)) O (fun _=>O) fun y18 h=>aK 108 (hE _ O) ⟨O,O,O,O⟩ O ?_)))))))))))))))
   refine zs O (zQ hK17 (zM h (fun (v19:L)=>[(0,.ptr 0 0),(1,Bo p0),(2,.ptr 102 0),(4,.ptr 104 0),(5,.ptr 105 0),(8,.ptr 108 0)]) (fun (v19:L)=>[(0,.box (Q v19)),(102,.box [.ptr 0 0]),(104,.box [I 0,F [],I 0,F [],F [],Sc (.slice none 0 0),Sc (.slice none 0 0),Sc (.slice none 0 0),I 0]),(105,.box (be y14.1)),(108,.box (fF y18.1))]) (fun v19 h=>?_) fun _ _ hK21 h=>?_))
   · refine B fun _ hK22=>A (zl O (zn O (zf O (zl O (zd hr h fun hg23 h=>zo hg23 O (zn O (zf O (zs O (zQ hK22 (A (zf O (zl O (zA O ?_)))))))))))))
     refine b4 [y14.1] aj.y ⟨O,O⟩ O ?_
     refine zf O (zl O (J (dC O O) O ?_))
     refine zs O (aX (gE 105 6 O O O) ?_)
     refine aX (gE 105 7 O O O) ?_
     exact N (hK6 _ _ _ h O)
   · refine B fun _ hK24=>A (zA O ?_)
     refine zk hp hr h [] Tryz.call150 (pj n y18.1) O (fun _=>O) fun y25 h=>J (eS O) O (zQ hK24 (zB O h (fun _ h=>?_) fun _ h=>?_))
     · exact A (zl O (zk hp hr h [0] Tryz.call35 (bF n (L.mk y18.2.text y18.2.bo y18.2.at_ y14.2.base y18.2.skip y18.2.pending)) O (fun _=>O) fun y27 h=>N (hK21 _ _ _ h O)))
     · exact V (hK21 _ _ _ h O)
 · refine B fun _ hK28=>A (zA O ?_)
   refine zk hp hr h [] Tryz.call72 (cI y8.1 ([91]:List UInt8)) O (fun _=>O) fun y29 h=>za O (zQ hK28 (zB O h (fun _ h=>?_) fun _ h=>?_))
   · refine B fun _ hK31=>A (zl O (zA O ?_))
     refine zm O (zk hp hr h [0] Tryz.call74 (gj n v4.2 y9.1 y9.2) O (fun _=>O) fun y32 h=>zs O (zQ hK31 (B fun _ hK33=>A (zl O (zn O (zf O (zl O (zd hr h fun hg34 h=>zo hg34 O (zn O (zf O (zs O (zQ hK33 (B fun _ hK35=>A (zl O (J (pc O O) O ?_)))))))))))))))
     exact zk hp hr h [0,105,102] Tryz.call200 (hT.cw true (L.mk y32.2.text y32.2.bo (y32.2.at_+1) y32.2.base y32.2.skip y32.2.pending) y32.1) O (fun _=>O) fun y36 h=>zQ hK35 (A (zl O (zn O (zf O (zl O (zd hr h fun hg37 h=>zo hg37 O (zn O (zf O (zs O (N (hK6 _ _ _ h O)))))))))))
   · refine B fun _ hK38=>A (zA O ?_)
     exact zs O (zQ hK38 (H (zX (.cons (aZ O O O) .nil) h O)))
theorem nR (n:Nat) (T:m) (hT:bb T) (p0:aj) (p1:L):CT Tryz.prog 265 [.ptr 0 0,.ptr 1 0] [.box (be p0),.box [.ptr 2 0],.box (Q p1)] (dU n T p0 p1) (fun _=>.fX []) (fun x=>[.box (be x.1),.box [.ptr 2 0],.box (Q x.2)]):=by
 refine zC Tryz.func265 O fun r hp h hr E hE=>B fun _ hK1=>bL [0,1,4,5,2,3,6,7] O (by kernel_rfl) (zD O (iT O O O O) O ?_)
 refine zD O (bp O O O) O (zD O (bR O) O (zD O (fj [.any,.any,.any,.any,.any,.any,.any,.any,I p0.Pos] O O ⟨.inr O,.inr O,.inr O,.inr O,.inr O,.inr O,.inr O,.inr O,.inl O,trivial⟩ O) O (dL O (bX O) hr h [2] Tryz.call33 (hT.aD false p1) ⟨O,O,O,O,O,O,trivial⟩ O O (fun _=>⟨O,O,O⟩) (fun _=>⟨O,O⟩) hp (fun y2 h=>⟨cP ⟨⟨⟨_,O,M.ff ⟨.inr O,.inr O,.inr O,.inr O,.inr O,.inr O,.inr O,.inr O,.inl O,trivial⟩⟩,trivial⟩,⟨trivial,⟨trivial,⟨⟨⟨_,O,M.le_refl _⟩,trivial⟩,trivial⟩⟩⟩⟩,?_⟩))))
 refine ig [p0,y2.1] aj.y O (bX O) ⟨O,O⟩ ⟨O,O⟩ ?_
 refine zD O (dC O O) O ?_
 refine cf O ⟨O,O,O,O,O,O,O,O⟩ O (fun e7 he=>⟨aL O,?_⟩)
 subst he
 refine cX (hK1 _ _ (A (zl O (zk hp hr h [2] Tryz.call202 (du n ([93]:List UInt8) y2.2) O (fun _=>O) fun y3 h=>aX (jt 0 O O) ?_))))
 exact N (zY .nil h O)
theorem oS (n:Nat) (T:m) (hT:bb T) (p0:Bool) (p1:L):CT Tryz.prog 264 [.ptr 0 0,Bo p0] [.box (Q p1)] (b1 n T p0 p1) (fun x=>.agg (be x.1)) (fun x=>[.box (Q x.2)]):=by
 refine zC Tryz.func264 O fun r hp h hr E hE=>B fun _ hK1=>A (aK 104 (hE _ O) ⟨O,O,O,O⟩ O ?_)
 refine zQ hK1 (B fun _ hK2=>B fun _ hK3=>A (zm O (zn O (zf O (zl O (J (Ca O O) O (zQ hK3 (zB O h (fun _ h=>?_) fun _ h=>?_))))))))
 · refine B fun _ hK5=>A (zm O (zn O (zf O (zl O ?_))))
   obtain ⟨q6,hq7,h⟩:=FE hr h
   refine J (DQ (by rw[hq7];rfl)) O ?_
   refine J (iw O O) O ?_
   refine aK 105 (hE _ O) ⟨O,O,O,O⟩ O ?_
   refine zs O (zQ hK5 (B fun _ hK8=>A (zm O (zn O (zf O (zs O (zQ hK8 (B fun _ hK9=>A (zA O ?_)))))))))
   refine zs O (zQ hK9 (b3 (jt 0 O O) ?_))
   exact H (zX (.cons (aZ O O O) .nil) h O)
 · refine V (hK2 _ _ (B fun _ hK10=>A (zm O (zk hp hr h [0] Tryz.call34 (aI n p1) O (fun _=>O) fun y11 h=>zm O (zk hp hr h [0] Tryz.call75 (cj n (L.mk y11.2.text y11.2.bo y11.2.at_ p1.base y11.2.skip y11.2.pending)) O (fun _=>O) fun y12 h=>aK 106 (hE _ O) ⟨O,O,O,O⟩ O ?_)))))
   refine zs O (za O (zQ hK10 (B fun _ hK13=>A (zm O (J (dC O O) O ?_)))))
   refine aK 108 (hE _ O) ⟨O,O,O,O⟩ O ?_
   refine zs O (zQ hK13 (zM h (fun (v14:L×aj)=>[(0,.ptr 0 0),(1,Bo p0),(4,.ptr 104 0),(8,.ptr 108 0)]) (fun (v14:L×aj)=>[(0,.box (Q v14.1)),(104,.box [I 0,F [],I 0,F [],F [],Sc (.slice none 0 0),Sc (.slice none 0 0),Sc (.slice none 0 0),I 0]),(108,.box (be v14.2))]) (fun v14 h=>?_) fun _ _ hK16 h=>?_))
   · refine B fun _ hK17=>A (zm O (zn O (zf O (zl O (zd hr h fun hg18 h=>zo hg18 O (zn O (zf O (zs O (zQ hK17 (B fun _ hK19=>A (zA O ?_)))))))))))
     exact zs O (zQ hK19 (H (zX (.cons (aZ O O O) .nil) h O)))
   · refine z (B fun _ hK20=>A (zf O (zl O (zc O (za O (zQ hK20 (zB O h (fun _ h=>?_) fun _ h=>?_)))))))
     · exact B fun _ hK22=>A (zm O (zk hp hr h [0] Tryz.call276 (hT.cx y12.2) O (fun _=>O) fun y23 h=>zs O (zQ hK22 (H (zX (.cons (aZ O O O) .nil) h O)))))
     · refine B fun _ hK24=>A (zf O (zl O (zc O (za O (zQ hK24 (zB O h (fun _ h=>?_) fun _ h=>?_))))))
       · refine B fun _ hK26=>A (zf O (zs O (zQ hK26 (A (zf O (zl O (zk hp hr h [] Tryz.call100 (sj n y11.1.Text) O (fun _=>O) fun y27 h=>zm O (zx O (zx O (zf O (zs O (aX (gE 108 5 O O O) ?_))))))))))))
         refine aX (gE 108 6 O O O) ?_
         refine aX (gE 108 7 O O O) ?_
         exact N (hK16 _ _ _ h O)
       · refine B fun _ hK28=>A (zf O (zl O (zc O (za O (zQ hK28 (zB O h (fun _ h=>?_) fun _ h=>?_))))))
         · refine mi [] ?_
           refine bL [0,1,2,3,4,5] O (by kernel_rfl) (zD O (bR O) O (zD O (fj [.any,F y11.1.Text,.any,.any] O O ⟨.inr O,.inl O,.inr O,.inr O,trivial⟩ O) O (zD O (bR O) O (cf O ⟨O,O,O,O,O,O,O,O⟩ O (fun e3 he=>⟨cP ⟨trivial,⟨⟨⟨_,O,M.ff ⟨.inr O,.inl O,.inr O,.inr O,trivial⟩⟩,trivial⟩,⟨trivial,trivial⟩⟩⟩,?_⟩)))))
           subst he
           refine zD O (bR O) O (cf O ⟨O,O,O,O,O,O,O,O⟩ O (fun e5 he=>⟨aL O,?_⟩))
           subst he
           refine gi (eT.trans (gE 108 5 O O O) (eT.trans (gE 108 6 O O O) (gE 108 7 O O O))) ?_
           exact hK16 _ _ _ h O
         · refine B fun _ hK30=>A (zf O (zl O (zc O (za O (zQ hK30 (zB O h (fun _ h=>?_) fun _ h=>?_))))))
           · refine A (zm O (zA O ?_))
             exact zm O (zk hp hr h [0] Tryz.call277 (hT.cR y11.1 y12.1 y12.2) O (fun _=>O) fun y32 h=>zs O (N (hK16 _ _ _ h O)))
           · refine B fun _ hK33=>A (zA O ?_)
             refine zk hp hr h [] Tryz.call72 (cI y11.1 ([95]:List UInt8)) O (fun _=>O) fun y34 h=>za O (zQ hK33 (zB O h (fun _ h=>?_) fun _ h=>?_))
             · refine A (zf O (zs O (aX (gE 108 5 O O O) ?_)))
               refine aX (gE 108 6 O O O) ?_
               refine aX (gE 108 7 O O O) ?_
               exact N (hK16 _ _ _ h O)
             · refine B fun _ hK36=>A (zA O ?_)
               refine zk hp hr h [] Tryz.call72 (cI y11.1 ([95,124,95]:List UInt8)) O (fun _=>O) fun y37 h=>za O (zQ hK36 (zB O h (fun _ h=>?_) fun _ h=>?_))
               · refine A (zf O (zs O (aX (gE 108 5 O O O) ?_)))
                 refine aX (gE 108 6 O O O) ?_
                 refine aX (gE 108 7 O O O) ?_
                 exact N (hK16 _ _ _ h O)
               · refine B fun _ hK39=>A (zA O ?_)
                 refine zk hp hr h [] Tryz.call72 (cI y11.1 ([40]:List UInt8)) O (fun _=>O) fun y40 h=>za O (zQ hK39 (zB O h (fun _ h=>?_) fun _ h=>?_))
                 · exact B fun _ hK42=>A (zm O (zm O (zk hp hr h [0] Tryz.call204 (hT.bM p0 y12.2) O (fun _=>O) fun y43 h=>zs O (zQ hK42 (H (zX (.cons (aZ O O O) .nil) h O))))))
                 · refine B fun _ hK44=>A (zA O ?_)
                   refine zk hp hr h [] Tryz.call72 (cI y11.1 ([123]:List UInt8)) O (fun _=>O) fun y45 h=>za O (zQ hK44 (zB O h (fun _ h=>?_) fun _ h=>?_))
                   · exact B fun _ hK47=>A (zm O (zm O (zk hp hr h [0] Tryz.call278 (hT.ck p0 y12.2) O (fun _=>O) fun y48 h=>zs O (zQ hK47 (H (zX (.cons (aZ O O O) .nil) h O))))))
                   · refine B fun _ hK49=>A (zA O ?_)
                     refine zk hp hr h [] Tryz.call72 (cI y11.1 ([91]:List UInt8)) O (fun _=>O) fun y50 h=>za O (zQ hK49 (zB O h (fun _ h=>?_) fun _ h=>?_))
                     · exact B fun _ hK52=>A (zm O (zk hp hr h [0] Tryz.call279 (hT.cM y12.2) O (fun _=>O) fun y53 h=>zs O (zQ hK52 (H (zX (.cons (aZ O O O) .nil) h O)))))
                     · refine A (zm O (zk hp hr h [0] Tryz.call35 (bF n y12.2) O (fun _=>O) fun y54 h=>aX (gE 108 5 O O O) ?_))
                       refine aX (gE 108 6 O O O) ?_
                       refine aX (gE 108 7 O O O) ?_
                       exact N (hK16 _ _ _ h O)
theorem qc (n:Nat) (T:m) (hT:bb T) (p0:Bool) (p1:L):CT Tryz.prog 214 [.ptr 0 0,Bo p0] [.box (Q p1)] (cq n T p0 p1) (fun x=>.agg (be x.1)) (fun x=>[.box (Q x.2)]):=by
 refine zC Tryz.func214 O fun r hp h hr E hE=>?_
 refine B fun _ hK1=>?_
 refine A ?_
 refine aK 104 (hE _ O) ⟨O,O,O,O⟩ O ?_
 refine zQ hK1 ?_
 refine B fun _ hK2=>?_
 refine B fun _ hK3=>?_
 refine A ?_
 refine zm O ?_
 refine zn O ?_
 refine zf O ?_
 refine zl O ?_
 refine J (Ca O O) O ?_
 refine zQ hK3 ?_
 refine zB O h (fun _ h=>?_) fun _ h=>?_
 · refine B fun _ hK5=>?_
   refine A ?_
   refine zm O ?_
   refine zm O ?_
   refine zk hp hr h [0] Tryz.call243 (hT.bG p0 p1) O (fun _=>O) fun y6 h=>?_
   refine zs O ?_
   refine zQ hK5 ?_
   refine H ?_
   exact zX (.cons (aZ O O O) .nil) h O
 · refine V ?_
   refine hK2 _ _ ?_
   refine B fun _ hK7=>?_
   refine A ?_
   refine zm O ?_
   refine zk hp hr h [0] Tryz.call34 (aI n p1) O (fun _=>O) fun y8 h=>?_
   refine zm O ?_
   refine zk hp hr h [0] Tryz.call75 (cj n (L.mk y8.2.text y8.2.bo y8.2.at_ p1.base y8.2.skip y8.2.pending)) O (fun _=>O) fun y9 h=>?_
   refine aK 105 (hE _ O) ⟨O,O,O,O⟩ O ?_
   refine zs O ?_
   refine za O ?_
   refine zQ hK7 ?_
   refine B fun _ hK10=>?_
   refine A ?_
   refine za O ?_
   refine zQ hK10 ?_
   refine zM h (fun (v11:Int)=>[(0,.ptr 0 0),(1,Bo p0),(4,.ptr 104 0),(5,.ptr 105 0),(6,I y9.1),(7,I v11)]) (fun (v11:Int)=>[(0,.box (Q y9.2)),(104,.box [I 0,F [],I 0,F [],F [],Sc (.slice none 0 0),Sc (.slice none 0 0),Sc (.slice none 0 0),I 0]),(105,.box (fF y8.1))]) (fun v11 h=>?_) fun _ _ hK13 h=>?_
   · refine B fun _ hK14=>?_
     refine A ?_
     refine zm O ?_
     refine zn O ?_
     refine zf O ?_
     refine zl O ?_
     refine zd hr h fun hg15 h=>?_
     refine zo hg15 O ?_
     refine zn O ?_
     refine zf O ?_
     refine zs O ?_
     refine zQ hK14 ?_
     refine B fun _ hK16=>?_
     refine bL [0,1,2,3,6,4,5,7,8] O (by kernel_rfl) ?_
     refine zD O (W O) O ?_
     refine zD O (bR O) O ?_
     refine zD O (fj [.any,F y8.1.Text,.any,.any] O O ⟨.inr O,.inl O,.inr O,.inr O,trivial⟩ O) O ?_
     refine zD O (W O) O ?_
     refine zD O (W O) O ?_
     refine dL O (bX O) hr h [0] Tryz.call214 (hT.bU false (L.mk y9.2.text y9.2.bo (y9.2.at_+1) y9.2.base y9.2.skip y9.2.pending)) ⟨O,O,O,O,O,O,trivial⟩ O O (fun _=>⟨O,O,O⟩) (fun _=>⟨O,O⟩) hp (fun y17 h=>⟨cP ⟨trivial,⟨trivial,⟨⟨⟨_,O,M.ff ⟨.inr O,.inl O,.inr O,.inr O,trivial⟩⟩,trivial⟩,⟨trivial,⟨trivial,trivial⟩⟩⟩⟩⟩,?_⟩)
     refine ig [y17.1] aj.y O (bX O) ⟨O,O⟩ ⟨O,O⟩ ?_
     refine zD O (dC O O) O ?_
     refine cf O ⟨O,O,O,O,O,O,O,O⟩ O (fun e8 he=>⟨aL O,?_⟩)
     subst he
     refine cX ?_
     refine hK16 _ _ ?_
     refine b3 (jt 104 O O) ?_
     refine H ?_
     exact zX (.cons (aZ O O O) .nil) h O
   · refine z ?_
     refine B fun _ hK18=>?_
     refine A ?_
     refine zA O ?_
     refine zk hp hr h [] Tryz.call151 (lk n y8.1 ([45,32,33]:List UInt8)) O (fun _=>O) fun y19 h=>?_
     refine za O ?_
     refine zQ hK18 ?_
     refine zB O h (fun _ h=>?_) fun _ h=>?_
     · refine A ?_
       refine za O ?_
       refine N ?_
       exact hK13 _ _ _ h O
     · refine B fun _ hK21=>?_
       refine A ?_
       refine zA O ?_
       refine zk hp hr h [] Tryz.call151 (lk n y8.1 ([60,32,60,61,32,62,32,62,61,32,33,61,32,61,126,32,33,126]:List UInt8)) O (fun _=>O) fun y22 h=>?_
       refine za O ?_
       refine zQ hK21 ?_
       refine zB O h (fun _ h=>?_) fun _ h=>?_
       · refine A ?_
         refine za O ?_
         refine N ?_
         exact hK13 _ _ _ h O
       · refine B fun _ hK24=>?_
         refine A ?_
         refine zm O ?_
         refine zm O ?_
         refine zk hp hr h [0] Tryz.call243 (hT.bG p0 y9.2) O (fun _=>O) fun y25 h=>?_
         refine zs O ?_
         refine zQ hK24 ?_
         refine H ?_
         exact zX (.cons (aZ O O O) .nil) h O
theorem nS (n:Nat) (T:m) (hT:bb T) (p0:Bool) (p1:L) (p2:Bool) (p3:(List o)) (p4:(List (List UInt8))):CT Tryz.prog 200 [.ptr 0 0,Bo p0,.fn 203 [] [.ptr 1 0,.ptr 2 0,.ptr 3 0,.ptr 4 0]] [.box (Q p1),.box [.ptr 0 0],.box [Bo p2],.box [.pv (.sl (List.length p3) (o.Cs p3))],.box [.pv (.sl (List.length p4) (ch p4))]] (dV n T p0 p1 p2 p3 p4) (fun _=>.fX []) (fun x=>[.box (Q x.1),.box [.ptr 0 0],.box [Bo x.2.1],.box [.pv (.sl (List.length x.2.2.1) (o.Cs x.2.2.1))],.box [.pv (.sl (List.length x.2.2.2) (ch x.2.2.2))]]):=by
 refine zC Tryz.func200 O fun r hp h hr E hE=>B fun _ hK1=>A (zm O (zn O (zf O (zl O (za O (zQ hK1 (B fun _ hK2=>A (zm O (zm O (zn O (zf O (zs O (zQ hK2 (B fun _ hK3=>A (zm O (zk hp hr h [1,2,3,4,0] Tryz.call203 (hT.eZ p2 p3 p4 (L.mk p1.text p1.bo p1.at_ p1.base p0 p1.pending)) O (fun _=>O) fun y4 h=>zQ hK3 (A (zm O (zm O ?_)))))))))))))))))))
 exact zn O (zf O (zs O (N (zY .nil h O))))
theorem nT (n:Nat) (T:m) (hT:bb T) (p0:Bool) (p1:L) (p2:Bool) (p3:aj):CT Tryz.prog 200 [.ptr 0 0,Bo p0,.fn 237 [] [.ptr 1 0,.ptr 2 0,.ptr 3 0]] [.box (Q p1),.box [.ptr 0 0],.box [Bo p2],.box (be p3)] (c8 n T p0 p1 p2 p3) (fun _=>.fX []) (fun x=>[.box (Q x.1),.box [.ptr 0 0],.box [Bo x.2.1],.box (be x.2.2)]):=by
 refine zC Tryz.func200 O fun r hp h hr E hE=>B fun _ hK1=>A (zm O (zn O (zf O (zl O (za O (zQ hK1 (B fun _ hK2=>A (zm O (zm O (zn O (zf O (zs O (zQ hK2 (B fun _ hK3=>A (zm O (zk hp hr h [1,2,3,0] Tryz.call237 (hT.ea p2 p3 (L.mk p1.text p1.bo p1.at_ p1.base p0 p1.pending)) O (fun _=>O) fun y4 h=>zQ hK3 (A (zm O (zm O ?_)))))))))))))))))))
 exact zn O (zf O (zs O (N (zY .nil h O))))
theorem nU (n:Nat) (T:m) (hT:bb T) (p0:Bool) (p1:L) (p2:aj):CT Tryz.prog 200 [.ptr 0 0,Bo p0,.fn 265 [] [.ptr 1 0,.ptr 2 0]] [.box (Q p1),.box (be p2),.box [.ptr 0 0]] (dW n T p0 p1 p2) (fun _=>.fX []) (fun x=>[.box (Q x.1),.box (be x.2),.box [.ptr 0 0]]):=by
 refine zC Tryz.func200 O fun r hp h hr E hE=>B fun _ hK1=>A (zm O (zn O (zf O (zl O (za O (zQ hK1 (B fun _ hK2=>A (zm O (zm O (zn O (zf O (zs O (zQ hK2 (B fun _ hK3=>A (zm O (zk hp hr h [1,2,0] Tryz.call265 (hT.eB p2 (L.mk p1.text p1.bo p1.at_ p1.base p0 p1.pending)) O (fun _=>O) fun y4 h=>zQ hK3 (A (zm O (zm O ?_)))))))))))))))))))
 exact zn O (zf O (zs O (N (zY .nil h O))))
theorem nV (n:Nat) (T:m) (hT:bb T) (p0:Bool) (p1:L) (p2:aj):CT Tryz.prog 200 [.ptr 0 0,Bo p0,.fn 299 [] [.ptr 1 0,.ptr 2 0]] [.box (Q p1),.box [.ptr 0 0],.box [I p2.Kind,F p2.Text,I p2.jv,F p2.bt,F p2.bz,.arr 3 (List.length p2.bf),.pv (.sl (List.length p2.Decls) (o.Cs p2.Decls)),.pv (.sl (List.length p2.cz) (ch p2.cz)),I p2.Pos],.arr 38 9 (aj.Cs p2.bf)] (dX n T p0 p1 p2) (fun _=>.fX []) (fun x=>[.box (Q x.1),.box [.ptr 0 0],.box [I x.2.Kind,F x.2.Text,I x.2.jv,F x.2.bt,F x.2.bz,.arr 3 (List.length x.2.bf),.pv (.sl (List.length x.2.Decls) (o.Cs x.2.Decls)),.pv (.sl (List.length x.2.cz) (ch x.2.cz)),I x.2.Pos],.arr 38 9 (aj.Cs x.2.bf)]):=by
 refine zC Tryz.func200 O fun r hp h hr E hE=>B fun _ hK1=>A (zm O (zn O (zf O (zl O (za O (zQ hK1 (B fun _ hK2=>A (zm O (zm O (zn O (zf O (zs O (zQ hK2 (B fun _ hK3=>A (zm O (jf hr h [1,2,0,3] Tryz.call299 (hT.fv p2 (L.mk p1.text p1.bo p1.at_ p1.base p0 p1.pending)) ⟨O,O,O,O,O,O,⟨hE _ O,trivial⟩⟩ O (fun _=>⟨O,O,O⟩) (fun _=>⟨O,O⟩) hp (fun y4 h=>?_)))))))))))))))))
 exact zQ hK3 (A (zm O (zm O (zn O (zf O (zs O (N (zY .nil h O))))))))
theorem nW (n:Nat) (T:m) (hT:bb T) (p0:Bool) (p1:L) (p2:(List aj)):CT Tryz.prog 200 [.ptr 0 0,Bo p0,.fn 313 [] [.ptr 1 0,.ptr 2 0]] [.box (Q p1),.box [.ptr 0 0],.box [.arr 3 (List.length p2)],.arr 38 9 (aj.Cs p2)] (dY n T p0 p1 p2) (fun _=>.fX []) (fun x=>[.box (Q x.1),.box [.ptr 0 0],.box [.arr 3 (List.length x.2)],.arr 38 9 (aj.Cs x.2)]):=by
 refine zC Tryz.func200 O fun r hp h hr E hE=>B fun _ hK1=>A (zm O (zn O (zf O (zl O (za O (zQ hK1 (B fun _ hK2=>A (zm O (zm O (zn O (zf O (zs O (zQ hK2 (B fun _ hK3=>A (zm O (jf hr h [1,2,0,3] Tryz.call313 (hT.fu p2 (L.mk p1.text p1.bo p1.at_ p1.base p0 p1.pending)) ⟨O,O,O,O,O,O,⟨hE _ O,trivial⟩⟩ O (fun _=>⟨O,O,O⟩) (fun _=>⟨O,O⟩) hp (fun y4 h=>?_)))))))))))))))))
 exact zQ hK3 (A (zm O (zm O (zn O (zf O (zs O (N (zY .nil h O))))))))
theorem aR:∀ n,bb (ai n)
 | 0=>⟨fun _ _=>cy,fun _ _=>cy,fun _=>cy,fun _ _=>cy,fun _ _ _=>cy,fun _ _=>cy,fun _ _ _ _=>cy,fun _ _=>cy,fun _ _=>cy,fun _ _=>cy,fun _ _=>cy,fun _ _ _=>cy,fun _ _=>cy,fun _ _ _=>cy,fun _ _ _=>cy,fun _=>cy,fun _=>cy,fun _ _=>cy,fun _=>cy,fun _ _=>cy,fun _ _ _=>cy,fun _ _ _=>cy,fun _ _=>cy,fun _ _=>cy,fun _ _=>cy,fun _ _=>cy,fun _ _ _ _ _=>cy,fun _ _ _ _=>cy,fun _ _ _=>cy,fun _ _ _=>cy,fun _ _ _=>cy⟩
 | n+1=>⟨fun p0 p1=>vC n _ (aR n) p0 p1,fun p0 p1=>mT n _ (aR n) p0 p1,fun p0=>qI n _ (aR n) p0,fun p0 p1=>pw n _ (aR n) p0 p1,fun p0 p1 p2=>px n _ (aR n) p0 p1 p2,fun p0 p1=>p8 n _ (aR n) p0 p1,fun p0 p1 p2 p3=>oO n _ (aR n) p0 p1 p2 p3,fun p0 p1=>py n _ (aR n) p0 p1,fun p0 p1=>mU n _ (aR n) p0 p1,fun p0 p1=>qJ n _ (aR n) p0 p1,fun p0 p1=>oa n _ (aR n) p0 p1,fun p0 p1 p2=>oP n _ (aR n) p0 p1 p2,fun p0 p1=>qK n _ (aR n) p0 p1,fun p0 p1 p2=>p9 n _ (aR n) p0 p1 p2,fun p0 p1 p2=>pz n _ (aR n) p0 p1 p2,fun p0=>qL n _ (aR n) p0,fun p0=>qM n _ (aR n) p0,fun p0 p1=>pA n _ (aR n) p0 p1,fun p0=>qb n _ (aR n) p0,fun p0 p1=>pB n _ (aR n) p0 p1,fun p0 p1 p2=>ob n _ (aR n) p0 p1 p2,fun p0 p1 p2=>oQ n _ (aR n) p0 p1 p2,fun p0 p1=>oR n _ (aR n) p0 p1,fun p0 p1=>nR n _ (aR n) p0 p1,fun p0 p1=>oS n _ (aR n) p0 p1,fun p0 p1=>qc n _ (aR n) p0 p1,fun p0 p1 p2 p3 p4=>nS n _ (aR n) p0 p1 p2 p3 p4,fun p0 p1 p2 p3=>nT n _ (aR n) p0 p1 p2 p3,fun p0 p1 p2=>nU n _ (aR n) p0 p1 p2,fun p0 p1 p2=>nV n _ (aR n) p0 p1 p2,fun p0 p1 p2=>nW n _ (aR n) p0 p1 p2⟩
theorem rG (n:Nat) (p0:Bool) (p1:L):CT Tryz.prog 107 [.ptr 0 0,Bo p0] [.box (Q p1)] (cl n p0 p1) (fun x=>.agg (dE x.1)) (fun x=>[.box (Q x.2)]):=(aR n).cl p0 p1
theorem rH (n:Nat) (p0:Bool) (p1:L):CT Tryz.prog 33 [.ptr 0 0,Bo p0] [.box (Q p1)] (aD n p0 p1) (fun x=>.agg (be x.1)) (fun x=>[.box (Q x.2)]):=(aR n).aD p0 p1
end Go.Abs
end
section
namespace Go.Abs
open D
theorem wb {m:Nat→Nat} (hm:cm m) {s:List UInt8} (hs:s.length≤65536):Ev (fun i=>pY (m i) s) (fun r=>r.2=true→r.1.length+2≤s.length) gA:=by
 unfold pY
 refine Ev.iter hm (fun (x:Int×Int)=>0≤x.2∧x.2≤s.length∧x.1≤x.2∧-x.2≤x.1) (fun x=>(s.length - x.2).toNat) (by simp) ?_
 intro x hx next hn
 (repeat' (first|((with_reducible first|refine Ev.gd ?_ ?_|refine Ev.kp ?_ (fun _ _=>?_));(next=>(first|omega|(simp[bK]<;>omega))))|with_reducible (first|apply Ev.cD|apply Ev.cg)|(with_reducible (first|apply Ev.ba|apply Ev.bE|apply Ev.b5|apply Ev.bA|apply Ev.br)<;>intro _)|((with_reducible apply Ev.jN);try dsimp only)))
 ·exact hn _ (by dsimp only;omega) (by dsimp only;omega)
 ·have:=rZ (c:=s) (i:=1) (j:=x.2) (by omega) (by omega) (by omega)
  exact Ev.ok fun _=>by dsimp only;omega
 ·exact hn _ (by dsimp only;omega) (by dsimp only;omega)
 ·exact hn _ (by dsimp only;omega) (by dsimp only;omega)
 ·exact Ev.ok (by simp)
theorem uF {m:Nat→Nat} (hm:cm m) {s:List UInt8} (hs:s.length≤65536) (h0:s[0]?=some 92):Ev (fun i=>nu (m i) s) (fun r=>r.2=0∨2≤r.2∧r.2≤s.length) gA:=by
 unfold nu
 refine Ev.jn (fun v=>2≤v) (fun v hv=>?_) (fun j hj=>?_)
 ·refine Ev.ba (fun _=>Ev.ok (.inl rfl)) (fun h=>?_)
  refine Ev.gd (by omega) ?_
  have hl:=wI (c:=s) (j:=v) (by omega) (by omega)
  refine Ev.gd (by (first|omega|(simp[c7]<;>omega))) (Ev.gd (by (first|omega|(simp[c7]<;>omega))) ?_)
  refine Ev.aQ (pr hm) fun y hy=>?_
  refine Ev.b5 (fun _=>Ev.ok (.inl rfl)) (fun he=>?_)
  have h1:([34]++iU s v++[34])[1]?=some (92:UInt8):=by
   cases s with
   | nil=>simp at h0
   | cons a s=>
    simp at h0;subst h0
    have:v.toNat=(v.toNat - 1)+1:=by omega
    simp[iU];rw[this];simp
  have:=hy.2 _ h1 (by decide) he
  refine Ev.el (by omega) (by omega) fun b _=>Ev.ok (.inr ⟨hv,by dsimp only;omega⟩)
 ·refine Ev.aQ p7 fun y _=>?_
  (repeat' (first|((with_reducible first|refine Ev.gd ?_ ?_|refine Ev.kp ?_ (fun _ _=>?_));(next=>(first|omega|(simp[bK,cV,c7,maxLen]<;>omega))))|with_reducible (first|apply Ev.cD|apply Ev.cg)|(with_reducible (first|apply Ev.ba|apply Ev.bE|apply Ev.b5|apply Ev.bA|apply Ev.br)<;>intro _)|((with_reducible apply Ev.jN);try dsimp only)))
  all_goals exact hj _ (by omega)
def z7 (n:Nat) (x:aS):Prop:=0≤x.Pos∧x.Pos≤n∧(x.Code=true→x.Pos+x.Text.length<n)
theorem oC {t:List Int} {out:List aS} {f:Int} (ho:out.length≤70000) :
  Ev (fun _=>kn t out f) (fun r=>r.1=[]∧r.2.2=f∧((t=[]∧r.2.1=out)∨(1≤t.length∧∃ x:aS,r.2.1=out++[x]∧x.Code=false∧x.Pos=f))) gA:=by
 unfold kn
 (repeat' (first|((with_reducible first|refine Ev.gd ?_ ?_|refine Ev.kp ?_ (fun _ _=>?_));(next=>(first|omega|(simp[cV,maxLen]<;>omega))))|with_reducible (first|apply Ev.cD|apply Ev.cg)|(with_reducible (first|apply Ev.ba|apply Ev.bE|apply Ev.b5|apply Ev.bA|apply Ev.br)<;>intro _)|((with_reducible apply Ev.jN);try dsimp only)))
 ·exact Ev.ok ⟨rfl,rfl,.inr ⟨by omega,_,rfl,rfl,rfl⟩⟩
 ·exact Ev.ok ⟨rfl,rfl,.inl ⟨List.eq_nil_of_length_eq_zero (by omega),rfl⟩⟩
theorem qC {m:Nat→Nat} (hm:cm m) {s:List UInt8} (hs:s.length≤65536):Ev (fun i=>lr (m i) s) (fun r=>r.1.length≤s.length∧∀ x,x∈r.1→z7 s.length x) gA:=by
 unfold lr
 refine Ev.iter hm (fun (x:List aS×List Int×Int×Int)=>0≤x.2.2.2∧x.2.2.2≤s.length∧0≤x.2.2.1∧x.2.2.1≤s.length∧(x.1.length:Int)+min 1 x.2.1.length≤x.2.2.2∧(x.2.1.length:Int)≤x.2.2.2∧∀ p,p∈x.1→z7 s.length p)
  (fun x=>(s.length - x.2.2.2).toNat) (by simp) ?_
 rintro ⟨out,t,f,i⟩ ⟨h1,h2,h3,h4,h5,h6,h7⟩ next hn
 dsimp only at h1 h2 h3 h4 h5 h6 h7 hn ⊢
 refine Ev.ba (fun hi=>?_) (fun hi=>?_)
 ·refine Ev.jn (fun v=>0≤v∧v≤s.length) (fun v hv=>?_) (fun j hj=>?_)
  ·refine Ev.gd (by omega) (Ev.aQ p7 fun y hy=>?_)
   refine Ev.br (fun hp=>?_) (fun _=>?_)
   ·refine Ev.gd (by (first|omega|(simp[bK]<;>omega))) (Ev.gd (by omega) ?_)
    have hl:=jR (c:=s) (i:=i+1) (by omega) (by omega)
    refine Ev.aQ (wb hm (by omega)) fun c hc=>?_
    refine Ev.bA (fun _=>Ev.ok ⟨by simp,fun _ h=>by cases h⟩) (fun hct=>?_)
    have hc2:=hc hct
    refine Ev.aQ (oC (by omega)) fun r hr=>?_
    obtain ⟨r1,r2,r3⟩:=hr
    have hr4:(r.2.1.length:Int)≤i∧∀ p,p∈r.2.1→z7 s.length p:=by
     rcases r3 with ⟨a,b⟩|⟨a,x,b,c1,c2⟩
     ·rw[b];subst a;exact ⟨by simp at h5;omega,h7⟩
     ·rw[b];refine ⟨by simp;omega,fun p hp=>?_⟩
      rcases List.mem_append.1 hp with q|q
      ·exact h7 p q
      ·simp at q;subst q;exact ⟨by omega,by omega,fun q=>by rw[c1] at q;cases q⟩
    (repeat' (first|((with_reducible first|refine Ev.gd ?_ ?_|refine Ev.kp ?_ (fun _ _=>?_));(next=>(first|omega|(simp[bK,cV,maxLen]<;>omega))))|with_reducible (first|apply Ev.cD|apply Ev.cg)|(with_reducible (first|apply Ev.ba|apply Ev.bE|apply Ev.b5|apply Ev.bA|apply Ev.br)<;>intro _)|((with_reducible apply Ev.jN);try dsimp only)))
    refine hn _ ⟨by dsimp only;omega,by dsimp only;omega,by dsimp only;omega,by dsimp only;omega,by rw[r1];simp;omega,by rw[r1];simp;omega,fun p hp=>?_⟩ (by dsimp only;omega)
    rcases List.mem_append.1 hp with q|q
    ·exact hr4.2 p q
    ·simp at q;subst q;exact ⟨by dsimp only;omega,by dsimp only;omega,fun _=>by dsimp only;omega⟩
   ·refine Ev.el (by omega) (by omega) (fun b hb=>?_)
    refine Ev.bE (fun h92=>?_) (fun _=>?_)
    ·refine Ev.gd (by omega) ?_
     have hl:=jR (c:=s) (i:=i) (by omega) (by omega)
     have h0:(dp s i)[0]?=some (92:UInt8):=by
      simp only[dp,List.getElem?_drop,Nat.add_zero,hb]
      congr 1
      apply UInt8.toNat_inj.1;show b.toNat=92;omega
     refine Ev.aQ (uF hm (by omega) h0) fun e he=>?_
     refine Ev.bE (fun _=>Ev.ok ⟨by simp,fun _ h=>by cases h⟩) (fun hne=>?_)
     (repeat' (first|((with_reducible first|refine Ev.gd ?_ ?_|refine Ev.kp ?_ (fun _ _=>?_));(next=>(first|omega|(simp[bK,cV,maxLen]<;>omega))))|with_reducible (first|apply Ev.cD|apply Ev.cg)|(with_reducible (first|apply Ev.ba|apply Ev.bE|apply Ev.b5|apply Ev.bA|apply Ev.br)<;>intro _)|((with_reducible apply Ev.jN);try dsimp only)))
     exact hn _ ⟨by dsimp only;omega,by dsimp only;omega,hv.1,hv.2,by simp;omega,by simp;omega,h7⟩ (by dsimp only;omega)
    ·refine Ev.jn (fun _=>True) (fun w _=>?_) (fun j2 hj2=>?_)
     ·refine Ev.br (fun _=>Ev.ok ⟨by simp,fun _ h=>by cases h⟩) (fun _=>?_)
      (repeat' (first|((with_reducible first|refine Ev.gd ?_ ?_|refine Ev.kp ?_ (fun _ _=>?_));(next=>(first|omega|(simp[bK,cV,maxLen]<;>omega))))|with_reducible (first|apply Ev.cD|apply Ev.cg)|(with_reducible (first|apply Ev.ba|apply Ev.bE|apply Ev.b5|apply Ev.bA|apply Ev.br)<;>intro _)|((with_reducible apply Ev.jN);try dsimp only)))
      exact hn _ ⟨by dsimp only;omega,by dsimp only;omega,hv.1,hv.2,by simp;omega,by simp;omega,h7⟩ (by dsimp only;omega)
     ·(repeat' (first|((with_reducible first|refine Ev.gd ?_ ?_|refine Ev.kp ?_ (fun _ _=>?_));(next=>(first|omega|(simp[bK,cV,c7,maxLen]<;>omega))))|with_reducible (first|apply Ev.cD|apply Ev.cg)|(with_reducible (first|apply Ev.ba|apply Ev.bE|apply Ev.b5|apply Ev.bA|apply Ev.br)<;>intro _)|((with_reducible apply Ev.jN);try dsimp only)))
      all_goals exact hj2 _ trivial
  ·(repeat' (first|((with_reducible first|refine Ev.gd ?_ ?_|refine Ev.kp ?_ (fun _ _=>?_));(next=>(first|omega|(simp[bK,cV,c7,maxLen]<;>omega))))|with_reducible (first|apply Ev.cD|apply Ev.cg)|(with_reducible (first|apply Ev.ba|apply Ev.bE|apply Ev.b5|apply Ev.bA|apply Ev.br)<;>intro _)|((with_reducible apply Ev.jN);try dsimp only)))
   all_goals exact hj _ (by omega)
 ·refine Ev.aQ (oC (by omega)) fun r hr=>?_
  obtain ⟨r1,r2,r3⟩:=hr
  refine Ev.ok ?_
  rcases r3 with ⟨a,b⟩|⟨a,x,b,c1,c2⟩
  ·dsimp only;rw[b];exact ⟨by omega,h7⟩
  ·dsimp only;rw[b];refine ⟨by simp;omega,fun p hp=>?_⟩
   rcases List.mem_append.1 hp with q|q
   ·exact h7 p q
   ·simp at q;subst q;exact ⟨by omega,by omega,fun q=>by rw[c1] at q;cases q⟩
structure Hg (a:Int) (t:au):Prop where
 p0:0≤t.Pos
 pe:t.Pos<t.End
 e:t.End≤a
 k:t.Kind≠0
 ip:t.Kind=4→(t.Text.length:Int)+2≤t.End - t.Pos
 tl:t.Text.length≤65536
structure ur (a:Int) (l:List au):Prop where
 len:(l.length:Int)≤a
 ok:∀ t,t∈l→Hg a t
 sorted:l.Pairwise fun t u=>t.End≤u.Pos
theorem ur.snoc {a:Int} {l:List au} (h:ur a l) {t:au} (h1:t.Pos=a) (h2:a<t.End) (h0:0≤a) (hk:t.Kind≠0) (hi:t.Kind=4→(t.Text.length:Int)+2≤t.End - t.Pos) (hl:t.Text.length≤65536):ur t.End (l++[t]):=by
 refine ⟨by have:=h.len;simp;omega,fun u hu=>?_,?_⟩
 ·rcases List.mem_append.1 hu with q|q
  ·obtain ⟨a1,a2,a3,a4,a5,a6⟩:=h.ok u q
   exact ⟨a1,a2,by omega,a4,a5,a6⟩
  ·simp at q;subst q;exact ⟨by omega,by omega,by omega,hk,hi,hl⟩
 ·refine List.pairwise_append.2 ⟨h.sorted,by simp,fun u hu v hv=>?_⟩
  simp at hv;subst hv
  have:=(h.ok u hu).e;omega
theorem ur.mono {a b:Int} {l:List au} (h:ur a l) (hab:a≤b):ur b l:=
 ⟨by have:=h.len;omega,fun t ht=>let q:=h.ok t ht;⟨q.p0,q.pe,by have:=q.e;omega,q.k,q.ip,q.tl⟩,h.sorted⟩
structure yS (s:List UInt8) (x:P):Prop where
 text:x.text=s
 vM:0≤x.at_
 wK:x.at_≤s.length
 out:ur x.at_ x.out
theorem mz {k n:Int} {t:List UInt8} {x:P} (h0:0≤x.at_) (h1:x.at_≤70000) (hn:0≤n) (hn2:n≤70000) (ho:x.out.length≤70000) (ht:t.length≤70000) :
  Ev (fun _=>bD k t n x) (fun r=>r.text=x.text∧r.at_=x.at_+n∧r.out=x.out++[au.mk k t x.at_ (x.at_+n)]) gA:=by
 unfold bD
 refine Ev.gd (by (first|omega|(simp[bK]<;>omega))) (Ev.gd (by (first|omega|(simp[cV,maxLen]<;>omega))) (Ev.gd (by (first|omega|(simp[bK]<;>omega))) (Ev.bE (fun _=>Ev.ok ⟨rfl,rfl,rfl⟩) (fun _=>?_))))
 refine Ev.jn (fun _=>True) (fun v _=>?_) (fun j hj=>?_)
 ·refine Ev.br (fun _=>Ev.ok ⟨rfl,rfl,rfl⟩) (fun _=>?_)
  refine Ev.bE (fun _=>?_) (fun _=>Ev.ok ⟨rfl,rfl,rfl⟩)
  (repeat' (first|((with_reducible first|refine Ev.gd ?_ ?_|refine Ev.kp ?_ (fun _ _=>?_));(next=>(first|omega|(simp[c7]<;>omega))))|with_reducible (first|apply Ev.cD|apply Ev.cg)|(with_reducible (first|apply Ev.ba|apply Ev.bE|apply Ev.b5|apply Ev.bA|apply Ev.br)<;>intro _)|((with_reducible apply Ev.jN);try dsimp only)))
  exact Ev.aQ (oB (by simp)) fun y _=>Ev.ok ⟨rfl,rfl,rfl⟩
 ·(repeat' (first|((with_reducible first|refine Ev.gd ?_ ?_|refine Ev.kp ?_ (fun _ _=>?_));(next=>(first|omega|(simp[bK,cV,c7,maxLen]<;>omega))))|with_reducible (first|apply Ev.cD|apply Ev.cg)|(with_reducible (first|apply Ev.ba|apply Ev.bE|apply Ev.b5|apply Ev.bA|apply Ev.br)<;>intro _)|((with_reducible apply Ev.jN);try dsimp only)))
  all_goals exact hj _ trivial
theorem yS.add {s:List UInt8} (hs:s.length≤65536) {x:P} (h:yS s x) {k n:Int} {t:List UInt8} (hn:1≤n) (hn2:x.at_+n≤s.length) (ht:t.length≤65536) (hk:k≠0) (hi:k=4→(t.length:Int)+2≤n) :
  Ev (fun _=>bD k t n x) (fun r=>yS s r∧x.at_<r.at_) gA:=by
 have hl:=h.out.len
 have h0:=h.vM
 have h1:=h.wK
 refine (mz (k:=k) (t:=t) h0 (by omega) (by omega) (by omega) (by omega) (by omega)).yA fun r hr=>?_
 refine ⟨⟨by rw[hr.1];exact h.text,by omega,by omega,?_⟩,by omega⟩
 rw[hr.2.1,hr.2.2]
 have:=h.out.snoc (t:=au.mk k t x.at_ (x.at_+n)) rfl (by dsimp only;omega) h0 hk (fun q=>by have:=hi q;dsimp only;omega) ht
 exact this
theorem rI {m:Nat→Nat} (hm:cm m) {s:List UInt8} (hs:s.length≤65536) {x:P} (h:yS s x) :
  Ev (fun i=>gq (m i) x) (fun r=>yS s r.2∧(r.1=true→x.at_<r.2.at_)) gA:=by
 have hl:=h.out.len
 have h0:=h.vM
 have h1:=h.wK
 have ht:=h.text
 unfold gq
 simp only[ht]
 refine Ev.gd (by omega) ?_
 have hq:=jR (c:=s) (i:=x.at_) (by omega) (by omega)
 refine Ev.aQ (tR hm (by omega)) fun y hy=>?_
 refine Ev.bE (fun _=>Ev.ok ⟨h,by simp⟩) (fun hne=>?_)
 refine Ev.gd (by (first|omega|(simp[bK]<;>omega))) (Ev.gd (by omega) ?_)
 have hq2:=rZ (c:=s) (i:=x.at_) (j:=x.at_+y.1) (by omega) (by omega) (by omega)
 refine Ev.br (fun _=>?_) (fun _=>?_)
 ·refine Ev.gd (by (first|omega|(simp[bK]<;>omega))) (Ev.gd (by omega) ?_)
  have hq3:=rZ (c:=sub s x.at_ (x.at_+y.1)) (i:=1) (j:=y.1 - 1) (by omega) (by omega) (by omega)
  refine Ev.aQ (qC hm (by omega)) fun z _=>?_
  refine Ev.b5 (fun _=>Ev.ok ⟨h,by simp⟩) (fun _=>?_)
  refine Ev.gd (by (first|omega|(simp[bK]<;>omega))) (Ev.gd (by omega) ?_)
  refine Ev.aQ (h.add hs (by omega) (by omega) (by omega) (by decide) (fun _=>by omega)) fun r hr=>Ev.ok ⟨hr.1,fun _=>hr.2⟩
 ·refine Ev.aQ (pr hm) fun z hz=>?_
  refine Ev.b5 (fun _=>Ev.ok ⟨h,by simp⟩) (fun _=>?_)
  refine Ev.aQ (h.add hs (by omega) (by omega) (by omega) (by decide) (fun q=>by simp at q)) fun r hr=>Ev.ok ⟨hr.1,fun _=>hr.2⟩
theorem xy:∀ (s p:List UInt8) (i:Nat),mn s p=some i→i≤s.length
 | [],p,i,h=>by
  unfold mn at h;split at h
  ·cases h;simp
  ·cases h
 | b::l,p,i,h=>by
  unfold mn at h;split at h
  ·cases h;simp
  ·cases q:mn l p with
   | none=>rw[q] at h;cases h
   | some k=>rw[q] at h;cases h;have:=xy l p k q;simp;omega
theorem Bs {s p:List UInt8} (h:(iU s p.length==p)=true):∃ r,s=p++r:=by
 have:=beq_iff_eq.1 h
 simp only[iU,Int.toNat_natCast] at this
 exact ⟨s.drop p.length,by conv=>lhs;rw[← List.take_append_drop p.length s,this]⟩
theorem wc {s p:List UInt8}:Ev (fun _=>strings_HasPrefix s p) (fun r=>r=true→∃ q,s=p++q) gA:=by
 unfold strings_HasPrefix stringslite_HasPrefix
 refine Ev.aQ (Q:=fun r=>r=true→∃ q,s=p++q) ?_ fun _ h=>Ev.ok h
 (repeat' (first|((with_reducible first|refine Ev.gd ?_ ?_|refine Ev.kp ?_ (fun _ _=>?_));(next=>(first|omega|(simp[bK,cV,c7,maxLen]<;>omega))))|with_reducible (first|apply Ev.cD|apply Ev.cg)|(with_reducible (first|apply Ev.ba|apply Ev.bE|apply Ev.b5|apply Ev.bA|apply Ev.br)<;>intro _)|((with_reducible apply Ev.jN);try dsimp only)))
 ·exact Ev.ok (fun h=>Bs h)
 ·exact Ev.ok (by simp)
theorem qN {m:Nat→Nat} (hm:cm m) {s:List UInt8} (hs:s.length≤65536) {x:P} (h:yS s x) (hlt:x.at_<s.length) :
  Ev (fun i=>ej (m i) x) (fun r=>yS s r.2∧(r.1=true→x.at_<r.2.at_)) gA:=by
 have hl:=h.out.len
 have h0:=h.vM
 have h1:=h.wK
 have ht:=h.text
 unfold ej
 simp only[ht]
 refine Ev.gd (by omega) ?_
 have hq:=jR (c:=s) (i:=x.at_) (by omega) (by omega)
 refine Ev.aQ wc fun y hy=>?_
 refine Ev.br (fun hp=>?_) (fun _=>?_)
 ·obtain ⟨r,hr⟩:=hy hp
  rw[hr] at hq ⊢
  refine Ev.ep (Q:=fun c=>2≤c.1.length∧c.1.length≤([47,47]++r:List UInt8).length) ?_ fun c hc=>?_
  ·unfold strings_Cut
   refine Ev.gd (by omega) (Ev.ok ?_)
   split
   ·rename_i i hi
    have:=xy _ _ _ hi
    refine ⟨?_,by simp;omega⟩
    have h2:2≤i:=by
     cases q:mn r [10] with
     | none=>simp[mn,q] at hi
     | some k=>simp[mn,q] at hi;omega
    simp at this ⊢;omega
   ·simp
  ·refine Ev.gd (by omega) ?_
   have:=jR (c:=c.1) (i:=2) (by omega) (by omega)
   refine Ev.aQ (h.add hs (by omega) (by omega) (by omega) (by decide) (fun q=>by simp at q)) fun r hr=>Ev.ok ⟨hr.1,fun _=>hr.2⟩
 ·refine Ev.aQ (wa hm (by omega)) fun y hy=>?_
  refine Ev.ba (fun hp=>?_) (fun _=>?_)
  ·refine Ev.gd (by omega) ?_
   have:=vo (c:=dp s x.at_) (j:=y)
   refine Ev.aQ (h.add hs (by omega) (by omega) (by omega) (by decide) (fun q=>by simp at q)) fun r hr=>Ev.ok ⟨hr.1,fun _=>hr.2⟩
  ·refine Ev.el (by omega) (by omega) (fun b hb=>?_)
   refine Ev.aQ ko fun d hd=>?_
   refine Ev.br (fun hdt=>?_) (fun _=>?_)
   ·rw[hd] at hdt
    have hdd:=of_decide_eq_true hdt
    refine Ev.aQ (uD hm (by omega)) fun y hy=>?_
    have hy1:=hy.2.2 b hb hdd.1 hdd.2
    refine Ev.gd (by omega) ?_
    have:=vo (c:=dp s x.at_) (j:=y)
    refine Ev.aQ (rz hm) fun z _=>?_
    refine Ev.b5 (fun _=>Ev.ok ⟨h,by simp⟩) (fun _=>?_)
    refine Ev.gd (by omega) ?_
    refine Ev.aQ (h.add hs (by omega) (by omega) (by omega) (by decide) (fun q=>by simp at q)) fun r hr=>Ev.ok ⟨hr.1,fun _=>hr.2⟩
   ·refine Ev.bE (fun _=>?_) (fun _=>?_)
    ·exact Ev.aQ (rI hm hs h) fun r hr=>Ev.ok hr
    ·refine Ev.aQ (s7 hm) fun y hy=>?_
     refine Ev.bE (fun _=>Ev.ok ⟨h,by simp⟩) (fun hne=>?_)
     have:1≤y.length:=by
      cases y with
      | nil=>exact absurd rfl hne
      | cons=>simp
     refine Ev.aQ (h.add hs (by omega) (by omega) (by omega) (by decide) (fun q=>by simp at q)) fun r hr=>Ev.ok ⟨hr.1,fun _=>hr.2⟩
structure CV (s:List UInt8) (bo:List au):Prop where
 H3:s.length≤65536
 is:∃ l,bo=l++[au.mk 0 [] s.length s.length]∧ur s.length l
theorem oT {m:Nat→Nat} (hm:cm m) {s:List UInt8}:Ev (fun i=>fP (m i) s) (fun r=>0≤r.2.At∧r.2.At≤s.length∧(r.2.Errno=0→r.2.At=0∧CV s r.1)) gA:=by
 unfold fP
 refine Ev.ba (fun _=>Ev.ok ⟨by simp,by simp,by simp⟩) (fun h=>?_)
 refine Ev.iter hm (fun (x:P)=>yS s x) (fun x=>(s.length - x.at_).toNat) ⟨rfl,by simp,by simp,by simp,by simp,by simp⟩ ?_
 intro x hx next hn
 have hl:=hx.out.len
 have h0:=hx.vM
 have h1:=hx.wK
 refine Ev.ba (fun hlt=>?_) (fun hge=>?_)
 ·refine Ev.el (by omega) (by omega) (fun b hb=>?_)
  refine Ev.jn (fun _=>True) (fun v _=>?_) (fun j hj=>?_)
  ·refine Ev.gd (by (first|omega|(simp[bK]<;>omega))) (hn _ ⟨hx.text,by dsimp only;omega,by dsimp only;omega,hx.out.mono (by dsimp only;omega)⟩ (by dsimp only;omega))
  ·refine Ev.bE (fun _=>?_) (fun _=>?_)
   ·refine Ev.br (fun _=>?_) (fun _=>hj _ trivial)
    refine Ev.aQ (hx.add (by omega) (by omega) (by omega) (by simp) (by decide) (fun q=>by simp at q)) fun r hr=>?_
    exact hn _ ⟨hr.1.text,hr.1.vM,hr.1.wK,hr.1.out⟩ (by have:=hr.1.wK;dsimp only;omega)
   ·(repeat' (first|((with_reducible first|refine Ev.gd ?_ ?_|refine Ev.kp ?_ (fun _ _=>?_));(next=>(first|omega|(simp[bK,cV,c7,maxLen]<;>omega))))|with_reducible (first|apply Ev.cD|apply Ev.cg)|(with_reducible (first|apply Ev.ba|apply Ev.bE|apply Ev.b5|apply Ev.bA|apply Ev.br)<;>intro _)|((with_reducible apply Ev.jN);try dsimp only)))
    all_goals first|exact hj _ trivial|skip
    refine Ev.aQ (qN hm (by omega) hx hlt) fun r hr=>?_
    refine Ev.bA (fun _=>Ev.ok ⟨hr.1.vM,hr.1.wK,by simp⟩) (fun hb=>hn _ hr.1 (by have:=hr.1.wK;have:=hr.2 hb;omega))
 ·have:x.at_=s.length:=by omega
  refine Ev.aQ (mz (by omega) (by omega) (by omega) (by omega) (by omega) (by simp)) fun r hr=>?_
  refine Ev.ok ⟨by simp,by simp,fun _=>⟨rfl,by omega,x.out,?_,this▸hx.out⟩⟩
  rw[hr.2.2,this];simp
theorem wrap_i64 {x:Int} (h0:-9223372036854775808≤x) (h1:x≤9223372036854775807):IntKind.wrap .i64 x=x:=by
 have:IntKind.wrap .i64 x=if x % 18446744073709551616≥9223372036854775808 then x % 18446744073709551616 - 18446744073709551616 else x % 18446744073709551616:=by
  simp[IntKind.wrap,IntKind.bits,IntKind.signed]
 rw[this];split<;>omega
theorem Eg {v:Int} (h0:0≤v) (h1:v<256):0≤IntKind.wrap .i64 (Int.tdiv v 64)∧IntKind.wrap .i64 (Int.tdiv v 64)<4:=by
 have:Int.tdiv v 64=v / 64:=Int.tdiv_eq_ediv_of_nonneg h0
 rw[this,wrap_i64 (by omega) (by omega)];omega
theorem fM {m:Nat→Nat} (hm:cm m) {a b:Int}:Ev (fun i=>gk (m i) a b) (fun _=>True) gA:=by
 unfold gk
 refine Ev.iter hm (fun (x:fl×Int)=>0≤x.2∧x.2≤256) (fun x=>(256 - x.2).toNat) (by simp) ?_
 intro x hx next hn
 refine Ev.ba (fun h=>?_) (fun _=>Ev.ok trivial)
 have hw:=Eg hx.1 h
 have ht:0≤Int.tmod x.2 64:=Int.tmod_nonneg _ hx.1
 refine Ev.jn (fun _=>True) (fun v _=>?_) (fun j hj=>?_)
 ·refine Ev.br (fun _=>?_) (fun _=>?_)
  ·refine Ev.gd (by omega) (Ev.gd hw (Ev.gd (by omega) (Ev.gd ht (Ev.gd hw (Ev.gd (by (first|omega|(simp[bK]<;>omega))) ?_)))))
   exact hn _ (by dsimp only;omega) (by dsimp only;omega)
  ·refine Ev.gd (by (first|omega|(simp[bK]<;>omega))) ?_
   exact hn _ (by dsimp only;omega) (by dsimp only;omega)
 ·(repeat' (first|((with_reducible first|refine Ev.gd ?_ ?_|refine Ev.kp ?_ (fun _ _=>?_));(next=>(first|omega|(simp[bK,cV,c7,maxLen]<;>omega))))|with_reducible (first|apply Ev.cD|apply Ev.cg)|(with_reducible (first|apply Ev.ba|apply Ev.bE|apply Ev.b5|apply Ev.bA|apply Ev.br)<;>intro _)|((with_reducible apply Ev.jN);try dsimp only)))
  all_goals exact hj _ trivial
theorem iR {m:Nat→Nat} (hm:cm m) {a b:fl}:Ev (fun i=>iO (m i) a b) (fun _=>True) gA:=by
 unfold iO
 refine Ev.iter hm (fun (x:fl×Int)=>0≤x.2∧x.2≤4) (fun x=>(4 - x.2).toNat) (by simp) ?_
 intro x hx next hn
 (repeat' (first|((with_reducible first|refine Ev.gd ?_ ?_|refine Ev.kp ?_ (fun _ _=>?_));(next=>(first|omega|(simp[bK]<;>omega))))|with_reducible (first|apply Ev.cD|apply Ev.cg)|(with_reducible (first|apply Ev.ba|apply Ev.bE|apply Ev.b5|apply Ev.bA|apply Ev.br)<;>intro _)|((with_reducible apply Ev.jN);try dsimp only)))
 ·exact hn _ (by dsimp only;omega) (by dsimp only;omega)
 ·exact Ev.ok trivial
theorem vD {m:Nat→Nat} (hm:cm m) {a:fl}:Ev (fun i=>oA (m i) a) (fun _=>True) gA:=by
 unfold oA
 refine Ev.iter hm (fun (x:fl×Int)=>0≤x.2∧x.2≤4) (fun x=>(4 - x.2).toNat) (by simp) ?_
 intro x hx next hn
 (repeat' (first|((with_reducible first|refine Ev.gd ?_ ?_|refine Ev.kp ?_ (fun _ _=>?_));(next=>(first|omega|(simp[bK]<;>omega))))|with_reducible (first|apply Ev.cD|apply Ev.cg)|(with_reducible (first|apply Ev.ba|apply Ev.bE|apply Ev.b5|apply Ev.bA|apply Ev.br)<;>intro _)|((with_reducible apply Ev.jN);try dsimp only)))
 ·exact hn _ (by dsimp only;omega) (by dsimp only;omega)
 ·exact Ev.ok trivial
inductive we:u→Prop where
 | mk {k a b c d:Int} {l:List u} (h:l.length≤70000) (hs:∀ x,x∈l→we x):we (u.mk k a b c d l)
theorem we.leaf {k a b c d:Int}:we (u.mk k a b c d []):=.mk (by simp) (by simp)
theorem vE {m:Nat→Nat} (hm:cm m) {c:Int}:Ev (fun i=>ow (m i) c) (fun _=>True) gA:=by
 unfold ow
 refine Ev.aQ (fM hm) fun _ _=>?_
 (repeat' (first|((with_reducible first|refine Ev.gd ?_ ?_|refine Ev.kp ?_ (fun _ _=>?_));(next=>(first|omega|(simp[bK,cV,c7,maxLen]<;>omega))))|with_reducible (first|apply Ev.cD|apply Ev.cg)|(with_reducible (first|apply Ev.ba|apply Ev.bE|apply Ev.b5|apply Ev.bA|apply Ev.br)<;>intro _)|((with_reducible apply Ev.jN);try dsimp only)))
 ·exact Ev.ok trivial
 ·refine Ev.aQ (fM hm) fun _ _=>Ev.aQ (fM hm) fun _ _=>Ev.aQ (iR hm) fun _ _=>Ev.aQ (iR hm) fun _ _=>Ev.aQ (fM hm) fun _ _=>Ev.aQ (iR hm) fun _ _=>Ev.ok trivial
 ·refine Ev.aQ (fM hm) fun _ _=>Ev.aQ (fM hm) fun _ _=>Ev.aQ (iR hm) fun _ _=>Ev.aQ (fM hm) fun _ _=>Ev.aQ (iR hm) fun _ _=>Ev.ok trivial
 ·exact Ev.ok trivial
theorem qd {m:Nat→Nat} (hm:cm m) {c:Int}:Ev (fun i=>nF (m i) c) we gA:=by
 unfold nF
 exact Ev.aQ (fM hm) fun _ _=>Ev.ok .leaf
def RP:oj→Prop:=fun p=>∃ v:Int,p=⟨202,[.sc (.int .i64 v)]⟩
theorem so {α:Type} {a:Int} {p:R} {K:Nat→R→D α} {Q:α→Prop}:Ev (fun i=>D.bind (dt a p) (K i)) Q RP:=by
 unfold dt
 exact Ev.kT ⟨a,rfl⟩
structure RI (s:List UInt8) (p:R):Prop where
 text:p.text=s
 vM:0≤p.at_
 wK:p.at_≤s.length
theorem cC {s:List UInt8} {p:R} (h:RI s p):Ev (fun _=>cA p) (fun r=>r.2=p∧(r.1≠0→p.at_<s.length)) gA:=by
 have h0:=h.vM
 have ht:=h.text
 unfold cA
 rw[ht]
 (repeat' (first|((with_reducible first|refine Ev.gd ?_ ?_|refine Ev.kp ?_ (fun _ _=>?_));(next=>(first|omega|(simp[bK,cV,c7,maxLen]<;>omega))))|with_reducible (first|apply Ev.cD|apply Ev.cg)|(with_reducible (first|apply Ev.ba|apply Ev.bE|apply Ev.b5|apply Ev.bA|apply Ev.br)<;>intro _)|((with_reducible apply Ev.jN);try dsimp only)))
 ·exact Ev.ok ⟨rfl,fun _=>by omega⟩
 ·exact Ev.ok ⟨rfl,fun h=>absurd rfl h⟩
theorem vF {c:Int}:Ev (fun _=>oz c) (fun r=>r.2=true→c≠0) gA:=by
 unfold oz
 refine Ev.jn (fun v=>v=true→c≠0) (fun v hv=>?_) (fun j hj=>?_)
 ·refine Ev.br (fun h=>Ev.ok fun _=>hv h) (fun _=>?_)
  refine Ev.jn (fun v=>v=true→c≠0) (fun v hv=>?_) (fun j hj=>?_)
  ·refine Ev.br (fun h=>Ev.ok fun _=>hv h) (fun _=>?_)
   (repeat' (first|((with_reducible first|refine Ev.gd ?_ ?_|refine Ev.kp ?_ (fun _ _=>?_));(next=>(first|omega|(simp[bK,cV,c7,maxLen]<;>omega))))|with_reducible (first|apply Ev.cD|apply Ev.cg)|(with_reducible (first|apply Ev.ba|apply Ev.bE|apply Ev.b5|apply Ev.bA|apply Ev.br)<;>intro _)|((with_reducible apply Ev.jN);try dsimp only)))
   ·exact Ev.ok fun _=>by omega
   all_goals exact Ev.ok (by simp)
  ·(repeat' (first|((with_reducible first|refine Ev.gd ?_ ?_|refine Ev.kp ?_ (fun _ _=>?_));(next=>(first|omega|(simp[bK,cV,c7,maxLen]<;>omega))))|with_reducible (first|apply Ev.cD|apply Ev.cg)|(with_reducible (first|apply Ev.ba|apply Ev.bE|apply Ev.b5|apply Ev.bA|apply Ev.br)<;>intro _)|((with_reducible apply Ev.jN);try dsimp only)))
   ·exact hj _ fun _=>by omega
   ·exact hj _ (by simp)
 ·(repeat' (first|((with_reducible first|refine Ev.gd ?_ ?_|refine Ev.kp ?_ (fun _ _=>?_));(next=>(first|omega|(simp[bK,cV,c7,maxLen]<;>omega))))|with_reducible (first|apply Ev.cD|apply Ev.cg)|(with_reducible (first|apply Ev.ba|apply Ev.bE|apply Ev.b5|apply Ev.bA|apply Ev.br)<;>intro _)|((with_reducible apply Ev.jN);try dsimp only)))
  ·exact hj _ fun _=>by omega
  ·exact hj _ (by simp)
theorem nv {m:Nat→Nat} (hm:cm m) {s:List UInt8} (hs:s.length≤70000) {p:R} (h:RI s p) (hlt:p.at_<s.length) {c:Int} :
  Ev (fun i=>gJ (m i) c p) (fun r=>RI s r.2∧p.at_<r.2.at_) RP:=by
 have h0:=h.vM
 unfold gJ
 refine Ev.iter hm (fun (x:R×Int×Int)=>RI s x.1∧x.1.at_<s.length∧p.at_≤x.1.at_∧0≤x.2.2∧x.2.2≤2) (fun x=>(2 - x.2.2).toNat) ⟨h,hlt,by simp,by simp,by simp⟩ ?_
 rintro x ⟨h1,h2,h3,h4,h5⟩ next hn
 have h6:=h1.vM
 refine Ev.ba (fun hi=>?_) (fun hi=>?_)
 ·refine Ev.gd (by omega) (Ev.gd (by (first|omega|(simp[bK]<;>omega))) ?_)
  have hR:RI s (R.mk x.1.text (x.1.at_+1)):=⟨h1.text,by dsimp only;omega,by dsimp only;omega⟩
  refine Ev.ep (cC hR) fun y hy=>?_
  refine Ev.ep vF fun d hd=>?_
  refine Ev.gd (by omega) ?_
  refine Ev.jn (fun v=>v=false→d.2=true) (fun v hv=>?_) (fun j hj=>?_)
  ·refine Ev.br (fun _=>so) (fun hf=>?_)
   have:=hy.2 (hd (hv hf))
   rw[hy.1]
   refine Ev.gd (by (first|omega|(simp[bK]<;>omega))) (hn _ ⟨hR,this,?_,?_,?_⟩ ?_)
   all_goals (dsimp only at *;omega)
  ·refine Ev.bA (fun _=>hj _ (by simp)) (fun hd2=>?_)
   (repeat' (first|((with_reducible first|refine Ev.gd ?_ ?_|refine Ev.kp ?_ (fun _ _=>?_));(next=>(first|omega|(simp[bK,cV,c7,maxLen]<;>omega))))|with_reducible (first|apply Ev.cD|apply Ev.cg)|(with_reducible (first|apply Ev.ba|apply Ev.bE|apply Ev.b5|apply Ev.bA|apply Ev.br)<;>intro _)|((with_reducible apply Ev.jN);try dsimp only)))
   all_goals exact hj _ (fun _=>hd2)
 ·refine Ev.gd (by (first|omega|(simp[bK]<;>omega))) (Ev.ok ⟨⟨h1.text,?_,?_⟩,?_⟩)
  all_goals (dsimp only;omega)
theorem jl {m:Nat→Nat} (hm:cm m) {s:List UInt8} (hs:s.length≤70000) {p:R} (h:RI s p) (hlt:p.at_<s.length) {c:Int} :
  Ev (fun i=>fU (m i) c p) (fun r=>RI s r.2∧p.at_<r.2.at_) RP:=by
 have h0:=h.vM
 unfold fU
 rw[h.text]
 refine Ev.gd (by (first|omega|(simp[bK]<;>omega))) ?_
 have hR:RI s (R.mk s (p.at_+1)):=⟨rfl,by dsimp only;omega,by dsimp only;omega⟩
 refine Ev.ep (cC hR) fun y hy=>?_
 rw[hy.1];dsimp only
 refine Ev.jn (fun v=>v.1=(R.mk s (p.at_+1))∧p.at_+1<s.length) (fun v hv=>?_) (fun j hj=>?_)
 ·refine Ev.jn (fun v=>v=(R.mk s (p.at_+1))) (fun v2 hv2=>?_) (fun j hj=>?_)
  ·subst hv2
   refine Ev.gd (by (first|omega|(simp[bK]<;>omega))) (Ev.ok ⟨⟨rfl,?_,?_⟩,?_⟩)
   all_goals (dsimp only;omega)
  ·exact Ev.ba (fun _=>so) (fun _=>hj _ hv.1)
 ·refine Ev.ba (fun _=>so) (fun hlt2=>?_)
  have hlt3:p.at_+1<s.length:=by omega
  (repeat' (first|((with_reducible first|refine Ev.gd ?_ ?_|refine Ev.kp ?_ (fun _ _=>?_));(next=>(first|omega|(simp[bK,cV,c7,maxLen]<;>omega))))|with_reducible (first|apply Ev.cD|apply Ev.cg)|(with_reducible (first|apply Ev.ba|apply Ev.bE|apply Ev.b5|apply Ev.bA|apply Ev.br)<;>intro _)|((with_reducible apply Ev.jN);try dsimp only)))
  ·refine (Ev.aQ (nv hm hs hR (by dsimp only;omega)) fun z hz=>Ev.ok ⟨hz.1,?_⟩)
   have:=hz.2;dsimp only at *;omega
  ·exact hj _ ⟨rfl,hlt3⟩
  ·exact hj _ ⟨rfl,hlt3⟩
  ·exact hj _ ⟨rfl,hlt3⟩
  ·refine Ev.ep (Q:=fun _=>True) (Ev.ok trivial) fun z _=>?_
   exact Ev.ba (fun _=>so) (fun _=>hj _ ⟨rfl,hlt3⟩)
theorem mA {m:Nat→Nat} (hm:cm m) {s:List UInt8} (hs:s.length≤70000) {p:R} (h:RI s p) {c:Int} :
  Ev (fun i=>iI (m i) c p) (fun r=>RI s r.2∧p.at_<r.2.at_) RP:=by
 have h0:=h.vM
 have h1:=h.wK
 unfold iI
 refine Ev.ep (cC h) fun y hy=>?_
 rw[hy.1]
 refine Ev.jn (fun v=>v=p∧p.at_<s.length) (fun v hv=>?_) (fun j hj=>?_)
 ·rw[hv.1]
  refine Ev.gd (by (first|omega|(simp[bK]<;>omega))) (Ev.ok ⟨⟨h.text,?_,?_⟩,?_⟩)
  all_goals (dsimp only;omega)
 ·rw[h.text]
  refine Ev.ba (fun _=>so) (fun hlt2=>?_)
  have hlt:p.at_<s.length:=by omega
  refine Ev.bE (fun _=>?_) (fun _=>?_)
  ·exact Ev.aQ (jl hm hs h hlt) fun z hz=>Ev.ok hz
  ·refine Ev.jn (fun _=>True) (fun v _=>?_) (fun j2 hj2=>?_)
   ·exact Ev.br (fun _=>so) (fun _=>hj _ ⟨rfl,hlt⟩)
   ·(repeat' (first|((with_reducible first|refine Ev.gd ?_ ?_|refine Ev.kp ?_ (fun _ _=>?_));(next=>(first|omega|(simp[bK,cV,c7,maxLen]<;>omega))))|with_reducible (first|apply Ev.cD|apply Ev.cg)|(with_reducible (first|apply Ev.ba|apply Ev.bE|apply Ev.b5|apply Ev.bA|apply Ev.br)<;>intro _)|((with_reducible apply Ev.jN);try dsimp only)))
    ·exact hj2 _ trivial
    ·exact hj2 _ trivial
    ·exact hj2 _ trivial
    ·exact Ev.ep (Q:=fun _=>True) (Ev.ok trivial) fun z _=>hj2 _ trivial
theorem r9 {m:Nat→Nat} (hm:cm m) {s:List UInt8} (hs:s.length≤70000) {p:R} (h:RI s p) (hlt:p.at_<s.length) :
  Ev (fun i=>kt (m i) p) (fun r=>RI s r.2∧p.at_<r.2.at_∧we r.1) RP:=by
 have h0:=h.vM
 unfold kt
 refine Ev.gd (by (first|omega|(simp[bK]<;>omega))) ?_
 have hR:RI s (R.mk p.text (p.at_+1)):=⟨h.text,by dsimp only;omega,by dsimp only;omega⟩
 refine Ev.ep (cC hR) fun y hy=>?_
 rw[hy.1];dsimp only
 have hy2:=hy.2;dsimp only at hy2
 refine Ev.jn (fun v=>RI s v∧p.at_<v.at_) (fun v hv=>?_) (fun j hj=>?_)
 ·refine Ev.jn (fun w=>RI s w.1∧p.at_<w.1.at_∧(w.2=true→w.1.at_<s.length)) (fun w hw=>?_) (fun j hj=>?_)
  ·have hw0:=hw.1.vM
   have hw1:=hw.1.wK
   refine Ev.br (fun hb=>?_) (fun _=>?_)
   ·have:=hw.2.2 hb
    refine Ev.gd (by (first|omega|(simp[bK]<;>omega))) (Ev.ok ⟨⟨hw.1.text,?_,?_⟩,?_,.leaf⟩)
    all_goals (dsimp only;omega)
   ·refine Ev.iter hm (fun (x:R×fl×Bool)=>RI s x.1∧p.at_<x.1.at_) (fun x=>(s.length - x.1.at_).toNat) ⟨hw.1,hw.2.1⟩ ?_
    rintro x ⟨hx1,hx2⟩ next hn
    have hx0:=hx1.vM
    have hx3:=hx1.wK
    refine Ev.jn (fun v=>v=x.1) (fun v hv=>?_) (fun j hj=>?_)
    ·subst hv
     refine Ev.aQ (mA hm hs hx1) fun z hz=>?_
     have hz0:=hz.1.vM
     have hz1:=hz.1.wK
     have hz2:=hz.2
     refine Ev.ep (cC hz.1) fun z2 hz2=>?_
     rw[hz2.1]
     refine Ev.bE (fun hq=>?_) (fun _=>?_)
     ·have:=hz2.2 (by omega)
      have hR2:RI s (R.mk z.2.text (z.2.at_+1)):=⟨hz.1.text,by dsimp only;omega,by dsimp only;omega⟩
      refine Ev.gd (by (first|omega|(simp[bK]<;>omega))) (Ev.aQ (mA hm hs hR2) fun z3 hz3=>?_)
      have hz4:=hz3.1.wK
      have hz5:=hz3.2;dsimp only at hz5
      refine Ev.ep (fM hm) fun _ _=>Ev.ep (iR hm) fun _ _=>hn _ ⟨hz3.1,?_⟩ ?_
      all_goals (dsimp only;omega)
     ·refine Ev.ep (fM hm) fun _ _=>Ev.ep (iR hm) fun _ _=>hn _ ⟨hz.1,?_⟩ ?_
      all_goals (dsimp only;omega)
    ·refine Ev.br (fun _=>hj _ rfl) (fun _=>?_)
     refine Ev.ep (cC hx1) fun z2 hz2=>?_
     rw[hz2.1]
     refine Ev.b5 (fun _=>hj _ rfl) (fun hq=>?_)
     have:=hz2.2 (by omega)
     refine Ev.gd (by (first|omega|(simp[bK]<;>omega))) ?_
     (repeat' (first|((with_reducible first|refine Ev.gd ?_ ?_|refine Ev.kp ?_ (fun _ _=>?_));(next=>(first|omega|(simp[bK,cV,c7,maxLen]<;>omega))))|with_reducible (first|apply Ev.cD|apply Ev.cg)|(with_reducible (first|apply Ev.ba|apply Ev.bE|apply Ev.b5|apply Ev.bA|apply Ev.br)<;>intro _)|((with_reducible apply Ev.jN);try dsimp only)))
     ·refine Ev.ep (vD hm) fun _ _=>Ev.ok ⟨⟨hx1.text,?_,?_⟩,?_,.leaf⟩
      all_goals (dsimp only;omega)
     ·refine Ev.ok ⟨⟨hx1.text,?_,?_⟩,?_,.leaf⟩
      all_goals (dsimp only;omega)
  ·refine Ev.bA (fun _=>?_) (fun _=>hj _ ⟨hv.1,hv.2,by simp⟩)
   refine Ev.ep (cC hv.1) fun z2 hz2=>?_
   rw[hz2.1]
   refine hj _ ⟨hv.1,hv.2,fun hq=>hz2.2 ?_⟩
   have:=beq_iff_eq.1 hq
   omega
 ·refine Ev.bE (fun hq=>?_) (fun _=>hj _ ⟨hR,by dsimp only;omega⟩)
  have:=hy2 (by omega)
  refine Ev.gd (by (first|omega|(simp[bK]<;>omega))) (hj _ ⟨⟨h.text,?_,?_⟩,?_⟩)
  all_goals (dsimp only;omega)
theorem lZ {k:Int} {l:List u} (h:l.length≤70000) (hs:∀ x,x∈l→we x):Ev (fun _=>kV k l) we gA:=by
 unfold kV
 refine Ev.bE (fun _=>?_) (fun _=>Ev.ok (.mk h hs))
 exact Ev.el (by omega) (by omega) fun x hx=>Ev.ok (hs x (List.mem_of_getElem? hx))
structure RG (s:List UInt8) (k:Nat):Prop where
 alt:∀ {m:Nat→Nat} {p:R},cm m→RI s p→8*(s.length - p.at_).toNat+6<k→Ev (fun i=>ct (m i) p) (fun r=>RI s r.2∧p.at_<r.2.at_∧we r.1) RP
 Hh:∀ {m:Nat→Nat} {p:R},cm m→RI s p→8*(s.length - p.at_).toNat+5<k→Ev (fun i=>cH (m i) p) (fun r=>RI s r.2∧p.at_<r.2.at_∧we r.1) RP
 Fa:∀ {m:Nat→Nat} {p:R} {l:List u},cm m→RI s p→8*(s.length - p.at_).toNat+4<k→l.length≤70000→(∀ x,x∈l→we x)→
  Ev (fun i=>cn (m i) l p) (fun r=>RI s r.2∧p.at_<r.2.at_∧r.1.length=l.length+1∧∀ x,x∈r.1→we x) RP
 piece:∀ {m:Nat→Nat} {p:R},cm m→RI s p→8*(s.length - p.at_).toNat+3<k→Ev (fun i=>fo (m i) p) (fun r=>RI s r.2∧p.at_<r.2.at_∧we r.1) RP
 atom:∀ {m:Nat→Nat} {p:R},cm m→RI s p→8*(s.length - p.at_).toNat+2<k→Ev (fun i=>fG (m i) p) (fun r=>RI s r.2∧p.at_<r.2.at_∧we r.1) RP
 group:∀ {m:Nat→Nat} {p:R},cm m→RI s p→p.at_<s.length→8*(s.length - p.at_).toNat+1<k→Ev (fun i=>fm (m i) p) (fun r=>RI s r.2∧p.at_<r.2.at_∧we r.1) RP
theorem Gc {s:List UInt8} (hs:s.length≤60000):∀ k,RG s k:=by
 intro k
 induction k with
 | zero=>exact ⟨fun _ _ h=>absurd h (Nat.not_lt_zero _),fun _ _ h=>absurd h (Nat.not_lt_zero _),fun _ _ h=>absurd h (Nat.not_lt_zero _),fun _ _ h=>absurd h (Nat.not_lt_zero _),fun _ _ h=>absurd h (Nat.not_lt_zero _),fun _ _ _ h=>absurd h (Nat.not_lt_zero _)⟩
 | succ k ih=>
  refine ⟨?_,?_,?_,?_,?_,?_⟩
  ·intro m p hm h hk
   have h0:=h.vM
   refine Ev.grow (F:=fun n=>ct n p) hm fun m hm=>?_
   show Ev (fun i=>fY (m i) (aT (m i)) p) _ _
   unfold fY
   refine Ev.aQ (ih.Hh hm h (by omega)) fun y hy=>?_
   refine Ev.iter hm (fun (x:R×List u)=>RI s x.1∧p.at_<x.1.at_∧x.2.length≤x.1.at_∧∀ z,z∈x.2→we z) (fun x=>(s.length - x.1.at_).toNat) ⟨hy.1,hy.2.1,by simp;omega,by simpa using hy.2.2⟩ ?_
   rintro x ⟨hx1,hx2,hx3,hx4⟩ next hn
   have hx5:=hx1.wK
   refine Ev.ep (cC hx1) fun z hz=>?_
   rw[hz.1]
   refine Ev.bE (fun hq=>?_) (fun _=>?_)
   ·have:=hz.2 (by omega)
    have hR:RI s (R.mk x.1.text (x.1.at_+1)):=⟨hx1.text,by dsimp only;omega,by dsimp only;omega⟩
    refine Ev.gd (by (first|omega|(simp[bK]<;>omega))) (Ev.aQ (ih.Hh hm hR (by dsimp only;omega)) fun w hw=>?_)
    have hw1:=hw.2.1;dsimp only at hw1
    have hw2:=hw.1.wK
    refine Ev.gd (by (first|omega|(simp[cV,maxLen]<;>omega))) (hn _ ⟨hw.1,by dsimp only;omega,by simp;omega,fun z hz=>?_⟩ (by dsimp only;omega))
    rcases List.mem_append.1 hz with q|q
    ·exact hx4 z q
    ·simp at q;subst q;exact hw.2.2
   ·exact Ev.ep (lZ (by omega) hx4) fun w hw=>Ev.ok ⟨hx1,hx2,hw⟩
  ·intro m p hm h hk
   have h0:=h.vM
   refine Ev.grow (F:=fun n=>cH n p) hm fun m hm=>?_
   show Ev (fun i=>fO (m i) (aT (m i)) p) _ _
   unfold fO
   refine Ev.aQ (ih.Fa (l:=[]) hm h (by omega) (by simp) (by simp)) fun y hy=>?_
   have hy3:=hy.2.2.1
   refine Ev.iter hm (fun (x:R×List u)=>RI s x.1∧p.at_<x.1.at_∧x.2.length≤x.1.at_∧∀ z,z∈x.2→we z) (fun x=>(s.length - x.1.at_).toNat) ⟨hy.1,hy.2.1,by simp at hy3;dsimp only;omega,hy.2.2.2⟩ ?_
   rintro x ⟨hx1,hx2,hx3,hx4⟩ next hn
   have hx5:=hx1.wK
   refine Ev.ba (fun hlt=>?_) (fun _=>?_)
   ·refine Ev.ep (cC hx1) fun z hz=>?_
    rw[hz.1]
    refine Ev.b5 (fun _=>?_) (fun _=>?_)
    ·refine Ev.ep (cC hx1) fun z hz=>?_
     rw[hz.1]
     refine Ev.b5 (fun _=>?_) (fun _=>?_)
     ·rw[hx1.text] at hlt
      refine Ev.aQ (ih.Fa hm hx1 (by omega) (by omega) hx4) fun w hw=>?_
      have hw1:=hw.2.1
      have hw2:=hw.1.wK
      have hw3:=hw.2.2.1
      exact hn _ ⟨hw.1,by dsimp only;omega,by dsimp only;omega,hw.2.2.2⟩ (by dsimp only;omega)
     ·exact Ev.ep (lZ (by omega) hx4) fun w hw=>Ev.ok ⟨hx1,hx2,hw⟩
    ·exact Ev.ep (lZ (by omega) hx4) fun w hw=>Ev.ok ⟨hx1,hx2,hw⟩
   ·exact Ev.ep (lZ (by omega) hx4) fun w hw=>Ev.ok ⟨hx1,hx2,hw⟩
  ·intro m p l hm h hk hl hls
   refine Ev.grow (F:=fun n=>cn n l p) hm fun m hm=>?_
   show Ev (fun i=>fA (m i) (aT (m i)) l p) _ _
   unfold fA
   refine Ev.aQ (ih.piece hm h (by omega)) fun y hy=>?_
   refine Ev.gd (by (first|omega|(simp[cV,maxLen]<;>omega))) (Ev.ok ⟨hy.1,hy.2.1,by simp,fun z hz=>?_⟩)
   rcases List.mem_append.1 hz with q|q
   ·exact hls z q
   ·simp at q;subst q;exact hy.2.2
  ·intro m p hm h hk
   refine Ev.grow (F:=fun n=>fo n p) hm fun m hm=>?_
   show Ev (fun i=>iK (m i) (aT (m i)) p) _ _
   unfold iK
   refine Ev.aQ (ih.atom hm h (by omega)) fun y hy=>?_
   refine Ev.iter hm (fun (x:R×u)=>RI s x.1∧p.at_<x.1.at_∧we x.2) (fun x=>(s.length - x.1.at_).toNat) ⟨hy.1,hy.2.1,hy.2.2⟩ ?_
   rintro x ⟨hx1,hx2,hx3⟩ next hn
   have hx0:=hx1.vM
   have hx5:=hx1.wK
   refine Ev.jn (fun v=>v.1=x.1∧x.1.at_<s.length∧we v.2) (fun v hv=>?_) (fun j hj=>?_)
   ·rw[hv.1]
    have:=hv.2.1
    refine Ev.gd (by (first|omega|(simp[bK]<;>omega))) (hn _ ⟨⟨hx1.text,?_,?_⟩,?_,hv.2.2⟩ ?_)
    all_goals (dsimp only;omega)
   ·refine Ev.ep (cC hx1) fun z hz=>?_
    rw[hz.1]
    have hs1:we (u.mk 5 0 0 0 0 [x.2]):=.mk (by simp) (by simpa using hx3)
    refine Ev.bE (fun hq=>hj _ ⟨rfl,hz.2 (by omega),hs1⟩) (fun _=>?_)
    refine Ev.bE (fun hq=>hj _ ⟨rfl,hz.2 (by omega),.mk (by simp) ?_⟩) (fun _=>?_)
    ·intro w hw;simp at hw;rcases hw with rfl|rfl
     ·exact hx3
     ·exact hs1
    refine Ev.bE (fun hq=>hj _ ⟨rfl,hz.2 (by omega),.mk (by simp) ?_⟩) (fun _=>Ev.ok ⟨hx1,hx2,hx3⟩)
    ·intro w hw;simp at hw;rcases hw with rfl|rfl
     ·exact hx3
     ·exact .leaf
  ·intro m p hm h hk
   have h0:=h.vM
   have h1:=h.wK
   refine Ev.grow (F:=fun n=>fG n p) hm fun m hm=>?_
   show Ev (fun i=>iX (m i) (aT (m i)) p) _ _
   unfold iX
   refine Ev.ep (cC h) fun y hy=>?_
   rw[hy.1]
   refine Ev.jn (fun v=>v=p∧p.at_<s.length) (fun v hv=>?_) (fun j hj=>?_)
   ·rw[hv.1]
    refine Ev.gd (by (first|omega|(simp[bK]<;>omega))) (Ev.ep (qd hm) fun z hz=>Ev.ok ⟨⟨h.text,?_,?_⟩,?_,hz⟩)
    all_goals (dsimp only;omega)
   ·rw[h.text]
    refine Ev.ba (fun _=>so) (fun hlt2=>?_)
    have hlt:p.at_<s.length:=by omega
    refine Ev.bE (fun _=>?_) (fun _=>?_)
    ·exact Ev.aQ (ih.group hm h hlt (by omega)) fun z hz=>Ev.ok hz
    refine Ev.bE (fun _=>?_) (fun _=>?_)
    ·exact Ev.aQ (r9 hm (by omega) h hlt) fun z hz=>Ev.ok hz
    refine Ev.bE (fun _=>?_) (fun _=>?_)
    ·refine Ev.gd (by (first|omega|(simp[bK]<;>omega))) (Ev.ep (fM hm) fun z _=>Ev.ok ⟨⟨rfl,?_,?_⟩,?_,.leaf⟩)
     all_goals (dsimp only;omega)
    refine Ev.bE (fun _=>?_) (fun _=>?_)
    ·refine Ev.gd (by (first|omega|(simp[bK]<;>omega))) (Ev.ba (fun _=>?_) (fun _=>?_))
     ·refine Ev.gd (by (first|omega|(simp[bK]<;>omega))) (Ev.el (by omega) (by omega) (fun b _=>?_))
      refine Ev.ep (vE hm) fun z _=>?_
      refine Ev.br (fun _=>?_) (fun _=>?_)
      ·refine Ev.gd (by (first|omega|(simp[bK]<;>omega))) (Ev.ok ⟨⟨rfl,?_,?_⟩,?_,.leaf⟩)
       all_goals (dsimp only;omega)
      ·exact Ev.aQ (jl hm (by omega) h hlt) fun z hz=>Ev.ep (qd hm) fun w hw=>Ev.ok ⟨hz.1,hz.2,hw⟩
     ·exact Ev.aQ (jl hm (by omega) h hlt) fun z hz=>Ev.ep (qd hm) fun w hw=>Ev.ok ⟨hz.1,hz.2,hw⟩
    ·refine Ev.jn (fun _=>True) (fun v _=>?_) (fun j2 hj2=>?_)
     ·exact Ev.br (fun _=>so) (fun _=>hj _ ⟨rfl,hlt⟩)
     ·(repeat' (first|((with_reducible first|refine Ev.gd ?_ ?_|refine Ev.kp ?_ (fun _ _=>?_));(next=>(first|omega|(simp[bK,cV,c7,maxLen]<;>omega))))|with_reducible (first|apply Ev.cD|apply Ev.cg)|(with_reducible (first|apply Ev.ba|apply Ev.bE|apply Ev.b5|apply Ev.bA|apply Ev.br)<;>intro _)|((with_reducible apply Ev.jN);try dsimp only)))
      ·exact hj2 _ trivial
      ·exact hj2 _ trivial
      ·exact Ev.ep (Q:=fun _=>True) (Ev.ok trivial) fun z _=>hj2 _ trivial
  ·intro m p hm h hlt hk
   have h0:=h.vM
   refine Ev.grow (F:=fun n=>fm n p) hm fun m hm=>?_
   show Ev (fun i=>iJ (m i) (aT (m i)) p) _ _
   unfold iJ
   refine Ev.gd (by (first|omega|(simp[bK]<;>omega))) ?_
   have hR:RI s (R.mk p.text (p.at_+1)):=⟨h.text,by dsimp only;omega,by dsimp only;omega⟩
   refine Ev.ep (cC hR) fun y hy=>?_
   rw[hy.1];dsimp only
   have hy2:=hy.2;dsimp only at hy2
   refine Ev.bE (fun hq=>?_) (fun _=>?_)
   ·have:=hy2 (by omega)
    refine Ev.gd (by (first|omega|(simp[bK]<;>omega))) (Ev.ok ⟨⟨h.text,?_,?_⟩,?_,.leaf⟩)
    all_goals (dsimp only;omega)
   ·refine Ev.aQ (ih.alt hm hR (by dsimp only;omega)) fun z hz=>?_
    have hz0:=hz.1.vM
    have hz1:=hz.2.1;dsimp only at hz1
    refine Ev.jn (fun v=>v=z.2∧z.2.at_<s.length) (fun v hv=>?_) (fun j hj=>?_)
    ·rw[hv.1]
     refine Ev.gd (by (first|omega|(simp[bK]<;>omega))) (Ev.ok ⟨⟨hz.1.text,?_,?_⟩,?_,hz.2.2⟩)
     all_goals (dsimp only;omega)
    ·refine Ev.ep (cC hz.1) fun w hw=>?_
     rw[hw.1]
     exact Ev.b5 (fun _=>so) (fun hq=>hj _ ⟨rfl,hw.2 (by omega)⟩)
theorem vG:∀ (d:Nat) {m:Nat→Nat} {r:u} {l:Int},cm m→we r→0≤l→(17 - l).toNat≤d→Ev (fun i=>gu (m i) r l) (fun _=>True) gA:=by
 intro d
 induction d with
 | zero=>
  intro m r l hm _ h0 hd
  refine Ev.grow (F:=fun n=>gu n r l) hm fun m hm=>?_
  show Ev (fun i=>jT (m i) (jk (m i)) r l) _ _
  unfold jT
  exact Ev.ba (fun _=>Ev.ok trivial) (fun _=>by omega)
 | succ d ih=>
  intro m r l hm hr h0 hd
  refine Ev.grow (F:=fun n=>gu n r l) hm fun m hm=>?_
  show Ev (fun i=>jT (m i) (jk (m i)) r l) _ _
  unfold jT
  cases hr with
  | @mk k a b c d' subs hl hs=>
   refine Ev.ba (fun _=>Ev.ok trivial) (fun _=>?_)
   refine Ev.jn (fun _=>True) (fun v _=>?_) (fun j hj=>?_)
   ·refine Ev.jn (fun _=>True) (fun v _=>?_) (fun j hj=>?_)
    ·refine Ev.iter hm (fun (x:Int)=>0≤x∧x≤subs.length) (fun x=>(subs.length - x).toNat) (by omega) ?_
     intro x hx next hn
     show Ev (fun i=>D.br (decide (x<(subs.length:Int))) (D.el subs x _) _) _ _
     refine Ev.ba (fun h=>?_) (fun _=>Ev.ok trivial)
     refine Ev.el (by omega) (by omega) (fun z hz=>?_)
     refine Ev.gd (by (first|omega|(simp[bK]<;>omega))) (Ev.aQ (ih hm (hs z (List.mem_of_getElem? hz)) (by omega) (by omega)) fun w _=>?_)
     (repeat' (first|((with_reducible first|refine Ev.gd ?_ ?_|refine Ev.kp ?_ (fun _ _=>?_));(next=>(first|omega|(simp[bK]<;>omega))))|with_reducible (first|apply Ev.cD|apply Ev.cg)|(with_reducible (first|apply Ev.ba|apply Ev.bE|apply Ev.b5|apply Ev.bA|apply Ev.br)<;>intro _)|((with_reducible apply Ev.jN);try dsimp only)))
     ·exact Ev.ok trivial
     ·exact hn _ (by omega) (by omega)
    ·(repeat' (first|((with_reducible first|refine Ev.gd ?_ ?_|refine Ev.kp ?_ (fun _ _=>?_));(next=>(first|omega|(simp[bK,cV,c7,maxLen]<;>omega))))|with_reducible (first|apply Ev.cD|apply Ev.cg)|(with_reducible (first|apply Ev.ba|apply Ev.bE|apply Ev.b5|apply Ev.bA|apply Ev.br)<;>intro _)|((with_reducible apply Ev.jN);try dsimp only)))
     all_goals first|exact Ev.ok trivial|exact hj _ trivial
   ·(repeat' (first|((with_reducible first|refine Ev.gd ?_ ?_|refine Ev.kp ?_ (fun _ _=>?_));(next=>(first|omega|(simp[bK,cV,c7,maxLen]<;>omega))))|with_reducible (first|apply Ev.cD|apply Ev.cg)|(with_reducible (first|apply Ev.ba|apply Ev.bE|apply Ev.b5|apply Ev.bA|apply Ev.br)<;>intro _)|((with_reducible apply Ev.jN);try dsimp only)))
    all_goals first|exact Ev.ok trivial|exact hj _ trivial
theorem rJ {m:Nat→Nat} (hm:cm m) {s:List UInt8}:Ev (fun i=>mw (m i) s) (fun _=>True) gA:=by
 unfold mw
 refine Ev.ba (fun _=>Ev.ok trivial) (fun _=>?_)
 refine Ev.wG (R':=RP) ?_ ?_
 ·refine Ev.aQ ((Gc (s:=s) (by omega) (8*(s.length - 0:Int).toNat+7)).alt hm ⟨rfl,by simp,by simp⟩ (by simp)) fun y hy=>?_
  refine Ev.jn (fun _=>True) (fun v _=>?_) (fun j hj=>?_)
  ·unfold rA
   refine Ev.ep (Ev.bind (vG 17 hm hy.2.2 (by omega) (by simp)) (fun _ q=>q) fun z _=>Ev.ok trivial) fun z (_:True)=>?_
   (repeat' (first|((with_reducible first|refine Ev.gd ?_ ?_|refine Ev.kp ?_ (fun _ _=>?_));(next=>(first|omega|(simp[bK,cV,c7,maxLen]<;>omega))))|with_reducible (first|apply Ev.cD|apply Ev.cg)|(with_reducible (first|apply Ev.ba|apply Ev.bE|apply Ev.b5|apply Ev.bA|apply Ev.br)<;>intro _)|((with_reducible apply Ev.jN);try dsimp only)))
   all_goals exact Ev.ok trivial
  ·exact Ev.ba (fun _=>so) (fun _=>hj _ trivial)
 ·rintro p ⟨v,rfl⟩
  refine Ev.sB ?_
  unfold ln
  exact Ev.ok trivial
structure PC (s:List UInt8) (T:List au) (b:Int):Prop where
 bo:CV s T
 b0:0≤b
 bs:b+s.length≤65536
def PP (c:Int):oj→Prop:=fun p=>∃ v:Int,p=⟨86,[.sc (.int .i64 v)]⟩∧0≤v∧v≤c
abbrev aY:=L.mk
section
variable {s:List UInt8} {T:List au} {b:Int}
theorem PC.len (h:PC s T b):(T.length:Int)≤s.length+1:=by
 obtain ⟨l,rfl,h1⟩:=h.bo.is
 have:=h1.len
 simp;omega
theorem PC.pos (h:PC s T b):1≤T.length:=by
 obtain ⟨l,rfl,h1⟩:=h.bo.is
 simp
theorem PC.ls (h:PC s T b):(T.length:Int)≤65537:=by
 have:=h.len
 have:=h.bs
 have:=h.b0
 omega
theorem PC.tok (h:PC s T b) {i:Nat} {t:au} (ht:T[i]?=some t):0≤t.Pos∧t.Pos≤t.End∧t.End≤s.length∧t.Text.length≤65536∧(t.Kind=4→(t.Text.length:Int)+2≤t.End - t.Pos)∧(t.Kind≠0→i+1<T.length∧t.Pos<t.End):=by
 obtain ⟨l,rfl,h1⟩:=h.bo.is
 rcases Nat.lt_or_ge i l.length with q|q
 ·rw[List.getElem?_append_left q] at ht
  have:=h1.ok t (List.mem_of_getElem? ht)
  exact ⟨this.p0,by have:=this.pe;omega,this.e,this.tl,this.ip,fun _=>⟨by simp;omega,this.pe⟩⟩
 ·rw[List.getElem?_append_right q] at ht
  have hi:i - l.length=0:=by
   have:=(List.getElem?_eq_some_iff.1 ht).1
   simp at this;omega
  rw[hi] at ht;simp at ht;subst ht
  exact ⟨by simp,by simp,by simp,by simp,fun q=>by simp at q,fun q=>absurd rfl q⟩
theorem PC.next (h:PC s T b) {a:Int} (h0:0≤a) {t:au} (ht:T[a.toNat]?=some t) (hk:t.Kind≠0):a+1<T.length:=by
 have:=((h.tok ht).2.2.2.2.2 hk).1
 omega
theorem PC.sorted (h:PC s T b) {i j:Nat} (hij:i<j) {t u:au} (ht:T[i]?=some t) (hu:T[j]?=some u):t.End≤u.Pos:=by
 obtain ⟨l,rfl,h1⟩:=h.bo.is
 have hj:=(List.getElem?_eq_some_iff.1 hu).1
 simp at hj
 have hi:i<l.length:=by omega
 rw[List.getElem?_append_left hi] at ht
 rcases Nat.lt_or_ge j l.length with q|q
 ·rw[List.getElem?_append_left q] at hu
  obtain ⟨hi',e1⟩:=List.getElem?_eq_some_iff.1 ht
  obtain ⟨hj',e2⟩:=List.getElem?_eq_some_iff.1 hu
  rw[← e1,← e2]
  exact List.pairwise_iff_getElem.1 h1.sorted i j hi' hj' hij
 ·rw[List.getElem?_append_right q] at hu
  have hi:j - l.length=0:=by omega
  rw[hi] at hu;simp at hu;subst hu
  exact (h1.ok t (List.mem_of_getElem? ht)).e
end
section
variable {s:List UInt8} {T:List au} {b:Int} {α:Type} {Q:α→Prop} {R:oj→Prop} {m:Nat→Nat} {a:Int} {k:Bool} {q:Option aj}
theorem jw {t:au} {x:List UInt8} {K:Nat→Bool→D α} (hk:∀ r,(r=true→t.Kind=5∧t.Text=x)→(r=false→¬ (t.Kind=5∧t.Text=x))→Ev (fun i=>K i r) Q R):Ev (fun i=>D.bind (bJ t x) (K i)) Q R:=by
 refine Ev.bind (Q:=fun r=>(r=true→t.Kind=5∧t.Text=x)∧(r=false→¬ (t.Kind=5∧t.Text=x))) (R':=gA) ?_ (fun _ q=>q.elim) fun r hr=>hk r hr.1 hr.2
 unfold bJ
 refine Ev.bE (fun h=>Ev.ok ⟨fun q=>⟨h,by simpa using q⟩,fun q=>by simp at q;exact fun w=>q w.2⟩) (fun h=>Ev.ok ⟨fun q=>by simp at q,fun _ w=>h w.1⟩)
theorem qe {t:au} {x:List UInt8} {K:Nat→Bool→D α} (hk:∀ r,(r=true→t.Kind=1∧t.Text=x)→(r=false→¬ (t.Kind=1∧t.Text=x))→Ev (fun i=>K i r) Q R):Ev (fun i=>D.bind (eI t x) (K i)) Q R:=by
 refine Ev.bind (Q:=fun r=>(r=true→t.Kind=1∧t.Text=x)∧(r=false→¬ (t.Kind=1∧t.Text=x))) (R':=gA) ?_ (fun _ q=>q.elim) fun r hr=>hk r hr.1 hr.2
 unfold eI
 refine Ev.bE (fun h=>Ev.ok ⟨fun q=>⟨h,by simpa using q⟩,fun q=>by simp at q;exact fun w=>q w.2⟩) (fun h=>Ev.ok ⟨fun q=>by simp at q,fun _ w=>h w.1⟩)
theorem s9 (hm:cm m) {t:au} {x:List UInt8} (hx:x.length≤60000) {K:Nat→Bool→D α} (hk:∀ r,(r=true→t.Kind=5)→Ev (fun i=>K i r) Q R):Ev (fun i=>D.bind (dM (m i) t x) (K i)) Q R:=by
 refine Ev.bind (Q:=fun r=>r=true→t.Kind=5) (R':=gA) ?_ (fun _ q=>q.elim) fun r hr=>hk r hr
 unfold dM
 refine Ev.bE (fun h=>?_) (fun _=>Ev.ok (by simp))
 refine Ev.aQ (vB (by simp) (by omega)) fun y hy=>Ev.aQ (iy hm (by omega)) fun z _=>Ev.ok fun _=>h
theorem vH (hm:cm m) {t:au} {K:Nat→Bool→D α} (hk:∀ r,(r=true→t.Kind=3∨t.Kind=1)→Ev (fun i=>K i r) Q R):Ev (fun i=>D.bind (eU (m i) t) (K i)) Q R:=by
 refine Ev.bind (Q:=fun r=>r=true→t.Kind=3∨t.Kind=1) (R':=gA) ?_ (fun _ q=>q.elim) fun r hr=>hk r hr
 unfold eU
 refine Ev.bE (fun h=>Ev.ok fun _=>.inl h) (fun _=>Ev.bE (fun h=>?_) (fun _=>Ev.ok (by simp)))
 exact Ev.aQ (il hm) fun z _=>Ev.ok fun _=>.inr h
theorem sq (hm:cm m) (hC:PC s T b) (h0:0≤a) (h1:a<T.length) :
  Ev (fun i=>az (m i) (aY s T a b k q)) (fun r=>∃ a' t,r=(t,aY s T a' b k q)∧a≤a'∧a'<T.length∧T[a'.toNat]?=some t∧(k=true→t.Kind≠7)∧∀ u,T[a.toNat]?=some u→(k=true→u.Kind≠7)→a'=a) gA:=by
 unfold az
 have hl:=hC.ls
 refine Ev.jn (fun v=>∃ a',v=aY s T a' b k q∧a≤a'∧a'<T.length∧(k=true→∀ t,T[a'.toNat]?=some t→t.Kind≠7)∧∀ u,T[a.toNat]?=some u→(k=true→u.Kind≠7)→a'=a) (fun v hv=>?_) (fun j hj=>?_)
 ·obtain ⟨a',rfl,h2,h3,h4,h5⟩:=hv
  exact Ev.el (by dsimp only;omega) (by dsimp only;omega) fun t ht=>Ev.ok ⟨a',t,rfl,h2,h3,ht,fun hk=>h4 hk t ht,h5⟩
 ·refine Ev.iter hm (fun (x:L)=>∃ a',x=aY s T a' b k q∧a≤a'∧a'<T.length∧∀ u,T[a.toNat]?=some u→(k=true→u.Kind≠7)→a'=a) (fun x=>(T.length - x.at_).toNat) ⟨a,rfl,by omega,h1,fun _ _ _=>rfl⟩ ?_
  rintro x ⟨a',rfl,h2,h3,h5⟩ next hn
  dsimp only
  refine Ev.br (fun hk0=>?_) (fun hk=>hj _ ⟨a',rfl,h2,h3,(fun h=>by rw[hk] at h;cases h),h5⟩)
  refine Ev.el (by omega) (by omega) fun t ht=>?_
  refine Ev.bE (fun h7=>?_) (fun h7=>hj _ ⟨a',rfl,h2,h3,fun _ u hu=>by rw[ht] at hu;cases hu;exact h7,h5⟩)
  have:=hC.next (by omega) ht (by omega)
  refine Ev.gd (by (first|omega|(simp[bK]<;>omega))) (hn _ ⟨a'+1,rfl,by omega,by omega,fun u hu hk=>?_⟩ (by dsimp only;omega))
  have:=h5 u hu hk
  subst this
  rw[ht] at hu;cases hu
  exact absurd h7 (hk ‹k=true›)
theorem fB (hm:cm m) (hC:PC s T b) (h0:0≤a) (h1:a<T.length) {K:Nat→au×L→D α}
  (hk:∀ a' t,a≤a'→a'<T.length→T[a'.toNat]?=some t→(k=true→t.Kind≠7)→(∀ u,T[a.toNat]?=some u→(k=true→u.Kind≠7)→a'=a)→Ev (fun i=>K i (t,aY s T a' b k q)) Q R) :
  Ev (fun i=>D.bind (az (m i) (aY s T a b k q)) (K i)) Q R:=by
 refine Ev.ep (sq hm hC h0 h1) fun r hr=>?_
 obtain ⟨a',t,rfl,h⟩:=hr
 exact hk a' t h.1 h.2.1 h.2.2.1 h.2.2.2.1 h.2.2.2.2
theorem kE (hm:cm m) (hC:PC s T b) (h0:0≤a) (h1:a<T.length) {K:Nat→Int×L→D α}
  (hk:∀ a' t v,a≤a'→a'<T.length→T[a'.toNat]?=some t→(∀ u,T[a.toNat]?=some u→(k=true→u.Kind≠7)→a'=a)→v=b+t.Pos→0≤v→v≤b+s.length→Ev (fun i=>K i (v,aY s T a' b k q)) Q R) :
  Ev (fun i=>D.bind (bm (m i) (aY s T a b k q)) (K i)) Q R:=by
 refine Ev.bind (Q:=fun r=>∃ a' t v,r=(v,aY s T a' b k q)∧a≤a'∧a'<T.length∧T[a'.toNat]?=some t∧(∀ u,T[a.toNat]?=some u→(k=true→u.Kind≠7)→a'=a)∧v=b+t.Pos∧0≤v∧v≤b+s.length) (R':=gA) ?_ (fun _ q=>q.elim) fun r hr=>?_
 ·unfold bm
  refine fB hm hC h0 h1 fun a' t h2 h3 h4 h5 h6=>?_
  have:=hC.tok h4
  have:=hC.b0
  have:=hC.bs
  exact Ev.gd (by (first|omega|(simp[bK]<;>omega))) (Ev.ok ⟨a',t,_,rfl,h2,h3,h4,h6,rfl,by dsimp only;omega,by dsimp only;omega⟩)
 ·obtain ⟨a',t,v,rfl,h2,h3,h4,h5,h6,h7,h8⟩:=hr
  exact hk a' t v h2 h3 h4 h5 h6 h7 h8
theorem uT {v:Int} {p:L} {c:Int} (h0:0≤v) (h1:v≤c) {K:Nat→L→D α}:Ev (fun i=>D.bind (eh v p) (K i)) Q (PP c):=by
 unfold eh
 exact Ev.kT ⟨v,rfl,h0,h1⟩
theorem jm (hm:cm m) (hC:PC s T b) (h0:0≤a) (h1:a<T.length) {c:Int} (hc:b+s.length≤c) {K:Nat→L→D α}:Ev (fun i=>D.bind (bj (m i) (aY s T a b k q)) (K i)) Q (PP c):=by
 refine Ev.aQ (Q:=fun _=>False) ?_ fun r hr=>hr.elim
 unfold bj
 refine kE hm hC h0 h1 fun a' t v _ _ _ _ _ h2 h3=>?_
 exact uT h2 (by omega)
theorem ku (hm:cm m) (hC:PC s T b) (h0:0≤a) (h1:a<T.length) {x:List UInt8} {K:Nat→Bool×L→D α}
  (ht:∀ a' t,a<a'→a'<T.length→T[(a' - 1).toNat]?=some t→t.Kind=5→t.Text=x→(∀ u,T[a.toNat]?=some u→(k=true→u.Kind≠7)→a'=a+1)→Ev (fun i=>K i (true,aY s T a' b k q)) Q R)
  (hf:∀ a' t,a≤a'→a'<T.length→T[a'.toNat]?=some t→(k=true→t.Kind≠7)→¬ (t.Kind=5∧t.Text=x)→(∀ u,T[a.toNat]?=some u→(k=true→u.Kind≠7)→a'=a)→Ev (fun i=>K i (false,aY s T a' b k q)) Q R) :
  Ev (fun i=>D.bind (bc (m i) x (aY s T a b k q)) (K i)) Q R:=by
 refine Ev.bind (Q:=fun r=>(∃ a' t,r=(true,aY s T a' b k q)∧a<a'∧a'<T.length∧T[(a' - 1).toNat]?=some t∧t.Kind=5∧t.Text=x∧(∀ u,T[a.toNat]?=some u→(k=true→u.Kind≠7)→a'=a+1))∨
  (∃ a' t,r=(false,aY s T a' b k q)∧a≤a'∧a'<T.length∧T[a'.toNat]?=some t∧(k=true→t.Kind≠7)∧¬ (t.Kind=5∧t.Text=x)∧(∀ u,T[a.toNat]?=some u→(k=true→u.Kind≠7)→a'=a))) (R':=gA) ?_ (fun _ q=>q.elim) fun r hr=>?_
 ·unfold bc
  have:=hC.ls
  refine fB hm hC h0 h1 fun a' t h2 h3 h4 h5 h6=>?_
  dsimp only
  refine jw fun r hr1 hr2=>?_
  refine Ev.bA (fun h=>Ev.ok (.inr ⟨a',t,rfl,h2,h3,h4,h5,hr2 h,h6⟩)) (fun h=>?_)
  obtain ⟨q1,q2⟩:=hr1 h
  have:=hC.next (by omega) h4 (by omega)
  exact Ev.gd (by (first|omega|(simp[bK]<;>omega))) (Ev.ok (.inl ⟨a'+1,t,rfl,by omega,by omega,by simpa using h4,q1,q2,fun u hu hk=>by rw[h6 u hu hk]⟩))
 ·rcases hr with ⟨a',t,rfl,h2,h3,h4,h5,h6,h7⟩|⟨a',t,rfl,h2,h3,h4,h5,h6,h7⟩
  ·exact ht a' t h2 h3 h4 h5 h6 h7
  ·exact hf a' t h2 h3 h4 h5 h6 h7
theorem jo (hm:cm m) (hC:PC s T b) (h0:0≤a) (h1:a<T.length) {c:Int} (hc:b+s.length≤c) {x:List UInt8} {K:Nat→L→D α}
  (ht:∀ a' t,a<a'→a'<T.length→T[(a' - 1).toNat]?=some t→t.Kind=5→t.Text=x→(∀ u,T[a.toNat]?=some u→(k=true→u.Kind≠7)→a'=a+1)→Ev (fun i=>K i (aY s T a' b k q)) Q (PP c)) :
  Ev (fun i=>D.bind (bu (m i) x (aY s T a b k q)) (K i)) Q (PP c):=by
 refine Ev.aQ (Q:=fun r=>(∃ a' t,r=(aY s T a' b k q)∧a<a'∧a'<T.length∧T[(a' - 1).toNat]?=some t∧t.Kind=5∧t.Text=x∧(∀ u,T[a.toNat]?=some u→(k=true→u.Kind≠7)→a'=a+1))) ?_ fun r hr=>?_
 ·unfold bu
  refine ku hm hC h0 h1 (fun a' t h2 h3 h4 h5 h6 h7=>Ev.ok ⟨a',t,rfl,h2,h3,h4,h5,h6,h7⟩) (fun a' t h2 h3 h4 h5 h6 h7=>?_)
  exact jm hm hC (by omega) (by omega) hc
 ·obtain ⟨a',t,rfl,h2,h3,h4,h5,h6,h7⟩:=hr
  exact ht a' t h2 h3 h4 h5 h6 h7
theorem mB (hm:cm m) (hC:PC s T b) (h0:0≤a) (h1:a<T.length) {c:Int} (hc:b+s.length≤c) {x:List UInt8} {K:Nat→L→D α}
  (ht:∀ a' t,a≤a'→a'+1<T.length→T[a'.toNat]?=some t→t.Kind=5→t.Text=x→Ev (fun i=>K i (aY s T a' b k q)) Q (PP c)) :
  Ev (fun i=>D.bind (bV (m i) x (aY s T a b k q)) (K i)) Q (PP c):=by
 refine Ev.aQ (Q:=fun r=>(∃ a' t,r=(aY s T a' b k q)∧a≤a'∧a'+1<T.length∧T[a'.toNat]?=some t∧t.Kind=5∧t.Text=x)) ?_ fun r hr=>?_
 ·unfold bV
  refine fB hm hC h0 h1 fun a' t h2 h3 h4 h5 h6=>?_
  dsimp only
  refine jw fun r hr1 hr2=>?_
  refine Ev.bA (fun h=>jm hm hC (by omega) (by omega) hc) (fun h=>?_)
  obtain ⟨q1,q2⟩:=hr1 h
  exact Ev.ok ⟨a',t,rfl,h2,hC.next (by omega) h4 (by omega),h4,q1,q2⟩
 ·obtain ⟨a',t,rfl,h⟩:=hr
  exact ht a' t h.1 h.2.1 h.2.2.1 h.2.2.2.1 h.2.2.2.2
theorem qg (hm:cm m) (hC:PC s T b) (h0:0≤a) (h1:a<T.length) {c:Int} (hc:b+s.length≤c) {x:List UInt8} {K:Nat→L→D α}
  (ht:∀ a',a<a'→a'<T.length→Ev (fun i=>K i (aY s T a' b k q)) Q (PP c)):Ev (fun i=>D.bind (dv (m i) x (aY s T a b k q)) (K i)) Q (PP c):=by
 refine Ev.aQ (Q:=fun r=>(∃ a',r=(aY s T a' b k q)∧a<a'∧a'<T.length)) ?_ fun r hr=>?_
 ·unfold dv
  have:=hC.ls
  refine fB hm hC h0 h1 fun a' t h2 h3 h4 h5 h6=>?_
  dsimp only
  refine qe fun r hr1 hr2=>?_
  refine Ev.bA (fun h=>jm hm hC (by omega) (by omega) hc) (fun h=>?_)
  obtain ⟨q1,q2⟩:=hr1 h
  have:=hC.next (by omega) h4 (by omega)
  exact Ev.gd (by (first|omega|(simp[bK]<;>omega))) (Ev.ok ⟨a'+1,rfl,by omega,by omega⟩)
 ·obtain ⟨a',rfl,h⟩:=hr
  exact ht a' h.1 h.2
theorem uU (hm:cm m) (hC:PC s T b) (h0:0≤a) (h1:a<T.length) {c:Int} (hc:b+s.length≤c) {K:Nat→List UInt8×L→D α}
  (ht:∀ a' x,a<a'→a'<T.length→Ev (fun i=>K i (x,aY s T a' b k q)) Q (PP c)):Ev (fun i=>D.bind (dc (m i) (aY s T a b k q)) (K i)) Q (PP c):=by
 refine Ev.aQ (Q:=fun r=>(∃ a' x,r=(x,aY s T a' b k q)∧a<a'∧a'<T.length)) ?_ fun r hr=>?_
 ·unfold dc
  have:=hC.ls
  refine fB hm hC h0 h1 fun a' t h2 h3 h4 h5 h6=>?_
  dsimp only
  refine Ev.jn (fun v=>v=aY s T a' b k q∧t.Kind=1) (fun v hv=>?_) (fun j hj=>?_)
  ·obtain ⟨rfl,h7⟩:=hv
   have:=hC.next (by omega) h4 (by omega)
   exact Ev.gd (by (first|omega|(simp[bK]<;>omega))) (Ev.ok ⟨a'+1,_,rfl,by omega,by omega⟩)
  ·refine Ev.b5 (fun _=>jm hm hC (by omega) (by omega) hc) (fun h1=>?_)
   refine Ev.ep (il hm) fun z _=>?_
   exact Ev.bA (fun _=>jm hm hC (by omega) (by omega) hc) (fun _=>hj _ ⟨rfl,h1⟩)
 ·obtain ⟨a',x,rfl,h⟩:=hr
  exact ht a' x h.1 h.2
theorem yT (hm:cm m) (hC:PC s T b) (h0:0≤a) (h1:a<T.length) {c:Int} (hc:b+s.length≤c) {K:Nat→gz×L→D α}
  (ht:∀ a' x,a<a'→a'<T.length→Ev (fun i=>K i (x,aY s T a' b k q)) Q (PP c)):Ev (fun i=>D.bind (eX (m i) (aY s T a b k q)) (K i)) Q (PP c):=by
 refine Ev.aQ (Q:=fun r=>(∃ a' x,r=(x,aY s T a' b k q)∧a<a'∧a'<T.length)) ?_ fun r hr=>?_
 ·unfold eX
  refine uU hm hC h0 h1 hc fun a1 x1 h2 h3=>jo hm hC (by omega) (by omega) hc fun a2 t h4 h5 _ _ _ _=>kE hm hC (by omega) (by omega) fun a3 t3 v h6 h7 _ _ _ h8 h9=>uU hm hC (by omega) (by omega) hc fun a4 x4 h10 h11=>?_
  exact Ev.bE (fun _=>uT h8 (by omega)) (fun _=>Ev.ok ⟨a4,_,rfl,by omega,by omega⟩)
 ·obtain ⟨a',x,rfl,h⟩:=hr
  exact ht a' x h.1 h.2
theorem lT {n:Int} (hC:PC s T b) (h0:0≤a) (h1:a<T.length) (hn:0≤n) (hn2:n≤70000) {K:Nat→au×L→D α}
  (hk:∀ t,(t.Kind≠0→T[(a+n).toNat]?=some t∧a+n+1<T.length)→Ev (fun i=>K i (t,aY s T a b k q)) Q R):Ev (fun i=>D.bind (cQ n (aY s T a b k q)) (K i)) Q R:=by
 refine Ev.bind (Q:=fun r=>∃ t,r=(t,aY s T a b k q)∧(t.Kind≠0→T[(a+n).toNat]?=some t∧a+n+1<T.length)) (R':=gA) ?_ (fun _ q=>q.elim) fun r hr=>?_
 ·unfold cQ
  have:=hC.ls
  dsimp only
  refine Ev.gd (by (first|omega|(simp[bK]<;>omega))) (Ev.gd (by (first|omega|(simp[bK]<;>omega))) (Ev.el (by split<;>omega) (by split<;>omega) fun t ht=>Ev.ok ⟨t,rfl,fun hk=>?_⟩))
  have h2:=((hC.tok ht).2.2.2.2.2 hk).1
  have:¬ ((T.length:Int) - 1<a+n):=fun h=>by rw[if_pos h] at h2;omega
  rw[if_neg this] at ht h2
  exact ⟨ht,by omega⟩
 ·obtain ⟨t,rfl,h⟩:=hr
  exact hk t h
theorem uG (hm:cm m) (hC:PC s T b) (h0:0≤a) (h1:a<T.length):Ev (fun i=>dP (m i) (aY s T a b k q)) (fun r=>r.2=aY s T a b k q) gA:=by
 have hl:=hC.ls
 unfold dP
 dsimp only
 refine Ev.gd (by (first|omega|(simp[bK]<;>omega))) ?_
 refine Ev.iter hm (fun (x:Int)=>-1≤x∧x<a) (fun x=>(x+1).toNat) (by omega) ?_
 intro x hx next hn
 refine Ev.ba (fun h=>?_) (fun _=>Ev.ok rfl)
 refine Ev.el (by omega) (by omega) fun t ht=>?_
 refine Ev.b5 (fun _=>?_) (fun _=>Ev.gd (by (first|omega|(simp[bK]<;>omega))) (hn _ (by omega) (by omega)))
 refine Ev.HS (by omega) ht (Ev.el (by omega) (by omega) fun u hu=>?_)
 have h2:=hC.sorted (by omega) ht hu
 have h3:=hC.tok ht
 have h4:=hC.tok hu
 have:=hC.bs
 have:=hC.b0
 refine Ev.gd (by omega) ?_
 have:=rZ (c:=s) (i:=t.End) (j:=u.Pos) (by omega) (by omega) (by omega)
 exact Ev.aQ (oB (by omega)) fun _ _=>Ev.ok rfl
theorem tS (hm:cm m) (hC:PC s T b) (h0:0≤a) (h1:a<T.length) {e:Int} (he:1≤e) (he2:e≤a):Ev (fun i=>eJ (m i) e (aY s T a b k q)) (fun r=>r.2=aY s T a b k q) gA:=by
 have hl:=hC.ls
 unfold eJ
 dsimp only
 refine Ev.iter hm (fun (x:Int)=>e≤x∧x≤a) (fun x=>(a - x).toNat) (by omega) ?_
 intro x hx next hn
 refine Ev.ba (fun h=>?_) (fun _=>?_)
 ·refine Ev.el (by omega) (by omega) fun t ht=>jw fun r _ _=>Ev.bA (fun _=>Ev.ok rfl) (fun _=>?_)
  exact Ev.gd (by (first|omega|(simp[bK]<;>omega))) (hn _ (by omega) (by omega))
 ·refine Ev.gd (by (first|omega|(simp[bK]<;>omega))) (Ev.el (by omega) (by omega) fun t ht=>Ev.el (by omega) (by omega) fun u hu=>?_)
  have h2:=hC.sorted (by omega) ht hu
  have h3:=hC.tok ht
  have h4:=hC.tok hu
  have:=hC.bs
  have:=hC.b0
  refine Ev.gd (by omega) ?_
  have:=rZ (c:=s) (i:=t.End) (j:=u.Pos) (by omega) (by omega) (by omega)
  exact Ev.aQ (oB (by omega)) fun _ _=>Ev.ok rfl
theorem Eh (hm:cm m) (hC:PC s T b) (h0:0≤a) (h1:a<T.length) {K:Nat→Bool×L→D α}
  (hk:∀ a' t r,a≤a'→a'<T.length→T[a'.toNat]?=some t→(r=false→t.Kind≠0)→(k=true→t.Kind≠7)→Ev (fun i=>K i (r,aY s T a' b k q)) Q R):Ev (fun i=>D.bind (fq (m i) (aY s T a b k q)) (K i)) Q R:=by
 refine Ev.bind (Q:=fun r=>∃ a' t x,r=(x,aY s T a' b k q)∧a≤a'∧a'<T.length∧T[a'.toNat]?=some t∧(x=false→t.Kind≠0)∧(k=true→t.Kind≠7)) (R':=gA) ?_ (fun _ q=>q.elim) fun r hr=>?_
 ·unfold fq
  refine fB hm hC h0 h1 fun a1 t1 h2 h3 h4 h5 _=>?_
  dsimp only
  refine Ev.bE (fun _=>Ev.ok ⟨a1,t1,_,rfl,h2,h3,h4,by simp,h5⟩) (fun hne=>?_)
  refine fB hm hC (by omega) h3 fun a2 t2 h6 h7 h8 h9 h10=>jw fun r _ _=>Ev.ok ⟨a2,t2,r,rfl,by omega,by omega,h8,fun _=>?_,h9⟩
  have:=h10 t1 h4 h5
  subst this
  rw[h4] at h8;cases h8;exact hne
 ·obtain ⟨a',t,x,rfl,h⟩:=hr
  exact hk a' t x h.1 h.2.1 h.2.2.1 h.2.2.2.1 h.2.2.2.2
end
end Go.Abs
end
section
namespace Go.Abs
open Go.Proofs D
def gO (p0:al):D (Int×al):=
 br p0.wJ (.ok (11,p0)) (br p0.deep (.ok (9,p0)) (.ok (0,p0)))
theorem lu (p0:al):CT Tryz.prog 65 [.ptr 0 0] [.box (aH p0)] (gO p0) (fun x=>I x.1) (fun x=>[.box (aH x.2)]):=by
 refine zC Tryz.func65 O fun r hp h hr E hE=>B fun _ hK1=>A (za O (zQ hK1 (B fun _ hK2=>z (B fun _ hK3=>A (zm O (zn O (zf O (zl O (za O (zQ hK3 (zB O h (fun _ h=>?_) fun _ h=>?_)))))))))))
 · exact B fun _ hK5=>A (za O (zQ hK5 (H (zX (.cons (K O) .nil) h O))))
 · refine B fun _ hK6=>A (zm O (zn O (zf O (zl O (za O (zQ hK6 (zB O h (fun _ h=>?_) fun _ h=>?_)))))))
   · exact B fun _ hK8=>A (za O (zQ hK8 (H (zX (.cons (K O) .nil) h O))))
   · exact V (hK2 _ _ (B fun _ hK9=>A (za O (zQ hK9 (H (zX (.cons (K O) .nil) h O))))))
def lx (n:Nat) (p0:(List Bool)) (p1:Bool):D (Int):=
 iter (fun next5 (v4:Int)=>br (decide (v4<(List.length p0:Int))) (el p0 v4 fun zJ=>br (p1==zJ) (.ok (v4)) (gd (bK (v4+1)) (next5 (v4+1)))) (.ok ((-1)))) n (0)
theorem sa (n:Nat) (p0:(List Bool)) (p1:Bool):CT Tryz.prog 160 [.pv (.sl (List.length p0) (vr p0)),Bo p1] [] (lx n p0 p1) (fun x=>I x) (fun _=>[]):=by
 refine zC Tryz.func160 O fun r hp h hr E hE=>B fun _ hK1=>A (za O (zQ hK1 (B fun _ hK2=>B fun _ hK3=>A (zm O (J (cJ O) O (zm O (zQ hK3 (z (zL hr h (fun (v4:Int)=>[(0,.pv (.sl (List.length p0) (vr p0))),(1,Bo p1),(7,I (List.length p0:Int)),(8,I v4)]) (fun (v4:Int)=>[]) O fun _ v4 _ hK6 h=>B fun _ hK7=>A (zc O (zQ hK7 (B fun _ hK8=>zB O h (fun _ h=>?_) fun _ h=>?_))))))))))))
 · refine V (hK8 _ _ (B fun _ hK10=>z (B fun _ hK11=>A (zm O (za O (zQ hK11 (B fun _ hK12=>A (zm O (zm O (zm O (ze hr h fun zJ h14 h15 h16 h=>J (ia bH Br h14 h15 h16 O O O) O (J (gx O O) O (J (GJ O O) O (zQ hK12 (zB O h (fun _ h=>?_) fun _ h=>?_)))))))))))))))
   · exact B fun _ hK18=>A (zm O (za O (zQ hK18 (H (zX (.cons (K O) .nil) h O)))))
   · exact V (hK10 _ _ (A (zd hr h fun hg19 h=>zo hg19 O (zm O (N (hK6 _ _ _ h O))))))
 · exact bB (hK2 _ _ (B fun _ hK20=>A (za O (zQ hK20 (H (zX (.cons (K O) .nil) h O))))))
def iM (n:Nat) (p0:(List Bool)) (p1:Bool):D (Bool):=
 D.bind (lx n p0 p1) fun y3=>.ok ((decide (y3≥0)))
theorem qh (n:Nat) (p0:(List Bool)) (p1:Bool):CT Tryz.prog 108 [.pv (.sl (List.length p0) (vr p0)),Bo p1] [] (iM n p0 p1) (fun x=>Bo x) (fun _=>[]):=by
 exact zC Tryz.func108 O fun r hp h hr E hE=>B fun _ hK1=>A (za O (zQ hK1 (B fun _ hK2=>A (zm O (zm O (zk hp hr h [] Tryz.call160 (sa n p0 p1) O (fun _=>O) fun y3 h=>zc O (za O (zQ hK2 (H (zX (.cons (K O) .nil) h O))))))))))
def aC (n:Nat) (p0:(List Bool)) (p1:al):D (al):=
 br p1.wJ (.ok ((al.mk true p1.deep))) (D.bind (iM n p0 false) fun y2=>.ok ((al.mk y2 p1.deep)))
theorem aB (n:Nat) (p0:(List Bool)) (p1:al):CT Tryz.prog 61 [.ptr 0 0,.pv (.sl (List.length p0) (vr p0))] [.box (aH p1)] (aC n p0 p1) (fun _=>.fX []) (fun x=>[.box (aH x)]):=by
 refine zC Tryz.func61 O fun r hp h hr E hE=>A (zm O (zm O (zn O (zf O (zl O (zm O (zb p1.wJ (fun hb1=>?_) fun hb1=>?_)))))))
 · exact z1 hb1 h fun h=>zg hb1 O (zg hb1 O (zy hb1 O (zn O (zf O (zs O (N (zY .nil h O)))))))
 · exact z2 hb1 h fun h=>zG hb1 O (W O) (zK hb1 O hp hr h [] Tryz.call108 (qh n p0 false) O (fun _=>O) fun y2 h=>zw hb1 O (zn O (zf O (zs O (N (zY .nil h O))))))
def kJ (n:Nat) (p0:gz):D (Bool):=
 D.bind (fS n p0.x0) fun y3=>br y3 (D.bind (fS n p0.x1) fun y5=>br y5 (.ok ((p0.x0 !=p0.x1))) (.ok (false))) (.ok (false))
theorem qD (n:Nat) (p0:gz):CT Tryz.prog 164 [.agg [F p0.x0,F p0.x1]] [] (kJ n p0) (fun x=>Bo x) (fun _=>[]):=by
 refine zC Tryz.func164 O fun r hp h hr E hE=>B fun _ hK1=>A (eg 101 (hE _ O) ⟨O,O,O,O,O,O,O⟩ O ?_)
 refine za O (zQ hK1 (B fun _ hK2=>A (J (iD O O (by decide) (by decide)) O (zl O (zk hp hr h [] Tryz.call62 (gb n p0.x0) O (fun _=>O) fun y3 h=>zm O (zb y3 (fun hb4=>?_) fun hb4=>?_))))))
 · refine z1 hb4 h fun h=>zG hb4 O (iD O O (by decide) (by decide)) (zG hb4 O (bp O O O) (zK hb4 O hp hr h [] Tryz.call62 (gb n p0.x1) O (fun _=>O) fun y5 h=>zy hb4 O (zm O (zb y5 (fun hb6=>?_) fun hb6=>?_))))
   · exact z1 hb6 h fun h=>zG hb6 O (iD O O (by decide) (by decide)) (zG hb6 O (bp O O O) (zG hb6 O (iD O O (by decide) (by decide)) (zG hb6 O (bp O O O) (zG hb6 O (um O O) (zy hb6 O (za O (zQ hK2 (H (zX (.cons (K O) .nil) h O)))))))))
   · exact z2 hb6 h fun h=>zg hb6 O (zg hb6 O (zg hb6 O (zg hb6 O (zg hb6 O (zw hb6 O (za O (zQ hK2 (H (zX (.cons (K O) .nil) h O)))))))))
 · exact z2 hb4 h fun h=>zg hb4 O (zg hb4 O (zg hb4 O (zw hb4 O (zm O (zg O O (zg O O (zg O O (zg O O (zg O O (J (dI O O) O (za O (zQ hK2 (H (zX (.cons (K O) .nil) h O))))))))))))))
def nX (p0:(List UInt8)):D (Bool):=
 D.bind (strings_Contains p0 ([10]:List UInt8)) fun y3=>.ok (y3)
theorem tT (p0:(List UInt8)):CT Tryz.prog 112 [F p0] [] (nX p0) (fun x=>Bo x) (fun _=>[]):=by
 exact zC Tryz.func112 O fun r hp h hr E hE=>B fun _ hK1=>A (za O (zQ hK1 (B fun _ hK2=>A (zm O (zk hp hr h [] Tryz.call94 (jz p0 ([10]:List UInt8)) O (fun _=>O) fun y3 h=>za O (zQ hK2 (H (zX (.cons (K O) .nil) h O))))))))
def jq (n:Nat) (p0:(List (List UInt8))):D (Int):=
 iter (fun next5 (v4:Int)=>br (decide (v4<(List.length p0:Int))) (el p0 v4 fun zJ=>D.bind (nX zJ) fun y17=>br y17 (.ok (v4)) (gd (bK (v4+1)) (next5 (v4+1)))) (.ok ((-1)))) n (0)
theorem od (n:Nat) (p0:(List (List UInt8))):CT Tryz.prog 162 [.pv (.sl (List.length p0) (ch p0)),.fn 112 [] []] [] (jq n p0) (fun x=>I x) (fun _=>[]):=by
 refine zC Tryz.func162 O fun r hp h hr E hE=>B fun _ hK1=>A (za O (zQ hK1 (B fun _ hK2=>B fun _ hK3=>A (zm O (J (cJ O) O (zm O (zQ hK3 (z (zL hr h (fun (v4:Int)=>[(0,.pv (.sl (List.length p0) (ch p0))),(1,.fn 112 [] []),(7,I (List.length p0:Int)),(8,I v4)]) (fun (v4:Int)=>[]) O fun _ v4 _ hK6 h=>B fun _ hK7=>A (zc O (zQ hK7 (B fun _ hK8=>zB O h (fun _ h=>?_) fun _ h=>?_))))))))))))
 · refine V (hK8 _ _ (B fun _ hK10=>z (B fun _ hK11=>A (zm O (za O (zQ hK11 (B fun _ hK12=>A (zm O (zm O (zm O (ze hr h fun zJ h14 h15 h16 h=>J (ia fk hO h14 h15 h16 O O O) O (J (gx O O) O (zk hp hr h [] Tryz.call112 (tT zJ) O (fun _=>O) fun y17 h=>zQ hK12 (zB O h (fun _ h=>?_) fun _ h=>?_))))))))))))))
   · exact B fun _ hK19=>A (zm O (za O (zQ hK19 (H (zX (.cons (K O) .nil) h O)))))
   · exact V (hK10 _ _ (A (zd hr h fun hg20 h=>zo hg20 O (zm O (N (hK6 _ _ _ h O))))))
 · exact bB (hK2 _ _ (B fun _ hK21=>A (za O (zQ hK21 (H (zX (.cons (K O) .nil) h O))))))
def iq (n:Nat) (p0:(List (List UInt8))):D (Bool):=
 D.bind (jq n p0) fun y3=>.ok ((decide (y3≥0)))
theorem mV (n:Nat) (p0:(List (List UInt8))):CT Tryz.prog 111 [.pv (.sl (List.length p0) (ch p0)),.fn 112 [] []] [] (iq n p0) (fun x=>Bo x) (fun _=>[]):=by
 exact zC Tryz.func111 O fun r hp h hr E hE=>B fun _ hK1=>A (za O (zQ hK1 (B fun _ hK2=>A (zm O (zm O (zk hp hr h [] Tryz.call162 (od n p0) O (fun _=>O) fun y3 h=>zc O (za O (zQ hK2 (H (zX (.cons (K O) .nil) h O))))))))))
def gK (n:Nat) (p0:(List (List UInt8))):D (Bool):=
 D.bind (iq n p0) fun y3=>.ok ((!y3))
theorem ir (n:Nat) (p0:(List (List UInt8))):CT Tryz.prog 63 [.pv (.sl (List.length p0) (ch p0))] [] (gK n p0) (fun x=>Bo x) (fun _=>[]):=by
 exact zC Tryz.func63 O fun r hp h hr E hE=>B fun _ hK1=>A (za O (zQ hK1 (B fun _ hK2=>A (zm O (zk hp hr h [] Tryz.call111 (mV n p0) O (fun _=>O) fun y3 h=>J (eS O) O (za O (zQ hK2 (H (zX (.cons (K O) .nil) h O)))))))))
def mC (p0:gz):D (Bool):=
 .ok (((p0.x0==[])&&(p0.x1==[])))
theorem oU (p0:gz):CT Tryz.prog 165 [.agg [F p0.x0,F p0.x1]] [] (mC p0) (fun x=>Bo x) (fun _=>[]):=by
 refine zC Tryz.func165 O fun r hp h hr E hE=>B fun _ hK1=>A (eg 101 (hE _ O) ⟨O,O,O,O,O,O,O⟩ O ?_)
 refine za O (zQ hK1 (B fun _ hK2=>A (zA O ?_)))
 refine J (bQ O O O) O ?_
 exact J (F5 O O) O (za O (zQ hK2 (H (zX (.cons (K O) .nil) h O))))
def ek (n:Nat) (p0:aj) (p1:al):D (al):=
 D.bind (fS n p0.Text) fun y3=>D.bind (aC n [y3] p1) fun y4=>br (p0.bt==([]:List UInt8)) (D.bind (mC (gz.mk p0.bt p0.bz)) fun y8=>D.bind (aC n [y8,(p0.jv==0),((List.length p0.bf:Int)==0)] y4) fun y9=>.ok (y9)) (br (p0.bt==([108,101,116]:List UInt8)) (D.bind (aC n [((List.length p0.bf:Int)==1),(p0.bz==([]:List UInt8)),(decide (p0.jv≥0))] y4) fun y12=>.ok (y12)) (jn (fun (v13:Bool)=>br v13 (D.bind (aC n [((List.length p0.bf:Int)==0),(p0.bz==([]:List UInt8)),(decide (p0.jv≥0))] y4) fun y17=>.ok (y17)) (D.bind (aC n [false] y4) fun y18=>.ok (y18))) fun j14=>br (p0.bt==([102,105,101,108,100]:List UInt8)) (j14 ((p0.bt==([102,105,101,108,100]:List UInt8)))) (br (p0.bt==([108,111,111,112]:List UInt8)) (j14 ((p0.bt==([108,111,111,112]:List UInt8)))) (br (p0.bt==([112,97,99,107,97,103,101]:List UInt8)) (j14 ((p0.bt==([112,97,99,107,97,103,101]:List UInt8)))) (j14 ((p0.bt==([117,110,107,110,111,119,110]:List UInt8))))))))
theorem nY (n:Nat) (p0:aj) (p1:al):CT Tryz.prog 177 [.ptr 0 0,.agg (be p0)] [.box (aH p1)] (ek n p0 p1) (fun _=>.fX []) (fun x=>[.box (aH x)]):=by
 refine zC Tryz.func177 O fun r hp h hr E hE=>B fun _ hK1=>A (eg 103 (hE _ O) ⟨O,O,O,O,O,O,O⟩ O ?_)
 refine zQ hK1 (B fun _ hK2=>A (zm O (zf O (zl O (zk hp hr h [] Tryz.call62 (gb n p0.Text) O (fun _=>O) fun y3 h=>b4 [y3] bH ⟨O,O⟩ O ?_)))))
 refine zk hp hr h [0] Tryz.call61 (aB n [y3] p1) O (fun _=>O) fun y4 h=>zQ hK2 (B fun _ hK5=>A (zf O (J (iD O O (by decide) (by decide)) O (zl O (zQ hK5 (z (B fun _ hK6=>A (J (jc O O) O (za O (zQ hK6 (zB O h (fun _ h=>?_) fun _ h=>?_)))))))))))
 · refine bL [0,1,2,4,5,6,7,8,9,10,3,11,12] O (by kernel_rfl) (zD O (W O) O (zD O (bR O) O (zD O (iT O O O O) O ?_)))
   refine zD O (bR O) O (zD O (fj [.any,.any,I p0.jv,.any,.any,.any,.any,.any,.any] O O ⟨.inr O,.inr O,.inl O,.inr O,.inr O,.inr O,.inr O,.inr O,.inr O,trivial⟩ O) O (zD O (bw O O O) O (zD O (bR O) O (zD O (fj [.any,.any,.any,.any,.any,.pv (.sl (List.length p0.bf) (aj.Cs p0.bf)),.any,.any,.any] O O ⟨.inr O,.inr O,.inr O,.inr O,.inr O,.inl O,.inr O,.inr O,.inr O,trivial⟩ O) O (zD O (cJ O) O (zD O (bw O O O) O (dL O (bX O) hr h [] Tryz.call165 (oU (gz.mk p0.bt p0.bz)) ⟨O,O,O,O,O,O,trivial⟩ O O (fun _=>⟨O,O,O⟩) (fun _=>⟨O,O⟩) hp (fun y8 h=>⟨cP ⟨trivial,⟨trivial,⟨⟨⟨_,O,M.ff ⟨.inr O,.inr O,.inr O,.inr O,.inr O,.inl O,.inr O,.inr O,.inr O,trivial⟩⟩,trivial⟩,⟨trivial,⟨trivial,⟨⟨⟨_,O,M.ff ⟨.inr O,.inr O,.inl O,.inr O,.inr O,.inr O,.inr O,.inr O,.inr O,trivial⟩⟩,trivial⟩,⟨trivial,⟨trivial,⟨trivial,⟨trivial,trivial⟩⟩⟩⟩⟩⟩⟩⟩⟩⟩,?_⟩))))))))
   refine ig [y8,(p0.jv==0),((List.length p0.bf:Int)==0)] bH O (bX O) ⟨O,O⟩ ⟨O,O⟩ ?_
   refine dL O (bX O) hr h [0] Tryz.call61 (aB n [y8,(p0.jv==0),((List.length p0.bf:Int)==0)] y4) ⟨O,O,O,O,O,O,trivial⟩ O O (fun _=>⟨O,O,O⟩) (fun _=>⟨O,O⟩) hp (fun y9 h=>⟨aL O,?_⟩)
   exact cX (zY .nil h O)
 · refine B fun _ hK10=>A (J (jc O O) O (za O (zQ hK10 (zB O h (fun _ h=>?_) fun _ h=>?_))))
   · refine A (zm O (zf O (zl O (J (cJ O) O (zc O (zf O (J (iD O O (by decide) (by decide)) O (zl O (J (jc O O) O (zf O (zl O (zc O (b4 [((List.length p0.bf:Int)==1),(p0.bz==([]:List UInt8)),(decide (p0.jv≥0))] bH ⟨O,O⟩ O ?_)))))))))))))
     exact zk hp hr h [0] Tryz.call61 (aB n [((List.length p0.bf:Int)==1),(p0.bz==([]:List UInt8)),(decide (p0.jv≥0))] y4) O (fun _=>O) fun y12 h=>N (zY .nil h O)
   · refine zM h (fun (v13:Bool)=>[(0,.ptr 0 0),(1,.agg (be p0)),(3,.ptr 103 0),(47,Bo v13)]) (fun (v13:Bool)=>[(0,.box (aH y4)),(103,.box (be p0))]) (fun v13 h=>?_) fun _ _ hK15 h=>?_
     · refine zB O h (fun _ h=>?_) fun _ h=>?_
       · refine A (zm O (zf O (zl O (J (cJ O) O (zc O (zf O (J (iD O O (by decide) (by decide)) O (zl O (J (jc O O) O (zf O (zl O (zc O (b4 [((List.length p0.bf:Int)==0),(p0.bz==([]:List UInt8)),(decide (p0.jv≥0))] bH ⟨O,O⟩ O ?_)))))))))))))
         exact zk hp hr h [0] Tryz.call61 (aB n [((List.length p0.bf:Int)==0),(p0.bz==([]:List UInt8)),(decide (p0.jv≥0))] y4) O (fun _=>O) fun y17 h=>N (zY .nil h O)
       · refine A (zm O (b4 [false] bH ⟨O,O⟩ O ?_))
         exact zk hp hr h [0] Tryz.call61 (aB n [false] y4) O (fun _=>O) fun y18 h=>N (zY .nil h O)
     · refine B fun _ hK19=>A (J (jc O O) O (za O (zQ hK19 (zB O h (fun _ h=>?_) fun _ h=>?_))))
       · exact V (hK15 _ _ _ h O)
       · refine B fun _ hK21=>A (J (jc O O) O (za O (zQ hK21 (zB O h (fun _ h=>?_) fun _ h=>?_))))
         · exact V (hK15 _ _ _ h O)
         · refine B fun _ hK23=>A (J (jc O O) O (za O (zQ hK23 (zB O h (fun _ h=>?_) fun _ h=>?_))))
           · exact V (hK15 _ _ _ h O)
           · exact A (J (jc O O) O (za O (N (hK15 _ _ _ h O))))
def fC (n:Nat) (p0:aj) (p1:al):D (al):=
 jn (fun (v4:Bool)=>br v4 (.ok (p1)) (br (p0.Kind==5) (D.bind (aC n [(decide ((List.length p0.bf:Int)≥1))] p1) fun y10=>.ok (y10)) (jn (fun (v11:Bool)=>br v11 (D.bind (aC n [((List.length p0.bf:Int)==1)] p1) fun y15=>.ok (y15)) (jn (fun (v16:Bool)=>br v16 (D.bind (aC n [((List.length p0.bf:Int)==2)] p1) fun y20=>.ok (y20)) (br (p0.Kind==15) (br ((List.length p0.bf:Int)==2) (D.bind (aC n [true] p1) fun y24=>.ok (y24)) (D.bind (aC n [((List.length p0.bf:Int)==3)] p1) fun y25=>.ok (y25))) (br (p0.Kind==17) (D.bind (aC n [(decide ((List.length p0.bf:Int)≥2))] p1) fun y28=>.ok (y28)) (br (p0.Kind==14) (D.bind (aC n [(decide ((List.length p0.bf:Int)≥(Cr .i64 p0.jv 1)))] p1) fun y31=>.ok (y31)) (D.bind (aC n [((List.length p0.bf:Int)==0)] p1) fun y32=>.ok (y32)))))) fun j17=>br (p0.Kind==12) (j17 ((p0.Kind==12))) (br (p0.Kind==16) (j17 ((p0.Kind==16))) (j17 ((p0.Kind==20)))))) fun j12=>br (p0.Kind==9) (j12 ((p0.Kind==9))) (br (p0.Kind==11) (j12 ((p0.Kind==11))) (br (p0.Kind==18) (j12 ((p0.Kind==18))) (j12 ((p0.Kind==19)))))))) fun j5=>br (p0.Kind==10) (j5 ((p0.Kind==10))) (j5 ((p0.Kind==21)))
theorem qO (n:Nat) (p0:aj) (p1:al):CT Tryz.prog 175 [.ptr 0 0,.agg (be p0)] [.box (aH p1)] (fC n p0 p1) (fun _=>.fX []) (fun x=>[.box (aH x)]):=by
 refine zC Tryz.func175 O fun r hp h hr E hE=>B fun _ hK1=>A (eg 103 (hE _ O) ⟨O,O,O,O,O,O,O⟩ O ?_)
 refine zQ hK1 (B fun _ hK2=>A (zf O (zl O (J (cJ O) O (za O (zQ hK2 (B fun _ hK3=>A (zf O (zl O (zQ hK3 (z (zM h (fun (v4:Bool)=>[(0,.ptr 0 0),(1,.agg (be p0)),(3,.ptr 103 0),(4,I (List.length p0.bf:Int)),(9,I p0.Kind),(15,Bo v4)]) (fun (v4:Bool)=>[(0,.box (aH p1)),(103,.box (be p0))]) (fun v4 h=>?_) fun _ _ hK6 h=>?_))))))))))))
 · refine zB O h (fun _ h=>?_) fun _ h=>?_
   · exact V (zY .nil h O)
   · refine B fun _ hK8=>A (zc O (za O (zQ hK8 (zB O h (fun _ h=>?_) fun _ h=>?_))))
     · refine A (zm O (zm O (zc O (b4 [(decide ((List.length p0.bf:Int)≥1))] bH ⟨O,O⟩ O ?_))))
       exact zk hp hr h [0] Tryz.call61 (aB n [(decide ((List.length p0.bf:Int)≥1))] p1) O (fun _=>O) fun y10 h=>N (zY .nil h O)
     · refine zM h (fun (v11:Bool)=>[(0,.ptr 0 0),(1,.agg (be p0)),(3,.ptr 103 0),(4,I (List.length p0.bf:Int)),(9,I p0.Kind),(25,Bo v11)]) (fun (v11:Bool)=>[(0,.box (aH p1)),(103,.box (be p0))]) (fun v11 h=>?_) fun _ _ hK13 h=>?_
       · refine zB O h (fun _ h=>?_) fun _ h=>?_
         · refine A (zm O (zm O (zc O (b4 [((List.length p0.bf:Int)==1)] bH ⟨O,O⟩ O ?_))))
           exact zk hp hr h [0] Tryz.call61 (aB n [((List.length p0.bf:Int)==1)] p1) O (fun _=>O) fun y15 h=>N (zY .nil h O)
         · refine zM h (fun (v16:Bool)=>[(0,.ptr 0 0),(1,.agg (be p0)),(3,.ptr 103 0),(4,I (List.length p0.bf:Int)),(9,I p0.Kind),(35,Bo v16)]) (fun (v16:Bool)=>[(0,.box (aH p1)),(103,.box (be p0))]) (fun v16 h=>?_) fun _ _ hK18 h=>?_
           · refine zB O h (fun _ h=>?_) fun _ h=>?_
             · refine A (zm O (zm O (zc O (b4 [((List.length p0.bf:Int)==2)] bH ⟨O,O⟩ O ?_))))
               exact zk hp hr h [0] Tryz.call61 (aB n [((List.length p0.bf:Int)==2)] p1) O (fun _=>O) fun y20 h=>N (zY .nil h O)
             · refine B fun _ hK21=>A (zc O (za O (zQ hK21 (zB O h (fun _ h=>?_) fun _ h=>?_))))
               · refine A (zm O (zm O (zc O (zm O (zb ((List.length p0.bf:Int)==2) (fun hb23=>?_) fun hb23=>?_)))))
                 · refine z1 hb23 h fun h=>zg hb23 O (zg hb23 O (zy hb23 O (b4 [true] bH ⟨O,O⟩ O ?_)))
                   exact zk hp hr h [0] Tryz.call61 (aB n [true] p1) O (fun _=>O) fun y24 h=>N (zY .nil h O)
                 · refine z2 hb23 h fun h=>zG hb23 O (W O) (zG hb23 O (bw O O O) (zw hb23 O (b4 [((List.length p0.bf:Int)==3)] bH ⟨O,O⟩ O ?_)))
                   exact zk hp hr h [0] Tryz.call61 (aB n [((List.length p0.bf:Int)==3)] p1) O (fun _=>O) fun y25 h=>N (zY .nil h O)
               · refine B fun _ hK26=>A (zc O (za O (zQ hK26 (zB O h (fun _ h=>?_) fun _ h=>?_))))
                 · refine A (zm O (zm O (zc O (b4 [(decide ((List.length p0.bf:Int)≥2))] bH ⟨O,O⟩ O ?_))))
                   exact zk hp hr h [0] Tryz.call61 (aB n [(decide ((List.length p0.bf:Int)≥2))] p1) O (fun _=>O) fun y28 h=>N (zY .nil h O)
                 · refine B fun _ hK29=>A (zc O (za O (zQ hK29 (zB O h (fun _ h=>?_) fun _ h=>?_))))
                   · refine A (zm O (zm O (zf O (zl O (J (FI O O) O (zc O (b4 [(decide ((List.length p0.bf:Int)≥(Cr .i64 p0.jv 1)))] bH ⟨O,O⟩ O ?_)))))))
                     exact zk hp hr h [0] Tryz.call61 (aB n [(decide ((List.length p0.bf:Int)≥(Cr .i64 p0.jv 1)))] p1) O (fun _=>O) fun y31 h=>N (zY .nil h O)
                   · refine A (zm O (zm O (zc O (b4 [((List.length p0.bf:Int)==0)] bH ⟨O,O⟩ O ?_))))
                     exact zk hp hr h [0] Tryz.call61 (aB n [((List.length p0.bf:Int)==0)] p1) O (fun _=>O) fun y32 h=>N (zY .nil h O)
           · refine B fun _ hK33=>A (zc O (za O (zQ hK33 (zB O h (fun _ h=>?_) fun _ h=>?_))))
             · exact V (hK18 _ _ _ h O)
             · refine B fun _ hK35=>A (zc O (za O (zQ hK35 (zB O h (fun _ h=>?_) fun _ h=>?_))))
               · exact V (hK18 _ _ _ h O)
               · exact A (zc O (za O (N (hK18 _ _ _ h O))))
       · refine B fun _ hK37=>A (zc O (za O (zQ hK37 (zB O h (fun _ h=>?_) fun _ h=>?_))))
         · exact V (hK13 _ _ _ h O)
         · refine B fun _ hK39=>A (zc O (za O (zQ hK39 (zB O h (fun _ h=>?_) fun _ h=>?_))))
           · exact V (hK13 _ _ _ h O)
           · refine B fun _ hK41=>A (zc O (za O (zQ hK41 (zB O h (fun _ h=>?_) fun _ h=>?_))))
             · exact V (hK13 _ _ _ h O)
             · exact A (zc O (za O (N (hK13 _ _ _ h O))))
 · refine B fun _ hK43=>A (zc O (za O (zQ hK43 (zB O h (fun _ h=>?_) fun _ h=>?_))))
   · exact V (hK6 _ _ _ h O)
   · exact A (zc O (za O (N (hK6 _ _ _ h O))))
def gW (n:Nat) (p0:(List UInt8)) (p1:(List UInt8)):D (Bool):=
 br (p0 !=([]:List UInt8)) (D.bind (strings_Split p1 ([32]:List UInt8)) fun y4=>D.bind (slices_Contains_string n y4 p0) fun y5=>.ok (y5)) (.ok (false))
theorem jZ (n:Nat) (p0:(List UInt8)) (p1:(List UInt8)):CT Tryz.prog 216 [F p0,F p1] [] (gW n p0 p1) (fun x=>Bo x) (fun _=>[]):=by
 refine zC Tryz.func216 O fun r hp h hr E hE=>B fun _ hK1=>A (za O (zQ hK1 (B fun _ hK2=>A (zm O (J (um O O) O (zm O (zb (p0 !=([]:List UInt8)) (fun hb3=>?_) fun hb3=>?_)))))))
 · exact z1 hb3 h fun h=>zG hb3 O (W O) (zK hb3 O hp hr h [] Tryz.call146 (mP p1 ([32]:List UInt8)) O (fun _=>O) fun y4 h=>zG hb3 O (W O) (zK hb3 O hp hr h [] Tryz.call109 (iN n y4 p0) O (fun _=>O) fun y5 h=>zy hb3 O (za O (zQ hK2 (H (zX (.cons (K O) .nil) h O))))))
 · exact z2 hb3 h fun h=>zg hb3 O (zg hb3 O (zg hb3 O (zg hb3 O (zw hb3 O (za O (zQ hK2 (H (zX (.cons (K O) .nil) h O))))))))
def fD (n:Nat) (p0:aj) (p1:al):D (al):=
 jn (fun (v3:Bool)=>br v3 (.ok (p1)) (br (p0.Kind==8) (D.bind (gW n p0.Text ([110,117,108,108,32,98,111,111,108,32,105,110,116,32,110,117,109,98,101,114,32,115,116,114,105,110,103]:List UInt8)) fun y9=>D.bind (aC n [y9] p1) fun y10=>.ok (y10)) (br (p0.Kind==9) (D.bind (gW n p0.Text ([60,32,60,61,32,62,32,62,61,32,33,61,32,61,126,32,33,126]:List UInt8)) fun y13=>D.bind (aC n [y13] p1) fun y14=>.ok (y14)) (br (p0.Kind==19) (D.bind (gW n p0.Text ([45,32,33]:List UInt8)) fun y17=>D.bind (aC n [y17] p1) fun y18=>.ok (y18)) (br (p0.Kind==20) (D.bind (gW n p0.Text ([43,32,45,32,42,32,47,32,37,32,61,61,32,33,61,32,60,32,60,61,32,62,32,62,61,32,38,38,32,124,124]:List UInt8)) fun y21=>D.bind (aC n [y21] p1) fun y22=>.ok (y22)) (br (p0.Kind==21) (D.bind (fS n p0.Text) fun y25=>D.bind (aC n [y25] p1) fun y26=>.ok (y26)) (D.bind (aC n [(p0.Text==([]:List UInt8))] p1) fun y27=>.ok (y27)))))))) fun j4=>br (p0.Kind==10) (j4 ((p0.Kind==10))) (br (p0.Kind==4) (j4 ((p0.Kind==4))) (j4 ((p0.Kind==11))))
theorem qP (n:Nat) (p0:aj) (p1:al):CT Tryz.prog 176 [.ptr 0 0,.agg (be p0)] [.box (aH p1)] (fD n p0 p1) (fun _=>.fX []) (fun x=>[.box (aH x)]):=by
 refine zC Tryz.func176 O fun r hp h hr E hE=>B fun _ hK1=>A (eg 103 (hE _ O) ⟨O,O,O,O,O,O,O⟩ O ?_)
 refine zQ hK1 (B fun _ hK2=>A (zf O (zl O (zQ hK2 (z (zM h (fun (v3:Bool)=>[(0,.ptr 0 0),(1,.agg (be p0)),(3,.ptr 103 0),(5,I p0.Kind),(12,Bo v3)]) (fun (v3:Bool)=>[(0,.box (aH p1)),(103,.box (be p0))]) (fun v3 h=>?_) fun _ _ hK5 h=>?_))))))
 · refine zB O h (fun _ h=>?_) fun _ h=>?_
   · exact V (zY .nil h O)
   · refine B fun _ hK7=>A (zc O (za O (zQ hK7 (zB O h (fun _ h=>?_) fun _ h=>?_))))
     · refine A (zm O (zf O (zl O (zk hp hr h [] Tryz.call216 (jZ n p0.Text ([110,117,108,108,32,98,111,111,108,32,105,110,116,32,110,117,109,98,101,114,32,115,116,114,105,110,103]:List UInt8)) O (fun _=>O) fun y9 h=>b4 [y9] bH ⟨O,O⟩ O ?_))))
       exact zk hp hr h [0] Tryz.call61 (aB n [y9] p1) O (fun _=>O) fun y10 h=>N (zY .nil h O)
     · refine B fun _ hK11=>A (zc O (za O (zQ hK11 (zB O h (fun _ h=>?_) fun _ h=>?_))))
       · refine A (zm O (zf O (zl O (zk hp hr h [] Tryz.call216 (jZ n p0.Text ([60,32,60,61,32,62,32,62,61,32,33,61,32,61,126,32,33,126]:List UInt8)) O (fun _=>O) fun y13 h=>b4 [y13] bH ⟨O,O⟩ O ?_))))
         exact zk hp hr h [0] Tryz.call61 (aB n [y13] p1) O (fun _=>O) fun y14 h=>N (zY .nil h O)
       · refine B fun _ hK15=>A (zc O (za O (zQ hK15 (zB O h (fun _ h=>?_) fun _ h=>?_))))
         · refine A (zm O (zf O (zl O (zk hp hr h [] Tryz.call216 (jZ n p0.Text ([45,32,33]:List UInt8)) O (fun _=>O) fun y17 h=>b4 [y17] bH ⟨O,O⟩ O ?_))))
           exact zk hp hr h [0] Tryz.call61 (aB n [y17] p1) O (fun _=>O) fun y18 h=>N (zY .nil h O)
         · refine B fun _ hK19=>A (zc O (za O (zQ hK19 (zB O h (fun _ h=>?_) fun _ h=>?_))))
           · refine A (zm O (zf O (zl O (zk hp hr h [] Tryz.call216 (jZ n p0.Text ([43,32,45,32,42,32,47,32,37,32,61,61,32,33,61,32,60,32,60,61,32,62,32,62,61,32,38,38,32,124,124]:List UInt8)) O (fun _=>O) fun y21 h=>b4 [y21] bH ⟨O,O⟩ O ?_))))
             exact zk hp hr h [0] Tryz.call61 (aB n [y21] p1) O (fun _=>O) fun y22 h=>N (zY .nil h O)
           · refine B fun _ hK23=>A (zc O (za O (zQ hK23 (zB O h (fun _ h=>?_) fun _ h=>?_))))
             · refine A (zm O (zf O (zl O (zk hp hr h [] Tryz.call62 (gb n p0.Text) O (fun _=>O) fun y25 h=>b4 [y25] bH ⟨O,O⟩ O ?_))))
               exact zk hp hr h [0] Tryz.call61 (aB n [y25] p1) O (fun _=>O) fun y26 h=>N (zY .nil h O)
             · refine A (zm O (zf O (zl O (J (jc O O) O (b4 [(p0.Text==([]:List UInt8))] bH ⟨O,O⟩ O ?_)))))
               exact zk hp hr h [0] Tryz.call61 (aB n [(p0.Text==([]:List UInt8))] p1) O (fun _=>O) fun y27 h=>N (zY .nil h O)
 · refine B fun _ hK28=>A (zc O (za O (zQ hK28 (zB O h (fun _ h=>?_) fun _ h=>?_))))
   · exact V (hK5 _ _ _ h O)
   · refine B fun _ hK30=>A (zc O (za O (zQ hK30 (zB O h (fun _ h=>?_) fun _ h=>?_))))
     · exact V (hK5 _ _ _ h O)
     · exact A (zc O (za O (N (hK5 _ _ _ h O))))
def fQ (n:Nat) (p0:aj) (p1:aO) (p2:al):D (al):=
 jn (fun (v2:al)=>D.bind (fC n p0 v2) fun y6=>D.bind (fD n p0 y6) fun y8=>jn (fun (v9:Bool)=>jn (fun (v12:al)=>jn (fun (v15:al)=>jn (fun (v18:al)=>jn (fun (v21:al)=>br p1.lh (br (!p1.lh) (D.bind (aC n [true,true] v21) fun y26=>.ok (y26)) (D.bind (aC n [true,(p0.Kind !=22)] v21) fun y27=>.ok (y27))) (br (!p1.lh) (D.bind (aC n [(p0.Kind !=13),true] v21) fun y29=>.ok (y29)) (D.bind (aC n [(p0.Kind !=13),(p0.Kind !=22)] v21) fun y30=>.ok (y30)))) fun j22=>br p1.F4 (br p1.vt (D.bind (aC n [true,true] v18) fun y33=>j22 (y33)) (D.bind (aC n [true,(p0.Kind !=15)] v18) fun y34=>j22 (y34))) (br p1.vt (D.bind (aC n [(p0.Kind !=18),true] v18) fun y36=>j22 (y36)) (D.bind (aC n [(p0.Kind !=18),(p0.Kind !=15)] v18) fun y37=>j22 (y37)))) fun j19=>br (p0.Kind==15) (D.bind (kJ n (gz.mk p0.bt p0.bz)) fun y40=>D.bind (aC n [y40] v15) fun y41=>j19 (y41)) (D.bind (mC (gz.mk p0.bt p0.bz)) fun y42=>D.bind (aC n [y42] v15) fun y43=>j19 (y43))) fun j16=>br (p0.Kind==10) (D.bind (ek n p0 v12) fun y48=>.ok (y48)) (jn (fun (v49:Bool)=>br v49 (br (p0.jv==0) (D.bind (aC n [true] v12) fun y54=>j16 (y54)) (D.bind (aC n [(p0.jv==1)] v12) fun y55=>j16 (y55))) (br (p0.Kind==3) (D.bind (k1 p0.jv) fun y58=>D.bind (aC n [(decide (p0.jv≥0)),y58] v12) fun y59=>j16 (y59)) (D.bind (aC n [(p0.jv==0)] v12) fun y60=>j16 (y60)))) fun j50=>br (p0.Kind==2) (j50 ((p0.Kind==2))) (j50 ((p0.Kind==14))))) fun j13=>br v9 (D.bind (gK n p0.cz) fun y64=>D.bind (aC n [true,y64] y8) fun y65=>j13 (y65)) (gd (bK ((List.length p0.Decls:Int)+(List.length p0.cz:Int))) (D.bind (gK n p0.cz) fun y67=>D.bind (aC n [(((List.length p0.Decls:Int)+(List.length p0.cz:Int))==0),y67] y8) fun y68=>j13 (y68)))) fun j10=>br (p0.Kind==13) (j10 (true)) (j10 ((p0.Kind==22)))) fun j3=>br (decide (p0.Kind≥1)) (D.bind (aC n [(decide (p0.Kind≤22))] p2) fun y71=>j3 (y71)) (D.bind (aC n [false] p2) fun y72=>j3 (y72))
theorem rK (n:Nat) (p0:aj) (p1:aO) (p2:al):CT Tryz.prog 120 [.ptr 0 0,.agg (be p0),.agg (bN p1)] [.box (aH p2)] (fQ n p0 p1 p2) (fun _=>.fX []) (fun x=>[.box (aH x)]):=by
 refine zC Tryz.func120 O fun r hp h hr E hE=>B fun _ hK1=>A (eg 104 (hE _ O) ⟨O,O,O,O,O,O,O⟩ O ?_)
 refine eg 105 (hE _ O) ⟨O,O,O,O,O,O,O⟩ O ?_
 refine zQ hK1 (zM h (fun (v2:al)=>[(0,.ptr 0 0),(1,.agg (be p0)),(2,.agg (bN p1)),(4,.ptr 104 0),(5,.ptr 105 0)]) (fun (v2:al)=>[(0,.box (aH v2)),(104,.box (be p0)),(105,.box (bN p1))]) (fun v2 h=>?_) fun _ _ hK4 h=>?_)
 · refine B fun _ hK5=>A (zm O (zA O ?_))
   refine zk hp hr h [0] Tryz.call175 (qO n p0 v2) O (fun _=>O) fun y6 h=>zQ hK5 (B fun _ hK7=>A (zm O (zA O ?_)))
   refine zk hp hr h [0] Tryz.call176 (qP n p0 y6) O (fun _=>O) fun y8 h=>zQ hK7 (zM h (fun (v9:Bool)=>[(0,.ptr 0 0),(1,.agg (be p0)),(2,.agg (bN p1)),(4,.ptr 104 0),(5,.ptr 105 0),(6,Bo v9)]) (fun (v9:Bool)=>[(0,.box (aH y8)),(104,.box (be p0)),(105,.box (bN p1))]) (fun v9 h=>?_) fun _ _ hK11 h=>?_)
   · refine zM h (fun (v12:al)=>[(0,.ptr 0 0),(1,.agg (be p0)),(2,.agg (bN p1)),(4,.ptr 104 0),(5,.ptr 105 0)]) (fun (v12:al)=>[(0,.box (aH v12)),(104,.box (be p0)),(105,.box (bN p1))]) (fun v12 h=>?_) fun _ _ hK14 h=>?_
     · refine zM h (fun (v15:al)=>[(0,.ptr 0 0),(1,.agg (be p0)),(2,.agg (bN p1)),(4,.ptr 104 0),(5,.ptr 105 0)]) (fun (v15:al)=>[(0,.box (aH v15)),(104,.box (be p0)),(105,.box (bN p1))]) (fun v15 h=>?_) fun _ _ hK17 h=>?_
       · refine zM h (fun (v18:al)=>[(0,.ptr 0 0),(1,.agg (be p0)),(2,.agg (bN p1)),(4,.ptr 104 0),(5,.ptr 105 0)]) (fun (v18:al)=>[(0,.box (aH v18)),(104,.box (be p0)),(105,.box (bN p1))]) (fun v18 h=>?_) fun _ _ hK20 h=>?_
         · refine zM h (fun (v21:al)=>[(0,.ptr 0 0),(1,.agg (be p0)),(2,.agg (bN p1)),(4,.ptr 104 0),(5,.ptr 105 0)]) (fun (v21:al)=>[(0,.box (aH v21)),(104,.box (be p0)),(105,.box (bN p1))]) (fun v21 h=>?_) fun _ _ hK23 h=>?_
           · refine A (zm O (zf O (zl O (zm O (zb p1.lh (fun hb24=>?_) fun hb24=>?_)))))
             · refine z1 hb24 h fun h=>zg hb24 O (zg hb24 O (zg hb24 O (zy hb24 O (zf O (zl O (J (eS O) O (zm O (zb (!p1.lh) (fun hb25=>?_) fun hb25=>?_))))))))
               · refine z1 hb25 h fun h=>zg hb25 O (zg hb25 O (zg hb25 O (zy hb25 O (b4 [true,true] bH ⟨O,O⟩ O ?_))))
                 exact zk hp hr h [0] Tryz.call61 (aB n [true,true] v21) O (fun _=>O) fun y26 h=>N (zY .nil h O)
               · refine z2 hb25 h fun h=>zG hb25 O (bR O) (zG hb25 O (bp O O O) (zG hb25 O (bw O O O) (zw hb25 O (b4 [true,(p0.Kind !=22)] bH ⟨O,O⟩ O ?_))))
                 exact zk hp hr h [0] Tryz.call61 (aB n [true,(p0.Kind !=22)] v21) O (fun _=>O) fun y27 h=>N (zY .nil h O)
             · refine z2 hb24 h fun h=>zG hb24 O (bR O) (zG hb24 O (bp O O O) (zG hb24 O (bw O O O) (zw hb24 O (zf O (zl O (J (eS O) O (zm O (zb (!p1.lh) (fun hb28=>?_) fun hb28=>?_))))))))
               · refine z1 hb28 h fun h=>zg hb28 O (zg hb28 O (zg hb28 O (zy hb28 O (b4 [(p0.Kind !=13),true] bH ⟨O,O⟩ O ?_))))
                 exact zk hp hr h [0] Tryz.call61 (aB n [(p0.Kind !=13),true] v21) O (fun _=>O) fun y29 h=>N (zY .nil h O)
               · refine z2 hb28 h fun h=>zG hb28 O (bR O) (zG hb28 O (bp O O O) (zG hb28 O (bw O O O) (zw hb28 O (b4 [(p0.Kind !=13),(p0.Kind !=22)] bH ⟨O,O⟩ O ?_))))
                 exact zk hp hr h [0] Tryz.call61 (aB n [(p0.Kind !=13),(p0.Kind !=22)] v21) O (fun _=>O) fun y30 h=>N (zY .nil h O)
           · refine A (zm O (zf O (zl O (zm O (zb p1.F4 (fun hb31=>?_) fun hb31=>?_)))))
             · refine z1 hb31 h fun h=>zg hb31 O (zg hb31 O (zg hb31 O (zy hb31 O (zf O (zl O (zm O (zb p1.vt (fun hb32=>?_) fun hb32=>?_)))))))
               · refine z1 hb32 h fun h=>zg hb32 O (zg hb32 O (zg hb32 O (zy hb32 O (b4 [true,true] bH ⟨O,O⟩ O ?_))))
                 exact zk hp hr h [0] Tryz.call61 (aB n [true,true] v18) O (fun _=>O) fun y33 h=>N (hK23 _ _ _ h O)
               · refine z2 hb32 h fun h=>zG hb32 O (bR O) (zG hb32 O (bp O O O) (zG hb32 O (bw O O O) (zw hb32 O (b4 [true,(p0.Kind !=15)] bH ⟨O,O⟩ O ?_))))
                 exact zk hp hr h [0] Tryz.call61 (aB n [true,(p0.Kind !=15)] v18) O (fun _=>O) fun y34 h=>N (hK23 _ _ _ h O)
             · refine z2 hb31 h fun h=>zG hb31 O (bR O) (zG hb31 O (bp O O O) (zG hb31 O (bw O O O) (zw hb31 O (zf O (zl O (zm O (zb p1.vt (fun hb35=>?_) fun hb35=>?_)))))))
               · refine z1 hb35 h fun h=>zg hb35 O (zg hb35 O (zg hb35 O (zy hb35 O (b4 [(p0.Kind !=18),true] bH ⟨O,O⟩ O ?_))))
                 exact zk hp hr h [0] Tryz.call61 (aB n [(p0.Kind !=18),true] v18) O (fun _=>O) fun y36 h=>N (hK23 _ _ _ h O)
               · refine z2 hb35 h fun h=>zG hb35 O (bR O) (zG hb35 O (bp O O O) (zG hb35 O (bw O O O) (zw hb35 O (b4 [(p0.Kind !=18),(p0.Kind !=15)] bH ⟨O,O⟩ O ?_))))
                 exact zk hp hr h [0] Tryz.call61 (aB n [(p0.Kind !=18),(p0.Kind !=15)] v18) O (fun _=>O) fun y37 h=>N (hK23 _ _ _ h O)
         · refine B fun _ hK38=>A (zf O (zl O (zc O (zQ hK38 (zB O h (fun _ h=>?_) fun _ h=>?_)))))
           · refine A (zm O (zf O (zA O ?_)))
             refine zk hp hr h [] Tryz.call164 (qD n (gz.mk p0.bt p0.bz)) O (fun _=>O) fun y40 h=>b4 [y40] bH ⟨O,O⟩ O ?_
             exact zk hp hr h [0] Tryz.call61 (aB n [y40] v15) O (fun _=>O) fun y41 h=>N (hK20 _ _ _ h O)
           · refine A (zm O (zf O (zA O ?_)))
             refine zk hp hr h [] Tryz.call165 (oU (gz.mk p0.bt p0.bz)) O (fun _=>O) fun y42 h=>b4 [y42] bH ⟨O,O⟩ O ?_
             exact zk hp hr h [0] Tryz.call61 (aB n [y42] v15) O (fun _=>O) fun y43 h=>N (hK20 _ _ _ h O)
       · refine B fun _ hK44=>A (zf O (zl O (zQ hK44 (z (B fun _ hK45=>A (zc O (za O (zQ hK45 (zB O h (fun _ h=>?_) fun _ h=>?_)))))))))
         · refine B fun _ hK47=>A (zm O (zA O ?_))
           exact zk hp hr h [0] Tryz.call177 (nY n p0 v12) O (fun _=>O) fun y48 h=>zQ hK47 (H (zX .nil h O))
         · refine zM h (fun (v49:Bool)=>[(0,.ptr 0 0),(1,.agg (be p0)),(2,.agg (bN p1)),(4,.ptr 104 0),(5,.ptr 105 0),(50,I p0.Kind),(62,Bo v49)]) (fun (v49:Bool)=>[(0,.box (aH v12)),(104,.box (be p0)),(105,.box (bN p1))]) (fun v49 h=>?_) fun _ _ hK51 h=>?_
           · refine zB O h (fun _ h=>?_) fun _ h=>?_
             · refine A (zm O (zf O (zl O (zc O (zm O (zb (p0.jv==0) (fun hb53=>?_) fun hb53=>?_))))))
               · refine z1 hb53 h fun h=>zg hb53 O (zg hb53 O (zg hb53 O (zy hb53 O (b4 [true] bH ⟨O,O⟩ O ?_))))
                 exact zk hp hr h [0] Tryz.call61 (aB n [true] v12) O (fun _=>O) fun y54 h=>N (hK17 _ _ _ h O)
               · refine z2 hb53 h fun h=>zG hb53 O (bR O) (zG hb53 O (bp O O O) (zG hb53 O (bw O O O) (zw hb53 O (b4 [(p0.jv==1)] bH ⟨O,O⟩ O ?_))))
                 exact zk hp hr h [0] Tryz.call61 (aB n [(p0.jv==1)] v12) O (fun _=>O) fun y55 h=>N (hK17 _ _ _ h O)
             · refine B fun _ hK56=>A (zc O (za O (zQ hK56 (zB O h (fun _ h=>?_) fun _ h=>?_))))
               · refine bL [0,1,2,3,4,5,6,7,8] O (by kernel_rfl) (zD O (W O) O (zD O (bR O) O (zD O (fj [.any,.any,I p0.jv,.any,.any,.any,.any,.any,.any] O O ⟨.inr O,.inr O,.inl O,.inr O,.inr O,.inr O,.inr O,.inr O,.inr O,trivial⟩ O) O (zD O (bw O O O) O (zD O (bR O) O (zD O (bp O O O) O (dL O (bX O) hr h [] Tryz.call141 (oM p0.jv) ⟨O,O,O,O,O,O,trivial⟩ O O (fun _=>⟨O,O,O⟩) (fun _=>⟨O,O⟩) hp (fun y58 h=>⟨cP ⟨trivial,⟨trivial,⟨trivial,⟨⟨⟨_,O,M.ff ⟨.inr O,.inr O,.inl O,.inr O,.inr O,.inr O,.inr O,.inr O,.inr O,trivial⟩⟩,trivial⟩,⟨trivial,⟨trivial,trivial⟩⟩⟩⟩⟩⟩,?_⟩))))))))
                 refine ig [(decide (p0.jv≥0)),y58] bH O (bX O) ⟨O,O⟩ ⟨O,O⟩ ?_
                 refine dL O (bX O) hr h [0] Tryz.call61 (aB n [(decide (p0.jv≥0)),y58] v12) ⟨O,O,O,O,O,O,trivial⟩ O O (fun _=>⟨O,O,O⟩) (fun _=>⟨O,O⟩) hp (fun y59 h=>⟨aL O,?_⟩)
                 exact cX (hK17 _ _ _ h O)
               · refine A (zm O (zf O (zl O (zc O (b4 [(p0.jv==0)] bH ⟨O,O⟩ O ?_)))))
                 exact zk hp hr h [0] Tryz.call61 (aB n [(p0.jv==0)] v12) O (fun _=>O) fun y60 h=>N (hK17 _ _ _ h O)
           · refine B fun _ hK61=>A (zc O (za O (zQ hK61 (zB O h (fun _ h=>?_) fun _ h=>?_))))
             · exact V (hK51 _ _ _ h O)
             · exact A (zc O (za O (N (hK51 _ _ _ h O))))
     · refine bL [0,1,2,3,4,5,6,7,8,9,10,11,12,13,14,15,16] O (by kernel_rfl) (zD O (W O) O (zD O (W O) O (zD O (W O) O (zb v9 (fun hb63=>?_) fun hb63=>?_))))
       · refine z1 hb63 h fun h=>ef hb63 O ⟨O,O⟩ ⟨O,O⟩ ?_
         refine ef hb63 O ⟨O,O⟩ ⟨O,O⟩ ?_
         refine ef hb63 O ⟨O,O⟩ ⟨O,O⟩ ?_
         refine ef hb63 O ⟨O,O⟩ ⟨O,O⟩ ?_
         refine ef hb63 O ⟨O,O⟩ ⟨O,O⟩ ?_
         refine ef hb63 O ⟨O,O⟩ ⟨O,O⟩ ?_
         refine ef hb63 O ⟨O,O⟩ ⟨O,O⟩ ?_
         refine ef hb63 O ⟨O,O⟩ ⟨O,O⟩ ?_
         refine zD O (dD hb63 O O) O (zD O (bR O) O (zD O (bp O O O) O (dL O (bX O) hr h [] Tryz.call63 (ir n p0.cz) ⟨O,O,O,O,O,O,trivial⟩ O O (fun _=>⟨O,O,O⟩) (fun _=>⟨O,O⟩) hp (fun y64 h=>⟨aL O,?_⟩))))
         refine ig [true,y64] bH O (bX O) ⟨O,O⟩ ⟨O,O⟩ ?_
         refine dL O (bX O) hr h [0] Tryz.call61 (aB n [true,y64] y8) ⟨O,O,O,O,O,O,trivial⟩ O O (fun _=>⟨O,O,O⟩) (fun _=>⟨O,O⟩) hp (fun y65 h=>⟨aL O,?_⟩)
         exact cX (hK14 _ _ _ h O)
       · refine z2 hb63 h fun h=>en hb63 O ⟨O,O⟩ (bR O) ⟨O,O,O⟩ ?_
         refine en hb63 O ⟨O,O⟩ (fj [.any,.any,.any,.any,.any,.any,.pv (.sl (List.length p0.Decls) (o.Cs p0.Decls)),.any,.any] O O ⟨.inr O,.inr O,.inr O,.inr O,.inr O,.inr O,.inl O,.inr O,.inr O,trivial⟩ O) ⟨O,O,O⟩ ?_
         refine en hb63 O ⟨O,O⟩ (cJ O) ⟨O,O,O⟩ ?_
         refine en hb63 O ⟨O,O⟩ (bR O) ⟨O,O,O⟩ ?_
         refine en hb63 O ⟨O,O⟩ (fj [.any,.any,.any,.any,.any,.any,.any,.pv (.sl (List.length p0.cz) (ch p0.cz)),.any] O O ⟨.inr O,.inr O,.inr O,.inr O,.inr O,.inr O,.inr O,.inl O,.inr O,trivial⟩ O) ⟨O,O,O⟩ ?_
         refine en hb63 O ⟨O,O⟩ (cJ O) ⟨O,O,O⟩ ?_
         refine zd hr h fun hg66 h=>en hb63 O ⟨O,O⟩ (k9 O O hg66) ⟨O,O,O⟩ ?_
         refine en hb63 O ⟨O,O⟩ (bw O O O) ⟨O,O,O⟩ ?_
         refine zD O (dy hb63 O O) O (zD O (bR O) O (zD O (bp O O O) O (dL O (bX O) hr h [] Tryz.call63 (ir n p0.cz) ⟨O,O,O,O,O,O,trivial⟩ O O (fun _=>⟨O,O,O⟩) (fun _=>⟨O,O⟩) hp (fun y67 h=>⟨cP ⟨trivial,⟨trivial,⟨trivial,⟨trivial,⟨trivial,⟨trivial,⟨⟨⟨_,O,M.ff ⟨.inr O,.inr O,.inr O,.inr O,.inr O,.inr O,.inr O,.inl O,.inr O,trivial⟩⟩,trivial⟩,⟨trivial,⟨trivial,⟨⟨⟨_,O,M.ff ⟨.inr O,.inr O,.inr O,.inr O,.inr O,.inr O,.inl O,.inr O,.inr O,trivial⟩⟩,trivial⟩,⟨trivial,⟨trivial,⟨trivial,⟨trivial,trivial⟩⟩⟩⟩⟩⟩⟩⟩⟩⟩⟩⟩⟩⟩,?_⟩))))
         refine ig [(((List.length p0.Decls:Int)+(List.length p0.cz:Int))==0),y67] bH O (bX O) ⟨O,O⟩ ⟨O,O⟩ ?_
         refine dL O (bX O) hr h [0] Tryz.call61 (aB n [(((List.length p0.Decls:Int)+(List.length p0.cz:Int))==0),y67] y8) ⟨O,O,O,O,O,O,trivial⟩ O O (fun _=>⟨O,O,O⟩) (fun _=>⟨O,O⟩) hp (fun y68 h=>⟨aL O,?_⟩)
         exact cX (hK14 _ _ _ h O)
   · refine A (zf O (zl O (zc O (zm O (zb (p0.Kind==13) (fun hb69=>?_) fun hb69=>?_)))))
     · exact z1 hb69 h fun h=>zg hb69 O (zg hb69 O (zg hb69 O (zy hb69 O (za O (N (hK11 _ _ _ h O))))))
     · exact z2 hb69 h fun h=>zG hb69 O (bR O) (zG hb69 O (bp O O O) (zG hb69 O (bw O O O) (zw hb69 O (za O (N (hK11 _ _ _ h O))))))
 · refine A (zm O (zf O (zl O (zc O (zm O (zb (decide (p0.Kind≥1)) (fun hb70=>?_) fun hb70=>?_))))))
   · refine z1 hb70 h fun h=>zG hb70 O (bR O) (zG hb70 O (bp O O O) (zG hb70 O (bw O O O) (zy hb70 O (b4 [(decide (p0.Kind≤22))] bH ⟨O,O⟩ O ?_))))
     exact zk hp hr h [0] Tryz.call61 (aB n [(decide (p0.Kind≤22))] p2) O (fun _=>O) fun y71 h=>N (hK4 _ _ _ h O)
   · refine z2 hb70 h fun h=>zg hb70 O (zg hb70 O (zg hb70 O (zw hb70 O (b4 [false] bH ⟨O,O⟩ O ?_))))
     exact zk hp hr h [0] Tryz.call61 (aB n [false] p2) O (fun _=>O) fun y72 h=>N (hK4 _ _ _ h O)
end Go.Abs
end
