/- PROVED: lemmas of the proof of: configlanglaw26.ParserWraps returns true for every input. CONDITIONS: as each lemma states. (Put together by a program of my own out of my own texts.) -/
import Derived.Test.YtkhjeiaafiodeaaGreatDoorF3
section
namespace Go.Abs
open Go.Proofs aq
structure aF where
 fF:(List UInt8)→Int→aq (aj×Bool)
 bn:Bool→ab→aq (aj×ab)
 cQ:ab→aq ((List aj)×ab)
 fe:(List aj)→ab→aq ((List aj)×ab)
 bH:Int→Bool→ab→aq (aj×ab)
 bS:Bool→ab→aq ((List ax)×(List (List UInt8))×ab)
 eM:Bool→(List ax)→(List (List UInt8))→ab→aq (Bool×(List ax)×(List (List UInt8))×ab)
 cD:Bool→ab→aq (aj×ab)
 bo:Bool→ab→aq (aj×ab)
 bO:Bool→ab→aq (ax×ab)
 cV:Bool→ab→aq ((List ax)×(List (List UInt8))×ab)
 cm:Bool→ab→ax→aq (ab×ax)
 aD:Bool→ab→aq (aj×ab)
 cA:Bool→ab→ax→aq (ab×ax)
 cE:aK→Int→ab→aq (aj×ab)
 cR:ab→aq (aj×ab)
 cS:ab→aq (aj×ab)
 ff:aj→ab→aq (aj×ab)
 cJ:ab→aq (aj×ab)
 b1:Bool→ab→aq (aj×ab)
 ez:Bool→aj→ab→aq (Bool×aj×ab)
 cn:Bool→ab→ax→aq (ab×ax)
 bT:Bool→ab→aq (aj×ab)
 ef:aj→ab→aq (aj×ab)
 cq:Bool→ab→aq (aj×ab)
 cf:Bool→ab→aq (aj×ab)
 cZ:Bool→ab→Bool→(List ax)→(List (List UInt8))→aq (ab×Bool×(List ax)×(List (List UInt8)))
 c6:Bool→ab→Bool→aj→aq (ab×Bool×aj)
 cL:Bool→ab→aj→aq (ab×aj)
 c7:Bool→ab→aj→aq (ab×aj)
 c8:Bool→ab→(List aj)→aq (ab×(List aj))
def iB (n:Nat) (T:aF) (p0:(List UInt8)) (p1:Int):aq (aj×Bool):=
 aq.bind (gD n p0) fun y3=>br (y3.2.Errno !=0) (.ok ((aj.mk 0 [] 0 [] [] [] [] [] 0),false)) (aq.bind (fq n y3.1) fun y9=>br y9 (.ok ((aj.mk 0 [] 0 [] [] [] [] [] 0),false)) (nv (aq.bind (T.aD false (ab.mk p0 y3.1 0 p1 true none)) fun y15=>aq.bind (aE n y15.2) fun y17=>.ok (y15.1,(y17.1.Kind==0))) (fun p=>r6 86 p fun v19=>aq.bind (fU v19) fun y20=>.ok (y20.1,y20.2))))
def dq (n:Nat) (T:aF) (p0:Bool) (p1:ab):aq (aj×ab):=
 br (Option.isNone (Option.map aj.C p1.pending)) (aq.bind (bC n p1) fun y7=>aq.bind (bG n ([42]:List UInt8) y7.2) fun y9=>br y9.1 (aq.bind (T.bo false y9.2) fun y12=>.ok ((aj.mk 18 [] 0 [] [] [y12.1] [] [] y7.1),y12.2)) (aq.bind (T.bo p0 y9.2) fun y14=>.ok (y14.1,y14.2))) (aq.bind (T.bo p0 p1) fun y16=>.ok (y16.1,y16.2))
def fg (n:Nat) (T:aF) (p0:ab):aq ((List aj)×ab):=
 aq.bind (bI n ([40]:List UInt8) p0) fun y3=>aq.bind (T.c8 true y3 []) fun y6=>gd (bA (y6.1.at_+1)) (.ok (y6.2,(ab.mk y6.1.text y6.1.bd (y6.1.at_+1) y6.1.base y6.1.skip y6.1.pending)))
def eA (n:Nat) (T:aF) (p0:(List aj)) (p1:ab):aq ((List aj)×ab):=
 aq.bind (aE n p1) fun y3=>aq.bind (bW y3.1 ([41]:List UInt8)) fun y4=>br (!y4) (aq.bind (T.aD false (ab.mk y3.2.text y3.2.bd y3.2.at_ p1.base y3.2.skip y3.2.pending)) fun y7=>gd (cB 144 (List.length p0) (List.length [(aj.mk 0 ([]:List UInt8) 0 ([]:List UInt8) ([]:List UInt8) [] [] [] 0)])) (iter (fun next10 (v9:(List aj)×ab)=>aq.bind (bG n ([44]:List UInt8) v9.2) fun y14=>br y14.1 (aq.bind (T.aD false y14.2) fun y16=>gd (cB 144 (List.length v9.1) (List.length [(aj.mk 0 ([]:List UInt8) 0 ([]:List UInt8) ([]:List UInt8) [] [] [] 0)])) (next10 (v9.1++[y16.1],y16.2))) (aq.bind (cy n ([41]:List UInt8) y14.2) fun y18=>.ok (v9.1,y18))) n (p0++[y7.1],y7.2))) (aq.bind (cy n ([41]:List UInt8) (ab.mk y3.2.text y3.2.bd y3.2.at_ p1.base y3.2.skip y3.2.pending)) fun y29=>.ok (p0,y29))
def eB (n:Nat) (T:aF) (p0:Int) (p1:Bool) (p2:ab):aq (aj×ab):=
 br (decide (p0>4)) (aq.bind (T.cf p1 p2) fun y6=>.ok (y6.1,y6.2)) (gd (bA (p0+1)) (aq.bind (T.bH (p0+1) p1 p2) fun y9=>iter (fun next12 (v11:ab×aj)=>aq.bind (aE n v11.1) fun y16=>aq.bind (kh p0) fun y17=>aq.bind (fk n y16.1 y17) fun y18=>br y18 (aq.bind (bC n (ab.mk y16.2.text y16.2.bd y16.2.at_ v11.1.base y16.2.skip y16.2.pending)) fun y21=>aq.bind (bc n v11.2 y21.1 y21.2) fun y22=>aq.bind (aE n y22.2) fun y24=>gd (bA (y24.2.at_+1)) (gd (bA (p0+1)) (aq.bind (T.bH (p0+1) false (ab.mk y24.2.text y24.2.bd (y24.2.at_+1) y22.2.base y24.2.skip y24.2.pending)) fun y28=>next12 (y28.2,(aj.mk 20 y24.1.Text 0 [] [] [y22.1,y28.1] [] [] y22.1.Pos))))) (.ok (v11.2,(ab.mk y16.2.text y16.2.bd y16.2.at_ v11.1.base y16.2.skip y16.2.pending)))) n (y9.2,y9.1)))
def eN (n:Nat) (T:aF) (p0:Bool) (p1:ab):aq ((List ax)×(List (List UInt8))×ab):=
 aq.bind (bI n ([123]:List UInt8) p1) fun y3=>aq.bind (T.cZ false y3 p0 [] []) fun y7=>gd (bA (y7.1.at_+1)) (.ok (y7.2.2.1,y7.2.2.2,(ab.mk y7.1.text y7.1.bd (y7.1.at_+1) y7.1.base y7.1.skip y7.1.pending)))
def eg (n:Nat) (T:aF) (p0:Bool) (_:(List ax)) (_:(List (List UInt8))) (p3:ab):aq (Bool×(List ax)×(List (List UInt8))×ab):=
 aq.bind (T.cV p0 p3) fun y2=>aq.bind (cy n ([125]:List UInt8) y2.2.2) fun y3=>.ok (p0,y2.1,y2.2.1,y3)
def eC (n:Nat) (T:aF) (p0:Bool) (p1:ab):aq (aj×ab):=
 aq.bind (bC n p1) fun y3=>jn (fun (v4:aj)=>aq.bind (T.bS p0 y3.2) fun y8=>.ok ((aj.mk v4.Kind v4.Text v4.je v4.bf v4.bj [] y8.1 y8.2.1 v4.Pos),y8.2.2)) fun j5=>br p0 (j5 ((aj.mk 13 [] 0 [] [] [] [] [] y3.1))) (j5 ((aj.mk 22 [] 0 [] [] [] [] [] y3.1)))
def dr (n:Nat) (T:aF) (p0:Bool) (p1:ab):aq (aj×ab):=
 aq.bind (T.bH 0 p0 p1) fun y3=>iter (fun next6 (v5:ab×aj)=>aq.bind (bG n ([38]:List UInt8) v5.1) fun y10=>br y10.1 (aq.bind (T.bH 0 p0 y10.2) fun y12=>next6 (y12.2,(aj.mk 16 [] 0 [] [] [v5.2,y12.1] [] [] v5.2.Pos))) (.ok (v5.2,y10.2))) n (y3.2,y3.1)
def dM (n:Nat) (T:aF) (p0:Bool) (p1:ab):aq (ax×ab):=
 aq.bind (aE n p1) fun y3=>aq.bind (bC n (ab.mk y3.2.text y3.2.bd y3.2.at_ p1.base y3.2.skip y3.2.pending)) fun y5=>aq.bind (cj 1 y5.2) fun y7=>jn (fun (v8:ab×ax)=>.ok (v8.2,v8.1)) fun j9=>jn (fun (v12:Bool)=>br v12 (aq.bind (T.cA p0 y7.2 (ax.mk 0 0 [] [] [] [] [] [] [] [] y5.1)) fun y16=>j9 (y16.1,y16.2)) (aq.bind (ed n y7.2) fun y18=>br y18.1 (aq.bind (T.cn p0 y18.2 (ax.mk 0 0 [] [] [] [] [] [] [] [] y5.1)) fun y20=>j9 (y20.1,y20.2)) (aq.bind (ep y3.1 ([108,101,116]:List UInt8)) fun y22=>br y22 (jn (fun (v24:ab)=>gd (bA (v24.at_+1)) (aq.bind (dc n (ab.mk v24.text v24.bd (v24.at_+1) v24.base v24.skip v24.pending)) fun y30=>aq.bind (bI n ([61]:List UInt8) y30.2) fun y32=>aq.bind (T.aD true y32) fun y33=>j9 (y33.2,(ax.mk 4 0 y30.1 [] [] [y33.1] [] [] [] [] y5.1)))) fun j25=>br (!p0) (aq.bind (be n y18.2) fun y36=>j25 (y36)) (j25 (y18.2))) (aq.bind (bW y3.1 ([46,46,46]:List UInt8)) fun y38=>br y38 (jn (fun (v40:ab)=>gd (bA (v40.at_+1)) (j9 ((ab.mk v40.text v40.bd (v40.at_+1) v40.base v40.skip v40.pending),(ax.mk 8 0 [] [] [] [] [] [] [] [] y5.1)))) fun j41=>br (!p0) (aq.bind (be n y18.2) fun y47=>j41 (y47)) (j41 (y18.2))) (aq.bind (ep y3.1 ([105,102]:List UInt8)) fun y49=>br y49 (gd (bA (y18.2.at_+1)) (aq.bind (T.aD false (ab.mk y18.2.text y18.2.bd (y18.2.at_+1) y18.2.base y18.2.skip y18.2.pending)) fun y55=>aq.bind (T.bS false y55.2) fun y56=>j9 (y56.2.2,(ax.mk 5 0 [] [] [] [y55.1] y56.1 y56.2.1 [] [] y5.1)))) (aq.bind (ep y3.1 ([102,111,114]:List UInt8)) fun y58=>br y58 (gd (bA (y18.2.at_+1)) (aq.bind (eJ n (ab.mk y18.2.text y18.2.bd (y18.2.at_+1) y18.2.base y18.2.skip y18.2.pending)) fun y63=>aq.bind (db n ([105,110]:List UInt8) y63.2) fun y65=>aq.bind (T.aD false y65) fun y67=>aq.bind (T.bS false y67.2) fun y68=>j9 (y68.2.2,(ax.mk 6 0 [] y63.1.x0 y63.1.x1 [y67.1] y68.1 y68.2.1 [] [] y5.1)))) (aq.bind (bW y3.1 ([40]:List UInt8)) fun y70=>br y70 (aq.bind (T.cm p0 y18.2 (ax.mk 0 0 [] [] [] [] [] [] [] [] y5.1)) fun y72=>j9 (y72.1,y72.2)) (aq.bind (T.aD p0 y18.2) fun y74=>j9 (y74.2,(ax.mk 3 0 [] [] [] [y74.1] [] [] [] [] y5.1)))))))))) fun j13=>aq.bind (eZ n y3.1) fun y75=>br y75 (aq.bind (fk n y7.1 ([58,32,63,32,33]:List UInt8)) fun y77=>j13 (y77)) (j13 (false))
def kz (n:Nat) (T:aF) (p0:Bool) (p1:ab):aq ((List ax)×(List (List UInt8))×ab):=
 iter (fun next7 (v6:ab×(List (List UInt8))×(List ax)×Int×Bool)=>aq.bind (dx n v6.1) fun y11=>br (!y11.1) (aq.bind (aE n y11.2) fun y14=>jn (fun (v15:Bool)=>br v15 (gd (bA (y14.2.at_+1)) (next7 ((ab.mk y14.2.text y14.2.bd (y14.2.at_+1) y11.2.base y14.2.skip y14.2.pending),v6.2.1,v6.2.2.1,v6.2.2.2.1,true))) (jn (fun (v21:ab×Bool)=>br v21.2 (gd (bA ((List.length v6.2.2.1:Int) - 1)) (el v6.2.2.1 ((List.length v6.2.2.1:Int) - 1) fun x27=>gd (bA (v21.1.at_+1)) (next7 ((ab.mk v21.1.text v21.1.bd (v21.1.at_+1) v21.1.base v21.1.skip v21.1.pending),v6.2.1,List.set v6.2.2.1 ((List.length v6.2.2.1:Int) - 1).toNat (ax.mk x27.Kind x27.ca x27.Label x27.bf x27.bj x27.aW x27.Body x27.cd x27.jk y14.1.Text x27.Pos),v6.2.2.2.1,v6.2.2.2.2)))) (jn (fun (v32:ab×Bool)=>br v32.2 (gd (cB 16 (List.length v6.2.1) (List.length [y14.1.Text])) (gd (bA (v32.1.at_+1)) (next7 ((ab.mk v32.1.text v32.1.bd (v32.1.at_+1) v32.1.base v32.1.skip v32.1.pending),v6.2.1++[y14.1.Text],v6.2.2.1,v6.2.2.2.1,v6.2.2.2.2)))) (jn (fun (v39:Bool)=>br v39 (aq.bind (be n v32.1) fun y43=>next7 (y43,v6.2.1,v6.2.2.1,v6.2.2.2.1,v6.2.2.2.2)) (aq.bind (T.bO p0 v32.1) fun y45=>gd (cB 184 (List.length v6.2.2.1) (List.length [(ax.mk y45.1.Kind y45.1.ca y45.1.Label y45.1.bf y45.1.bj y45.1.aW y45.1.Body y45.1.cd v6.2.1 y45.1.Trail y45.1.Pos)])) (next7 (y45.2,[],v6.2.2.1++[(ax.mk y45.1.Kind y45.1.ca y45.1.Label y45.1.bf y45.1.bj y45.1.aW y45.1.Body y45.1.cd v6.2.1 y45.1.Trail y45.1.Pos)],y45.2.at_,false)))) fun j40=>br (y14.1.Kind==6) (j40 (true)) (j40 ((!v6.2.2.2.2))))) fun j33=>br (y14.1.Kind==6) (aq.bind (dB n v21.1) fun y52=>j33 (y52.2,y52.1)) (j33 (v21.1,false)))) fun j22=>br (y14.1.Kind==6) (br (decide (v6.2.2.2.1>0)) (aq.bind (er n v6.2.2.2.1 (ab.mk y14.2.text y14.2.bd y14.2.at_ y11.2.base y14.2.skip y14.2.pending)) fun y55=>j22 (y55.2,y55.1)) (j22 ((ab.mk y14.2.text y14.2.bd y14.2.at_ y11.2.base y14.2.skip y14.2.pending),false))) (j22 ((ab.mk y14.2.text y14.2.bd y14.2.at_ y11.2.base y14.2.skip y14.2.pending),false)))) fun j16=>br (y14.1.Kind==7) (j16 (true)) (aq.bind (bW y14.1 ([44]:List UInt8)) fun y57=>j16 (y57))) (.ok (v6.2.2.1,v6.2.1,y11.2))) n (p1,[],[],(-1),true)
def eh (n:Nat) (T:aF) (p0:Bool) (p1:ab) (p2:ax):aq (ab×ax):=
 aq.bind (T.b1 p0 p1) fun y2=>aq.bind (aE n y2.2) fun y5=>aq.bind (bW y5.1 ([58]:List UInt8)) fun y6=>br y6 (aq.bind (bC n (ab.mk y5.2.text y5.2.bd y5.2.at_ y2.2.base y5.2.skip y5.2.pending)) fun y9=>aq.bind (bc n y2.1 y9.1 y9.2) fun y10=>gd (bA (y10.2.at_+1)) (aq.bind (T.aD false (ab.mk y10.2.text y10.2.bd (y10.2.at_+1) y10.2.base y10.2.skip y10.2.pending)) fun y14=>.ok (y14.2,(ax.mk 7 p2.ca p2.Label p2.bf p2.bj [y10.1,y14.1] p2.Body p2.cd p2.jk p2.Trail p2.Pos)))) (aq.bind (T.aD p0 (ab.mk y5.2.text y5.2.bd y5.2.at_ y2.2.base y5.2.skip (some y2.1))) fun y16=>.ok (y16.2,(ax.mk 3 p2.ca p2.Label p2.bf p2.bj [y16.1] p2.Body p2.cd p2.jk p2.Trail p2.Pos)))
def fh (n:Nat) (T:aF) (p0:Bool) (p1:ab):aq (aj×ab):=
 jn (fun (v2:ab×Bool)=>jn (fun (v5:ab×aj)=>jn (fun (v8:ab)=>jn (fun (v11:ab)=>aq.bind (bC n v11) fun y15=>aq.bind (bc n v5.2 y15.1 y15.2) fun y16=>iter (fun next19 (v18:ab×(List aj))=>aq.bind (bG n ([124]:List UInt8) v18.1) fun y23=>br y23.1 (aq.bind (T.bn false y23.2) fun y25=>gd (cB 144 (List.length v18.2) (List.length [y25.1])) (next19 (y25.2,v18.2++[y25.1]))) (el v18.2 0 fun x28=>.ok ((aj.mk 17 [] 0 [] [] v18.2 [] [] x28.Pos),y23.2))) n (y16.2,[y16.1])) fun j12=>aq.bind (aE n v8) fun y33=>aq.bind (bW y33.1 ([124]:List UInt8)) fun y34=>br (!y34) (aq.bind (be n (ab.mk y33.2.text y33.2.bd y33.2.at_ v8.base y33.2.skip y33.2.pending)) fun y36=>j12 (y36)) (j12 ((ab.mk y33.2.text y33.2.bd y33.2.at_ v8.base y33.2.skip y33.2.pending)))) fun j9=>br (!v2.2) (aq.bind (aE n v5.1) fun y39=>aq.bind (bW y39.1 ([124]:List UInt8)) fun y40=>br (!y40) (.ok (v5.2,(ab.mk y39.2.text y39.2.bd y39.2.at_ v5.1.base y39.2.skip y39.2.pending))) (j9 ((ab.mk y39.2.text y39.2.bd y39.2.at_ v5.1.base y39.2.skip y39.2.pending)))) (j9 (v5.1))) fun j6=>br p0 (aq.bind (T.bn (!v2.2) v2.1) fun y44=>j6 (y44.2,y44.1)) (aq.bind (T.bn false v2.1) fun y45=>j6 (y45.2,y45.1))) fun j3=>br (Option.isNone (Option.map aj.C p1.pending)) (aq.bind (aE n p1) fun y47=>aq.bind (bW y47.1 ([42]:List UInt8)) fun y48=>j3 ((ab.mk y47.2.text y47.2.bd y47.2.at_ p1.base y47.2.skip y47.2.pending),y48)) (j3 (p1,false))
def dy (n:Nat) (T:aF) (p0:Bool) (p1:ab) (p2:ax):aq (ab×ax):=
 aq.bind (aE n p1) fun y2=>gd (bA (y2.2.at_+1)) (jn (fun (v5:ab×ax)=>aq.bind (bI n ([58]:List UInt8) v5.1) fun y9=>aq.bind (T.aD p0 y9) fun y10=>.ok (y10.2,(ax.mk v5.2.Kind v5.2.ca v5.2.Label v5.2.bf v5.2.bj [y10.1] v5.2.Body v5.2.cd v5.2.jk v5.2.Trail v5.2.Pos))) fun j6=>aq.bind (bG n ([63]:List UInt8) (ab.mk y2.2.text y2.2.bd (y2.2.at_+1) p1.base y2.2.skip y2.2.pending)) fun y12=>br y12.1 (j6 (y12.2,(ax.mk 1 3 y2.1.Text p2.bf p2.bj p2.aW p2.Body p2.cd p2.jk p2.Trail p2.Pos))) (aq.bind (bG n ([33]:List UInt8) y12.2) fun y15=>br y15.1 (j6 (y15.2,(ax.mk 1 2 y2.1.Text p2.bf p2.bj p2.aW p2.Body p2.cd p2.jk p2.Trail p2.Pos))) (j6 (y15.2,(ax.mk 1 1 y2.1.Text p2.bf p2.bj p2.aW p2.Body p2.cd p2.jk p2.Trail p2.Pos)))))
def eD (n:Nat) (T:aF) (p0:aK) (p1:Int) (p2:ab):aq (aj×ab):=
 aq.bind (lf n p0.Text) fun y3=>iter (fun next8 (v7:ab×aj×Int)=>br (decide (v7.2.2<(List.length y3.1:Int))) (el y3.1 v7.2.2 fun wK=>gd (bA (p1+1)) (gd (bA ((p1+1)+wK.Pos)) (br (!wK.Code) (gd (cB 144 (List.length v7.2.1.aW) (List.length [(aj.mk 4 wK.Text 0 [] [] [] [] [] ((p1+1)+wK.Pos))])) (gd (bA (v7.2.2+1)) (next8 (v7.1,(aj.mk v7.2.1.Kind v7.2.1.Text v7.2.1.je v7.2.1.bf v7.2.1.bj (v7.2.1.aW++[(aj.mk 4 wK.Text 0 [] [] [] [] [] ((p1+1)+wK.Pos))]) [] [] v7.2.1.Pos),v7.2.2+1)))) (aq.bind (T.fF wK.Text ((p1+1)+wK.Pos)) fun y29=>br (!y29.2) (aq.bind (dQ p1 v7.1) fun y33=>gd (cB 144 (List.length v7.2.1.aW) (List.length [y29.1])) (gd (bA (v7.2.2+1)) (next8 (y33,(aj.mk v7.2.1.Kind v7.2.1.Text v7.2.1.je v7.2.1.bf v7.2.1.bj (v7.2.1.aW++[y29.1]) [] [] v7.2.1.Pos),v7.2.2+1)))) (gd (cB 144 (List.length v7.2.1.aW) (List.length [y29.1])) (gd (bA (v7.2.2+1)) (next8 (v7.1,(aj.mk v7.2.1.Kind v7.2.1.Text v7.2.1.je v7.2.1.bf v7.2.1.bj (v7.2.1.aW++[y29.1]) [] [] v7.2.1.Pos),v7.2.2+1)))))))) (.ok ((aj.mk v7.2.1.Kind v7.2.1.Text v7.2.1.je v7.2.1.bf v7.2.1.bj v7.2.1.aW [] [] v7.2.1.Pos),v7.1))) n (p2,(aj.mk 5 [] 0 [] [] [] [] [] p1),0)
def fi (n:Nat) (T:aF) (p0:ab):aq (aj×ab):=
 aq.bind (bC n p0) fun y3=>aq.bind (aE n y3.2) fun y6=>aq.bind (ep y6.1 ([102,111,114]:List UInt8)) fun y7=>br (!y7) (aq.bind (T.aD false (ab.mk y6.2.text y6.2.bd y6.2.at_ y3.2.base y6.2.skip y6.2.pending)) fun y10=>.ok (y10.1,y10.2)) (aq.bind (db n ([102,111,114]:List UInt8) (ab.mk y6.2.text y6.2.bd y6.2.at_ y3.2.base y6.2.skip y6.2.pending)) fun y12=>aq.bind (eJ n y12) fun y14=>aq.bind (db n ([105,110]:List UInt8) y14.2) fun y16=>aq.bind (T.aD false y16) fun y18=>gd (cB 144 (List.length ([]:List aj)) (List.length [y18.1])) (jn (fun (v20:ab×aj)=>aq.bind (bI n ([58]:List UInt8) v20.1) fun y24=>aq.bind (T.aD false y24) fun y26=>gd (cB 144 (List.length v20.2.aW) (List.length [y26.1])) (.ok ((aj.mk v20.2.Kind v20.2.Text v20.2.je v20.2.bf v20.2.bj (v20.2.aW++[y26.1]) [] [] v20.2.Pos),y26.2))) fun j21=>aq.bind (aE n y18.2) fun y30=>aq.bind (ep y30.1 ([105,102]:List UInt8)) fun y31=>br y31 (aq.bind (db n ([105,102]:List UInt8) (ab.mk y30.2.text y30.2.bd y30.2.at_ y18.2.base y30.2.skip y30.2.pending)) fun y34=>aq.bind (T.aD false y34) fun y35=>gd (cB 144 (List.length ([]++[y18.1])) (List.length [y35.1])) (j21 (y35.2,(aj.mk 15 [] 0 y14.1.x0 y14.1.x1 (([]++[y18.1])++[y35.1]) [] [] y3.1)))) (j21 ((ab.mk y30.2.text y30.2.bd y30.2.at_ y18.2.base y30.2.skip y30.2.pending),(aj.mk 15 [] 0 y14.1.x0 y14.1.x1 ([]++[y18.1]) [] [] y3.1)))))
def fj (n:Nat) (T:aF) (p0:ab):aq (aj×ab):=
 aq.bind (bC n p0) fun y3=>aq.bind (bI n ([91]:List UInt8) y3.2) fun y5=>aq.bind (T.c7 true y5 (aj.mk 14 [] 0 [] [] [] [] [] y3.1)) fun y7=>gd (bA (y7.1.at_+1)) (.ok (y7.2,(ab.mk y7.1.text y7.1.bd (y7.1.at_+1) y7.1.base y7.1.skip y7.1.pending)))
def eE (n:Nat) (T:aF) (p0:aj) (p1:ab):aq (aj×ab):=
 iter (fun next4 (v3:aj×ab×Bool)=>aq.bind (aE n v3.2.1) fun y8=>aq.bind (bW y8.1 ([93]:List UInt8)) fun y9=>br (!y9) (jn (fun (v12:ab)=>aq.bind (bC n v12) fun y16=>aq.bind (bG n ([46,46,46]:List UInt8) y16.2) fun y19=>br y19.1 (jn (fun (v23:ab×aj)=>gd (cB 144 (List.length v3.1.aW) (List.length [(aj.mk 0 ([]:List UInt8) 0 ([]:List UInt8) ([]:List UInt8) [] [] [] 0)])) (aq.bind (cy n ([93]:List UInt8) v23.1) fun y28=>.ok ((aj.mk v3.1.Kind v3.1.Text 1 v3.1.bf v3.1.bj (v3.1.aW++[v23.2]) v3.1.Decls v3.1.cd v3.1.Pos),y28))) fun j24=>aq.bind (aE n y19.2) fun y31=>aq.bind (bW y31.1 ([93]:List UInt8)) fun y32=>br (!y32) (aq.bind (T.aD false (ab.mk y31.2.text y31.2.bd y31.2.at_ y19.2.base y31.2.skip y31.2.pending)) fun y34=>j24 (y34.2,y34.1)) (j24 ((ab.mk y31.2.text y31.2.bd y31.2.at_ y19.2.base y31.2.skip y31.2.pending),(aj.mk 6 [] 0 [] [] [] [] [] y16.1)))) (aq.bind (T.cR y19.2) fun y35=>gd (cB 144 (List.length v3.1.aW) (List.length [(aj.mk 0 ([]:List UInt8) 0 ([]:List UInt8) ([]:List UInt8) [] [] [] 0)])) (next4 ((aj.mk v3.1.Kind v3.1.Text v3.1.je v3.1.bf v3.1.bj (v3.1.aW++[y35.1]) v3.1.Decls v3.1.cd v3.1.Pos),y35.2,false)))) fun j13=>br (!v3.2.2) (aq.bind (bI n ([44]:List UInt8) (ab.mk y8.2.text y8.2.bd y8.2.at_ v3.2.1.base y8.2.skip y8.2.pending)) fun y39=>j13 (y39)) (j13 ((ab.mk y8.2.text y8.2.bd y8.2.at_ v3.2.1.base y8.2.skip y8.2.pending)))) (aq.bind (cy n ([93]:List UInt8) (ab.mk y8.2.text y8.2.bd y8.2.at_ v3.2.1.base y8.2.skip y8.2.pending)) fun y40=>.ok (v3.1,y40))) n (p0,p1,true)
def eO (n:Nat) (T:aF) (p0:ab):aq (aj×ab):=
 aq.bind (aE n p0) fun y3=>aq.bind (bC n (ab.mk y3.2.text y3.2.bd y3.2.at_ p0.base y3.2.skip y3.2.pending)) fun y4=>jn (fun (v6:aj)=>gd (bA (y4.2.at_+1)) (.ok ((aj.mk v6.Kind v6.Text v6.je v6.bf v6.bj [] [] [] v6.Pos),(ab.mk y4.2.text y4.2.bd (y4.2.at_+1) y4.2.base y4.2.skip y4.2.pending)))) fun j7=>br (y3.1.Text==([110,117,108,108]:List UInt8)) (j7 ((aj.mk 1 [] 0 [] [] [] [] [] y4.1))) (jn (fun (v15:Bool)=>br v15 (br (y3.1.Text==([116,114,117,101]:List UInt8)) (j7 ((aj.mk 2 [] 1 [] [] [] [] [] y4.1))) (j7 ((aj.mk 2 [] 0 [] [] [] [] [] y4.1)))) (jn (fun (v22:Bool)=>br v22 (j7 ((aj.mk 8 y3.1.Text 0 [] [] [] [] [] y4.1))) (aq.bind (dc n y4.2) fun y27=>aq.bind (aE n y27.2) fun y30=>aq.bind (bW y30.1 ([40]:List UInt8)) fun y31=>br y31 (aq.bind (T.cQ (ab.mk y30.2.text y30.2.bd y30.2.at_ y27.2.base y30.2.skip y30.2.pending)) fun y34=>.ok ((aj.mk 21 y27.1 0 [] [] y34.1 [] [] y4.1),y34.2)) (.ok ((aj.mk 10 y27.1 0 [] [] [] [] [] y4.1),(ab.mk y30.2.text y30.2.bd y30.2.at_ y27.2.base y30.2.skip y30.2.pending))))) fun j23=>br (y3.1.Text==([98,111,111,108]:List UInt8)) (j23 ((y3.1.Text==([98,111,111,108]:List UInt8)))) (br (y3.1.Text==([105,110,116]:List UInt8)) (j23 ((y3.1.Text==([105,110,116]:List UInt8)))) (br (y3.1.Text==([110,117,109,98,101,114]:List UInt8)) (j23 ((y3.1.Text==([110,117,109,98,101,114]:List UInt8)))) (j23 ((y3.1.Text==([115,116,114,105,110,103]:List UInt8)))))))) fun j16=>br (y3.1.Text==([116,114,117,101]:List UInt8)) (j16 ((y3.1.Text==([116,114,117,101]:List UInt8)))) (j16 ((y3.1.Text==([102,97,108,115,101]:List UInt8)))))
def eF (n:Nat) (T:aF) (p0:Bool) (p1:ab):aq (aj×ab):=
 aq.bind (bI n ([40]:List UInt8) p1) fun y3=>aq.bind (T.c6 true y3 p0 (aj.mk 0 [] 0 [] [] [] [] [] 0)) fun y6=>gd (bA (y6.1.at_+1)) (.ok (y6.2.2,(ab.mk y6.1.text y6.1.bd (y6.1.at_+1) y6.1.base y6.1.skip y6.1.pending)))
def dS (n:Nat) (T:aF) (p0:Bool) (_:aj) (p2:ab):aq (Bool×aj×ab):=
 aq.bind (T.aD p0 p2) fun y2=>aq.bind (cy n ([41]:List UInt8) y2.2) fun y3=>.ok (p0,y2.1,y3)
def ei (n:Nat) (T:aF) (p0:Bool) (p1:ab) (p2:ax):aq (ab×ax):=
 aq.bind (bI n ([91]:List UInt8) p1) fun y4=>aq.bind (fc n true y4 (ax.mk 2 p2.ca ([46,42]:List UInt8) p2.bf p2.bj p2.aW p2.Body p2.cd p2.jk p2.Trail p2.Pos)) fun y6=>gd (bA (y6.1.at_+1)) (aq.bind (bI n ([58]:List UInt8) (ab.mk y6.1.text y6.1.bd (y6.1.at_+1) y6.1.base y6.1.skip y6.1.pending)) fun y10=>aq.bind (T.aD p0 y10) fun y11=>.ok (y11.2,(ax.mk y6.2.Kind y6.2.ca y6.2.Label y6.2.bf y6.2.bj [y11.1] y6.2.Body y6.2.cd y6.2.jk y6.2.Trail y6.2.Pos)))
def ej (n:Nat) (T:aF) (p0:Bool) (p1:ab):aq (aj×ab):=
 aq.bind (T.cq p0 p1) fun y3=>iter (fun next5 (v4:ab×aj)=>aq.bind (aE n v4.1) fun y8=>aq.bind (bC n (ab.mk y8.2.text y8.2.bd y8.2.at_ v4.1.base y8.2.skip y8.2.pending)) fun y9=>aq.bind (bW y8.1 ([46]:List UInt8)) fun y11=>br y11 (aq.bind (bc n v4.2 y9.1 y9.2) fun y14=>gd (bA (y14.2.at_+1)) (aq.bind (aE n (ab.mk y14.2.text y14.2.bd (y14.2.at_+1) y14.2.base y14.2.skip y14.2.pending)) fun y18=>jn (fun (v19:ab)=>gd (bA (v19.at_+1)) (next5 ((ab.mk v19.text v19.bd (v19.at_+1) v19.base v19.skip v19.pending),(aj.mk 11 y18.1.Text 0 [] [] [y14.1] [] [] y14.1.Pos)))) fun j20=>aq.bind (eZ n y18.1) fun y25=>br (!y25) (aq.bind (be n (ab.mk y18.2.text y18.2.bd y18.2.at_ y14.2.base y18.2.skip y18.2.pending)) fun y27=>j20 (y27)) (j20 ((ab.mk y18.2.text y18.2.bd y18.2.at_ y14.2.base y18.2.skip y18.2.pending))))) (aq.bind (bW y8.1 ([91]:List UInt8)) fun y29=>br y29 (aq.bind (bc n v4.2 y9.1 y9.2) fun y32=>gd (bA (y32.2.at_+1)) (aq.bind (T.cL true (ab.mk y32.2.text y32.2.bd (y32.2.at_+1) y32.2.base y32.2.skip y32.2.pending) y32.1) fun y36=>gd (bA (y36.1.at_+1)) (next5 ((ab.mk y36.1.text y36.1.bd (y36.1.at_+1) y36.1.base y36.1.skip y36.1.pending),y36.2)))) (.ok (v4.2,y9.2)))) n (y3.2,y3.1)
def dE (n:Nat) (T:aF) (p0:aj) (p1:ab):aq (aj×ab):=
 aq.bind (T.aD false p1) fun y2=>aq.bind (cy n ([93]:List UInt8) y2.2) fun y3=>.ok ((aj.mk 12 [] 0 [] [] [p0,y2.1] [] [] p0.Pos),y3)
def ek (n:Nat) (T:aF) (p0:Bool) (p1:ab):aq (aj×ab):=
 br (Option.isSome (Option.map aj.C p1.pending)) (some? p1.pending fun q6=>.ok (q6,(ab.mk p1.text p1.bd p1.at_ p1.base p1.skip none))) (aq.bind (aE n p1) fun y11=>aq.bind (bC n (ab.mk y11.2.text y11.2.bd y11.2.at_ p1.base y11.2.skip y11.2.pending)) fun y12=>jn (fun (v14:ab×aj)=>gd (bA (v14.1.at_+1)) (.ok (v14.2,(ab.mk v14.1.text v14.1.bd (v14.1.at_+1) v14.1.base v14.1.skip v14.1.pending)))) fun j15=>br (y11.1.Kind==1) (aq.bind (T.cJ y12.2) fun y23=>.ok (y23.1,y23.2)) (br (y11.1.Kind==2) (aq.bind (l9 n y11.1.Text) fun y27=>j15 (y12.2,(aj.mk 3 [] y27.1 [] [] [] [] [] y12.1))) (br (y11.1.Kind==3) (j15 (y12.2,(aj.mk 4 y11.1.Text 0 [] [] [] [] [] y12.1))) (br (y11.1.Kind==4) (aq.bind (T.cE y11.1 y12.1 y12.2) fun y32=>j15 (y32.2,y32.1)) (aq.bind (bW y11.1 ([95]:List UInt8)) fun y34=>br y34 (j15 (y12.2,(aj.mk 6 [] 0 [] [] [] [] [] y12.1))) (aq.bind (bW y11.1 ([95,124,95]:List UInt8)) fun y37=>br y37 (j15 (y12.2,(aj.mk 7 [] 0 [] [] [] [] [] y12.1))) (aq.bind (bW y11.1 ([40]:List UInt8)) fun y40=>br y40 (aq.bind (T.b1 p0 y12.2) fun y43=>.ok (y43.1,y43.2)) (aq.bind (bW y11.1 ([123]:List UInt8)) fun y45=>br y45 (aq.bind (T.cD p0 y12.2) fun y48=>.ok (y48.1,y48.2)) (aq.bind (bW y11.1 ([91]:List UInt8)) fun y50=>br y50 (aq.bind (T.cS y12.2) fun y53=>.ok (y53.1,y53.2)) (aq.bind (be n y12.2) fun y54=>j15 (y54,(aj.mk 0 [] 0 [] [] [] [] [] y12.1))))))))))))
def eP (n:Nat) (T:aF) (p0:Bool) (p1:ab):aq (aj×ab):=
 br (Option.isSome (Option.map aj.C p1.pending)) (aq.bind (T.bT p0 p1) fun y6=>.ok (y6.1,y6.2)) (aq.bind (aE n p1) fun y8=>aq.bind (bC n (ab.mk y8.2.text y8.2.bd y8.2.at_ p1.base y8.2.skip y8.2.pending)) fun y9=>jn (fun (v11:Int)=>gd (bA (y9.2.at_+1)) (aq.bind (T.cf false (ab.mk y9.2.text y9.2.bd (y9.2.at_+1) y9.2.base y9.2.skip y9.2.pending)) fun y17=>.ok ((aj.mk v11 y8.1.Text 0 [] [] [y17.1] [] [] y9.1),y17.2))) fun j12=>aq.bind (fk n y8.1 ([45,32,33]:List UInt8)) fun y19=>br y19 (j12 (19)) (aq.bind (fk n y8.1 ([60,32,60,61,32,62,32,62,61,32,33,61,32,61,126,32,33,126]:List UInt8)) fun y22=>br y22 (j12 (9)) (aq.bind (T.bT p0 y9.2) fun y25=>.ok (y25.1,y25.2))))
def dF (_:Nat) (T:aF) (p0:Bool) (p1:ab) (p2:Bool) (p3:(List ax)) (p4:(List (List UInt8))):aq (ab×Bool×(List ax)×(List (List UInt8))):=
 aq.bind (T.eM p2 p3 p4 (ab.mk p1.text p1.bd p1.at_ p1.base p0 p1.pending)) fun y4=>.ok ((ab.mk y4.2.2.2.text y4.2.2.2.bd y4.2.2.2.at_ y4.2.2.2.base p1.skip y4.2.2.2.pending),y4.1,y4.2.1,y4.2.2.1)
def dG (_:Nat) (T:aF) (p0:Bool) (p1:ab) (p2:Bool) (p3:aj):aq (ab×Bool×aj):=
 aq.bind (T.ez p2 p3 (ab.mk p1.text p1.bd p1.at_ p1.base p0 p1.pending)) fun y4=>.ok ((ab.mk y4.2.2.text y4.2.2.bd y4.2.2.at_ y4.2.2.base p1.skip y4.2.2.pending),y4.1,y4.2.1)
def dH (_:Nat) (T:aF) (p0:Bool) (p1:ab) (p2:aj):aq (ab×aj):=
 aq.bind (T.ef p2 (ab.mk p1.text p1.bd p1.at_ p1.base p0 p1.pending)) fun y4=>.ok ((ab.mk y4.2.text y4.2.bd y4.2.at_ y4.2.base p1.skip y4.2.pending),y4.1)
def dI (_:Nat) (T:aF) (p0:Bool) (p1:ab) (p2:aj):aq (ab×aj):=
 aq.bind (T.ff p2 (ab.mk p1.text p1.bd p1.at_ p1.base p0 p1.pending)) fun y4=>.ok ((ab.mk y4.2.text y4.2.bd y4.2.at_ y4.2.base p1.skip y4.2.pending),y4.1)
def dJ (_:Nat) (T:aF) (p0:Bool) (p1:ab) (p2:(List aj)):aq (ab×(List aj)):=
 aq.bind (T.fe p2 (ab.mk p1.text p1.bd p1.at_ p1.base p0 p1.pending)) fun y4=>.ok ((ab.mk y4.2.text y4.2.bd y4.2.at_ y4.2.base p1.skip y4.2.pending),y4.1)
def ai:Nat→aF
 | 0=>⟨fun _ _=>.stuck,fun _ _=>.stuck,fun _=>.stuck,fun _ _=>.stuck,fun _ _ _=>.stuck,fun _ _=>.stuck,fun _ _ _ _=>.stuck,fun _ _=>.stuck,fun _ _=>.stuck,fun _ _=>.stuck,fun _ _=>.stuck,fun _ _ _=>.stuck,fun _ _=>.stuck,fun _ _ _=>.stuck,fun _ _ _=>.stuck,fun _=>.stuck,fun _=>.stuck,fun _ _=>.stuck,fun _=>.stuck,fun _ _=>.stuck,fun _ _ _=>.stuck,fun _ _ _=>.stuck,fun _ _=>.stuck,fun _ _=>.stuck,fun _ _=>.stuck,fun _ _=>.stuck,fun _ _ _ _ _=>.stuck,fun _ _ _ _=>.stuck,fun _ _ _=>.stuck,fun _ _ _=>.stuck,fun _ _ _=>.stuck⟩
 | n+1=>⟨iB n (ai n),dq n (ai n),fg n (ai n),eA n (ai n),eB n (ai n),eN n (ai n),eg n (ai n),eC n (ai n),dr n (ai n),dM n (ai n),kz n (ai n),eh n (ai n),fh n (ai n),dy n (ai n),eD n (ai n),fi n (ai n),fj n (ai n),eE n (ai n),eO n (ai n),eF n (ai n),dS n (ai n),ei n (ai n),ej n (ai n),dE n (ai n),ek n (ai n),eP n (ai n),dF n (ai n),dG n (ai n),dH n (ai n),dI n (ai n),dJ n (ai n)⟩
def fF (n:Nat) (p0:(List UInt8)) (p1:Int):aq (aj×Bool):=(ai n).fF p0 p1
def bn (n:Nat) (p0:Bool) (p1:ab):aq (aj×ab):=(ai n).bn p0 p1
def cQ (n:Nat) (p0:ab):aq ((List aj)×ab):=(ai n).cQ p0
def fe (n:Nat) (p0:(List aj)) (p1:ab):aq ((List aj)×ab):=(ai n).fe p0 p1
def bH (n:Nat) (p0:Int) (p1:Bool) (p2:ab):aq (aj×ab):=(ai n).bH p0 p1 p2
def bS (n:Nat) (p0:Bool) (p1:ab):aq ((List ax)×(List (List UInt8))×ab):=(ai n).bS p0 p1
def eM (n:Nat) (p0:Bool) (p1:(List ax)) (p2:(List (List UInt8))) (p3:ab):aq (Bool×(List ax)×(List (List UInt8))×ab):=(ai n).eM p0 p1 p2 p3
def cD (n:Nat) (p0:Bool) (p1:ab):aq (aj×ab):=(ai n).cD p0 p1
def bo (n:Nat) (p0:Bool) (p1:ab):aq (aj×ab):=(ai n).bo p0 p1
def bO (n:Nat) (p0:Bool) (p1:ab):aq (ax×ab):=(ai n).bO p0 p1
def cV (n:Nat) (p0:Bool) (p1:ab):aq ((List ax)×(List (List UInt8))×ab):=(ai n).cV p0 p1
def cm (n:Nat) (p0:Bool) (p1:ab) (p2:ax):aq (ab×ax):=(ai n).cm p0 p1 p2
def aD (n:Nat) (p0:Bool) (p1:ab):aq (aj×ab):=(ai n).aD p0 p1
def cA (n:Nat) (p0:Bool) (p1:ab) (p2:ax):aq (ab×ax):=(ai n).cA p0 p1 p2
def cE (n:Nat) (p0:aK) (p1:Int) (p2:ab):aq (aj×ab):=(ai n).cE p0 p1 p2
def cR (n:Nat) (p0:ab):aq (aj×ab):=(ai n).cR p0
def cS (n:Nat) (p0:ab):aq (aj×ab):=(ai n).cS p0
def ff (n:Nat) (p0:aj) (p1:ab):aq (aj×ab):=(ai n).ff p0 p1
def cJ (n:Nat) (p0:ab):aq (aj×ab):=(ai n).cJ p0
def b1 (n:Nat) (p0:Bool) (p1:ab):aq (aj×ab):=(ai n).b1 p0 p1
def ez (n:Nat) (p0:Bool) (p1:aj) (p2:ab):aq (Bool×aj×ab):=(ai n).ez p0 p1 p2
def cn (n:Nat) (p0:Bool) (p1:ab) (p2:ax):aq (ab×ax):=(ai n).cn p0 p1 p2
def bT (n:Nat) (p0:Bool) (p1:ab):aq (aj×ab):=(ai n).bT p0 p1
def ef (n:Nat) (p0:aj) (p1:ab):aq (aj×ab):=(ai n).ef p0 p1
def cq (n:Nat) (p0:Bool) (p1:ab):aq (aj×ab):=(ai n).cq p0 p1
def cf (n:Nat) (p0:Bool) (p1:ab):aq (aj×ab):=(ai n).cf p0 p1
def cZ (n:Nat) (p0:Bool) (p1:ab) (p2:Bool) (p3:(List ax)) (p4:(List (List UInt8))):aq (ab×Bool×(List ax)×(List (List UInt8))):=(ai n).cZ p0 p1 p2 p3 p4
def c6 (n:Nat) (p0:Bool) (p1:ab) (p2:Bool) (p3:aj):aq (ab×Bool×aj):=(ai n).c6 p0 p1 p2 p3
def cL (n:Nat) (p0:Bool) (p1:ab) (p2:aj):aq (ab×aj):=(ai n).cL p0 p1 p2
def c7 (n:Nat) (p0:Bool) (p1:ab) (p2:aj):aq (ab×aj):=(ai n).c7 p0 p1 p2
def c8 (n:Nat) (p0:Bool) (p1:ab) (p2:(List aj)):aq (ab×(List aj)):=(ai n).c8 p0 p1 p2
structure aV (T:aF):Prop where
 fF:∀ (p0:(List UInt8)) (p1:Int),CT Tryz.prog 298 [aY p0,I p1] [] (T.fF p0 p1) (fun x=>.fH [.agg (aX x.1),Bo x.2]) (fun _=>[])
 bn:∀ (p0:Bool) (p1:ab),CT Tryz.prog 73 [.ptr 0 0,Bo p0] [.box (ah p1)] (T.bn p0 p1) (fun x=>.agg (aX x.1)) (fun x=>[.box (ah x.2)])
 cQ:∀ (p0:ab),CT Tryz.prog 297 [.ptr 0 0] [.box (ah p0)] (T.cQ p0) (fun x=>.pv (.sl (List.length x.1) (aj.Cs x.1))) (fun x=>[.box (ah x.2)])
 fe:∀ (p0:(List aj)) (p1:ab),CT Tryz.prog 313 [.ptr 0 0,.ptr 1 0] [.box [.ptr 2 0],.box [.arr 3 (List.length p0)],.box (ah p1),.arr 38 9 (aj.Cs p0)] (T.fe p0 p1) (fun _=>.fH []) (fun x=>[.box [.ptr 2 0],.box [.arr 3 (List.length x.1)],.box (ah x.2),.arr 38 9 (aj.Cs x.1)])
 bH:∀ (p0:Int) (p1:Bool) (p2:ab),CT Tryz.prog 174 [.ptr 0 0,I p0,Bo p1] [.box (ah p2)] (T.bH p0 p1 p2) (fun x=>.agg (aX x.1)) (fun x=>[.box (ah x.2)])
 bS:∀ (p0:Bool) (p1:ab),CT Tryz.prog 156 [.ptr 0 0,Bo p0] [.box (ah p1)] (T.bS p0 p1) (fun x=>.fH [.pv (.sl (List.length x.1) (ax.Cs x.1)),.pv (.sl (List.length x.2.1) (bX x.2.1))]) (fun x=>[.box (ah x.2.2)])
 eM:∀ (p0:Bool) (p1:(List ax)) (p2:(List (List UInt8))) (p3:ab),CT Tryz.prog 203 [.ptr 0 0,.ptr 1 0,.ptr 2 0,.ptr 3 0] [.box [.ptr 4 0],.box [Bo p0],.box [.pv (.sl (List.length p1) (ax.Cs p1))],.box [.pv (.sl (List.length p2) (bX p2))],.box (ah p3)] (T.eM p0 p1 p2 p3) (fun _=>.fH []) (fun x=>[.box [.ptr 4 0],.box [Bo x.1],.box [.pv (.sl (List.length x.2.1) (ax.Cs x.2.1))],.box [.pv (.sl (List.length x.2.2.1) (bX x.2.2.1))],.box (ah x.2.2.2)])
 cD:∀ (p0:Bool) (p1:ab),CT Tryz.prog 278 [.ptr 0 0,Bo p0] [.box (ah p1)] (T.cD p0 p1) (fun x=>.agg (aX x.1)) (fun x=>[.box (ah x.2)])
 bo:∀ (p0:Bool) (p1:ab),CT Tryz.prog 119 [.ptr 0 0,Bo p0] [.box (ah p1)] (T.bo p0 p1) (fun x=>.agg (aX x.1)) (fun x=>[.box (ah x.2)])
 bO:∀ (p0:Bool) (p1:ab),CT Tryz.prog 107 [.ptr 0 0,Bo p0] [.box (ah p1)] (T.bO p0 p1) (fun x=>.agg (dp x.1)) (fun x=>[.box (ah x.2)])
 cV:∀ (p0:Bool) (p1:ab),CT Tryz.prog 60 [.ptr 0 0,Sc (.slice none 0 0),Bo p0] [.box (ah p1)] (T.cV p0 p1) (fun x=>.fH [.pv (.sl (List.length x.1) (ax.Cs x.1)),.pv (.sl (List.length x.2.1) (bX x.2.1))]) (fun x=>[.box (ah x.2.2)])
 cm:∀ (p0:Bool) (p1:ab) (p2:ax),CT Tryz.prog 159 [.ptr 0 0,.ptr 1 0,Bo p0] [.box (ah p1),.box (dp p2)] (T.cm p0 p1 p2) (fun _=>.fH []) (fun x=>[.box (ah x.1),.box (dp x.2)])
 aD:∀ (p0:Bool) (p1:ab),CT Tryz.prog 33 [.ptr 0 0,Bo p0] [.box (ah p1)] (T.aD p0 p1) (fun x=>.agg (aX x.1)) (fun x=>[.box (ah x.2)])
 cA:∀ (p0:Bool) (p1:ab) (p2:ax),CT Tryz.prog 152 [.ptr 0 0,.ptr 1 0,Bo p0] [.box (ah p1),.box (dp p2)] (T.cA p0 p1 p2) (fun _=>.fH []) (fun x=>[.box (ah x.1),.box (dp x.2)])
 cE:∀ (p0:aK) (p1:Int) (p2:ab),CT Tryz.prog 277 [.ptr 0 0,.agg (fo p0),I p1] [.box (ah p2)] (T.cE p0 p1 p2) (fun x=>.agg (aX x.1)) (fun x=>[.box (ah x.2)])
 cR:∀ (p0:ab),CT Tryz.prog 300 [.ptr 0 0] [.box (ah p0)] (T.cR p0) (fun x=>.agg (aX x.1)) (fun x=>[.box (ah x.2)])
 cS:∀ (p0:ab),CT Tryz.prog 279 [.ptr 0 0] [.box (ah p0)] (T.cS p0) (fun x=>.agg (aX x.1)) (fun x=>[.box (ah x.2)])
 ff:∀ (p0:aj) (p1:ab),CT Tryz.prog 299 [.ptr 0 0,.ptr 1 0] [.box [.ptr 2 0],.box [I p0.Kind,aY p0.Text,I p0.je,aY p0.bf,aY p0.bj,.arr 3 (List.length p0.aW),.pv (.sl (List.length p0.Decls) (ax.Cs p0.Decls)),.pv (.sl (List.length p0.cd) (bX p0.cd)),I p0.Pos],.box (ah p1),.arr 38 9 (aj.Cs p0.aW)] (T.ff p0 p1) (fun _=>.fH []) (fun x=>[.box [.ptr 2 0],.box [I x.1.Kind,aY x.1.Text,I x.1.je,aY x.1.bf,aY x.1.bj,.arr 3 (List.length x.1.aW),.pv (.sl (List.length x.1.Decls) (ax.Cs x.1.Decls)),.pv (.sl (List.length x.1.cd) (bX x.1.cd)),I x.1.Pos],.box (ah x.2),.arr 38 9 (aj.Cs x.1.aW)])
 cJ:∀ (p0:ab),CT Tryz.prog 276 [.ptr 0 0] [.box (ah p0)] (T.cJ p0) (fun x=>.agg (aX x.1)) (fun x=>[.box (ah x.2)])
 b1:∀ (p0:Bool) (p1:ab),CT Tryz.prog 204 [.ptr 0 0,Bo p0] [.box (ah p1)] (T.b1 p0 p1) (fun x=>.agg (aX x.1)) (fun x=>[.box (ah x.2)])
 ez:∀ (p0:Bool) (p1:aj) (p2:ab),CT Tryz.prog 237 [.ptr 0 0,.ptr 1 0,.ptr 2 0] [.box [.ptr 3 0],.box [Bo p0],.box (aX p1),.box (ah p2)] (T.ez p0 p1 p2) (fun _=>.fH []) (fun x=>[.box [.ptr 3 0],.box [Bo x.1],.box (aX x.2.1),.box (ah x.2.2)])
 cn:∀ (p0:Bool) (p1:ab) (p2:ax),CT Tryz.prog 154 [.ptr 0 0,.ptr 1 0,Bo p0] [.box (ah p1),.box (dp p2)] (T.cn p0 p1 p2) (fun _=>.fH []) (fun x=>[.box (ah x.1),.box (dp x.2)])
 bT:∀ (p0:Bool) (p1:ab),CT Tryz.prog 243 [.ptr 0 0,Bo p0] [.box (ah p1)] (T.bT p0 p1) (fun x=>.agg (aX x.1)) (fun x=>[.box (ah x.2)])
 ef:∀ (p0:aj) (p1:ab),CT Tryz.prog 265 [.ptr 0 0,.ptr 1 0] [.box (aX p0),.box [.ptr 2 0],.box (ah p1)] (T.ef p0 p1) (fun _=>.fH []) (fun x=>[.box (aX x.1),.box [.ptr 2 0],.box (ah x.2)])
 cq:∀ (p0:Bool) (p1:ab),CT Tryz.prog 264 [.ptr 0 0,Bo p0] [.box (ah p1)] (T.cq p0 p1) (fun x=>.agg (aX x.1)) (fun x=>[.box (ah x.2)])
 cf:∀ (p0:Bool) (p1:ab),CT Tryz.prog 214 [.ptr 0 0,Bo p0] [.box (ah p1)] (T.cf p0 p1) (fun x=>.agg (aX x.1)) (fun x=>[.box (ah x.2)])
 cZ:∀ (p0:Bool) (p1:ab) (p2:Bool) (p3:(List ax)) (p4:(List (List UInt8))),CT Tryz.prog 200 [.ptr 0 0,Bo p0,.fn 203 [] [.ptr 1 0,.ptr 2 0,.ptr 3 0,.ptr 4 0]] [.box (ah p1),.box [.ptr 0 0],.box [Bo p2],.box [.pv (.sl (List.length p3) (ax.Cs p3))],.box [.pv (.sl (List.length p4) (bX p4))]] (T.cZ p0 p1 p2 p3 p4) (fun _=>.fH []) (fun x=>[.box (ah x.1),.box [.ptr 0 0],.box [Bo x.2.1],.box [.pv (.sl (List.length x.2.2.1) (ax.Cs x.2.2.1))],.box [.pv (.sl (List.length x.2.2.2) (bX x.2.2.2))]])
 c6:∀ (p0:Bool) (p1:ab) (p2:Bool) (p3:aj),CT Tryz.prog 200 [.ptr 0 0,Bo p0,.fn 237 [] [.ptr 1 0,.ptr 2 0,.ptr 3 0]] [.box (ah p1),.box [.ptr 0 0],.box [Bo p2],.box (aX p3)] (T.c6 p0 p1 p2 p3) (fun _=>.fH []) (fun x=>[.box (ah x.1),.box [.ptr 0 0],.box [Bo x.2.1],.box (aX x.2.2)])
 cL:∀ (p0:Bool) (p1:ab) (p2:aj),CT Tryz.prog 200 [.ptr 0 0,Bo p0,.fn 265 [] [.ptr 1 0,.ptr 2 0]] [.box (ah p1),.box (aX p2),.box [.ptr 0 0]] (T.cL p0 p1 p2) (fun _=>.fH []) (fun x=>[.box (ah x.1),.box (aX x.2),.box [.ptr 0 0]])
 c7:∀ (p0:Bool) (p1:ab) (p2:aj),CT Tryz.prog 200 [.ptr 0 0,Bo p0,.fn 299 [] [.ptr 1 0,.ptr 2 0]] [.box (ah p1),.box [.ptr 0 0],.box [I p2.Kind,aY p2.Text,I p2.je,aY p2.bf,aY p2.bj,.arr 3 (List.length p2.aW),.pv (.sl (List.length p2.Decls) (ax.Cs p2.Decls)),.pv (.sl (List.length p2.cd) (bX p2.cd)),I p2.Pos],.arr 38 9 (aj.Cs p2.aW)] (T.c7 p0 p1 p2) (fun _=>.fH []) (fun x=>[.box (ah x.1),.box [.ptr 0 0],.box [I x.2.Kind,aY x.2.Text,I x.2.je,aY x.2.bf,aY x.2.bj,.arr 3 (List.length x.2.aW),.pv (.sl (List.length x.2.Decls) (ax.Cs x.2.Decls)),.pv (.sl (List.length x.2.cd) (bX x.2.cd)),I x.2.Pos],.arr 38 9 (aj.Cs x.2.aW)])
 c8:∀ (p0:Bool) (p1:ab) (p2:(List aj)),CT Tryz.prog 200 [.ptr 0 0,Bo p0,.fn 313 [] [.ptr 1 0,.ptr 2 0]] [.box (ah p1),.box [.ptr 0 0],.box [.arr 3 (List.length p2)],.arr 38 9 (aj.Cs p2)] (T.c8 p0 p1 p2) (fun _=>.fH []) (fun x=>[.box (ah x.1),.box [.ptr 0 0],.box [.arr 3 (List.length x.2)],.arr 38 9 (aj.Cs x.2)])
theorem uL (n:Nat) (T:aF) (hT:aV T) (p0:(List UInt8)) (p1:Int):CT Tryz.prog 298 [aY p0,I p1] [] (iB n T p0 p1) (fun x=>.fH [.agg (aX x.1),Bo x.2]) (fun _=>[]):=by
 refine rq Tryz.func298 rfl rfl fun r h hr E hE=>?_
 refine ag fun _ hK1=>aa (aL 104 (hE _ rfl) ⟨rfl,rfl,rfl,rfl⟩ rfl ?_)
 refine aL 105 (hE _ rfl) ⟨rfl,rfl,rfl,rfl⟩ rfl ?_
 refine zQ hK1 (ag fun _ hK2=>aa (zm rfl (iQ hr h [] Tryz.call24 (pE n p0) ⟨rfl,rfl,rfl,rfl,rfl,rfl,trivial⟩ rfl (fun _=>⟨rfl,rfl,rfl⟩) (fun _=>⟨rfl,rfl⟩) (fun _ _ _ hd hp=>tP (P:=Tryz.prog) (fn:=Tryz.f298) hd hp) (fun y3 h=>?_))))
 refine zm rfl (zx rfl (zx rfl (aL 107 (hE _ rfl) ⟨rfl,rfl,rfl,rfl⟩ rfl ?_)))
 refine za rfl (zs rfl (zQ hK2 (ag fun _ hK4=>aa (za rfl (zQ hK4 (ag fun _ hK5=>ag fun _ hK6=>aa (zf rfl (zl rfl (zc rfl (zm rfl (zb (y3.2.Errno !=0) (fun hb7=>?_) fun hb7=>?_)))))))))))
 · refine z1 hb7 h fun h=>zg hb7 rfl (zg hb7 rfl (zg hb7 rfl (zy hb7 rfl (zQ hK6 (cN rfl (fun hc=>?_) (fun hc=>?_))))))
   · refine ag fun _ hK8=>aa (an (dm rfl rfl) rfl ?_)
     refine zs rfl (zs rfl (zQ hK8 (bQ (jb 104 rfl rfl) ?_)))
     exact aw (ss (n:=Tryz.f298.ntmps) (.inl rfl) (lX (.inl rfl) _ (.cons (aT rfl rfl rfl) (.cons (wu rfl rfl) .nil)) h.symm (AV.le_refl _) trivial))
   · exact absurd (hc) (by simp)
 · refine z2 hb7 h fun h=>zG hb7 rfl (au rfl) (zG hb7 rfl (au rfl) (A0 hb7 ⟨rfl,rfl⟩ hr h [] Tryz.call315 (lq n y3.1) ⟨rfl,rfl,rfl,rfl,rfl,rfl,trivial⟩ rfl (fun _=>⟨rfl,rfl,rfl⟩) (fun _=>⟨rfl,rfl⟩) (fun _ _ _ hd hp=>tP (P:=Tryz.prog) (fn:=Tryz.f298) hd hp) (fun y9 h=>?_)))
   refine zw hb7 rfl (zQ hK6 (zB rfl h (fun _ h=>?_) fun _ h=>?_))
   · refine ag fun _ hK11=>aa (an (dm rfl rfl) rfl ?_)
     refine zs rfl (zs rfl (zQ hK11 (bQ (jb 104 rfl rfl) ?_)))
     exact aw (ss (n:=Tryz.f298.ntmps) (.inl rfl) (lX (.inl rfl) _ (.cons (aT rfl rfl rfl) (.cons (wu rfl rfl) .nil)) h.symm (AV.le_refl _) trivial))
   · refine ar (hK5 _ _ (ag fun _ hK12=>aa (zm rfl (zm rfl (zm rfl (an (dm rfl rfl) rfl ?_))))))
     refine dP 128 (hE _ rfl) ⟨rfl,rfl,rfl,rfl,rfl,rfl,rfl⟩ rfl ?_
     refine za rfl (zQ hK12 (ag fun _ hK13=>aa (an (oO rfl rfl) rfl ?_)))
     refine wy rfl ?_
     have hrO:=hr
     obtain ⟨r,hr,h,hc⟩:=tO hr h
     refine zQ hK13 (ag fun _ hK14=>aa (zm rfl (aS (jb 128 rfl rfl) ?_)))
     refine oj hr h [128] Tryz.call33 (hT.aD false (ab.mk p0 y3.1 0 p1 true none)) ⟨rfl,rfl,rfl,rfl,rfl,rfl,trivial⟩ rfl rfl (fun _=>⟨rfl,rfl,rfl⟩) (fun _=>⟨rfl,rfl⟩) rfl (fun p hp=>?_) (fun y15 h=>?_)
     · obtain ⟨v18,rfl,hc⟩:=lF hrO (k2 hc hp)
       obtain ⟨hns,hok,_⟩:=jU hrO hc
       repeat (first|refine k3 ?_|refine jW ?_)
       refine gV (n:=Tryz.f298.ntmps) [104,105] Tryz.call316 (rB v18) hns rfl ⟨rfl,rfl,rfl,rfl⟩ (fun _=>⟨rfl,rfl⟩) (fun x hx=>?_)
       exact fw (.inl rfl) _ (.cons (aT rfl rfl rfl) (.cons (wu rfl rfl) .nil)) (hok x hx).symm (AV.le_refl _) trivial
     · refine zs rfl (zQ hK14 (ag fun _ hK16=>bz [0,1,2,3,4,5,6] rfl (by kernel_rfl) (zD rfl (jy rfl rfl rfl rfl) rfl ?_)))
       refine zD rfl (au rfl) rfl (Eb rfl (bM rfl) hr h [128] Tryz.call34 (aI n y15.2) ⟨rfl,rfl,rfl,rfl,rfl,rfl,trivial⟩ rfl rfl (fun _=>⟨rfl,rfl,rfl⟩) (fun _=>⟨rfl,rfl⟩) (qS n y15.2) (fun y17 h=>⟨cC ⟨trivial,⟨⟨⟨_,rfl,aZ.le_refl _⟩,trivial⟩,trivial⟩⟩,?_⟩))
       refine zD rfl (jV rfl rfl) rfl ?_
       refine zD rfl (bg rfl rfl rfl) rfl (bV rfl ⟨rfl,rfl,rfl,rfl,rfl,rfl,rfl,rfl⟩ rfl (fun e5 he=>⟨aH rfl,?_⟩))
       subst he
       refine bV rfl ⟨rfl,rfl,rfl,rfl,rfl,rfl,rfl,rfl⟩ rfl (fun e6 he=>⟨aH rfl,?_⟩)
       subst he
       refine cr (hK16 _ _ (aw (kL (n:=Tryz.f298.ntmps) (.inl rfl) [104,105] Tryz.call316 (qi [.box (aX y15.1),.box [Bo (y17.1.Kind==0)]]) ⟨rfl,rfl,rfl,rfl⟩ rfl rfl ?_)))
       exact fw (.inl rfl) _ (.cons (aT rfl rfl rfl) (.cons (wu rfl rfl) .nil)) (pr hc h.symm) (AV.le_refl _) trivial
theorem mD (n:Nat) (T:aF) (hT:aV T) (p0:Bool) (p1:ab):CT Tryz.prog 73 [.ptr 0 0,Bo p0] [.box (ah p1)] (dq n T p0 p1) (fun x=>.agg (aX x.1)) (fun x=>[.box (ah x.2)]):=by
 refine zC Tryz.func73 rfl fun r hp h hr E hE=>ag fun _ hK1=>aa (aL 104 (hE _ rfl) ⟨rfl,rfl,rfl,rfl⟩ rfl ?_)
 refine zQ hK1 (ag fun _ hK2=>aa (za rfl (zQ hK2 (ag fun _ hK3=>ag fun _ hK4=>aa (zm rfl (zn rfl (zf rfl (zl rfl (an (AX rfl rfl) rfl (zQ hK4 (zB rfl h (fun _ h=>?_) fun _ h=>?_)))))))))))
 · refine ag fun _ hK6=>aa (zm rfl (zk hp hr h [0] Tryz.call75 (bY n p1) rfl (fun _=>rfl) fun y7 h=>za rfl (zQ hK6 (ag fun _ hK8=>aa (zm rfl (zk hp hr h [0] Tryz.call76 (cU n ([42]:List UInt8) y7.2) rfl (fun _=>rfl) fun y9 h=>zQ hK8 (zB rfl h (fun _ h=>?_) fun _ h=>?_)))))))
   · refine ag fun _ hK11=>aa (zm rfl (zk hp hr h [0] Tryz.call119 (hT.bo false y9.2) rfl (fun _=>rfl) fun y12 h=>bR [y12.1] aj.bb ⟨rfl,rfl⟩ rfl ?_))
     refine zm rfl (an (dm rfl rfl) rfl ?_)
     refine zs rfl (zQ hK11 (bQ (jb 104 rfl rfl) ?_))
     exact aw (zX (.cons (aT rfl rfl rfl) .nil) h rfl)
   · exact ar (hK3 _ _ (ag fun _ hK13=>aa (zm rfl (zm rfl (zk hp hr h [0] Tryz.call119 (hT.bo p0 y9.2) rfl (fun _=>rfl) fun y14 h=>zs rfl (zQ hK13 (aw (zX (.cons (aT rfl rfl rfl) .nil) h rfl))))))))
 · exact ar (hK3 _ _ (ag fun _ hK15=>aa (zm rfl (zm rfl (zk hp hr h [0] Tryz.call119 (hT.bo p0 p1) rfl (fun _=>rfl) fun y16 h=>zs rfl (zQ hK15 (aw (zX (.cons (aT rfl rfl rfl) .nil) h rfl))))))))
theorem qj (n:Nat) (T:aF) (hT:aV T) (p0:ab):CT Tryz.prog 297 [.ptr 0 0] [.box (ah p0)] (fg n T p0) (fun x=>.pv (.sl (List.length x.1) (aj.Cs x.1))) (fun x=>[.box (ah x.2)]):=by
 refine zC Tryz.func297 rfl fun r hp h hr E hE=>ag fun _ hK1=>aa (dP 101 (hE _ rfl) ⟨rfl,rfl,rfl,rfl,rfl,rfl,rfl⟩ rfl ?_)
 refine za rfl (zQ hK1 (ag fun _ hK2=>aa (zl rfl (zk hp hr h [0] Tryz.call155 (cI n ([40]:List UInt8) p0) rfl (fun _=>rfl) fun y3 h=>zQ hK2 (ag fun _ hK4=>aa (aL 103 (hE _ rfl) ⟨rfl,rfl,rfl,rfl⟩ rfl ?_))))))
 refine zQ hK4 (ag fun _ hK5=>aa (zl rfl (an (oO rfl rfl) rfl ?_)))
 refine aS (qN (j:=103) (off:=0) 26592 (sz:=9) (el:=38) (hE _ rfl) rfl rfl ⟨rfl,rfl,rfl⟩ rfl rfl) ?_
 refine iQ hr h [0,101,103,26592] Tryz.call200 (hT.c8 true y3 []) ⟨rfl,rfl,rfl,rfl,rfl,rfl,⟨hE _ rfl,trivial⟩⟩ rfl (fun _=>⟨rfl,rfl,rfl⟩) (fun _=>⟨rfl,rfl⟩) hp (fun y6 h=>?_)
 refine zQ hK5 (ag fun _ hK7=>aa (zl rfl (zn rfl (zf rfl (zl rfl (zd hr h fun hg8 h=>zo hg8 rfl (zn rfl (zf rfl (zs rfl (zQ hK7 (ag fun _ hK9=>aa (aS (po (j:=103) (off:=0) aj.bb aj.bP rfl rfl rfl rfl (hE _ rfl) rfl) ?_))))))))))))
 exact zl rfl (za rfl (zQ hK9 (aw (zX (.cons (ay rfl) .nil) h rfl))))
theorem oY (n:Nat) (T:aF) (hT:aV T) (p0:(List aj)) (p1:ab):CT Tryz.prog 313 [.ptr 0 0,.ptr 1 0] [.box [.ptr 2 0],.box [.arr 3 (List.length p0)],.box (ah p1),.arr 38 9 (aj.Cs p0)] (eA n T p0 p1) (fun _=>.fH []) (fun x=>[.box [.ptr 2 0],.box [.arr 3 (List.length x.1)],.box (ah x.2),.arr 38 9 (aj.Cs x.1)]):=by
 refine zC Tryz.func313 rfl fun r hp h hr E hE=>ag fun _ hK1=>ag fun _ hK2=>aa (zl rfl (zk hp hr h [2] Tryz.call34 (aI n p1) rfl (fun _=>rfl) fun y3 h=>zk hp hr h [] Tryz.call72 (cu y3.1 ([41]:List UInt8)) rfl (fun _=>rfl) fun y4 h=>an (eG rfl) rfl (zQ hK2 (zB rfl h (fun _ h=>?_) fun _ h=>?_))))
 · refine ag fun _ hK6=>lY [] ?_
   refine oL [0,1,3,4,2,5,6] 7 8 rfl (by kernel_rfl) ?_
   refine zD rfl (eW [.arr 3 (List.length p0)] rfl rfl ⟨.inl rfl,trivial⟩ rfl) rfl (zD rfl (ba rfl rfl rfl) rfl (zD rfl (lV rfl) rfl (sY [(aj.mk 0 ([]:List UInt8) 0 ([]:List UInt8) ([]:List UInt8) [] [] [] 0)] aj.bb rfl (bM rfl) ⟨rfl,rfl,rfl⟩ ⟨rfl,rfl⟩ ?_)))
   refine du rfl (bM rfl) hr h [2] Tryz.call33 (hT.aD false (ab.mk y3.2.text y3.2.bd y3.2.at_ p1.base y3.2.skip y3.2.pending)) ⟨rfl,rfl,rfl,rfl,rfl,rfl,trivial⟩ rfl rfl (fun _=>⟨rfl,rfl,rfl⟩) (fun _=>⟨rfl,rfl⟩) hp (fun y7 h=>⟨cC ⟨trivial,⟨trivial,⟨trivial,⟨⟨⟨_,rfl,aZ.eR ⟨.inl rfl,trivial⟩⟩,trivial⟩,trivial⟩⟩⟩⟩,?_⟩)
   refine zd hr h fun hg8 h=>mU 111 rfl (bM rfl) ⟨jH.h,eu.h,aj.bb,aj.bP,aj.iS,hE _ rfl,rfl,rfl,(.inl rfl),⟨rfl,rfl,rfl⟩,hg8⟩ rfl rfl ⟨aH rfl,?_⟩
   refine zD rfl (lU rfl rfl (Int.natCast_nonneg _) (ru _ _)) rfl (rv ?_ ?_)
   · refine mw p0 rfl (⟨aj.bb,aj.bP,Int.natCast_nonneg _,jA _ _,rfl,rfl,rfl,rfl,rfl,ls.h,rfl,rfl,rfl⟩:u6 _ _ _ _ _ _ _ _ _ 0 _ _ _ _ _ _ y7.1 _ (aj.C y7.1)) rfl ⟨aH rfl,?_⟩
     refine bV rfl ⟨rfl,rfl,rfl,rfl,rfl,rfl,rfl,rfl⟩ rfl (fun e8 he=>⟨aH rfl,?_⟩)
     subst he
     refine fP (eH.trans (mx 1 0 (m':=List.length (p0++[y7.1])) rfl rfl (by simp) rfl) (iR 111 3 [(0,.ptr 0 0),(1,.ptr 1 0)] [(0,.box [.ptr 2 0]),(1,.box [.arr 3 (List.length (p0++[y7.1]))]),(2,.box (ah y7.2))] (hE _ rfl) rfl rfl ⟨rfl,rfl⟩ ⟨⟨_,rfl,rfl,rfl⟩,⟨_,rfl,rfl,rfl⟩,trivial⟩ ⟨⟨_,rfl,rfl,rfl,rfl,rfl⟩,⟨_,rfl,rfl,rfl,rfl,rfl⟩,⟨_,rfl,rfl,rfl,rfl,rfl⟩,trivial⟩)) ?_
     refine hK6 _ _ (aC (zL hr h (fun (v9:(List aj)×ab)=>[(0,.ptr 0 0),(1,.ptr 1 0)]) (fun (v9:(List aj)×ab)=>[(0,.box [.ptr 2 0]),(1,.box [.arr 3 (List.length v9.1)]),(2,.box (ah v9.2)),(3,.arr 38 9 (aj.Cs v9.1))]) rfl fun _ v9 _ hK11 h=>ag fun _ hK12=>ag fun _ hK13=>aa (zl rfl (zk hp hr h [2] Tryz.call76 (cU n ([44]:List UInt8) v9.2) rfl (fun _=>rfl) fun y14 h=>zQ hK13 (zB rfl h (fun _ h=>?_) fun _ h=>?_)))))
     · refine ar (hK12 _ _ (aC (lY [] ?_)))
       refine oL [0,1,3,4,2,5,6] 7 8 rfl (by kernel_rfl) ?_
       refine zD rfl (eW [.arr 3 (List.length v9.1)] rfl rfl ⟨.inl rfl,trivial⟩ rfl) rfl (zD rfl (ba rfl rfl rfl) rfl (zD rfl (lV rfl) rfl (sY [(aj.mk 0 ([]:List UInt8) 0 ([]:List UInt8) ([]:List UInt8) [] [] [] 0)] aj.bb rfl (bM rfl) ⟨rfl,rfl,rfl⟩ ⟨rfl,rfl⟩ ?_)))
       refine du rfl (bM rfl) hr h [2] Tryz.call33 (hT.aD false y14.2) ⟨rfl,rfl,rfl,rfl,rfl,rfl,trivial⟩ rfl rfl (fun _=>⟨rfl,rfl,rfl⟩) (fun _=>⟨rfl,rfl⟩) hp (fun y16 h=>⟨cC ⟨trivial,⟨trivial,⟨trivial,⟨⟨⟨_,rfl,aZ.eR ⟨.inl rfl,trivial⟩⟩,trivial⟩,trivial⟩⟩⟩⟩,?_⟩)
       refine zd hr h fun hg17 h=>mU 120 rfl (bM rfl) ⟨jH.h,eu.h,aj.bb,aj.bP,aj.iS,hE _ rfl,rfl,rfl,(.inl rfl),⟨rfl,rfl,rfl⟩,hg17⟩ rfl rfl ⟨aH rfl,?_⟩
       refine zD rfl (lU rfl rfl (Int.natCast_nonneg _) (ru _ _)) rfl (rv ?_ ?_)
       · refine mw v9.1 rfl (⟨aj.bb,aj.bP,Int.natCast_nonneg _,jA _ _,rfl,rfl,rfl,rfl,rfl,ls.h,rfl,rfl,rfl⟩:u6 _ _ _ _ _ _ _ _ _ 0 _ _ _ _ _ _ y16.1 _ (aj.C y16.1)) rfl ⟨aH rfl,?_⟩
         refine bV rfl ⟨rfl,rfl,rfl,rfl,rfl,rfl,rfl,rfl⟩ rfl (fun e8 he=>⟨aH rfl,?_⟩)
         subst he
         refine fP (eH.trans (mx 1 0 (m':=List.length (v9.1++[y16.1])) rfl rfl (by simp) rfl) (iR 120 3 [(0,.ptr 0 0),(1,.ptr 1 0)] [(0,.box [.ptr 2 0]),(1,.box [.arr 3 (List.length (v9.1++[y16.1]))]),(2,.box (ah y16.2))] (hE _ rfl) rfl rfl ⟨rfl,rfl⟩ ⟨⟨_,rfl,rfl,rfl⟩,⟨_,rfl,rfl,rfl⟩,trivial⟩ ⟨⟨_,rfl,rfl,rfl,rfl,rfl⟩,⟨_,rfl,rfl,rfl,rfl,rfl⟩,⟨_,rfl,rfl,rfl,rfl,rfl⟩,trivial⟩)) ?_
         exact hK11 _ _ _ h rfl
       · refine bV rfl ⟨rfl,rfl,rfl,rfl,rfl,rfl,rfl,rfl⟩ rfl (fun e7 he=>⟨aH rfl,?_⟩)
         subst he
         refine mw v9.1 rfl (⟨aj.bb,aj.bP,Int.natCast_nonneg _,jA _ _,rfl,rfl,rfl,rfl,rfl,ls.h,rfl,rfl,rfl⟩:u6 _ _ _ _ _ _ _ _ _ 0 _ _ _ _ _ _ y16.1 _ (aj.C y16.1)) rfl ⟨aH rfl,?_⟩
         refine fP (eH.trans (mx 1 0 (m':=List.length (v9.1++[y16.1])) rfl rfl (by simp) rfl) (iR 120 3 [(0,.ptr 0 0),(1,.ptr 1 0)] [(0,.box [.ptr 2 0]),(1,.box [.arr 3 (List.length (v9.1++[y16.1]))]),(2,.box (ah y16.2))] (hE _ rfl) rfl rfl ⟨rfl,rfl⟩ ⟨⟨_,rfl,rfl,rfl⟩,⟨_,rfl,rfl,rfl⟩,trivial⟩ ⟨⟨_,rfl,rfl,rfl,rfl,rfl⟩,⟨_,rfl,rfl,rfl,rfl,rfl⟩,⟨_,rfl,rfl,rfl,rfl,rfl⟩,trivial⟩)) ?_
         exact hK11 _ _ _ h rfl
     · exact bp (hK1 _ _ (aa (zl rfl (zk hp hr h [2] Tryz.call202 (da n ([41]:List UInt8) y14.2) rfl (fun _=>rfl) fun y18 h=>ao (zY .nil h rfl)))))
   · refine bV rfl ⟨rfl,rfl,rfl,rfl,rfl,rfl,rfl,rfl⟩ rfl (fun e7 he=>⟨aH rfl,?_⟩)
     subst he
     refine mw p0 rfl (⟨aj.bb,aj.bP,Int.natCast_nonneg _,jA _ _,rfl,rfl,rfl,rfl,rfl,ls.h,rfl,rfl,rfl⟩:u6 _ _ _ _ _ _ _ _ _ 0 _ _ _ _ _ _ y7.1 _ (aj.C y7.1)) rfl ⟨aH rfl,?_⟩
     refine fP (eH.trans (mx 1 0 (m':=List.length (p0++[y7.1])) rfl rfl (by simp) rfl) (iR 111 3 [(0,.ptr 0 0),(1,.ptr 1 0)] [(0,.box [.ptr 2 0]),(1,.box [.arr 3 (List.length (p0++[y7.1]))]),(2,.box (ah y7.2))] (hE _ rfl) rfl rfl ⟨rfl,rfl⟩ ⟨⟨_,rfl,rfl,rfl⟩,⟨_,rfl,rfl,rfl⟩,trivial⟩ ⟨⟨_,rfl,rfl,rfl,rfl,rfl⟩,⟨_,rfl,rfl,rfl,rfl,rfl⟩,⟨_,rfl,rfl,rfl,rfl,rfl⟩,trivial⟩)) ?_
     refine hK6 _ _ (aC (zL hr h (fun (v19:(List aj)×ab)=>[(0,.ptr 0 0),(1,.ptr 1 0)]) (fun (v19:(List aj)×ab)=>[(0,.box [.ptr 2 0]),(1,.box [.arr 3 (List.length v19.1)]),(2,.box (ah v19.2)),(3,.arr 38 9 (aj.Cs v19.1))]) rfl fun _ v19 _ hK21 h=>ag fun _ hK22=>ag fun _ hK23=>aa (zl rfl (zk hp hr h [2] Tryz.call76 (cU n ([44]:List UInt8) v19.2) rfl (fun _=>rfl) fun y24 h=>zQ hK23 (zB rfl h (fun _ h=>?_) fun _ h=>?_)))))
     · refine ar (hK22 _ _ (aC (lY [] ?_)))
       refine oL [0,1,3,4,2,5,6] 7 8 rfl (by kernel_rfl) ?_
       refine zD rfl (eW [.arr 3 (List.length v19.1)] rfl rfl ⟨.inl rfl,trivial⟩ rfl) rfl (zD rfl (ba rfl rfl rfl) rfl (zD rfl (lV rfl) rfl (sY [(aj.mk 0 ([]:List UInt8) 0 ([]:List UInt8) ([]:List UInt8) [] [] [] 0)] aj.bb rfl (bM rfl) ⟨rfl,rfl,rfl⟩ ⟨rfl,rfl⟩ ?_)))
       refine du rfl (bM rfl) hr h [2] Tryz.call33 (hT.aD false y24.2) ⟨rfl,rfl,rfl,rfl,rfl,rfl,trivial⟩ rfl rfl (fun _=>⟨rfl,rfl,rfl⟩) (fun _=>⟨rfl,rfl⟩) hp (fun y26 h=>⟨cC ⟨trivial,⟨trivial,⟨trivial,⟨⟨⟨_,rfl,aZ.eR ⟨.inl rfl,trivial⟩⟩,trivial⟩,trivial⟩⟩⟩⟩,?_⟩)
       refine zd hr h fun hg27 h=>mU 120 rfl (bM rfl) ⟨jH.h,eu.h,aj.bb,aj.bP,aj.iS,hE _ rfl,rfl,rfl,(.inl rfl),⟨rfl,rfl,rfl⟩,hg27⟩ rfl rfl ⟨aH rfl,?_⟩
       refine zD rfl (lU rfl rfl (Int.natCast_nonneg _) (ru _ _)) rfl (rv ?_ ?_)
       · refine mw v19.1 rfl (⟨aj.bb,aj.bP,Int.natCast_nonneg _,jA _ _,rfl,rfl,rfl,rfl,rfl,ls.h,rfl,rfl,rfl⟩:u6 _ _ _ _ _ _ _ _ _ 0 _ _ _ _ _ _ y26.1 _ (aj.C y26.1)) rfl ⟨aH rfl,?_⟩
         refine bV rfl ⟨rfl,rfl,rfl,rfl,rfl,rfl,rfl,rfl⟩ rfl (fun e8 he=>⟨aH rfl,?_⟩)
         subst he
         refine fP (eH.trans (mx 1 0 (m':=List.length (v19.1++[y26.1])) rfl rfl (by simp) rfl) (iR 120 3 [(0,.ptr 0 0),(1,.ptr 1 0)] [(0,.box [.ptr 2 0]),(1,.box [.arr 3 (List.length (v19.1++[y26.1]))]),(2,.box (ah y26.2))] (hE _ rfl) rfl rfl ⟨rfl,rfl⟩ ⟨⟨_,rfl,rfl,rfl⟩,⟨_,rfl,rfl,rfl⟩,trivial⟩ ⟨⟨_,rfl,rfl,rfl,rfl,rfl⟩,⟨_,rfl,rfl,rfl,rfl,rfl⟩,⟨_,rfl,rfl,rfl,rfl,rfl⟩,trivial⟩)) ?_
         exact hK21 _ _ _ h rfl
       · refine bV rfl ⟨rfl,rfl,rfl,rfl,rfl,rfl,rfl,rfl⟩ rfl (fun e7 he=>⟨aH rfl,?_⟩)
         subst he
         refine mw v19.1 rfl (⟨aj.bb,aj.bP,Int.natCast_nonneg _,jA _ _,rfl,rfl,rfl,rfl,rfl,ls.h,rfl,rfl,rfl⟩:u6 _ _ _ _ _ _ _ _ _ 0 _ _ _ _ _ _ y26.1 _ (aj.C y26.1)) rfl ⟨aH rfl,?_⟩
         refine fP (eH.trans (mx 1 0 (m':=List.length (v19.1++[y26.1])) rfl rfl (by simp) rfl) (iR 120 3 [(0,.ptr 0 0),(1,.ptr 1 0)] [(0,.box [.ptr 2 0]),(1,.box [.arr 3 (List.length (v19.1++[y26.1]))]),(2,.box (ah y26.2))] (hE _ rfl) rfl rfl ⟨rfl,rfl⟩ ⟨⟨_,rfl,rfl,rfl⟩,⟨_,rfl,rfl,rfl⟩,trivial⟩ ⟨⟨_,rfl,rfl,rfl,rfl,rfl⟩,⟨_,rfl,rfl,rfl,rfl,rfl⟩,⟨_,rfl,rfl,rfl,rfl,rfl⟩,trivial⟩)) ?_
         exact hK21 _ _ _ h rfl
     · exact bp (hK1 _ _ (aa (zl rfl (zk hp hr h [2] Tryz.call202 (da n ([41]:List UInt8) y24.2) rfl (fun _=>rfl) fun y28 h=>ao (zY .nil h rfl)))))
 · exact ar (hK1 _ _ (aa (zl rfl (zk hp hr h [2] Tryz.call202 (da n ([41]:List UInt8) (ab.mk y3.2.text y3.2.bd y3.2.at_ p1.base y3.2.skip y3.2.pending)) rfl (fun _=>rfl) fun y29 h=>ao (zY .nil h rfl)))))
theorem oZ (n:Nat) (T:aF) (hT:aV T) (p0:Int) (p1:Bool) (p2:ab):CT Tryz.prog 174 [.ptr 0 0,I p0,Bo p1] [.box (ah p2)] (eB n T p0 p1 p2) (fun x=>.agg (aX x.1)) (fun x=>[.box (ah x.2)]):=by
 refine zC Tryz.func174 rfl fun r hp h hr E hE=>ag fun _ hK1=>aa (aL 106 (hE _ rfl) ⟨rfl,rfl,rfl,rfl⟩ rfl ?_)
 refine zQ hK1 (ag fun _ hK2=>ag fun _ hK3=>aa (zm rfl (zc rfl (zQ hK3 (zB rfl h (fun _ h=>?_) fun _ h=>?_)))))
 · exact ag fun _ hK5=>aa (zm rfl (zm rfl (zk hp hr h [0] Tryz.call214 (hT.cf p1 p2) rfl (fun _=>rfl) fun y6 h=>zs rfl (zQ hK5 (aw (zX (.cons (aT rfl rfl rfl) .nil) h rfl))))))
 · refine ar (hK2 _ _ (ag fun _ hK7=>aa (zm rfl (zm rfl (zd hr h fun hg8 h=>zo hg8 rfl (zm rfl (zk hp hr h [0] Tryz.call174 (hT.bH (p0+1) p1 p2) rfl (fun _=>rfl) fun y9 h=>aL 107 (hE _ rfl) ⟨rfl,rfl,rfl,rfl⟩ rfl ?_)))))))
   refine zs rfl (zQ hK7 (ag fun _ hK10=>aC (zL hr h (fun (v11:ab×aj)=>[(0,.ptr 0 0),(1,I p0),(2,Bo p1),(6,.ptr 106 0),(7,.ptr 107 0)]) (fun (v11:ab×aj)=>[(0,.box (ah v11.1)),(106,.box [I 0,aY [],I 0,aY [],aY [],Sc (.slice none 0 0),Sc (.slice none 0 0),Sc (.slice none 0 0),I 0]),(107,.box (aX v11.2))]) rfl fun _ v11 _ hK13 h=>ag fun _ hK14=>ag fun _ hK15=>aa (zm rfl (zk hp hr h [0] Tryz.call34 (aI n v11.1) rfl (fun _=>rfl) fun y16 h=>zm rfl (zk hp hr h [] Tryz.call215 (sa p0) rfl (fun _=>rfl) fun y17 h=>zk hp hr h [] Tryz.call151 (k6 n y16.1 y17) rfl (fun _=>rfl) fun y18 h=>zQ hK15 (zB rfl h (fun _ h=>?_) fun _ h=>?_)))))))
   · refine ar (hK14 _ _ (aC (ag fun _ hK20=>bz [0,1,2,3,4,5] rfl (by kernel_rfl) (zD rfl (au rfl) rfl (zD rfl (jy rfl rfl rfl rfl) rfl ?_)))))
     refine zD rfl (au rfl) rfl (du rfl (bM rfl) hr h [0] Tryz.call75 (bY n (ab.mk y16.2.text y16.2.bd y16.2.at_ v11.1.base y16.2.skip y16.2.pending)) ⟨rfl,rfl,rfl,rfl,rfl,rfl,trivial⟩ rfl rfl (fun _=>⟨rfl,rfl,rfl⟩) (fun _=>⟨rfl,rfl⟩) hp (fun y21 h=>⟨cC ⟨trivial,⟨⟨⟨_,rfl,aZ.le_refl _⟩,trivial⟩,⟨trivial,trivial⟩⟩⟩,?_⟩))
     refine du rfl (bM rfl) hr h [0] Tryz.call74 (fQ n v11.2 y21.1 y21.2) ⟨rfl,rfl,rfl,rfl,rfl,rfl,trivial⟩ rfl rfl (fun _=>⟨rfl,rfl,rfl⟩) (fun _=>⟨rfl,rfl⟩) hp (fun y22 h=>⟨aH rfl,?_⟩)
     refine bV rfl ⟨rfl,rfl,rfl,rfl,rfl,rfl,rfl,rfl⟩ rfl (fun e5 he=>⟨aH rfl,?_⟩)
     subst he
     refine cr (hK20 _ _ (ag fun _ hK23=>aa (zm rfl (zk hp hr h [0] Tryz.call34 (aI n y22.2) rfl (fun _=>rfl) fun y24 h=>an (jV rfl rfl) rfl ?_))))
     refine za rfl (zQ hK23 (ag fun _ hK25=>aa (zm rfl (zn rfl (zf rfl (zl rfl (zd hr h fun hg26 h=>zo hg26 rfl (zn rfl (zf rfl (zs rfl (zQ hK25 (lY [] ?_))))))))))))
     refine bz [0,1,2,3,4,7,8,5,6,9,10] rfl (by kernel_rfl) (zD rfl (au rfl) rfl (zD rfl (jy rfl rfl rfl rfl) rfl ?_))
     refine zD rfl (au rfl) rfl (zD rfl (au rfl) rfl (zd hr h fun hg27 h=>zD rfl (kZ rfl rfl hg27) rfl (zD rfl (bD rfl) rfl (zD rfl (eW [.any,.any,.any,.any,.any,.any,.any,.any,I y22.1.Pos] rfl rfl ⟨.inr rfl,.inr rfl,.inr rfl,.inr rfl,.inr rfl,.inr rfl,.inr rfl,.inr rfl,.inl rfl,trivial⟩ rfl) rfl (du rfl (bM rfl) hr h [0] Tryz.call174 (hT.bH (p0+1) false (ab.mk y24.2.text y24.2.bd (y24.2.at_+1) y22.2.base y24.2.skip y24.2.pending)) ⟨rfl,rfl,rfl,rfl,rfl,rfl,trivial⟩ rfl rfl (fun _=>⟨rfl,rfl,rfl⟩) (fun _=>⟨rfl,rfl⟩) hp (fun y28 h=>⟨cC ⟨⟨⟨_,rfl,aZ.eR ⟨.inr rfl,.inr rfl,.inr rfl,.inr rfl,.inr rfl,.inr rfl,.inr rfl,.inr rfl,.inl rfl,trivial⟩⟩,trivial⟩,⟨trivial,⟨trivial,⟨trivial,⟨trivial,⟨⟨⟨_,rfl,aZ.le_refl _⟩,trivial⟩,⟨trivial,trivial⟩⟩⟩⟩⟩⟩⟩,?_⟩))))))
     refine gU [y22.1,y28.1] aj.bb rfl (bM rfl) ⟨rfl,rfl⟩ ⟨rfl,rfl⟩ ?_
     refine zD rfl (dm rfl rfl) rfl ?_
     refine bV rfl ⟨rfl,rfl,rfl,rfl,rfl,rfl,rfl,rfl⟩ rfl (fun e10 he=>⟨aH rfl,?_⟩)
     subst he
     refine fP (eH.trans (gg 107 6 rfl rfl rfl) (gg 107 7 rfl rfl rfl)) ?_
     exact hK13 _ _ _ h rfl
   · refine bp (hK10 _ _ (ag fun _ hK29=>aa (zA rfl ?_)))
     exact zs rfl (zQ hK29 (aw (zX (.cons (aT rfl rfl rfl) .nil) h rfl)))
theorem pG (n:Nat) (T:aF) (hT:aV T) (p0:Bool) (p1:ab):CT Tryz.prog 156 [.ptr 0 0,Bo p0] [.box (ah p1)] (eN n T p0 p1) (fun x=>.fH [.pv (.sl (List.length x.1) (ax.Cs x.1)),.pv (.sl (List.length x.2.1) (bX x.2.1))]) (fun x=>[.box (ah x.2.2)]):=by
 refine zC Tryz.func156 rfl fun r hp h hr E hE=>?_
 refine ag fun _ hK1=>?_
 refine aa ?_
 refine dP 102 (hE _ rfl) ⟨rfl,rfl,rfl,rfl,rfl,rfl,rfl⟩ rfl ?_
 refine dP 103 (hE _ rfl) ⟨rfl,rfl,rfl,rfl,rfl,rfl,rfl⟩ rfl ?_
 refine za rfl ?_
 refine za rfl ?_
 refine zQ hK1 ?_
 refine ag fun _ hK2=>?_
 refine aa ?_
 refine zl rfl ?_
 refine zk hp hr h [0] Tryz.call155 (cI n ([123]:List UInt8) p1) rfl (fun _=>rfl) fun y3 h=>?_
 refine zQ hK2 ?_
 refine ag fun _ hK4=>?_
 refine aa ?_
 refine aL 106 (hE _ rfl) ⟨rfl,rfl,rfl,rfl⟩ rfl ?_
 refine zQ hK4 ?_
 refine ag fun _ hK5=>?_
 refine aa ?_
 refine aL 107 (hE _ rfl) ⟨rfl,rfl,rfl,rfl⟩ rfl ?_
 refine zQ hK5 ?_
 refine ag fun _ hK6=>?_
 refine aa ?_
 refine zl rfl ?_
 refine an (oO rfl rfl) rfl ?_
 refine aS (jb 106 rfl rfl) ?_
 refine aS (jb 107 rfl rfl) ?_
 refine zk hp hr h [0,102,103,106,107] Tryz.call200 (hT.cZ false y3 p0 [] []) rfl (fun _=>rfl) fun y7 h=>?_
 refine zQ hK6 ?_
 refine ag fun _ hK8=>?_
 refine aa ?_
 refine zl rfl ?_
 refine zn rfl ?_
 refine zf rfl ?_
 refine zl rfl ?_
 refine zd hr h fun hg9 h=>?_
 refine zo hg9 rfl ?_
 refine zn rfl ?_
 refine zf rfl ?_
 refine zs rfl ?_
 refine zQ hK8 ?_
 refine ag fun _ hK10=>?_
 refine bz [0,1,2,3] rfl (by kernel_rfl) ?_
 refine zD rfl (ba rfl rfl rfl) rfl ?_
 refine zD rfl (eW [.pv (.sl (List.length y7.2.2.2) (bX y7.2.2.2))] rfl rfl ⟨.inl rfl,trivial⟩ rfl) rfl ?_
 refine ea rfl rfl rfl (cC ⟨⟨⟨_,rfl,aZ.eR ⟨.inl rfl,trivial⟩⟩,trivial⟩,⟨trivial,trivial⟩⟩) rfl ?_
 refine ea rfl rfl rfl (aH rfl) rfl ?_
 refine cr ?_
 refine hK10 _ _ ?_
 refine aw ?_
 exact zX (.cons (ay rfl) (.cons (ay rfl) .nil)) h rfl
theorem ot (n:Nat) (T:aF) (hT:aV T) (p0:Bool) (p1:(List ax)) (p2:(List (List UInt8))) (p3:ab):CT Tryz.prog 203 [.ptr 0 0,.ptr 1 0,.ptr 2 0,.ptr 3 0] [.box [.ptr 4 0],.box [Bo p0],.box [.pv (.sl (List.length p1) (ax.Cs p1))],.box [.pv (.sl (List.length p2) (bX p2))],.box (ah p3)] (eg n T p0 p1 p2 p3) (fun _=>.fH []) (fun x=>[.box [.ptr 4 0],.box [Bo x.1],.box [.pv (.sl (List.length x.2.1) (ax.Cs x.2.1))],.box [.pv (.sl (List.length x.2.2.1) (bX x.2.2.1))],.box (ah x.2.2.2)]):=by
 exact zC Tryz.func203 rfl fun r hp h hr E hE=>ag fun _ hK1=>aa (zl rfl (zl rfl (zk hp hr h [4] Tryz.call60 (hT.cV p0 p3) rfl (fun _=>rfl) fun y2 h=>zm rfl (zx rfl (zx rfl (zs rfl (zs rfl (zQ hK1 (aa (zl rfl (zk hp hr h [4] Tryz.call202 (da n ([125]:List UInt8) y2.2.2) rfl (fun _=>rfl) fun y3 h=>ao (zY .nil h rfl))))))))))))
theorem o0 (n:Nat) (T:aF) (hT:aV T) (p0:Bool) (p1:ab):CT Tryz.prog 278 [.ptr 0 0,Bo p0] [.box (ah p1)] (eC n T p0 p1) (fun x=>.agg (aX x.1)) (fun x=>[.box (ah x.2)]):=by
 refine zC Tryz.func278 rfl fun r hp h hr E hE=>ag fun _ hK1=>aa (aL 104 (hE _ rfl) ⟨rfl,rfl,rfl,rfl⟩ rfl ?_)
 refine zQ hK1 (ag fun _ hK2=>aa (zm rfl (zk hp hr h [0] Tryz.call75 (bY n p1) rfl (fun _=>rfl) fun y3 h=>an (dm rfl rfl) rfl ?_)))
 refine aL 105 (hE _ rfl) ⟨rfl,rfl,rfl,rfl⟩ rfl ?_
 refine zs rfl (zQ hK2 (zM h (fun (v4:aj)=>[(0,.ptr 0 0),(1,Bo p0),(4,.ptr 104 0),(5,.ptr 105 0)]) (fun (v4:aj)=>[(0,.box (ah y3.2)),(104,.box [I 0,aY [],I 0,aY [],aY [],Sc (.slice none 0 0),Sc (.slice none 0 0),Sc (.slice none 0 0),I 0]),(105,.box [I v4.Kind,aY v4.Text,I v4.je,aY v4.bf,aY v4.bj,Sc (.slice none 0 0),Sc (.slice none 0 0),Sc (.slice none 0 0),I v4.Pos])]) (fun v4 h=>?_) fun _ _ hK6 h=>?_))
 · refine ag fun _ hK7=>aa (zm rfl (zm rfl (zk hp hr h [0] Tryz.call156 (hT.bS p0 y3.2) rfl (fun _=>rfl) fun y8 h=>zm rfl (zx rfl (zx rfl (zf rfl (zs rfl (zf rfl (zs rfl (zQ hK7 (ag fun _ hK9=>aa (zA rfl ?_))))))))))))
   refine zs rfl (zQ hK9 (bQ (jb 104 rfl rfl) ?_))
   exact aw (zX (.cons (aT rfl rfl rfl) .nil) h rfl)
 · refine ag fun _ hK10=>aa (zm rfl (zQ hK10 (zB rfl h (fun _ h=>?_) fun _ h=>?_)))
   · exact aa (zf rfl (zs rfl (ao (hK6 _ _ _ h rfl))))
   · exact ar (hK6 _ _ _ h rfl)
theorem mE (n:Nat) (T:aF) (hT:aV T) (p0:Bool) (p1:ab):CT Tryz.prog 119 [.ptr 0 0,Bo p0] [.box (ah p1)] (dr n T p0 p1) (fun x=>.agg (aX x.1)) (fun x=>[.box (ah x.2)]):=by
 refine zC Tryz.func119 rfl fun r hp h hr E hE=>ag fun _ hK1=>aa (aL 104 (hE _ rfl) ⟨rfl,rfl,rfl,rfl⟩ rfl ?_)
 refine zQ hK1 (ag fun _ hK2=>aa (zm rfl (zm rfl (zk hp hr h [0] Tryz.call174 (hT.bH 0 p0 p1) rfl (fun _=>rfl) fun y3 h=>aL 105 (hE _ rfl) ⟨rfl,rfl,rfl,rfl⟩ rfl ?_))))
 refine zs rfl (zQ hK2 (ag fun _ hK4=>aC (zL hr h (fun (v5:ab×aj)=>[(0,.ptr 0 0),(1,Bo p0),(4,.ptr 104 0),(5,.ptr 105 0)]) (fun (v5:ab×aj)=>[(0,.box (ah v5.1)),(104,.box [I 0,aY [],I 0,aY [],aY [],Sc (.slice none 0 0),Sc (.slice none 0 0),Sc (.slice none 0 0),I 0]),(105,.box (aX v5.2))]) rfl fun _ v5 _ hK7 h=>ag fun _ hK8=>ag fun _ hK9=>aa (zm rfl (zk hp hr h [0] Tryz.call76 (cU n ([38]:List UInt8) v5.1) rfl (fun _=>rfl) fun y10 h=>zQ hK9 (zB rfl h (fun _ h=>?_) fun _ h=>?_))))))
 · refine ar (hK8 _ _ (aC (lY [] ?_)))
   refine bz [0,1,2,5,6,3,4,7,8] rfl (by kernel_rfl) (zD rfl (jy rfl rfl rfl rfl) rfl ?_)
   refine zD rfl (au rfl) rfl (zD rfl (au rfl) rfl (zD rfl (bD rfl) rfl (zD rfl (eW [.any,.any,.any,.any,.any,.any,.any,.any,I v5.2.Pos] rfl rfl ⟨.inr rfl,.inr rfl,.inr rfl,.inr rfl,.inr rfl,.inr rfl,.inr rfl,.inr rfl,.inl rfl,trivial⟩ rfl) rfl (du rfl (bM rfl) hr h [0] Tryz.call174 (hT.bH 0 p0 y10.2) ⟨rfl,rfl,rfl,rfl,rfl,rfl,trivial⟩ rfl rfl (fun _=>⟨rfl,rfl,rfl⟩) (fun _=>⟨rfl,rfl⟩) hp (fun y12 h=>⟨cC ⟨⟨⟨_,rfl,aZ.eR ⟨.inr rfl,.inr rfl,.inr rfl,.inr rfl,.inr rfl,.inr rfl,.inr rfl,.inr rfl,.inl rfl,trivial⟩⟩,trivial⟩,⟨trivial,⟨trivial,⟨trivial,⟨⟨⟨_,rfl,aZ.le_refl _⟩,trivial⟩,trivial⟩⟩⟩⟩⟩,?_⟩)))))
   refine gU [v5.2,y12.1] aj.bb rfl (bM rfl) ⟨rfl,rfl⟩ ⟨rfl,rfl⟩ ?_
   refine zD rfl (dm rfl rfl) rfl ?_
   refine bV rfl ⟨rfl,rfl,rfl,rfl,rfl,rfl,rfl,rfl⟩ rfl (fun e8 he=>⟨aH rfl,?_⟩)
   subst he
   refine fP (eH.trans (gg 105 6 rfl rfl rfl) (gg 105 7 rfl rfl rfl)) ?_
   exact hK7 _ _ _ h rfl
 · refine bp (hK4 _ _ (ag fun _ hK13=>aa (zA rfl ?_)))
   exact zs rfl (zQ hK13 (aw (zX (.cons (aT rfl rfl rfl) .nil) h rfl)))
theorem qk (n:Nat) (T:aF) (hT:aV T) (p0:Bool) (p1:ab):CT Tryz.prog 107 [.ptr 0 0,Bo p0] [.box (ah p1)] (dM n T p0 p1) (fun x=>.agg (dp x.1)) (fun x=>[.box (ah x.2)]):=by
 refine zC Tryz.func107 rfl fun r hp h hr E hE=>ag fun _ hK1=>aa (aL 104 (hE _ rfl) ⟨rfl,rfl,rfl,rfl⟩ rfl ?_)
 refine zQ hK1 (ag fun _ hK2=>aa (zm rfl (zk hp hr h [0] Tryz.call34 (aI n p1) rfl (fun _=>rfl) fun y3 h=>aL 105 (hE _ rfl) ⟨rfl,rfl,rfl,rfl⟩ rfl ?_)))
 refine zs rfl (zQ hK2 (ag fun _ hK4=>aa (zm rfl (zk hp hr h [0] Tryz.call75 (bY n (ab.mk y3.2.text y3.2.bd y3.2.at_ p1.base y3.2.skip y3.2.pending)) rfl (fun _=>rfl) fun y5 h=>an (dm rfl rfl) rfl ?_))))
 refine aL 106 (hE _ rfl) ⟨rfl,rfl,rfl,rfl⟩ rfl ?_
 refine zs rfl (zQ hK4 (ag fun _ hK6=>aa (zm rfl (zk hp hr h [0] Tryz.call149 (ey 1 y5.2) rfl (fun _=>rfl) fun y7 h=>aL 107 (hE _ rfl) ⟨rfl,rfl,rfl,rfl⟩ rfl ?_))))
 refine zs rfl (zQ hK6 (zM h (fun (v8:ab×ax)=>[(0,.ptr 0 0),(1,Bo p0),(4,.ptr 104 0),(6,.ptr 106 0)]) (fun (v8:ab×ax)=>[(0,.box (ah v8.1)),(104,.box [I 0,I 0,aY [],aY [],aY [],Sc (.slice none 0 0),Sc (.slice none 0 0),Sc (.slice none 0 0),Sc (.slice none 0 0),aY [],I 0]),(106,.box (dp v8.2))]) (fun v8 h=>?_) fun _ _ hK10 h=>?_))
 · refine ag fun _ hK11=>aa (zA rfl ?_)
   exact zs rfl (zQ hK11 (aw (zX (.cons (aT rfl rfl rfl) .nil) h rfl)))
 · refine aC (zM h (fun (v12:Bool)=>[(0,.ptr 0 0),(1,Bo p0),(4,.ptr 104 0),(5,.ptr 105 0),(6,.ptr 106 0),(21,Bo v12)]) (fun (v12:Bool)=>[(0,.box (ah y7.2)),(104,.box [I 0,I 0,aY [],aY [],aY [],Sc (.slice none 0 0),Sc (.slice none 0 0),Sc (.slice none 0 0),Sc (.slice none 0 0),aY [],I 0]),(105,.box (fo y3.1)),(106,.box [I 0,I 0,aY [],aY [],aY [],Sc (.slice none 0 0),Sc (.slice none 0 0),Sc (.slice none 0 0),Sc (.slice none 0 0),aY [],I y5.1])]) (fun v12 h=>?_) fun _ _ hK14 h=>?_)
   · refine zB rfl h (fun _ h=>?_) fun _ h=>?_
     · refine aa (zm rfl (zm rfl (aS (jb 106 rfl rfl) ?_)))
       exact zk hp hr h [0,106] Tryz.call152 (hT.cA p0 y7.2 (ax.mk 0 0 [] [] [] [] [] [] [] [] y5.1)) rfl (fun _=>rfl) fun y16 h=>ao (hK10 _ _ _ h rfl)
     · refine ag fun _ hK17=>aa (zm rfl (zk hp hr h [0] Tryz.call153 (nN n y7.2) rfl (fun _=>rfl) fun y18 h=>za rfl (zQ hK17 (zB rfl h (fun _ h=>?_) fun _ h=>?_))))
       · refine aa (zm rfl (zm rfl (aS (jb 106 rfl rfl) ?_)))
         exact zk hp hr h [0,106] Tryz.call154 (hT.cn p0 y18.2 (ax.mk 0 0 [] [] [] [] [] [] [] [] y5.1)) rfl (fun _=>rfl) fun y20 h=>ao (hK10 _ _ _ h rfl)
       · refine ag fun _ hK21=>aa (zA rfl ?_)
         refine zk hp hr h [] Tryz.call56 (gk y3.1 ([108,101,116]:List UInt8)) rfl (fun _=>rfl) fun y22 h=>za rfl (zQ hK21 (zB rfl h (fun _ h=>?_) fun _ h=>?_))
         · refine zM h (fun (v24:ab)=>[(0,.ptr 0 0),(1,Bo p0),(4,.ptr 104 0),(6,.ptr 106 0)]) (fun (v24:ab)=>[(0,.box (ah v24)),(104,.box [I 0,I 0,aY [],aY [],aY [],Sc (.slice none 0 0),Sc (.slice none 0 0),Sc (.slice none 0 0),Sc (.slice none 0 0),aY [],I 0]),(106,.box [I 0,I 0,aY [],aY [],aY [],Sc (.slice none 0 0),Sc (.slice none 0 0),Sc (.slice none 0 0),Sc (.slice none 0 0),aY [],I y5.1])]) (fun v24 h=>?_) fun _ _ hK26 h=>?_
           · refine ag fun _ hK27=>aa (zm rfl (zn rfl (zf rfl (zl rfl (zd hr h fun hg28 h=>zo hg28 rfl (zn rfl (zf rfl (zs rfl (zQ hK27 (ag fun _ hK29=>aa (zm rfl (zk hp hr h [0] Tryz.call57 (fD n (ab.mk v24.text v24.bd (v24.at_+1) v24.base v24.skip v24.pending)) rfl (fun _=>rfl) fun y30 h=>zf rfl (zs rfl (zf rfl (zs rfl (zQ hK29 (ag fun _ hK31=>aa (zm rfl (zk hp hr h [0] Tryz.call155 (cI n ([61]:List UInt8) y30.2) rfl (fun _=>rfl) fun y32 h=>?_)))))))))))))))))))
             refine zQ hK31 (aa (zm rfl (zk hp hr h [0] Tryz.call33 (hT.aD true y32) rfl (fun _=>rfl) fun y33 h=>bR [y33.1] aj.bb ⟨rfl,rfl⟩ rfl ?_)))
             refine zf rfl (zs rfl (aS (gg 106 6 rfl rfl rfl) ?_))
             refine aS (gg 106 7 rfl rfl rfl) ?_
             refine aS (gg 106 8 rfl rfl rfl) ?_
             exact ao (hK10 _ _ _ h rfl)
           · refine ag fun _ hK34=>aa (zm rfl (an (eG rfl) rfl (zQ hK34 (zB rfl h (fun _ h=>?_) fun _ h=>?_))))
             · exact aa (zm rfl (zk hp hr h [0] Tryz.call35 (bt n y18.2) rfl (fun _=>rfl) fun y36 h=>ao (hK26 _ _ _ h rfl)))
             · exact ar (hK26 _ _ _ h rfl)
         · refine ag fun _ hK37=>aa (zA rfl ?_)
           refine zk hp hr h [] Tryz.call72 (cu y3.1 ([46,46,46]:List UInt8)) rfl (fun _=>rfl) fun y38 h=>za rfl (zQ hK37 (zB rfl h (fun _ h=>?_) fun _ h=>?_))
           · refine zM h (fun (v40:ab)=>[(0,.ptr 0 0),(1,Bo p0),(4,.ptr 104 0),(6,.ptr 106 0)]) (fun (v40:ab)=>[(0,.box (ah v40)),(104,.box [I 0,I 0,aY [],aY [],aY [],Sc (.slice none 0 0),Sc (.slice none 0 0),Sc (.slice none 0 0),Sc (.slice none 0 0),aY [],I 0]),(106,.box [I 0,I 0,aY [],aY [],aY [],Sc (.slice none 0 0),Sc (.slice none 0 0),Sc (.slice none 0 0),Sc (.slice none 0 0),aY [],I y5.1])]) (fun v40 h=>?_) fun _ _ hK42 h=>?_
             · refine ag fun _ hK43=>aa (zm rfl (zn rfl (zf rfl (zl rfl (zd hr h fun hg44 h=>zo hg44 rfl (zn rfl (zf rfl (zs rfl (zQ hK43 (aa (zf rfl (zs rfl (aS (gg 106 5 rfl rfl rfl) ?_)))))))))))))
               refine aS (gg 106 6 rfl rfl rfl) ?_
               refine aS (gg 106 7 rfl rfl rfl) ?_
               refine aS (gg 106 8 rfl rfl rfl) ?_
               exact ao (hK10 _ _ _ h rfl)
             · refine ag fun _ hK45=>aa (zm rfl (an (eG rfl) rfl (zQ hK45 (zB rfl h (fun _ h=>?_) fun _ h=>?_))))
               · exact aa (zm rfl (zk hp hr h [0] Tryz.call35 (bt n y18.2) rfl (fun _=>rfl) fun y47 h=>ao (hK42 _ _ _ h rfl)))
               · exact ar (hK42 _ _ _ h rfl)
           · refine ag fun _ hK48=>aa (zA rfl ?_)
             refine zk hp hr h [] Tryz.call56 (gk y3.1 ([105,102]:List UInt8)) rfl (fun _=>rfl) fun y49 h=>za rfl (zQ hK48 (zB rfl h (fun _ h=>?_) fun _ h=>?_))
             · refine ag fun _ hK51=>aa (zm rfl (zn rfl (zf rfl (zl rfl (zd hr h fun hg52 h=>zo hg52 rfl (zn rfl (zf rfl (zs rfl (zQ hK51 (ag fun _ hK53=>aa (zf rfl (zs rfl (zQ hK53 (ag fun _ hK54=>aa (zm rfl (zk hp hr h [0] Tryz.call33 (hT.aD false (ab.mk y18.2.text y18.2.bd (y18.2.at_+1) y18.2.base y18.2.skip y18.2.pending)) rfl (fun _=>rfl) fun y55 h=>bR [y55.1] aj.bb ⟨rfl,rfl⟩ rfl ?_))))))))))))))))
               refine zf rfl (zs rfl (zQ hK54 (aa (zm rfl (zk hp hr h [0] Tryz.call156 (hT.bS false y55.2) rfl (fun _=>rfl) fun y56 h=>zm rfl (zx rfl (zx rfl (zf rfl (zs rfl (zf rfl (zs rfl (aS (gg 106 8 rfl rfl rfl) ?_))))))))))))
               exact ao (hK10 _ _ _ h rfl)
             · refine ag fun _ hK57=>aa (zA rfl ?_)
               refine zk hp hr h [] Tryz.call56 (gk y3.1 ([102,111,114]:List UInt8)) rfl (fun _=>rfl) fun y58 h=>za rfl (zQ hK57 (zB rfl h (fun _ h=>?_) fun _ h=>?_))
               · refine ag fun _ hK60=>aa (zm rfl (zn rfl (zf rfl (zl rfl (zd hr h fun hg61 h=>zo hg61 rfl (zn rfl (zf rfl (zs rfl (zQ hK60 (ag fun _ hK62=>aa (zm rfl (zk hp hr h [0] Tryz.call157 (ly n (ab.mk y18.2.text y18.2.bd (y18.2.at_+1) y18.2.base y18.2.skip y18.2.pending)) rfl (fun _=>rfl) fun y63 h=>zf rfl (zs rfl (zf rfl (zs rfl (zQ hK62 (ag fun _ hK64=>aa (zm rfl (zk hp hr h [0] Tryz.call158 (gB n ([105,110]:List UInt8) y63.2) rfl (fun _=>rfl) fun y65 h=>?_)))))))))))))))))))
                 refine zQ hK64 (ag fun _ hK66=>aa (zm rfl (zk hp hr h [0] Tryz.call33 (hT.aD false y65) rfl (fun _=>rfl) fun y67 h=>bR [y67.1] aj.bb ⟨rfl,rfl⟩ rfl ?_)))
                 refine zf rfl (zs rfl (zQ hK66 (aa (zm rfl (zk hp hr h [0] Tryz.call156 (hT.bS false y67.2) rfl (fun _=>rfl) fun y68 h=>zm rfl (zx rfl (zx rfl (zf rfl (zs rfl (zf rfl (zs rfl (aS (gg 106 8 rfl rfl rfl) ?_))))))))))))
                 exact ao (hK10 _ _ _ h rfl)
               · refine ag fun _ hK69=>aa (zA rfl ?_)
                 refine zk hp hr h [] Tryz.call72 (cu y3.1 ([40]:List UInt8)) rfl (fun _=>rfl) fun y70 h=>za rfl (zQ hK69 (zB rfl h (fun _ h=>?_) fun _ h=>?_))
                 · refine aa (zm rfl (zm rfl (aS (jb 106 rfl rfl) ?_)))
                   exact zk hp hr h [0,106] Tryz.call159 (hT.cm p0 y18.2 (ax.mk 0 0 [] [] [] [] [] [] [] [] y5.1)) rfl (fun _=>rfl) fun y72 h=>ao (hK10 _ _ _ h rfl)
                 · refine ag fun _ hK73=>aa (zf rfl (zs rfl (zQ hK73 (aa (zm rfl (zm rfl (zk hp hr h [0] Tryz.call33 (hT.aD p0 y18.2) rfl (fun _=>rfl) fun y74 h=>bR [y74.1] aj.bb ⟨rfl,rfl⟩ rfl ?_)))))))
                   refine zf rfl (zs rfl (aS (gg 106 6 rfl rfl rfl) ?_))
                   refine aS (gg 106 7 rfl rfl rfl) ?_
                   refine aS (gg 106 8 rfl rfl rfl) ?_
                   exact ao (hK10 _ _ _ h rfl)
   · refine aa (zA rfl ?_)
     refine zk hp hr h [] Tryz.call150 (oU n y3.1) rfl (fun _=>rfl) fun y75 h=>zm rfl (zb y75 (fun hb76=>?_) fun hb76=>?_)
     · refine z1 hb76 h fun h=>zG hb76 rfl (jy rfl rfl rfl rfl) ?_
       exact zK hb76 rfl hp hr h [] Tryz.call151 (k6 n y7.1 ([58,32,63,32,33]:List UInt8)) rfl (fun _=>rfl) fun y77 h=>zy hb76 rfl (za rfl (ao (hK14 _ _ _ h rfl)))
     · exact z2 hb76 h fun h=>zg hb76 rfl (zg hb76 rfl (zw hb76 rfl (za rfl (ao (hK14 _ _ _ h rfl)))))
theorem nP (n:Nat) (T:aF) (hT:aV T) (p0:Bool) (p1:ab):CT Tryz.prog 60 [.ptr 0 0,Sc (.slice none 0 0),Bo p0] [.box (ah p1)] (kz n T p0 p1) (fun x=>.fH [.pv (.sl (List.length x.1) (ax.Cs x.1)),.pv (.sl (List.length x.2.1) (bX x.2.1))]) (fun x=>[.box (ah x.2.2)]):=by
 refine zC Tryz.func60 rfl fun r hp h hr E hE=>ag fun _ hK1=>aa (za rfl (za rfl (zQ hK1 (ag fun _ hK2=>aa (za rfl (zQ hK2 (ag fun _ hK3=>aa (za rfl (zQ hK3 (ag fun _ hK4=>aa (za rfl (zQ hK4 (ag fun _ hK5=>aC (bQ (r5 (d:=1) 10001 (sz:=1) (el:=9) (hE _ rfl) rfl ⟨rfl,rfl,rfl⟩) ?_))))))))))))))
 refine bQ (zh (d:=8) 10008 (sz:=11) (el:=53) (hE _ rfl) rfl ⟨rfl,rfl,rfl⟩) ?_
 refine zL hr h (fun (v6:ab×(List (List UInt8))×(List ax)×Int×Bool)=>[(0,.ptr 0 0),(1,.arr 10001 (List.length v6.2.1)),(2,Bo p0),(8,.arr 10008 (List.length v6.2.2.1)),(9,I v6.2.2.2.1),(10,Bo v6.2.2.2.2)]) (fun (v6:ab×(List (List UInt8))×(List ax)×Int×Bool)=>[(0,.box (ah v6.1)),(10001,.app 9 1 (bX v6.2.1)),(10008,.arr 53 11 (ax.Cs v6.2.2.1))]) rfl fun _ v6 _ hK8 h=>ag fun _ hK9=>ag fun _ hK10=>aa (zm rfl (zk hp hr h [0] Tryz.call105 (mc n v6.1) rfl (fun _=>rfl) fun y11 h=>an (eG rfl) rfl (zQ hK10 (zB rfl h (fun _ h=>?_) fun _ h=>?_))))
 · refine ar (hK9 _ _ (aC (ag fun _ hK13=>aa (zm rfl (zk hp hr h [0] Tryz.call34 (aI n y11.2) rfl (fun _=>rfl) fun y14 h=>aL 111 (hE _ rfl) ⟨rfl,rfl,rfl,rfl⟩ rfl ?_)))))
   refine zs rfl (zQ hK13 (aC (zM h (fun (v15:Bool)=>[(0,.ptr 0 0),(1,.arr 10001 (List.length v6.2.1)),(2,Bo p0),(8,.arr 10008 (List.length v6.2.2.1)),(9,I v6.2.2.2.1),(10,Bo v6.2.2.2.2),(11,.ptr 111 0),(31,Bo v15)]) (fun (v15:Bool)=>[(0,.box [aY y14.2.text,.pv (.sl (List.length y14.2.bd) (aK.Cs y14.2.bd)),I y14.2.at_,I y11.2.base,Bo y14.2.skip,.pv (.pt (Option.map aj.C y14.2.pending))]),(111,.box (fo y14.1)),(10001,.app 9 1 (bX v6.2.1)),(10008,.arr 53 11 (ax.Cs v6.2.2.1))]) (fun v15 h=>?_) fun _ _ hK17 h=>?_)))
   · refine zB rfl h (fun _ h=>?_) fun _ h=>?_
     · exact ag fun _ hK19=>aa (za rfl (zQ hK19 (aa (zm rfl (zn rfl (zf rfl (zl rfl (zd hr h fun hg20 h=>zo hg20 rfl (zn rfl (zf rfl (zs rfl (ao (hK8 _ _ _ h rfl)))))))))))))
     · refine zM h (fun (v21:ab×Bool)=>[(0,.ptr 0 0),(1,.arr 10001 (List.length v6.2.1)),(2,Bo p0),(8,.arr 10008 (List.length v6.2.2.1)),(9,I v6.2.2.2.1),(10,Bo v6.2.2.2.2),(11,.ptr 111 0),(46,Bo v21.2)]) (fun (v21:ab×Bool)=>[(0,.box (ah v21.1)),(111,.box (fo y14.1)),(10001,.app 9 1 (bX v6.2.1)),(10008,.arr 53 11 (ax.Cs v6.2.2.1))]) (fun v21 h=>?_) fun _ _ hK23 h=>?_
       · refine zB rfl h (fun _ h=>?_) fun _ h=>?_
         · refine ag fun _ hK25=>aa (zm rfl (zm rfl (an (lV rfl) rfl (zd hr h fun hg26 h=>an (pX rfl rfl hg26) rfl (zf rfl (zl rfl (ze hr h fun x27 h28 h29 h30 h=>an (lU rfl rfl h28 h29) rfl (zf rfl (Bm (⟨ax.bb,ax.bP,h28,h30,rfl,rfl,rfl,rfl,rfl,ls.h,rfl,rfl,rfl⟩:u6 _ _ _ _ _ _ _ _ _ 9 _ _ _ _ _ _ (ax.mk x27.Kind x27.ca x27.Label x27.bf x27.bj x27.aW x27.Body x27.cd x27.jk y14.1.Text x27.Pos) _ [.sc (S y14.1.Text)]) ?_)))))))))
           refine aS (Bu 8 (m':=List.length (List.set v6.2.2.1 ((List.length v6.2.2.1:Int) - 1).toNat (ax.mk x27.Kind x27.ca x27.Label x27.bf x27.bj x27.aW x27.Body x27.cd x27.jk y14.1.Text x27.Pos))) rfl (by simp)) ?_
           exact zQ hK25 (aa (zm rfl (zn rfl (zf rfl (zl rfl (zd hr h fun hg31 h=>zo hg31 rfl (zn rfl (zf rfl (zs rfl (ao (hK8 _ _ _ h rfl)))))))))))
         · refine zM h (fun (v32:ab×Bool)=>[(0,.ptr 0 0),(1,.arr 10001 (List.length v6.2.1)),(2,Bo p0),(8,.arr 10008 (List.length v6.2.2.1)),(9,I v6.2.2.2.1),(10,Bo v6.2.2.2.2),(11,.ptr 111 0),(74,Bo v32.2)]) (fun (v32:ab×Bool)=>[(0,.box (ah v32.1)),(111,.box (fo y14.1)),(10001,.app 9 1 (bX v6.2.1)),(10008,.arr 53 11 (ax.Cs v6.2.2.1))]) (fun v32 h=>?_) fun _ _ hK34 h=>?_
           · refine zB rfl h (fun _ h=>?_) fun _ h=>?_
             · refine ag fun _ hK36=>aa (zm rfl (zf rfl (zl rfl (bR [y14.1.Text] eX ⟨rfl,rfl⟩ rfl ?_))))
               refine zd hr h fun hg37 h=>lE 186 ⟨jH.h,eu.h,eX,gI,qP,hE _ rfl,rfl,rfl,(.inl rfl),⟨rfl,rfl,rfl⟩,hg37⟩ rfl ?_
               refine za rfl (aS (kn 186 10001 [(0,.ptr 0 0),(1,.arr 10001 (List.length (v6.2.1++[y14.1.Text]))),(2,Bo p0),(8,.arr 10008 (List.length v6.2.2.1)),(9,I v6.2.2.2.1),(10,Bo v6.2.2.2.2)] [(10008,.arr 53 11 (ax.Cs v6.2.2.1)),(0,.box (ah v32.1))] (hE _ rfl) rfl rfl ⟨rfl,rfl⟩ ⟨⟨_,rfl,rfl,rfl⟩,⟨_,rfl,rfl,rfl⟩,⟨_,rfl,rfl,rfl⟩,⟨_,rfl,rfl,rfl⟩,⟨_,rfl,rfl,rfl⟩,⟨_,rfl,rfl,rfl⟩,trivial⟩ ⟨⟨_,rfl,rfl,rfl,rfl,rfl⟩,⟨_,rfl,rfl,rfl,rfl,rfl⟩,trivial⟩) ?_)
               exact zQ hK36 (aa (zm rfl (zn rfl (zf rfl (zl rfl (zd hr h fun hg38 h=>zo hg38 rfl (zn rfl (zf rfl (zs rfl (ao (hK8 _ _ _ h rfl)))))))))))
             · refine zM h (fun (v39:Bool)=>[(0,.ptr 0 0),(1,.arr 10001 (List.length v6.2.1)),(2,Bo p0),(8,.arr 10008 (List.length v6.2.2.1)),(9,I v6.2.2.2.1),(10,Bo v6.2.2.2.2),(94,Bo v39)]) (fun (v39:Bool)=>[(0,.box (ah v32.1)),(10001,.app 9 1 (bX v6.2.1)),(10008,.arr 53 11 (ax.Cs v6.2.2.1))]) (fun v39 h=>?_) fun _ _ hK41 h=>?_
               · refine zB rfl h (fun _ h=>?_) fun _ h=>?_
                 · exact aa (zm rfl (zk hp hr h [0] Tryz.call35 (bt n v32.1) rfl (fun _=>rfl) fun y43 h=>ao (hK8 _ _ _ h rfl)))
                 · refine ag fun _ hK44=>aa (zm rfl (zm rfl (zk hp hr h [0] Tryz.call107 (hT.bO p0 v32.1) rfl (fun _=>rfl) fun y45 h=>aL 112 (hE _ rfl) ⟨rfl,rfl,rfl,rfl⟩ rfl ?_)))
                   refine zs rfl (zQ hK44 (ag fun _ hK46=>aa (an (lM eX gI rfl rfl rfl) rfl ?_)))
                   refine zf rfl (zs rfl (zQ hK46 (ag fun _ hK47=>aa (za rfl (zQ hK47 (ag fun _ hK48=>aa (zm rfl (zA rfl ?_))))))))
                   refine bR [(ax.mk y45.1.Kind y45.1.ca y45.1.Label y45.1.bf y45.1.bj y45.1.aW y45.1.Body y45.1.cd v6.2.1 y45.1.Trail y45.1.Pos)] ax.bb ⟨rfl,rfl⟩ rfl ?_
                   refine zd hr h fun hg49 h=>sq 126 ⟨jH.h,eu.h,ax.bb,ax.bP,ax.iS,hE _ rfl,rfl,rfl,(.inl rfl),⟨rfl,rfl,rfl⟩,hg49⟩ rfl ?_
                   refine za rfl (aS (iR 126 10008 [(0,.ptr 0 0),(1,Sc (.slice none 0 0)),(2,Bo p0),(8,.arr 10008 (List.length (v6.2.2.1++[(ax.mk y45.1.Kind y45.1.ca y45.1.Label y45.1.bf y45.1.bj y45.1.aW y45.1.Body y45.1.cd v6.2.1 y45.1.Trail y45.1.Pos)])))] [(0,.box (ah y45.2))] (hE _ rfl) rfl rfl ⟨rfl,rfl⟩ ⟨⟨_,rfl,rfl,rfl⟩,⟨_,rfl,rfl,rfl⟩,⟨_,rfl,rfl,rfl⟩,⟨_,rfl,rfl,rfl⟩,trivial⟩ ⟨⟨_,rfl,rfl,rfl,rfl,rfl⟩,trivial⟩) ?_)
                   refine zQ hK48 (aa (zm rfl (zn rfl (zf rfl (zl rfl (za rfl (za rfl (aS (r5 (d:=1) 10001 (sz:=1) (el:=9) (hE _ rfl) rfl ⟨rfl,rfl,rfl⟩) ?_))))))))
                   exact ao (hK8 _ _ _ h rfl)
               · refine aa (zf rfl (zl rfl (zc rfl (zm rfl (zb (y14.1.Kind==6) (fun hb50=>?_) fun hb50=>?_)))))
                 · exact z1 hb50 h fun h=>zg hb50 rfl (zg hb50 rfl (zy hb50 rfl (za rfl (ao (hK41 _ _ _ h rfl)))))
                 · exact z2 hb50 h fun h=>zG hb50 rfl (au rfl) (zG hb50 rfl (eG rfl) (zw hb50 rfl (za rfl (ao (hK41 _ _ _ h rfl)))))
           · refine aa (zf rfl (zl rfl (zc rfl (zm rfl (zb (y14.1.Kind==6) (fun hb51=>?_) fun hb51=>?_)))))
             · exact z1 hb51 h fun h=>zG hb51 rfl (au rfl) (zK hb51 rfl hp hr h [0] Tryz.call103 (hO n v21.1) rfl (fun _=>rfl) fun y52 h=>zy hb51 rfl (za rfl (ao (hK34 _ _ _ h rfl))))
             · exact z2 hb51 h fun h=>zg hb51 rfl (zg hb51 rfl (zw hb51 rfl (za rfl (ao (hK34 _ _ _ h rfl)))))
       · refine aa (zf rfl (zl rfl (zc rfl (zm rfl (zb (y14.1.Kind==6) (fun hb53=>?_) fun hb53=>?_)))))
         · refine z1 hb53 h fun h=>zG hb53 rfl (au rfl) (zG hb53 rfl (bg rfl rfl rfl) (zy hb53 rfl (zm rfl (zb (decide (v6.2.2.2.1>0)) (fun hb54=>?_) fun hb54=>?_))))
           · exact z1 hb54 h fun h=>zG hb54 rfl (au rfl) (zG hb54 rfl (au rfl) (zK hb54 rfl hp hr h [0] Tryz.call106 (k9 n v6.2.2.2.1 (ab.mk y14.2.text y14.2.bd y14.2.at_ y11.2.base y14.2.skip y14.2.pending)) rfl (fun _=>rfl) fun y55 h=>zy hb54 rfl (za rfl (ao (hK23 _ _ _ h rfl)))))
           · exact z2 hb54 h fun h=>zg hb54 rfl (zg hb54 rfl (zg hb54 rfl (zw hb54 rfl (za rfl (ao (hK23 _ _ _ h rfl))))))
         · exact z2 hb53 h fun h=>zg hb53 rfl (zg hb53 rfl (zw hb53 rfl (zm rfl (zg rfl rfl (zg rfl rfl (zg rfl rfl (an (dv rfl rfl) rfl (za rfl (ao (hK23 _ _ _ h rfl))))))))))
   · refine aa (zf rfl (zl rfl (zc rfl (zm rfl (zb (y14.1.Kind==7) (fun hb56=>?_) fun hb56=>?_)))))
     · exact z1 hb56 h fun h=>zg hb56 rfl (zg hb56 rfl (zy hb56 rfl (za rfl (ao (hK17 _ _ _ h rfl)))))
     · refine z2 hb56 h fun h=>zG hb56 rfl (jy rfl rfl rfl rfl) ?_
       exact zK hb56 rfl hp hr h [] Tryz.call72 (cu y14.1 ([44]:List UInt8)) rfl (fun _=>rfl) fun y57 h=>zw hb56 rfl (za rfl (ao (hK17 _ _ _ h rfl)))
 · refine bp (hK5 _ _ (ag fun _ hK58=>aa (zm rfl (an (lM eX gI rfl rfl rfl) rfl ?_))))
   refine za rfl (za rfl (zQ hK58 (bQ (Bj (d:=6) ax.bb ax.bP rfl rfl rfl (hE _ rfl)) ?_)))
   exact aw (zX (.cons (ay rfl) (.cons (ay rfl) .nil)) h rfl)
theorem ov (n:Nat) (T:aF) (hT:aV T) (p0:Bool) (p1:ab) (p2:ax):CT Tryz.prog 159 [.ptr 0 0,.ptr 1 0,Bo p0] [.box (ah p1),.box (dp p2)] (eh n T p0 p1 p2) (fun _=>.fH []) (fun x=>[.box (ah x.1),.box (dp x.2)]):=by
 refine zC Tryz.func159 rfl fun r hp h hr E hE=>ag fun _ hK1=>aa (zm rfl (zm rfl (zk hp hr h [0] Tryz.call204 (hT.b1 p0 p1) rfl (fun _=>rfl) fun y2 h=>aL 106 (hE _ rfl) ⟨rfl,rfl,rfl,rfl⟩ rfl ?_)))
 refine zs rfl (zQ hK1 (ag fun _ hK3=>ag fun _ hK4=>aa (zm rfl (zk hp hr h [0] Tryz.call34 (aI n y2.2) rfl (fun _=>rfl) fun y5 h=>zk hp hr h [] Tryz.call72 (cu y5.1 ([58]:List UInt8)) rfl (fun _=>rfl) fun y6 h=>zQ hK4 (zB rfl h (fun _ h=>?_) fun _ h=>?_)))))
 · refine ag fun _ hK8=>bz [0,1,2,3,4,5] rfl (by kernel_rfl) (zD rfl (au rfl) rfl (zD rfl (jy rfl rfl rfl rfl) rfl ?_))
   refine zD rfl (au rfl) rfl (du rfl (bM rfl) hr h [0] Tryz.call75 (bY n (ab.mk y5.2.text y5.2.bd y5.2.at_ y2.2.base y5.2.skip y5.2.pending)) ⟨rfl,rfl,rfl,rfl,rfl,rfl,trivial⟩ rfl rfl (fun _=>⟨rfl,rfl,rfl⟩) (fun _=>⟨rfl,rfl⟩) hp (fun y9 h=>⟨cC ⟨trivial,⟨⟨⟨_,rfl,aZ.le_refl _⟩,trivial⟩,⟨trivial,trivial⟩⟩⟩,?_⟩))
   refine du rfl (bM rfl) hr h [0] Tryz.call74 (fQ n y2.1 y9.1 y9.2) ⟨rfl,rfl,rfl,rfl,rfl,rfl,trivial⟩ rfl rfl (fun _=>⟨rfl,rfl,rfl⟩) (fun _=>⟨rfl,rfl⟩) hp (fun y10 h=>⟨aH rfl,?_⟩)
   refine bV rfl ⟨rfl,rfl,rfl,rfl,rfl,rfl,rfl,rfl⟩ rfl (fun e5 he=>⟨aH rfl,?_⟩)
   subst he
   refine cr (hK8 _ _ (ag fun _ hK11=>aa (zm rfl (zn rfl (zf rfl (zl rfl (zd hr h fun hg12 h=>zo hg12 rfl (zn rfl (zf rfl (zs rfl (zQ hK11 (ag fun _ hK13=>bz [0,1,2,3,4,5,6,7,8,9,10,11] rfl (by kernel_rfl) (zD rfl (au rfl) rfl (zD rfl (au rfl) rfl (zD rfl (jy rfl rfl rfl rfl) rfl ?_)))))))))))))))
   refine zD rfl (au rfl) rfl (du rfl (bM rfl) hr h [0] Tryz.call33 (hT.aD false (ab.mk y10.2.text y10.2.bd (y10.2.at_+1) y10.2.base y10.2.skip y10.2.pending)) ⟨rfl,rfl,rfl,rfl,rfl,rfl,trivial⟩ rfl rfl (fun _=>⟨rfl,rfl,rfl⟩) (fun _=>⟨rfl,rfl⟩) hp (fun y14 h=>⟨cC ⟨trivial,⟨⟨⟨_,rfl,aZ.le_refl _⟩,trivial⟩,⟨trivial,⟨trivial,trivial⟩⟩⟩⟩,?_⟩))
   refine gU [y10.1,y14.1] aj.bb rfl (bM rfl) ⟨rfl,rfl⟩ ⟨rfl,rfl⟩ ?_
   refine zD rfl (cP rfl) rfl (zD rfl (bD rfl) rfl (bV rfl ⟨rfl,rfl,rfl,rfl,rfl,rfl,rfl,rfl⟩ rfl (fun e8 he=>⟨aH rfl,?_⟩)))
   subst he
   refine zD rfl (cP rfl) rfl (zD rfl (bD rfl) rfl (bV rfl ⟨rfl,rfl,rfl,rfl,rfl,rfl,rfl,rfl⟩ rfl (fun e11 he=>⟨aH rfl,?_⟩)))
   subst he
   exact cr (hK13 _ _ (aw (zX .nil h rfl)))
 · refine ar (hK3 _ _ (ag fun _ hK15=>aa (zm rfl (zn rfl (zf rfl (aS (D5 (d:=6) (ps:=aj.C y2.1) rfl rfl (hE _ rfl)) ?_))))))
   refine zs rfl (zQ hK15 (aa (zm rfl (zm rfl (zm rfl (zm rfl (zk hp hr h [0] Tryz.call33 (hT.aD p0 (ab.mk y5.2.text y5.2.bd y5.2.at_ y2.2.base y5.2.skip (some y2.1))) rfl (fun _=>rfl) fun y16 h=>bR [y16.1] aj.bb ⟨rfl,rfl⟩ rfl ?_)))))))
   exact zn rfl (zf rfl (zs rfl (zn rfl (zf rfl (zs rfl (ao (zY .nil h rfl)))))))
theorem ql (n:Nat) (T:aF) (hT:aV T) (p0:Bool) (p1:ab):CT Tryz.prog 33 [.ptr 0 0,Bo p0] [.box (ah p1)] (fh n T p0 p1) (fun x=>.agg (aX x.1)) (fun x=>[.box (ah x.2)]):=by
 refine zC Tryz.func33 rfl fun r hp h hr E hE=>ag fun _ hK1=>aa (aL 104 (hE _ rfl) ⟨rfl,rfl,rfl,rfl⟩ rfl ?_)
 refine zQ hK1 (zM h (fun (v2:ab×Bool)=>[(0,.ptr 0 0),(1,Bo p0),(4,.ptr 104 0),(5,Bo v2.2)]) (fun (v2:ab×Bool)=>[(0,.box (ah v2.1)),(104,.box [I 0,aY [],I 0,aY [],aY [],Sc (.slice none 0 0),Sc (.slice none 0 0),Sc (.slice none 0 0),I 0])]) (fun v2 h=>?_) fun _ _ hK4 h=>?_)
 · refine zM h (fun (v5:ab×aj)=>[(0,.ptr 0 0),(1,Bo p0),(4,.ptr 104 0),(5,Bo v2.2),(6,.ptr 106 0)]) (fun (v5:ab×aj)=>[(0,.box (ah v5.1)),(104,.box [I 0,aY [],I 0,aY [],aY [],Sc (.slice none 0 0),Sc (.slice none 0 0),Sc (.slice none 0 0),I 0]),(106,.box (aX v5.2))]) (fun v5 h=>?_) fun _ _ hK7 h=>?_
   · refine zM h (fun (v8:ab)=>[(0,.ptr 0 0),(1,Bo p0),(4,.ptr 104 0),(6,.ptr 106 0)]) (fun (v8:ab)=>[(0,.box (ah v8)),(104,.box [I 0,aY [],I 0,aY [],aY [],Sc (.slice none 0 0),Sc (.slice none 0 0),Sc (.slice none 0 0),I 0]),(106,.box (aX v5.2))]) (fun v8 h=>?_) fun _ _ hK10 h=>?_
     · refine zM h (fun (v11:ab)=>[(0,.ptr 0 0),(1,Bo p0),(4,.ptr 104 0),(6,.ptr 106 0)]) (fun (v11:ab)=>[(0,.box (ah v11)),(104,.box [I 0,aY [],I 0,aY [],aY [],Sc (.slice none 0 0),Sc (.slice none 0 0),Sc (.slice none 0 0),I 0]),(106,.box (aX v5.2))]) (fun v11 h=>?_) fun _ _ hK13 h=>?_
       · refine ag fun _ hK14=>lY [] ?_
         refine bz [0,1,2,3,4,5,6] rfl (by kernel_rfl) (zD rfl (au rfl) rfl (zD rfl (jy rfl rfl rfl rfl) rfl ?_))
         refine zD rfl (au rfl) rfl (du rfl (bM rfl) hr h [0] Tryz.call75 (bY n v11) ⟨rfl,rfl,rfl,rfl,rfl,rfl,trivial⟩ rfl rfl (fun _=>⟨rfl,rfl,rfl⟩) (fun _=>⟨rfl,rfl⟩) hp (fun y15 h=>⟨cC ⟨trivial,⟨⟨⟨_,rfl,aZ.le_refl _⟩,trivial⟩,⟨trivial,trivial⟩⟩⟩,?_⟩))
         refine du rfl (bM rfl) hr h [0] Tryz.call74 (fQ n v5.2 y15.1 y15.2) ⟨rfl,rfl,rfl,rfl,rfl,rfl,trivial⟩ rfl rfl (fun _=>⟨rfl,rfl,rfl⟩) (fun _=>⟨rfl,rfl⟩) hp (fun y16 h=>⟨aH rfl,?_⟩)
         refine D9 [y16.1] aj.bb aj.bP rfl (bM rfl) 145 (hE _ rfl) ⟨rfl,rfl,rfl,rfl⟩ ⟨rfl,rfl,rfl,rfl⟩ ⟨rfl,rfl,rfl,rfl⟩ ?_
         refine r7 rfl rfl rfl (aH rfl) rfl ?_
         refine fP (kn 145 10007 [(0,.ptr 0 0),(1,Bo p0),(4,.ptr 104 0),(7,.arr 10007 (List.length [y16.1]))] [(0,.box (ah y16.2)),(104,.box [I 0,aY [],I 0,aY [],aY [],Sc (.slice none 0 0),Sc (.slice none 0 0),Sc (.slice none 0 0),I 0])] (hE _ rfl) rfl rfl ⟨rfl,rfl⟩ ⟨⟨_,rfl,rfl,rfl⟩,⟨_,rfl,rfl,rfl⟩,⟨_,rfl,rfl,rfl⟩,⟨_,rfl,rfl,rfl⟩,trivial⟩ ⟨⟨_,rfl,rfl,rfl,rfl,rfl⟩,⟨_,rfl,rfl,rfl,rfl,rfl⟩,trivial⟩) ?_
         refine hK14 _ _ (ag fun _ hK17=>aC (zL hr h (fun (v18:ab×(List aj))=>[(0,.ptr 0 0),(1,Bo p0),(4,.ptr 104 0),(7,.arr 10007 (List.length v18.2))]) (fun (v18:ab×(List aj))=>[(0,.box (ah v18.1)),(104,.box [I 0,aY [],I 0,aY [],aY [],Sc (.slice none 0 0),Sc (.slice none 0 0),Sc (.slice none 0 0),I 0]),(10007,.app 38 9 (aj.Cs v18.2))]) rfl fun _ v18 _ hK20 h=>ag fun _ hK21=>ag fun _ hK22=>aa (zm rfl (zk hp hr h [0] Tryz.call76 (cU n ([124]:List UInt8) v18.1) rfl (fun _=>rfl) fun y23 h=>zQ hK22 (zB rfl h (fun _ h=>?_) fun _ h=>?_)))))
         · refine ar (hK21 _ _ (aC (aa (zm rfl (zm rfl (zk hp hr h [0] Tryz.call73 (hT.bn false y23.2) rfl (fun _=>rfl) fun y25 h=>bR [y25.1] aj.bb ⟨rfl,rfl⟩ rfl ?_))))))
           refine zd hr h fun hg26 h=>lE 152 ⟨jH.h,eu.h,aj.bb,aj.bP,aj.iS,hE _ rfl,rfl,rfl,(.inl rfl),⟨rfl,rfl,rfl⟩,hg26⟩ rfl ?_
           refine za rfl (aS (kn 152 10007 [(0,.ptr 0 0),(1,Bo p0),(4,.ptr 104 0),(7,.arr 10007 (List.length (v18.2++[y25.1])))] [(0,.box (ah y25.2)),(104,.box [I 0,aY [],I 0,aY [],aY [],Sc (.slice none 0 0),Sc (.slice none 0 0),Sc (.slice none 0 0),I 0])] (hE _ rfl) rfl rfl ⟨rfl,rfl⟩ ⟨⟨_,rfl,rfl,rfl⟩,⟨_,rfl,rfl,rfl⟩,⟨_,rfl,rfl,rfl⟩,⟨_,rfl,rfl,rfl⟩,trivial⟩ ⟨⟨_,rfl,rfl,rfl,rfl,rfl⟩,⟨_,rfl,rfl,rfl,rfl,rfl⟩,trivial⟩) ?_)
           exact ao (hK20 _ _ _ h rfl)
         · refine bp (hK17 _ _ (ag fun _ hK27=>aa (an (lM aj.bb aj.bP rfl rfl rfl) rfl ?_)))
           refine an (lM aj.bb aj.bP rfl rfl rfl) rfl ?_
           refine ze hr h fun x28 h29 h30 h31 h=>an (gx aj.bb aj.bP h29 h30 h31 rfl rfl rfl) rfl (an (kv rfl rfl) rfl (an (fO rfl rfl) rfl (an (dm rfl rfl) rfl ?_)))
           refine zs rfl (zQ hK27 (bQ (jb 104 rfl rfl) ?_))
           exact aw (zX (.cons (aT rfl rfl rfl) .nil) h rfl)
       · refine ag fun _ hK32=>aa (zm rfl (zk hp hr h [0] Tryz.call34 (aI n v8) rfl (fun _=>rfl) fun y33 h=>zk hp hr h [] Tryz.call72 (cu y33.1 ([124]:List UInt8)) rfl (fun _=>rfl) fun y34 h=>an (eG rfl) rfl (zQ hK32 (zB rfl h (fun _ h=>?_) fun _ h=>?_))))
         · exact aa (zm rfl (zk hp hr h [0] Tryz.call35 (bt n (ab.mk y33.2.text y33.2.bd y33.2.at_ v8.base y33.2.skip y33.2.pending)) rfl (fun _=>rfl) fun y36 h=>ao (hK13 _ _ _ h rfl)))
         · exact ar (hK13 _ _ _ h rfl)
     · refine ag fun _ hK37=>aa (zm rfl (an (eG rfl) rfl (zm rfl (zb (!v2.2) (fun hb38=>?_) fun hb38=>?_))))
       · refine z1 hb38 h fun h=>zG hb38 rfl (au rfl) (zK hb38 rfl hp hr h [0] Tryz.call34 (aI n v5.1) rfl (fun _=>rfl) fun y39 h=>zK hb38 rfl hp hr h [] Tryz.call72 (cu y39.1 ([124]:List UInt8)) rfl (fun _=>rfl) fun y40 h=>zG hb38 rfl (eG rfl) (zy hb38 rfl (zQ hK37 (zB rfl h (fun _ h=>?_) fun _ h=>?_))))
         · refine ag fun _ hK42=>aa (zA rfl ?_)
           exact zs rfl (zQ hK42 (aw (zX (.cons (aT rfl rfl rfl) .nil) h rfl)))
         · exact ar (hK10 _ _ _ h rfl)
       · refine z2 hb38 h fun h=>zg hb38 rfl (zg hb38 rfl (zg hb38 rfl (zg hb38 rfl (zw hb38 rfl (zQ hK37 (cN rfl (fun hc=>?_) (fun hc=>?_)))))))
         · exact absurd (hc) (by simp)
         · exact ar (hK10 _ _ _ h rfl)
   · refine aa (zm rfl (zm rfl (zm rfl (zb p0 (fun hb43=>?_) fun hb43=>?_))))
     · refine z1 hb43 h fun h=>zG hb43 rfl (au rfl) (zG hb43 rfl (eG rfl) (zy hb43 rfl (zk hp hr h [0] Tryz.call73 (hT.bn (!v2.2) v2.1) rfl (fun _=>rfl) fun y44 h=>aL 106 (hE _ rfl) ⟨rfl,rfl,rfl,rfl⟩ rfl ?_)))
       exact zs rfl (ao (hK7 _ _ _ h rfl))
     · refine z2 hb43 h fun h=>zg hb43 rfl (zg hb43 rfl (zw hb43 rfl (zk hp hr h [0] Tryz.call73 (hT.bn false v2.1) rfl (fun _=>rfl) fun y45 h=>aL 106 (hE _ rfl) ⟨rfl,rfl,rfl,rfl⟩ rfl ?_)))
       exact zs rfl (ao (hK7 _ _ _ h rfl))
 · refine aa (zm rfl (zn rfl (zf rfl (zl rfl (an (AX rfl rfl) rfl (zm rfl (zb (Option.isNone (Option.map aj.C p1.pending)) (fun hb46=>?_) fun hb46=>?_)))))))
   · exact z1 hb46 h fun h=>zG hb46 rfl (au rfl) (zK hb46 rfl hp hr h [0] Tryz.call34 (aI n p1) rfl (fun _=>rfl) fun y47 h=>zK hb46 rfl hp hr h [] Tryz.call72 (cu y47.1 ([42]:List UInt8)) rfl (fun _=>rfl) fun y48 h=>zy hb46 rfl (za rfl (ao (hK4 _ _ _ h rfl))))
   · exact z2 hb46 h fun h=>zg hb46 rfl (zg hb46 rfl (zg hb46 rfl (zw hb46 rfl (za rfl (ao (hK4 _ _ _ h rfl))))))
theorem pH (n:Nat) (T:aF) (hT:aV T) (p0:Bool) (p1:ab) (p2:ax):CT Tryz.prog 152 [.ptr 0 0,.ptr 1 0,Bo p0] [.box (ah p1),.box (dp p2)] (dy n T p0 p1 p2) (fun _=>.fH []) (fun x=>[.box (ah x.1),.box (dp x.2)]):=by
 refine zC Tryz.func152 rfl fun r hp h hr E hE=>ag fun _ hK1=>aa (zm rfl (zm rfl (zm rfl (zm rfl (zk hp hr h [0] Tryz.call34 (aI n p1) rfl (fun _=>rfl) fun y2 h=>an (jV rfl rfl) rfl ?_)))))
 refine zn rfl (zf rfl (zs rfl (zn rfl (zf rfl (zs rfl (zn rfl (zf rfl (zs rfl (zQ hK1 (ag fun _ hK3=>aa (zm rfl (zn rfl (zf rfl (zl rfl (zd hr h fun hg4 h=>zo hg4 rfl (zn rfl (zf rfl (zs rfl (zQ hK3 (zM h (fun (v5:ab×ax)=>[(0,.ptr 0 0),(1,.ptr 1 0),(2,Bo p0)]) (fun (v5:ab×ax)=>[(0,.box (ah v5.1)),(1,.box (dp v5.2))]) (fun v5 h=>?_) fun _ _ hK7 h=>?_))))))))))))))))))))
 · refine ag fun _ hK8=>aa (zm rfl (zk hp hr h [0] Tryz.call155 (cI n ([58]:List UInt8) v5.1) rfl (fun _=>rfl) fun y9 h=>zQ hK8 (aa (zm rfl (zm rfl (zm rfl (zk hp hr h [0] Tryz.call33 (hT.aD p0 y9) rfl (fun _=>rfl) fun y10 h=>bR [y10.1] aj.bb ⟨rfl,rfl⟩ rfl ?_)))))))
   exact zn rfl (zf rfl (zs rfl (ao (zY .nil h rfl))))
 · refine aC (ag fun _ hK11=>aa (zm rfl (zk hp hr h [0] Tryz.call76 (cU n ([63]:List UInt8) (ab.mk y2.2.text y2.2.bd (y2.2.at_+1) p1.base y2.2.skip y2.2.pending)) rfl (fun _=>rfl) fun y12 h=>za rfl (zQ hK11 (zB rfl h (fun _ h=>?_) fun _ h=>?_)))))
   · exact aa (zm rfl (zn rfl (zf rfl (zs rfl (ao (hK7 _ _ _ h rfl))))))
   · refine ag fun _ hK14=>aa (zm rfl (zk hp hr h [0] Tryz.call76 (cU n ([33]:List UInt8) y12.2) rfl (fun _=>rfl) fun y15 h=>za rfl (zQ hK14 (zB rfl h (fun _ h=>?_) fun _ h=>?_))))
     · exact aa (zm rfl (zn rfl (zf rfl (zs rfl (ao (hK7 _ _ _ h rfl))))))
     · exact ar (hK7 _ _ _ h rfl)
theorem o3 (n:Nat) (T:aF) (hT:aV T) (p0:aK) (p1:Int) (p2:ab):CT Tryz.prog 277 [.ptr 0 0,.agg (fo p0),I p1] [.box (ah p2)] (eD n T p0 p1 p2) (fun x=>.agg (aX x.1)) (fun x=>[.box (ah x.2)]):=by
 refine zC Tryz.func277 rfl fun r hp h hr E hE=>ag fun _ hK1=>aa (dP 104 (hE _ rfl) ⟨rfl,rfl,rfl,rfl,rfl,rfl,rfl⟩ rfl ?_)
 refine aL 106 (hE _ rfl) ⟨rfl,rfl,rfl,rfl⟩ rfl ?_
 refine zQ hK1 (ag fun _ hK2=>aa (zf rfl (zl rfl (zk hp hr h [] Tryz.call144 (qY n p0.Text) rfl (fun _=>rfl) fun y3 h=>zm rfl (zx rfl (zx rfl (aL 108 (hE _ rfl) ⟨rfl,rfl,rfl,rfl⟩ rfl ?_)))))))
 refine za rfl (zs rfl (zQ hK2 (ag fun _ hK4=>aa (zm rfl (an (dm rfl rfl) rfl ?_)))))
 refine aL 109 (hE _ rfl) ⟨rfl,rfl,rfl,rfl⟩ rfl ?_
 refine zs rfl (zQ hK4 (ag fun _ hK5=>ag fun _ hK6=>aa (zm rfl (an (cg rfl) rfl (zm rfl (zQ hK6 (aC (bQ (qN (j:=109) (off:=5) 26981 (sz:=9) (el:=38) (hE _ rfl) rfl rfl ⟨rfl,rfl,rfl⟩ rfl rfl) ?_))))))))
 refine zL hr h (fun (v7:ab×aj×Int)=>[(0,.ptr 0 0),(1,.agg (fo p0)),(2,I p1),(6,.ptr 106 0),(9,.ptr 109 0),(23,.pv (.sl (List.length y3.1) (aQ.Cs y3.1))),(24,I (List.length y3.1:Int)),(25,I v7.2.2)]) (fun (v7:ab×aj×Int)=>[(0,.box (ah v7.1)),(106,.box [I 0,aY [],I 0,aY [],aY [],Sc (.slice none 0 0),Sc (.slice none 0 0),Sc (.slice none 0 0),I 0]),(109,.box [I v7.2.1.Kind,aY v7.2.1.Text,I v7.2.1.je,aY v7.2.1.bf,aY v7.2.1.bj,.arr 26981 (List.length v7.2.1.aW),Sc (.slice none 0 0),Sc (.slice none 0 0),I v7.2.1.Pos]),(26981,.arr 38 9 (aj.Cs v7.2.1.aW))]) rfl fun _ v7 _ hK9 h=>ag fun _ hK10=>aa (zc rfl (zQ hK10 (ag fun _ hK11=>zB rfl h (fun _ h=>?_) fun _ h=>?_)))
 · refine ar (hK11 _ _ (ag fun _ hK13=>aC (ag fun _ hK14=>aa (ze hr h fun wK h16 h17 h18 h=>an (gx aQ.bb aQ.bP h16 h17 h18 rfl rfl rfl) rfl (an (gN rfl rfl) rfl ?_)))))
   refine aL 111 (hE _ rfl) ⟨rfl,rfl,rfl,rfl⟩ rfl ?_
   refine zs rfl (zQ hK14 (ag fun _ hK19=>aa (zm rfl (zd hr h fun hg20 h=>zo hg20 rfl (zf rfl (zl rfl (zd hr h fun hg21 h=>zo hg21 rfl (za rfl (zQ hK19 (ag fun _ hK22=>ag fun _ hK23=>aa (zf rfl (zl rfl (an (eG rfl) rfl (zQ hK23 (zB rfl h (fun _ h=>?_) fun _ h=>?_)))))))))))))))
   · refine ag fun _ hK25=>aa (zf rfl (zl rfl (zf rfl (zl rfl (zm rfl (an (bE rfl rfl rfl) rfl ?_))))))
     refine bR [(aj.mk 4 wK.Text 0 [] [] [] [] [] ((p1+1)+wK.Pos))] aj.bb ⟨rfl,rfl⟩ rfl ?_
     refine zd hr h fun hg26 h=>sq 144 ⟨jH.h,eu.h,aj.bb,aj.bP,aj.iS,hE _ rfl,rfl,rfl,(.inl rfl),⟨rfl,rfl,rfl⟩,hg26⟩ rfl ?_
     refine zf rfl (zs rfl (aS (iR 144 26981 [(0,.ptr 0 0),(1,.agg (fo p0)),(2,I p1),(6,.ptr 106 0),(9,.ptr 109 0),(11,.ptr 111 0),(12,I ((p1+1)+wK.Pos)),(23,.pv (.sl (List.length y3.1) (aQ.Cs y3.1))),(24,I (List.length y3.1:Int)),(25,I v7.2.2)] [(0,.box (ah v7.1)),(106,.box [I 0,aY [],I 0,aY [],aY [],Sc (.slice none 0 0),Sc (.slice none 0 0),Sc (.slice none 0 0),I 0]),(109,.box [I v7.2.1.Kind,aY v7.2.1.Text,I v7.2.1.je,aY v7.2.1.bf,aY v7.2.1.bj,.arr 26981 (List.length (v7.2.1.aW++[(aj.mk 4 wK.Text 0 [] [] [] [] [] ((p1+1)+wK.Pos))])),Sc (.slice none 0 0),Sc (.slice none 0 0),I v7.2.1.Pos]),(111,.box [aY wK.Text,Bo wK.Code,I wK.Pos])] (hE _ rfl) rfl rfl ⟨rfl,rfl⟩ ⟨⟨_,rfl,rfl,rfl⟩,⟨_,rfl,rfl,rfl⟩,⟨_,rfl,rfl,rfl⟩,⟨_,rfl,rfl,rfl⟩,⟨_,rfl,rfl,rfl⟩,⟨_,rfl,rfl,rfl⟩,⟨_,rfl,rfl,rfl⟩,⟨_,rfl,rfl,rfl⟩,⟨_,rfl,rfl,rfl⟩,⟨_,rfl,rfl,rfl⟩,trivial⟩ ⟨⟨_,rfl,rfl,rfl,rfl,rfl⟩,⟨_,rfl,rfl,rfl,rfl,rfl⟩,⟨_,rfl,rfl,rfl,rfl,rfl⟩,⟨_,rfl,rfl,rfl,rfl,rfl⟩,trivial⟩) ?_))
     exact zQ hK25 (bp (hK13 _ _ (aa (zd hr h fun hg27 h=>zo hg27 rfl (zm rfl (ao (hK9 _ _ _ h rfl)))))))
   · refine ar (hK22 _ _ (ag fun _ hK28=>aa (zf rfl (zl rfl (zm rfl (zk hp hr h [] Tryz.call298 (hT.fF wK.Text ((p1+1)+wK.Pos)) rfl (fun _=>rfl) fun y29 h=>zm rfl (zx rfl (zx rfl (aL 113 (hE _ rfl) ⟨rfl,rfl,rfl,rfl⟩ rfl ?_)))))))))
     refine zs rfl (za rfl (zQ hK28 (ag fun _ hK30=>ag fun _ hK31=>aa (zm rfl (an (eG rfl) rfl (zQ hK31 (zB rfl h (fun _ h=>?_) fun _ h=>?_)))))))
     · refine aa (zm rfl (zm rfl (zk hp hr h [0] Tryz.call77 (iq p1 v7.1) rfl (fun _=>rfl) fun y33 h=>zQ hK30 (aa (zf rfl (zl rfl (zA rfl ?_)))))))
       refine bR [y29.1] aj.bb ⟨rfl,rfl⟩ rfl ?_
       refine zd hr h fun hg34 h=>sq 162 ⟨jH.h,eu.h,aj.bb,aj.bP,aj.iS,hE _ rfl,rfl,rfl,(.inl rfl),⟨rfl,rfl,rfl⟩,hg34⟩ rfl ?_
       refine zf rfl (zs rfl (aS (iR 162 26981 [(0,.ptr 0 0),(1,.agg (fo p0)),(2,I p1),(6,.ptr 106 0),(9,.ptr 109 0),(23,.pv (.sl (List.length y3.1) (aQ.Cs y3.1))),(24,I (List.length y3.1:Int)),(25,I v7.2.2)] [(0,.box (ah y33)),(106,.box [I 0,aY [],I 0,aY [],aY [],Sc (.slice none 0 0),Sc (.slice none 0 0),Sc (.slice none 0 0),I 0]),(109,.box [I v7.2.1.Kind,aY v7.2.1.Text,I v7.2.1.je,aY v7.2.1.bf,aY v7.2.1.bj,.arr 26981 (List.length (v7.2.1.aW++[y29.1])),Sc (.slice none 0 0),Sc (.slice none 0 0),I v7.2.1.Pos])] (hE _ rfl) rfl rfl ⟨rfl,rfl⟩ ⟨⟨_,rfl,rfl,rfl⟩,⟨_,rfl,rfl,rfl⟩,⟨_,rfl,rfl,rfl⟩,⟨_,rfl,rfl,rfl⟩,⟨_,rfl,rfl,rfl⟩,⟨_,rfl,rfl,rfl⟩,⟨_,rfl,rfl,rfl⟩,⟨_,rfl,rfl,rfl⟩,trivial⟩ ⟨⟨_,rfl,rfl,rfl,rfl,rfl⟩,⟨_,rfl,rfl,rfl,rfl,rfl⟩,⟨_,rfl,rfl,rfl,rfl,rfl⟩,trivial⟩) ?_))
       exact zQ hK13 (aa (zd hr h fun hg35 h=>zo hg35 rfl (zm rfl (ao (hK9 _ _ _ h rfl)))))
     · refine ar (hK30 _ _ (aa (zf rfl (zl rfl (zA rfl ?_)))))
       refine bR [y29.1] aj.bb ⟨rfl,rfl⟩ rfl ?_
       refine zd hr h fun hg36 h=>sq 162 ⟨jH.h,eu.h,aj.bb,aj.bP,aj.iS,hE _ rfl,rfl,rfl,(.inl rfl),⟨rfl,rfl,rfl⟩,hg36⟩ rfl ?_
       refine zf rfl (zs rfl (aS (iR 162 26981 [(0,.ptr 0 0),(1,.agg (fo p0)),(2,I p1),(6,.ptr 106 0),(9,.ptr 109 0),(23,.pv (.sl (List.length y3.1) (aQ.Cs y3.1))),(24,I (List.length y3.1:Int)),(25,I v7.2.2)] [(0,.box (ah v7.1)),(106,.box [I 0,aY [],I 0,aY [],aY [],Sc (.slice none 0 0),Sc (.slice none 0 0),Sc (.slice none 0 0),I 0]),(109,.box [I v7.2.1.Kind,aY v7.2.1.Text,I v7.2.1.je,aY v7.2.1.bf,aY v7.2.1.bj,.arr 26981 (List.length (v7.2.1.aW++[y29.1])),Sc (.slice none 0 0),Sc (.slice none 0 0),I v7.2.1.Pos])] (hE _ rfl) rfl rfl ⟨rfl,rfl⟩ ⟨⟨_,rfl,rfl,rfl⟩,⟨_,rfl,rfl,rfl⟩,⟨_,rfl,rfl,rfl⟩,⟨_,rfl,rfl,rfl⟩,⟨_,rfl,rfl,rfl⟩,⟨_,rfl,rfl,rfl⟩,⟨_,rfl,rfl,rfl⟩,⟨_,rfl,rfl,rfl⟩,trivial⟩ ⟨⟨_,rfl,rfl,rfl,rfl,rfl⟩,⟨_,rfl,rfl,rfl,rfl,rfl⟩,⟨_,rfl,rfl,rfl,rfl,rfl⟩,trivial⟩) ?_))
       exact zQ hK13 (aa (zd hr h fun hg37 h=>zo hg37 rfl (zm rfl (ao (hK9 _ _ _ h rfl)))))
 · refine bp (hK5 _ _ (ag fun _ hK38=>aa (aS (po (j:=109) (off:=5) aj.bb aj.bP rfl rfl rfl rfl (hE _ rfl) rfl) ?_)))
   refine zA rfl ?_
   refine zs rfl (zQ hK38 (bQ (jb 106 rfl rfl) ?_))
   exact aw (zX (.cons (aT rfl rfl rfl) .nil) h rfl)
theorem qm (n:Nat) (T:aF) (hT:aV T) (p0:ab):CT Tryz.prog 300 [.ptr 0 0] [.box (ah p0)] (fi n T p0) (fun x=>.agg (aX x.1)) (fun x=>[.box (ah x.2)]):=by
 refine zC Tryz.func300 rfl fun r hp h hr E hE=>ag fun _ hK1=>aa (aL 102 (hE _ rfl) ⟨rfl,rfl,rfl,rfl⟩ rfl ?_)
 refine zQ hK1 (ag fun _ hK2=>aa (zm rfl (zk hp hr h [0] Tryz.call75 (bY n p0) rfl (fun _=>rfl) fun y3 h=>za rfl (zQ hK2 (ag fun _ hK4=>ag fun _ hK5=>aa (zm rfl (zk hp hr h [0] Tryz.call34 (aI n y3.2) rfl (fun _=>rfl) fun y6 h=>zk hp hr h [] Tryz.call56 (gk y6.1 ([102,111,114]:List UInt8)) rfl (fun _=>rfl) fun y7 h=>an (eG rfl) rfl (zQ hK5 (zB rfl h (fun _ h=>?_) fun _ h=>?_)))))))))
 · exact ag fun _ hK9=>aa (zm rfl (zk hp hr h [0] Tryz.call33 (hT.aD false (ab.mk y6.2.text y6.2.bd y6.2.at_ y3.2.base y6.2.skip y6.2.pending)) rfl (fun _=>rfl) fun y10 h=>zs rfl (zQ hK9 (aw (zX (.cons (aT rfl rfl rfl) .nil) h rfl)))))
 · refine ar (hK4 _ _ (ag fun _ hK11=>aa (zm rfl (zk hp hr h [0] Tryz.call158 (gB n ([102,111,114]:List UInt8) (ab.mk y6.2.text y6.2.bd y6.2.at_ y3.2.base y6.2.skip y6.2.pending)) rfl (fun _=>rfl) fun y12 h=>zQ hK11 (ag fun _ hK13=>aa (zm rfl (zk hp hr h [0] Tryz.call157 (ly n y12) rfl (fun _=>rfl) fun y14 h=>zm rfl (an (dm rfl rfl) rfl ?_))))))))
   refine aL 104 (hE _ rfl) ⟨rfl,rfl,rfl,rfl⟩ rfl ?_
   refine zs rfl (zQ hK13 (ag fun _ hK15=>aa (zm rfl (zk hp hr h [0] Tryz.call158 (gB n ([105,110]:List UInt8) y14.2) rfl (fun _=>rfl) fun y16 h=>zQ hK15 (ag fun _ hK17=>bQ (qN (j:=104) (off:=5) 26661 (sz:=9) (el:=38) (hE _ rfl) rfl rfl ⟨rfl,rfl,rfl⟩ rfl rfl) ?_)))))
   refine lY [] ?_
   refine bz [0,1,2,3,4,5,6,7] rfl (by kernel_rfl) (zD rfl (bD rfl) rfl (zD rfl (eW [.any,.any,.any,.any,.any,.arr 26661 (List.length ([]:List aj)),.any,.any,.any] rfl rfl ⟨.inr rfl,.inr rfl,.inr rfl,.inr rfl,.inr rfl,.inl rfl,.inr rfl,.inr rfl,.inr rfl,trivial⟩ rfl) rfl (zD rfl (au rfl) rfl (du rfl (bM rfl) hr h [0] Tryz.call33 (hT.aD false y16) ⟨rfl,rfl,rfl,rfl,rfl,rfl,trivial⟩ rfl rfl (fun _=>⟨rfl,rfl,rfl⟩) (fun _=>⟨rfl,rfl⟩) hp (fun y18 h=>⟨cC ⟨trivial,⟨⟨⟨_,rfl,aZ.eR ⟨.inr rfl,.inr rfl,.inr rfl,.inr rfl,.inr rfl,.inl rfl,.inr rfl,.inr rfl,.inr rfl,trivial⟩⟩,trivial⟩,⟨trivial,trivial⟩⟩⟩,?_⟩)))))
   refine gU [y18.1] aj.bb rfl (bM rfl) ⟨rfl,rfl⟩ ⟨rfl,rfl⟩ ?_
   refine zd hr h fun hg19 h=>mU 126 rfl (bM rfl) ⟨jH.h,eu.h,aj.bb,aj.bP,aj.iS,hE _ rfl,rfl,rfl,(.inl rfl),⟨rfl,rfl,rfl⟩,hg19⟩ rfl rfl ⟨aH rfl,?_⟩
   refine zD rfl (bD rfl) rfl (bV rfl ⟨rfl,rfl,rfl,rfl,rfl,rfl,rfl,rfl⟩ rfl (fun e7 he=>⟨aH rfl,?_⟩))
   subst he
   refine fP (iR 126 26661 [(0,.ptr 0 0),(2,.ptr 102 0),(4,.ptr 104 0)] [(0,.box (ah y18.2)),(102,.box [I 0,aY [],I 0,aY [],aY [],Sc (.slice none 0 0),Sc (.slice none 0 0),Sc (.slice none 0 0),I 0]),(104,.box [I 15,aY [],I 0,aY y14.1.x0,aY y14.1.x1,.arr 26661 (List.length ([]++[y18.1])),Sc (.slice none 0 0),Sc (.slice none 0 0),I y3.1])] (hE _ rfl) rfl rfl ⟨rfl,rfl⟩ ⟨⟨_,rfl,rfl,rfl⟩,⟨_,rfl,rfl,rfl⟩,⟨_,rfl,rfl,rfl⟩,trivial⟩ ⟨⟨_,rfl,rfl,rfl,rfl,rfl⟩,⟨_,rfl,rfl,rfl,rfl,rfl⟩,⟨_,rfl,rfl,rfl,rfl,rfl⟩,trivial⟩) ?_
   refine hK17 _ _ (zM h (fun (v20:ab×aj)=>[(0,.ptr 0 0),(2,.ptr 102 0),(4,.ptr 104 0)]) (fun (v20:ab×aj)=>[(0,.box (ah v20.1)),(102,.box [I 0,aY [],I 0,aY [],aY [],Sc (.slice none 0 0),Sc (.slice none 0 0),Sc (.slice none 0 0),I 0]),(104,.box [I v20.2.Kind,aY v20.2.Text,I v20.2.je,aY v20.2.bf,aY v20.2.bj,.arr 26661 (List.length v20.2.aW),Sc (.slice none 0 0),Sc (.slice none 0 0),I v20.2.Pos]),(26661,.arr 38 9 (aj.Cs v20.2.aW))]) (fun v20 h=>?_) fun _ _ hK22 h=>?_)
   · refine ag fun _ hK23=>aa (zm rfl (zk hp hr h [0] Tryz.call155 (cI n ([58]:List UInt8) v20.1) rfl (fun _=>rfl) fun y24 h=>zQ hK23 (ag fun _ hK25=>lY [] ?_)))
     refine bz [0,1,2,3,4,5,6,7] rfl (by kernel_rfl) (zD rfl (bD rfl) rfl (zD rfl (eW [.any,.any,.any,.any,.any,.arr 26661 (List.length v20.2.aW),.any,.any,.any] rfl rfl ⟨.inr rfl,.inr rfl,.inr rfl,.inr rfl,.inr rfl,.inl rfl,.inr rfl,.inr rfl,.inr rfl,trivial⟩ rfl) rfl (zD rfl (au rfl) rfl (du rfl (bM rfl) hr h [0] Tryz.call33 (hT.aD false y24) ⟨rfl,rfl,rfl,rfl,rfl,rfl,trivial⟩ rfl rfl (fun _=>⟨rfl,rfl,rfl⟩) (fun _=>⟨rfl,rfl⟩) hp (fun y26 h=>⟨cC ⟨trivial,⟨⟨⟨_,rfl,aZ.eR ⟨.inr rfl,.inr rfl,.inr rfl,.inr rfl,.inr rfl,.inl rfl,.inr rfl,.inr rfl,.inr rfl,trivial⟩⟩,trivial⟩,⟨trivial,trivial⟩⟩⟩,?_⟩)))))
     refine gU [y26.1] aj.bb rfl (bM rfl) ⟨rfl,rfl⟩ ⟨rfl,rfl⟩ ?_
     refine zd hr h fun hg27 h=>mU 147 rfl (bM rfl) ⟨jH.h,eu.h,aj.bb,aj.bP,aj.iS,hE _ rfl,rfl,rfl,(.inl rfl),⟨rfl,rfl,rfl⟩,hg27⟩ rfl rfl ⟨aH rfl,?_⟩
     refine zD rfl (bD rfl) rfl (bV rfl ⟨rfl,rfl,rfl,rfl,rfl,rfl,rfl,rfl⟩ rfl (fun e7 he=>⟨aH rfl,?_⟩))
     subst he
     refine fP (iR 147 26661 [(0,.ptr 0 0),(2,.ptr 102 0),(4,.ptr 104 0)] [(0,.box (ah y26.2)),(102,.box [I 0,aY [],I 0,aY [],aY [],Sc (.slice none 0 0),Sc (.slice none 0 0),Sc (.slice none 0 0),I 0]),(104,.box [I v20.2.Kind,aY v20.2.Text,I v20.2.je,aY v20.2.bf,aY v20.2.bj,.arr 26661 (List.length (v20.2.aW++[y26.1])),Sc (.slice none 0 0),Sc (.slice none 0 0),I v20.2.Pos])] (hE _ rfl) rfl rfl ⟨rfl,rfl⟩ ⟨⟨_,rfl,rfl,rfl⟩,⟨_,rfl,rfl,rfl⟩,⟨_,rfl,rfl,rfl⟩,trivial⟩ ⟨⟨_,rfl,rfl,rfl,rfl,rfl⟩,⟨_,rfl,rfl,rfl,rfl,rfl⟩,⟨_,rfl,rfl,rfl,rfl,rfl⟩,trivial⟩) ?_
     refine hK25 _ _ (ag fun _ hK28=>aa (aS (po (j:=104) (off:=5) aj.bb aj.bP rfl rfl rfl rfl (hE _ rfl) rfl) ?_))
     refine zA rfl ?_
     refine zs rfl (zQ hK28 (bQ (jb 102 rfl rfl) ?_))
     exact aw (zX (.cons (aT rfl rfl rfl) .nil) h rfl)
   · refine ag fun _ hK29=>aa (zm rfl (zk hp hr h [0] Tryz.call34 (aI n y18.2) rfl (fun _=>rfl) fun y30 h=>zk hp hr h [] Tryz.call56 (gk y30.1 ([105,102]:List UInt8)) rfl (fun _=>rfl) fun y31 h=>zQ hK29 (zB rfl h (fun _ h=>?_) fun _ h=>?_)))
     · refine ag fun _ hK33=>aa (zm rfl (zk hp hr h [0] Tryz.call158 (gB n ([105,102]:List UInt8) (ab.mk y30.2.text y30.2.bd y30.2.at_ y18.2.base y30.2.skip y30.2.pending)) rfl (fun _=>rfl) fun y34 h=>zQ hK33 (lY [] ?_)))
       refine bz [0,1,2,3,4,5,6,7] rfl (by kernel_rfl) (zD rfl (bD rfl) rfl (zD rfl (eW [.any,.any,.any,.any,.any,.arr 26661 (List.length ([]++[y18.1])),.any,.any,.any] rfl rfl ⟨.inr rfl,.inr rfl,.inr rfl,.inr rfl,.inr rfl,.inl rfl,.inr rfl,.inr rfl,.inr rfl,trivial⟩ rfl) rfl (zD rfl (au rfl) rfl (du rfl (bM rfl) hr h [0] Tryz.call33 (hT.aD false y34) ⟨rfl,rfl,rfl,rfl,rfl,rfl,trivial⟩ rfl rfl (fun _=>⟨rfl,rfl,rfl⟩) (fun _=>⟨rfl,rfl⟩) hp (fun y35 h=>⟨cC ⟨trivial,⟨⟨⟨_,rfl,aZ.eR ⟨.inr rfl,.inr rfl,.inr rfl,.inr rfl,.inr rfl,.inl rfl,.inr rfl,.inr rfl,.inr rfl,trivial⟩⟩,trivial⟩,⟨trivial,trivial⟩⟩⟩,?_⟩)))))
       refine gU [y35.1] aj.bb rfl (bM rfl) ⟨rfl,rfl⟩ ⟨rfl,rfl⟩ ?_
       refine zd hr h fun hg36 h=>mU 138 rfl (bM rfl) ⟨jH.h,eu.h,aj.bb,aj.bP,aj.iS,hE _ rfl,rfl,rfl,(.inl rfl),⟨rfl,rfl,rfl⟩,hg36⟩ rfl rfl ⟨aH rfl,?_⟩
       refine zD rfl (bD rfl) rfl (bV rfl ⟨rfl,rfl,rfl,rfl,rfl,rfl,rfl,rfl⟩ rfl (fun e7 he=>⟨aH rfl,?_⟩))
       subst he
       refine fP (iR 138 26661 [(0,.ptr 0 0),(2,.ptr 102 0),(4,.ptr 104 0)] [(0,.box (ah y35.2)),(102,.box [I 0,aY [],I 0,aY [],aY [],Sc (.slice none 0 0),Sc (.slice none 0 0),Sc (.slice none 0 0),I 0]),(104,.box [I 15,aY [],I 0,aY y14.1.x0,aY y14.1.x1,.arr 26661 (List.length (([]++[y18.1])++[y35.1])),Sc (.slice none 0 0),Sc (.slice none 0 0),I y3.1])] (hE _ rfl) rfl rfl ⟨rfl,rfl⟩ ⟨⟨_,rfl,rfl,rfl⟩,⟨_,rfl,rfl,rfl⟩,⟨_,rfl,rfl,rfl⟩,trivial⟩ ⟨⟨_,rfl,rfl,rfl,rfl,rfl⟩,⟨_,rfl,rfl,rfl,rfl,rfl⟩,⟨_,rfl,rfl,rfl,rfl,rfl⟩,trivial⟩) ?_
       exact hK22 _ _ _ h rfl
     · exact ar (hK22 _ _ _ h rfl)
theorem qn (n:Nat) (T:aF) (hT:aV T) (p0:ab):CT Tryz.prog 279 [.ptr 0 0] [.box (ah p0)] (fj n T p0) (fun x=>.agg (aX x.1)) (fun x=>[.box (ah x.2)]):=by
 refine zC Tryz.func279 rfl fun r hp h hr E hE=>ag fun _ hK1=>aa (dP 101 (hE _ rfl) ⟨rfl,rfl,rfl,rfl,rfl,rfl,rfl⟩ rfl ?_)
 refine aL 102 (hE _ rfl) ⟨rfl,rfl,rfl,rfl⟩ rfl ?_
 refine zQ hK1 (ag fun _ hK2=>aa (zl rfl (zk hp hr h [0] Tryz.call75 (bY n p0) rfl (fun _=>rfl) fun y3 h=>an (dm rfl rfl) rfl ?_)))
 refine aL 103 (hE _ rfl) ⟨rfl,rfl,rfl,rfl⟩ rfl ?_
 refine zs rfl (zQ hK2 (ag fun _ hK4=>aa (zl rfl (zk hp hr h [0] Tryz.call155 (cI n ([91]:List UInt8) y3.2) rfl (fun _=>rfl) fun y5 h=>zQ hK4 (ag fun _ hK6=>aa (zl rfl (an (oO rfl rfl) rfl ?_)))))))
 refine aS (qN (j:=103) (off:=5) 26597 (sz:=9) (el:=38) (hE _ rfl) rfl rfl ⟨rfl,rfl,rfl⟩ rfl rfl) ?_
 refine aS (jb 103 rfl rfl) ?_
 refine iQ hr h [0,101,103,26597] Tryz.call200 (hT.c7 true y5 (aj.mk 14 [] 0 [] [] [] [] [] y3.1)) ⟨rfl,rfl,rfl,rfl,rfl,rfl,⟨hE _ rfl,trivial⟩⟩ rfl (fun _=>⟨rfl,rfl,rfl⟩) (fun _=>⟨rfl,rfl⟩) hp (fun y7 h=>?_)
 refine zQ hK6 (ag fun _ hK8=>aa (zl rfl (zn rfl (zf rfl (zl rfl (zd hr h fun hg9 h=>zo hg9 rfl (zn rfl (zf rfl (zs rfl (zQ hK8 (ag fun _ hK10=>aa (aS (po (j:=103) (off:=5) aj.bb aj.bP rfl rfl rfl rfl (hE _ rfl) rfl) ?_))))))))))))
 refine zA rfl ?_
 exact zs rfl (zQ hK10 (aw (zX (.cons (aT rfl rfl rfl) .nil) h rfl)))
theorem o4 (n:Nat) (T:aF) (hT:aV T) (p0:aj) (p1:ab):CT Tryz.prog 299 [.ptr 0 0,.ptr 1 0] [.box [.ptr 2 0],.box [I p0.Kind,aY p0.Text,I p0.je,aY p0.bf,aY p0.bj,.arr 3 (List.length p0.aW),.pv (.sl (List.length p0.Decls) (ax.Cs p0.Decls)),.pv (.sl (List.length p0.cd) (bX p0.cd)),I p0.Pos],.box (ah p1),.arr 38 9 (aj.Cs p0.aW)] (eE n T p0 p1) (fun _=>.fH []) (fun x=>[.box [.ptr 2 0],.box [I x.1.Kind,aY x.1.Text,I x.1.je,aY x.1.bf,aY x.1.bj,.arr 3 (List.length x.1.aW),.pv (.sl (List.length x.1.Decls) (ax.Cs x.1.Decls)),.pv (.sl (List.length x.1.cd) (bX x.1.cd)),I x.1.Pos],.box (ah x.2),.arr 38 9 (aj.Cs x.1.aW)]):=by
 refine zC Tryz.func299 rfl fun r hp h hr E hE=>ag fun _ hK1=>ag fun _ hK2=>aa (za rfl (zQ hK2 (aC (zL hr h (fun (v3:aj×ab×Bool)=>[(0,.ptr 0 0),(1,.ptr 1 0),(2,Bo v3.2.2)]) (fun (v3:aj×ab×Bool)=>[(0,.box [.ptr 2 0]),(1,.box [I v3.1.Kind,aY v3.1.Text,I v3.1.je,aY v3.1.bf,aY v3.1.bj,.arr 3 (List.length v3.1.aW),.pv (.sl (List.length v3.1.Decls) (ax.Cs v3.1.Decls)),.pv (.sl (List.length v3.1.cd) (bX v3.1.cd)),I v3.1.Pos]),(2,.box (ah v3.2.1)),(3,.arr 38 9 (aj.Cs v3.1.aW))]) rfl fun _ v3 _ hK5 h=>ag fun _ hK6=>ag fun _ hK7=>aa (zl rfl (zk hp hr h [2] Tryz.call34 (aI n v3.2.1) rfl (fun _=>rfl) fun y8 h=>zk hp hr h [] Tryz.call72 (cu y8.1 ([93]:List UInt8)) rfl (fun _=>rfl) fun y9 h=>an (eG rfl) rfl (zQ hK7 (zB rfl h (fun _ h=>?_) fun _ h=>?_))))))))
 · refine ar (hK6 _ _ (ag fun _ hK11=>aC (zM h (fun (v12:ab)=>[(0,.ptr 0 0),(1,.ptr 1 0)]) (fun (v12:ab)=>[(0,.box [.ptr 2 0]),(1,.box [I v3.1.Kind,aY v3.1.Text,I v3.1.je,aY v3.1.bf,aY v3.1.bj,.arr 3 (List.length v3.1.aW),.pv (.sl (List.length v3.1.Decls) (ax.Cs v3.1.Decls)),.pv (.sl (List.length v3.1.cd) (bX v3.1.cd)),I v3.1.Pos]),(2,.box (ah v12)),(3,.arr 38 9 (aj.Cs v3.1.aW))]) (fun v12 h=>?_) fun _ _ hK14 h=>?_)))
   · refine ag fun _ hK15=>aa (zl rfl (zk hp hr h [2] Tryz.call75 (bY n v12) rfl (fun _=>rfl) fun y16 h=>za rfl (zQ hK15 (ag fun _ hK17=>ag fun _ hK18=>aa (zl rfl (zk hp hr h [2] Tryz.call76 (cU n ([46,46,46]:List UInt8) y16.2) rfl (fun _=>rfl) fun y19 h=>zQ hK18 (zB rfl h (fun _ h=>?_) fun _ h=>?_)))))))
     · refine ag fun _ hK21=>aa (zf rfl (zs rfl (zQ hK21 (ag fun _ hK22=>aa (zm rfl (an (dm rfl rfl) rfl ?_))))))
       refine aL 104 (hE _ rfl) ⟨rfl,rfl,rfl,rfl⟩ rfl ?_
       refine zs rfl (zQ hK22 (zM h (fun (v23:ab×aj)=>[(0,.ptr 0 0),(1,.ptr 1 0),(4,.ptr 104 0)]) (fun (v23:ab×aj)=>[(0,.box [.ptr 2 0]),(1,.box [I v3.1.Kind,aY v3.1.Text,I 1,aY v3.1.bf,aY v3.1.bj,.arr 3 (List.length v3.1.aW),.pv (.sl (List.length v3.1.Decls) (ax.Cs v3.1.Decls)),.pv (.sl (List.length v3.1.cd) (bX v3.1.cd)),I v3.1.Pos]),(2,.box (ah v23.1)),(104,.box (aX v23.2)),(3,.arr 38 9 (aj.Cs v3.1.aW))]) (fun v23 h=>?_) fun _ _ hK25 h=>?_))
       · refine ag fun _ hK26=>lY [] ?_
         refine oL [0,1,2,3,4,5,6,8] 7 9 rfl (by kernel_rfl) ?_
         refine zD rfl (bD rfl) rfl (zD rfl (ba rfl rfl rfl) rfl (zD rfl (jy rfl rfl rfl rfl) rfl ?_))
         refine zD rfl (lV rfl) rfl (sY [(aj.mk 0 ([]:List UInt8) 0 ([]:List UInt8) ([]:List UInt8) [] [] [] 0)] aj.bb rfl (bM rfl) ⟨rfl,rfl,rfl⟩ ⟨rfl,rfl⟩ ?_)
         refine zd hr h fun hg27 h=>mU 131 rfl (bM rfl) ⟨jH.h,eu.h,aj.bb,aj.bP,aj.iS,hE _ rfl,rfl,rfl,(.inl rfl),⟨rfl,rfl,rfl⟩,hg27⟩ rfl rfl ⟨aH rfl,?_⟩
         refine zD rfl (lU rfl rfl (Int.natCast_nonneg _) (ru _ _)) rfl (zD rfl (bD rfl) rfl (rv ?_ ?_))
         · refine mw v3.1.aW rfl (⟨aj.bb,aj.bP,Int.natCast_nonneg _,jA _ _,rfl,rfl,rfl,rfl,rfl,ls.h,rfl,rfl,rfl⟩:u6 _ _ _ _ _ _ _ _ _ 0 _ _ _ _ _ _ v23.2 _ (aj.C v23.2)) rfl ⟨aH rfl,?_⟩
           refine bV rfl ⟨rfl,rfl,rfl,rfl,rfl,rfl,rfl,rfl⟩ rfl (fun e9 he=>⟨aH rfl,?_⟩)
           subst he
           refine fP (eH.trans (mx 1 5 (m':=List.length (v3.1.aW++[v23.2])) rfl rfl (by simp) rfl) (iR 131 3 [(0,.ptr 0 0),(1,.ptr 1 0)] [(0,.box [.ptr 2 0]),(1,.box [I v3.1.Kind,aY v3.1.Text,I 1,aY v3.1.bf,aY v3.1.bj,.arr 3 (List.length (v3.1.aW++[v23.2])),.pv (.sl (List.length v3.1.Decls) (ax.Cs v3.1.Decls)),.pv (.sl (List.length v3.1.cd) (bX v3.1.cd)),I v3.1.Pos]),(2,.box (ah v23.1))] (hE _ rfl) rfl rfl ⟨rfl,rfl⟩ ⟨⟨_,rfl,rfl,rfl⟩,⟨_,rfl,rfl,rfl⟩,trivial⟩ ⟨⟨_,rfl,rfl,rfl,rfl,rfl⟩,⟨_,rfl,rfl,rfl,rfl,rfl⟩,⟨_,rfl,rfl,rfl,rfl,rfl⟩,trivial⟩)) ?_
           exact hK26 _ _ (bp (hK1 _ _ (aa (zl rfl (zk hp hr h [2] Tryz.call202 (da n ([93]:List UInt8) v23.1) rfl (fun _=>rfl) fun y28 h=>ao (zY .nil h rfl))))))
         · refine bV rfl ⟨rfl,rfl,rfl,rfl,rfl,rfl,rfl,rfl⟩ rfl (fun e8 he=>⟨aH rfl,?_⟩)
           subst he
           refine mw v3.1.aW rfl (⟨aj.bb,aj.bP,Int.natCast_nonneg _,jA _ _,rfl,rfl,rfl,rfl,rfl,ls.h,rfl,rfl,rfl⟩:u6 _ _ _ _ _ _ _ _ _ 0 _ _ _ _ _ _ v23.2 _ (aj.C v23.2)) rfl ⟨aH rfl,?_⟩
           refine fP (eH.trans (mx 1 5 (m':=List.length (v3.1.aW++[v23.2])) rfl rfl (by simp) rfl) (iR 131 3 [(0,.ptr 0 0),(1,.ptr 1 0)] [(0,.box [.ptr 2 0]),(1,.box [I v3.1.Kind,aY v3.1.Text,I 1,aY v3.1.bf,aY v3.1.bj,.arr 3 (List.length (v3.1.aW++[v23.2])),.pv (.sl (List.length v3.1.Decls) (ax.Cs v3.1.Decls)),.pv (.sl (List.length v3.1.cd) (bX v3.1.cd)),I v3.1.Pos]),(2,.box (ah v23.1))] (hE _ rfl) rfl rfl ⟨rfl,rfl⟩ ⟨⟨_,rfl,rfl,rfl⟩,⟨_,rfl,rfl,rfl⟩,trivial⟩ ⟨⟨_,rfl,rfl,rfl,rfl,rfl⟩,⟨_,rfl,rfl,rfl,rfl,rfl⟩,⟨_,rfl,rfl,rfl,rfl,rfl⟩,trivial⟩)) ?_
           exact hK26 _ _ (bp (hK1 _ _ (aa (zl rfl (zk hp hr h [2] Tryz.call202 (da n ([93]:List UInt8) v23.1) rfl (fun _=>rfl) fun y29 h=>ao (zY .nil h rfl))))))
       · refine ag fun _ hK30=>aa (zl rfl (zk hp hr h [2] Tryz.call34 (aI n y19.2) rfl (fun _=>rfl) fun y31 h=>zk hp hr h [] Tryz.call72 (cu y31.1 ([93]:List UInt8)) rfl (fun _=>rfl) fun y32 h=>an (eG rfl) rfl (zQ hK30 (zB rfl h (fun _ h=>?_) fun _ h=>?_))))
         · exact aa (zl rfl (zk hp hr h [2] Tryz.call33 (hT.aD false (ab.mk y31.2.text y31.2.bd y31.2.at_ y19.2.base y31.2.skip y31.2.pending)) rfl (fun _=>rfl) fun y34 h=>zs rfl (ao (hK25 _ _ _ h rfl))))
         · refine bQ (gg 104 5 rfl rfl rfl) ?_
           refine bQ (gg 104 6 rfl rfl rfl) ?_
           refine bQ (gg 104 7 rfl rfl rfl) ?_
           exact ar (hK25 _ _ _ h rfl)
     · refine ar (hK17 _ _ (lY [] ?_))
       refine oL [0,1,2,4,5,3,6,7,9] 8 10 rfl (by kernel_rfl) ?_
       refine zD rfl (bD rfl) rfl (zD rfl (eW [.any,.any,.any,.any,.any,.arr 3 (List.length v3.1.aW),.any,.any,.any] rfl rfl ⟨.inr rfl,.inr rfl,.inr rfl,.inr rfl,.inr rfl,.inl rfl,.inr rfl,.inr rfl,.inr rfl,trivial⟩ rfl) rfl (zD rfl (ba rfl rfl rfl) rfl (zD rfl (lV rfl) rfl (sY [(aj.mk 0 ([]:List UInt8) 0 ([]:List UInt8) ([]:List UInt8) [] [] [] 0)] aj.bb rfl (bM rfl) ⟨rfl,rfl,rfl⟩ ⟨rfl,rfl⟩ ?_))))
       refine du rfl (bM rfl) hr h [2] Tryz.call300 (hT.cR y19.2) ⟨rfl,rfl,rfl,rfl,rfl,rfl,trivial⟩ rfl rfl (fun _=>⟨rfl,rfl,rfl⟩) (fun _=>⟨rfl,rfl⟩) hp (fun y35 h=>⟨cC ⟨trivial,⟨trivial,⟨trivial,⟨⟨⟨_,rfl,aZ.eR ⟨.inr rfl,.inr rfl,.inr rfl,.inr rfl,.inr rfl,.inl rfl,.inr rfl,.inr rfl,.inr rfl,trivial⟩⟩,trivial⟩,⟨trivial,trivial⟩⟩⟩⟩⟩,?_⟩)
       refine zd hr h fun hg36 h=>mU 140 rfl (bM rfl) ⟨jH.h,eu.h,aj.bb,aj.bP,aj.iS,hE _ rfl,rfl,rfl,(.inl rfl),⟨rfl,rfl,rfl⟩,hg36⟩ rfl rfl ⟨aH rfl,?_⟩
       refine zD rfl (lU rfl rfl (Int.natCast_nonneg _) (ru _ _)) rfl (zD rfl (bD rfl) rfl (rv ?_ ?_))
       · refine mw v3.1.aW rfl (⟨aj.bb,aj.bP,Int.natCast_nonneg _,jA _ _,rfl,rfl,rfl,rfl,rfl,ls.h,rfl,rfl,rfl⟩:u6 _ _ _ _ _ _ _ _ _ 0 _ _ _ _ _ _ y35.1 _ (aj.C y35.1)) rfl ⟨aH rfl,?_⟩
         refine bV rfl ⟨rfl,rfl,rfl,rfl,rfl,rfl,rfl,rfl⟩ rfl (fun e10 he=>⟨aH rfl,?_⟩)
         subst he
         refine fP (eH.trans (mx 1 5 (m':=List.length (v3.1.aW++[y35.1])) rfl rfl (by simp) rfl) (iR 140 3 [(0,.ptr 0 0),(1,.ptr 1 0)] [(0,.box [.ptr 2 0]),(1,.box [I v3.1.Kind,aY v3.1.Text,I v3.1.je,aY v3.1.bf,aY v3.1.bj,.arr 3 (List.length (v3.1.aW++[y35.1])),.pv (.sl (List.length v3.1.Decls) (ax.Cs v3.1.Decls)),.pv (.sl (List.length v3.1.cd) (bX v3.1.cd)),I v3.1.Pos]),(2,.box (ah y35.2))] (hE _ rfl) rfl rfl ⟨rfl,rfl⟩ ⟨⟨_,rfl,rfl,rfl⟩,⟨_,rfl,rfl,rfl⟩,trivial⟩ ⟨⟨_,rfl,rfl,rfl,rfl,rfl⟩,⟨_,rfl,rfl,rfl,rfl,rfl⟩,⟨_,rfl,rfl,rfl,rfl,rfl⟩,trivial⟩)) ?_
         exact hK11 _ _ (aa (za rfl (ao (hK5 _ _ _ h rfl))))
       · refine bV rfl ⟨rfl,rfl,rfl,rfl,rfl,rfl,rfl,rfl⟩ rfl (fun e9 he=>⟨aH rfl,?_⟩)
         subst he
         refine mw v3.1.aW rfl (⟨aj.bb,aj.bP,Int.natCast_nonneg _,jA _ _,rfl,rfl,rfl,rfl,rfl,ls.h,rfl,rfl,rfl⟩:u6 _ _ _ _ _ _ _ _ _ 0 _ _ _ _ _ _ y35.1 _ (aj.C y35.1)) rfl ⟨aH rfl,?_⟩
         refine fP (eH.trans (mx 1 5 (m':=List.length (v3.1.aW++[y35.1])) rfl rfl (by simp) rfl) (iR 140 3 [(0,.ptr 0 0),(1,.ptr 1 0)] [(0,.box [.ptr 2 0]),(1,.box [I v3.1.Kind,aY v3.1.Text,I v3.1.je,aY v3.1.bf,aY v3.1.bj,.arr 3 (List.length (v3.1.aW++[y35.1])),.pv (.sl (List.length v3.1.Decls) (ax.Cs v3.1.Decls)),.pv (.sl (List.length v3.1.cd) (bX v3.1.cd)),I v3.1.Pos]),(2,.box (ah y35.2))] (hE _ rfl) rfl rfl ⟨rfl,rfl⟩ ⟨⟨_,rfl,rfl,rfl⟩,⟨_,rfl,rfl,rfl⟩,trivial⟩ ⟨⟨_,rfl,rfl,rfl,rfl,rfl⟩,⟨_,rfl,rfl,rfl,rfl,rfl⟩,⟨_,rfl,rfl,rfl,rfl,rfl⟩,trivial⟩)) ?_
         exact hK11 _ _ (aa (za rfl (ao (hK5 _ _ _ h rfl))))
   · refine ag fun _ hK37=>aa (zm rfl (an (eG rfl) rfl (zQ hK37 (zB rfl h (fun _ h=>?_) fun _ h=>?_))))
     · exact aa (zl rfl (zk hp hr h [2] Tryz.call155 (cI n ([44]:List UInt8) (ab.mk y8.2.text y8.2.bd y8.2.at_ v3.2.1.base y8.2.skip y8.2.pending)) rfl (fun _=>rfl) fun y39 h=>ao (hK14 _ _ _ h rfl)))
     · exact ar (hK14 _ _ _ h rfl)
 · exact bp (hK1 _ _ (aa (zl rfl (zk hp hr h [2] Tryz.call202 (da n ([93]:List UInt8) (ab.mk y8.2.text y8.2.bd y8.2.at_ v3.2.1.base y8.2.skip y8.2.pending)) rfl (fun _=>rfl) fun y40 h=>ao (zY .nil h rfl)))))
theorem pI (n:Nat) (T:aF) (hT:aV T) (p0:ab):CT Tryz.prog 276 [.ptr 0 0] [.box (ah p0)] (eO n T p0) (fun x=>.agg (aX x.1)) (fun x=>[.box (ah x.2)]):=by
 refine zC Tryz.func276 rfl fun r hp h hr E hE=>ag fun _ hK1=>aa (aL 102 (hE _ rfl) ⟨rfl,rfl,rfl,rfl⟩ rfl ?_)
 refine zQ hK1 (ag fun _ hK2=>aa (zm rfl (zk hp hr h [0] Tryz.call34 (aI n p0) rfl (fun _=>rfl) fun y3 h=>zm rfl (zk hp hr h [0] Tryz.call75 (bY n (ab.mk y3.2.text y3.2.bd y3.2.at_ p0.base y3.2.skip y3.2.pending)) rfl (fun _=>rfl) fun y4 h=>aL 103 (hE _ rfl) ⟨rfl,rfl,rfl,rfl⟩ rfl ?_))))
 refine zs rfl (za rfl (zQ hK2 (ag fun _ hK5=>aa (zm rfl (an (dm rfl rfl) rfl ?_)))))
 refine aL 105 (hE _ rfl) ⟨rfl,rfl,rfl,rfl⟩ rfl ?_
 refine zs rfl (zQ hK5 (zM h (fun (v6:aj)=>[(0,.ptr 0 0),(2,.ptr 102 0),(5,.ptr 105 0)]) (fun (v6:aj)=>[(0,.box (ah y4.2)),(102,.box [I 0,aY [],I 0,aY [],aY [],Sc (.slice none 0 0),Sc (.slice none 0 0),Sc (.slice none 0 0),I 0]),(105,.box [I v6.Kind,aY v6.Text,I v6.je,aY v6.bf,aY v6.bj,Sc (.slice none 0 0),Sc (.slice none 0 0),Sc (.slice none 0 0),I v6.Pos])]) (fun v6 h=>?_) fun _ _ hK8 h=>?_))
 · refine ag fun _ hK9=>aa (zm rfl (zn rfl (zf rfl (zl rfl (zd hr h fun hg10 h=>zo hg10 rfl (zn rfl (zf rfl (zs rfl (zQ hK9 (ag fun _ hK11=>aa (zA rfl ?_)))))))))))
   refine zs rfl (zQ hK11 (bQ (jb 102 rfl rfl) ?_))
   exact aw (zX (.cons (aT rfl rfl rfl) .nil) h rfl)
 · refine ag fun _ hK12=>aa (zf rfl (zl rfl (zQ hK12 (aC (ag fun _ hK13=>aa (an (iE rfl rfl) rfl (za rfl (zQ hK13 (zB rfl h (fun _ h=>?_) fun _ h=>?_)))))))))
   · exact aa (zf rfl (zs rfl (ao (hK8 _ _ _ h rfl))))
   · refine zM h (fun (v15:Bool)=>[(0,.ptr 0 0),(2,.ptr 102 0),(3,.ptr 103 0),(5,.ptr 105 0),(13,aY y3.1.Text),(29,Bo v15)]) (fun (v15:Bool)=>[(0,.box (ah y4.2)),(102,.box [I 0,aY [],I 0,aY [],aY [],Sc (.slice none 0 0),Sc (.slice none 0 0),Sc (.slice none 0 0),I 0]),(103,.box (fo y3.1)),(105,.box [I 0,aY [],I 0,aY [],aY [],Sc (.slice none 0 0),Sc (.slice none 0 0),Sc (.slice none 0 0),I y4.1])]) (fun v15 h=>?_) fun _ _ hK17 h=>?_
     · refine zB rfl h (fun _ h=>?_) fun _ h=>?_
       · refine ag fun _ hK19=>aa (zf rfl (zs rfl (zQ hK19 (ag fun _ hK20=>aa (zf rfl (zl rfl (an (iE rfl rfl) rfl (zQ hK20 (zB rfl h (fun _ h=>?_) fun _ h=>?_)))))))))
         · exact aa (zf rfl (zs rfl (ao (hK8 _ _ _ h rfl))))
         · exact ar (hK8 _ _ _ h rfl)
       · refine zM h (fun (v22:Bool)=>[(0,.ptr 0 0),(2,.ptr 102 0),(3,.ptr 103 0),(5,.ptr 105 0),(37,Bo v22)]) (fun (v22:Bool)=>[(0,.box (ah y4.2)),(102,.box [I 0,aY [],I 0,aY [],aY [],Sc (.slice none 0 0),Sc (.slice none 0 0),Sc (.slice none 0 0),I 0]),(103,.box (fo y3.1)),(105,.box [I 0,aY [],I 0,aY [],aY [],Sc (.slice none 0 0),Sc (.slice none 0 0),Sc (.slice none 0 0),I y4.1])]) (fun v22 h=>?_) fun _ _ hK24 h=>?_
         · refine zB rfl h (fun _ h=>?_) fun _ h=>?_
           · refine bz [0,1,2,3,4,5] rfl (by kernel_rfl) (zD rfl (bD rfl) rfl (zD rfl (eW [.any,aY y3.1.Text,.any,.any] rfl rfl ⟨.inr rfl,.inl rfl,.inr rfl,.inr rfl,trivial⟩ rfl) rfl (zD rfl (bD rfl) rfl (bV rfl ⟨rfl,rfl,rfl,rfl,rfl,rfl,rfl,rfl⟩ rfl (fun e3 he=>⟨cC ⟨trivial,⟨⟨⟨_,rfl,aZ.eR ⟨.inr rfl,.inl rfl,.inr rfl,.inr rfl,trivial⟩⟩,trivial⟩,⟨trivial,trivial⟩⟩⟩,?_⟩)))))
             subst he
             refine zD rfl (bD rfl) rfl (bV rfl ⟨rfl,rfl,rfl,rfl,rfl,rfl,rfl,rfl⟩ rfl (fun e5 he=>⟨aH rfl,?_⟩))
             subst he
             exact cr (hK8 _ _ _ h rfl)
           · refine ag fun _ hK26=>aa (zm rfl (zk hp hr h [0] Tryz.call57 (fD n y4.2) rfl (fun _=>rfl) fun y27 h=>zf rfl (zs rfl (zf rfl (zs rfl (zQ hK26 (ag fun _ hK28=>ag fun _ hK29=>aa (zm rfl (zk hp hr h [0] Tryz.call34 (aI n y27.2) rfl (fun _=>rfl) fun y30 h=>zk hp hr h [] Tryz.call72 (cu y30.1 ([40]:List UInt8)) rfl (fun _=>rfl) fun y31 h=>zQ hK29 (zB rfl h (fun _ h=>?_) fun _ h=>?_))))))))))
             · refine ag fun _ hK33=>aa (zf rfl (zs rfl (zQ hK33 (aa (zm rfl (zk hp hr h [0] Tryz.call297 (hT.cQ (ab.mk y30.2.text y30.2.bd y30.2.at_ y27.2.base y30.2.skip y30.2.pending)) rfl (fun _=>rfl) fun y34 h=>zf rfl (zs rfl (zQ hK28 (ag fun _ hK35=>aa (zA rfl ?_))))))))))
               refine zs rfl (zQ hK35 (bQ (jb 102 rfl rfl) ?_))
               exact aw (zX (.cons (aT rfl rfl rfl) .nil) h rfl)
             · refine ar (hK28 _ _ (ag fun _ hK36=>aa (zA rfl ?_)))
               refine zs rfl (zQ hK36 (bQ (jb 102 rfl rfl) ?_))
               exact aw (zX (.cons (aT rfl rfl rfl) .nil) h rfl)
         · refine ag fun _ hK37=>aa (an (iE rfl rfl) rfl (za rfl (zQ hK37 (zB rfl h (fun _ h=>?_) fun _ h=>?_))))
           · exact ar (hK24 _ _ _ h rfl)
           · refine ag fun _ hK39=>aa (an (iE rfl rfl) rfl (za rfl (zQ hK39 (zB rfl h (fun _ h=>?_) fun _ h=>?_))))
             · exact ar (hK24 _ _ _ h rfl)
             · refine ag fun _ hK41=>aa (an (iE rfl rfl) rfl (za rfl (zQ hK41 (zB rfl h (fun _ h=>?_) fun _ h=>?_))))
               · exact ar (hK24 _ _ _ h rfl)
               · exact aa (an (iE rfl rfl) rfl (za rfl (ao (hK24 _ _ _ h rfl))))
     · refine ag fun _ hK43=>aa (an (iE rfl rfl) rfl (za rfl (zQ hK43 (zB rfl h (fun _ h=>?_) fun _ h=>?_))))
       · exact ar (hK17 _ _ _ h rfl)
       · exact aa (an (iE rfl rfl) rfl (za rfl (ao (hK17 _ _ _ h rfl))))
theorem o5 (n:Nat) (T:aF) (hT:aV T) (p0:Bool) (p1:ab):CT Tryz.prog 204 [.ptr 0 0,Bo p0] [.box (ah p1)] (eF n T p0 p1) (fun x=>.agg (aX x.1)) (fun x=>[.box (ah x.2)]):=by
 refine zC Tryz.func204 rfl fun r hp h hr E hE=>ag fun _ hK1=>aa (dP 102 (hE _ rfl) ⟨rfl,rfl,rfl,rfl,rfl,rfl,rfl⟩ rfl ?_)
 refine dP 103 (hE _ rfl) ⟨rfl,rfl,rfl,rfl,rfl,rfl,rfl⟩ rfl ?_
 refine aL 104 (hE _ rfl) ⟨rfl,rfl,rfl,rfl⟩ rfl ?_
 refine zQ hK1 (ag fun _ hK2=>aa (zl rfl (zk hp hr h [0] Tryz.call155 (cI n ([40]:List UInt8) p1) rfl (fun _=>rfl) fun y3 h=>zQ hK2 (ag fun _ hK4=>aa (aL 105 (hE _ rfl) ⟨rfl,rfl,rfl,rfl⟩ rfl ?_)))))
 refine zQ hK4 (ag fun _ hK5=>aa (zl rfl (an (oO rfl rfl) rfl ?_)))
 refine aS (jb 105 rfl rfl) ?_
 refine zk hp hr h [0,102,103,105] Tryz.call200 (hT.c6 true y3 p0 (aj.mk 0 [] 0 [] [] [] [] [] 0)) rfl (fun _=>rfl) fun y6 h=>zQ hK5 (ag fun _ hK7=>aa (zl rfl (zn rfl (zf rfl (zl rfl (zd hr h fun hg8 h=>zo hg8 rfl (zn rfl (zf rfl (zs rfl (zQ hK7 (ag fun _ hK9=>aa (zA rfl ?_))))))))))))
 exact zs rfl (zQ hK9 (aw (zX (.cons (aT rfl rfl rfl) .nil) h rfl)))
theorem nQ (n:Nat) (T:aF) (hT:aV T) (p0:Bool) (p1:aj) (p2:ab):CT Tryz.prog 237 [.ptr 0 0,.ptr 1 0,.ptr 2 0] [.box [.ptr 3 0],.box [Bo p0],.box (aX p1),.box (ah p2)] (dS n T p0 p1 p2) (fun _=>.fH []) (fun x=>[.box [.ptr 3 0],.box [Bo x.1],.box (aX x.2.1),.box (ah x.2.2)]):=by
 exact zC Tryz.func237 rfl fun r hp h hr E hE=>ag fun _ hK1=>aa (zl rfl (zl rfl (zk hp hr h [3] Tryz.call33 (hT.aD p0 p2) rfl (fun _=>rfl) fun y2 h=>zs rfl (zQ hK1 (aa (zl rfl (zk hp hr h [3] Tryz.call202 (da n ([41]:List UInt8) y2.2) rfl (fun _=>rfl) fun y3 h=>ao (zY .nil h rfl))))))))
theorem ow (n:Nat) (T:aF) (hT:aV T) (p0:Bool) (p1:ab) (p2:ax):CT Tryz.prog 154 [.ptr 0 0,.ptr 1 0,Bo p0] [.box (ah p1),.box (dp p2)] (ei n T p0 p1 p2) (fun _=>.fH []) (fun x=>[.box (ah x.1),.box (dp x.2)]):=by
 refine zC Tryz.func154 rfl fun r hp h hr E hE=>?_
 refine ag fun _ hK1=>?_
 refine aa ?_
 refine dP 103 (hE _ rfl) ⟨rfl,rfl,rfl,rfl,rfl,rfl,rfl⟩ rfl ?_
 refine dP 104 (hE _ rfl) ⟨rfl,rfl,rfl,rfl,rfl,rfl,rfl⟩ rfl ?_
 refine zQ hK1 ?_
 refine ag fun _ hK2=>?_
 refine bz [0,1,2,3,4,5,6,7] rfl (by kernel_rfl) ?_
 refine zD rfl (ba rfl rfl rfl) rfl ?_
 refine zD rfl (eW [.ptr 1 0] rfl rfl ⟨.inl rfl,trivial⟩ rfl) rfl ?_
 refine zD rfl (cP rfl) rfl ?_
 refine zD rfl (bD rfl) rfl ?_
 refine bV rfl ⟨rfl,rfl,rfl,rfl,rfl,rfl,rfl,rfl⟩ rfl (fun e4 he=>⟨cC ⟨trivial,⟨trivial,⟨⟨⟨_,rfl,aZ.eR ⟨.inl rfl,trivial⟩⟩,trivial⟩,⟨trivial,trivial⟩⟩⟩⟩,?_⟩)
 subst he
 refine zD rfl (cP rfl) rfl ?_
 refine zD rfl (bD rfl) rfl ?_
 refine bV rfl ⟨rfl,rfl,rfl,rfl,rfl,rfl,rfl,rfl⟩ rfl (fun e7 he=>⟨aH rfl,?_⟩)
 subst he
 refine cr ?_
 refine hK2 _ _ ?_
 refine ag fun _ hK3=>?_
 refine aa ?_
 refine zl rfl ?_
 refine zk hp hr h [0] Tryz.call155 (cI n ([91]:List UInt8) p1) rfl (fun _=>rfl) fun y4 h=>?_
 refine zQ hK3 ?_
 refine ag fun _ hK5=>?_
 refine aa ?_
 refine zl rfl ?_
 refine an (oO rfl rfl) rfl ?_
 refine zk hp hr h [0,103,104,1] Tryz.call200 (pA n true y4 (ax.mk 2 p2.ca ([46,42]:List UInt8) p2.bf p2.bj p2.aW p2.Body p2.cd p2.jk p2.Trail p2.Pos)) rfl (fun _=>rfl) fun y6 h=>?_
 refine zQ hK5 ?_
 refine ag fun _ hK7=>?_
 refine aa ?_
 refine zl rfl ?_
 refine zn rfl ?_
 refine zf rfl ?_
 refine zl rfl ?_
 refine zd hr h fun hg8 h=>?_
 refine zo hg8 rfl ?_
 refine zn rfl ?_
 refine zf rfl ?_
 refine zs rfl ?_
 refine zQ hK7 ?_
 refine ag fun _ hK9=>?_
 refine aa ?_
 refine zl rfl ?_
 refine zk hp hr h [0] Tryz.call155 (cI n ([58]:List UInt8) (ab.mk y6.1.text y6.1.bd (y6.1.at_+1) y6.1.base y6.1.skip y6.1.pending)) rfl (fun _=>rfl) fun y10 h=>?_
 refine zQ hK9 ?_
 refine bz [0,1,2,3,4,5,6,7] rfl (by kernel_rfl) ?_
 refine zD rfl (eW [.ptr 1 0] rfl rfl ⟨.inl rfl,trivial⟩ rfl) rfl ?_
 refine zD rfl (ba rfl rfl rfl) rfl ?_
 refine zD rfl (au rfl) rfl ?_
 refine du rfl (bM rfl) hr h [0] Tryz.call33 (hT.aD p0 y10) ⟨rfl,rfl,rfl,rfl,rfl,rfl,trivial⟩ rfl rfl (fun _=>⟨rfl,rfl,rfl⟩) (fun _=>⟨rfl,rfl⟩) hp (fun y11 h=>⟨cC ⟨trivial,⟨trivial,⟨⟨⟨_,rfl,aZ.eR ⟨.inl rfl,trivial⟩⟩,trivial⟩,trivial⟩⟩⟩,?_⟩)
 refine gU [y11.1] aj.bb rfl (bM rfl) ⟨rfl,rfl⟩ ⟨rfl,rfl⟩ ?_
 refine zD rfl (cP rfl) rfl ?_
 refine zD rfl (bD rfl) rfl ?_
 refine bV rfl ⟨rfl,rfl,rfl,rfl,rfl,rfl,rfl,rfl⟩ rfl (fun e7 he=>⟨aH rfl,?_⟩)
 subst he
 refine cr ?_
 exact zY .nil h rfl
theorem oz (n:Nat) (T:aF) (hT:aV T) (p0:Bool) (p1:ab):CT Tryz.prog 243 [.ptr 0 0,Bo p0] [.box (ah p1)] (ej n T p0 p1) (fun x=>.agg (aX x.1)) (fun x=>[.box (ah x.2)]):=by
 refine zC Tryz.func243 rfl fun r hp h hr E hE=>ag fun _ hK1=>aa (dP 102 (hE _ rfl) ⟨rfl,rfl,rfl,rfl,rfl,rfl,rfl⟩ rfl ?_)
 refine aL 104 (hE _ rfl) ⟨rfl,rfl,rfl,rfl⟩ rfl ?_
 refine zQ hK1 (ag fun _ hK2=>aa (zl rfl (zm rfl (zk hp hr h [0] Tryz.call264 (hT.cq p0 p1) rfl (fun _=>rfl) fun y3 h=>aL 105 (hE _ rfl) ⟨rfl,rfl,rfl,rfl⟩ rfl ?_))))
 refine zs rfl (zQ hK2 (aC (zL hr h (fun (v4:ab×aj)=>[(0,.ptr 0 0),(1,Bo p0),(2,.ptr 102 0),(4,.ptr 104 0),(5,.ptr 105 0)]) (fun (v4:ab×aj)=>[(0,.box (ah v4.1)),(102,.box [.ptr 0 0]),(104,.box [I 0,aY [],I 0,aY [],aY [],Sc (.slice none 0 0),Sc (.slice none 0 0),Sc (.slice none 0 0),I 0]),(105,.box (aX v4.2))]) rfl fun _ v4 _ hK6 h=>aC (ag fun _ hK7=>bz [0,2,4,1,3,5,6] rfl (by kernel_rfl) (zD rfl (ba rfl rfl rfl) rfl (zD rfl (eW [.ptr 0 0] rfl rfl ⟨.inl rfl,trivial⟩ rfl) rfl (sr rfl (bM rfl) 106 (hE _ rfl) ⟨rfl,rfl,rfl,rfl,rfl⟩ ⟨rfl,rfl,rfl,rfl⟩ ?_)))))))
 refine du rfl (bM rfl) hr h [0] Tryz.call34 (aI n v4.1) ⟨rfl,rfl,rfl,rfl,rfl,rfl,trivial⟩ rfl rfl (fun _=>⟨rfl,rfl,rfl⟩) (fun _=>⟨rfl,rfl⟩) hp (fun y8 h=>⟨cC ⟨trivial,⟨⟨⟨_,rfl,aZ.eR ⟨.inl rfl,trivial⟩⟩,trivial⟩,⟨trivial,trivial⟩⟩⟩,?_⟩)
 refine du rfl (bM rfl) hr h [0] Tryz.call75 (bY n (ab.mk y8.2.text y8.2.bd y8.2.at_ v4.1.base y8.2.skip y8.2.pending)) ⟨rfl,rfl,rfl,rfl,rfl,rfl,trivial⟩ rfl rfl (fun _=>⟨rfl,rfl,rfl⟩) (fun _=>⟨rfl,rfl⟩) hp (fun y9 h=>⟨aH rfl,?_⟩)
 refine rp rfl ⟨rfl,rfl,rfl,rfl,rfl,rfl,rfl,rfl⟩ rfl (fun e5 he=>⟨aH rfl,?_⟩)
 subst he
 refine r7 rfl rfl rfl (aH rfl) rfl ?_
 refine cr (hK7 _ _ (aC (ag fun _ hK10=>aa (zA rfl ?_))))
 refine zk hp hr h [] Tryz.call72 (cu y8.1 ([46]:List UInt8)) rfl (fun _=>rfl) fun y11 h=>za rfl (zQ hK10 (zB rfl h (fun _ h=>?_) fun _ h=>?_))
 · refine ag fun _ hK13=>aa (zl rfl (zA rfl ?_))
   refine zm rfl (zk hp hr h [0] Tryz.call74 (fQ n v4.2 y9.1 y9.2) rfl (fun _=>rfl) fun y14 h=>zs rfl (zQ hK13 (ag fun _ hK15=>aa (zl rfl (zn rfl (zf rfl (zl rfl (zd hr h fun hg16 h=>zo hg16 rfl (zn rfl (zf rfl (zs rfl (zQ hK15 (ag fun _ hK17=>aa (zl rfl (zk hp hr h [0] Tryz.call34 (aI n (ab.mk y14.2.text y14.2.bd (y14.2.at_+1) y14.2.base y14.2.skip y14.2.pending)) rfl (fun _=>rfl) fun y18 h=>aL 108 (hE _ rfl) ⟨rfl,rfl,rfl,rfl⟩ rfl ?_)))))))))))))))
   refine zs rfl (zQ hK17 (zM h (fun (v19:ab)=>[(0,.ptr 0 0),(1,Bo p0),(2,.ptr 102 0),(4,.ptr 104 0),(5,.ptr 105 0),(8,.ptr 108 0)]) (fun (v19:ab)=>[(0,.box (ah v19)),(102,.box [.ptr 0 0]),(104,.box [I 0,aY [],I 0,aY [],aY [],Sc (.slice none 0 0),Sc (.slice none 0 0),Sc (.slice none 0 0),I 0]),(105,.box (aX y14.1)),(108,.box (fo y18.1))]) (fun v19 h=>?_) fun _ _ hK21 h=>?_))
   · refine ag fun _ hK22=>aa (zl rfl (zn rfl (zf rfl (zl rfl (zd hr h fun hg23 h=>zo hg23 rfl (zn rfl (zf rfl (zs rfl (zQ hK22 (aa (zf rfl (zl rfl (zA rfl ?_)))))))))))))
     refine bR [y14.1] aj.bb ⟨rfl,rfl⟩ rfl ?_
     refine zf rfl (zl rfl (an (dm rfl rfl) rfl ?_))
     refine zs rfl (aS (gg 105 6 rfl rfl rfl) ?_)
     refine aS (gg 105 7 rfl rfl rfl) ?_
     exact ao (hK6 _ _ _ h rfl)
   · refine ag fun _ hK24=>aa (zA rfl ?_)
     refine zk hp hr h [] Tryz.call150 (oU n y18.1) rfl (fun _=>rfl) fun y25 h=>an (eG rfl) rfl (zQ hK24 (zB rfl h (fun _ h=>?_) fun _ h=>?_))
     · exact aa (zl rfl (zk hp hr h [0] Tryz.call35 (bt n (ab.mk y18.2.text y18.2.bd y18.2.at_ y14.2.base y18.2.skip y18.2.pending)) rfl (fun _=>rfl) fun y27 h=>ao (hK21 _ _ _ h rfl)))
     · exact ar (hK21 _ _ _ h rfl)
 · refine ag fun _ hK28=>aa (zA rfl ?_)
   refine zk hp hr h [] Tryz.call72 (cu y8.1 ([91]:List UInt8)) rfl (fun _=>rfl) fun y29 h=>za rfl (zQ hK28 (zB rfl h (fun _ h=>?_) fun _ h=>?_))
   · refine ag fun _ hK31=>aa (zl rfl (zA rfl ?_))
     refine zm rfl (zk hp hr h [0] Tryz.call74 (fQ n v4.2 y9.1 y9.2) rfl (fun _=>rfl) fun y32 h=>zs rfl (zQ hK31 (ag fun _ hK33=>aa (zl rfl (zn rfl (zf rfl (zl rfl (zd hr h fun hg34 h=>zo hg34 rfl (zn rfl (zf rfl (zs rfl (zQ hK33 (ag fun _ hK35=>aa (zl rfl (an (oO rfl rfl) rfl ?_)))))))))))))))
     exact zk hp hr h [0,105,102] Tryz.call200 (hT.cL true (ab.mk y32.2.text y32.2.bd (y32.2.at_+1) y32.2.base y32.2.skip y32.2.pending) y32.1) rfl (fun _=>rfl) fun y36 h=>zQ hK35 (aa (zl rfl (zn rfl (zf rfl (zl rfl (zd hr h fun hg37 h=>zo hg37 rfl (zn rfl (zf rfl (zs rfl (ao (hK6 _ _ _ h rfl)))))))))))
   · refine ag fun _ hK38=>aa (zA rfl ?_)
     exact zs rfl (zQ hK38 (aw (zX (.cons (aT rfl rfl rfl) .nil) h rfl)))
theorem nC (n:Nat) (T:aF) (hT:aV T) (p0:aj) (p1:ab):CT Tryz.prog 265 [.ptr 0 0,.ptr 1 0] [.box (aX p0),.box [.ptr 2 0],.box (ah p1)] (dE n T p0 p1) (fun _=>.fH []) (fun x=>[.box (aX x.1),.box [.ptr 2 0],.box (ah x.2)]):=by
 refine zC Tryz.func265 rfl fun r hp h hr E hE=>ag fun _ hK1=>bz [0,1,4,5,2,3,6,7] rfl (by kernel_rfl) (zD rfl (jy rfl rfl rfl rfl) rfl ?_)
 refine zD rfl (ba rfl rfl rfl) rfl (zD rfl (bD rfl) rfl (zD rfl (eW [.any,.any,.any,.any,.any,.any,.any,.any,I p0.Pos] rfl rfl ⟨.inr rfl,.inr rfl,.inr rfl,.inr rfl,.inr rfl,.inr rfl,.inr rfl,.inr rfl,.inl rfl,trivial⟩ rfl) rfl (du rfl (bM rfl) hr h [2] Tryz.call33 (hT.aD false p1) ⟨rfl,rfl,rfl,rfl,rfl,rfl,trivial⟩ rfl rfl (fun _=>⟨rfl,rfl,rfl⟩) (fun _=>⟨rfl,rfl⟩) hp (fun y2 h=>⟨cC ⟨⟨⟨_,rfl,aZ.eR ⟨.inr rfl,.inr rfl,.inr rfl,.inr rfl,.inr rfl,.inr rfl,.inr rfl,.inr rfl,.inl rfl,trivial⟩⟩,trivial⟩,⟨trivial,⟨trivial,⟨⟨⟨_,rfl,aZ.le_refl _⟩,trivial⟩,trivial⟩⟩⟩⟩,?_⟩))))
 refine gU [p0,y2.1] aj.bb rfl (bM rfl) ⟨rfl,rfl⟩ ⟨rfl,rfl⟩ ?_
 refine zD rfl (dm rfl rfl) rfl ?_
 refine bV rfl ⟨rfl,rfl,rfl,rfl,rfl,rfl,rfl,rfl⟩ rfl (fun e7 he=>⟨aH rfl,?_⟩)
 subst he
 refine cr (hK1 _ _ (aa (zl rfl (zk hp hr h [2] Tryz.call202 (da n ([93]:List UInt8) y2.2) rfl (fun _=>rfl) fun y3 h=>aS (jb 0 rfl rfl) ?_))))
 exact ao (zY .nil h rfl)
theorem oA (n:Nat) (T:aF) (hT:aV T) (p0:Bool) (p1:ab):CT Tryz.prog 264 [.ptr 0 0,Bo p0] [.box (ah p1)] (ek n T p0 p1) (fun x=>.agg (aX x.1)) (fun x=>[.box (ah x.2)]):=by
 refine zC Tryz.func264 rfl fun r hp h hr E hE=>ag fun _ hK1=>aa (aL 104 (hE _ rfl) ⟨rfl,rfl,rfl,rfl⟩ rfl ?_)
 refine zQ hK1 (ag fun _ hK2=>ag fun _ hK3=>aa (zm rfl (zn rfl (zf rfl (zl rfl (an (AY rfl rfl) rfl (zQ hK3 (zB rfl h (fun _ h=>?_) fun _ h=>?_))))))))
 · refine ag fun _ hK5=>aa (zm rfl (zn rfl (zf rfl (zl rfl ?_))))
   obtain ⟨q6,hq7,h⟩:=DU hr h
   refine an (Ct (by rw[hq7];rfl)) rfl ?_
   refine an (gN rfl rfl) rfl ?_
   refine aL 105 (hE _ rfl) ⟨rfl,rfl,rfl,rfl⟩ rfl ?_
   refine zs rfl (zQ hK5 (ag fun _ hK8=>aa (zm rfl (zn rfl (zf rfl (zs rfl (zQ hK8 (ag fun _ hK9=>aa (zA rfl ?_)))))))))
   refine zs rfl (zQ hK9 (bQ (jb 0 rfl rfl) ?_))
   exact aw (zX (.cons (aT rfl rfl rfl) .nil) h rfl)
 · refine ar (hK2 _ _ (ag fun _ hK10=>aa (zm rfl (zk hp hr h [0] Tryz.call34 (aI n p1) rfl (fun _=>rfl) fun y11 h=>zm rfl (zk hp hr h [0] Tryz.call75 (bY n (ab.mk y11.2.text y11.2.bd y11.2.at_ p1.base y11.2.skip y11.2.pending)) rfl (fun _=>rfl) fun y12 h=>aL 106 (hE _ rfl) ⟨rfl,rfl,rfl,rfl⟩ rfl ?_)))))
   refine zs rfl (za rfl (zQ hK10 (ag fun _ hK13=>aa (zm rfl (an (dm rfl rfl) rfl ?_)))))
   refine aL 108 (hE _ rfl) ⟨rfl,rfl,rfl,rfl⟩ rfl ?_
   refine zs rfl (zQ hK13 (zM h (fun (v14:ab×aj)=>[(0,.ptr 0 0),(1,Bo p0),(4,.ptr 104 0),(8,.ptr 108 0)]) (fun (v14:ab×aj)=>[(0,.box (ah v14.1)),(104,.box [I 0,aY [],I 0,aY [],aY [],Sc (.slice none 0 0),Sc (.slice none 0 0),Sc (.slice none 0 0),I 0]),(108,.box (aX v14.2))]) (fun v14 h=>?_) fun _ _ hK16 h=>?_))
   · refine ag fun _ hK17=>aa (zm rfl (zn rfl (zf rfl (zl rfl (zd hr h fun hg18 h=>zo hg18 rfl (zn rfl (zf rfl (zs rfl (zQ hK17 (ag fun _ hK19=>aa (zA rfl ?_)))))))))))
     exact zs rfl (zQ hK19 (aw (zX (.cons (aT rfl rfl rfl) .nil) h rfl)))
   · refine aC (ag fun _ hK20=>aa (zf rfl (zl rfl (zc rfl (za rfl (zQ hK20 (zB rfl h (fun _ h=>?_) fun _ h=>?_)))))))
     · exact ag fun _ hK22=>aa (zm rfl (zk hp hr h [0] Tryz.call276 (hT.cJ y12.2) rfl (fun _=>rfl) fun y23 h=>zs rfl (zQ hK22 (aw (zX (.cons (aT rfl rfl rfl) .nil) h rfl)))))
     · refine ag fun _ hK24=>aa (zf rfl (zl rfl (zc rfl (za rfl (zQ hK24 (zB rfl h (fun _ h=>?_) fun _ h=>?_))))))
       · refine ag fun _ hK26=>aa (zf rfl (zs rfl (zQ hK26 (aa (zf rfl (zl rfl (zk hp hr h [] Tryz.call100 (rP n y11.1.Text) rfl (fun _=>rfl) fun y27 h=>zm rfl (zx rfl (zx rfl (zf rfl (zs rfl (aS (gg 108 5 rfl rfl rfl) ?_))))))))))))
         refine aS (gg 108 6 rfl rfl rfl) ?_
         refine aS (gg 108 7 rfl rfl rfl) ?_
         exact ao (hK16 _ _ _ h rfl)
       · refine ag fun _ hK28=>aa (zf rfl (zl rfl (zc rfl (za rfl (zQ hK28 (zB rfl h (fun _ h=>?_) fun _ h=>?_))))))
         · refine lY [] ?_
           refine bz [0,1,2,3,4,5] rfl (by kernel_rfl) (zD rfl (bD rfl) rfl (zD rfl (eW [.any,aY y11.1.Text,.any,.any] rfl rfl ⟨.inr rfl,.inl rfl,.inr rfl,.inr rfl,trivial⟩ rfl) rfl (zD rfl (bD rfl) rfl (bV rfl ⟨rfl,rfl,rfl,rfl,rfl,rfl,rfl,rfl⟩ rfl (fun e3 he=>⟨cC ⟨trivial,⟨⟨⟨_,rfl,aZ.eR ⟨.inr rfl,.inl rfl,.inr rfl,.inr rfl,trivial⟩⟩,trivial⟩,⟨trivial,trivial⟩⟩⟩,?_⟩)))))
           subst he
           refine zD rfl (bD rfl) rfl (bV rfl ⟨rfl,rfl,rfl,rfl,rfl,rfl,rfl,rfl⟩ rfl (fun e5 he=>⟨aH rfl,?_⟩))
           subst he
           refine fP (eH.trans (gg 108 5 rfl rfl rfl) (eH.trans (gg 108 6 rfl rfl rfl) (gg 108 7 rfl rfl rfl))) ?_
           exact hK16 _ _ _ h rfl
         · refine ag fun _ hK30=>aa (zf rfl (zl rfl (zc rfl (za rfl (zQ hK30 (zB rfl h (fun _ h=>?_) fun _ h=>?_))))))
           · refine aa (zm rfl (zA rfl ?_))
             exact zm rfl (zk hp hr h [0] Tryz.call277 (hT.cE y11.1 y12.1 y12.2) rfl (fun _=>rfl) fun y32 h=>zs rfl (ao (hK16 _ _ _ h rfl)))
           · refine ag fun _ hK33=>aa (zA rfl ?_)
             refine zk hp hr h [] Tryz.call72 (cu y11.1 ([95]:List UInt8)) rfl (fun _=>rfl) fun y34 h=>za rfl (zQ hK33 (zB rfl h (fun _ h=>?_) fun _ h=>?_))
             · refine aa (zf rfl (zs rfl (aS (gg 108 5 rfl rfl rfl) ?_)))
               refine aS (gg 108 6 rfl rfl rfl) ?_
               refine aS (gg 108 7 rfl rfl rfl) ?_
               exact ao (hK16 _ _ _ h rfl)
             · refine ag fun _ hK36=>aa (zA rfl ?_)
               refine zk hp hr h [] Tryz.call72 (cu y11.1 ([95,124,95]:List UInt8)) rfl (fun _=>rfl) fun y37 h=>za rfl (zQ hK36 (zB rfl h (fun _ h=>?_) fun _ h=>?_))
               · refine aa (zf rfl (zs rfl (aS (gg 108 5 rfl rfl rfl) ?_)))
                 refine aS (gg 108 6 rfl rfl rfl) ?_
                 refine aS (gg 108 7 rfl rfl rfl) ?_
                 exact ao (hK16 _ _ _ h rfl)
               · refine ag fun _ hK39=>aa (zA rfl ?_)
                 refine zk hp hr h [] Tryz.call72 (cu y11.1 ([40]:List UInt8)) rfl (fun _=>rfl) fun y40 h=>za rfl (zQ hK39 (zB rfl h (fun _ h=>?_) fun _ h=>?_))
                 · exact ag fun _ hK42=>aa (zm rfl (zm rfl (zk hp hr h [0] Tryz.call204 (hT.b1 p0 y12.2) rfl (fun _=>rfl) fun y43 h=>zs rfl (zQ hK42 (aw (zX (.cons (aT rfl rfl rfl) .nil) h rfl))))))
                 · refine ag fun _ hK44=>aa (zA rfl ?_)
                   refine zk hp hr h [] Tryz.call72 (cu y11.1 ([123]:List UInt8)) rfl (fun _=>rfl) fun y45 h=>za rfl (zQ hK44 (zB rfl h (fun _ h=>?_) fun _ h=>?_))
                   · exact ag fun _ hK47=>aa (zm rfl (zm rfl (zk hp hr h [0] Tryz.call278 (hT.cD p0 y12.2) rfl (fun _=>rfl) fun y48 h=>zs rfl (zQ hK47 (aw (zX (.cons (aT rfl rfl rfl) .nil) h rfl))))))
                   · refine ag fun _ hK49=>aa (zA rfl ?_)
                     refine zk hp hr h [] Tryz.call72 (cu y11.1 ([91]:List UInt8)) rfl (fun _=>rfl) fun y50 h=>za rfl (zQ hK49 (zB rfl h (fun _ h=>?_) fun _ h=>?_))
                     · exact ag fun _ hK52=>aa (zm rfl (zk hp hr h [0] Tryz.call279 (hT.cS y12.2) rfl (fun _=>rfl) fun y53 h=>zs rfl (zQ hK52 (aw (zX (.cons (aT rfl rfl rfl) .nil) h rfl)))))
                     · refine aa (zm rfl (zk hp hr h [0] Tryz.call35 (bt n y12.2) rfl (fun _=>rfl) fun y54 h=>aS (gg 108 5 rfl rfl rfl) ?_))
                       refine aS (gg 108 6 rfl rfl rfl) ?_
                       refine aS (gg 108 7 rfl rfl rfl) ?_
                       exact ao (hK16 _ _ _ h rfl)
theorem pJ (n:Nat) (T:aF) (hT:aV T) (p0:Bool) (p1:ab):CT Tryz.prog 214 [.ptr 0 0,Bo p0] [.box (ah p1)] (eP n T p0 p1) (fun x=>.agg (aX x.1)) (fun x=>[.box (ah x.2)]):=by
 refine zC Tryz.func214 rfl fun r hp h hr E hE=>?_
 refine ag fun _ hK1=>?_
 refine aa ?_
 refine aL 104 (hE _ rfl) ⟨rfl,rfl,rfl,rfl⟩ rfl ?_
 refine zQ hK1 ?_
 refine ag fun _ hK2=>?_
 refine ag fun _ hK3=>?_
 refine aa ?_
 refine zm rfl ?_
 refine zn rfl ?_
 refine zf rfl ?_
 refine zl rfl ?_
 refine an (AY rfl rfl) rfl ?_
 refine zQ hK3 ?_
 refine zB rfl h (fun _ h=>?_) fun _ h=>?_
 · refine ag fun _ hK5=>?_
   refine aa ?_
   refine zm rfl ?_
   refine zm rfl ?_
   refine zk hp hr h [0] Tryz.call243 (hT.bT p0 p1) rfl (fun _=>rfl) fun y6 h=>?_
   refine zs rfl ?_
   refine zQ hK5 ?_
   refine aw ?_
   exact zX (.cons (aT rfl rfl rfl) .nil) h rfl
 · refine ar ?_
   refine hK2 _ _ ?_
   refine ag fun _ hK7=>?_
   refine aa ?_
   refine zm rfl ?_
   refine zk hp hr h [0] Tryz.call34 (aI n p1) rfl (fun _=>rfl) fun y8 h=>?_
   refine zm rfl ?_
   refine zk hp hr h [0] Tryz.call75 (bY n (ab.mk y8.2.text y8.2.bd y8.2.at_ p1.base y8.2.skip y8.2.pending)) rfl (fun _=>rfl) fun y9 h=>?_
   refine aL 105 (hE _ rfl) ⟨rfl,rfl,rfl,rfl⟩ rfl ?_
   refine zs rfl ?_
   refine za rfl ?_
   refine zQ hK7 ?_
   refine ag fun _ hK10=>?_
   refine aa ?_
   refine za rfl ?_
   refine zQ hK10 ?_
   refine zM h (fun (v11:Int)=>[(0,.ptr 0 0),(1,Bo p0),(4,.ptr 104 0),(5,.ptr 105 0),(6,I y9.1),(7,I v11)]) (fun (v11:Int)=>[(0,.box (ah y9.2)),(104,.box [I 0,aY [],I 0,aY [],aY [],Sc (.slice none 0 0),Sc (.slice none 0 0),Sc (.slice none 0 0),I 0]),(105,.box (fo y8.1))]) (fun v11 h=>?_) fun _ _ hK13 h=>?_
   · refine ag fun _ hK14=>?_
     refine aa ?_
     refine zm rfl ?_
     refine zn rfl ?_
     refine zf rfl ?_
     refine zl rfl ?_
     refine zd hr h fun hg15 h=>?_
     refine zo hg15 rfl ?_
     refine zn rfl ?_
     refine zf rfl ?_
     refine zs rfl ?_
     refine zQ hK14 ?_
     refine ag fun _ hK16=>?_
     refine bz [0,1,2,3,6,4,5,7,8] rfl (by kernel_rfl) ?_
     refine zD rfl (au rfl) rfl ?_
     refine zD rfl (bD rfl) rfl ?_
     refine zD rfl (eW [.any,aY y8.1.Text,.any,.any] rfl rfl ⟨.inr rfl,.inl rfl,.inr rfl,.inr rfl,trivial⟩ rfl) rfl ?_
     refine zD rfl (au rfl) rfl ?_
     refine zD rfl (au rfl) rfl ?_
     refine du rfl (bM rfl) hr h [0] Tryz.call214 (hT.cf false (ab.mk y9.2.text y9.2.bd (y9.2.at_+1) y9.2.base y9.2.skip y9.2.pending)) ⟨rfl,rfl,rfl,rfl,rfl,rfl,trivial⟩ rfl rfl (fun _=>⟨rfl,rfl,rfl⟩) (fun _=>⟨rfl,rfl⟩) hp (fun y17 h=>⟨cC ⟨trivial,⟨trivial,⟨⟨⟨_,rfl,aZ.eR ⟨.inr rfl,.inl rfl,.inr rfl,.inr rfl,trivial⟩⟩,trivial⟩,⟨trivial,⟨trivial,trivial⟩⟩⟩⟩⟩,?_⟩)
     refine gU [y17.1] aj.bb rfl (bM rfl) ⟨rfl,rfl⟩ ⟨rfl,rfl⟩ ?_
     refine zD rfl (dm rfl rfl) rfl ?_
     refine bV rfl ⟨rfl,rfl,rfl,rfl,rfl,rfl,rfl,rfl⟩ rfl (fun e8 he=>⟨aH rfl,?_⟩)
     subst he
     refine cr ?_
     refine hK16 _ _ ?_
     refine bQ (jb 104 rfl rfl) ?_
     refine aw ?_
     exact zX (.cons (aT rfl rfl rfl) .nil) h rfl
   · refine aC ?_
     refine ag fun _ hK18=>?_
     refine aa ?_
     refine zA rfl ?_
     refine zk hp hr h [] Tryz.call151 (k6 n y8.1 ([45,32,33]:List UInt8)) rfl (fun _=>rfl) fun y19 h=>?_
     refine za rfl ?_
     refine zQ hK18 ?_
     refine zB rfl h (fun _ h=>?_) fun _ h=>?_
     · refine aa ?_
       refine za rfl ?_
       refine ao ?_
       exact hK13 _ _ _ h rfl
     · refine ag fun _ hK21=>?_
       refine aa ?_
       refine zA rfl ?_
       refine zk hp hr h [] Tryz.call151 (k6 n y8.1 ([60,32,60,61,32,62,32,62,61,32,33,61,32,61,126,32,33,126]:List UInt8)) rfl (fun _=>rfl) fun y22 h=>?_
       refine za rfl ?_
       refine zQ hK21 ?_
       refine zB rfl h (fun _ h=>?_) fun _ h=>?_
       · refine aa ?_
         refine za rfl ?_
         refine ao ?_
         exact hK13 _ _ _ h rfl
       · refine ag fun _ hK24=>?_
         refine aa ?_
         refine zm rfl ?_
         refine zm rfl ?_
         refine zk hp hr h [0] Tryz.call243 (hT.bT p0 y9.2) rfl (fun _=>rfl) fun y25 h=>?_
         refine zs rfl ?_
         refine zQ hK24 ?_
         refine aw ?_
         exact zX (.cons (aT rfl rfl rfl) .nil) h rfl
theorem nD (n:Nat) (T:aF) (hT:aV T) (p0:Bool) (p1:ab) (p2:Bool) (p3:(List ax)) (p4:(List (List UInt8))):CT Tryz.prog 200 [.ptr 0 0,Bo p0,.fn 203 [] [.ptr 1 0,.ptr 2 0,.ptr 3 0,.ptr 4 0]] [.box (ah p1),.box [.ptr 0 0],.box [Bo p2],.box [.pv (.sl (List.length p3) (ax.Cs p3))],.box [.pv (.sl (List.length p4) (bX p4))]] (dF n T p0 p1 p2 p3 p4) (fun _=>.fH []) (fun x=>[.box (ah x.1),.box [.ptr 0 0],.box [Bo x.2.1],.box [.pv (.sl (List.length x.2.2.1) (ax.Cs x.2.2.1))],.box [.pv (.sl (List.length x.2.2.2) (bX x.2.2.2))]]):=by
 refine zC Tryz.func200 rfl fun r hp h hr E hE=>ag fun _ hK1=>aa (zm rfl (zn rfl (zf rfl (zl rfl (za rfl (zQ hK1 (ag fun _ hK2=>aa (zm rfl (zm rfl (zn rfl (zf rfl (zs rfl (zQ hK2 (ag fun _ hK3=>aa (zm rfl (zk hp hr h [1,2,3,4,0] Tryz.call203 (hT.eM p2 p3 p4 (ab.mk p1.text p1.bd p1.at_ p1.base p0 p1.pending)) rfl (fun _=>rfl) fun y4 h=>zQ hK3 (aa (zm rfl (zm rfl ?_)))))))))))))))))))
 exact zn rfl (zf rfl (zs rfl (ao (zY .nil h rfl))))
theorem nE (n:Nat) (T:aF) (hT:aV T) (p0:Bool) (p1:ab) (p2:Bool) (p3:aj):CT Tryz.prog 200 [.ptr 0 0,Bo p0,.fn 237 [] [.ptr 1 0,.ptr 2 0,.ptr 3 0]] [.box (ah p1),.box [.ptr 0 0],.box [Bo p2],.box (aX p3)] (dG n T p0 p1 p2 p3) (fun _=>.fH []) (fun x=>[.box (ah x.1),.box [.ptr 0 0],.box [Bo x.2.1],.box (aX x.2.2)]):=by
 refine zC Tryz.func200 rfl fun r hp h hr E hE=>ag fun _ hK1=>aa (zm rfl (zn rfl (zf rfl (zl rfl (za rfl (zQ hK1 (ag fun _ hK2=>aa (zm rfl (zm rfl (zn rfl (zf rfl (zs rfl (zQ hK2 (ag fun _ hK3=>aa (zm rfl (zk hp hr h [1,2,3,0] Tryz.call237 (hT.ez p2 p3 (ab.mk p1.text p1.bd p1.at_ p1.base p0 p1.pending)) rfl (fun _=>rfl) fun y4 h=>zQ hK3 (aa (zm rfl (zm rfl ?_)))))))))))))))))))
 exact zn rfl (zf rfl (zs rfl (ao (zY .nil h rfl))))
theorem nF (n:Nat) (T:aF) (hT:aV T) (p0:Bool) (p1:ab) (p2:aj):CT Tryz.prog 200 [.ptr 0 0,Bo p0,.fn 265 [] [.ptr 1 0,.ptr 2 0]] [.box (ah p1),.box (aX p2),.box [.ptr 0 0]] (dH n T p0 p1 p2) (fun _=>.fH []) (fun x=>[.box (ah x.1),.box (aX x.2),.box [.ptr 0 0]]):=by
 refine zC Tryz.func200 rfl fun r hp h hr E hE=>ag fun _ hK1=>aa (zm rfl (zn rfl (zf rfl (zl rfl (za rfl (zQ hK1 (ag fun _ hK2=>aa (zm rfl (zm rfl (zn rfl (zf rfl (zs rfl (zQ hK2 (ag fun _ hK3=>aa (zm rfl (zk hp hr h [1,2,0] Tryz.call265 (hT.ef p2 (ab.mk p1.text p1.bd p1.at_ p1.base p0 p1.pending)) rfl (fun _=>rfl) fun y4 h=>zQ hK3 (aa (zm rfl (zm rfl ?_)))))))))))))))))))
 exact zn rfl (zf rfl (zs rfl (ao (zY .nil h rfl))))
theorem nG (n:Nat) (T:aF) (hT:aV T) (p0:Bool) (p1:ab) (p2:aj):CT Tryz.prog 200 [.ptr 0 0,Bo p0,.fn 299 [] [.ptr 1 0,.ptr 2 0]] [.box (ah p1),.box [.ptr 0 0],.box [I p2.Kind,aY p2.Text,I p2.je,aY p2.bf,aY p2.bj,.arr 3 (List.length p2.aW),.pv (.sl (List.length p2.Decls) (ax.Cs p2.Decls)),.pv (.sl (List.length p2.cd) (bX p2.cd)),I p2.Pos],.arr 38 9 (aj.Cs p2.aW)] (dI n T p0 p1 p2) (fun _=>.fH []) (fun x=>[.box (ah x.1),.box [.ptr 0 0],.box [I x.2.Kind,aY x.2.Text,I x.2.je,aY x.2.bf,aY x.2.bj,.arr 3 (List.length x.2.aW),.pv (.sl (List.length x.2.Decls) (ax.Cs x.2.Decls)),.pv (.sl (List.length x.2.cd) (bX x.2.cd)),I x.2.Pos],.arr 38 9 (aj.Cs x.2.aW)]):=by
 refine zC Tryz.func200 rfl fun r hp h hr E hE=>ag fun _ hK1=>aa (zm rfl (zn rfl (zf rfl (zl rfl (za rfl (zQ hK1 (ag fun _ hK2=>aa (zm rfl (zm rfl (zn rfl (zf rfl (zs rfl (zQ hK2 (ag fun _ hK3=>aa (zm rfl (iQ hr h [1,2,0,3] Tryz.call299 (hT.ff p2 (ab.mk p1.text p1.bd p1.at_ p1.base p0 p1.pending)) ⟨rfl,rfl,rfl,rfl,rfl,rfl,⟨hE _ rfl,trivial⟩⟩ rfl (fun _=>⟨rfl,rfl,rfl⟩) (fun _=>⟨rfl,rfl⟩) hp (fun y4 h=>?_)))))))))))))))))
 exact zQ hK3 (aa (zm rfl (zm rfl (zn rfl (zf rfl (zs rfl (ao (zY .nil h rfl))))))))
theorem nH (n:Nat) (T:aF) (hT:aV T) (p0:Bool) (p1:ab) (p2:(List aj)):CT Tryz.prog 200 [.ptr 0 0,Bo p0,.fn 313 [] [.ptr 1 0,.ptr 2 0]] [.box (ah p1),.box [.ptr 0 0],.box [.arr 3 (List.length p2)],.arr 38 9 (aj.Cs p2)] (dJ n T p0 p1 p2) (fun _=>.fH []) (fun x=>[.box (ah x.1),.box [.ptr 0 0],.box [.arr 3 (List.length x.2)],.arr 38 9 (aj.Cs x.2)]):=by
 refine zC Tryz.func200 rfl fun r hp h hr E hE=>ag fun _ hK1=>aa (zm rfl (zn rfl (zf rfl (zl rfl (za rfl (zQ hK1 (ag fun _ hK2=>aa (zm rfl (zm rfl (zn rfl (zf rfl (zs rfl (zQ hK2 (ag fun _ hK3=>aa (zm rfl (iQ hr h [1,2,0,3] Tryz.call313 (hT.fe p2 (ab.mk p1.text p1.bd p1.at_ p1.base p0 p1.pending)) ⟨rfl,rfl,rfl,rfl,rfl,rfl,⟨hE _ rfl,trivial⟩⟩ rfl (fun _=>⟨rfl,rfl,rfl⟩) (fun _=>⟨rfl,rfl⟩) hp (fun y4 h=>?_)))))))))))))))))
 exact zQ hK3 (aa (zm rfl (zm rfl (zn rfl (zf rfl (zs rfl (ao (zY .nil h rfl))))))))
theorem aO:∀ n,aV (ai n)
 | 0=>⟨fun _ _=>ch,fun _ _=>ch,fun _=>ch,fun _ _=>ch,fun _ _ _=>ch,fun _ _=>ch,fun _ _ _ _=>ch,fun _ _=>ch,fun _ _=>ch,fun _ _=>ch,fun _ _=>ch,fun _ _ _=>ch,fun _ _=>ch,fun _ _ _=>ch,fun _ _ _=>ch,fun _=>ch,fun _=>ch,fun _ _=>ch,fun _=>ch,fun _ _=>ch,fun _ _ _=>ch,fun _ _ _=>ch,fun _ _=>ch,fun _ _=>ch,fun _ _=>ch,fun _ _=>ch,fun _ _ _ _ _=>ch,fun _ _ _ _=>ch,fun _ _ _=>ch,fun _ _ _=>ch,fun _ _ _=>ch⟩
 | n+1=>⟨fun p0 p1=>uL n _ (aO n) p0 p1,fun p0 p1=>mD n _ (aO n) p0 p1,fun p0=>qj n _ (aO n) p0,fun p0 p1=>oY n _ (aO n) p0 p1,fun p0 p1 p2=>oZ n _ (aO n) p0 p1 p2,fun p0 p1=>pG n _ (aO n) p0 p1,fun p0 p1 p2 p3=>ot n _ (aO n) p0 p1 p2 p3,fun p0 p1=>o0 n _ (aO n) p0 p1,fun p0 p1=>mE n _ (aO n) p0 p1,fun p0 p1=>qk n _ (aO n) p0 p1,fun p0 p1=>nP n _ (aO n) p0 p1,fun p0 p1 p2=>ov n _ (aO n) p0 p1 p2,fun p0 p1=>ql n _ (aO n) p0 p1,fun p0 p1 p2=>pH n _ (aO n) p0 p1 p2,fun p0 p1 p2=>o3 n _ (aO n) p0 p1 p2,fun p0=>qm n _ (aO n) p0,fun p0=>qn n _ (aO n) p0,fun p0 p1=>o4 n _ (aO n) p0 p1,fun p0=>pI n _ (aO n) p0,fun p0 p1=>o5 n _ (aO n) p0 p1,fun p0 p1 p2=>nQ n _ (aO n) p0 p1 p2,fun p0 p1 p2=>ow n _ (aO n) p0 p1 p2,fun p0 p1=>oz n _ (aO n) p0 p1,fun p0 p1=>nC n _ (aO n) p0 p1,fun p0 p1=>oA n _ (aO n) p0 p1,fun p0 p1=>pJ n _ (aO n) p0 p1,fun p0 p1 p2 p3 p4=>nD n _ (aO n) p0 p1 p2 p3 p4,fun p0 p1 p2 p3=>nE n _ (aO n) p0 p1 p2 p3,fun p0 p1 p2=>nF n _ (aO n) p0 p1 p2,fun p0 p1 p2=>nG n _ (aO n) p0 p1 p2,fun p0 p1 p2=>nH n _ (aO n) p0 p1 p2⟩
theorem rb (n:Nat) (p0:Bool) (p1:ab):CT Tryz.prog 107 [.ptr 0 0,Bo p0] [.box (ah p1)] (bO n p0 p1) (fun x=>.agg (dp x.1)) (fun x=>[.box (ah x.2)]):=(aO n).bO p0 p1
theorem re (n:Nat) (p0:Bool) (p1:ab):CT Tryz.prog 33 [.ptr 0 0,Bo p0] [.box (ah p1)] (aD n p0 p1) (fun x=>.agg (aX x.1)) (fun x=>[.box (ah x.2)]):=(aO n).aD p0 p1
end Go.Abs
end
section
namespace Go.Abs
open aq
theorem vl {m:Nat→Nat} (hm:bZ m) {s:List UInt8} (hs:s.length≤65536):Ev (fun i=>pD (m i) s) (fun r=>r.2=true→r.1.length+2≤s.length) gh:=by
 unfold pD
 refine Ev.iter hm (fun (x:Int×Int)=>0≤x.2∧x.2≤s.length∧x.1≤x.2∧-x.2≤x.1) (fun x=>(s.length - x.2).toNat) (by simp) ?_
 intro x hx next hn
 (repeat' (first|((with_reducible first|refine Ev.gd ?_ ?_|refine Ev.kc ?_ (fun _ _=>?_));(next=>(first|omega|(simp[bA]<;>omega))))|(with_reducible first|refine Ev.cw ?_|refine Ev.b7 ?_|refine Ev.aU (fun _=>?_) (fun _=>?_)|refine Ev.bk (fun _=>?_) (fun _=>?_)|refine Ev.bN (fun _=>?_) (fun _=>?_)|refine Ev.bh (fun _=>?_) (fun _=>?_)|refine Ev.br (fun _=>?_) (fun _=>?_))|((with_reducible refine Ev.jd ?_);try dsimp only)))
 ·exact hn _ (by dsimp only;omega) (by dsimp only;omega)
 ·have:=ry (c:=s) (i:=1) (j:=x.2) (by omega) (by omega) (by omega)
  exact Ev.ok fun _=>by dsimp only;omega
 ·exact hn _ (by dsimp only;omega) (by dsimp only;omega)
 ·exact hn _ (by dsimp only;omega) (by dsimp only;omega)
 ·exact Ev.ok (by simp)
theorem tG {m:Nat→Nat} (hm:bZ m) {s:List UInt8} (hs:s.length≤65536) (h0:s[0]?=some 92):Ev (fun i=>mZ (m i) s) (fun r=>r.2=0∨2≤r.2∧r.2≤s.length) gh:=by
 unfold mZ
 refine Ev.jn (fun v=>2≤v) (fun v hv=>?_) (fun j hj=>?_)
 ·refine Ev.aU (fun _=>Ev.ok (.inl rfl)) (fun h=>?_)
  refine Ev.gd (by omega) ?_
  have hl:=vK (c:=s) (j:=v) (by omega) (by omega)
  refine Ev.gd (by (first|omega|(simp[cM]<;>omega))) (Ev.gd (by (first|omega|(simp[cM]<;>omega))) ?_)
  refine Ev.bind (oX hm) (fun _ q=>q) fun y hy=>?_
  refine Ev.bN (fun _=>Ev.ok (.inl rfl)) (fun he=>?_)
  have h1:([34]++jJ s v++[34])[1]?=some (92:UInt8):=by
   cases s with
   | nil=>simp at h0
   | cons a s=>
    simp at h0;subst h0
    have:v.toNat=(v.toNat - 1)+1:=by omega
    simp[jJ];rw[this];simp
  have:=hy.2 _ h1 (by decide) he
  refine Ev.el (by omega) (by omega) fun b _=>Ev.ok (.inr ⟨hv,by dsimp only;omega⟩)
 ·refine Ev.bind pF (fun _ q=>q) fun y _=>?_
  (repeat' (first|((with_reducible first|refine Ev.gd ?_ ?_|refine Ev.kc ?_ (fun _ _=>?_));(next=>(first|omega|(simp[bA,cB,cM,maxLen]<;>omega))))|(with_reducible first|refine Ev.cw ?_|refine Ev.b7 ?_|refine Ev.aU (fun _=>?_) (fun _=>?_)|refine Ev.bk (fun _=>?_) (fun _=>?_)|refine Ev.bN (fun _=>?_) (fun _=>?_)|refine Ev.bh (fun _=>?_) (fun _=>?_)|refine Ev.br (fun _=>?_) (fun _=>?_))|((with_reducible refine Ev.jd ?_);try dsimp only)))
  all_goals exact hj _ (by omega)
def yi (n:Nat) (x:aQ):Prop:=0≤x.Pos∧x.Pos≤n∧(x.Code=true→x.Pos+x.Text.length<n)
theorem n9 {t:List Int} {out:List aQ} {f:Int} (ho:out.length≤70000) :
  Ev (fun _=>jY t out f) (fun r=>r.1=[]∧r.2.2=f∧((t=[]∧r.2.1=out)∨(1≤t.length∧∃ x:aQ,r.2.1=out++[x]∧x.Code=false∧x.Pos=f))) gh:=by
 unfold jY
 (repeat' (first|((with_reducible first|refine Ev.gd ?_ ?_|refine Ev.kc ?_ (fun _ _=>?_));(next=>(first|omega|(simp[cB,maxLen]<;>omega))))|(with_reducible first|refine Ev.cw ?_|refine Ev.b7 ?_|refine Ev.aU (fun _=>?_) (fun _=>?_)|refine Ev.bk (fun _=>?_) (fun _=>?_)|refine Ev.bN (fun _=>?_) (fun _=>?_)|refine Ev.bh (fun _=>?_) (fun _=>?_)|refine Ev.br (fun _=>?_) (fun _=>?_))|((with_reducible refine Ev.jd ?_);try dsimp only)))
 ·exact Ev.ok ⟨rfl,rfl,.inr ⟨by omega,_,rfl,rfl,rfl⟩⟩
 ·exact Ev.ok ⟨rfl,rfl,.inl ⟨List.eq_nil_of_length_eq_zero (by omega),rfl⟩⟩
theorem p9 {m:Nat→Nat} (hm:bZ m) {s:List UInt8} (hs:s.length≤65536):Ev (fun i=>lf (m i) s) (fun r=>r.1.length≤s.length∧∀ x,x∈r.1→yi s.length x) gh:=by
 unfold lf
 refine Ev.iter hm (fun (x:List aQ×List Int×Int×Int)=>0≤x.2.2.2∧x.2.2.2≤s.length∧0≤x.2.2.1∧x.2.2.1≤s.length∧(x.1.length:Int)+min 1 x.2.1.length≤x.2.2.2∧(x.2.1.length:Int)≤x.2.2.2∧∀ p,p∈x.1→yi s.length p)
  (fun x=>(s.length - x.2.2.2).toNat) (by simp) ?_
 rintro ⟨out,t,f,i⟩ ⟨h1,h2,h3,h4,h5,h6,h7⟩ next hn
 dsimp only at h1 h2 h3 h4 h5 h6 h7 hn ⊢
 refine Ev.aU (fun hi=>?_) (fun hi=>?_)
 ·refine Ev.jn (fun v=>0≤v∧v≤s.length) (fun v hv=>?_) (fun j hj=>?_)
  ·refine Ev.gd (by omega) (Ev.bind pF (fun _ q=>q) fun y hy=>?_)
   refine Ev.br (fun hp=>?_) (fun _=>?_)
   ·refine Ev.gd (by (first|omega|(simp[bA]<;>omega))) (Ev.gd (by omega) ?_)
    have hl:=kf (c:=s) (i:=i+1) (by omega) (by omega)
    refine Ev.bind (vl hm (by omega)) (fun _ q=>q) fun c hc=>?_
    refine Ev.bh (fun _=>Ev.ok ⟨by simp,fun _ h=>by cases h⟩) (fun hct=>?_)
    have hc2:=hc hct
    refine Ev.bind (n9 (by omega)) (fun _ q=>q) fun r hr=>?_
    obtain ⟨r1,r2,r3⟩:=hr
    have hr4:(r.2.1.length:Int)≤i∧∀ p,p∈r.2.1→yi s.length p:=by
     rcases r3 with ⟨a,b⟩|⟨a,x,b,c1,c2⟩
     ·rw[b];subst a;exact ⟨by simp at h5;omega,h7⟩
     ·rw[b];refine ⟨by simp;omega,fun p hp=>?_⟩
      rcases List.mem_append.1 hp with q|q
      ·exact h7 p q
      ·simp at q;subst q;exact ⟨by omega,by omega,fun q=>by rw[c1] at q;cases q⟩
    (repeat' (first|((with_reducible first|refine Ev.gd ?_ ?_|refine Ev.kc ?_ (fun _ _=>?_));(next=>(first|omega|(simp[bA,cB,maxLen]<;>omega))))|(with_reducible first|refine Ev.cw ?_|refine Ev.b7 ?_|refine Ev.aU (fun _=>?_) (fun _=>?_)|refine Ev.bk (fun _=>?_) (fun _=>?_)|refine Ev.bN (fun _=>?_) (fun _=>?_)|refine Ev.bh (fun _=>?_) (fun _=>?_)|refine Ev.br (fun _=>?_) (fun _=>?_))|((with_reducible refine Ev.jd ?_);try dsimp only)))
    refine hn _ ⟨by dsimp only;omega,by dsimp only;omega,by dsimp only;omega,by dsimp only;omega,by rw[r1];simp;omega,by rw[r1];simp;omega,fun p hp=>?_⟩ (by dsimp only;omega)
    rcases List.mem_append.1 hp with q|q
    ·exact hr4.2 p q
    ·simp at q;subst q;exact ⟨by dsimp only;omega,by dsimp only;omega,fun _=>by dsimp only;omega⟩
   ·refine Ev.el (by omega) (by omega) (fun b hb=>?_)
    refine Ev.bk (fun h92=>?_) (fun _=>?_)
    ·refine Ev.gd (by omega) ?_
     have hl:=kf (c:=s) (i:=i) (by omega) (by omega)
     have h0:(dO s i)[0]?=some (92:UInt8):=by
      simp only[dO,List.getElem?_drop,Nat.add_zero,hb]
      congr 1
      apply UInt8.toNat_inj.1;show b.toNat=92;omega
     refine Ev.bind (tG hm (by omega) h0) (fun _ q=>q) fun e he=>?_
     refine Ev.bk (fun _=>Ev.ok ⟨by simp,fun _ h=>by cases h⟩) (fun hne=>?_)
     (repeat' (first|((with_reducible first|refine Ev.gd ?_ ?_|refine Ev.kc ?_ (fun _ _=>?_));(next=>(first|omega|(simp[bA,cB,maxLen]<;>omega))))|(with_reducible first|refine Ev.cw ?_|refine Ev.b7 ?_|refine Ev.aU (fun _=>?_) (fun _=>?_)|refine Ev.bk (fun _=>?_) (fun _=>?_)|refine Ev.bN (fun _=>?_) (fun _=>?_)|refine Ev.bh (fun _=>?_) (fun _=>?_)|refine Ev.br (fun _=>?_) (fun _=>?_))|((with_reducible refine Ev.jd ?_);try dsimp only)))
     exact hn _ ⟨by dsimp only;omega,by dsimp only;omega,hv.1,hv.2,by simp;omega,by simp;omega,h7⟩ (by dsimp only;omega)
    ·refine Ev.jn (fun _=>True) (fun w _=>?_) (fun j2 hj2=>?_)
     ·refine Ev.br (fun _=>Ev.ok ⟨by simp,fun _ h=>by cases h⟩) (fun _=>?_)
      (repeat' (first|((with_reducible first|refine Ev.gd ?_ ?_|refine Ev.kc ?_ (fun _ _=>?_));(next=>(first|omega|(simp[bA,cB,maxLen]<;>omega))))|(with_reducible first|refine Ev.cw ?_|refine Ev.b7 ?_|refine Ev.aU (fun _=>?_) (fun _=>?_)|refine Ev.bk (fun _=>?_) (fun _=>?_)|refine Ev.bN (fun _=>?_) (fun _=>?_)|refine Ev.bh (fun _=>?_) (fun _=>?_)|refine Ev.br (fun _=>?_) (fun _=>?_))|((with_reducible refine Ev.jd ?_);try dsimp only)))
      exact hn _ ⟨by dsimp only;omega,by dsimp only;omega,hv.1,hv.2,by simp;omega,by simp;omega,h7⟩ (by dsimp only;omega)
     ·(repeat' (first|((with_reducible first|refine Ev.gd ?_ ?_|refine Ev.kc ?_ (fun _ _=>?_));(next=>(first|omega|(simp[bA,cB,cM,maxLen]<;>omega))))|(with_reducible first|refine Ev.cw ?_|refine Ev.b7 ?_|refine Ev.aU (fun _=>?_) (fun _=>?_)|refine Ev.bk (fun _=>?_) (fun _=>?_)|refine Ev.bN (fun _=>?_) (fun _=>?_)|refine Ev.bh (fun _=>?_) (fun _=>?_)|refine Ev.br (fun _=>?_) (fun _=>?_))|((with_reducible refine Ev.jd ?_);try dsimp only)))
      all_goals exact hj2 _ trivial
  ·(repeat' (first|((with_reducible first|refine Ev.gd ?_ ?_|refine Ev.kc ?_ (fun _ _=>?_));(next=>(first|omega|(simp[bA,cB,cM,maxLen]<;>omega))))|(with_reducible first|refine Ev.cw ?_|refine Ev.b7 ?_|refine Ev.aU (fun _=>?_) (fun _=>?_)|refine Ev.bk (fun _=>?_) (fun _=>?_)|refine Ev.bN (fun _=>?_) (fun _=>?_)|refine Ev.bh (fun _=>?_) (fun _=>?_)|refine Ev.br (fun _=>?_) (fun _=>?_))|((with_reducible refine Ev.jd ?_);try dsimp only)))
   all_goals exact hj _ (by omega)
 ·refine Ev.bind (n9 (by omega)) (fun _ q=>q) fun r hr=>?_
  obtain ⟨r1,r2,r3⟩:=hr
  refine Ev.ok ?_
  rcases r3 with ⟨a,b⟩|⟨a,x,b,c1,c2⟩
  ·dsimp only;rw[b];exact ⟨by omega,h7⟩
  ·dsimp only;rw[b];refine ⟨by simp;omega,fun p hp=>?_⟩
   rcases List.mem_append.1 hp with q|q
   ·exact h7 p q
   ·simp at q;subst q;exact ⟨by omega,by omega,fun q=>by rw[c1] at q;cases q⟩
structure Ft (a:Int) (t:aK):Prop where
 p0:0≤t.Pos
 pe:t.Pos<t.End
 e:t.End≤a
 k:t.Kind≠0
 ip:t.Kind=4→(t.Text.length:Int)+2≤t.End - t.Pos
 tl:t.Text.length≤65536
structure tu (a:Int) (l:List aK):Prop where
 len:(l.length:Int)≤a
 ok:∀ t,t∈l→Ft a t
 sorted:l.Pairwise fun t u=>t.End≤u.Pos
theorem tu.snoc {a:Int} {l:List aK} (h:tu a l) {t:aK} (h1:t.Pos=a) (h2:a<t.End) (h0:0≤a) (hk:t.Kind≠0) (hi:t.Kind=4→(t.Text.length:Int)+2≤t.End - t.Pos) (hl:t.Text.length≤65536):tu t.End (l++[t]):=by
 refine ⟨by have:=h.len;simp;omega,fun u hu=>?_,?_⟩
 ·rcases List.mem_append.1 hu with q|q
  ·obtain ⟨a1,a2,a3,a4,a5,a6⟩:=h.ok u q
   exact ⟨a1,a2,by omega,a4,a5,a6⟩
  ·simp at q;subst q;exact ⟨by omega,by omega,by omega,hk,hi,hl⟩
 ·refine List.pairwise_append.2 ⟨h.sorted,by simp,fun u hu v hv=>?_⟩
  simp at hv;subst hv
  have:=(h.ok u hu).e;omega
theorem tu.mono {a b:Int} {l:List aK} (h:tu a l) (hab:a≤b):tu b l:=
 ⟨by have:=h.len;omega,fun t ht=>let q:=h.ok t ht;⟨q.p0,q.pe,by have:=q.e;omega,q.k,q.ip,q.tl⟩,h.sorted⟩
structure xP (s:List UInt8) (x:bm):Prop where
 text:x.text=s
 u2:0≤x.at_
 vM:x.at_≤s.length
 out:tu x.at_ x.out
theorem mf {k n:Int} {t:List UInt8} {x:bm} (h0:0≤x.at_) (h1:x.at_≤70000) (hn:0≤n) (hn2:n≤70000) (ho:x.out.length≤70000) (ht:t.length≤70000) :
  Ev (fun _=>bJ k t n x) (fun r=>r.text=x.text∧r.at_=x.at_+n∧r.out=x.out++[aK.mk k t x.at_ (x.at_+n)]) gh:=by
 unfold bJ
 refine Ev.gd (by (first|omega|(simp[bA]<;>omega))) (Ev.gd (by (first|omega|(simp[cB,maxLen]<;>omega))) (Ev.gd (by (first|omega|(simp[bA]<;>omega))) (Ev.bk (fun _=>Ev.ok ⟨rfl,rfl,rfl⟩) (fun _=>?_))))
 refine Ev.jn (fun _=>True) (fun v _=>?_) (fun j hj=>?_)
 ·refine Ev.br (fun _=>Ev.ok ⟨rfl,rfl,rfl⟩) (fun _=>?_)
  refine Ev.bk (fun _=>?_) (fun _=>Ev.ok ⟨rfl,rfl,rfl⟩)
  (repeat' (first|((with_reducible first|refine Ev.gd ?_ ?_|refine Ev.kc ?_ (fun _ _=>?_));(next=>(first|omega|(simp[cM]<;>omega))))|(with_reducible first|refine Ev.cw ?_|refine Ev.b7 ?_|refine Ev.aU (fun _=>?_) (fun _=>?_)|refine Ev.bk (fun _=>?_) (fun _=>?_)|refine Ev.bN (fun _=>?_) (fun _=>?_)|refine Ev.bh (fun _=>?_) (fun _=>?_)|refine Ev.br (fun _=>?_) (fun _=>?_))|((with_reducible refine Ev.jd ?_);try dsimp only)))
  exact Ev.bind (n8 (by simp)) (fun _ q=>q) fun y _=>Ev.ok ⟨rfl,rfl,rfl⟩
 ·(repeat' (first|((with_reducible first|refine Ev.gd ?_ ?_|refine Ev.kc ?_ (fun _ _=>?_));(next=>(first|omega|(simp[bA,cB,cM,maxLen]<;>omega))))|(with_reducible first|refine Ev.cw ?_|refine Ev.b7 ?_|refine Ev.aU (fun _=>?_) (fun _=>?_)|refine Ev.bk (fun _=>?_) (fun _=>?_)|refine Ev.bN (fun _=>?_) (fun _=>?_)|refine Ev.bh (fun _=>?_) (fun _=>?_)|refine Ev.br (fun _=>?_) (fun _=>?_))|((with_reducible refine Ev.jd ?_);try dsimp only)))
  all_goals exact hj _ trivial
theorem xP.add {s:List UInt8} (hs:s.length≤65536) {x:bm} (h:xP s x) {k n:Int} {t:List UInt8} (hn:1≤n) (hn2:x.at_+n≤s.length) (ht:t.length≤65536) (hk:k≠0) (hi:k=4→(t.length:Int)+2≤n) :
  Ev (fun _=>bJ k t n x) (fun r=>xP s r∧x.at_<r.at_) gh:=by
 have hl:=h.out.len
 have h0:=h.u2
 have h1:=h.vM
 refine (mf (k:=k) (t:=t) h0 (by omega) (by omega) (by omega) (by omega) (by omega)).Bv fun r hr=>?_
 refine ⟨⟨by rw[hr.1];exact h.text,by omega,by omega,?_⟩,by omega⟩
 rw[hr.2.1,hr.2.2]
 have:=h.out.snoc (t:=aK.mk k t x.at_ (x.at_+n)) rfl (by dsimp only;omega) h0 hk (fun q=>by have:=hi q;dsimp only;omega) ht
 exact this
theorem rf {m:Nat→Nat} (hm:bZ m) {s:List UInt8} (hs:s.length≤65536) {x:bm} (h:xP s x) :
  Ev (fun i=>fV (m i) x) (fun r=>xP s r.2∧(r.1=true→x.at_<r.2.at_)) gh:=by
 have hl:=h.out.len
 have h0:=h.u2
 have h1:=h.vM
 have ht:=h.text
 unfold fV
 simp only[ht]
 refine Ev.gd (by omega) ?_
 have hq:=kf (c:=s) (i:=x.at_) (by omega) (by omega)
 refine Ev.bind (s5 hm (by omega)) (fun _ q=>q) fun y hy=>?_
 refine Ev.bk (fun _=>Ev.ok ⟨h,by simp⟩) (fun hne=>?_)
 refine Ev.gd (by (first|omega|(simp[bA]<;>omega))) (Ev.gd (by omega) ?_)
 have hq2:=ry (c:=s) (i:=x.at_) (j:=x.at_+y.1) (by omega) (by omega) (by omega)
 refine Ev.br (fun _=>?_) (fun _=>?_)
 ·refine Ev.gd (by (first|omega|(simp[bA]<;>omega))) (Ev.gd (by omega) ?_)
  have hq3:=ry (c:=sub s x.at_ (x.at_+y.1)) (i:=1) (j:=y.1 - 1) (by omega) (by omega) (by omega)
  refine Ev.bind (p9 hm (by omega)) (fun _ q=>q) fun z _=>?_
  refine Ev.bN (fun _=>Ev.ok ⟨h,by simp⟩) (fun _=>?_)
  refine Ev.gd (by (first|omega|(simp[bA]<;>omega))) (Ev.gd (by omega) ?_)
  refine Ev.bind (h.add hs (by omega) (by omega) (by omega) (by decide) (fun _=>by omega)) (fun _ q=>q) fun r hr=>Ev.ok ⟨hr.1,fun _=>hr.2⟩
 ·refine Ev.bind (oX hm) (fun _ q=>q) fun z hz=>?_
  refine Ev.bN (fun _=>Ev.ok ⟨h,by simp⟩) (fun _=>?_)
  refine Ev.bind (h.add hs (by omega) (by omega) (by omega) (by decide) (fun q=>by simp at q)) (fun _ q=>q) fun r hr=>Ev.ok ⟨hr.1,fun _=>hr.2⟩
theorem zJ:∀ (s p:List UInt8) (i:Nat),oR s p=some i→i≤s.length
 | [],p,i,h=>by
  unfold oR at h;split at h
  ·cases h;simp
  ·cases h
 | b::l,p,i,h=>by
  unfold oR at h;split at h
  ·cases h;simp
  ·cases q:oR l p with
   | none=>rw[q] at h;cases h
   | some k=>rw[q] at h;cases h;have:=zJ l p k q;simp;omega
theorem Aj {s p:List UInt8} (h:(jJ s p.length==p)=true):∃ r,s=p++r:=by
 have:=beq_iff_eq.1 h
 simp only[jJ,Int.toNat_natCast] at this
 exact ⟨s.drop p.length,by conv=>lhs;rw[← List.take_append_drop p.length s,this]⟩
theorem vm {s p:List UInt8}:Ev (fun _=>strings_HasPrefix s p) (fun r=>r=true→∃ q,s=p++q) gh:=by
 unfold strings_HasPrefix stringslite_HasPrefix
 refine Ev.bind (Q:=fun r=>r=true→∃ q,s=p++q) (R':=gh) ?_ (fun _ q=>q) fun _ h=>Ev.ok h
 (repeat' (first|((with_reducible first|refine Ev.gd ?_ ?_|refine Ev.kc ?_ (fun _ _=>?_));(next=>(first|omega|(simp[bA,cB,cM,maxLen]<;>omega))))|(with_reducible first|refine Ev.cw ?_|refine Ev.b7 ?_|refine Ev.aU (fun _=>?_) (fun _=>?_)|refine Ev.bk (fun _=>?_) (fun _=>?_)|refine Ev.bN (fun _=>?_) (fun _=>?_)|refine Ev.bh (fun _=>?_) (fun _=>?_)|refine Ev.br (fun _=>?_) (fun _=>?_))|((with_reducible refine Ev.jd ?_);try dsimp only)))
 ·exact Ev.ok (fun h=>Aj h)
 ·exact Ev.ok (by simp)
theorem qo {m:Nat→Nat} (hm:bZ m) {s:List UInt8} (hs:s.length≤65536) {x:bm} (h:xP s x) (hlt:x.at_<s.length) :
  Ev (fun i=>de (m i) x) (fun r=>xP s r.2∧(r.1=true→x.at_<r.2.at_)) gh:=by
 have hl:=h.out.len
 have h0:=h.u2
 have h1:=h.vM
 have ht:=h.text
 unfold de
 simp only[ht]
 refine Ev.gd (by omega) ?_
 have hq:=kf (c:=s) (i:=x.at_) (by omega) (by omega)
 refine Ev.bind vm (fun _ q=>q) fun y hy=>?_
 refine Ev.br (fun hp=>?_) (fun _=>?_)
 ·obtain ⟨r,hr⟩:=hy hp
  rw[hr] at hq ⊢
  refine Ev.uz (Q:=fun c=>2≤c.1.length∧c.1.length≤([47,47]++r:List UInt8).length) ?_ fun c hc=>?_
  ·unfold strings_Cut
   refine Ev.gd (by omega) (Ev.ok ?_)
   split
   ·rename_i i hi
    have:=zJ _ _ _ hi
    refine ⟨?_,by simp;omega⟩
    have h2:2≤i:=by
     cases q:oR r [10] with
     | none=>simp[oR,q] at hi
     | some k=>simp[oR,q] at hi;omega
    simp at this ⊢;omega
   ·simp
  ·refine Ev.gd (by omega) ?_
   have:=kf (c:=c.1) (i:=2) (by omega) (by omega)
   refine Ev.bind (h.add hs (by omega) (by omega) (by omega) (by decide) (fun q=>by simp at q)) (fun _ q=>q) fun r hr=>Ev.ok ⟨hr.1,fun _=>hr.2⟩
 ·refine Ev.bind (vk hm (by omega)) (fun _ q=>q) fun y hy=>?_
  refine Ev.aU (fun hp=>?_) (fun _=>?_)
  ·refine Ev.gd (by omega) ?_
   have:=uA (c:=dO s x.at_) (j:=y)
   refine Ev.bind (h.add hs (by omega) (by omega) (by omega) (by decide) (fun q=>by simp at q)) (fun _ q=>q) fun r hr=>Ev.ok ⟨hr.1,fun _=>hr.2⟩
  ·refine Ev.el (by omega) (by omega) (fun b hb=>?_)
   refine Ev.bind ka (fun _ q=>q) fun d hd=>?_
   refine Ev.br (fun hdt=>?_) (fun _=>?_)
   ·rw[hd] at hdt
    have hdd:=of_decide_eq_true hdt
    refine Ev.bind (tE hm (by omega)) (fun _ q=>q) fun y hy=>?_
    have hy1:=hy.2.2 b hb hdd.1 hdd.2
    refine Ev.gd (by omega) ?_
    have:=uA (c:=dO s x.at_) (j:=y)
    refine Ev.bind (qU hm) (fun _ q=>q) fun z _=>?_
    refine Ev.bN (fun _=>Ev.ok ⟨h,by simp⟩) (fun _=>?_)
    refine Ev.gd (by omega) ?_
    refine Ev.bind (h.add hs (by omega) (by omega) (by omega) (by decide) (fun q=>by simp at q)) (fun _ q=>q) fun r hr=>Ev.ok ⟨hr.1,fun _=>hr.2⟩
   ·refine Ev.bk (fun _=>?_) (fun _=>?_)
    ·exact Ev.bind (rf hm hs h) (fun _ q=>q) fun r hr=>Ev.ok hr
    ·refine Ev.bind (sv hm) (fun _ q=>q) fun y hy=>?_
     refine Ev.bk (fun _=>Ev.ok ⟨h,by simp⟩) (fun hne=>?_)
     have:1≤y.length:=by
      cases y with
      | nil=>exact absurd rfl hne
      | cons=>simp
     refine Ev.bind (h.add hs (by omega) (by omega) (by omega) (by decide) (fun q=>by simp at q)) (fun _ q=>q) fun r hr=>Ev.ok ⟨hr.1,fun _=>hr.2⟩
structure Et (s:List UInt8) (bd:List aK):Prop where
 Gc:s.length≤65536
 is:∃ l,bd=l++[aK.mk 0 [] s.length s.length]∧tu s.length l
theorem oB {m:Nat→Nat} (hm:bZ m) {s:List UInt8}:Ev (fun i=>gD (m i) s) (fun r=>0≤r.2.At∧r.2.At≤s.length∧(r.2.Errno=0→r.2.At=0∧Et s r.1)) gh:=by
 unfold gD
 refine Ev.aU (fun _=>Ev.ok ⟨by simp,by simp,by simp⟩) (fun h=>?_)
 refine Ev.iter hm (fun (x:bm)=>xP s x) (fun x=>(s.length - x.at_).toNat) ⟨rfl,by simp,by simp,by simp,by simp,by simp⟩ ?_
 intro x hx next hn
 have hl:=hx.out.len
 have h0:=hx.u2
 have h1:=hx.vM
 refine Ev.aU (fun hlt=>?_) (fun hge=>?_)
 ·refine Ev.el (by omega) (by omega) (fun b hb=>?_)
  refine Ev.jn (fun _=>True) (fun v _=>?_) (fun j hj=>?_)
  ·refine Ev.gd (by (first|omega|(simp[bA]<;>omega))) (hn _ ⟨hx.text,by dsimp only;omega,by dsimp only;omega,hx.out.mono (by dsimp only;omega)⟩ (by dsimp only;omega))
  ·refine Ev.bk (fun _=>?_) (fun _=>?_)
   ·refine Ev.br (fun _=>?_) (fun _=>hj _ trivial)
    refine Ev.bind (hx.add (by omega) (by omega) (by omega) (by simp) (by decide) (fun q=>by simp at q)) (fun _ q=>q) fun r hr=>?_
    exact hn _ ⟨hr.1.text,hr.1.u2,hr.1.vM,hr.1.out⟩ (by have:=hr.1.vM;dsimp only;omega)
   ·(repeat' (first|((with_reducible first|refine Ev.gd ?_ ?_|refine Ev.kc ?_ (fun _ _=>?_));(next=>(first|omega|(simp[bA,cB,cM,maxLen]<;>omega))))|(with_reducible first|refine Ev.cw ?_|refine Ev.b7 ?_|refine Ev.aU (fun _=>?_) (fun _=>?_)|refine Ev.bk (fun _=>?_) (fun _=>?_)|refine Ev.bN (fun _=>?_) (fun _=>?_)|refine Ev.bh (fun _=>?_) (fun _=>?_)|refine Ev.br (fun _=>?_) (fun _=>?_))|((with_reducible refine Ev.jd ?_);try dsimp only)))
    all_goals first|exact hj _ trivial|skip
    refine Ev.bind (qo hm (by omega) hx hlt) (fun _ q=>q) fun r hr=>?_
    refine Ev.bh (fun _=>Ev.ok ⟨hr.1.u2,hr.1.vM,by simp⟩) (fun hb=>hn _ hr.1 (by have:=hr.1.vM;have:=hr.2 hb;omega))
 ·have:x.at_=s.length:=by omega
  refine Ev.bind (mf (by omega) (by omega) (by omega) (by omega) (by omega) (by simp)) (fun _ q=>q) fun r hr=>?_
  refine Ev.ok ⟨by simp,by simp,fun _=>⟨rfl,by omega,x.out,?_,this▸hx.out⟩⟩
  rw[hr.2.2,this];simp
end Go.Abs
end
section
namespace Go.Abs
open aq
theorem wrap_i64 {x:Int} (h0:-9223372036854775808≤x) (h1:x≤9223372036854775807):IntKind.wrap .i64 x=x:=by
 have:IntKind.wrap .i64 x=if x % 18446744073709551616≥9223372036854775808 then x % 18446744073709551616 - 18446744073709551616 else x % 18446744073709551616:=by
  simp[IntKind.wrap,IntKind.bits,IntKind.signed]
 rw[this];split<;>omega
theorem CQ {v:Int} (h0:0≤v) (h1:v<256):0≤IntKind.wrap .i64 (Int.tdiv v 64)∧IntKind.wrap .i64 (Int.tdiv v 64)<4:=by
 have:Int.tdiv v 64=v / 64:=Int.tdiv_eq_ediv_of_nonneg h0
 rw[this,wrap_i64 (by omega) (by omega)];omega
theorem fy {m:Nat→Nat} (hm:bZ m) {a b:Int}:Ev (fun i=>fS (m i) a b) (fun _=>True) gh:=by
 unfold fS
 refine Ev.iter hm (fun (x:eY×Int)=>0≤x.2∧x.2≤256) (fun x=>(256 - x.2).toNat) (by simp) ?_
 intro x hx next hn
 refine Ev.aU (fun h=>?_) (fun _=>Ev.ok trivial)
 have hw:=CQ hx.1 h
 have ht:0≤Int.tmod x.2 64:=Int.tmod_nonneg _ hx.1
 refine Ev.jn (fun _=>True) (fun v _=>?_) (fun j hj=>?_)
 ·refine Ev.br (fun _=>?_) (fun _=>?_)
  ·refine Ev.gd (by omega) (Ev.gd hw (Ev.gd (by omega) (Ev.gd ht (Ev.gd hw (Ev.gd (by (first|omega|(simp[bA]<;>omega))) ?_)))))
   exact hn _ (by dsimp only;omega) (by dsimp only;omega)
  ·refine Ev.gd (by (first|omega|(simp[bA]<;>omega))) ?_
   exact hn _ (by dsimp only;omega) (by dsimp only;omega)
 ·(repeat' (first|((with_reducible first|refine Ev.gd ?_ ?_|refine Ev.kc ?_ (fun _ _=>?_));(next=>(first|omega|(simp[bA,cB,cM,maxLen]<;>omega))))|(with_reducible first|refine Ev.cw ?_|refine Ev.b7 ?_|refine Ev.aU (fun _=>?_) (fun _=>?_)|refine Ev.bk (fun _=>?_) (fun _=>?_)|refine Ev.bN (fun _=>?_) (fun _=>?_)|refine Ev.bh (fun _=>?_) (fun _=>?_)|refine Ev.br (fun _=>?_) (fun _=>?_))|((with_reducible refine Ev.jd ?_);try dsimp only)))
  all_goals exact hj _ trivial
theorem iC {m:Nat→Nat} (hm:bZ m) {a b:eY}:Ev (fun i=>iA (m i) a b) (fun _=>True) gh:=by
 unfold iA
 refine Ev.iter hm (fun (x:eY×Int)=>0≤x.2∧x.2≤4) (fun x=>(4 - x.2).toNat) (by simp) ?_
 intro x hx next hn
 (repeat' (first|((with_reducible first|refine Ev.gd ?_ ?_|refine Ev.kc ?_ (fun _ _=>?_));(next=>(first|omega|(simp[bA]<;>omega))))|(with_reducible first|refine Ev.cw ?_|refine Ev.b7 ?_|refine Ev.aU (fun _=>?_) (fun _=>?_)|refine Ev.bk (fun _=>?_) (fun _=>?_)|refine Ev.bN (fun _=>?_) (fun _=>?_)|refine Ev.bh (fun _=>?_) (fun _=>?_)|refine Ev.br (fun _=>?_) (fun _=>?_))|((with_reducible refine Ev.jd ?_);try dsimp only)))
 ·exact hn _ (by dsimp only;omega) (by dsimp only;omega)
 ·exact Ev.ok trivial
theorem uM {m:Nat→Nat} (hm:bZ m) {a:eY}:Ev (fun i=>n7 (m i) a) (fun _=>True) gh:=by
 unfold n7
 refine Ev.iter hm (fun (x:eY×Int)=>0≤x.2∧x.2≤4) (fun x=>(4 - x.2).toNat) (by simp) ?_
 intro x hx next hn
 (repeat' (first|((with_reducible first|refine Ev.gd ?_ ?_|refine Ev.kc ?_ (fun _ _=>?_));(next=>(first|omega|(simp[bA]<;>omega))))|(with_reducible first|refine Ev.cw ?_|refine Ev.b7 ?_|refine Ev.aU (fun _=>?_) (fun _=>?_)|refine Ev.bk (fun _=>?_) (fun _=>?_)|refine Ev.bN (fun _=>?_) (fun _=>?_)|refine Ev.bh (fun _=>?_) (fun _=>?_)|refine Ev.br (fun _=>?_) (fun _=>?_))|((with_reducible refine Ev.jd ?_);try dsimp only)))
 ·exact hn _ (by dsimp only;omega) (by dsimp only;omega)
 ·exact Ev.ok trivial
inductive vn:aM→Prop where
 | mk {k a b c d:Int} {l:List aM} (h:l.length≤70000) (hs:∀ x,x∈l→vn x):vn (aM.mk k a b c d l)
theorem vn.leaf {k a b c d:Int}:vn (aM.mk k a b c d []):=.mk (by simp) (by simp)
theorem uN {m:Nat→Nat} (hm:bZ m) {c:Int}:Ev (fun i=>nZ (m i) c) (fun _=>True) gh:=by
 unfold nZ
 refine Ev.bind (fy hm) (fun _ q=>q) fun _ _=>?_
 (repeat' (first|((with_reducible first|refine Ev.gd ?_ ?_|refine Ev.kc ?_ (fun _ _=>?_));(next=>(first|omega|(simp[bA,cB,cM,maxLen]<;>omega))))|(with_reducible first|refine Ev.cw ?_|refine Ev.b7 ?_|refine Ev.aU (fun _=>?_) (fun _=>?_)|refine Ev.bk (fun _=>?_) (fun _=>?_)|refine Ev.bN (fun _=>?_) (fun _=>?_)|refine Ev.bh (fun _=>?_) (fun _=>?_)|refine Ev.br (fun _=>?_) (fun _=>?_))|((with_reducible refine Ev.jd ?_);try dsimp only)))
 ·exact Ev.ok trivial
 ·refine Ev.bind (fy hm) (fun _ q=>q) fun _ _=>Ev.bind (fy hm) (fun _ q=>q) fun _ _=>Ev.bind (iC hm) (fun _ q=>q) fun _ _=>Ev.bind (iC hm) (fun _ q=>q) fun _ _=>Ev.bind (fy hm) (fun _ q=>q) fun _ _=>Ev.bind (iC hm) (fun _ q=>q) fun _ _=>Ev.ok trivial
 ·refine Ev.bind (fy hm) (fun _ q=>q) fun _ _=>Ev.bind (fy hm) (fun _ q=>q) fun _ _=>Ev.bind (iC hm) (fun _ q=>q) fun _ _=>Ev.bind (fy hm) (fun _ q=>q) fun _ _=>Ev.bind (iC hm) (fun _ q=>q) fun _ _=>Ev.ok trivial
 ·exact Ev.ok trivial
theorem pK {m:Nat→Nat} (hm:bZ m) {c:Int}:Ev (fun i=>nj (m i) c) vn gh:=by
 unfold nj
 exact Ev.bind (fy hm) (fun _ q=>q) fun _ _=>Ev.ok .leaf
def RP:pj→Prop:=fun p=>∃ v:Int,p=⟨202,[.sc (.int .i64 v)]⟩
theorem rS {α:Type} {a:Int} {p:ak} {K:Nat→ak→aq α} {Q:α→Prop}:Ev (fun i=>aq.bind (cY a p) (K i)) Q RP:=by
 unfold cY
 exact Ev.ll ⟨a,rfl⟩
structure RI (s:List UInt8) (p:ak):Prop where
 text:p.text=s
 u2:0≤p.at_
 vM:p.at_≤s.length
theorem cl {s:List UInt8} {p:ak} (h:RI s p):Ev (fun _=>ck p) (fun r=>r.2=p∧(r.1≠0→p.at_<s.length)) gh:=by
 have h0:=h.u2
 have ht:=h.text
 unfold ck
 rw[ht]
 (repeat' (first|((with_reducible first|refine Ev.gd ?_ ?_|refine Ev.kc ?_ (fun _ _=>?_));(next=>(first|omega|(simp[bA,cB,cM,maxLen]<;>omega))))|(with_reducible first|refine Ev.cw ?_|refine Ev.b7 ?_|refine Ev.aU (fun _=>?_) (fun _=>?_)|refine Ev.bk (fun _=>?_) (fun _=>?_)|refine Ev.bN (fun _=>?_) (fun _=>?_)|refine Ev.bh (fun _=>?_) (fun _=>?_)|refine Ev.br (fun _=>?_) (fun _=>?_))|((with_reducible refine Ev.jd ?_);try dsimp only)))
 ·exact Ev.ok ⟨rfl,fun _=>by omega⟩
 ·exact Ev.ok ⟨rfl,fun h=>absurd rfl h⟩
theorem uO {c:Int}:Ev (fun _=>n5 c) (fun r=>r.2=true→c≠0) gh:=by
 unfold n5
 refine Ev.jn (fun v=>v=true→c≠0) (fun v hv=>?_) (fun j hj=>?_)
 ·refine Ev.br (fun h=>Ev.ok fun _=>hv h) (fun _=>?_)
  refine Ev.jn (fun v=>v=true→c≠0) (fun v hv=>?_) (fun j hj=>?_)
  ·refine Ev.br (fun h=>Ev.ok fun _=>hv h) (fun _=>?_)
   (repeat' (first|((with_reducible first|refine Ev.gd ?_ ?_|refine Ev.kc ?_ (fun _ _=>?_));(next=>(first|omega|(simp[bA,cB,cM,maxLen]<;>omega))))|(with_reducible first|refine Ev.cw ?_|refine Ev.b7 ?_|refine Ev.aU (fun _=>?_) (fun _=>?_)|refine Ev.bk (fun _=>?_) (fun _=>?_)|refine Ev.bN (fun _=>?_) (fun _=>?_)|refine Ev.bh (fun _=>?_) (fun _=>?_)|refine Ev.br (fun _=>?_) (fun _=>?_))|((with_reducible refine Ev.jd ?_);try dsimp only)))
   ·exact Ev.ok fun _=>by omega
   all_goals exact Ev.ok (by simp)
  ·(repeat' (first|((with_reducible first|refine Ev.gd ?_ ?_|refine Ev.kc ?_ (fun _ _=>?_));(next=>(first|omega|(simp[bA,cB,cM,maxLen]<;>omega))))|(with_reducible first|refine Ev.cw ?_|refine Ev.b7 ?_|refine Ev.aU (fun _=>?_) (fun _=>?_)|refine Ev.bk (fun _=>?_) (fun _=>?_)|refine Ev.bN (fun _=>?_) (fun _=>?_)|refine Ev.bh (fun _=>?_) (fun _=>?_)|refine Ev.br (fun _=>?_) (fun _=>?_))|((with_reducible refine Ev.jd ?_);try dsimp only)))
   ·exact hj _ fun _=>by omega
   ·exact hj _ (by simp)
 ·(repeat' (first|((with_reducible first|refine Ev.gd ?_ ?_|refine Ev.kc ?_ (fun _ _=>?_));(next=>(first|omega|(simp[bA,cB,cM,maxLen]<;>omega))))|(with_reducible first|refine Ev.cw ?_|refine Ev.b7 ?_|refine Ev.aU (fun _=>?_) (fun _=>?_)|refine Ev.bk (fun _=>?_) (fun _=>?_)|refine Ev.bN (fun _=>?_) (fun _=>?_)|refine Ev.bh (fun _=>?_) (fun _=>?_)|refine Ev.br (fun _=>?_) (fun _=>?_))|((with_reducible refine Ev.jd ?_);try dsimp only)))
  ·exact hj _ fun _=>by omega
  ·exact hj _ (by simp)
theorem na {m:Nat→Nat} (hm:bZ m) {s:List UInt8} (hs:s.length≤70000) {p:ak} (h:RI s p) (hlt:p.at_<s.length) {c:Int} :
  Ev (fun i=>gm (m i) c p) (fun r=>RI s r.2∧p.at_<r.2.at_) RP:=by
 have h0:=h.u2
 unfold gm
 refine Ev.iter hm (fun (x:ak×Int×Int)=>RI s x.1∧x.1.at_<s.length∧p.at_≤x.1.at_∧0≤x.2.2∧x.2.2≤2) (fun x=>(2 - x.2.2).toNat) ⟨h,hlt,by simp,by simp,by simp⟩ ?_
 rintro x ⟨h1,h2,h3,h4,h5⟩ next hn
 have h6:=h1.u2
 refine Ev.aU (fun hi=>?_) (fun hi=>?_)
 ·refine Ev.gd (by omega) (Ev.gd (by (first|omega|(simp[bA]<;>omega))) ?_)
  have hR:RI s (ak.mk x.1.text (x.1.at_+1)):=⟨h1.text,by dsimp only;omega,by dsimp only;omega⟩
  refine Ev.bind (cl hR) (fun _ q=>q.elim) fun y hy=>?_
  refine Ev.bind uO (fun _ q=>q.elim) fun d hd=>?_
  refine Ev.gd (by omega) ?_
  refine Ev.jn (fun v=>v=false→d.2=true) (fun v hv=>?_) (fun j hj=>?_)
  ·refine Ev.br (fun _=>rS) (fun hf=>?_)
   have:=hy.2 (hd (hv hf))
   rw[hy.1]
   refine Ev.gd (by (first|omega|(simp[bA]<;>omega))) (hn _ ⟨hR,this,?_,?_,?_⟩ ?_)
   all_goals (dsimp only at *;omega)
  ·refine Ev.bh (fun _=>hj _ (by simp)) (fun hd2=>?_)
   (repeat' (first|((with_reducible first|refine Ev.gd ?_ ?_|refine Ev.kc ?_ (fun _ _=>?_));(next=>(first|omega|(simp[bA,cB,cM,maxLen]<;>omega))))|(with_reducible first|refine Ev.cw ?_|refine Ev.b7 ?_|refine Ev.aU (fun _=>?_) (fun _=>?_)|refine Ev.bk (fun _=>?_) (fun _=>?_)|refine Ev.bN (fun _=>?_) (fun _=>?_)|refine Ev.bh (fun _=>?_) (fun _=>?_)|refine Ev.br (fun _=>?_) (fun _=>?_))|((with_reducible refine Ev.jd ?_);try dsimp only)))
   all_goals exact hj _ (fun _=>hd2)
 ·refine Ev.gd (by (first|omega|(simp[bA]<;>omega))) (Ev.ok ⟨⟨h1.text,?_,?_⟩,?_⟩)
  all_goals (dsimp only;omega)
theorem iV {m:Nat→Nat} (hm:bZ m) {s:List UInt8} (hs:s.length≤70000) {p:ak} (h:RI s p) (hlt:p.at_<s.length) {c:Int} :
  Ev (fun i=>fE (m i) c p) (fun r=>RI s r.2∧p.at_<r.2.at_) RP:=by
 have h0:=h.u2
 unfold fE
 rw[h.text]
 refine Ev.gd (by (first|omega|(simp[bA]<;>omega))) ?_
 have hR:RI s (ak.mk s (p.at_+1)):=⟨rfl,by dsimp only;omega,by dsimp only;omega⟩
 refine Ev.bind (cl hR) (fun _ q=>q.elim) fun y hy=>?_
 rw[hy.1];dsimp only
 refine Ev.jn (fun v=>v.1=(ak.mk s (p.at_+1))∧p.at_+1<s.length) (fun v hv=>?_) (fun j hj=>?_)
 ·refine Ev.jn (fun v=>v=(ak.mk s (p.at_+1))) (fun v2 hv2=>?_) (fun j hj=>?_)
  ·subst hv2
   refine Ev.gd (by (first|omega|(simp[bA]<;>omega))) (Ev.ok ⟨⟨rfl,?_,?_⟩,?_⟩)
   all_goals (dsimp only;omega)
  ·exact Ev.aU (fun _=>rS) (fun _=>hj _ hv.1)
 ·refine Ev.aU (fun _=>rS) (fun hlt2=>?_)
  have hlt3:p.at_+1<s.length:=by omega
  (repeat' (first|((with_reducible first|refine Ev.gd ?_ ?_|refine Ev.kc ?_ (fun _ _=>?_));(next=>(first|omega|(simp[bA,cB,cM,maxLen]<;>omega))))|(with_reducible first|refine Ev.cw ?_|refine Ev.b7 ?_|refine Ev.aU (fun _=>?_) (fun _=>?_)|refine Ev.bk (fun _=>?_) (fun _=>?_)|refine Ev.bN (fun _=>?_) (fun _=>?_)|refine Ev.bh (fun _=>?_) (fun _=>?_)|refine Ev.br (fun _=>?_) (fun _=>?_))|((with_reducible refine Ev.jd ?_);try dsimp only)))
  ·refine (Ev.bind (na hm hs hR (by dsimp only;omega)) (fun _ q=>q) fun z hz=>Ev.ok ⟨hz.1,?_⟩)
   have:=hz.2;dsimp only at *;omega
  ·exact hj _ ⟨rfl,hlt3⟩
  ·exact hj _ ⟨rfl,hlt3⟩
  ·exact hj _ ⟨rfl,hlt3⟩
  ·refine Ev.uz (Q:=fun _=>True) (Ev.ok trivial) fun z _=>?_
   exact Ev.aU (fun _=>rS) (fun _=>hj _ ⟨rfl,hlt3⟩)
theorem mg {m:Nat→Nat} (hm:bZ m) {s:List UInt8} (hs:s.length≤70000) {p:ak} (h:RI s p) {c:Int} :
  Ev (fun i=>ir (m i) c p) (fun r=>RI s r.2∧p.at_<r.2.at_) RP:=by
 have h0:=h.u2
 have h1:=h.vM
 unfold ir
 refine Ev.bind (cl h) (fun _ q=>q.elim) fun y hy=>?_
 rw[hy.1]
 refine Ev.jn (fun v=>v=p∧p.at_<s.length) (fun v hv=>?_) (fun j hj=>?_)
 ·rw[hv.1]
  refine Ev.gd (by (first|omega|(simp[bA]<;>omega))) (Ev.ok ⟨⟨h.text,?_,?_⟩,?_⟩)
  all_goals (dsimp only;omega)
 ·rw[h.text]
  refine Ev.aU (fun _=>rS) (fun hlt2=>?_)
  have hlt:p.at_<s.length:=by omega
  refine Ev.bk (fun _=>?_) (fun _=>?_)
  ·exact Ev.bind (iV hm hs h hlt) (fun _ q=>q) fun z hz=>Ev.ok hz
  ·refine Ev.jn (fun _=>True) (fun v _=>?_) (fun j2 hj2=>?_)
   ·exact Ev.br (fun _=>rS) (fun _=>hj _ ⟨rfl,hlt⟩)
   ·(repeat' (first|((with_reducible first|refine Ev.gd ?_ ?_|refine Ev.kc ?_ (fun _ _=>?_));(next=>(first|omega|(simp[bA,cB,cM,maxLen]<;>omega))))|(with_reducible first|refine Ev.cw ?_|refine Ev.b7 ?_|refine Ev.aU (fun _=>?_) (fun _=>?_)|refine Ev.bk (fun _=>?_) (fun _=>?_)|refine Ev.bN (fun _=>?_) (fun _=>?_)|refine Ev.bh (fun _=>?_) (fun _=>?_)|refine Ev.br (fun _=>?_) (fun _=>?_))|((with_reducible refine Ev.jd ?_);try dsimp only)))
    ·exact hj2 _ trivial
    ·exact hj2 _ trivial
    ·exact hj2 _ trivial
    ·exact Ev.uz (Q:=fun _=>True) (Ev.ok trivial) fun z _=>hj2 _ trivial
theorem rE {m:Nat→Nat} (hm:bZ m) {s:List UInt8} (hs:s.length≤70000) {p:ak} (h:RI s p) (hlt:p.at_<s.length) :
  Ev (fun i=>ki (m i) p) (fun r=>RI s r.2∧p.at_<r.2.at_∧vn r.1) RP:=by
 have h0:=h.u2
 unfold ki
 refine Ev.gd (by (first|omega|(simp[bA]<;>omega))) ?_
 have hR:RI s (ak.mk p.text (p.at_+1)):=⟨h.text,by dsimp only;omega,by dsimp only;omega⟩
 refine Ev.bind (cl hR) (fun _ q=>q.elim) fun y hy=>?_
 rw[hy.1];dsimp only
 have hy2:=hy.2;dsimp only at hy2
 refine Ev.jn (fun v=>RI s v∧p.at_<v.at_) (fun v hv=>?_) (fun j hj=>?_)
 ·refine Ev.jn (fun w=>RI s w.1∧p.at_<w.1.at_∧(w.2=true→w.1.at_<s.length)) (fun w hw=>?_) (fun j hj=>?_)
  ·have hw0:=hw.1.u2
   have hw1:=hw.1.vM
   refine Ev.br (fun hb=>?_) (fun _=>?_)
   ·have:=hw.2.2 hb
    refine Ev.gd (by (first|omega|(simp[bA]<;>omega))) (Ev.ok ⟨⟨hw.1.text,?_,?_⟩,?_,.leaf⟩)
    all_goals (dsimp only;omega)
   ·refine Ev.iter hm (fun (x:ak×eY×Bool)=>RI s x.1∧p.at_<x.1.at_) (fun x=>(s.length - x.1.at_).toNat) ⟨hw.1,hw.2.1⟩ ?_
    rintro x ⟨hx1,hx2⟩ next hn
    have hx0:=hx1.u2
    have hx3:=hx1.vM
    refine Ev.jn (fun v=>v=x.1) (fun v hv=>?_) (fun j hj=>?_)
    ·subst hv
     refine Ev.bind (mg hm hs hx1) (fun _ q=>q) fun z hz=>?_
     have hz0:=hz.1.u2
     have hz1:=hz.1.vM
     have hz2:=hz.2
     refine Ev.bind (cl hz.1) (fun _ q=>q.elim) fun z2 hz2=>?_
     rw[hz2.1]
     refine Ev.bk (fun hq=>?_) (fun _=>?_)
     ·have:=hz2.2 (by omega)
      have hR2:RI s (ak.mk z.2.text (z.2.at_+1)):=⟨hz.1.text,by dsimp only;omega,by dsimp only;omega⟩
      refine Ev.gd (by (first|omega|(simp[bA]<;>omega))) (Ev.bind (mg hm hs hR2) (fun _ q=>q) fun z3 hz3=>?_)
      have hz4:=hz3.1.vM
      have hz5:=hz3.2;dsimp only at hz5
      refine Ev.bind (fy hm) (fun _ q=>q.elim) fun _ _=>Ev.bind (iC hm) (fun _ q=>q.elim) fun _ _=>hn _ ⟨hz3.1,?_⟩ ?_
      all_goals (dsimp only;omega)
     ·refine Ev.bind (fy hm) (fun _ q=>q.elim) fun _ _=>Ev.bind (iC hm) (fun _ q=>q.elim) fun _ _=>hn _ ⟨hz.1,?_⟩ ?_
      all_goals (dsimp only;omega)
    ·refine Ev.br (fun _=>hj _ rfl) (fun _=>?_)
     refine Ev.bind (cl hx1) (fun _ q=>q.elim) fun z2 hz2=>?_
     rw[hz2.1]
     refine Ev.bN (fun _=>hj _ rfl) (fun hq=>?_)
     have:=hz2.2 (by omega)
     refine Ev.gd (by (first|omega|(simp[bA]<;>omega))) ?_
     (repeat' (first|((with_reducible first|refine Ev.gd ?_ ?_|refine Ev.kc ?_ (fun _ _=>?_));(next=>(first|omega|(simp[bA,cB,cM,maxLen]<;>omega))))|(with_reducible first|refine Ev.cw ?_|refine Ev.b7 ?_|refine Ev.aU (fun _=>?_) (fun _=>?_)|refine Ev.bk (fun _=>?_) (fun _=>?_)|refine Ev.bN (fun _=>?_) (fun _=>?_)|refine Ev.bh (fun _=>?_) (fun _=>?_)|refine Ev.br (fun _=>?_) (fun _=>?_))|((with_reducible refine Ev.jd ?_);try dsimp only)))
     ·refine Ev.bind (uM hm) (fun _ q=>q.elim) fun _ _=>Ev.ok ⟨⟨hx1.text,?_,?_⟩,?_,.leaf⟩
      all_goals (dsimp only;omega)
     ·refine Ev.ok ⟨⟨hx1.text,?_,?_⟩,?_,.leaf⟩
      all_goals (dsimp only;omega)
  ·refine Ev.bh (fun _=>?_) (fun _=>hj _ ⟨hv.1,hv.2,by simp⟩)
   refine Ev.bind (cl hv.1) (fun _ q=>q.elim) fun z2 hz2=>?_
   rw[hz2.1]
   refine hj _ ⟨hv.1,hv.2,fun hq=>hz2.2 ?_⟩
   have:=beq_iff_eq.1 hq
   omega
 ·refine Ev.bk (fun hq=>?_) (fun _=>hj _ ⟨hR,by dsimp only;omega⟩)
  have:=hy2 (by omega)
  refine Ev.gd (by (first|omega|(simp[bA]<;>omega))) (hj _ ⟨⟨h.text,?_,?_⟩,?_⟩)
  all_goals (dsimp only;omega)
theorem lO {k:Int} {l:List aM} (h:l.length≤70000) (hs:∀ x,x∈l→vn x):Ev (fun _=>kM k l) vn gh:=by
 unfold kM
 refine Ev.bk (fun _=>?_) (fun _=>Ev.ok (.mk h hs))
 exact Ev.el (by omega) (by omega) fun x hx=>Ev.ok (hs x (List.mem_of_getElem? hx))
structure RG (s:List UInt8) (k:Nat):Prop where
 alt:∀ {m:Nat→Nat} {p:ak},bZ m→RI s p→8*(s.length - p.at_).toNat+6<k→Ev (fun i=>cb (m i) p) (fun r=>RI s r.2∧p.at_<r.2.at_∧vn r.1) RP
 Fu:∀ {m:Nat→Nat} {p:ak},bZ m→RI s p→8*(s.length - p.at_).toNat+5<k→Ev (fun i=>ct (m i) p) (fun r=>RI s r.2∧p.at_<r.2.at_∧vn r.1) RP
 Dx:∀ {m:Nat→Nat} {p:ak} {l:List aM},bZ m→RI s p→8*(s.length - p.at_).toNat+4<k→l.length≤70000→(∀ x,x∈l→vn x)→
  Ev (fun i=>b3 (m i) l p) (fun r=>RI s r.2∧p.at_<r.2.at_∧r.1.length=l.length+1∧∀ x,x∈r.1→vn x) RP
 piece:∀ {m:Nat→Nat} {p:ak},bZ m→RI s p→8*(s.length - p.at_).toNat+3<k→Ev (fun i=>fb (m i) p) (fun r=>RI s r.2∧p.at_<r.2.at_∧vn r.1) RP
 atom:∀ {m:Nat→Nat} {p:ak},bZ m→RI s p→8*(s.length - p.at_).toNat+2<k→Ev (fun i=>fp (m i) p) (fun r=>RI s r.2∧p.at_<r.2.at_∧vn r.1) RP
 group:∀ {m:Nat→Nat} {p:ak},bZ m→RI s p→p.at_<s.length→8*(s.length - p.at_).toNat+1<k→Ev (fun i=>fa (m i) p) (fun r=>RI s r.2∧p.at_<r.2.at_∧vn r.1) RP
theorem Eu {s:List UInt8} (hs:s.length≤60000):∀ k,RG s k:=by
 intro k
 induction k with
 | zero=>exact ⟨fun _ _ h=>absurd h (Nat.not_lt_zero _),fun _ _ h=>absurd h (Nat.not_lt_zero _),fun _ _ h=>absurd h (Nat.not_lt_zero _),fun _ _ h=>absurd h (Nat.not_lt_zero _),fun _ _ h=>absurd h (Nat.not_lt_zero _),fun _ _ _ h=>absurd h (Nat.not_lt_zero _)⟩
 | succ k ih=>
  refine ⟨?_,?_,?_,?_,?_,?_⟩
  ·intro m p hm h hk
   have h0:=h.u2
   refine Ev.grow (F:=fun n=>cb n p) hm fun m hm=>?_
   show Ev (fun i=>fI (m i) (aR (m i)) p) _ _
   unfold fI
   refine Ev.bind (ih.Fu hm h (by omega)) (fun _ q=>q) fun y hy=>?_
   refine Ev.iter hm (fun (x:ak×List aM)=>RI s x.1∧p.at_<x.1.at_∧x.2.length≤x.1.at_∧∀ z,z∈x.2→vn z) (fun x=>(s.length - x.1.at_).toNat) ⟨hy.1,hy.2.1,by simp;omega,by simpa using hy.2.2⟩ ?_
   rintro x ⟨hx1,hx2,hx3,hx4⟩ next hn
   have hx5:=hx1.vM
   refine Ev.bind (cl hx1) (fun _ q=>q.elim) fun z hz=>?_
   rw[hz.1]
   refine Ev.bk (fun hq=>?_) (fun _=>?_)
   ·have:=hz.2 (by omega)
    have hR:RI s (ak.mk x.1.text (x.1.at_+1)):=⟨hx1.text,by dsimp only;omega,by dsimp only;omega⟩
    refine Ev.gd (by (first|omega|(simp[bA]<;>omega))) (Ev.bind (ih.Fu hm hR (by dsimp only;omega)) (fun _ q=>q) fun w hw=>?_)
    have hw1:=hw.2.1;dsimp only at hw1
    have hw2:=hw.1.vM
    refine Ev.gd (by (first|omega|(simp[cB,maxLen]<;>omega))) (hn _ ⟨hw.1,by dsimp only;omega,by simp;omega,fun z hz=>?_⟩ (by dsimp only;omega))
    rcases List.mem_append.1 hz with q|q
    ·exact hx4 z q
    ·simp at q;subst q;exact hw.2.2
   ·exact Ev.bind (lO (by omega) hx4) (fun _ q=>q.elim) fun w hw=>Ev.ok ⟨hx1,hx2,hw⟩
  ·intro m p hm h hk
   have h0:=h.u2
   refine Ev.grow (F:=fun n=>ct n p) hm fun m hm=>?_
   show Ev (fun i=>fA (m i) (aR (m i)) p) _ _
   unfold fA
   refine Ev.bind (ih.Dx (l:=[]) hm h (by omega) (by simp) (by simp)) (fun _ q=>q) fun y hy=>?_
   have hy3:=hy.2.2.1
   refine Ev.iter hm (fun (x:ak×List aM)=>RI s x.1∧p.at_<x.1.at_∧x.2.length≤x.1.at_∧∀ z,z∈x.2→vn z) (fun x=>(s.length - x.1.at_).toNat) ⟨hy.1,hy.2.1,by simp at hy3;dsimp only;omega,hy.2.2.2⟩ ?_
   rintro x ⟨hx1,hx2,hx3,hx4⟩ next hn
   have hx5:=hx1.vM
   refine Ev.aU (fun hlt=>?_) (fun _=>?_)
   ·refine Ev.bind (cl hx1) (fun _ q=>q.elim) fun z hz=>?_
    rw[hz.1]
    refine Ev.bN (fun _=>?_) (fun _=>?_)
    ·refine Ev.bind (cl hx1) (fun _ q=>q.elim) fun z hz=>?_
     rw[hz.1]
     refine Ev.bN (fun _=>?_) (fun _=>?_)
     ·rw[hx1.text] at hlt
      refine Ev.bind (ih.Dx hm hx1 (by omega) (by omega) hx4) (fun _ q=>q) fun w hw=>?_
      have hw1:=hw.2.1
      have hw2:=hw.1.vM
      have hw3:=hw.2.2.1
      exact hn _ ⟨hw.1,by dsimp only;omega,by dsimp only;omega,hw.2.2.2⟩ (by dsimp only;omega)
     ·exact Ev.bind (lO (by omega) hx4) (fun _ q=>q.elim) fun w hw=>Ev.ok ⟨hx1,hx2,hw⟩
    ·exact Ev.bind (lO (by omega) hx4) (fun _ q=>q.elim) fun w hw=>Ev.ok ⟨hx1,hx2,hw⟩
   ·exact Ev.bind (lO (by omega) hx4) (fun _ q=>q.elim) fun w hw=>Ev.ok ⟨hx1,hx2,hw⟩
  ·intro m p l hm h hk hl hls
   refine Ev.grow (F:=fun n=>b3 n l p) hm fun m hm=>?_
   show Ev (fun i=>fl (m i) (aR (m i)) l p) _ _
   unfold fl
   refine Ev.bind (ih.piece hm h (by omega)) (fun _ q=>q) fun y hy=>?_
   refine Ev.gd (by (first|omega|(simp[cB,maxLen]<;>omega))) (Ev.ok ⟨hy.1,hy.2.1,by simp,fun z hz=>?_⟩)
   rcases List.mem_append.1 hz with q|q
   ·exact hls z q
   ·simp at q;subst q;exact hy.2.2
  ·intro m p hm h hk
   refine Ev.grow (F:=fun n=>fb n p) hm fun m hm=>?_
   show Ev (fun i=>iv (m i) (aR (m i)) p) _ _
   unfold iv
   refine Ev.bind (ih.atom hm h (by omega)) (fun _ q=>q) fun y hy=>?_
   refine Ev.iter hm (fun (x:ak×aM)=>RI s x.1∧p.at_<x.1.at_∧vn x.2) (fun x=>(s.length - x.1.at_).toNat) ⟨hy.1,hy.2.1,hy.2.2⟩ ?_
   rintro x ⟨hx1,hx2,hx3⟩ next hn
   have hx0:=hx1.u2
   have hx5:=hx1.vM
   refine Ev.jn (fun v=>v.1=x.1∧x.1.at_<s.length∧vn v.2) (fun v hv=>?_) (fun j hj=>?_)
   ·rw[hv.1]
    have:=hv.2.1
    refine Ev.gd (by (first|omega|(simp[bA]<;>omega))) (hn _ ⟨⟨hx1.text,?_,?_⟩,?_,hv.2.2⟩ ?_)
    all_goals (dsimp only;omega)
   ·refine Ev.bind (cl hx1) (fun _ q=>q.elim) fun z hz=>?_
    rw[hz.1]
    have hs1:vn (aM.mk 5 0 0 0 0 [x.2]):=.mk (by simp) (by simpa using hx3)
    refine Ev.bk (fun hq=>hj _ ⟨rfl,hz.2 (by omega),hs1⟩) (fun _=>?_)
    refine Ev.bk (fun hq=>hj _ ⟨rfl,hz.2 (by omega),.mk (by simp) ?_⟩) (fun _=>?_)
    ·intro w hw;simp at hw;rcases hw with rfl|rfl
     ·exact hx3
     ·exact hs1
    refine Ev.bk (fun hq=>hj _ ⟨rfl,hz.2 (by omega),.mk (by simp) ?_⟩) (fun _=>Ev.ok ⟨hx1,hx2,hx3⟩)
    ·intro w hw;simp at hw;rcases hw with rfl|rfl
     ·exact hx3
     ·exact .leaf
  ·intro m p hm h hk
   have h0:=h.u2
   have h1:=h.vM
   refine Ev.grow (F:=fun n=>fp n p) hm fun m hm=>?_
   show Ev (fun i=>iH (m i) (aR (m i)) p) _ _
   unfold iH
   refine Ev.bind (cl h) (fun _ q=>q.elim) fun y hy=>?_
   rw[hy.1]
   refine Ev.jn (fun v=>v=p∧p.at_<s.length) (fun v hv=>?_) (fun j hj=>?_)
   ·rw[hv.1]
    refine Ev.gd (by (first|omega|(simp[bA]<;>omega))) (Ev.bind (pK hm) (fun _ q=>q.elim) fun z hz=>Ev.ok ⟨⟨h.text,?_,?_⟩,?_,hz⟩)
    all_goals (dsimp only;omega)
   ·rw[h.text]
    refine Ev.aU (fun _=>rS) (fun hlt2=>?_)
    have hlt:p.at_<s.length:=by omega
    refine Ev.bk (fun _=>?_) (fun _=>?_)
    ·exact Ev.bind (ih.group hm h hlt (by omega)) (fun _ q=>q) fun z hz=>Ev.ok hz
    refine Ev.bk (fun _=>?_) (fun _=>?_)
    ·exact Ev.bind (rE hm (by omega) h hlt) (fun _ q=>q) fun z hz=>Ev.ok hz
    refine Ev.bk (fun _=>?_) (fun _=>?_)
    ·refine Ev.gd (by (first|omega|(simp[bA]<;>omega))) (Ev.bind (fy hm) (fun _ q=>q.elim) fun z _=>Ev.ok ⟨⟨rfl,?_,?_⟩,?_,.leaf⟩)
     all_goals (dsimp only;omega)
    refine Ev.bk (fun _=>?_) (fun _=>?_)
    ·refine Ev.gd (by (first|omega|(simp[bA]<;>omega))) (Ev.aU (fun _=>?_) (fun _=>?_))
     ·refine Ev.gd (by (first|omega|(simp[bA]<;>omega))) (Ev.el (by omega) (by omega) (fun b _=>?_))
      refine Ev.bind (uN hm) (fun _ q=>q.elim) fun z _=>?_
      refine Ev.br (fun _=>?_) (fun _=>?_)
      ·refine Ev.gd (by (first|omega|(simp[bA]<;>omega))) (Ev.ok ⟨⟨rfl,?_,?_⟩,?_,.leaf⟩)
       all_goals (dsimp only;omega)
      ·exact Ev.bind (iV hm (by omega) h hlt) (fun _ q=>q) fun z hz=>Ev.bind (pK hm) (fun _ q=>q.elim) fun w hw=>Ev.ok ⟨hz.1,hz.2,hw⟩
     ·exact Ev.bind (iV hm (by omega) h hlt) (fun _ q=>q) fun z hz=>Ev.bind (pK hm) (fun _ q=>q.elim) fun w hw=>Ev.ok ⟨hz.1,hz.2,hw⟩
    ·refine Ev.jn (fun _=>True) (fun v _=>?_) (fun j2 hj2=>?_)
     ·exact Ev.br (fun _=>rS) (fun _=>hj _ ⟨rfl,hlt⟩)
     ·(repeat' (first|((with_reducible first|refine Ev.gd ?_ ?_|refine Ev.kc ?_ (fun _ _=>?_));(next=>(first|omega|(simp[bA,cB,cM,maxLen]<;>omega))))|(with_reducible first|refine Ev.cw ?_|refine Ev.b7 ?_|refine Ev.aU (fun _=>?_) (fun _=>?_)|refine Ev.bk (fun _=>?_) (fun _=>?_)|refine Ev.bN (fun _=>?_) (fun _=>?_)|refine Ev.bh (fun _=>?_) (fun _=>?_)|refine Ev.br (fun _=>?_) (fun _=>?_))|((with_reducible refine Ev.jd ?_);try dsimp only)))
      ·exact hj2 _ trivial
      ·exact hj2 _ trivial
      ·exact Ev.uz (Q:=fun _=>True) (Ev.ok trivial) fun z _=>hj2 _ trivial
  ·intro m p hm h hlt hk
   have h0:=h.u2
   refine Ev.grow (F:=fun n=>fa n p) hm fun m hm=>?_
   show Ev (fun i=>iu (m i) (aR (m i)) p) _ _
   unfold iu
   refine Ev.gd (by (first|omega|(simp[bA]<;>omega))) ?_
   have hR:RI s (ak.mk p.text (p.at_+1)):=⟨h.text,by dsimp only;omega,by dsimp only;omega⟩
   refine Ev.bind (cl hR) (fun _ q=>q.elim) fun y hy=>?_
   rw[hy.1];dsimp only
   have hy2:=hy.2;dsimp only at hy2
   refine Ev.bk (fun hq=>?_) (fun _=>?_)
   ·have:=hy2 (by omega)
    refine Ev.gd (by (first|omega|(simp[bA]<;>omega))) (Ev.ok ⟨⟨h.text,?_,?_⟩,?_,.leaf⟩)
    all_goals (dsimp only;omega)
   ·refine Ev.bind (ih.alt hm hR (by dsimp only;omega)) (fun _ q=>q) fun z hz=>?_
    have hz0:=hz.1.u2
    have hz1:=hz.2.1;dsimp only at hz1
    refine Ev.jn (fun v=>v=z.2∧z.2.at_<s.length) (fun v hv=>?_) (fun j hj=>?_)
    ·rw[hv.1]
     refine Ev.gd (by (first|omega|(simp[bA]<;>omega))) (Ev.ok ⟨⟨hz.1.text,?_,?_⟩,?_,hz.2.2⟩)
     all_goals (dsimp only;omega)
    ·refine Ev.bind (cl hz.1) (fun _ q=>q.elim) fun w hw=>?_
     rw[hw.1]
     exact Ev.bN (fun _=>rS) (fun hq=>hj _ ⟨rfl,hw.2 (by omega)⟩)
theorem uP:∀ (d:Nat) {m:Nat→Nat} {r:aM} {l:Int},bZ m→vn r→0≤l→(17 - l).toNat≤d→Ev (fun i=>fW (m i) r l) (fun _=>True) gh:=by
 intro d
 induction d with
 | zero=>
  intro m r l hm _ h0 hd
  refine Ev.grow (F:=fun n=>fW n r l) hm fun m hm=>?_
  show Ev (fun i=>jF (m i) (iT (m i)) r l) _ _
  unfold jF
  exact Ev.aU (fun _=>Ev.ok trivial) (fun _=>by omega)
 | succ d ih=>
  intro m r l hm hr h0 hd
  refine Ev.grow (F:=fun n=>fW n r l) hm fun m hm=>?_
  show Ev (fun i=>jF (m i) (iT (m i)) r l) _ _
  unfold jF
  cases hr with
  | @mk k a b c d' subs hl hs=>
   refine Ev.aU (fun _=>Ev.ok trivial) (fun _=>?_)
   refine Ev.jn (fun _=>True) (fun v _=>?_) (fun j hj=>?_)
   ·refine Ev.jn (fun _=>True) (fun v _=>?_) (fun j hj=>?_)
    ·refine Ev.iter hm (fun (x:Int)=>0≤x∧x≤subs.length) (fun x=>(subs.length - x).toNat) (by omega) ?_
     intro x hx next hn
     show Ev (fun i=>aq.br (decide (x<(subs.length:Int))) (aq.el subs x _) _) _ _
     refine Ev.aU (fun h=>?_) (fun _=>Ev.ok trivial)
     refine Ev.el (by omega) (by omega) (fun z hz=>?_)
     refine Ev.gd (by (first|omega|(simp[bA]<;>omega))) (Ev.bind (ih hm (hs z (List.mem_of_getElem? hz)) (by omega) (by omega)) (fun _ q=>q) fun w _=>?_)
     (repeat' (first|((with_reducible first|refine Ev.gd ?_ ?_|refine Ev.kc ?_ (fun _ _=>?_));(next=>(first|omega|(simp[bA]<;>omega))))|(with_reducible first|refine Ev.cw ?_|refine Ev.b7 ?_|refine Ev.aU (fun _=>?_) (fun _=>?_)|refine Ev.bk (fun _=>?_) (fun _=>?_)|refine Ev.bN (fun _=>?_) (fun _=>?_)|refine Ev.bh (fun _=>?_) (fun _=>?_)|refine Ev.br (fun _=>?_) (fun _=>?_))|((with_reducible refine Ev.jd ?_);try dsimp only)))
     ·exact Ev.ok trivial
     ·exact hn _ (by omega) (by omega)
    ·(repeat' (first|((with_reducible first|refine Ev.gd ?_ ?_|refine Ev.kc ?_ (fun _ _=>?_));(next=>(first|omega|(simp[bA,cB,cM,maxLen]<;>omega))))|(with_reducible first|refine Ev.cw ?_|refine Ev.b7 ?_|refine Ev.aU (fun _=>?_) (fun _=>?_)|refine Ev.bk (fun _=>?_) (fun _=>?_)|refine Ev.bN (fun _=>?_) (fun _=>?_)|refine Ev.bh (fun _=>?_) (fun _=>?_)|refine Ev.br (fun _=>?_) (fun _=>?_))|((with_reducible refine Ev.jd ?_);try dsimp only)))
     all_goals first|exact Ev.ok trivial|exact hj _ trivial
   ·(repeat' (first|((with_reducible first|refine Ev.gd ?_ ?_|refine Ev.kc ?_ (fun _ _=>?_));(next=>(first|omega|(simp[bA,cB,cM,maxLen]<;>omega))))|(with_reducible first|refine Ev.cw ?_|refine Ev.b7 ?_|refine Ev.aU (fun _=>?_) (fun _=>?_)|refine Ev.bk (fun _=>?_) (fun _=>?_)|refine Ev.bN (fun _=>?_) (fun _=>?_)|refine Ev.bh (fun _=>?_) (fun _=>?_)|refine Ev.br (fun _=>?_) (fun _=>?_))|((with_reducible refine Ev.jd ?_);try dsimp only)))
    all_goals first|exact Ev.ok trivial|exact hj _ trivial
theorem rh {m:Nat→Nat} (hm:bZ m) {s:List UInt8}:Ev (fun i=>mb (m i) s) (fun _=>True) gh:=by
 unfold mb
 refine Ev.aU (fun _=>Ev.ok trivial) (fun _=>?_)
 refine Ev.vI (R':=RP) ?_ ?_
 ·refine Ev.bind ((Eu (s:=s) (by omega) (8*(s.length - 0:Int).toNat+7)).alt hm ⟨rfl,by simp,by simp⟩ (by simp)) (fun _ q=>q) fun y hy=>?_
  refine Ev.jn (fun _=>True) (fun v _=>?_) (fun j hj=>?_)
  ·unfold qV
   refine Ev.bind (Ev.bind (uP 17 hm hy.2.2 (by omega) (by simp)) (fun _ q=>q) fun z _=>Ev.ok trivial) (fun _ q=>q.elim) fun z (_:True)=>?_
   (repeat' (first|((with_reducible first|refine Ev.gd ?_ ?_|refine Ev.kc ?_ (fun _ _=>?_));(next=>(first|omega|(simp[bA,cB,cM,maxLen]<;>omega))))|(with_reducible first|refine Ev.cw ?_|refine Ev.b7 ?_|refine Ev.aU (fun _=>?_) (fun _=>?_)|refine Ev.bk (fun _=>?_) (fun _=>?_)|refine Ev.bN (fun _=>?_) (fun _=>?_)|refine Ev.bh (fun _=>?_) (fun _=>?_)|refine Ev.br (fun _=>?_) (fun _=>?_))|((with_reducible refine Ev.jd ?_);try dsimp only)))
   all_goals exact Ev.ok trivial
  ·exact Ev.aU (fun _=>rS) (fun _=>hj _ trivial)
 ·rintro p ⟨v,rfl⟩
  refine Ev.r6 ?_
  unfold k8
  exact Ev.ok trivial
end Go.Abs
end
section
namespace Go.Abs
open aq
structure PC (s:List UInt8) (T:List aK) (b:Int):Prop where
 bd:Et s T
 b0:0≤b
 bs:b+s.length≤65536
def PP (c:Int):pj→Prop:=fun p=>∃ v:Int,p=⟨86,[.sc (.int .i64 v)]⟩∧0≤v∧v≤c
abbrev bL:=ab.mk
section
variable {s:List UInt8} {T:List aK} {b:Int}
theorem PC.len (h:PC s T b):(T.length:Int)≤s.length+1:=by
 obtain ⟨l,rfl,h1⟩:=h.bd.is
 have:=h1.len
 simp;omega
theorem PC.pos (h:PC s T b):1≤T.length:=by
 obtain ⟨l,rfl,h1⟩:=h.bd.is
 simp
theorem PC.kT (h:PC s T b):(T.length:Int)≤65537:=by
 have:=h.len
 have:=h.bs
 have:=h.b0
 omega
theorem PC.tok (h:PC s T b) {i:Nat} {t:aK} (ht:T[i]?=some t):0≤t.Pos∧t.Pos≤t.End∧t.End≤s.length∧t.Text.length≤65536∧(t.Kind=4→(t.Text.length:Int)+2≤t.End - t.Pos)∧(t.Kind≠0→i+1<T.length∧t.Pos<t.End):=by
 obtain ⟨l,rfl,h1⟩:=h.bd.is
 rcases Nat.lt_or_ge i l.length with q|q
 ·rw[List.getElem?_append_left q] at ht
  have:=h1.ok t (List.mem_of_getElem? ht)
  exact ⟨this.p0,by have:=this.pe;omega,this.e,this.tl,this.ip,fun _=>⟨by simp;omega,this.pe⟩⟩
 ·rw[List.getElem?_append_right q] at ht
  have hi:i - l.length=0:=by
   have:=(List.getElem?_eq_some_iff.1 ht).1
   simp at this;omega
  rw[hi] at ht;simp at ht;subst ht
  exact ⟨by simp,by simp,by simp,by simp,fun q=>by simp at q,fun q=>absurd rfl q⟩
theorem PC.next (h:PC s T b) {a:Int} (h0:0≤a) {t:aK} (ht:T[a.toNat]?=some t) (hk:t.Kind≠0):a+1<T.length:=by
 have:=((h.tok ht).2.2.2.2.2 hk).1
 omega
theorem PC.sorted (h:PC s T b) {i j:Nat} (hij:i<j) {t u:aK} (ht:T[i]?=some t) (hu:T[j]?=some u):t.End≤u.Pos:=by
 obtain ⟨l,rfl,h1⟩:=h.bd.is
 have hj:=(List.getElem?_eq_some_iff.1 hu).1
 simp at hj
 have hi:i<l.length:=by omega
 rw[List.getElem?_append_left hi] at ht
 rcases Nat.lt_or_ge j l.length with q|q
 ·rw[List.getElem?_append_left q] at hu
  obtain ⟨hi',e1⟩:=List.getElem?_eq_some_iff.1 ht
  obtain ⟨hj',e2⟩:=List.getElem?_eq_some_iff.1 hu
  rw[← e1,← e2]
  exact List.pairwise_iff_getElem.1 h1.sorted i j hi' hj' hij
 ·rw[List.getElem?_append_right q] at hu
  have hi:j - l.length=0:=by omega
  rw[hi] at hu;simp at hu;subst hu
  exact (h1.ok t (List.mem_of_getElem? ht)).e
end
section
variable {s:List UInt8} {T:List aK} {b:Int} {α:Type} {Q:α→Prop} {R:pj→Prop} {m:Nat→Nat} {a:Int} {k:Bool} {q:Option aj}
theorem jf {t:aK} {x:List UInt8} {K:Nat→Bool→aq α} (hk:∀ r,(r=true→t.Kind=5∧t.Text=x)→(r=false→¬ (t.Kind=5∧t.Text=x))→Ev (fun i=>K i r) Q R):Ev (fun i=>aq.bind (bW t x) (K i)) Q R:=by
 refine Ev.bind (Q:=fun r=>(r=true→t.Kind=5∧t.Text=x)∧(r=false→¬ (t.Kind=5∧t.Text=x))) (R':=gh) ?_ (fun _ q=>q.elim) fun r hr=>hk r hr.1 hr.2
 unfold bW
 refine Ev.bk (fun h=>Ev.ok ⟨fun q=>⟨h,by simpa using q⟩,fun q=>by simp at q;exact fun w=>q w.2⟩) (fun h=>Ev.ok ⟨fun q=>by simp at q,fun _ w=>h w.1⟩)
theorem pL {t:aK} {x:List UInt8} {K:Nat→Bool→aq α} (hk:∀ r,(r=true→t.Kind=1∧t.Text=x)→(r=false→¬ (t.Kind=1∧t.Text=x))→Ev (fun i=>K i r) Q R):Ev (fun i=>aq.bind (ep t x) (K i)) Q R:=by
 refine Ev.bind (Q:=fun r=>(r=true→t.Kind=1∧t.Text=x)∧(r=false→¬ (t.Kind=1∧t.Text=x))) (R':=gh) ?_ (fun _ q=>q.elim) fun r hr=>hk r hr.1 hr.2
 unfold ep
 refine Ev.bk (fun h=>Ev.ok ⟨fun q=>⟨h,by simpa using q⟩,fun q=>by simp at q;exact fun w=>q w.2⟩) (fun h=>Ev.ok ⟨fun q=>by simp at q,fun _ w=>h w.1⟩)
theorem sx (hm:bZ m) {t:aK} {x:List UInt8} (hx:x.length≤60000) {K:Nat→Bool→aq α} (hk:∀ r,(r=true→t.Kind=5)→Ev (fun i=>K i r) Q R):Ev (fun i=>aq.bind (fk (m i) t x) (K i)) Q R:=by
 refine Ev.bind (Q:=fun r=>r=true→t.Kind=5) (R':=gh) ?_ (fun _ q=>q.elim) fun r hr=>hk r hr
 unfold fk
 refine Ev.bk (fun h=>?_) (fun _=>Ev.ok (by simp))
 refine Ev.bind (uK (by simp) (by omega)) (fun _ q=>q) fun y hy=>Ev.bind (hY hm (by omega)) (fun _ q=>q) fun z _=>Ev.ok fun _=>h
theorem uQ (hm:bZ m) {t:aK} {K:Nat→Bool→aq α} (hk:∀ r,(r=true→t.Kind=3∨t.Kind=1)→Ev (fun i=>K i r) Q R):Ev (fun i=>aq.bind (eZ (m i) t) (K i)) Q R:=by
 refine Ev.bind (Q:=fun r=>r=true→t.Kind=3∨t.Kind=1) (R':=gh) ?_ (fun _ q=>q.elim) fun r hr=>hk r hr
 unfold eZ
 refine Ev.bk (fun h=>Ev.ok fun _=>.inl h) (fun _=>Ev.bk (fun h=>?_) (fun _=>Ev.ok (by simp)))
 exact Ev.bind (fR hm) (fun _ q=>q) fun z _=>Ev.ok fun _=>.inr h
theorem vo (hm:bZ m) (hC:PC s T b) (h0:0≤a) (h1:a<T.length) :
  Ev (fun i=>aE (m i) (bL s T a b k q)) (fun r=>∃ a' t,r=(t,bL s T a' b k q)∧a≤a'∧a'<T.length∧T[a'.toNat]?=some t∧(k=true→t.Kind≠7)∧∀ u,T[a.toNat]?=some u→(k=true→u.Kind≠7)→a'=a) gh:=by
 unfold aE
 have hl:=hC.kT
 refine Ev.jn (fun v=>∃ a',v=bL s T a' b k q∧a≤a'∧a'<T.length∧(k=true→∀ t,T[a'.toNat]?=some t→t.Kind≠7)∧∀ u,T[a.toNat]?=some u→(k=true→u.Kind≠7)→a'=a) (fun v hv=>?_) (fun j hj=>?_)
 ·obtain ⟨a',rfl,h2,h3,h4,h5⟩:=hv
  exact Ev.el (by dsimp only;omega) (by dsimp only;omega) fun t ht=>Ev.ok ⟨a',t,rfl,h2,h3,ht,fun hk=>h4 hk t ht,h5⟩
 ·refine Ev.iter hm (fun (x:ab)=>∃ a',x=bL s T a' b k q∧a≤a'∧a'<T.length∧∀ u,T[a.toNat]?=some u→(k=true→u.Kind≠7)→a'=a) (fun x=>(T.length - x.at_).toNat) ⟨a,rfl,by omega,h1,fun _ _ _=>rfl⟩ ?_
  rintro x ⟨a',rfl,h2,h3,h5⟩ next hn
  dsimp only
  refine Ev.br (fun hk0=>?_) (fun hk=>hj _ ⟨a',rfl,h2,h3,(fun h=>by rw[hk] at h;cases h),h5⟩)
  refine Ev.el (by omega) (by omega) fun t ht=>?_
  refine Ev.bk (fun h7=>?_) (fun h7=>hj _ ⟨a',rfl,h2,h3,fun _ u hu=>by rw[ht] at hu;cases hu;exact h7,h5⟩)
  have:=hC.next (by omega) ht (by omega)
  refine Ev.gd (by (first|omega|(simp[bA]<;>omega))) (hn _ ⟨a'+1,rfl,by omega,by omega,fun u hu hk=>?_⟩ (by dsimp only;omega))
  have:=h5 u hu hk
  subst this
  rw[ht] at hu;cases hu
  exact absurd h7 (hk ‹k=true›)
theorem fm (hm:bZ m) (hC:PC s T b) (h0:0≤a) (h1:a<T.length) {K:Nat→aK×ab→aq α}
  (hk:∀ a' t,a≤a'→a'<T.length→T[a'.toNat]?=some t→(k=true→t.Kind≠7)→(∀ u,T[a.toNat]?=some u→(k=true→u.Kind≠7)→a'=a)→Ev (fun i=>K i (t,bL s T a' b k q)) Q R) :
  Ev (fun i=>aq.bind (aE (m i) (bL s T a b k q)) (K i)) Q R:=by
 refine Ev.bind (vo hm hC h0 h1) (fun _ q=>q.elim) fun r hr=>?_
 obtain ⟨a',t,rfl,h⟩:=hr
 exact hk a' t h.1 h.2.1 h.2.2.1 h.2.2.2.1 h.2.2.2.2
theorem kt (hm:bZ m) (hC:PC s T b) (h0:0≤a) (h1:a<T.length) {K:Nat→Int×ab→aq α}
  (hk:∀ a' t v,a≤a'→a'<T.length→T[a'.toNat]?=some t→(∀ u,T[a.toNat]?=some u→(k=true→u.Kind≠7)→a'=a)→v=b+t.Pos→0≤v→v≤b+s.length→Ev (fun i=>K i (v,bL s T a' b k q)) Q R) :
  Ev (fun i=>aq.bind (bC (m i) (bL s T a b k q)) (K i)) Q R:=by
 refine Ev.bind (Q:=fun r=>∃ a' t v,r=(v,bL s T a' b k q)∧a≤a'∧a'<T.length∧T[a'.toNat]?=some t∧(∀ u,T[a.toNat]?=some u→(k=true→u.Kind≠7)→a'=a)∧v=b+t.Pos∧0≤v∧v≤b+s.length) (R':=gh) ?_ (fun _ q=>q.elim) fun r hr=>?_
 ·unfold bC
  refine fm hm hC h0 h1 fun a' t h2 h3 h4 h5 h6=>?_
  have:=hC.tok h4
  have:=hC.b0
  have:=hC.bs
  exact Ev.gd (by (first|omega|(simp[bA]<;>omega))) (Ev.ok ⟨a',t,_,rfl,h2,h3,h4,h6,rfl,by dsimp only;omega,by dsimp only;omega⟩)
 ·obtain ⟨a',t,v,rfl,h2,h3,h4,h5,h6,h7,h8⟩:=hr
  exact hk a' t v h2 h3 h4 h5 h6 h7 h8
theorem tR {v:Int} {p:ab} {c:Int} (h0:0≤v) (h1:v≤c) {K:Nat→ab→aq α}:Ev (fun i=>aq.bind (dQ v p) (K i)) Q (PP c):=by
 unfold dQ
 exact Ev.ll ⟨v,rfl,h0,h1⟩
theorem iW (hm:bZ m) (hC:PC s T b) (h0:0≤a) (h1:a<T.length) {c:Int} (hc:b+s.length≤c) {K:Nat→ab→aq α}:Ev (fun i=>aq.bind (be (m i) (bL s T a b k q)) (K i)) Q (PP c):=by
 refine Ev.bind (Q:=fun _=>False) (R':=PP c) ?_ (fun _ q=>q) fun r hr=>hr.elim
 unfold be
 refine kt hm hC h0 h1 fun a' t v _ _ _ _ _ h2 h3=>?_
 exact tR h2 (by omega)
theorem kj (hm:bZ m) (hC:PC s T b) (h0:0≤a) (h1:a<T.length) {x:List UInt8} {K:Nat→Bool×ab→aq α}
  (ht:∀ a' t,a<a'→a'<T.length→T[(a' - 1).toNat]?=some t→t.Kind=5→t.Text=x→(∀ u,T[a.toNat]?=some u→(k=true→u.Kind≠7)→a'=a+1)→Ev (fun i=>K i (true,bL s T a' b k q)) Q R)
  (hf:∀ a' t,a≤a'→a'<T.length→T[a'.toNat]?=some t→(k=true→t.Kind≠7)→¬ (t.Kind=5∧t.Text=x)→(∀ u,T[a.toNat]?=some u→(k=true→u.Kind≠7)→a'=a)→Ev (fun i=>K i (false,bL s T a' b k q)) Q R) :
  Ev (fun i=>aq.bind (bG (m i) x (bL s T a b k q)) (K i)) Q R:=by
 refine Ev.bind (Q:=fun r=>(∃ a' t,r=(true,bL s T a' b k q)∧a<a'∧a'<T.length∧T[(a' - 1).toNat]?=some t∧t.Kind=5∧t.Text=x∧(∀ u,T[a.toNat]?=some u→(k=true→u.Kind≠7)→a'=a+1))∨
  (∃ a' t,r=(false,bL s T a' b k q)∧a≤a'∧a'<T.length∧T[a'.toNat]?=some t∧(k=true→t.Kind≠7)∧¬ (t.Kind=5∧t.Text=x)∧(∀ u,T[a.toNat]?=some u→(k=true→u.Kind≠7)→a'=a))) (R':=gh) ?_ (fun _ q=>q.elim) fun r hr=>?_
 ·unfold bG
  have:=hC.kT
  refine fm hm hC h0 h1 fun a' t h2 h3 h4 h5 h6=>?_
  dsimp only
  refine jf fun r hr1 hr2=>?_
  refine Ev.bh (fun h=>Ev.ok (.inr ⟨a',t,rfl,h2,h3,h4,h5,hr2 h,h6⟩)) (fun h=>?_)
  obtain ⟨q1,q2⟩:=hr1 h
  have:=hC.next (by omega) h4 (by omega)
  exact Ev.gd (by (first|omega|(simp[bA]<;>omega))) (Ev.ok (.inl ⟨a'+1,t,rfl,by omega,by omega,by simpa using h4,q1,q2,fun u hu hk=>by rw[h6 u hu hk]⟩))
 ·rcases hr with ⟨a',t,rfl,h2,h3,h4,h5,h6,h7⟩|⟨a',t,rfl,h2,h3,h4,h5,h6,h7⟩
  ·exact ht a' t h2 h3 h4 h5 h6 h7
  ·exact hf a' t h2 h3 h4 h5 h6 h7
theorem iX (hm:bZ m) (hC:PC s T b) (h0:0≤a) (h1:a<T.length) {c:Int} (hc:b+s.length≤c) {x:List UInt8} {K:Nat→ab→aq α}
  (ht:∀ a' t,a<a'→a'<T.length→T[(a' - 1).toNat]?=some t→t.Kind=5→t.Text=x→(∀ u,T[a.toNat]?=some u→(k=true→u.Kind≠7)→a'=a+1)→Ev (fun i=>K i (bL s T a' b k q)) Q (PP c)) :
  Ev (fun i=>aq.bind (bI (m i) x (bL s T a b k q)) (K i)) Q (PP c):=by
 refine Ev.bind (Q:=fun r=>(∃ a' t,r=(bL s T a' b k q)∧a<a'∧a'<T.length∧T[(a' - 1).toNat]?=some t∧t.Kind=5∧t.Text=x∧(∀ u,T[a.toNat]?=some u→(k=true→u.Kind≠7)→a'=a+1))) (R':=PP c) ?_ (fun _ q=>q) fun r hr=>?_
 ·unfold bI
  refine kj hm hC h0 h1 (fun a' t h2 h3 h4 h5 h6 h7=>Ev.ok ⟨a',t,rfl,h2,h3,h4,h5,h6,h7⟩) (fun a' t h2 h3 h4 h5 h6 h7=>?_)
  exact iW hm hC (by omega) (by omega) hc
 ·obtain ⟨a',t,rfl,h2,h3,h4,h5,h6,h7⟩:=hr
  exact ht a' t h2 h3 h4 h5 h6 h7
theorem mh (hm:bZ m) (hC:PC s T b) (h0:0≤a) (h1:a<T.length) {c:Int} (hc:b+s.length≤c) {x:List UInt8} {K:Nat→ab→aq α}
  (ht:∀ a' t,a≤a'→a'+1<T.length→T[a'.toNat]?=some t→t.Kind=5→t.Text=x→Ev (fun i=>K i (bL s T a' b k q)) Q (PP c)) :
  Ev (fun i=>aq.bind (cy (m i) x (bL s T a b k q)) (K i)) Q (PP c):=by
 refine Ev.bind (Q:=fun r=>(∃ a' t,r=(bL s T a' b k q)∧a≤a'∧a'+1<T.length∧T[a'.toNat]?=some t∧t.Kind=5∧t.Text=x)) (R':=PP c) ?_ (fun _ q=>q) fun r hr=>?_
 ·unfold cy
  refine fm hm hC h0 h1 fun a' t h2 h3 h4 h5 h6=>?_
  dsimp only
  refine jf fun r hr1 hr2=>?_
  refine Ev.bh (fun h=>iW hm hC (by omega) (by omega) hc) (fun h=>?_)
  obtain ⟨q1,q2⟩:=hr1 h
  exact Ev.ok ⟨a',t,rfl,h2,hC.next (by omega) h4 (by omega),h4,q1,q2⟩
 ·obtain ⟨a',t,rfl,h⟩:=hr
  exact ht a' t h.1 h.2.1 h.2.2.1 h.2.2.2.1 h.2.2.2.2
theorem pM (hm:bZ m) (hC:PC s T b) (h0:0≤a) (h1:a<T.length) {c:Int} (hc:b+s.length≤c) {x:List UInt8} {K:Nat→ab→aq α}
  (ht:∀ a',a<a'→a'<T.length→Ev (fun i=>K i (bL s T a' b k q)) Q (PP c)):Ev (fun i=>aq.bind (db (m i) x (bL s T a b k q)) (K i)) Q (PP c):=by
 refine Ev.bind (Q:=fun r=>(∃ a',r=(bL s T a' b k q)∧a<a'∧a'<T.length)) (R':=PP c) ?_ (fun _ q=>q) fun r hr=>?_
 ·unfold db
  have:=hC.kT
  refine fm hm hC h0 h1 fun a' t h2 h3 h4 h5 h6=>?_
  dsimp only
  refine pL fun r hr1 hr2=>?_
  refine Ev.bh (fun h=>iW hm hC (by omega) (by omega) hc) (fun h=>?_)
  obtain ⟨q1,q2⟩:=hr1 h
  have:=hC.next (by omega) h4 (by omega)
  exact Ev.gd (by (first|omega|(simp[bA]<;>omega))) (Ev.ok ⟨a'+1,rfl,by omega,by omega⟩)
 ·obtain ⟨a',rfl,h⟩:=hr
  exact ht a' h.1 h.2
theorem tS (hm:bZ m) (hC:PC s T b) (h0:0≤a) (h1:a<T.length) {c:Int} (hc:b+s.length≤c) {K:Nat→List UInt8×ab→aq α}
  (ht:∀ a' x,a<a'→a'<T.length→Ev (fun i=>K i (x,bL s T a' b k q)) Q (PP c)):Ev (fun i=>aq.bind (dc (m i) (bL s T a b k q)) (K i)) Q (PP c):=by
 refine Ev.bind (Q:=fun r=>(∃ a' x,r=(x,bL s T a' b k q)∧a<a'∧a'<T.length)) (R':=PP c) ?_ (fun _ q=>q) fun r hr=>?_
 ·unfold dc
  have:=hC.kT
  refine fm hm hC h0 h1 fun a' t h2 h3 h4 h5 h6=>?_
  dsimp only
  refine Ev.jn (fun v=>v=bL s T a' b k q∧t.Kind=1) (fun v hv=>?_) (fun j hj=>?_)
  ·obtain ⟨rfl,h7⟩:=hv
   have:=hC.next (by omega) h4 (by omega)
   exact Ev.gd (by (first|omega|(simp[bA]<;>omega))) (Ev.ok ⟨a'+1,_,rfl,by omega,by omega⟩)
  ·refine Ev.bN (fun _=>iW hm hC (by omega) (by omega) hc) (fun h1=>?_)
   refine Ev.bind (fR hm) (fun _ q=>q.elim) fun z _=>?_
   exact Ev.bh (fun _=>iW hm hC (by omega) (by omega) hc) (fun _=>hj _ ⟨rfl,h1⟩)
 ·obtain ⟨a',x,rfl,h⟩:=hr
  exact ht a' x h.1 h.2
theorem xQ (hm:bZ m) (hC:PC s T b) (h0:0≤a) (h1:a<T.length) {c:Int} (hc:b+s.length≤c) {K:Nat→fY×ab→aq α}
  (ht:∀ a' x,a<a'→a'<T.length→Ev (fun i=>K i (x,bL s T a' b k q)) Q (PP c)):Ev (fun i=>aq.bind (eJ (m i) (bL s T a b k q)) (K i)) Q (PP c):=by
 refine Ev.bind (Q:=fun r=>(∃ a' x,r=(x,bL s T a' b k q)∧a<a'∧a'<T.length)) (R':=PP c) ?_ (fun _ q=>q) fun r hr=>?_
 ·unfold eJ
  refine tS hm hC h0 h1 hc fun a1 x1 h2 h3=>iX hm hC (by omega) (by omega) hc fun a2 t h4 h5 _ _ _ _=>kt hm hC (by omega) (by omega) fun a3 t3 v h6 h7 _ _ _ h8 h9=>tS hm hC (by omega) (by omega) hc fun a4 x4 h10 h11=>?_
  exact Ev.bk (fun _=>tR h8 (by omega)) (fun _=>Ev.ok ⟨a4,_,rfl,by omega,by omega⟩)
 ·obtain ⟨a',x,rfl,h⟩:=hr
  exact ht a' x h.1 h.2
theorem lH {n:Int} (hC:PC s T b) (h0:0≤a) (h1:a<T.length) (hn:0≤n) (hn2:n≤70000) {K:Nat→aK×ab→aq α}
  (hk:∀ t,(t.Kind≠0→T[(a+n).toNat]?=some t∧a+n+1<T.length)→Ev (fun i=>K i (t,bL s T a b k q)) Q R):Ev (fun i=>aq.bind (cj n (bL s T a b k q)) (K i)) Q R:=by
 refine Ev.bind (Q:=fun r=>∃ t,r=(t,bL s T a b k q)∧(t.Kind≠0→T[(a+n).toNat]?=some t∧a+n+1<T.length)) (R':=gh) ?_ (fun _ q=>q.elim) fun r hr=>?_
 ·unfold cj
  have:=hC.kT
  dsimp only
  refine Ev.gd (by (first|omega|(simp[bA]<;>omega))) (Ev.gd (by (first|omega|(simp[bA]<;>omega))) (Ev.el (by split<;>omega) (by split<;>omega) fun t ht=>Ev.ok ⟨t,rfl,fun hk=>?_⟩))
  have h2:=((hC.tok ht).2.2.2.2.2 hk).1
  have:¬ ((T.length:Int) - 1<a+n):=fun h=>by rw[if_pos h] at h2;omega
  rw[if_neg this] at ht h2
  exact ⟨ht,by omega⟩
 ·obtain ⟨t,rfl,h⟩:=hr
  exact hk t h
theorem tH (hm:bZ m) (hC:PC s T b) (h0:0≤a) (h1:a<T.length):Ev (fun i=>dB (m i) (bL s T a b k q)) (fun r=>r.2=bL s T a b k q) gh:=by
 have hl:=hC.kT
 unfold dB
 dsimp only
 refine Ev.gd (by (first|omega|(simp[bA]<;>omega))) ?_
 refine Ev.iter hm (fun (x:Int)=>-1≤x∧x<a) (fun x=>(x+1).toNat) (by omega) ?_
 intro x hx next hn
 refine Ev.aU (fun h=>?_) (fun _=>Ev.ok rfl)
 refine Ev.el (by omega) (by omega) fun t ht=>?_
 refine Ev.bN (fun _=>?_) (fun _=>Ev.gd (by (first|omega|(simp[bA]<;>omega))) (hn _ (by omega) (by omega)))
 refine Ev.Fk (by omega) ht (Ev.el (by omega) (by omega) fun u hu=>?_)
 have h2:=hC.sorted (by omega) ht hu
 have h3:=hC.tok ht
 have h4:=hC.tok hu
 have:=hC.bs
 have:=hC.b0
 refine Ev.gd (by omega) ?_
 have:=ry (c:=s) (i:=t.End) (j:=u.Pos) (by omega) (by omega) (by omega)
 exact Ev.bind (n8 (by omega)) (fun _ q=>q) fun _ _=>Ev.ok rfl
theorem s6 (hm:bZ m) (hC:PC s T b) (h0:0≤a) (h1:a<T.length) {e:Int} (he:1≤e) (he2:e≤a):Ev (fun i=>er (m i) e (bL s T a b k q)) (fun r=>r.2=bL s T a b k q) gh:=by
 have hl:=hC.kT
 unfold er
 dsimp only
 refine Ev.iter hm (fun (x:Int)=>e≤x∧x≤a) (fun x=>(a - x).toNat) (by omega) ?_
 intro x hx next hn
 refine Ev.aU (fun h=>?_) (fun _=>?_)
 ·refine Ev.el (by omega) (by omega) fun t ht=>jf fun r _ _=>Ev.bh (fun _=>Ev.ok rfl) (fun _=>?_)
  exact Ev.gd (by (first|omega|(simp[bA]<;>omega))) (hn _ (by omega) (by omega))
 ·refine Ev.gd (by (first|omega|(simp[bA]<;>omega))) (Ev.el (by omega) (by omega) fun t ht=>Ev.el (by omega) (by omega) fun u hu=>?_)
  have h2:=hC.sorted (by omega) ht hu
  have h3:=hC.tok ht
  have h4:=hC.tok hu
  have:=hC.bs
  have:=hC.b0
  refine Ev.gd (by omega) ?_
  have:=ry (c:=s) (i:=t.End) (j:=u.Pos) (by omega) (by omega) (by omega)
  exact Ev.bind (n8 (by omega)) (fun _ q=>q) fun _ _=>Ev.ok rfl
theorem CR (hm:bZ m) (hC:PC s T b) (h0:0≤a) (h1:a<T.length) {K:Nat→Bool×ab→aq α}
  (hk:∀ a' t r,a≤a'→a'<T.length→T[a'.toNat]?=some t→(r=false→t.Kind≠0)→(k=true→t.Kind≠7)→Ev (fun i=>K i (r,bL s T a' b k q)) Q R):Ev (fun i=>aq.bind (dx (m i) (bL s T a b k q)) (K i)) Q R:=by
 refine Ev.bind (Q:=fun r=>∃ a' t x,r=(x,bL s T a' b k q)∧a≤a'∧a'<T.length∧T[a'.toNat]?=some t∧(x=false→t.Kind≠0)∧(k=true→t.Kind≠7)) (R':=gh) ?_ (fun _ q=>q.elim) fun r hr=>?_
 ·unfold dx
  refine fm hm hC h0 h1 fun a1 t1 h2 h3 h4 h5 _=>?_
  dsimp only
  refine Ev.bk (fun _=>Ev.ok ⟨a1,t1,_,rfl,h2,h3,h4,by simp,h5⟩) (fun hne=>?_)
  refine fm hm hC (by omega) h3 fun a2 t2 h6 h7 h8 h9 h10=>jf fun r _ _=>Ev.ok ⟨a2,t2,r,rfl,by omega,by omega,h8,fun _=>?_,h9⟩
  have:=h10 t1 h4 h5
  subst this
  rw[h4] at h8;cases h8;exact hne
 ·obtain ⟨a',t,x,rfl,h⟩:=hr
  exact hk a' t x h.1 h.2.1 h.2.2.1 h.2.2.2.1 h.2.2.2.2
end
end Go.Abs
end
