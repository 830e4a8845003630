/- PROVED: lemmas of the proof that configlanglaw26.ParserFaults returns true for every input. CONDITIONS: as each lemma states. (Put together by a program of my own out of my own texts.) -/
import Derived.Test.YtkhjeiaafiodeaaGreatDoorF3
section
namespace Go.Abs
open Go.Proofs ay
structure aE where
 ir:(List UInt8)→Int→ay (ai×Bool)
 bH:Bool→ag→ay (ai×ag)
 dP:ag→ay ((List ai)×ag)
 ep:(List ai)→ag→ay ((List ai)×ag)
 bU:Int→Bool→ag→ay (ai×ag)
 cw:Bool→ag→ay ((List ax)×(List (List UInt8))×ag)
 dZ:Bool→(List ax)→(List (List UInt8))→ag→ay (Bool×(List ax)×(List (List UInt8))×ag)
 dn:Bool→ag→ay (ai×ag)
 bI:Bool→ag→ay (ai×ag)
 cF:Bool→ag→ay (ax×ag)
 dp:Bool→ag→ay ((List ax)×(List (List UInt8))×ag)
 c6:Bool→ag→ax→ay (ag×ax)
 aG:Bool→ag→ay (ai×ag)
 dx:Bool→ag→ax→ay (ag×ax)
 dq:aS→Int→ag→ay (ai×ag)
 dQ:ag→ay (ai×ag)
 dR:ag→ay (ai×ag)
 er:ai→ag→ay (ai×ag)
 dy:ag→ay (ai×ag)
 cI:Bool→ag→ay (ai×ag)
 dS:Bool→ai→ag→ay (Bool×ai×ag)
 c7:Bool→ag→ax→ay (ag×ax)
 cA:Bool→ag→ay (ai×ag)
 dD:ai→ag→ay (ai×ag)
 c8:Bool→ag→ay (ai×ag)
 cQ:Bool→ag→ay (ai×ag)
 dE:Bool→ag→Bool→(List ax)→(List (List UInt8))→ay (ag×Bool×(List ax)×(List (List UInt8)))
 dF:Bool→ag→Bool→ai→ay (ag×Bool×ai)
 db:Bool→ag→ai→ay (ag×ai)
 dG:Bool→ag→ai→ay (ag×ai)
 dH:Bool→ag→(List ai)→ay (ag×(List ai))
def lJ (n:Nat) (T:aE) (p0:(List UInt8)) (p1:Int):ay (ai×Bool):=
 ay.bind (lC n p0) fun y3=>br (y3.2.Errno !=0) (.ok ((ai.mk 0 [] 0 [] [] [] [] [] 0),false)) (ay.bind (eC n y3.1) fun y9=>br y9 (.ok ((ai.mk 0 [] 0 [] [] [] [] [] 0),false)) (pc (ay.bind (T.aG false (ag.mk p0 y3.1 0 p1 true none)) fun y15=>ay.bind (aH n y15.2) fun y17=>.ok (y15.1,(y17.1.Kind==0))) (fun p=>ss 86 p fun v19=>ay.bind (k7 v19) fun y20=>.ok (y20.1,y20.2))))
def eV (n:Nat) (T:aE) (p0:Bool) (p1:ag):ay (ai×ag):=
 br (Option.isNone (Option.map ai.C p1.pending)) (ay.bind (bO n p1) fun y7=>ay.bind (cy n ([42]:List UInt8) y7.2) fun y9=>br y9.1 (ay.bind (T.bI false y9.2) fun y12=>.ok ((ai.mk 18 [] 0 [] [] [y12.1] [] [] y7.1),y12.2)) (ay.bind (T.bI p0 y9.2) fun y14=>.ok (y14.1,y14.2))) (ay.bind (T.bI p0 p1) fun y16=>.ok (y16.1,y16.2))
def iu (n:Nat) (T:aE) (p0:ag):ay ((List ai)×ag):=
 ay.bind (b5 n ([40]:List UInt8) p0) fun y3=>ay.bind (T.dH true y3 []) fun y6=>gd (aD (y6.1.at_+1)) (.ok (y6.2,(ag.mk y6.1.text y6.1.bg (y6.1.at_+1) y6.1.base y6.1.skip y6.1.pending)))
def gw (n:Nat) (T:aE) (p0:(List ai)) (p1:ag):ay ((List ai)×ag):=
 ay.bind (aH n p1) fun y3=>ay.bind (cE y3.1 ([41]:List UInt8)) fun y4=>br (!y4) (ay.bind (T.aG false (ag.mk y3.2.text y3.2.bg y3.2.at_ p1.base y3.2.skip y3.2.pending)) fun y7=>gd (aL 144 (List.length p0) (List.length [(ai.mk 0 ([]:List UInt8) 0 ([]:List UInt8) ([]:List UInt8) [] [] [] 0)])) (iter (fun next10 (v9:(List ai)×ag)=>ay.bind (cy n ([44]:List UInt8) v9.2) fun y14=>br y14.1 (ay.bind (T.aG false y14.2) fun y16=>gd (aL 144 (List.length v9.1) (List.length [(ai.mk 0 ([]:List UInt8) 0 ([]:List UInt8) ([]:List UInt8) [] [] [] 0)])) (next10 (v9.1++[y16.1],y16.2))) (ay.bind (cP n ([41]:List UInt8) y14.2) fun y18=>.ok (v9.1,y18))) n (p0++[y7.1],y7.2))) (ay.bind (cP n ([41]:List UInt8) (ag.mk y3.2.text y3.2.bg y3.2.at_ p1.base y3.2.skip y3.2.pending)) fun y29=>.ok (p0,y29))
def gx (n:Nat) (T:aE) (p0:Int) (p1:Bool) (p2:ag):ay (ai×ag):=
 br (decide (p0>4)) (ay.bind (T.cQ p1 p2) fun y6=>.ok (y6.1,y6.2)) (gd (aD (p0+1)) (ay.bind (T.bU (p0+1) p1 p2) fun y9=>iter (fun next12 (v11:ag×ai)=>ay.bind (aH n v11.1) fun y16=>ay.bind (kf p0) fun y17=>ay.bind (jk n y16.1 y17) fun y18=>br y18 (ay.bind (bO n (ag.mk y16.2.text y16.2.bg y16.2.at_ v11.1.base y16.2.skip y16.2.pending)) fun y21=>ay.bind (bB n v11.2 y21.1 y21.2) fun y22=>ay.bind (aH n y22.2) fun y24=>gd (aD (y24.2.at_+1)) (gd (aD (p0+1)) (ay.bind (T.bU (p0+1) false (ag.mk y24.2.text y24.2.bg (y24.2.at_+1) y22.2.base y24.2.skip y24.2.pending)) fun y28=>next12 (y28.2,(ai.mk 20 y24.1.Text 0 [] [] [y22.1,y28.1] [] [] y22.1.Pos))))) (.ok (v11.2,(ag.mk y16.2.text y16.2.bg y16.2.at_ v11.1.base y16.2.skip y16.2.pending)))) n (y9.2,y9.1)))
def gT (n:Nat) (T:aE) (p0:Bool) (p1:ag):ay ((List ax)×(List (List UInt8))×ag):=
 ay.bind (b5 n ([123]:List UInt8) p1) fun y3=>ay.bind (T.dE false y3 p0 [] []) fun y7=>gd (aD (y7.1.at_+1)) (.ok (y7.2.2.1,y7.2.2.2,(ag.mk y7.1.text y7.1.bg (y7.1.at_+1) y7.1.base y7.1.skip y7.1.pending)))
def fV (n:Nat) (T:aE) (p0:Bool) (_:(List ax)) (_:(List (List UInt8))) (p3:ag):ay (Bool×(List ax)×(List (List UInt8))×ag):=
 ay.bind (T.dp p0 p3) fun y2=>ay.bind (cP n ([125]:List UInt8) y2.2.2) fun y3=>.ok (p0,y2.1,y2.2.1,y3)
def gy (n:Nat) (T:aE) (p0:Bool) (p1:ag):ay (ai×ag):=
 ay.bind (bO n p1) fun y3=>jn (fun (v4:ai)=>ay.bind (T.cw p0 y3.2) fun y8=>.ok ((ai.mk v4.Kind v4.Text v4.jD v4.bk v4.bt [] y8.1 y8.2.1 v4.Pos),y8.2.2)) fun j5=>br p0 (j5 ((ai.mk 13 [] 0 [] [] [] [] [] y3.1))) (j5 ((ai.mk 22 [] 0 [] [] [] [] [] y3.1)))
def eW (n:Nat) (T:aE) (p0:Bool) (p1:ag):ay (ai×ag):=
 ay.bind (T.bU 0 p0 p1) fun y3=>iter (fun next6 (v5:ag×ai)=>ay.bind (cy n ([38]:List UInt8) v5.1) fun y10=>br y10.1 (ay.bind (T.bU 0 p0 y10.2) fun y12=>next6 (y12.2,(ai.mk 16 [] 0 [] [] [v5.2,y12.1] [] [] v5.2.Pos))) (.ok (v5.2,y10.2))) n (y3.2,y3.1)
def iv (n:Nat) (T:aE) (p0:Bool) (p1:ag):ay (ax×ag):=
 ay.bind (aH n p1) fun y3=>ay.bind (bO n (ag.mk y3.2.text y3.2.bg y3.2.at_ p1.base y3.2.skip y3.2.pending)) fun y5=>ay.bind (cW 1 y5.2) fun y7=>jn (fun (v8:ag×ax)=>.ok (v8.2,v8.1)) fun j9=>jn (fun (v12:Bool)=>br v12 (ay.bind (T.dx p0 y7.2 (ax.mk 0 0 [] [] [] [] [] [] [] [] y5.1)) fun y16=>j9 (y16.1,y16.2)) (ay.bind (fT n y7.2) fun y18=>br y18.1 (ay.bind (T.c7 p0 y18.2 (ax.mk 0 0 [] [] [] [] [] [] [] [] y5.1)) fun y20=>j9 (y20.1,y20.2)) (ay.bind (fg y3.1 ([108,101,116]:List UInt8)) fun y22=>br y22 (jn (fun (v24:ag)=>gd (aD (v24.at_+1)) (ay.bind (dO n (ag.mk v24.text v24.bg (v24.at_+1) v24.base v24.skip v24.pending)) fun y30=>ay.bind (b5 n ([61]:List UInt8) y30.2) fun y32=>ay.bind (T.aG true y32) fun y33=>j9 (y33.2,(ax.mk 4 0 y30.1 [] [] [y33.1] [] [] [] [] y5.1)))) fun j25=>br (!p0) (ay.bind (bp n y18.2) fun y36=>j25 (y36)) (j25 (y18.2))) (ay.bind (cE y3.1 ([46,46,46]:List UInt8)) fun y38=>br y38 (jn (fun (v40:ag)=>gd (aD (v40.at_+1)) (j9 ((ag.mk v40.text v40.bg (v40.at_+1) v40.base v40.skip v40.pending),(ax.mk 8 0 [] [] [] [] [] [] [] [] y5.1)))) fun j41=>br (!p0) (ay.bind (bp n y18.2) fun y47=>j41 (y47)) (j41 (y18.2))) (ay.bind (fg y3.1 ([105,102]:List UInt8)) fun y49=>br y49 (gd (aD (y18.2.at_+1)) (ay.bind (T.aG false (ag.mk y18.2.text y18.2.bg (y18.2.at_+1) y18.2.base y18.2.skip y18.2.pending)) fun y55=>ay.bind (T.cw false y55.2) fun y56=>j9 (y56.2.2,(ax.mk 5 0 [] [] [] [y55.1] y56.1 y56.2.1 [] [] y5.1)))) (ay.bind (fg y3.1 ([102,111,114]:List UInt8)) fun y58=>br y58 (gd (aD (y18.2.at_+1)) (ay.bind (gq n (ag.mk y18.2.text y18.2.bg (y18.2.at_+1) y18.2.base y18.2.skip y18.2.pending)) fun y63=>ay.bind (dY n ([105,110]:List UInt8) y63.2) fun y65=>ay.bind (T.aG false y65) fun y67=>ay.bind (T.cw false y67.2) fun y68=>j9 (y68.2.2,(ax.mk 6 0 [] y63.1.x0 y63.1.x1 [y67.1] y68.1 y68.2.1 [] [] y5.1)))) (ay.bind (cE y3.1 ([40]:List UInt8)) fun y70=>br y70 (ay.bind (T.c6 p0 y18.2 (ax.mk 0 0 [] [] [] [] [] [] [] [] y5.1)) fun y72=>j9 (y72.1,y72.2)) (ay.bind (T.aG p0 y18.2) fun y74=>j9 (y74.2,(ax.mk 3 0 [] [] [] [y74.1] [] [] [] [] y5.1)))))))))) fun j13=>ay.bind (jX n y3.1) fun y75=>br y75 (ay.bind (jk n y7.1 ([58,32,63,32,33]:List UInt8)) fun y77=>j13 (y77)) (j13 (false))
def kv (n:Nat) (T:aE) (p0:Bool) (p1:ag):ay ((List ax)×(List (List UInt8))×ag):=
 iter (fun next7 (v6:ag×(List (List UInt8))×(List ax)×Int×Bool)=>ay.bind (gL n v6.1) fun y11=>br (!y11.1) (ay.bind (aH n y11.2) fun y14=>jn (fun (v15:Bool)=>br v15 (gd (aD (y14.2.at_+1)) (next7 ((ag.mk y14.2.text y14.2.bg (y14.2.at_+1) y11.2.base y14.2.skip y14.2.pending),v6.2.1,v6.2.2.1,v6.2.2.2.1,true))) (jn (fun (v21:ag×Bool)=>br v21.2 (gd (aD ((List.length v6.2.2.1:Int) - 1)) (el v6.2.2.1 ((List.length v6.2.2.1:Int) - 1) fun x27=>gd (aD (v21.1.at_+1)) (next7 ((ag.mk v21.1.text v21.1.bg (v21.1.at_+1) v21.1.base v21.1.skip v21.1.pending),v6.2.1,List.set v6.2.2.1 ((List.length v6.2.2.1:Int) - 1).toNat (ax.mk x27.Kind x27.cj x27.Label x27.bk x27.bt x27.bc x27.Body x27.b3 x27.jG y14.1.Text x27.Pos),v6.2.2.2.1,v6.2.2.2.2)))) (jn (fun (v32:ag×Bool)=>br v32.2 (gd (aL 16 (List.length v6.2.1) (List.length [y14.1.Text])) (gd (aD (v32.1.at_+1)) (next7 ((ag.mk v32.1.text v32.1.bg (v32.1.at_+1) v32.1.base v32.1.skip v32.1.pending),v6.2.1++[y14.1.Text],v6.2.2.1,v6.2.2.2.1,v6.2.2.2.2)))) (jn (fun (v39:Bool)=>br v39 (ay.bind (bp n v32.1) fun y43=>next7 (y43,v6.2.1,v6.2.2.1,v6.2.2.2.1,v6.2.2.2.2)) (ay.bind (T.cF p0 v32.1) fun y45=>gd (aL 184 (List.length v6.2.2.1) (List.length [(ax.mk y45.1.Kind y45.1.cj y45.1.Label y45.1.bk y45.1.bt y45.1.bc y45.1.Body y45.1.b3 v6.2.1 y45.1.Trail y45.1.Pos)])) (next7 (y45.2,[],v6.2.2.1++[(ax.mk y45.1.Kind y45.1.cj y45.1.Label y45.1.bk y45.1.bt y45.1.bc y45.1.Body y45.1.b3 v6.2.1 y45.1.Trail y45.1.Pos)],y45.2.at_,false)))) fun j40=>br (y14.1.Kind==6) (j40 (true)) (j40 ((!v6.2.2.2.2))))) fun j33=>br (y14.1.Kind==6) (ay.bind (ez n v21.1) fun y52=>j33 (y52.2,y52.1)) (j33 (v21.1,false)))) fun j22=>br (y14.1.Kind==6) (br (decide (v6.2.2.2.1>0)) (ay.bind (fN n v6.2.2.2.1 (ag.mk y14.2.text y14.2.bg y14.2.at_ y11.2.base y14.2.skip y14.2.pending)) fun y55=>j22 (y55.2,y55.1)) (j22 ((ag.mk y14.2.text y14.2.bg y14.2.at_ y11.2.base y14.2.skip y14.2.pending),false))) (j22 ((ag.mk y14.2.text y14.2.bg y14.2.at_ y11.2.base y14.2.skip y14.2.pending),false)))) fun j16=>br (y14.1.Kind==7) (j16 (true)) (ay.bind (cE y14.1 ([44]:List UInt8)) fun y57=>j16 (y57))) (.ok (v6.2.2.1,v6.2.1,y11.2))) n (p1,[],[],(-1),true)
def fW (n:Nat) (T:aE) (p0:Bool) (p1:ag) (p2:ax):ay (ag×ax):=
 ay.bind (T.cI p0 p1) fun y2=>ay.bind (aH n y2.2) fun y5=>ay.bind (cE y5.1 ([58]:List UInt8)) fun y6=>br y6 (ay.bind (bO n (ag.mk y5.2.text y5.2.bg y5.2.at_ y2.2.base y5.2.skip y5.2.pending)) fun y9=>ay.bind (bB n y2.1 y9.1 y9.2) fun y10=>gd (aD (y10.2.at_+1)) (ay.bind (T.aG false (ag.mk y10.2.text y10.2.bg (y10.2.at_+1) y10.2.base y10.2.skip y10.2.pending)) fun y14=>.ok (y14.2,(ax.mk 7 p2.cj p2.Label p2.bk p2.bt [y10.1,y14.1] p2.Body p2.b3 p2.jG p2.Trail p2.Pos)))) (ay.bind (T.aG p0 (ag.mk y5.2.text y5.2.bg y5.2.at_ y2.2.base y5.2.skip (some y2.1))) fun y16=>.ok (y16.2,(ax.mk 3 p2.cj p2.Label p2.bk p2.bt [y16.1] p2.Body p2.b3 p2.jG p2.Trail p2.Pos)))
def iw (n:Nat) (T:aE) (p0:Bool) (p1:ag):ay (ai×ag):=
 jn (fun (v2:ag×Bool)=>jn (fun (v5:ag×ai)=>jn (fun (v8:ag)=>jn (fun (v11:ag)=>ay.bind (bO n v11) fun y15=>ay.bind (bB n v5.2 y15.1 y15.2) fun y16=>iter (fun next19 (v18:ag×(List ai))=>ay.bind (cy n ([124]:List UInt8) v18.1) fun y23=>br y23.1 (ay.bind (T.bH false y23.2) fun y25=>gd (aL 144 (List.length v18.2) (List.length [y25.1])) (next19 (y25.2,v18.2++[y25.1]))) (el v18.2 0 fun x28=>.ok ((ai.mk 17 [] 0 [] [] v18.2 [] [] x28.Pos),y23.2))) n (y16.2,[y16.1])) fun j12=>ay.bind (aH n v8) fun y33=>ay.bind (cE y33.1 ([124]:List UInt8)) fun y34=>br (!y34) (ay.bind (bp n (ag.mk y33.2.text y33.2.bg y33.2.at_ v8.base y33.2.skip y33.2.pending)) fun y36=>j12 (y36)) (j12 ((ag.mk y33.2.text y33.2.bg y33.2.at_ v8.base y33.2.skip y33.2.pending)))) fun j9=>br (!v2.2) (ay.bind (aH n v5.1) fun y39=>ay.bind (cE y39.1 ([124]:List UInt8)) fun y40=>br (!y40) (.ok (v5.2,(ag.mk y39.2.text y39.2.bg y39.2.at_ v5.1.base y39.2.skip y39.2.pending))) (j9 ((ag.mk y39.2.text y39.2.bg y39.2.at_ v5.1.base y39.2.skip y39.2.pending)))) (j9 (v5.1))) fun j6=>br p0 (ay.bind (T.bH (!v2.2) v2.1) fun y44=>j6 (y44.2,y44.1)) (ay.bind (T.bH false v2.1) fun y45=>j6 (y45.2,y45.1))) fun j3=>br (Option.isNone (Option.map ai.C p1.pending)) (ay.bind (aH n p1) fun y47=>ay.bind (cE y47.1 ([42]:List UInt8)) fun y48=>j3 ((ag.mk y47.2.text y47.2.bg y47.2.at_ p1.base y47.2.skip y47.2.pending),y48)) (j3 (p1,false))
def gU (n:Nat) (T:aE) (p0:Bool) (p1:ag) (p2:ax):ay (ag×ax):=
 ay.bind (aH n p1) fun y2=>gd (aD (y2.2.at_+1)) (jn (fun (v5:ag×ax)=>ay.bind (b5 n ([58]:List UInt8) v5.1) fun y9=>ay.bind (T.aG p0 y9) fun y10=>.ok (y10.2,(ax.mk v5.2.Kind v5.2.cj v5.2.Label v5.2.bk v5.2.bt [y10.1] v5.2.Body v5.2.b3 v5.2.jG v5.2.Trail v5.2.Pos))) fun j6=>ay.bind (cy n ([63]:List UInt8) (ag.mk y2.2.text y2.2.bg (y2.2.at_+1) p1.base y2.2.skip y2.2.pending)) fun y12=>br y12.1 (j6 (y12.2,(ax.mk 1 3 y2.1.Text p2.bk p2.bt p2.bc p2.Body p2.b3 p2.jG p2.Trail p2.Pos))) (ay.bind (cy n ([33]:List UInt8) y12.2) fun y15=>br y15.1 (j6 (y15.2,(ax.mk 1 2 y2.1.Text p2.bk p2.bt p2.bc p2.Body p2.b3 p2.jG p2.Trail p2.Pos))) (j6 (y15.2,(ax.mk 1 1 y2.1.Text p2.bk p2.bt p2.bc p2.Body p2.b3 p2.jG p2.Trail p2.Pos)))))
def gz (n:Nat) (T:aE) (p0:aS) (p1:Int) (p2:ag):ay (ai×ag):=
 ay.bind (la n p0.Text) fun y3=>iter (fun next8 (v7:ag×ai×Int)=>br (decide (v7.2.2<(List.length y3.1:Int))) (el y3.1 v7.2.2 fun wH=>gd (aD (p1+1)) (gd (aD ((p1+1)+wH.Pos)) (br (!wH.Code) (gd (aL 144 (List.length v7.2.1.bc) (List.length [(ai.mk 4 wH.Text 0 [] [] [] [] [] ((p1+1)+wH.Pos))])) (gd (aD (v7.2.2+1)) (next8 (v7.1,(ai.mk v7.2.1.Kind v7.2.1.Text v7.2.1.jD v7.2.1.bk v7.2.1.bt (v7.2.1.bc++[(ai.mk 4 wH.Text 0 [] [] [] [] [] ((p1+1)+wH.Pos))]) [] [] v7.2.1.Pos),v7.2.2+1)))) (ay.bind (T.ir wH.Text ((p1+1)+wH.Pos)) fun y29=>br (!y29.2) (ay.bind (eM p1 v7.1) fun y33=>gd (aL 144 (List.length v7.2.1.bc) (List.length [y29.1])) (gd (aD (v7.2.2+1)) (next8 (y33,(ai.mk v7.2.1.Kind v7.2.1.Text v7.2.1.jD v7.2.1.bk v7.2.1.bt (v7.2.1.bc++[y29.1]) [] [] v7.2.1.Pos),v7.2.2+1)))) (gd (aL 144 (List.length v7.2.1.bc) (List.length [y29.1])) (gd (aD (v7.2.2+1)) (next8 (v7.1,(ai.mk v7.2.1.Kind v7.2.1.Text v7.2.1.jD v7.2.1.bk v7.2.1.bt (v7.2.1.bc++[y29.1]) [] [] v7.2.1.Pos),v7.2.2+1)))))))) (.ok ((ai.mk v7.2.1.Kind v7.2.1.Text v7.2.1.jD v7.2.1.bk v7.2.1.bt v7.2.1.bc [] [] v7.2.1.Pos),v7.1))) n (p2,(ai.mk 5 [] 0 [] [] [] [] [] p1),0)
def iy (n:Nat) (T:aE) (p0:ag):ay (ai×ag):=
 ay.bind (bO n p0) fun y3=>ay.bind (aH n y3.2) fun y6=>ay.bind (fg y6.1 ([102,111,114]:List UInt8)) fun y7=>br (!y7) (ay.bind (T.aG false (ag.mk y6.2.text y6.2.bg y6.2.at_ y3.2.base y6.2.skip y6.2.pending)) fun y10=>.ok (y10.1,y10.2)) (ay.bind (dY n ([102,111,114]:List UInt8) (ag.mk y6.2.text y6.2.bg y6.2.at_ y3.2.base y6.2.skip y6.2.pending)) fun y12=>ay.bind (gq n y12) fun y14=>ay.bind (dY n ([105,110]:List UInt8) y14.2) fun y16=>ay.bind (T.aG false y16) fun y18=>gd (aL 144 (List.length ([]:List ai)) (List.length [y18.1])) (jn (fun (v20:ag×ai)=>ay.bind (b5 n ([58]:List UInt8) v20.1) fun y24=>ay.bind (T.aG false y24) fun y26=>gd (aL 144 (List.length v20.2.bc) (List.length [y26.1])) (.ok ((ai.mk v20.2.Kind v20.2.Text v20.2.jD v20.2.bk v20.2.bt (v20.2.bc++[y26.1]) [] [] v20.2.Pos),y26.2))) fun j21=>ay.bind (aH n y18.2) fun y30=>ay.bind (fg y30.1 ([105,102]:List UInt8)) fun y31=>br y31 (ay.bind (dY n ([105,102]:List UInt8) (ag.mk y30.2.text y30.2.bg y30.2.at_ y18.2.base y30.2.skip y30.2.pending)) fun y34=>ay.bind (T.aG false y34) fun y35=>gd (aL 144 (List.length ([]++[y18.1])) (List.length [y35.1])) (j21 (y35.2,(ai.mk 15 [] 0 y14.1.x0 y14.1.x1 (([]++[y18.1])++[y35.1]) [] [] y3.1)))) (j21 ((ag.mk y30.2.text y30.2.bg y30.2.at_ y18.2.base y30.2.skip y30.2.pending),(ai.mk 15 [] 0 y14.1.x0 y14.1.x1 ([]++[y18.1]) [] [] y3.1)))))
def iz (n:Nat) (T:aE) (p0:ag):ay (ai×ag):=
 ay.bind (bO n p0) fun y3=>ay.bind (b5 n ([91]:List UInt8) y3.2) fun y5=>ay.bind (T.dG true y5 (ai.mk 14 [] 0 [] [] [] [] [] y3.1)) fun y7=>gd (aD (y7.1.at_+1)) (.ok (y7.2,(ag.mk y7.1.text y7.1.bg (y7.1.at_+1) y7.1.base y7.1.skip y7.1.pending)))
def gA (n:Nat) (T:aE) (p0:ai) (p1:ag):ay (ai×ag):=
 iter (fun next4 (v3:ai×ag×Bool)=>ay.bind (aH n v3.2.1) fun y8=>ay.bind (cE y8.1 ([93]:List UInt8)) fun y9=>br (!y9) (jn (fun (v12:ag)=>ay.bind (bO n v12) fun y16=>ay.bind (cy n ([46,46,46]:List UInt8) y16.2) fun y19=>br y19.1 (jn (fun (v23:ag×ai)=>gd (aL 144 (List.length v3.1.bc) (List.length [(ai.mk 0 ([]:List UInt8) 0 ([]:List UInt8) ([]:List UInt8) [] [] [] 0)])) (ay.bind (cP n ([93]:List UInt8) v23.1) fun y28=>.ok ((ai.mk v3.1.Kind v3.1.Text 1 v3.1.bk v3.1.bt (v3.1.bc++[v23.2]) v3.1.Decls v3.1.b3 v3.1.Pos),y28))) fun j24=>ay.bind (aH n y19.2) fun y31=>ay.bind (cE y31.1 ([93]:List UInt8)) fun y32=>br (!y32) (ay.bind (T.aG false (ag.mk y31.2.text y31.2.bg y31.2.at_ y19.2.base y31.2.skip y31.2.pending)) fun y34=>j24 (y34.2,y34.1)) (j24 ((ag.mk y31.2.text y31.2.bg y31.2.at_ y19.2.base y31.2.skip y31.2.pending),(ai.mk 6 [] 0 [] [] [] [] [] y16.1)))) (ay.bind (T.dQ y19.2) fun y35=>gd (aL 144 (List.length v3.1.bc) (List.length [(ai.mk 0 ([]:List UInt8) 0 ([]:List UInt8) ([]:List UInt8) [] [] [] 0)])) (next4 ((ai.mk v3.1.Kind v3.1.Text v3.1.jD v3.1.bk v3.1.bt (v3.1.bc++[y35.1]) v3.1.Decls v3.1.b3 v3.1.Pos),y35.2,false)))) fun j13=>br (!v3.2.2) (ay.bind (b5 n ([44]:List UInt8) (ag.mk y8.2.text y8.2.bg y8.2.at_ v3.2.1.base y8.2.skip y8.2.pending)) fun y39=>j13 (y39)) (j13 ((ag.mk y8.2.text y8.2.bg y8.2.at_ v3.2.1.base y8.2.skip y8.2.pending)))) (ay.bind (cP n ([93]:List UInt8) (ag.mk y8.2.text y8.2.bg y8.2.at_ v3.2.1.base y8.2.skip y8.2.pending)) fun y40=>.ok (v3.1,y40))) n (p0,p1,true)
def gV (n:Nat) (T:aE) (p0:ag):ay (ai×ag):=
 ay.bind (aH n p0) fun y3=>ay.bind (bO n (ag.mk y3.2.text y3.2.bg y3.2.at_ p0.base y3.2.skip y3.2.pending)) fun y4=>jn (fun (v6:ai)=>gd (aD (y4.2.at_+1)) (.ok ((ai.mk v6.Kind v6.Text v6.jD v6.bk v6.bt [] [] [] v6.Pos),(ag.mk y4.2.text y4.2.bg (y4.2.at_+1) y4.2.base y4.2.skip y4.2.pending)))) fun j7=>br (y3.1.Text==([110,117,108,108]:List UInt8)) (j7 ((ai.mk 1 [] 0 [] [] [] [] [] y4.1))) (jn (fun (v15:Bool)=>br v15 (br (y3.1.Text==([116,114,117,101]:List UInt8)) (j7 ((ai.mk 2 [] 1 [] [] [] [] [] y4.1))) (j7 ((ai.mk 2 [] 0 [] [] [] [] [] y4.1)))) (jn (fun (v22:Bool)=>br v22 (j7 ((ai.mk 8 y3.1.Text 0 [] [] [] [] [] y4.1))) (ay.bind (dO n y4.2) fun y27=>ay.bind (aH n y27.2) fun y30=>ay.bind (cE y30.1 ([40]:List UInt8)) fun y31=>br y31 (ay.bind (T.dP (ag.mk y30.2.text y30.2.bg y30.2.at_ y27.2.base y30.2.skip y30.2.pending)) fun y34=>.ok ((ai.mk 21 y27.1 0 [] [] y34.1 [] [] y4.1),y34.2)) (.ok ((ai.mk 10 y27.1 0 [] [] [] [] [] y4.1),(ag.mk y30.2.text y30.2.bg y30.2.at_ y27.2.base y30.2.skip y30.2.pending))))) fun j23=>br (y3.1.Text==([98,111,111,108]:List UInt8)) (j23 ((y3.1.Text==([98,111,111,108]:List UInt8)))) (br (y3.1.Text==([105,110,116]:List UInt8)) (j23 ((y3.1.Text==([105,110,116]:List UInt8)))) (br (y3.1.Text==([110,117,109,98,101,114]:List UInt8)) (j23 ((y3.1.Text==([110,117,109,98,101,114]:List UInt8)))) (j23 ((y3.1.Text==([115,116,114,105,110,103]:List UInt8)))))))) fun j16=>br (y3.1.Text==([116,114,117,101]:List UInt8)) (j16 ((y3.1.Text==([116,114,117,101]:List UInt8)))) (j16 ((y3.1.Text==([102,97,108,115,101]:List UInt8)))))
def gB (n:Nat) (T:aE) (p0:Bool) (p1:ag):ay (ai×ag):=
 ay.bind (b5 n ([40]:List UInt8) p1) fun y3=>ay.bind (T.dF true y3 p0 (ai.mk 0 [] 0 [] [] [] [] [] 0)) fun y6=>gd (aD (y6.1.at_+1)) (.ok (y6.2.2,(ag.mk y6.1.text y6.1.bg (y6.1.at_+1) y6.1.base y6.1.skip y6.1.pending)))
def fH (n:Nat) (T:aE) (p0:Bool) (_:ai) (p2:ag):ay (Bool×ai×ag):=
 ay.bind (T.aG p0 p2) fun y2=>ay.bind (cP n ([41]:List UInt8) y2.2) fun y3=>.ok (p0,y2.1,y3)
def fX (n:Nat) (T:aE) (p0:Bool) (p1:ag) (p2:ax):ay (ag×ax):=
 ay.bind (b5 n ([91]:List UInt8) p1) fun y4=>ay.bind (il n true y4 (ax.mk 2 p2.cj ([46,42]:List UInt8) p2.bk p2.bt p2.bc p2.Body p2.b3 p2.jG p2.Trail p2.Pos)) fun y6=>gd (aD (y6.1.at_+1)) (ay.bind (b5 n ([58]:List UInt8) (ag.mk y6.1.text y6.1.bg (y6.1.at_+1) y6.1.base y6.1.skip y6.1.pending)) fun y10=>ay.bind (T.aG p0 y10) fun y11=>.ok (y11.2,(ax.mk y6.2.Kind y6.2.cj y6.2.Label y6.2.bk y6.2.bt [y11.1] y6.2.Body y6.2.b3 y6.2.jG y6.2.Trail y6.2.Pos)))
def fY (n:Nat) (T:aE) (p0:Bool) (p1:ag):ay (ai×ag):=
 ay.bind (T.c8 p0 p1) fun y3=>iter (fun next5 (v4:ag×ai)=>ay.bind (aH n v4.1) fun y8=>ay.bind (bO n (ag.mk y8.2.text y8.2.bg y8.2.at_ v4.1.base y8.2.skip y8.2.pending)) fun y9=>ay.bind (cE y8.1 ([46]:List UInt8)) fun y11=>br y11 (ay.bind (bB n v4.2 y9.1 y9.2) fun y14=>gd (aD (y14.2.at_+1)) (ay.bind (aH n (ag.mk y14.2.text y14.2.bg (y14.2.at_+1) y14.2.base y14.2.skip y14.2.pending)) fun y18=>jn (fun (v19:ag)=>gd (aD (v19.at_+1)) (next5 ((ag.mk v19.text v19.bg (v19.at_+1) v19.base v19.skip v19.pending),(ai.mk 11 y18.1.Text 0 [] [] [y14.1] [] [] y14.1.Pos)))) fun j20=>ay.bind (jX n y18.1) fun y25=>br (!y25) (ay.bind (bp n (ag.mk y18.2.text y18.2.bg y18.2.at_ y14.2.base y18.2.skip y18.2.pending)) fun y27=>j20 (y27)) (j20 ((ag.mk y18.2.text y18.2.bg y18.2.at_ y14.2.base y18.2.skip y18.2.pending))))) (ay.bind (cE y8.1 ([91]:List UInt8)) fun y29=>br y29 (ay.bind (bB n v4.2 y9.1 y9.2) fun y32=>gd (aD (y32.2.at_+1)) (ay.bind (T.db true (ag.mk y32.2.text y32.2.bg (y32.2.at_+1) y32.2.base y32.2.skip y32.2.pending) y32.1) fun y36=>gd (aD (y36.1.at_+1)) (next5 ((ag.mk y36.1.text y36.1.bg (y36.1.at_+1) y36.1.base y36.1.skip y36.1.pending),y36.2)))) (.ok (v4.2,y9.2)))) n (y3.2,y3.1)
def fl (n:Nat) (T:aE) (p0:ai) (p1:ag):ay (ai×ag):=
 ay.bind (T.aG false p1) fun y2=>ay.bind (cP n ([93]:List UInt8) y2.2) fun y3=>.ok ((ai.mk 12 [] 0 [] [] [p0,y2.1] [] [] p0.Pos),y3)
def fZ (n:Nat) (T:aE) (p0:Bool) (p1:ag):ay (ai×ag):=
 br (Option.isSome (Option.map ai.C p1.pending)) (some? p1.pending fun q6=>.ok (q6,(ag.mk p1.text p1.bg p1.at_ p1.base p1.skip none))) (ay.bind (aH n p1) fun y11=>ay.bind (bO n (ag.mk y11.2.text y11.2.bg y11.2.at_ p1.base y11.2.skip y11.2.pending)) fun y12=>jn (fun (v14:ag×ai)=>gd (aD (v14.1.at_+1)) (.ok (v14.2,(ag.mk v14.1.text v14.1.bg (v14.1.at_+1) v14.1.base v14.1.skip v14.1.pending)))) fun j15=>br (y11.1.Kind==1) (ay.bind (T.dy y12.2) fun y23=>.ok (y23.1,y23.2)) (br (y11.1.Kind==2) (ay.bind (lX n y11.1.Text) fun y27=>j15 (y12.2,(ai.mk 3 [] y27.1 [] [] [] [] [] y12.1))) (br (y11.1.Kind==3) (j15 (y12.2,(ai.mk 4 y11.1.Text 0 [] [] [] [] [] y12.1))) (br (y11.1.Kind==4) (ay.bind (T.dq y11.1 y12.1 y12.2) fun y32=>j15 (y32.2,y32.1)) (ay.bind (cE y11.1 ([95]:List UInt8)) fun y34=>br y34 (j15 (y12.2,(ai.mk 6 [] 0 [] [] [] [] [] y12.1))) (ay.bind (cE y11.1 ([95,124,95]:List UInt8)) fun y37=>br y37 (j15 (y12.2,(ai.mk 7 [] 0 [] [] [] [] [] y12.1))) (ay.bind (cE y11.1 ([40]:List UInt8)) fun y40=>br y40 (ay.bind (T.cI p0 y12.2) fun y43=>.ok (y43.1,y43.2)) (ay.bind (cE y11.1 ([123]:List UInt8)) fun y45=>br y45 (ay.bind (T.dn p0 y12.2) fun y48=>.ok (y48.1,y48.2)) (ay.bind (cE y11.1 ([91]:List UInt8)) fun y50=>br y50 (ay.bind (T.dR y12.2) fun y53=>.ok (y53.1,y53.2)) (ay.bind (bp n y12.2) fun y54=>j15 (y54,(ai.mk 0 [] 0 [] [] [] [] [] y12.1))))))))))))
def gW (n:Nat) (T:aE) (p0:Bool) (p1:ag):ay (ai×ag):=
 br (Option.isSome (Option.map ai.C p1.pending)) (ay.bind (T.cA p0 p1) fun y6=>.ok (y6.1,y6.2)) (ay.bind (aH n p1) fun y8=>ay.bind (bO n (ag.mk y8.2.text y8.2.bg y8.2.at_ p1.base y8.2.skip y8.2.pending)) fun y9=>jn (fun (v11:Int)=>gd (aD (y9.2.at_+1)) (ay.bind (T.cQ false (ag.mk y9.2.text y9.2.bg (y9.2.at_+1) y9.2.base y9.2.skip y9.2.pending)) fun y17=>.ok ((ai.mk v11 y8.1.Text 0 [] [] [y17.1] [] [] y9.1),y17.2))) fun j12=>ay.bind (jk n y8.1 ([45,32,33]:List UInt8)) fun y19=>br y19 (j12 (19)) (ay.bind (jk n y8.1 ([60,32,60,61,32,62,32,62,61,32,33,61,32,61,126,32,33,126]:List UInt8)) fun y22=>br y22 (j12 (9)) (ay.bind (T.cA p0 y9.2) fun y25=>.ok (y25.1,y25.2))))
def fm (_:Nat) (T:aE) (p0:Bool) (p1:ag) (p2:Bool) (p3:(List ax)) (p4:(List (List UInt8))):ay (ag×Bool×(List ax)×(List (List UInt8))):=
 ay.bind (T.dZ p2 p3 p4 (ag.mk p1.text p1.bg p1.at_ p1.base p0 p1.pending)) fun y4=>.ok ((ag.mk y4.2.2.2.text y4.2.2.2.bg y4.2.2.2.at_ y4.2.2.2.base p1.skip y4.2.2.2.pending),y4.1,y4.2.1,y4.2.2.1)
def fo (_:Nat) (T:aE) (p0:Bool) (p1:ag) (p2:Bool) (p3:ai):ay (ag×Bool×ai):=
 ay.bind (T.dS p2 p3 (ag.mk p1.text p1.bg p1.at_ p1.base p0 p1.pending)) fun y4=>.ok ((ag.mk y4.2.2.text y4.2.2.bg y4.2.2.at_ y4.2.2.base p1.skip y4.2.2.pending),y4.1,y4.2.1)
def fp (_:Nat) (T:aE) (p0:Bool) (p1:ag) (p2:ai):ay (ag×ai):=
 ay.bind (T.dD p2 (ag.mk p1.text p1.bg p1.at_ p1.base p0 p1.pending)) fun y4=>.ok ((ag.mk y4.2.text y4.2.bg y4.2.at_ y4.2.base p1.skip y4.2.pending),y4.1)
def fq (_:Nat) (T:aE) (p0:Bool) (p1:ag) (p2:ai):ay (ag×ai):=
 ay.bind (T.er p2 (ag.mk p1.text p1.bg p1.at_ p1.base p0 p1.pending)) fun y4=>.ok ((ag.mk y4.2.text y4.2.bg y4.2.at_ y4.2.base p1.skip y4.2.pending),y4.1)
def fu (_:Nat) (T:aE) (p0:Bool) (p1:ag) (p2:(List ai)):ay (ag×(List ai)):=
 ay.bind (T.ep p2 (ag.mk p1.text p1.bg p1.at_ p1.base p0 p1.pending)) fun y4=>.ok ((ag.mk y4.2.text y4.2.bg y4.2.at_ y4.2.base p1.skip y4.2.pending),y4.1)
def au:Nat→aE
 | 0=>⟨fun _ _=>.stuck,fun _ _=>.stuck,fun _=>.stuck,fun _ _=>.stuck,fun _ _ _=>.stuck,fun _ _=>.stuck,fun _ _ _ _=>.stuck,fun _ _=>.stuck,fun _ _=>.stuck,fun _ _=>.stuck,fun _ _=>.stuck,fun _ _ _=>.stuck,fun _ _=>.stuck,fun _ _ _=>.stuck,fun _ _ _=>.stuck,fun _=>.stuck,fun _=>.stuck,fun _ _=>.stuck,fun _=>.stuck,fun _ _=>.stuck,fun _ _ _=>.stuck,fun _ _ _=>.stuck,fun _ _=>.stuck,fun _ _=>.stuck,fun _ _=>.stuck,fun _ _=>.stuck,fun _ _ _ _ _=>.stuck,fun _ _ _ _=>.stuck,fun _ _ _=>.stuck,fun _ _ _=>.stuck,fun _ _ _=>.stuck⟩
 | n+1=>⟨lJ n (au n),eV n (au n),iu n (au n),gw n (au n),gx n (au n),gT n (au n),fV n (au n),gy n (au n),eW n (au n),iv n (au n),kv n (au n),fW n (au n),iw n (au n),gU n (au n),gz n (au n),iy n (au n),iz n (au n),gA n (au n),gV n (au n),gB n (au n),fH n (au n),fX n (au n),fY n (au n),fl n (au n),fZ n (au n),gW n (au n),fm n (au n),fo n (au n),fp n (au n),fq n (au n),fu n (au n)⟩
def ir (n:Nat) (p0:(List UInt8)) (p1:Int):ay (ai×Bool):=(au n).ir p0 p1
def bH (n:Nat) (p0:Bool) (p1:ag):ay (ai×ag):=(au n).bH p0 p1
def dP (n:Nat) (p0:ag):ay ((List ai)×ag):=(au n).dP p0
def ep (n:Nat) (p0:(List ai)) (p1:ag):ay ((List ai)×ag):=(au n).ep p0 p1
def bU (n:Nat) (p0:Int) (p1:Bool) (p2:ag):ay (ai×ag):=(au n).bU p0 p1 p2
def cw (n:Nat) (p0:Bool) (p1:ag):ay ((List ax)×(List (List UInt8))×ag):=(au n).cw p0 p1
def dZ (n:Nat) (p0:Bool) (p1:(List ax)) (p2:(List (List UInt8))) (p3:ag):ay (Bool×(List ax)×(List (List UInt8))×ag):=(au n).dZ p0 p1 p2 p3
def dn (n:Nat) (p0:Bool) (p1:ag):ay (ai×ag):=(au n).dn p0 p1
def bI (n:Nat) (p0:Bool) (p1:ag):ay (ai×ag):=(au n).bI p0 p1
def cF (n:Nat) (p0:Bool) (p1:ag):ay (ax×ag):=(au n).cF p0 p1
def dp (n:Nat) (p0:Bool) (p1:ag):ay ((List ax)×(List (List UInt8))×ag):=(au n).dp p0 p1
def c6 (n:Nat) (p0:Bool) (p1:ag) (p2:ax):ay (ag×ax):=(au n).c6 p0 p1 p2
def aG (n:Nat) (p0:Bool) (p1:ag):ay (ai×ag):=(au n).aG p0 p1
def dx (n:Nat) (p0:Bool) (p1:ag) (p2:ax):ay (ag×ax):=(au n).dx p0 p1 p2
def dq (n:Nat) (p0:aS) (p1:Int) (p2:ag):ay (ai×ag):=(au n).dq p0 p1 p2
def dQ (n:Nat) (p0:ag):ay (ai×ag):=(au n).dQ p0
def dR (n:Nat) (p0:ag):ay (ai×ag):=(au n).dR p0
def er (n:Nat) (p0:ai) (p1:ag):ay (ai×ag):=(au n).er p0 p1
def dy (n:Nat) (p0:ag):ay (ai×ag):=(au n).dy p0
def cI (n:Nat) (p0:Bool) (p1:ag):ay (ai×ag):=(au n).cI p0 p1
def dS (n:Nat) (p0:Bool) (p1:ai) (p2:ag):ay (Bool×ai×ag):=(au n).dS p0 p1 p2
def c7 (n:Nat) (p0:Bool) (p1:ag) (p2:ax):ay (ag×ax):=(au n).c7 p0 p1 p2
def cA (n:Nat) (p0:Bool) (p1:ag):ay (ai×ag):=(au n).cA p0 p1
def dD (n:Nat) (p0:ai) (p1:ag):ay (ai×ag):=(au n).dD p0 p1
def c8 (n:Nat) (p0:Bool) (p1:ag):ay (ai×ag):=(au n).c8 p0 p1
def cQ (n:Nat) (p0:Bool) (p1:ag):ay (ai×ag):=(au n).cQ p0 p1
def dE (n:Nat) (p0:Bool) (p1:ag) (p2:Bool) (p3:(List ax)) (p4:(List (List UInt8))):ay (ag×Bool×(List ax)×(List (List UInt8))):=(au n).dE p0 p1 p2 p3 p4
def dF (n:Nat) (p0:Bool) (p1:ag) (p2:Bool) (p3:ai):ay (ag×Bool×ai):=(au n).dF p0 p1 p2 p3
def db (n:Nat) (p0:Bool) (p1:ag) (p2:ai):ay (ag×ai):=(au n).db p0 p1 p2
def dG (n:Nat) (p0:Bool) (p1:ag) (p2:ai):ay (ag×ai):=(au n).dG p0 p1 p2
def dH (n:Nat) (p0:Bool) (p1:ag) (p2:(List ai)):ay (ag×(List ai)):=(au n).dH p0 p1 p2
structure ba (T:aE):Prop where
 ir:∀ (p0:(List UInt8)) (p1:Int),CT Tryz.prog 298 [bd p0,I p1] [] (T.ir p0 p1) (fun x=>.eT [.agg (aV x.1),Bo x.2]) (fun _=>[])
 bH:∀ (p0:Bool) (p1:ag),CT Tryz.prog 73 [.ptr 0 0,Bo p0] [.box (ah p1)] (T.bH p0 p1) (fun x=>.agg (aV x.1)) (fun x=>[.box (ah x.2)])
 dP:∀ (p0:ag),CT Tryz.prog 297 [.ptr 0 0] [.box (ah p0)] (T.dP p0) (fun x=>.pv (.sl (List.length x.1) (ai.Cs x.1))) (fun x=>[.box (ah x.2)])
 ep:∀ (p0:(List ai)) (p1:ag),CT Tryz.prog 313 [.ptr 0 0,.ptr 1 0] [.box [.ptr 2 0],.box [.arr 3 (List.length p0)],.box (ah p1),.arr 38 9 (ai.Cs p0)] (T.ep p0 p1) (fun _=>.eT []) (fun x=>[.box [.ptr 2 0],.box [.arr 3 (List.length x.1)],.box (ah x.2),.arr 38 9 (ai.Cs x.1)])
 bU:∀ (p0:Int) (p1:Bool) (p2:ag),CT Tryz.prog 174 [.ptr 0 0,I p0,Bo p1] [.box (ah p2)] (T.bU p0 p1 p2) (fun x=>.agg (aV x.1)) (fun x=>[.box (ah x.2)])
 cw:∀ (p0:Bool) (p1:ag),CT Tryz.prog 156 [.ptr 0 0,Bo p0] [.box (ah p1)] (T.cw p0 p1) (fun x=>.eT [.pv (.sl (List.length x.1) (ax.Cs x.1)),.pv (.sl (List.length x.2.1) (bS x.2.1))]) (fun x=>[.box (ah x.2.2)])
 dZ:∀ (p0:Bool) (p1:(List ax)) (p2:(List (List UInt8))) (p3:ag),CT Tryz.prog 203 [.ptr 0 0,.ptr 1 0,.ptr 2 0,.ptr 3 0] [.box [.ptr 4 0],.box [Bo p0],.box [.pv (.sl (List.length p1) (ax.Cs p1))],.box [.pv (.sl (List.length p2) (bS p2))],.box (ah p3)] (T.dZ p0 p1 p2 p3) (fun _=>.eT []) (fun x=>[.box [.ptr 4 0],.box [Bo x.1],.box [.pv (.sl (List.length x.2.1) (ax.Cs x.2.1))],.box [.pv (.sl (List.length x.2.2.1) (bS x.2.2.1))],.box (ah x.2.2.2)])
 dn:∀ (p0:Bool) (p1:ag),CT Tryz.prog 278 [.ptr 0 0,Bo p0] [.box (ah p1)] (T.dn p0 p1) (fun x=>.agg (aV x.1)) (fun x=>[.box (ah x.2)])
 bI:∀ (p0:Bool) (p1:ag),CT Tryz.prog 119 [.ptr 0 0,Bo p0] [.box (ah p1)] (T.bI p0 p1) (fun x=>.agg (aV x.1)) (fun x=>[.box (ah x.2)])
 cF:∀ (p0:Bool) (p1:ag),CT Tryz.prog 107 [.ptr 0 0,Bo p0] [.box (ah p1)] (T.cF p0 p1) (fun x=>.agg (cU x.1)) (fun x=>[.box (ah x.2)])
 dp:∀ (p0:Bool) (p1:ag),CT Tryz.prog 60 [.ptr 0 0,Sc (.slice none 0 0),Bo p0] [.box (ah p1)] (T.dp p0 p1) (fun x=>.eT [.pv (.sl (List.length x.1) (ax.Cs x.1)),.pv (.sl (List.length x.2.1) (bS x.2.1))]) (fun x=>[.box (ah x.2.2)])
 c6:∀ (p0:Bool) (p1:ag) (p2:ax),CT Tryz.prog 159 [.ptr 0 0,.ptr 1 0,Bo p0] [.box (ah p1),.box (cU p2)] (T.c6 p0 p1 p2) (fun _=>.eT []) (fun x=>[.box (ah x.1),.box (cU x.2)])
 aG:∀ (p0:Bool) (p1:ag),CT Tryz.prog 33 [.ptr 0 0,Bo p0] [.box (ah p1)] (T.aG p0 p1) (fun x=>.agg (aV x.1)) (fun x=>[.box (ah x.2)])
 dx:∀ (p0:Bool) (p1:ag) (p2:ax),CT Tryz.prog 152 [.ptr 0 0,.ptr 1 0,Bo p0] [.box (ah p1),.box (cU p2)] (T.dx p0 p1 p2) (fun _=>.eT []) (fun x=>[.box (ah x.1),.box (cU x.2)])
 dq:∀ (p0:aS) (p1:Int) (p2:ag),CT Tryz.prog 277 [.ptr 0 0,.agg (eA p0),I p1] [.box (ah p2)] (T.dq p0 p1 p2) (fun x=>.agg (aV x.1)) (fun x=>[.box (ah x.2)])
 dQ:∀ (p0:ag),CT Tryz.prog 300 [.ptr 0 0] [.box (ah p0)] (T.dQ p0) (fun x=>.agg (aV x.1)) (fun x=>[.box (ah x.2)])
 dR:∀ (p0:ag),CT Tryz.prog 279 [.ptr 0 0] [.box (ah p0)] (T.dR p0) (fun x=>.agg (aV x.1)) (fun x=>[.box (ah x.2)])
 er:∀ (p0:ai) (p1:ag),CT Tryz.prog 299 [.ptr 0 0,.ptr 1 0] [.box [.ptr 2 0],.box [I p0.Kind,bd p0.Text,I p0.jD,bd p0.bk,bd p0.bt,.arr 3 (List.length p0.bc),.pv (.sl (List.length p0.Decls) (ax.Cs p0.Decls)),.pv (.sl (List.length p0.b3) (bS p0.b3)),I p0.Pos],.box (ah p1),.arr 38 9 (ai.Cs p0.bc)] (T.er p0 p1) (fun _=>.eT []) (fun x=>[.box [.ptr 2 0],.box [I x.1.Kind,bd x.1.Text,I x.1.jD,bd x.1.bk,bd x.1.bt,.arr 3 (List.length x.1.bc),.pv (.sl (List.length x.1.Decls) (ax.Cs x.1.Decls)),.pv (.sl (List.length x.1.b3) (bS x.1.b3)),I x.1.Pos],.box (ah x.2),.arr 38 9 (ai.Cs x.1.bc)])
 dy:∀ (p0:ag),CT Tryz.prog 276 [.ptr 0 0] [.box (ah p0)] (T.dy p0) (fun x=>.agg (aV x.1)) (fun x=>[.box (ah x.2)])
 cI:∀ (p0:Bool) (p1:ag),CT Tryz.prog 204 [.ptr 0 0,Bo p0] [.box (ah p1)] (T.cI p0 p1) (fun x=>.agg (aV x.1)) (fun x=>[.box (ah x.2)])
 dS:∀ (p0:Bool) (p1:ai) (p2:ag),CT Tryz.prog 237 [.ptr 0 0,.ptr 1 0,.ptr 2 0] [.box [.ptr 3 0],.box [Bo p0],.box (aV p1),.box (ah p2)] (T.dS p0 p1 p2) (fun _=>.eT []) (fun x=>[.box [.ptr 3 0],.box [Bo x.1],.box (aV x.2.1),.box (ah x.2.2)])
 c7:∀ (p0:Bool) (p1:ag) (p2:ax),CT Tryz.prog 154 [.ptr 0 0,.ptr 1 0,Bo p0] [.box (ah p1),.box (cU p2)] (T.c7 p0 p1 p2) (fun _=>.eT []) (fun x=>[.box (ah x.1),.box (cU x.2)])
 cA:∀ (p0:Bool) (p1:ag),CT Tryz.prog 243 [.ptr 0 0,Bo p0] [.box (ah p1)] (T.cA p0 p1) (fun x=>.agg (aV x.1)) (fun x=>[.box (ah x.2)])
 dD:∀ (p0:ai) (p1:ag),CT Tryz.prog 265 [.ptr 0 0,.ptr 1 0] [.box (aV p0),.box [.ptr 2 0],.box (ah p1)] (T.dD p0 p1) (fun _=>.eT []) (fun x=>[.box (aV x.1),.box [.ptr 2 0],.box (ah x.2)])
 c8:∀ (p0:Bool) (p1:ag),CT Tryz.prog 264 [.ptr 0 0,Bo p0] [.box (ah p1)] (T.c8 p0 p1) (fun x=>.agg (aV x.1)) (fun x=>[.box (ah x.2)])
 cQ:∀ (p0:Bool) (p1:ag),CT Tryz.prog 214 [.ptr 0 0,Bo p0] [.box (ah p1)] (T.cQ p0 p1) (fun x=>.agg (aV x.1)) (fun x=>[.box (ah x.2)])
 dE:∀ (p0:Bool) (p1:ag) (p2:Bool) (p3:(List ax)) (p4:(List (List UInt8))),CT Tryz.prog 200 [.ptr 0 0,Bo p0,.fn 203 [] [.ptr 1 0,.ptr 2 0,.ptr 3 0,.ptr 4 0]] [.box (ah p1),.box [.ptr 0 0],.box [Bo p2],.box [.pv (.sl (List.length p3) (ax.Cs p3))],.box [.pv (.sl (List.length p4) (bS p4))]] (T.dE p0 p1 p2 p3 p4) (fun _=>.eT []) (fun x=>[.box (ah x.1),.box [.ptr 0 0],.box [Bo x.2.1],.box [.pv (.sl (List.length x.2.2.1) (ax.Cs x.2.2.1))],.box [.pv (.sl (List.length x.2.2.2) (bS x.2.2.2))]])
 dF:∀ (p0:Bool) (p1:ag) (p2:Bool) (p3:ai),CT Tryz.prog 200 [.ptr 0 0,Bo p0,.fn 237 [] [.ptr 1 0,.ptr 2 0,.ptr 3 0]] [.box (ah p1),.box [.ptr 0 0],.box [Bo p2],.box (aV p3)] (T.dF p0 p1 p2 p3) (fun _=>.eT []) (fun x=>[.box (ah x.1),.box [.ptr 0 0],.box [Bo x.2.1],.box (aV x.2.2)])
 db:∀ (p0:Bool) (p1:ag) (p2:ai),CT Tryz.prog 200 [.ptr 0 0,Bo p0,.fn 265 [] [.ptr 1 0,.ptr 2 0]] [.box (ah p1),.box (aV p2),.box [.ptr 0 0]] (T.db p0 p1 p2) (fun _=>.eT []) (fun x=>[.box (ah x.1),.box (aV x.2),.box [.ptr 0 0]])
 dG:∀ (p0:Bool) (p1:ag) (p2:ai),CT Tryz.prog 200 [.ptr 0 0,Bo p0,.fn 299 [] [.ptr 1 0,.ptr 2 0]] [.box (ah p1),.box [.ptr 0 0],.box [I p2.Kind,bd p2.Text,I p2.jD,bd p2.bk,bd p2.bt,.arr 3 (List.length p2.bc),.pv (.sl (List.length p2.Decls) (ax.Cs p2.Decls)),.pv (.sl (List.length p2.b3) (bS p2.b3)),I p2.Pos],.arr 38 9 (ai.Cs p2.bc)] (T.dG p0 p1 p2) (fun _=>.eT []) (fun x=>[.box (ah x.1),.box [.ptr 0 0],.box [I x.2.Kind,bd x.2.Text,I x.2.jD,bd x.2.bk,bd x.2.bt,.arr 3 (List.length x.2.bc),.pv (.sl (List.length x.2.Decls) (ax.Cs x.2.Decls)),.pv (.sl (List.length x.2.b3) (bS x.2.b3)),I x.2.Pos],.arr 38 9 (ai.Cs x.2.bc)])
 dH:∀ (p0:Bool) (p1:ag) (p2:(List ai)),CT Tryz.prog 200 [.ptr 0 0,Bo p0,.fn 313 [] [.ptr 1 0,.ptr 2 0]] [.box (ah p1),.box [.ptr 0 0],.box [.arr 3 (List.length p2)],.arr 38 9 (ai.Cs p2)] (T.dH p0 p1 p2) (fun _=>.eT []) (fun x=>[.box (ah x.1),.box [.ptr 0 0],.box [.arr 3 (List.length x.2)],.arr 38 9 (ai.Cs x.2)])
theorem uG (n:Nat) (T:aE) (hT:ba T) (p0:(List UInt8)) (p1:Int):CT Tryz.prog 298 [bd p0,I p1] [] (lJ n T p0 p1) (fun x=>.eT [.agg (aV x.1),Bo x.2]) (fun _=>[]):=by
 refine rj Tryz.func298 rfl rfl fun r h hr E hE=>?_
 refine ab fun _ hK1=>aa (aM 104 (hE _ rfl) ⟨rfl,rfl,rfl,rfl⟩ rfl ?_)
 refine aM 105 (hE _ rfl) ⟨rfl,rfl,rfl,rfl⟩ rfl ?_
 refine zQ hK1 (ab fun _ hK2=>aa (zm rfl (iT hr h [] Tryz.call24 (py n p0) ⟨rfl,rfl,rfl,rfl,rfl,rfl,trivial⟩ rfl (fun _=>⟨rfl,rfl,rfl⟩) (fun _=>⟨rfl,rfl⟩) (fun _ _ _ hd hp=>tO (P:=Tryz.prog) (fn:=Tryz.f298) hd hp) (fun y3 h=>?_))))
 refine zm rfl (zx rfl (zx rfl (aM 107 (hE _ rfl) ⟨rfl,rfl,rfl,rfl⟩ rfl ?_)))
 refine za rfl (zs rfl (zQ hK2 (ab fun _ hK4=>aa (za rfl (zQ hK4 (ab fun _ hK5=>ab fun _ hK6=>aa (zf rfl (zl rfl (zc rfl (zm rfl (zb (y3.2.Errno !=0) (fun hb7=>?_) fun hb7=>?_)))))))))))
 · refine z1 hb7 h fun h=>zg hb7 rfl (zg hb7 rfl (zg hb7 rfl (zy hb7 rfl (zQ hK6 (cg rfl (fun hc=>?_) (fun hc=>?_))))))
   · refine ab fun _ hK8=>aa (al (cT rfl rfl) rfl ?_)
     refine zs rfl (zs rfl (zQ hK8 (bK (jd 104 rfl rfl) ?_)))
     exact ar (sw (n:=Tryz.f298.ntmps) (.inl rfl) (lS (.inl rfl) _ (.cons (aZ rfl rfl rfl) (.cons (wm rfl rfl) .nil)) h.symm (AV.le_refl _) trivial))
   · exact absurd (hc) (by simp)
 · refine z2 hb7 h fun h=>zG hb7 rfl (aq rfl) (zG hb7 rfl (aq rfl) (Az hb7 ⟨rfl,rfl⟩ hr h [] Tryz.call315 (ll n y3.1) ⟨rfl,rfl,rfl,rfl,rfl,rfl,trivial⟩ rfl (fun _=>⟨rfl,rfl,rfl⟩) (fun _=>⟨rfl,rfl⟩) (fun _ _ _ hd hp=>tO (P:=Tryz.prog) (fn:=Tryz.f298) hd hp) (fun y9 h=>?_)))
   refine zw hb7 rfl (zQ hK6 (zB rfl h (fun _ h=>?_) fun _ h=>?_))
   · refine ab fun _ hK11=>aa (al (cT rfl rfl) rfl ?_)
     refine zs rfl (zs rfl (zQ hK11 (bK (jd 104 rfl rfl) ?_)))
     exact ar (sw (n:=Tryz.f298.ntmps) (.inl rfl) (lS (.inl rfl) _ (.cons (aZ rfl rfl rfl) (.cons (wm rfl rfl) .nil)) h.symm (AV.le_refl _) trivial))
   · refine an (hK5 _ _ (ab fun _ hK12=>aa (zm rfl (zm rfl (zm rfl (al (cT rfl rfl) rfl ?_))))))
     refine cM 128 (hE _ rfl) ⟨rfl,rfl,rfl,rfl,rfl,rfl,rfl⟩ rfl ?_
     refine za rfl (zQ hK12 (ab fun _ hK13=>aa (al (oG rfl rfl) rfl ?_)))
     refine wu rfl ?_
     have hrO:=hr
     obtain ⟨r,hr,h,hc⟩:=tN hr h
     refine zQ hK13 (ab fun _ hK14=>aa (zm rfl (aY (jd 128 rfl rfl) ?_)))
     refine n7 hr h [128] Tryz.call33 (hT.aG false (ag.mk p0 y3.1 0 p1 true none)) ⟨rfl,rfl,rfl,rfl,rfl,rfl,trivial⟩ rfl rfl (fun _=>⟨rfl,rfl,rfl⟩) (fun _=>⟨rfl,rfl⟩) rfl (fun p hp=>?_) (fun y15 h=>?_)
     · obtain ⟨v18,rfl,hc⟩:=nr hrO (kX hc hp)
       obtain ⟨hns,hok,_⟩:=jT hrO hc
       repeat (first|refine kY ?_|refine jV ?_)
       refine gJ (n:=Tryz.f298.ntmps) [104,105] Tryz.call316 (rr v18) hns rfl ⟨rfl,rfl,rfl,rfl⟩ (fun _=>⟨rfl,rfl⟩) (fun x hx=>?_)
       exact eG (.inl rfl) _ (.cons (aZ rfl rfl rfl) (.cons (wm rfl rfl) .nil)) (hok x hx).symm (AV.le_refl _) trivial
     · refine zs rfl (zQ hK14 (ab fun _ hK16=>bo [0,1,2,3,4,5,6] rfl (by kernel_rfl) (zD rfl (hY rfl rfl rfl rfl) rfl ?_)))
       refine zD rfl (aq rfl) rfl (Dh rfl (bF rfl) hr h [128] Tryz.call34 (aI n y15.2) ⟨rfl,rfl,rfl,rfl,rfl,rfl,trivial⟩ rfl rfl (fun _=>⟨rfl,rfl,rfl⟩) (fun _=>⟨rfl,rfl⟩) (qI n y15.2) (fun y17 h=>⟨ch ⟨trivial,⟨⟨⟨_,rfl,be.le_refl _⟩,trivial⟩,trivial⟩⟩,?_⟩))
       refine zD rfl (jU rfl rfl) rfl ?_
       refine zD rfl (bf rfl rfl rfl) rfl (bR rfl ⟨rfl,rfl,rfl,rfl,rfl,rfl,rfl,rfl⟩ rfl (fun e5 he=>⟨aJ rfl,?_⟩))
       subst he
       refine bR rfl ⟨rfl,rfl,rfl,rfl,rfl,rfl,rfl,rfl⟩ rfl (fun e6 he=>⟨aJ rfl,?_⟩)
       subst he
       refine b4 (hK16 _ _ (ar (kJ (n:=Tryz.f298.ntmps) (.inl rfl) [104,105] Tryz.call316 (pY [.box (aV y15.1),.box [Bo (y17.1.Kind==0)]]) ⟨rfl,rfl,rfl,rfl⟩ rfl rfl ?_)))
       exact eG (.inl rfl) _ (.cons (aZ rfl rfl rfl) (.cons (wm rfl rfl) .nil)) (pg hc h.symm) (AV.le_refl _) trivial
theorem mw (n:Nat) (T:aE) (hT:ba T) (p0:Bool) (p1:ag):CT Tryz.prog 73 [.ptr 0 0,Bo p0] [.box (ah p1)] (eV n T p0 p1) (fun x=>.agg (aV x.1)) (fun x=>[.box (ah x.2)]):=by
 refine zC Tryz.func73 rfl fun r hp h hr E hE=>ab fun _ hK1=>aa (aM 104 (hE _ rfl) ⟨rfl,rfl,rfl,rfl⟩ rfl ?_)
 refine zQ hK1 (ab fun _ hK2=>aa (za rfl (zQ hK2 (ab fun _ hK3=>ab fun _ hK4=>aa (zm rfl (zn rfl (zf rfl (zl rfl (al (Aw rfl rfl) rfl (zQ hK4 (zB rfl h (fun _ h=>?_) fun _ h=>?_)))))))))))
 · refine ab fun _ hK6=>aa (zm rfl (zk hp hr h [0] Tryz.call75 (bT n p1) rfl (fun _=>rfl) fun y7 h=>za rfl (zQ hK6 (ab fun _ hK8=>aa (zm rfl (zk hp hr h [0] Tryz.call76 (cG n ([42]:List UInt8) y7.2) rfl (fun _=>rfl) fun y9 h=>zQ hK8 (zB rfl h (fun _ h=>?_) fun _ h=>?_)))))))
   · refine ab fun _ hK11=>aa (zm rfl (zk hp hr h [0] Tryz.call119 (hT.bI false y9.2) rfl (fun _=>rfl) fun y12 h=>bL [y12.1] ai.bb ⟨rfl,rfl⟩ rfl ?_))
     refine zm rfl (al (cT rfl rfl) rfl ?_)
     refine zs rfl (zQ hK11 (bK (jd 104 rfl rfl) ?_))
     exact ar (zX (.cons (aZ rfl rfl rfl) .nil) h rfl)
   · exact an (hK3 _ _ (ab fun _ hK13=>aa (zm rfl (zm rfl (zk hp hr h [0] Tryz.call119 (hT.bI p0 y9.2) rfl (fun _=>rfl) fun y14 h=>zs rfl (zQ hK13 (ar (zX (.cons (aZ rfl rfl rfl) .nil) h rfl))))))))
 · exact an (hK3 _ _ (ab fun _ hK15=>aa (zm rfl (zm rfl (zk hp hr h [0] Tryz.call119 (hT.bI p0 p1) rfl (fun _=>rfl) fun y16 h=>zs rfl (zQ hK15 (ar (zX (.cons (aZ rfl rfl rfl) .nil) h rfl))))))))
theorem pZ (n:Nat) (T:aE) (hT:ba T) (p0:ag):CT Tryz.prog 297 [.ptr 0 0] [.box (ah p0)] (iu n T p0) (fun x=>.pv (.sl (List.length x.1) (ai.Cs x.1))) (fun x=>[.box (ah x.2)]):=by
 refine zC Tryz.func297 rfl fun r hp h hr E hE=>ab fun _ hK1=>aa (cM 101 (hE _ rfl) ⟨rfl,rfl,rfl,rfl,rfl,rfl,rfl⟩ rfl ?_)
 refine za rfl (zQ hK1 (ab fun _ hK2=>aa (zl rfl (zk hp hr h [0] Tryz.call155 (cu n ([40]:List UInt8) p0) rfl (fun _=>rfl) fun y3 h=>zQ hK2 (ab fun _ hK4=>aa (aM 103 (hE _ rfl) ⟨rfl,rfl,rfl,rfl⟩ rfl ?_))))))
 refine zQ hK4 (ab fun _ hK5=>aa (zl rfl (al (oG rfl rfl) rfl ?_)))
 refine aY (qD (j:=103) (off:=0) 26592 (sz:=9) (el:=38) (hE _ rfl) rfl rfl ⟨rfl,rfl,rfl⟩ rfl rfl) ?_
 refine iT hr h [0,101,103,26592] Tryz.call200 (hT.dH true y3 []) ⟨rfl,rfl,rfl,rfl,rfl,rfl,⟨hE _ rfl,trivial⟩⟩ rfl (fun _=>⟨rfl,rfl,rfl⟩) (fun _=>⟨rfl,rfl⟩) hp (fun y6 h=>?_)
 refine zQ hK5 (ab fun _ hK7=>aa (zl rfl (zn rfl (zf rfl (zl rfl (zd hr h fun hg8 h=>zo hg8 rfl (zn rfl (zf rfl (zs rfl (zQ hK7 (ab fun _ hK9=>aa (aY (pd (j:=103) (off:=0) ai.bb ai.bE rfl rfl rfl rfl (hE _ rfl) rfl) ?_))))))))))))
 exact zl rfl (za rfl (zQ hK9 (ar (zX (.cons (aw rfl) .nil) h rfl))))
theorem oQ (n:Nat) (T:aE) (hT:ba T) (p0:(List ai)) (p1:ag):CT Tryz.prog 313 [.ptr 0 0,.ptr 1 0] [.box [.ptr 2 0],.box [.arr 3 (List.length p0)],.box (ah p1),.arr 38 9 (ai.Cs p0)] (gw n T p0 p1) (fun _=>.eT []) (fun x=>[.box [.ptr 2 0],.box [.arr 3 (List.length x.1)],.box (ah x.2),.arr 38 9 (ai.Cs x.1)]):=by
 refine zC Tryz.func313 rfl fun r hp h hr E hE=>ab fun _ hK1=>ab fun _ hK2=>aa (zl rfl (zk hp hr h [2] Tryz.call34 (aI n p1) rfl (fun _=>rfl) fun y3 h=>zk hp hr h [] Tryz.call72 (cd y3.1 ([41]:List UInt8)) rfl (fun _=>rfl) fun y4 h=>al (du rfl) rfl (zQ hK2 (zB rfl h (fun _ h=>?_) fun _ h=>?_))))
 · refine ab fun _ hK6=>lT [] ?_
   refine oD [0,1,3,4,2,5,6] 7 8 rfl (by kernel_rfl) ?_
   refine zD rfl (ei [.arr 3 (List.length p0)] rfl rfl ⟨.inl rfl,trivial⟩ rfl) rfl (zD rfl (aX rfl rfl rfl) rfl (zD rfl (lQ rfl) rfl (sZ [(ai.mk 0 ([]:List UInt8) 0 ([]:List UInt8) ([]:List UInt8) [] [] [] 0)] ai.bb rfl (bF rfl) ⟨rfl,rfl,rfl⟩ ⟨rfl,rfl⟩ ?_)))
   refine cS rfl (bF rfl) hr h [2] Tryz.call33 (hT.aG false (ag.mk y3.2.text y3.2.bg y3.2.at_ p1.base y3.2.skip y3.2.pending)) ⟨rfl,rfl,rfl,rfl,rfl,rfl,trivial⟩ rfl rfl (fun _=>⟨rfl,rfl,rfl⟩) (fun _=>⟨rfl,rfl⟩) hp (fun y7 h=>⟨ch ⟨trivial,⟨trivial,⟨trivial,⟨⟨⟨_,rfl,be.ed ⟨.inl rfl,trivial⟩⟩,trivial⟩,trivial⟩⟩⟩⟩,?_⟩)
   refine zd hr h fun hg8 h=>mM 111 rfl (bF rfl) ⟨jC.h,dL.h,ai.bb,ai.bE,ai.iV,hE _ rfl,rfl,rfl,(.inl rfl),⟨rfl,rfl,rfl⟩,hg8⟩ rfl rfl ⟨aJ rfl,?_⟩
   refine zD rfl (lP rfl rfl (Int.natCast_nonneg _) (rl _ _)) rfl (rm ?_ ?_)
   · refine mj p0 rfl (⟨ai.bb,ai.bE,Int.natCast_nonneg _,jz _ _,rfl,rfl,rfl,rfl,rfl,lp.h,rfl,rfl,rfl⟩:uY _ _ _ _ _ _ _ _ _ 0 _ _ _ _ _ _ y7.1 _ (ai.C y7.1)) rfl ⟨aJ rfl,?_⟩
     refine bR rfl ⟨rfl,rfl,rfl,rfl,rfl,rfl,rfl,rfl⟩ rfl (fun e8 he=>⟨aJ rfl,?_⟩)
     subst he
     refine fb (dU.trans (ml 1 0 (m':=List.length (p0++[y7.1])) rfl rfl (by simp) rfl) (iU 111 3 [(0,.ptr 0 0),(1,.ptr 1 0)] [(0,.box [.ptr 2 0]),(1,.box [.arr 3 (List.length (p0++[y7.1]))]),(2,.box (ah y7.2))] (hE _ rfl) rfl rfl ⟨rfl,rfl⟩ ⟨⟨_,rfl,rfl,rfl⟩,⟨_,rfl,rfl,rfl⟩,trivial⟩ ⟨⟨_,rfl,rfl,rfl,rfl,rfl⟩,⟨_,rfl,rfl,rfl,rfl,rfl⟩,⟨_,rfl,rfl,rfl,rfl,rfl⟩,trivial⟩)) ?_
     refine hK6 _ _ (aB (zL hr h (fun (v9:(List ai)×ag)=>[(0,.ptr 0 0),(1,.ptr 1 0)]) (fun (v9:(List ai)×ag)=>[(0,.box [.ptr 2 0]),(1,.box [.arr 3 (List.length v9.1)]),(2,.box (ah v9.2)),(3,.arr 38 9 (ai.Cs v9.1))]) rfl fun _ v9 _ hK11 h=>ab fun _ hK12=>ab fun _ hK13=>aa (zl rfl (zk hp hr h [2] Tryz.call76 (cG n ([44]:List UInt8) v9.2) rfl (fun _=>rfl) fun y14 h=>zQ hK13 (zB rfl h (fun _ h=>?_) fun _ h=>?_)))))
     · refine an (hK12 _ _ (aB (lT [] ?_)))
       refine oD [0,1,3,4,2,5,6] 7 8 rfl (by kernel_rfl) ?_
       refine zD rfl (ei [.arr 3 (List.length v9.1)] rfl rfl ⟨.inl rfl,trivial⟩ rfl) rfl (zD rfl (aX rfl rfl rfl) rfl (zD rfl (lQ rfl) rfl (sZ [(ai.mk 0 ([]:List UInt8) 0 ([]:List UInt8) ([]:List UInt8) [] [] [] 0)] ai.bb rfl (bF rfl) ⟨rfl,rfl,rfl⟩ ⟨rfl,rfl⟩ ?_)))
       refine cS rfl (bF rfl) hr h [2] Tryz.call33 (hT.aG false y14.2) ⟨rfl,rfl,rfl,rfl,rfl,rfl,trivial⟩ rfl rfl (fun _=>⟨rfl,rfl,rfl⟩) (fun _=>⟨rfl,rfl⟩) hp (fun y16 h=>⟨ch ⟨trivial,⟨trivial,⟨trivial,⟨⟨⟨_,rfl,be.ed ⟨.inl rfl,trivial⟩⟩,trivial⟩,trivial⟩⟩⟩⟩,?_⟩)
       refine zd hr h fun hg17 h=>mM 120 rfl (bF rfl) ⟨jC.h,dL.h,ai.bb,ai.bE,ai.iV,hE _ rfl,rfl,rfl,(.inl rfl),⟨rfl,rfl,rfl⟩,hg17⟩ rfl rfl ⟨aJ rfl,?_⟩
       refine zD rfl (lP rfl rfl (Int.natCast_nonneg _) (rl _ _)) rfl (rm ?_ ?_)
       · refine mj v9.1 rfl (⟨ai.bb,ai.bE,Int.natCast_nonneg _,jz _ _,rfl,rfl,rfl,rfl,rfl,lp.h,rfl,rfl,rfl⟩:uY _ _ _ _ _ _ _ _ _ 0 _ _ _ _ _ _ y16.1 _ (ai.C y16.1)) rfl ⟨aJ rfl,?_⟩
         refine bR rfl ⟨rfl,rfl,rfl,rfl,rfl,rfl,rfl,rfl⟩ rfl (fun e8 he=>⟨aJ rfl,?_⟩)
         subst he
         refine fb (dU.trans (ml 1 0 (m':=List.length (v9.1++[y16.1])) rfl rfl (by simp) rfl) (iU 120 3 [(0,.ptr 0 0),(1,.ptr 1 0)] [(0,.box [.ptr 2 0]),(1,.box [.arr 3 (List.length (v9.1++[y16.1]))]),(2,.box (ah y16.2))] (hE _ rfl) rfl rfl ⟨rfl,rfl⟩ ⟨⟨_,rfl,rfl,rfl⟩,⟨_,rfl,rfl,rfl⟩,trivial⟩ ⟨⟨_,rfl,rfl,rfl,rfl,rfl⟩,⟨_,rfl,rfl,rfl,rfl,rfl⟩,⟨_,rfl,rfl,rfl,rfl,rfl⟩,trivial⟩)) ?_
         exact hK11 _ _ _ h rfl
       · refine bR rfl ⟨rfl,rfl,rfl,rfl,rfl,rfl,rfl,rfl⟩ rfl (fun e7 he=>⟨aJ rfl,?_⟩)
         subst he
         refine mj v9.1 rfl (⟨ai.bb,ai.bE,Int.natCast_nonneg _,jz _ _,rfl,rfl,rfl,rfl,rfl,lp.h,rfl,rfl,rfl⟩:uY _ _ _ _ _ _ _ _ _ 0 _ _ _ _ _ _ y16.1 _ (ai.C y16.1)) rfl ⟨aJ rfl,?_⟩
         refine fb (dU.trans (ml 1 0 (m':=List.length (v9.1++[y16.1])) rfl rfl (by simp) rfl) (iU 120 3 [(0,.ptr 0 0),(1,.ptr 1 0)] [(0,.box [.ptr 2 0]),(1,.box [.arr 3 (List.length (v9.1++[y16.1]))]),(2,.box (ah y16.2))] (hE _ rfl) rfl rfl ⟨rfl,rfl⟩ ⟨⟨_,rfl,rfl,rfl⟩,⟨_,rfl,rfl,rfl⟩,trivial⟩ ⟨⟨_,rfl,rfl,rfl,rfl,rfl⟩,⟨_,rfl,rfl,rfl,rfl,rfl⟩,⟨_,rfl,rfl,rfl,rfl,rfl⟩,trivial⟩)) ?_
         exact hK11 _ _ _ h rfl
     · exact bh (hK1 _ _ (aa (zl rfl (zk hp hr h [2] Tryz.call202 (cL n ([41]:List UInt8) y14.2) rfl (fun _=>rfl) fun y18 h=>ao (zY .nil h rfl)))))
   · refine bR rfl ⟨rfl,rfl,rfl,rfl,rfl,rfl,rfl,rfl⟩ rfl (fun e7 he=>⟨aJ rfl,?_⟩)
     subst he
     refine mj p0 rfl (⟨ai.bb,ai.bE,Int.natCast_nonneg _,jz _ _,rfl,rfl,rfl,rfl,rfl,lp.h,rfl,rfl,rfl⟩:uY _ _ _ _ _ _ _ _ _ 0 _ _ _ _ _ _ y7.1 _ (ai.C y7.1)) rfl ⟨aJ rfl,?_⟩
     refine fb (dU.trans (ml 1 0 (m':=List.length (p0++[y7.1])) rfl rfl (by simp) rfl) (iU 111 3 [(0,.ptr 0 0),(1,.ptr 1 0)] [(0,.box [.ptr 2 0]),(1,.box [.arr 3 (List.length (p0++[y7.1]))]),(2,.box (ah y7.2))] (hE _ rfl) rfl rfl ⟨rfl,rfl⟩ ⟨⟨_,rfl,rfl,rfl⟩,⟨_,rfl,rfl,rfl⟩,trivial⟩ ⟨⟨_,rfl,rfl,rfl,rfl,rfl⟩,⟨_,rfl,rfl,rfl,rfl,rfl⟩,⟨_,rfl,rfl,rfl,rfl,rfl⟩,trivial⟩)) ?_
     refine hK6 _ _ (aB (zL hr h (fun (v19:(List ai)×ag)=>[(0,.ptr 0 0),(1,.ptr 1 0)]) (fun (v19:(List ai)×ag)=>[(0,.box [.ptr 2 0]),(1,.box [.arr 3 (List.length v19.1)]),(2,.box (ah v19.2)),(3,.arr 38 9 (ai.Cs v19.1))]) rfl fun _ v19 _ hK21 h=>ab fun _ hK22=>ab fun _ hK23=>aa (zl rfl (zk hp hr h [2] Tryz.call76 (cG n ([44]:List UInt8) v19.2) rfl (fun _=>rfl) fun y24 h=>zQ hK23 (zB rfl h (fun _ h=>?_) fun _ h=>?_)))))
     · refine an (hK22 _ _ (aB (lT [] ?_)))
       refine oD [0,1,3,4,2,5,6] 7 8 rfl (by kernel_rfl) ?_
       refine zD rfl (ei [.arr 3 (List.length v19.1)] rfl rfl ⟨.inl rfl,trivial⟩ rfl) rfl (zD rfl (aX rfl rfl rfl) rfl (zD rfl (lQ rfl) rfl (sZ [(ai.mk 0 ([]:List UInt8) 0 ([]:List UInt8) ([]:List UInt8) [] [] [] 0)] ai.bb rfl (bF rfl) ⟨rfl,rfl,rfl⟩ ⟨rfl,rfl⟩ ?_)))
       refine cS rfl (bF rfl) hr h [2] Tryz.call33 (hT.aG false y24.2) ⟨rfl,rfl,rfl,rfl,rfl,rfl,trivial⟩ rfl rfl (fun _=>⟨rfl,rfl,rfl⟩) (fun _=>⟨rfl,rfl⟩) hp (fun y26 h=>⟨ch ⟨trivial,⟨trivial,⟨trivial,⟨⟨⟨_,rfl,be.ed ⟨.inl rfl,trivial⟩⟩,trivial⟩,trivial⟩⟩⟩⟩,?_⟩)
       refine zd hr h fun hg27 h=>mM 120 rfl (bF rfl) ⟨jC.h,dL.h,ai.bb,ai.bE,ai.iV,hE _ rfl,rfl,rfl,(.inl rfl),⟨rfl,rfl,rfl⟩,hg27⟩ rfl rfl ⟨aJ rfl,?_⟩
       refine zD rfl (lP rfl rfl (Int.natCast_nonneg _) (rl _ _)) rfl (rm ?_ ?_)
       · refine mj v19.1 rfl (⟨ai.bb,ai.bE,Int.natCast_nonneg _,jz _ _,rfl,rfl,rfl,rfl,rfl,lp.h,rfl,rfl,rfl⟩:uY _ _ _ _ _ _ _ _ _ 0 _ _ _ _ _ _ y26.1 _ (ai.C y26.1)) rfl ⟨aJ rfl,?_⟩
         refine bR rfl ⟨rfl,rfl,rfl,rfl,rfl,rfl,rfl,rfl⟩ rfl (fun e8 he=>⟨aJ rfl,?_⟩)
         subst he
         refine fb (dU.trans (ml 1 0 (m':=List.length (v19.1++[y26.1])) rfl rfl (by simp) rfl) (iU 120 3 [(0,.ptr 0 0),(1,.ptr 1 0)] [(0,.box [.ptr 2 0]),(1,.box [.arr 3 (List.length (v19.1++[y26.1]))]),(2,.box (ah y26.2))] (hE _ rfl) rfl rfl ⟨rfl,rfl⟩ ⟨⟨_,rfl,rfl,rfl⟩,⟨_,rfl,rfl,rfl⟩,trivial⟩ ⟨⟨_,rfl,rfl,rfl,rfl,rfl⟩,⟨_,rfl,rfl,rfl,rfl,rfl⟩,⟨_,rfl,rfl,rfl,rfl,rfl⟩,trivial⟩)) ?_
         exact hK21 _ _ _ h rfl
       · refine bR rfl ⟨rfl,rfl,rfl,rfl,rfl,rfl,rfl,rfl⟩ rfl (fun e7 he=>⟨aJ rfl,?_⟩)
         subst he
         refine mj v19.1 rfl (⟨ai.bb,ai.bE,Int.natCast_nonneg _,jz _ _,rfl,rfl,rfl,rfl,rfl,lp.h,rfl,rfl,rfl⟩:uY _ _ _ _ _ _ _ _ _ 0 _ _ _ _ _ _ y26.1 _ (ai.C y26.1)) rfl ⟨aJ rfl,?_⟩
         refine fb (dU.trans (ml 1 0 (m':=List.length (v19.1++[y26.1])) rfl rfl (by simp) rfl) (iU 120 3 [(0,.ptr 0 0),(1,.ptr 1 0)] [(0,.box [.ptr 2 0]),(1,.box [.arr 3 (List.length (v19.1++[y26.1]))]),(2,.box (ah y26.2))] (hE _ rfl) rfl rfl ⟨rfl,rfl⟩ ⟨⟨_,rfl,rfl,rfl⟩,⟨_,rfl,rfl,rfl⟩,trivial⟩ ⟨⟨_,rfl,rfl,rfl,rfl,rfl⟩,⟨_,rfl,rfl,rfl,rfl,rfl⟩,⟨_,rfl,rfl,rfl,rfl,rfl⟩,trivial⟩)) ?_
         exact hK21 _ _ _ h rfl
     · exact bh (hK1 _ _ (aa (zl rfl (zk hp hr h [2] Tryz.call202 (cL n ([41]:List UInt8) y24.2) rfl (fun _=>rfl) fun y28 h=>ao (zY .nil h rfl)))))
 · exact an (hK1 _ _ (aa (zl rfl (zk hp hr h [2] Tryz.call202 (cL n ([41]:List UInt8) (ag.mk y3.2.text y3.2.bg y3.2.at_ p1.base y3.2.skip y3.2.pending)) rfl (fun _=>rfl) fun y29 h=>ao (zY .nil h rfl)))))
theorem oR (n:Nat) (T:aE) (hT:ba T) (p0:Int) (p1:Bool) (p2:ag):CT Tryz.prog 174 [.ptr 0 0,I p0,Bo p1] [.box (ah p2)] (gx n T p0 p1 p2) (fun x=>.agg (aV x.1)) (fun x=>[.box (ah x.2)]):=by
 refine zC Tryz.func174 rfl fun r hp h hr E hE=>ab fun _ hK1=>aa (aM 106 (hE _ rfl) ⟨rfl,rfl,rfl,rfl⟩ rfl ?_)
 refine zQ hK1 (ab fun _ hK2=>ab fun _ hK3=>aa (zm rfl (zc rfl (zQ hK3 (zB rfl h (fun _ h=>?_) fun _ h=>?_)))))
 · exact ab fun _ hK5=>aa (zm rfl (zm rfl (zk hp hr h [0] Tryz.call214 (hT.cQ p1 p2) rfl (fun _=>rfl) fun y6 h=>zs rfl (zQ hK5 (ar (zX (.cons (aZ rfl rfl rfl) .nil) h rfl))))))
 · refine an (hK2 _ _ (ab fun _ hK7=>aa (zm rfl (zm rfl (zd hr h fun hg8 h=>zo hg8 rfl (zm rfl (zk hp hr h [0] Tryz.call174 (hT.bU (p0+1) p1 p2) rfl (fun _=>rfl) fun y9 h=>aM 107 (hE _ rfl) ⟨rfl,rfl,rfl,rfl⟩ rfl ?_)))))))
   refine zs rfl (zQ hK7 (ab fun _ hK10=>aB (zL hr h (fun (v11:ag×ai)=>[(0,.ptr 0 0),(1,I p0),(2,Bo p1),(6,.ptr 106 0),(7,.ptr 107 0)]) (fun (v11:ag×ai)=>[(0,.box (ah v11.1)),(106,.box [I 0,bd [],I 0,bd [],bd [],Sc (.slice none 0 0),Sc (.slice none 0 0),Sc (.slice none 0 0),I 0]),(107,.box (aV v11.2))]) rfl fun _ v11 _ hK13 h=>ab fun _ hK14=>ab fun _ hK15=>aa (zm rfl (zk hp hr h [0] Tryz.call34 (aI n v11.1) rfl (fun _=>rfl) fun y16 h=>zm rfl (zk hp hr h [] Tryz.call215 (r7 p0) rfl (fun _=>rfl) fun y17 h=>zk hp hr h [] Tryz.call151 (k3 n y16.1 y17) rfl (fun _=>rfl) fun y18 h=>zQ hK15 (zB rfl h (fun _ h=>?_) fun _ h=>?_)))))))
   · refine an (hK14 _ _ (aB (ab fun _ hK20=>bo [0,1,2,3,4,5] rfl (by kernel_rfl) (zD rfl (aq rfl) rfl (zD rfl (hY rfl rfl rfl rfl) rfl ?_)))))
     refine zD rfl (aq rfl) rfl (cS rfl (bF rfl) hr h [0] Tryz.call75 (bT n (ag.mk y16.2.text y16.2.bg y16.2.at_ v11.1.base y16.2.skip y16.2.pending)) ⟨rfl,rfl,rfl,rfl,rfl,rfl,trivial⟩ rfl rfl (fun _=>⟨rfl,rfl,rfl⟩) (fun _=>⟨rfl,rfl⟩) hp (fun y21 h=>⟨ch ⟨trivial,⟨⟨⟨_,rfl,be.le_refl _⟩,trivial⟩,⟨trivial,trivial⟩⟩⟩,?_⟩))
     refine cS rfl (bF rfl) hr h [0] Tryz.call74 (fc n v11.2 y21.1 y21.2) ⟨rfl,rfl,rfl,rfl,rfl,rfl,trivial⟩ rfl rfl (fun _=>⟨rfl,rfl,rfl⟩) (fun _=>⟨rfl,rfl⟩) hp (fun y22 h=>⟨aJ rfl,?_⟩)
     refine bR rfl ⟨rfl,rfl,rfl,rfl,rfl,rfl,rfl,rfl⟩ rfl (fun e5 he=>⟨aJ rfl,?_⟩)
     subst he
     refine b4 (hK20 _ _ (ab fun _ hK23=>aa (zm rfl (zk hp hr h [0] Tryz.call34 (aI n y22.2) rfl (fun _=>rfl) fun y24 h=>al (jU rfl rfl) rfl ?_))))
     refine za rfl (zQ hK23 (ab fun _ hK25=>aa (zm rfl (zn rfl (zf rfl (zl rfl (zd hr h fun hg26 h=>zo hg26 rfl (zn rfl (zf rfl (zs rfl (zQ hK25 (lT [] ?_))))))))))))
     refine bo [0,1,2,3,4,7,8,5,6,9,10] rfl (by kernel_rfl) (zD rfl (aq rfl) rfl (zD rfl (hY rfl rfl rfl rfl) rfl ?_))
     refine zD rfl (aq rfl) rfl (zD rfl (aq rfl) rfl (zd hr h fun hg27 h=>zD rfl (kV rfl rfl hg27) rfl (zD rfl (bn rfl) rfl (zD rfl (ei [.any,.any,.any,.any,.any,.any,.any,.any,I y22.1.Pos] rfl rfl ⟨.inr rfl,.inr rfl,.inr rfl,.inr rfl,.inr rfl,.inr rfl,.inr rfl,.inr rfl,.inl rfl,trivial⟩ rfl) rfl (cS rfl (bF rfl) hr h [0] Tryz.call174 (hT.bU (p0+1) false (ag.mk y24.2.text y24.2.bg (y24.2.at_+1) y22.2.base y24.2.skip y24.2.pending)) ⟨rfl,rfl,rfl,rfl,rfl,rfl,trivial⟩ rfl rfl (fun _=>⟨rfl,rfl,rfl⟩) (fun _=>⟨rfl,rfl⟩) hp (fun y28 h=>⟨ch ⟨⟨⟨_,rfl,be.ed ⟨.inr rfl,.inr rfl,.inr rfl,.inr rfl,.inr rfl,.inr rfl,.inr rfl,.inr rfl,.inl rfl,trivial⟩⟩,trivial⟩,⟨trivial,⟨trivial,⟨trivial,⟨trivial,⟨⟨⟨_,rfl,be.le_refl _⟩,trivial⟩,⟨trivial,trivial⟩⟩⟩⟩⟩⟩⟩,?_⟩))))))
     refine gI [y22.1,y28.1] ai.bb rfl (bF rfl) ⟨rfl,rfl⟩ ⟨rfl,rfl⟩ ?_
     refine zD rfl (cT rfl rfl) rfl ?_
     refine bR rfl ⟨rfl,rfl,rfl,rfl,rfl,rfl,rfl,rfl⟩ rfl (fun e10 he=>⟨aJ rfl,?_⟩)
     subst he
     refine fb (dU.trans (fB 107 6 rfl rfl rfl) (fB 107 7 rfl rfl rfl)) ?_
     exact hK13 _ _ _ h rfl
   · refine bh (hK10 _ _ (ab fun _ hK29=>aa (zA rfl ?_)))
     exact zs rfl (zQ hK29 (ar (zX (.cons (aZ rfl rfl rfl) .nil) h rfl)))
theorem pA (n:Nat) (T:aE) (hT:ba T) (p0:Bool) (p1:ag):CT Tryz.prog 156 [.ptr 0 0,Bo p0] [.box (ah p1)] (gT n T p0 p1) (fun x=>.eT [.pv (.sl (List.length x.1) (ax.Cs x.1)),.pv (.sl (List.length x.2.1) (bS x.2.1))]) (fun x=>[.box (ah x.2.2)]):=by
 refine zC Tryz.func156 rfl fun r hp h hr E hE=>?_
 refine ab fun _ hK1=>?_
 refine aa ?_
 refine cM 102 (hE _ rfl) ⟨rfl,rfl,rfl,rfl,rfl,rfl,rfl⟩ rfl ?_
 refine cM 103 (hE _ rfl) ⟨rfl,rfl,rfl,rfl,rfl,rfl,rfl⟩ rfl ?_
 refine za rfl ?_
 refine za rfl ?_
 refine zQ hK1 ?_
 refine ab fun _ hK2=>?_
 refine aa ?_
 refine zl rfl ?_
 refine zk hp hr h [0] Tryz.call155 (cu n ([123]:List UInt8) p1) rfl (fun _=>rfl) fun y3 h=>?_
 refine zQ hK2 ?_
 refine ab fun _ hK4=>?_
 refine aa ?_
 refine aM 106 (hE _ rfl) ⟨rfl,rfl,rfl,rfl⟩ rfl ?_
 refine zQ hK4 ?_
 refine ab fun _ hK5=>?_
 refine aa ?_
 refine aM 107 (hE _ rfl) ⟨rfl,rfl,rfl,rfl⟩ rfl ?_
 refine zQ hK5 ?_
 refine ab fun _ hK6=>?_
 refine aa ?_
 refine zl rfl ?_
 refine al (oG rfl rfl) rfl ?_
 refine aY (jd 106 rfl rfl) ?_
 refine aY (jd 107 rfl rfl) ?_
 refine zk hp hr h [0,102,103,106,107] Tryz.call200 (hT.dE false y3 p0 [] []) rfl (fun _=>rfl) fun y7 h=>?_
 refine zQ hK6 ?_
 refine ab fun _ hK8=>?_
 refine aa ?_
 refine zl rfl ?_
 refine zn rfl ?_
 refine zf rfl ?_
 refine zl rfl ?_
 refine zd hr h fun hg9 h=>?_
 refine zo hg9 rfl ?_
 refine zn rfl ?_
 refine zf rfl ?_
 refine zs rfl ?_
 refine zQ hK8 ?_
 refine ab fun _ hK10=>?_
 refine bo [0,1,2,3] rfl (by kernel_rfl) ?_
 refine zD rfl (aX rfl rfl rfl) rfl ?_
 refine zD rfl (ei [.pv (.sl (List.length y7.2.2.2) (bS y7.2.2.2))] rfl rfl ⟨.inl rfl,trivial⟩ rfl) rfl ?_
 refine eF rfl rfl rfl (ch ⟨⟨⟨_,rfl,be.ed ⟨.inl rfl,trivial⟩⟩,trivial⟩,⟨trivial,trivial⟩⟩) rfl ?_
 refine eF rfl rfl rfl (aJ rfl) rfl ?_
 refine b4 ?_
 refine hK10 _ _ ?_
 refine ar ?_
 exact zX (.cons (aw rfl) (.cons (aw rfl) .nil)) h rfl
theorem oa (n:Nat) (T:aE) (hT:ba T) (p0:Bool) (p1:(List ax)) (p2:(List (List UInt8))) (p3:ag):CT Tryz.prog 203 [.ptr 0 0,.ptr 1 0,.ptr 2 0,.ptr 3 0] [.box [.ptr 4 0],.box [Bo p0],.box [.pv (.sl (List.length p1) (ax.Cs p1))],.box [.pv (.sl (List.length p2) (bS p2))],.box (ah p3)] (fV n T p0 p1 p2 p3) (fun _=>.eT []) (fun x=>[.box [.ptr 4 0],.box [Bo x.1],.box [.pv (.sl (List.length x.2.1) (ax.Cs x.2.1))],.box [.pv (.sl (List.length x.2.2.1) (bS x.2.2.1))],.box (ah x.2.2.2)]):=by
 exact zC Tryz.func203 rfl fun r hp h hr E hE=>ab fun _ hK1=>aa (zl rfl (zl rfl (zk hp hr h [4] Tryz.call60 (hT.dp p0 p3) rfl (fun _=>rfl) fun y2 h=>zm rfl (zx rfl (zx rfl (zs rfl (zs rfl (zQ hK1 (aa (zl rfl (zk hp hr h [4] Tryz.call202 (cL n ([125]:List UInt8) y2.2.2) rfl (fun _=>rfl) fun y3 h=>ao (zY .nil h rfl))))))))))))
theorem oS (n:Nat) (T:aE) (hT:ba T) (p0:Bool) (p1:ag):CT Tryz.prog 278 [.ptr 0 0,Bo p0] [.box (ah p1)] (gy n T p0 p1) (fun x=>.agg (aV x.1)) (fun x=>[.box (ah x.2)]):=by
 refine zC Tryz.func278 rfl fun r hp h hr E hE=>ab fun _ hK1=>aa (aM 104 (hE _ rfl) ⟨rfl,rfl,rfl,rfl⟩ rfl ?_)
 refine zQ hK1 (ab fun _ hK2=>aa (zm rfl (zk hp hr h [0] Tryz.call75 (bT n p1) rfl (fun _=>rfl) fun y3 h=>al (cT rfl rfl) rfl ?_)))
 refine aM 105 (hE _ rfl) ⟨rfl,rfl,rfl,rfl⟩ rfl ?_
 refine zs rfl (zQ hK2 (zM h (fun (v4:ai)=>[(0,.ptr 0 0),(1,Bo p0),(4,.ptr 104 0),(5,.ptr 105 0)]) (fun (v4:ai)=>[(0,.box (ah y3.2)),(104,.box [I 0,bd [],I 0,bd [],bd [],Sc (.slice none 0 0),Sc (.slice none 0 0),Sc (.slice none 0 0),I 0]),(105,.box [I v4.Kind,bd v4.Text,I v4.jD,bd v4.bk,bd v4.bt,Sc (.slice none 0 0),Sc (.slice none 0 0),Sc (.slice none 0 0),I v4.Pos])]) (fun v4 h=>?_) fun _ _ hK6 h=>?_))
 · refine ab fun _ hK7=>aa (zm rfl (zm rfl (zk hp hr h [0] Tryz.call156 (hT.cw p0 y3.2) rfl (fun _=>rfl) fun y8 h=>zm rfl (zx rfl (zx rfl (zf rfl (zs rfl (zf rfl (zs rfl (zQ hK7 (ab fun _ hK9=>aa (zA rfl ?_))))))))))))
   refine zs rfl (zQ hK9 (bK (jd 104 rfl rfl) ?_))
   exact ar (zX (.cons (aZ rfl rfl rfl) .nil) h rfl)
 · refine ab fun _ hK10=>aa (zm rfl (zQ hK10 (zB rfl h (fun _ h=>?_) fun _ h=>?_)))
   · exact aa (zf rfl (zs rfl (ao (hK6 _ _ _ h rfl))))
   · exact an (hK6 _ _ _ h rfl)
theorem mx (n:Nat) (T:aE) (hT:ba T) (p0:Bool) (p1:ag):CT Tryz.prog 119 [.ptr 0 0,Bo p0] [.box (ah p1)] (eW n T p0 p1) (fun x=>.agg (aV x.1)) (fun x=>[.box (ah x.2)]):=by
 refine zC Tryz.func119 rfl fun r hp h hr E hE=>ab fun _ hK1=>aa (aM 104 (hE _ rfl) ⟨rfl,rfl,rfl,rfl⟩ rfl ?_)
 refine zQ hK1 (ab fun _ hK2=>aa (zm rfl (zm rfl (zk hp hr h [0] Tryz.call174 (hT.bU 0 p0 p1) rfl (fun _=>rfl) fun y3 h=>aM 105 (hE _ rfl) ⟨rfl,rfl,rfl,rfl⟩ rfl ?_))))
 refine zs rfl (zQ hK2 (ab fun _ hK4=>aB (zL hr h (fun (v5:ag×ai)=>[(0,.ptr 0 0),(1,Bo p0),(4,.ptr 104 0),(5,.ptr 105 0)]) (fun (v5:ag×ai)=>[(0,.box (ah v5.1)),(104,.box [I 0,bd [],I 0,bd [],bd [],Sc (.slice none 0 0),Sc (.slice none 0 0),Sc (.slice none 0 0),I 0]),(105,.box (aV v5.2))]) rfl fun _ v5 _ hK7 h=>ab fun _ hK8=>ab fun _ hK9=>aa (zm rfl (zk hp hr h [0] Tryz.call76 (cG n ([38]:List UInt8) v5.1) rfl (fun _=>rfl) fun y10 h=>zQ hK9 (zB rfl h (fun _ h=>?_) fun _ h=>?_))))))
 · refine an (hK8 _ _ (aB (lT [] ?_)))
   refine bo [0,1,2,5,6,3,4,7,8] rfl (by kernel_rfl) (zD rfl (hY rfl rfl rfl rfl) rfl ?_)
   refine zD rfl (aq rfl) rfl (zD rfl (aq rfl) rfl (zD rfl (bn rfl) rfl (zD rfl (ei [.any,.any,.any,.any,.any,.any,.any,.any,I v5.2.Pos] rfl rfl ⟨.inr rfl,.inr rfl,.inr rfl,.inr rfl,.inr rfl,.inr rfl,.inr rfl,.inr rfl,.inl rfl,trivial⟩ rfl) rfl (cS rfl (bF rfl) hr h [0] Tryz.call174 (hT.bU 0 p0 y10.2) ⟨rfl,rfl,rfl,rfl,rfl,rfl,trivial⟩ rfl rfl (fun _=>⟨rfl,rfl,rfl⟩) (fun _=>⟨rfl,rfl⟩) hp (fun y12 h=>⟨ch ⟨⟨⟨_,rfl,be.ed ⟨.inr rfl,.inr rfl,.inr rfl,.inr rfl,.inr rfl,.inr rfl,.inr rfl,.inr rfl,.inl rfl,trivial⟩⟩,trivial⟩,⟨trivial,⟨trivial,⟨trivial,⟨⟨⟨_,rfl,be.le_refl _⟩,trivial⟩,trivial⟩⟩⟩⟩⟩,?_⟩)))))
   refine gI [v5.2,y12.1] ai.bb rfl (bF rfl) ⟨rfl,rfl⟩ ⟨rfl,rfl⟩ ?_
   refine zD rfl (cT rfl rfl) rfl ?_
   refine bR rfl ⟨rfl,rfl,rfl,rfl,rfl,rfl,rfl,rfl⟩ rfl (fun e8 he=>⟨aJ rfl,?_⟩)
   subst he
   refine fb (dU.trans (fB 105 6 rfl rfl rfl) (fB 105 7 rfl rfl rfl)) ?_
   exact hK7 _ _ _ h rfl
 · refine bh (hK4 _ _ (ab fun _ hK13=>aa (zA rfl ?_)))
   exact zs rfl (zQ hK13 (ar (zX (.cons (aZ rfl rfl rfl) .nil) h rfl)))
theorem p7 (n:Nat) (T:aE) (hT:ba T) (p0:Bool) (p1:ag):CT Tryz.prog 107 [.ptr 0 0,Bo p0] [.box (ah p1)] (iv n T p0 p1) (fun x=>.agg (cU x.1)) (fun x=>[.box (ah x.2)]):=by
 refine zC Tryz.func107 rfl fun r hp h hr E hE=>ab fun _ hK1=>aa (aM 104 (hE _ rfl) ⟨rfl,rfl,rfl,rfl⟩ rfl ?_)
 refine zQ hK1 (ab fun _ hK2=>aa (zm rfl (zk hp hr h [0] Tryz.call34 (aI n p1) rfl (fun _=>rfl) fun y3 h=>aM 105 (hE _ rfl) ⟨rfl,rfl,rfl,rfl⟩ rfl ?_)))
 refine zs rfl (zQ hK2 (ab fun _ hK4=>aa (zm rfl (zk hp hr h [0] Tryz.call75 (bT n (ag.mk y3.2.text y3.2.bg y3.2.at_ p1.base y3.2.skip y3.2.pending)) rfl (fun _=>rfl) fun y5 h=>al (cT rfl rfl) rfl ?_))))
 refine aM 106 (hE _ rfl) ⟨rfl,rfl,rfl,rfl⟩ rfl ?_
 refine zs rfl (zQ hK4 (ab fun _ hK6=>aa (zm rfl (zk hp hr h [0] Tryz.call149 (dN 1 y5.2) rfl (fun _=>rfl) fun y7 h=>aM 107 (hE _ rfl) ⟨rfl,rfl,rfl,rfl⟩ rfl ?_))))
 refine zs rfl (zQ hK6 (zM h (fun (v8:ag×ax)=>[(0,.ptr 0 0),(1,Bo p0),(4,.ptr 104 0),(6,.ptr 106 0)]) (fun (v8:ag×ax)=>[(0,.box (ah v8.1)),(104,.box [I 0,I 0,bd [],bd [],bd [],Sc (.slice none 0 0),Sc (.slice none 0 0),Sc (.slice none 0 0),Sc (.slice none 0 0),bd [],I 0]),(106,.box (cU v8.2))]) (fun v8 h=>?_) fun _ _ hK10 h=>?_))
 · refine ab fun _ hK11=>aa (zA rfl ?_)
   exact zs rfl (zQ hK11 (ar (zX (.cons (aZ rfl rfl rfl) .nil) h rfl)))
 · refine aB (zM h (fun (v12:Bool)=>[(0,.ptr 0 0),(1,Bo p0),(4,.ptr 104 0),(5,.ptr 105 0),(6,.ptr 106 0),(21,Bo v12)]) (fun (v12:Bool)=>[(0,.box (ah y7.2)),(104,.box [I 0,I 0,bd [],bd [],bd [],Sc (.slice none 0 0),Sc (.slice none 0 0),Sc (.slice none 0 0),Sc (.slice none 0 0),bd [],I 0]),(105,.box (eA y3.1)),(106,.box [I 0,I 0,bd [],bd [],bd [],Sc (.slice none 0 0),Sc (.slice none 0 0),Sc (.slice none 0 0),Sc (.slice none 0 0),bd [],I y5.1])]) (fun v12 h=>?_) fun _ _ hK14 h=>?_)
   · refine zB rfl h (fun _ h=>?_) fun _ h=>?_
     · refine aa (zm rfl (zm rfl (aY (jd 106 rfl rfl) ?_)))
       exact zk hp hr h [0,106] Tryz.call152 (hT.dx p0 y7.2 (ax.mk 0 0 [] [] [] [] [] [] [] [] y5.1)) rfl (fun _=>rfl) fun y16 h=>ao (hK10 _ _ _ h rfl)
     · refine ab fun _ hK17=>aa (zm rfl (zk hp hr h [0] Tryz.call153 (nK n y7.2) rfl (fun _=>rfl) fun y18 h=>za rfl (zQ hK17 (zB rfl h (fun _ h=>?_) fun _ h=>?_))))
       · refine aa (zm rfl (zm rfl (aY (jd 106 rfl rfl) ?_)))
         exact zk hp hr h [0,106] Tryz.call154 (hT.c7 p0 y18.2 (ax.mk 0 0 [] [] [] [] [] [] [] [] y5.1)) rfl (fun _=>rfl) fun y20 h=>ao (hK10 _ _ _ h rfl)
       · refine ab fun _ hK21=>aa (zA rfl ?_)
         refine zk hp hr h [] Tryz.call56 (fF y3.1 ([108,101,116]:List UInt8)) rfl (fun _=>rfl) fun y22 h=>za rfl (zQ hK21 (zB rfl h (fun _ h=>?_) fun _ h=>?_))
         · refine zM h (fun (v24:ag)=>[(0,.ptr 0 0),(1,Bo p0),(4,.ptr 104 0),(6,.ptr 106 0)]) (fun (v24:ag)=>[(0,.box (ah v24)),(104,.box [I 0,I 0,bd [],bd [],bd [],Sc (.slice none 0 0),Sc (.slice none 0 0),Sc (.slice none 0 0),Sc (.slice none 0 0),bd [],I 0]),(106,.box [I 0,I 0,bd [],bd [],bd [],Sc (.slice none 0 0),Sc (.slice none 0 0),Sc (.slice none 0 0),Sc (.slice none 0 0),bd [],I y5.1])]) (fun v24 h=>?_) fun _ _ hK26 h=>?_
           · refine ab fun _ hK27=>aa (zm rfl (zn rfl (zf rfl (zl rfl (zd hr h fun hg28 h=>zo hg28 rfl (zn rfl (zf rfl (zs rfl (zQ hK27 (ab fun _ hK29=>aa (zm rfl (zk hp hr h [0] Tryz.call57 (eP n (ag.mk v24.text v24.bg (v24.at_+1) v24.base v24.skip v24.pending)) rfl (fun _=>rfl) fun y30 h=>zf rfl (zs rfl (zf rfl (zs rfl (zQ hK29 (ab fun _ hK31=>aa (zm rfl (zk hp hr h [0] Tryz.call155 (cu n ([61]:List UInt8) y30.2) rfl (fun _=>rfl) fun y32 h=>?_)))))))))))))))))))
             refine zQ hK31 (aa (zm rfl (zk hp hr h [0] Tryz.call33 (hT.aG true y32) rfl (fun _=>rfl) fun y33 h=>bL [y33.1] ai.bb ⟨rfl,rfl⟩ rfl ?_)))
             refine zf rfl (zs rfl (aY (fB 106 6 rfl rfl rfl) ?_))
             refine aY (fB 106 7 rfl rfl rfl) ?_
             refine aY (fB 106 8 rfl rfl rfl) ?_
             exact ao (hK10 _ _ _ h rfl)
           · refine ab fun _ hK34=>aa (zm rfl (al (du rfl) rfl (zQ hK34 (zB rfl h (fun _ h=>?_) fun _ h=>?_))))
             · exact aa (zm rfl (zk hp hr h [0] Tryz.call35 (bu n y18.2) rfl (fun _=>rfl) fun y36 h=>ao (hK26 _ _ _ h rfl)))
             · exact an (hK26 _ _ _ h rfl)
         · refine ab fun _ hK37=>aa (zA rfl ?_)
           refine zk hp hr h [] Tryz.call72 (cd y3.1 ([46,46,46]:List UInt8)) rfl (fun _=>rfl) fun y38 h=>za rfl (zQ hK37 (zB rfl h (fun _ h=>?_) fun _ h=>?_))
           · refine zM h (fun (v40:ag)=>[(0,.ptr 0 0),(1,Bo p0),(4,.ptr 104 0),(6,.ptr 106 0)]) (fun (v40:ag)=>[(0,.box (ah v40)),(104,.box [I 0,I 0,bd [],bd [],bd [],Sc (.slice none 0 0),Sc (.slice none 0 0),Sc (.slice none 0 0),Sc (.slice none 0 0),bd [],I 0]),(106,.box [I 0,I 0,bd [],bd [],bd [],Sc (.slice none 0 0),Sc (.slice none 0 0),Sc (.slice none 0 0),Sc (.slice none 0 0),bd [],I y5.1])]) (fun v40 h=>?_) fun _ _ hK42 h=>?_
             · refine ab fun _ hK43=>aa (zm rfl (zn rfl (zf rfl (zl rfl (zd hr h fun hg44 h=>zo hg44 rfl (zn rfl (zf rfl (zs rfl (zQ hK43 (aa (zf rfl (zs rfl (aY (fB 106 5 rfl rfl rfl) ?_)))))))))))))
               refine aY (fB 106 6 rfl rfl rfl) ?_
               refine aY (fB 106 7 rfl rfl rfl) ?_
               refine aY (fB 106 8 rfl rfl rfl) ?_
               exact ao (hK10 _ _ _ h rfl)
             · refine ab fun _ hK45=>aa (zm rfl (al (du rfl) rfl (zQ hK45 (zB rfl h (fun _ h=>?_) fun _ h=>?_))))
               · exact aa (zm rfl (zk hp hr h [0] Tryz.call35 (bu n y18.2) rfl (fun _=>rfl) fun y47 h=>ao (hK42 _ _ _ h rfl)))
               · exact an (hK42 _ _ _ h rfl)
           · refine ab fun _ hK48=>aa (zA rfl ?_)
             refine zk hp hr h [] Tryz.call56 (fF y3.1 ([105,102]:List UInt8)) rfl (fun _=>rfl) fun y49 h=>za rfl (zQ hK48 (zB rfl h (fun _ h=>?_) fun _ h=>?_))
             · refine ab fun _ hK51=>aa (zm rfl (zn rfl (zf rfl (zl rfl (zd hr h fun hg52 h=>zo hg52 rfl (zn rfl (zf rfl (zs rfl (zQ hK51 (ab fun _ hK53=>aa (zf rfl (zs rfl (zQ hK53 (ab fun _ hK54=>aa (zm rfl (zk hp hr h [0] Tryz.call33 (hT.aG false (ag.mk y18.2.text y18.2.bg (y18.2.at_+1) y18.2.base y18.2.skip y18.2.pending)) rfl (fun _=>rfl) fun y55 h=>bL [y55.1] ai.bb ⟨rfl,rfl⟩ rfl ?_))))))))))))))))
               refine zf rfl (zs rfl (zQ hK54 (aa (zm rfl (zk hp hr h [0] Tryz.call156 (hT.cw false y55.2) rfl (fun _=>rfl) fun y56 h=>zm rfl (zx rfl (zx rfl (zf rfl (zs rfl (zf rfl (zs rfl (aY (fB 106 8 rfl rfl rfl) ?_))))))))))))
               exact ao (hK10 _ _ _ h rfl)
             · refine ab fun _ hK57=>aa (zA rfl ?_)
               refine zk hp hr h [] Tryz.call56 (fF y3.1 ([102,111,114]:List UInt8)) rfl (fun _=>rfl) fun y58 h=>za rfl (zQ hK57 (zB rfl h (fun _ h=>?_) fun _ h=>?_))
               · refine ab fun _ hK60=>aa (zm rfl (zn rfl (zf rfl (zl rfl (zd hr h fun hg61 h=>zo hg61 rfl (zn rfl (zf rfl (zs rfl (zQ hK60 (ab fun _ hK62=>aa (zm rfl (zk hp hr h [0] Tryz.call157 (ls n (ag.mk y18.2.text y18.2.bg (y18.2.at_+1) y18.2.base y18.2.skip y18.2.pending)) rfl (fun _=>rfl) fun y63 h=>zf rfl (zs rfl (zf rfl (zs rfl (zQ hK62 (ab fun _ hK64=>aa (zm rfl (zk hp hr h [0] Tryz.call158 (fU n ([105,110]:List UInt8) y63.2) rfl (fun _=>rfl) fun y65 h=>?_)))))))))))))))))))
                 refine zQ hK64 (ab fun _ hK66=>aa (zm rfl (zk hp hr h [0] Tryz.call33 (hT.aG false y65) rfl (fun _=>rfl) fun y67 h=>bL [y67.1] ai.bb ⟨rfl,rfl⟩ rfl ?_)))
                 refine zf rfl (zs rfl (zQ hK66 (aa (zm rfl (zk hp hr h [0] Tryz.call156 (hT.cw false y67.2) rfl (fun _=>rfl) fun y68 h=>zm rfl (zx rfl (zx rfl (zf rfl (zs rfl (zf rfl (zs rfl (aY (fB 106 8 rfl rfl rfl) ?_))))))))))))
                 exact ao (hK10 _ _ _ h rfl)
               · refine ab fun _ hK69=>aa (zA rfl ?_)
                 refine zk hp hr h [] Tryz.call72 (cd y3.1 ([40]:List UInt8)) rfl (fun _=>rfl) fun y70 h=>za rfl (zQ hK69 (zB rfl h (fun _ h=>?_) fun _ h=>?_))
                 · refine aa (zm rfl (zm rfl (aY (jd 106 rfl rfl) ?_)))
                   exact zk hp hr h [0,106] Tryz.call159 (hT.c6 p0 y18.2 (ax.mk 0 0 [] [] [] [] [] [] [] [] y5.1)) rfl (fun _=>rfl) fun y72 h=>ao (hK10 _ _ _ h rfl)
                 · refine ab fun _ hK73=>aa (zf rfl (zs rfl (zQ hK73 (aa (zm rfl (zm rfl (zk hp hr h [0] Tryz.call33 (hT.aG p0 y18.2) rfl (fun _=>rfl) fun y74 h=>bL [y74.1] ai.bb ⟨rfl,rfl⟩ rfl ?_)))))))
                   refine zf rfl (zs rfl (aY (fB 106 6 rfl rfl rfl) ?_))
                   refine aY (fB 106 7 rfl rfl rfl) ?_
                   refine aY (fB 106 8 rfl rfl rfl) ?_
                   exact ao (hK10 _ _ _ h rfl)
   · refine aa (zA rfl ?_)
     refine zk hp hr h [] Tryz.call150 (oM n y3.1) rfl (fun _=>rfl) fun y75 h=>zm rfl (zb y75 (fun hb76=>?_) fun hb76=>?_)
     · refine z1 hb76 h fun h=>zG hb76 rfl (hY rfl rfl rfl rfl) ?_
       exact zK hb76 rfl hp hr h [] Tryz.call151 (k3 n y7.1 ([58,32,63,32,33]:List UInt8)) rfl (fun _=>rfl) fun y77 h=>zy hb76 rfl (za rfl (ao (hK14 _ _ _ h rfl)))
     · exact z2 hb76 h fun h=>zg hb76 rfl (zg hb76 rfl (zw hb76 rfl (za rfl (ao (hK14 _ _ _ h rfl)))))
theorem nM (n:Nat) (T:aE) (hT:ba T) (p0:Bool) (p1:ag):CT Tryz.prog 60 [.ptr 0 0,Sc (.slice none 0 0),Bo p0] [.box (ah p1)] (kv n T p0 p1) (fun x=>.eT [.pv (.sl (List.length x.1) (ax.Cs x.1)),.pv (.sl (List.length x.2.1) (bS x.2.1))]) (fun x=>[.box (ah x.2.2)]):=by
 refine zC Tryz.func60 rfl fun r hp h hr E hE=>ab fun _ hK1=>aa (za rfl (za rfl (zQ hK1 (ab fun _ hK2=>aa (za rfl (zQ hK2 (ab fun _ hK3=>aa (za rfl (zQ hK3 (ab fun _ hK4=>aa (za rfl (zQ hK4 (ab fun _ hK5=>aB (bK (rZ (d:=1) 10001 (sz:=1) (el:=9) (hE _ rfl) rfl ⟨rfl,rfl,rfl⟩) ?_))))))))))))))
 refine bK (yJ (d:=8) 10008 (sz:=11) (el:=53) (hE _ rfl) rfl ⟨rfl,rfl,rfl⟩) ?_
 refine zL hr h (fun (v6:ag×(List (List UInt8))×(List ax)×Int×Bool)=>[(0,.ptr 0 0),(1,.arr 10001 (List.length v6.2.1)),(2,Bo p0),(8,.arr 10008 (List.length v6.2.2.1)),(9,I v6.2.2.2.1),(10,Bo v6.2.2.2.2)]) (fun (v6:ag×(List (List UInt8))×(List ax)×Int×Bool)=>[(0,.box (ah v6.1)),(10001,.app 9 1 (bS v6.2.1)),(10008,.arr 53 11 (ax.Cs v6.2.2.1))]) rfl fun _ v6 _ hK8 h=>ab fun _ hK9=>ab fun _ hK10=>aa (zm rfl (zk hp hr h [0] Tryz.call105 (l0 n v6.1) rfl (fun _=>rfl) fun y11 h=>al (du rfl) rfl (zQ hK10 (zB rfl h (fun _ h=>?_) fun _ h=>?_))))
 · refine an (hK9 _ _ (aB (ab fun _ hK13=>aa (zm rfl (zk hp hr h [0] Tryz.call34 (aI n y11.2) rfl (fun _=>rfl) fun y14 h=>aM 111 (hE _ rfl) ⟨rfl,rfl,rfl,rfl⟩ rfl ?_)))))
   refine zs rfl (zQ hK13 (aB (zM h (fun (v15:Bool)=>[(0,.ptr 0 0),(1,.arr 10001 (List.length v6.2.1)),(2,Bo p0),(8,.arr 10008 (List.length v6.2.2.1)),(9,I v6.2.2.2.1),(10,Bo v6.2.2.2.2),(11,.ptr 111 0),(31,Bo v15)]) (fun (v15:Bool)=>[(0,.box [bd y14.2.text,.pv (.sl (List.length y14.2.bg) (aS.Cs y14.2.bg)),I y14.2.at_,I y11.2.base,Bo y14.2.skip,.pv (.pt (Option.map ai.C y14.2.pending))]),(111,.box (eA y14.1)),(10001,.app 9 1 (bS v6.2.1)),(10008,.arr 53 11 (ax.Cs v6.2.2.1))]) (fun v15 h=>?_) fun _ _ hK17 h=>?_)))
   · refine zB rfl h (fun _ h=>?_) fun _ h=>?_
     · exact ab fun _ hK19=>aa (za rfl (zQ hK19 (aa (zm rfl (zn rfl (zf rfl (zl rfl (zd hr h fun hg20 h=>zo hg20 rfl (zn rfl (zf rfl (zs rfl (ao (hK8 _ _ _ h rfl)))))))))))))
     · refine zM h (fun (v21:ag×Bool)=>[(0,.ptr 0 0),(1,.arr 10001 (List.length v6.2.1)),(2,Bo p0),(8,.arr 10008 (List.length v6.2.2.1)),(9,I v6.2.2.2.1),(10,Bo v6.2.2.2.2),(11,.ptr 111 0),(46,Bo v21.2)]) (fun (v21:ag×Bool)=>[(0,.box (ah v21.1)),(111,.box (eA y14.1)),(10001,.app 9 1 (bS v6.2.1)),(10008,.arr 53 11 (ax.Cs v6.2.2.1))]) (fun v21 h=>?_) fun _ _ hK23 h=>?_
       · refine zB rfl h (fun _ h=>?_) fun _ h=>?_
         · refine ab fun _ hK25=>aa (zm rfl (zm rfl (al (lQ rfl) rfl (zd hr h fun hg26 h=>al (pM rfl rfl hg26) rfl (zf rfl (zl rfl (ze hr h fun x27 h28 h29 h30 h=>al (lP rfl rfl h28 h29) rfl (zf rfl (AX (⟨ax.bb,ax.bE,h28,h30,rfl,rfl,rfl,rfl,rfl,lp.h,rfl,rfl,rfl⟩:uY _ _ _ _ _ _ _ _ _ 9 _ _ _ _ _ _ (ax.mk x27.Kind x27.cj x27.Label x27.bk x27.bt x27.bc x27.Body x27.b3 x27.jG y14.1.Text x27.Pos) _ [.sc (S y14.1.Text)]) ?_)))))))))
           refine aY (A4 8 (m':=List.length (List.set v6.2.2.1 ((List.length v6.2.2.1:Int) - 1).toNat (ax.mk x27.Kind x27.cj x27.Label x27.bk x27.bt x27.bc x27.Body x27.b3 x27.jG y14.1.Text x27.Pos))) rfl (by simp)) ?_
           exact zQ hK25 (aa (zm rfl (zn rfl (zf rfl (zl rfl (zd hr h fun hg31 h=>zo hg31 rfl (zn rfl (zf rfl (zs rfl (ao (hK8 _ _ _ h rfl)))))))))))
         · refine zM h (fun (v32:ag×Bool)=>[(0,.ptr 0 0),(1,.arr 10001 (List.length v6.2.1)),(2,Bo p0),(8,.arr 10008 (List.length v6.2.2.1)),(9,I v6.2.2.2.1),(10,Bo v6.2.2.2.2),(11,.ptr 111 0),(74,Bo v32.2)]) (fun (v32:ag×Bool)=>[(0,.box (ah v32.1)),(111,.box (eA y14.1)),(10001,.app 9 1 (bS v6.2.1)),(10008,.arr 53 11 (ax.Cs v6.2.2.1))]) (fun v32 h=>?_) fun _ _ hK34 h=>?_
           · refine zB rfl h (fun _ h=>?_) fun _ h=>?_
             · refine ab fun _ hK36=>aa (zm rfl (zf rfl (zl rfl (bL [y14.1.Text] ej ⟨rfl,rfl⟩ rfl ?_))))
               refine zd hr h fun hg37 h=>lA 186 ⟨jC.h,dL.h,ej,gk,qF,hE _ rfl,rfl,rfl,(.inl rfl),⟨rfl,rfl,rfl⟩,hg37⟩ rfl ?_
               refine za rfl (aY (kj 186 10001 [(0,.ptr 0 0),(1,.arr 10001 (List.length (v6.2.1++[y14.1.Text]))),(2,Bo p0),(8,.arr 10008 (List.length v6.2.2.1)),(9,I v6.2.2.2.1),(10,Bo v6.2.2.2.2)] [(10008,.arr 53 11 (ax.Cs v6.2.2.1)),(0,.box (ah v32.1))] (hE _ rfl) rfl rfl ⟨rfl,rfl⟩ ⟨⟨_,rfl,rfl,rfl⟩,⟨_,rfl,rfl,rfl⟩,⟨_,rfl,rfl,rfl⟩,⟨_,rfl,rfl,rfl⟩,⟨_,rfl,rfl,rfl⟩,⟨_,rfl,rfl,rfl⟩,trivial⟩ ⟨⟨_,rfl,rfl,rfl,rfl,rfl⟩,⟨_,rfl,rfl,rfl,rfl,rfl⟩,trivial⟩) ?_)
               exact zQ hK36 (aa (zm rfl (zn rfl (zf rfl (zl rfl (zd hr h fun hg38 h=>zo hg38 rfl (zn rfl (zf rfl (zs rfl (ao (hK8 _ _ _ h rfl)))))))))))
             · refine zM h (fun (v39:Bool)=>[(0,.ptr 0 0),(1,.arr 10001 (List.length v6.2.1)),(2,Bo p0),(8,.arr 10008 (List.length v6.2.2.1)),(9,I v6.2.2.2.1),(10,Bo v6.2.2.2.2),(94,Bo v39)]) (fun (v39:Bool)=>[(0,.box (ah v32.1)),(10001,.app 9 1 (bS v6.2.1)),(10008,.arr 53 11 (ax.Cs v6.2.2.1))]) (fun v39 h=>?_) fun _ _ hK41 h=>?_
               · refine zB rfl h (fun _ h=>?_) fun _ h=>?_
                 · exact aa (zm rfl (zk hp hr h [0] Tryz.call35 (bu n v32.1) rfl (fun _=>rfl) fun y43 h=>ao (hK8 _ _ _ h rfl)))
                 · refine ab fun _ hK44=>aa (zm rfl (zm rfl (zk hp hr h [0] Tryz.call107 (hT.cF p0 v32.1) rfl (fun _=>rfl) fun y45 h=>aM 112 (hE _ rfl) ⟨rfl,rfl,rfl,rfl⟩ rfl ?_)))
                   refine zs rfl (zQ hK44 (ab fun _ hK46=>aa (al (lH ej gk rfl rfl rfl) rfl ?_)))
                   refine zf rfl (zs rfl (zQ hK46 (ab fun _ hK47=>aa (za rfl (zQ hK47 (ab fun _ hK48=>aa (zm rfl (zA rfl ?_))))))))
                   refine bL [(ax.mk y45.1.Kind y45.1.cj y45.1.Label y45.1.bk y45.1.bt y45.1.bc y45.1.Body y45.1.b3 v6.2.1 y45.1.Trail y45.1.Pos)] ax.bb ⟨rfl,rfl⟩ rfl ?_
                   refine zd hr h fun hg49 h=>su 126 ⟨jC.h,dL.h,ax.bb,ax.bE,ax.iV,hE _ rfl,rfl,rfl,(.inl rfl),⟨rfl,rfl,rfl⟩,hg49⟩ rfl ?_
                   refine za rfl (aY (iU 126 10008 [(0,.ptr 0 0),(1,Sc (.slice none 0 0)),(2,Bo p0),(8,.arr 10008 (List.length (v6.2.2.1++[(ax.mk y45.1.Kind y45.1.cj y45.1.Label y45.1.bk y45.1.bt y45.1.bc y45.1.Body y45.1.b3 v6.2.1 y45.1.Trail y45.1.Pos)])))] [(0,.box (ah y45.2))] (hE _ rfl) rfl rfl ⟨rfl,rfl⟩ ⟨⟨_,rfl,rfl,rfl⟩,⟨_,rfl,rfl,rfl⟩,⟨_,rfl,rfl,rfl⟩,⟨_,rfl,rfl,rfl⟩,trivial⟩ ⟨⟨_,rfl,rfl,rfl,rfl,rfl⟩,trivial⟩) ?_)
                   refine zQ hK48 (aa (zm rfl (zn rfl (zf rfl (zl rfl (za rfl (za rfl (aY (rZ (d:=1) 10001 (sz:=1) (el:=9) (hE _ rfl) rfl ⟨rfl,rfl,rfl⟩) ?_))))))))
                   exact ao (hK8 _ _ _ h rfl)
               · refine aa (zf rfl (zl rfl (zc rfl (zm rfl (zb (y14.1.Kind==6) (fun hb50=>?_) fun hb50=>?_)))))
                 · exact z1 hb50 h fun h=>zg hb50 rfl (zg hb50 rfl (zy hb50 rfl (za rfl (ao (hK41 _ _ _ h rfl)))))
                 · exact z2 hb50 h fun h=>zG hb50 rfl (aq rfl) (zG hb50 rfl (du rfl) (zw hb50 rfl (za rfl (ao (hK41 _ _ _ h rfl)))))
           · refine aa (zf rfl (zl rfl (zc rfl (zm rfl (zb (y14.1.Kind==6) (fun hb51=>?_) fun hb51=>?_)))))
             · exact z1 hb51 h fun h=>zG hb51 rfl (aq rfl) (zK hb51 rfl hp hr h [0] Tryz.call103 (gR n v21.1) rfl (fun _=>rfl) fun y52 h=>zy hb51 rfl (za rfl (ao (hK34 _ _ _ h rfl))))
             · exact z2 hb51 h fun h=>zg hb51 rfl (zg hb51 rfl (zw hb51 rfl (za rfl (ao (hK34 _ _ _ h rfl)))))
       · refine aa (zf rfl (zl rfl (zc rfl (zm rfl (zb (y14.1.Kind==6) (fun hb53=>?_) fun hb53=>?_)))))
         · refine z1 hb53 h fun h=>zG hb53 rfl (aq rfl) (zG hb53 rfl (bf rfl rfl rfl) (zy hb53 rfl (zm rfl (zb (decide (v6.2.2.2.1>0)) (fun hb54=>?_) fun hb54=>?_))))
           · exact z1 hb54 h fun h=>zG hb54 rfl (aq rfl) (zG hb54 rfl (aq rfl) (zK hb54 rfl hp hr h [0] Tryz.call106 (k6 n v6.2.2.2.1 (ag.mk y14.2.text y14.2.bg y14.2.at_ y11.2.base y14.2.skip y14.2.pending)) rfl (fun _=>rfl) fun y55 h=>zy hb54 rfl (za rfl (ao (hK23 _ _ _ h rfl)))))
           · exact z2 hb54 h fun h=>zg hb54 rfl (zg hb54 rfl (zg hb54 rfl (zw hb54 rfl (za rfl (ao (hK23 _ _ _ h rfl))))))
         · exact z2 hb53 h fun h=>zg hb53 rfl (zg hb53 rfl (zw hb53 rfl (zm rfl (zg rfl rfl (zg rfl rfl (zg rfl rfl (al (dj rfl rfl) rfl (za rfl (ao (hK23 _ _ _ h rfl))))))))))
   · refine aa (zf rfl (zl rfl (zc rfl (zm rfl (zb (y14.1.Kind==7) (fun hb56=>?_) fun hb56=>?_)))))
     · exact z1 hb56 h fun h=>zg hb56 rfl (zg hb56 rfl (zy hb56 rfl (za rfl (ao (hK17 _ _ _ h rfl)))))
     · refine z2 hb56 h fun h=>zG hb56 rfl (hY rfl rfl rfl rfl) ?_
       exact zK hb56 rfl hp hr h [] Tryz.call72 (cd y14.1 ([44]:List UInt8)) rfl (fun _=>rfl) fun y57 h=>zw hb56 rfl (za rfl (ao (hK17 _ _ _ h rfl)))
 · refine bh (hK5 _ _ (ab fun _ hK58=>aa (zm rfl (al (lH ej gk rfl rfl rfl) rfl ?_))))
   refine za rfl (za rfl (zQ hK58 (bK (AT (d:=6) ax.bb ax.bE rfl rfl rfl (hE _ rfl)) ?_)))
   exact ar (zX (.cons (aw rfl) (.cons (aw rfl) .nil)) h rfl)
theorem ob (n:Nat) (T:aE) (hT:ba T) (p0:Bool) (p1:ag) (p2:ax):CT Tryz.prog 159 [.ptr 0 0,.ptr 1 0,Bo p0] [.box (ah p1),.box (cU p2)] (fW n T p0 p1 p2) (fun _=>.eT []) (fun x=>[.box (ah x.1),.box (cU x.2)]):=by
 refine zC Tryz.func159 rfl fun r hp h hr E hE=>ab fun _ hK1=>aa (zm rfl (zm rfl (zk hp hr h [0] Tryz.call204 (hT.cI p0 p1) rfl (fun _=>rfl) fun y2 h=>aM 106 (hE _ rfl) ⟨rfl,rfl,rfl,rfl⟩ rfl ?_)))
 refine zs rfl (zQ hK1 (ab fun _ hK3=>ab fun _ hK4=>aa (zm rfl (zk hp hr h [0] Tryz.call34 (aI n y2.2) rfl (fun _=>rfl) fun y5 h=>zk hp hr h [] Tryz.call72 (cd y5.1 ([58]:List UInt8)) rfl (fun _=>rfl) fun y6 h=>zQ hK4 (zB rfl h (fun _ h=>?_) fun _ h=>?_)))))
 · refine ab fun _ hK8=>bo [0,1,2,3,4,5] rfl (by kernel_rfl) (zD rfl (aq rfl) rfl (zD rfl (hY rfl rfl rfl rfl) rfl ?_))
   refine zD rfl (aq rfl) rfl (cS rfl (bF rfl) hr h [0] Tryz.call75 (bT n (ag.mk y5.2.text y5.2.bg y5.2.at_ y2.2.base y5.2.skip y5.2.pending)) ⟨rfl,rfl,rfl,rfl,rfl,rfl,trivial⟩ rfl rfl (fun _=>⟨rfl,rfl,rfl⟩) (fun _=>⟨rfl,rfl⟩) hp (fun y9 h=>⟨ch ⟨trivial,⟨⟨⟨_,rfl,be.le_refl _⟩,trivial⟩,⟨trivial,trivial⟩⟩⟩,?_⟩))
   refine cS rfl (bF rfl) hr h [0] Tryz.call74 (fc n y2.1 y9.1 y9.2) ⟨rfl,rfl,rfl,rfl,rfl,rfl,trivial⟩ rfl rfl (fun _=>⟨rfl,rfl,rfl⟩) (fun _=>⟨rfl,rfl⟩) hp (fun y10 h=>⟨aJ rfl,?_⟩)
   refine bR rfl ⟨rfl,rfl,rfl,rfl,rfl,rfl,rfl,rfl⟩ rfl (fun e5 he=>⟨aJ rfl,?_⟩)
   subst he
   refine b4 (hK8 _ _ (ab fun _ hK11=>aa (zm rfl (zn rfl (zf rfl (zl rfl (zd hr h fun hg12 h=>zo hg12 rfl (zn rfl (zf rfl (zs rfl (zQ hK11 (ab fun _ hK13=>bo [0,1,2,3,4,5,6,7,8,9,10,11] rfl (by kernel_rfl) (zD rfl (aq rfl) rfl (zD rfl (aq rfl) rfl (zD rfl (hY rfl rfl rfl rfl) rfl ?_)))))))))))))))
   refine zD rfl (aq rfl) rfl (cS rfl (bF rfl) hr h [0] Tryz.call33 (hT.aG false (ag.mk y10.2.text y10.2.bg (y10.2.at_+1) y10.2.base y10.2.skip y10.2.pending)) ⟨rfl,rfl,rfl,rfl,rfl,rfl,trivial⟩ rfl rfl (fun _=>⟨rfl,rfl,rfl⟩) (fun _=>⟨rfl,rfl⟩) hp (fun y14 h=>⟨ch ⟨trivial,⟨⟨⟨_,rfl,be.le_refl _⟩,trivial⟩,⟨trivial,⟨trivial,trivial⟩⟩⟩⟩,?_⟩))
   refine gI [y10.1,y14.1] ai.bb rfl (bF rfl) ⟨rfl,rfl⟩ ⟨rfl,rfl⟩ ?_
   refine zD rfl (cC rfl) rfl (zD rfl (bn rfl) rfl (bR rfl ⟨rfl,rfl,rfl,rfl,rfl,rfl,rfl,rfl⟩ rfl (fun e8 he=>⟨aJ rfl,?_⟩)))
   subst he
   refine zD rfl (cC rfl) rfl (zD rfl (bn rfl) rfl (bR rfl ⟨rfl,rfl,rfl,rfl,rfl,rfl,rfl,rfl⟩ rfl (fun e11 he=>⟨aJ rfl,?_⟩)))
   subst he
   exact b4 (hK13 _ _ (ar (zX .nil h rfl)))
 · refine an (hK3 _ _ (ab fun _ hK15=>aa (zm rfl (zn rfl (zf rfl (aY (Db (d:=6) (ps:=ai.C y2.1) rfl rfl (hE _ rfl)) ?_))))))
   refine zs rfl (zQ hK15 (aa (zm rfl (zm rfl (zm rfl (zm rfl (zk hp hr h [0] Tryz.call33 (hT.aG p0 (ag.mk y5.2.text y5.2.bg y5.2.at_ y2.2.base y5.2.skip (some y2.1))) rfl (fun _=>rfl) fun y16 h=>bL [y16.1] ai.bb ⟨rfl,rfl⟩ rfl ?_)))))))
   exact zn rfl (zf rfl (zs rfl (zn rfl (zf rfl (zs rfl (ao (zY .nil h rfl)))))))
theorem p8 (n:Nat) (T:aE) (hT:ba T) (p0:Bool) (p1:ag):CT Tryz.prog 33 [.ptr 0 0,Bo p0] [.box (ah p1)] (iw n T p0 p1) (fun x=>.agg (aV x.1)) (fun x=>[.box (ah x.2)]):=by
 refine zC Tryz.func33 rfl fun r hp h hr E hE=>ab fun _ hK1=>aa (aM 104 (hE _ rfl) ⟨rfl,rfl,rfl,rfl⟩ rfl ?_)
 refine zQ hK1 (zM h (fun (v2:ag×Bool)=>[(0,.ptr 0 0),(1,Bo p0),(4,.ptr 104 0),(5,Bo v2.2)]) (fun (v2:ag×Bool)=>[(0,.box (ah v2.1)),(104,.box [I 0,bd [],I 0,bd [],bd [],Sc (.slice none 0 0),Sc (.slice none 0 0),Sc (.slice none 0 0),I 0])]) (fun v2 h=>?_) fun _ _ hK4 h=>?_)
 · refine zM h (fun (v5:ag×ai)=>[(0,.ptr 0 0),(1,Bo p0),(4,.ptr 104 0),(5,Bo v2.2),(6,.ptr 106 0)]) (fun (v5:ag×ai)=>[(0,.box (ah v5.1)),(104,.box [I 0,bd [],I 0,bd [],bd [],Sc (.slice none 0 0),Sc (.slice none 0 0),Sc (.slice none 0 0),I 0]),(106,.box (aV v5.2))]) (fun v5 h=>?_) fun _ _ hK7 h=>?_
   · refine zM h (fun (v8:ag)=>[(0,.ptr 0 0),(1,Bo p0),(4,.ptr 104 0),(6,.ptr 106 0)]) (fun (v8:ag)=>[(0,.box (ah v8)),(104,.box [I 0,bd [],I 0,bd [],bd [],Sc (.slice none 0 0),Sc (.slice none 0 0),Sc (.slice none 0 0),I 0]),(106,.box (aV v5.2))]) (fun v8 h=>?_) fun _ _ hK10 h=>?_
     · refine zM h (fun (v11:ag)=>[(0,.ptr 0 0),(1,Bo p0),(4,.ptr 104 0),(6,.ptr 106 0)]) (fun (v11:ag)=>[(0,.box (ah v11)),(104,.box [I 0,bd [],I 0,bd [],bd [],Sc (.slice none 0 0),Sc (.slice none 0 0),Sc (.slice none 0 0),I 0]),(106,.box (aV v5.2))]) (fun v11 h=>?_) fun _ _ hK13 h=>?_
       · refine ab fun _ hK14=>lT [] ?_
         refine bo [0,1,2,3,4,5,6] rfl (by kernel_rfl) (zD rfl (aq rfl) rfl (zD rfl (hY rfl rfl rfl rfl) rfl ?_))
         refine zD rfl (aq rfl) rfl (cS rfl (bF rfl) hr h [0] Tryz.call75 (bT n v11) ⟨rfl,rfl,rfl,rfl,rfl,rfl,trivial⟩ rfl rfl (fun _=>⟨rfl,rfl,rfl⟩) (fun _=>⟨rfl,rfl⟩) hp (fun y15 h=>⟨ch ⟨trivial,⟨⟨⟨_,rfl,be.le_refl _⟩,trivial⟩,⟨trivial,trivial⟩⟩⟩,?_⟩))
         refine cS rfl (bF rfl) hr h [0] Tryz.call74 (fc n v5.2 y15.1 y15.2) ⟨rfl,rfl,rfl,rfl,rfl,rfl,trivial⟩ rfl rfl (fun _=>⟨rfl,rfl,rfl⟩) (fun _=>⟨rfl,rfl⟩) hp (fun y16 h=>⟨aJ rfl,?_⟩)
         refine Df [y16.1] ai.bb ai.bE rfl (bF rfl) 145 (hE _ rfl) ⟨rfl,rfl,rfl,rfl⟩ ⟨rfl,rfl,rfl,rfl⟩ ⟨rfl,rfl,rfl,rfl⟩ ?_
         refine r4 rfl rfl rfl (aJ rfl) rfl ?_
         refine fb (kj 145 10007 [(0,.ptr 0 0),(1,Bo p0),(4,.ptr 104 0),(7,.arr 10007 (List.length [y16.1]))] [(0,.box (ah y16.2)),(104,.box [I 0,bd [],I 0,bd [],bd [],Sc (.slice none 0 0),Sc (.slice none 0 0),Sc (.slice none 0 0),I 0])] (hE _ rfl) rfl rfl ⟨rfl,rfl⟩ ⟨⟨_,rfl,rfl,rfl⟩,⟨_,rfl,rfl,rfl⟩,⟨_,rfl,rfl,rfl⟩,⟨_,rfl,rfl,rfl⟩,trivial⟩ ⟨⟨_,rfl,rfl,rfl,rfl,rfl⟩,⟨_,rfl,rfl,rfl,rfl,rfl⟩,trivial⟩) ?_
         refine hK14 _ _ (ab fun _ hK17=>aB (zL hr h (fun (v18:ag×(List ai))=>[(0,.ptr 0 0),(1,Bo p0),(4,.ptr 104 0),(7,.arr 10007 (List.length v18.2))]) (fun (v18:ag×(List ai))=>[(0,.box (ah v18.1)),(104,.box [I 0,bd [],I 0,bd [],bd [],Sc (.slice none 0 0),Sc (.slice none 0 0),Sc (.slice none 0 0),I 0]),(10007,.app 38 9 (ai.Cs v18.2))]) rfl fun _ v18 _ hK20 h=>ab fun _ hK21=>ab fun _ hK22=>aa (zm rfl (zk hp hr h [0] Tryz.call76 (cG n ([124]:List UInt8) v18.1) rfl (fun _=>rfl) fun y23 h=>zQ hK22 (zB rfl h (fun _ h=>?_) fun _ h=>?_)))))
         · refine an (hK21 _ _ (aB (aa (zm rfl (zm rfl (zk hp hr h [0] Tryz.call73 (hT.bH false y23.2) rfl (fun _=>rfl) fun y25 h=>bL [y25.1] ai.bb ⟨rfl,rfl⟩ rfl ?_))))))
           refine zd hr h fun hg26 h=>lA 152 ⟨jC.h,dL.h,ai.bb,ai.bE,ai.iV,hE _ rfl,rfl,rfl,(.inl rfl),⟨rfl,rfl,rfl⟩,hg26⟩ rfl ?_
           refine za rfl (aY (kj 152 10007 [(0,.ptr 0 0),(1,Bo p0),(4,.ptr 104 0),(7,.arr 10007 (List.length (v18.2++[y25.1])))] [(0,.box (ah y25.2)),(104,.box [I 0,bd [],I 0,bd [],bd [],Sc (.slice none 0 0),Sc (.slice none 0 0),Sc (.slice none 0 0),I 0])] (hE _ rfl) rfl rfl ⟨rfl,rfl⟩ ⟨⟨_,rfl,rfl,rfl⟩,⟨_,rfl,rfl,rfl⟩,⟨_,rfl,rfl,rfl⟩,⟨_,rfl,rfl,rfl⟩,trivial⟩ ⟨⟨_,rfl,rfl,rfl,rfl,rfl⟩,⟨_,rfl,rfl,rfl,rfl,rfl⟩,trivial⟩) ?_)
           exact ao (hK20 _ _ _ h rfl)
         · refine bh (hK17 _ _ (ab fun _ hK27=>aa (al (lH ai.bb ai.bE rfl rfl rfl) rfl ?_)))
           refine al (lH ai.bb ai.bE rfl rfl rfl) rfl ?_
           refine ze hr h fun x28 h29 h30 h31 h=>al (eE ai.bb ai.bE h29 h30 h31 rfl rfl rfl) rfl (al (gH rfl rfl) rfl (al (dM rfl rfl) rfl (al (cT rfl rfl) rfl ?_)))
           refine zs rfl (zQ hK27 (bK (jd 104 rfl rfl) ?_))
           exact ar (zX (.cons (aZ rfl rfl rfl) .nil) h rfl)
       · refine ab fun _ hK32=>aa (zm rfl (zk hp hr h [0] Tryz.call34 (aI n v8) rfl (fun _=>rfl) fun y33 h=>zk hp hr h [] Tryz.call72 (cd y33.1 ([124]:List UInt8)) rfl (fun _=>rfl) fun y34 h=>al (du rfl) rfl (zQ hK32 (zB rfl h (fun _ h=>?_) fun _ h=>?_))))
         · exact aa (zm rfl (zk hp hr h [0] Tryz.call35 (bu n (ag.mk y33.2.text y33.2.bg y33.2.at_ v8.base y33.2.skip y33.2.pending)) rfl (fun _=>rfl) fun y36 h=>ao (hK13 _ _ _ h rfl)))
         · exact an (hK13 _ _ _ h rfl)
     · refine ab fun _ hK37=>aa (zm rfl (al (du rfl) rfl (zm rfl (zb (!v2.2) (fun hb38=>?_) fun hb38=>?_))))
       · refine z1 hb38 h fun h=>zG hb38 rfl (aq rfl) (zK hb38 rfl hp hr h [0] Tryz.call34 (aI n v5.1) rfl (fun _=>rfl) fun y39 h=>zK hb38 rfl hp hr h [] Tryz.call72 (cd y39.1 ([124]:List UInt8)) rfl (fun _=>rfl) fun y40 h=>zG hb38 rfl (du rfl) (zy hb38 rfl (zQ hK37 (zB rfl h (fun _ h=>?_) fun _ h=>?_))))
         · refine ab fun _ hK42=>aa (zA rfl ?_)
           exact zs rfl (zQ hK42 (ar (zX (.cons (aZ rfl rfl rfl) .nil) h rfl)))
         · exact an (hK10 _ _ _ h rfl)
       · refine z2 hb38 h fun h=>zg hb38 rfl (zg hb38 rfl (zg hb38 rfl (zg hb38 rfl (zw hb38 rfl (zQ hK37 (cg rfl (fun hc=>?_) (fun hc=>?_)))))))
         · exact absurd (hc) (by simp)
         · exact an (hK10 _ _ _ h rfl)
   · refine aa (zm rfl (zm rfl (zm rfl (zb p0 (fun hb43=>?_) fun hb43=>?_))))
     · refine z1 hb43 h fun h=>zG hb43 rfl (aq rfl) (zG hb43 rfl (du rfl) (zy hb43 rfl (zk hp hr h [0] Tryz.call73 (hT.bH (!v2.2) v2.1) rfl (fun _=>rfl) fun y44 h=>aM 106 (hE _ rfl) ⟨rfl,rfl,rfl,rfl⟩ rfl ?_)))
       exact zs rfl (ao (hK7 _ _ _ h rfl))
     · refine z2 hb43 h fun h=>zg hb43 rfl (zg hb43 rfl (zw hb43 rfl (zk hp hr h [0] Tryz.call73 (hT.bH false v2.1) rfl (fun _=>rfl) fun y45 h=>aM 106 (hE _ rfl) ⟨rfl,rfl,rfl,rfl⟩ rfl ?_)))
       exact zs rfl (ao (hK7 _ _ _ h rfl))
 · refine aa (zm rfl (zn rfl (zf rfl (zl rfl (al (Aw rfl rfl) rfl (zm rfl (zb (Option.isNone (Option.map ai.C p1.pending)) (fun hb46=>?_) fun hb46=>?_)))))))
   · exact z1 hb46 h fun h=>zG hb46 rfl (aq rfl) (zK hb46 rfl hp hr h [0] Tryz.call34 (aI n p1) rfl (fun _=>rfl) fun y47 h=>zK hb46 rfl hp hr h [] Tryz.call72 (cd y47.1 ([42]:List UInt8)) rfl (fun _=>rfl) fun y48 h=>zy hb46 rfl (za rfl (ao (hK4 _ _ _ h rfl))))
   · exact z2 hb46 h fun h=>zg hb46 rfl (zg hb46 rfl (zg hb46 rfl (zw hb46 rfl (za rfl (ao (hK4 _ _ _ h rfl))))))
theorem pB (n:Nat) (T:aE) (hT:ba T) (p0:Bool) (p1:ag) (p2:ax):CT Tryz.prog 152 [.ptr 0 0,.ptr 1 0,Bo p0] [.box (ah p1),.box (cU p2)] (gU n T p0 p1 p2) (fun _=>.eT []) (fun x=>[.box (ah x.1),.box (cU x.2)]):=by
 refine zC Tryz.func152 rfl fun r hp h hr E hE=>ab fun _ hK1=>aa (zm rfl (zm rfl (zm rfl (zm rfl (zk hp hr h [0] Tryz.call34 (aI n p1) rfl (fun _=>rfl) fun y2 h=>al (jU rfl rfl) rfl ?_)))))
 refine zn rfl (zf rfl (zs rfl (zn rfl (zf rfl (zs rfl (zn rfl (zf rfl (zs rfl (zQ hK1 (ab fun _ hK3=>aa (zm rfl (zn rfl (zf rfl (zl rfl (zd hr h fun hg4 h=>zo hg4 rfl (zn rfl (zf rfl (zs rfl (zQ hK3 (zM h (fun (v5:ag×ax)=>[(0,.ptr 0 0),(1,.ptr 1 0),(2,Bo p0)]) (fun (v5:ag×ax)=>[(0,.box (ah v5.1)),(1,.box (cU v5.2))]) (fun v5 h=>?_) fun _ _ hK7 h=>?_))))))))))))))))))))
 · refine ab fun _ hK8=>aa (zm rfl (zk hp hr h [0] Tryz.call155 (cu n ([58]:List UInt8) v5.1) rfl (fun _=>rfl) fun y9 h=>zQ hK8 (aa (zm rfl (zm rfl (zm rfl (zk hp hr h [0] Tryz.call33 (hT.aG p0 y9) rfl (fun _=>rfl) fun y10 h=>bL [y10.1] ai.bb ⟨rfl,rfl⟩ rfl ?_)))))))
   exact zn rfl (zf rfl (zs rfl (ao (zY .nil h rfl))))
 · refine aB (ab fun _ hK11=>aa (zm rfl (zk hp hr h [0] Tryz.call76 (cG n ([63]:List UInt8) (ag.mk y2.2.text y2.2.bg (y2.2.at_+1) p1.base y2.2.skip y2.2.pending)) rfl (fun _=>rfl) fun y12 h=>za rfl (zQ hK11 (zB rfl h (fun _ h=>?_) fun _ h=>?_)))))
   · exact aa (zm rfl (zn rfl (zf rfl (zs rfl (ao (hK7 _ _ _ h rfl))))))
   · refine ab fun _ hK14=>aa (zm rfl (zk hp hr h [0] Tryz.call76 (cG n ([33]:List UInt8) y12.2) rfl (fun _=>rfl) fun y15 h=>za rfl (zQ hK14 (zB rfl h (fun _ h=>?_) fun _ h=>?_))))
     · exact aa (zm rfl (zn rfl (zf rfl (zs rfl (ao (hK7 _ _ _ h rfl))))))
     · exact an (hK7 _ _ _ h rfl)
theorem oT (n:Nat) (T:aE) (hT:ba T) (p0:aS) (p1:Int) (p2:ag):CT Tryz.prog 277 [.ptr 0 0,.agg (eA p0),I p1] [.box (ah p2)] (gz n T p0 p1 p2) (fun x=>.agg (aV x.1)) (fun x=>[.box (ah x.2)]):=by
 refine zC Tryz.func277 rfl fun r hp h hr E hE=>ab fun _ hK1=>aa (cM 104 (hE _ rfl) ⟨rfl,rfl,rfl,rfl,rfl,rfl,rfl⟩ rfl ?_)
 refine aM 106 (hE _ rfl) ⟨rfl,rfl,rfl,rfl⟩ rfl ?_
 refine zQ hK1 (ab fun _ hK2=>aa (zf rfl (zl rfl (zk hp hr h [] Tryz.call144 (qO n p0.Text) rfl (fun _=>rfl) fun y3 h=>zm rfl (zx rfl (zx rfl (aM 108 (hE _ rfl) ⟨rfl,rfl,rfl,rfl⟩ rfl ?_)))))))
 refine za rfl (zs rfl (zQ hK2 (ab fun _ hK4=>aa (zm rfl (al (cT rfl rfl) rfl ?_)))))
 refine aM 109 (hE _ rfl) ⟨rfl,rfl,rfl,rfl⟩ rfl ?_
 refine zs rfl (zQ hK4 (ab fun _ hK5=>ab fun _ hK6=>aa (zm rfl (al (bQ rfl) rfl (zm rfl (zQ hK6 (aB (bK (qD (j:=109) (off:=5) 26981 (sz:=9) (el:=38) (hE _ rfl) rfl rfl ⟨rfl,rfl,rfl⟩ rfl rfl) ?_))))))))
 refine zL hr h (fun (v7:ag×ai×Int)=>[(0,.ptr 0 0),(1,.agg (eA p0)),(2,I p1),(6,.ptr 106 0),(9,.ptr 109 0),(23,.pv (.sl (List.length y3.1) (aT.Cs y3.1))),(24,I (List.length y3.1:Int)),(25,I v7.2.2)]) (fun (v7:ag×ai×Int)=>[(0,.box (ah v7.1)),(106,.box [I 0,bd [],I 0,bd [],bd [],Sc (.slice none 0 0),Sc (.slice none 0 0),Sc (.slice none 0 0),I 0]),(109,.box [I v7.2.1.Kind,bd v7.2.1.Text,I v7.2.1.jD,bd v7.2.1.bk,bd v7.2.1.bt,.arr 26981 (List.length v7.2.1.bc),Sc (.slice none 0 0),Sc (.slice none 0 0),I v7.2.1.Pos]),(26981,.arr 38 9 (ai.Cs v7.2.1.bc))]) rfl fun _ v7 _ hK9 h=>ab fun _ hK10=>aa (zc rfl (zQ hK10 (ab fun _ hK11=>zB rfl h (fun _ h=>?_) fun _ h=>?_)))
 · refine an (hK11 _ _ (ab fun _ hK13=>aB (ab fun _ hK14=>aa (ze hr h fun wH h16 h17 h18 h=>al (eE aT.bb aT.bE h16 h17 h18 rfl rfl rfl) rfl (al (fi rfl rfl) rfl ?_)))))
   refine aM 111 (hE _ rfl) ⟨rfl,rfl,rfl,rfl⟩ rfl ?_
   refine zs rfl (zQ hK14 (ab fun _ hK19=>aa (zm rfl (zd hr h fun hg20 h=>zo hg20 rfl (zf rfl (zl rfl (zd hr h fun hg21 h=>zo hg21 rfl (za rfl (zQ hK19 (ab fun _ hK22=>ab fun _ hK23=>aa (zf rfl (zl rfl (al (du rfl) rfl (zQ hK23 (zB rfl h (fun _ h=>?_) fun _ h=>?_)))))))))))))))
   · refine ab fun _ hK25=>aa (zf rfl (zl rfl (zf rfl (zl rfl (zm rfl (al (bA rfl rfl rfl) rfl ?_))))))
     refine bL [(ai.mk 4 wH.Text 0 [] [] [] [] [] ((p1+1)+wH.Pos))] ai.bb ⟨rfl,rfl⟩ rfl ?_
     refine zd hr h fun hg26 h=>su 144 ⟨jC.h,dL.h,ai.bb,ai.bE,ai.iV,hE _ rfl,rfl,rfl,(.inl rfl),⟨rfl,rfl,rfl⟩,hg26⟩ rfl ?_
     refine zf rfl (zs rfl (aY (iU 144 26981 [(0,.ptr 0 0),(1,.agg (eA p0)),(2,I p1),(6,.ptr 106 0),(9,.ptr 109 0),(11,.ptr 111 0),(12,I ((p1+1)+wH.Pos)),(23,.pv (.sl (List.length y3.1) (aT.Cs y3.1))),(24,I (List.length y3.1:Int)),(25,I v7.2.2)] [(0,.box (ah v7.1)),(106,.box [I 0,bd [],I 0,bd [],bd [],Sc (.slice none 0 0),Sc (.slice none 0 0),Sc (.slice none 0 0),I 0]),(109,.box [I v7.2.1.Kind,bd v7.2.1.Text,I v7.2.1.jD,bd v7.2.1.bk,bd v7.2.1.bt,.arr 26981 (List.length (v7.2.1.bc++[(ai.mk 4 wH.Text 0 [] [] [] [] [] ((p1+1)+wH.Pos))])),Sc (.slice none 0 0),Sc (.slice none 0 0),I v7.2.1.Pos]),(111,.box [bd wH.Text,Bo wH.Code,I wH.Pos])] (hE _ rfl) rfl rfl ⟨rfl,rfl⟩ ⟨⟨_,rfl,rfl,rfl⟩,⟨_,rfl,rfl,rfl⟩,⟨_,rfl,rfl,rfl⟩,⟨_,rfl,rfl,rfl⟩,⟨_,rfl,rfl,rfl⟩,⟨_,rfl,rfl,rfl⟩,⟨_,rfl,rfl,rfl⟩,⟨_,rfl,rfl,rfl⟩,⟨_,rfl,rfl,rfl⟩,⟨_,rfl,rfl,rfl⟩,trivial⟩ ⟨⟨_,rfl,rfl,rfl,rfl,rfl⟩,⟨_,rfl,rfl,rfl,rfl,rfl⟩,⟨_,rfl,rfl,rfl,rfl,rfl⟩,⟨_,rfl,rfl,rfl,rfl,rfl⟩,trivial⟩) ?_))
     exact zQ hK25 (bh (hK13 _ _ (aa (zd hr h fun hg27 h=>zo hg27 rfl (zm rfl (ao (hK9 _ _ _ h rfl)))))))
   · refine an (hK22 _ _ (ab fun _ hK28=>aa (zf rfl (zl rfl (zm rfl (zk hp hr h [] Tryz.call298 (hT.ir wH.Text ((p1+1)+wH.Pos)) rfl (fun _=>rfl) fun y29 h=>zm rfl (zx rfl (zx rfl (aM 113 (hE _ rfl) ⟨rfl,rfl,rfl,rfl⟩ rfl ?_)))))))))
     refine zs rfl (za rfl (zQ hK28 (ab fun _ hK30=>ab fun _ hK31=>aa (zm rfl (al (du rfl) rfl (zQ hK31 (zB rfl h (fun _ h=>?_) fun _ h=>?_)))))))
     · refine aa (zm rfl (zm rfl (zk hp hr h [0] Tryz.call77 (ic p1 v7.1) rfl (fun _=>rfl) fun y33 h=>zQ hK30 (aa (zf rfl (zl rfl (zA rfl ?_)))))))
       refine bL [y29.1] ai.bb ⟨rfl,rfl⟩ rfl ?_
       refine zd hr h fun hg34 h=>su 162 ⟨jC.h,dL.h,ai.bb,ai.bE,ai.iV,hE _ rfl,rfl,rfl,(.inl rfl),⟨rfl,rfl,rfl⟩,hg34⟩ rfl ?_
       refine zf rfl (zs rfl (aY (iU 162 26981 [(0,.ptr 0 0),(1,.agg (eA p0)),(2,I p1),(6,.ptr 106 0),(9,.ptr 109 0),(23,.pv (.sl (List.length y3.1) (aT.Cs y3.1))),(24,I (List.length y3.1:Int)),(25,I v7.2.2)] [(0,.box (ah y33)),(106,.box [I 0,bd [],I 0,bd [],bd [],Sc (.slice none 0 0),Sc (.slice none 0 0),Sc (.slice none 0 0),I 0]),(109,.box [I v7.2.1.Kind,bd v7.2.1.Text,I v7.2.1.jD,bd v7.2.1.bk,bd v7.2.1.bt,.arr 26981 (List.length (v7.2.1.bc++[y29.1])),Sc (.slice none 0 0),Sc (.slice none 0 0),I v7.2.1.Pos])] (hE _ rfl) rfl rfl ⟨rfl,rfl⟩ ⟨⟨_,rfl,rfl,rfl⟩,⟨_,rfl,rfl,rfl⟩,⟨_,rfl,rfl,rfl⟩,⟨_,rfl,rfl,rfl⟩,⟨_,rfl,rfl,rfl⟩,⟨_,rfl,rfl,rfl⟩,⟨_,rfl,rfl,rfl⟩,⟨_,rfl,rfl,rfl⟩,trivial⟩ ⟨⟨_,rfl,rfl,rfl,rfl,rfl⟩,⟨_,rfl,rfl,rfl,rfl,rfl⟩,⟨_,rfl,rfl,rfl,rfl,rfl⟩,trivial⟩) ?_))
       exact zQ hK13 (aa (zd hr h fun hg35 h=>zo hg35 rfl (zm rfl (ao (hK9 _ _ _ h rfl)))))
     · refine an (hK30 _ _ (aa (zf rfl (zl rfl (zA rfl ?_)))))
       refine bL [y29.1] ai.bb ⟨rfl,rfl⟩ rfl ?_
       refine zd hr h fun hg36 h=>su 162 ⟨jC.h,dL.h,ai.bb,ai.bE,ai.iV,hE _ rfl,rfl,rfl,(.inl rfl),⟨rfl,rfl,rfl⟩,hg36⟩ rfl ?_
       refine zf rfl (zs rfl (aY (iU 162 26981 [(0,.ptr 0 0),(1,.agg (eA p0)),(2,I p1),(6,.ptr 106 0),(9,.ptr 109 0),(23,.pv (.sl (List.length y3.1) (aT.Cs y3.1))),(24,I (List.length y3.1:Int)),(25,I v7.2.2)] [(0,.box (ah v7.1)),(106,.box [I 0,bd [],I 0,bd [],bd [],Sc (.slice none 0 0),Sc (.slice none 0 0),Sc (.slice none 0 0),I 0]),(109,.box [I v7.2.1.Kind,bd v7.2.1.Text,I v7.2.1.jD,bd v7.2.1.bk,bd v7.2.1.bt,.arr 26981 (List.length (v7.2.1.bc++[y29.1])),Sc (.slice none 0 0),Sc (.slice none 0 0),I v7.2.1.Pos])] (hE _ rfl) rfl rfl ⟨rfl,rfl⟩ ⟨⟨_,rfl,rfl,rfl⟩,⟨_,rfl,rfl,rfl⟩,⟨_,rfl,rfl,rfl⟩,⟨_,rfl,rfl,rfl⟩,⟨_,rfl,rfl,rfl⟩,⟨_,rfl,rfl,rfl⟩,⟨_,rfl,rfl,rfl⟩,⟨_,rfl,rfl,rfl⟩,trivial⟩ ⟨⟨_,rfl,rfl,rfl,rfl,rfl⟩,⟨_,rfl,rfl,rfl,rfl,rfl⟩,⟨_,rfl,rfl,rfl,rfl,rfl⟩,trivial⟩) ?_))
       exact zQ hK13 (aa (zd hr h fun hg37 h=>zo hg37 rfl (zm rfl (ao (hK9 _ _ _ h rfl)))))
 · refine bh (hK5 _ _ (ab fun _ hK38=>aa (aY (pd (j:=109) (off:=5) ai.bb ai.bE rfl rfl rfl rfl (hE _ rfl) rfl) ?_)))
   refine zA rfl ?_
   refine zs rfl (zQ hK38 (bK (jd 106 rfl rfl) ?_))
   exact ar (zX (.cons (aZ rfl rfl rfl) .nil) h rfl)
theorem p9 (n:Nat) (T:aE) (hT:ba T) (p0:ag):CT Tryz.prog 300 [.ptr 0 0] [.box (ah p0)] (iy n T p0) (fun x=>.agg (aV x.1)) (fun x=>[.box (ah x.2)]):=by
 refine zC Tryz.func300 rfl fun r hp h hr E hE=>ab fun _ hK1=>aa (aM 102 (hE _ rfl) ⟨rfl,rfl,rfl,rfl⟩ rfl ?_)
 refine zQ hK1 (ab fun _ hK2=>aa (zm rfl (zk hp hr h [0] Tryz.call75 (bT n p0) rfl (fun _=>rfl) fun y3 h=>za rfl (zQ hK2 (ab fun _ hK4=>ab fun _ hK5=>aa (zm rfl (zk hp hr h [0] Tryz.call34 (aI n y3.2) rfl (fun _=>rfl) fun y6 h=>zk hp hr h [] Tryz.call56 (fF y6.1 ([102,111,114]:List UInt8)) rfl (fun _=>rfl) fun y7 h=>al (du rfl) rfl (zQ hK5 (zB rfl h (fun _ h=>?_) fun _ h=>?_)))))))))
 · exact ab fun _ hK9=>aa (zm rfl (zk hp hr h [0] Tryz.call33 (hT.aG false (ag.mk y6.2.text y6.2.bg y6.2.at_ y3.2.base y6.2.skip y6.2.pending)) rfl (fun _=>rfl) fun y10 h=>zs rfl (zQ hK9 (ar (zX (.cons (aZ rfl rfl rfl) .nil) h rfl)))))
 · refine an (hK4 _ _ (ab fun _ hK11=>aa (zm rfl (zk hp hr h [0] Tryz.call158 (fU n ([102,111,114]:List UInt8) (ag.mk y6.2.text y6.2.bg y6.2.at_ y3.2.base y6.2.skip y6.2.pending)) rfl (fun _=>rfl) fun y12 h=>zQ hK11 (ab fun _ hK13=>aa (zm rfl (zk hp hr h [0] Tryz.call157 (ls n y12) rfl (fun _=>rfl) fun y14 h=>zm rfl (al (cT rfl rfl) rfl ?_))))))))
   refine aM 104 (hE _ rfl) ⟨rfl,rfl,rfl,rfl⟩ rfl ?_
   refine zs rfl (zQ hK13 (ab fun _ hK15=>aa (zm rfl (zk hp hr h [0] Tryz.call158 (fU n ([105,110]:List UInt8) y14.2) rfl (fun _=>rfl) fun y16 h=>zQ hK15 (ab fun _ hK17=>bK (qD (j:=104) (off:=5) 26661 (sz:=9) (el:=38) (hE _ rfl) rfl rfl ⟨rfl,rfl,rfl⟩ rfl rfl) ?_)))))
   refine lT [] ?_
   refine bo [0,1,2,3,4,5,6,7] rfl (by kernel_rfl) (zD rfl (bn rfl) rfl (zD rfl (ei [.any,.any,.any,.any,.any,.arr 26661 (List.length ([]:List ai)),.any,.any,.any] rfl rfl ⟨.inr rfl,.inr rfl,.inr rfl,.inr rfl,.inr rfl,.inl rfl,.inr rfl,.inr rfl,.inr rfl,trivial⟩ rfl) rfl (zD rfl (aq rfl) rfl (cS rfl (bF rfl) hr h [0] Tryz.call33 (hT.aG false y16) ⟨rfl,rfl,rfl,rfl,rfl,rfl,trivial⟩ rfl rfl (fun _=>⟨rfl,rfl,rfl⟩) (fun _=>⟨rfl,rfl⟩) hp (fun y18 h=>⟨ch ⟨trivial,⟨⟨⟨_,rfl,be.ed ⟨.inr rfl,.inr rfl,.inr rfl,.inr rfl,.inr rfl,.inl rfl,.inr rfl,.inr rfl,.inr rfl,trivial⟩⟩,trivial⟩,⟨trivial,trivial⟩⟩⟩,?_⟩)))))
   refine gI [y18.1] ai.bb rfl (bF rfl) ⟨rfl,rfl⟩ ⟨rfl,rfl⟩ ?_
   refine zd hr h fun hg19 h=>mM 126 rfl (bF rfl) ⟨jC.h,dL.h,ai.bb,ai.bE,ai.iV,hE _ rfl,rfl,rfl,(.inl rfl),⟨rfl,rfl,rfl⟩,hg19⟩ rfl rfl ⟨aJ rfl,?_⟩
   refine zD rfl (bn rfl) rfl (bR rfl ⟨rfl,rfl,rfl,rfl,rfl,rfl,rfl,rfl⟩ rfl (fun e7 he=>⟨aJ rfl,?_⟩))
   subst he
   refine fb (iU 126 26661 [(0,.ptr 0 0),(2,.ptr 102 0),(4,.ptr 104 0)] [(0,.box (ah y18.2)),(102,.box [I 0,bd [],I 0,bd [],bd [],Sc (.slice none 0 0),Sc (.slice none 0 0),Sc (.slice none 0 0),I 0]),(104,.box [I 15,bd [],I 0,bd y14.1.x0,bd y14.1.x1,.arr 26661 (List.length ([]++[y18.1])),Sc (.slice none 0 0),Sc (.slice none 0 0),I y3.1])] (hE _ rfl) rfl rfl ⟨rfl,rfl⟩ ⟨⟨_,rfl,rfl,rfl⟩,⟨_,rfl,rfl,rfl⟩,⟨_,rfl,rfl,rfl⟩,trivial⟩ ⟨⟨_,rfl,rfl,rfl,rfl,rfl⟩,⟨_,rfl,rfl,rfl,rfl,rfl⟩,⟨_,rfl,rfl,rfl,rfl,rfl⟩,trivial⟩) ?_
   refine hK17 _ _ (zM h (fun (v20:ag×ai)=>[(0,.ptr 0 0),(2,.ptr 102 0),(4,.ptr 104 0)]) (fun (v20:ag×ai)=>[(0,.box (ah v20.1)),(102,.box [I 0,bd [],I 0,bd [],bd [],Sc (.slice none 0 0),Sc (.slice none 0 0),Sc (.slice none 0 0),I 0]),(104,.box [I v20.2.Kind,bd v20.2.Text,I v20.2.jD,bd v20.2.bk,bd v20.2.bt,.arr 26661 (List.length v20.2.bc),Sc (.slice none 0 0),Sc (.slice none 0 0),I v20.2.Pos]),(26661,.arr 38 9 (ai.Cs v20.2.bc))]) (fun v20 h=>?_) fun _ _ hK22 h=>?_)
   · refine ab fun _ hK23=>aa (zm rfl (zk hp hr h [0] Tryz.call155 (cu n ([58]:List UInt8) v20.1) rfl (fun _=>rfl) fun y24 h=>zQ hK23 (ab fun _ hK25=>lT [] ?_)))
     refine bo [0,1,2,3,4,5,6,7] rfl (by kernel_rfl) (zD rfl (bn rfl) rfl (zD rfl (ei [.any,.any,.any,.any,.any,.arr 26661 (List.length v20.2.bc),.any,.any,.any] rfl rfl ⟨.inr rfl,.inr rfl,.inr rfl,.inr rfl,.inr rfl,.inl rfl,.inr rfl,.inr rfl,.inr rfl,trivial⟩ rfl) rfl (zD rfl (aq rfl) rfl (cS rfl (bF rfl) hr h [0] Tryz.call33 (hT.aG false y24) ⟨rfl,rfl,rfl,rfl,rfl,rfl,trivial⟩ rfl rfl (fun _=>⟨rfl,rfl,rfl⟩) (fun _=>⟨rfl,rfl⟩) hp (fun y26 h=>⟨ch ⟨trivial,⟨⟨⟨_,rfl,be.ed ⟨.inr rfl,.inr rfl,.inr rfl,.inr rfl,.inr rfl,.inl rfl,.inr rfl,.inr rfl,.inr rfl,trivial⟩⟩,trivial⟩,⟨trivial,trivial⟩⟩⟩,?_⟩)))))
     refine gI [y26.1] ai.bb rfl (bF rfl) ⟨rfl,rfl⟩ ⟨rfl,rfl⟩ ?_
     refine zd hr h fun hg27 h=>mM 147 rfl (bF rfl) ⟨jC.h,dL.h,ai.bb,ai.bE,ai.iV,hE _ rfl,rfl,rfl,(.inl rfl),⟨rfl,rfl,rfl⟩,hg27⟩ rfl rfl ⟨aJ rfl,?_⟩
     refine zD rfl (bn rfl) rfl (bR rfl ⟨rfl,rfl,rfl,rfl,rfl,rfl,rfl,rfl⟩ rfl (fun e7 he=>⟨aJ rfl,?_⟩))
     subst he
     refine fb (iU 147 26661 [(0,.ptr 0 0),(2,.ptr 102 0),(4,.ptr 104 0)] [(0,.box (ah y26.2)),(102,.box [I 0,bd [],I 0,bd [],bd [],Sc (.slice none 0 0),Sc (.slice none 0 0),Sc (.slice none 0 0),I 0]),(104,.box [I v20.2.Kind,bd v20.2.Text,I v20.2.jD,bd v20.2.bk,bd v20.2.bt,.arr 26661 (List.length (v20.2.bc++[y26.1])),Sc (.slice none 0 0),Sc (.slice none 0 0),I v20.2.Pos])] (hE _ rfl) rfl rfl ⟨rfl,rfl⟩ ⟨⟨_,rfl,rfl,rfl⟩,⟨_,rfl,rfl,rfl⟩,⟨_,rfl,rfl,rfl⟩,trivial⟩ ⟨⟨_,rfl,rfl,rfl,rfl,rfl⟩,⟨_,rfl,rfl,rfl,rfl,rfl⟩,⟨_,rfl,rfl,rfl,rfl,rfl⟩,trivial⟩) ?_
     refine hK25 _ _ (ab fun _ hK28=>aa (aY (pd (j:=104) (off:=5) ai.bb ai.bE rfl rfl rfl rfl (hE _ rfl) rfl) ?_))
     refine zA rfl ?_
     refine zs rfl (zQ hK28 (bK (jd 102 rfl rfl) ?_))
     exact ar (zX (.cons (aZ rfl rfl rfl) .nil) h rfl)
   · refine ab fun _ hK29=>aa (zm rfl (zk hp hr h [0] Tryz.call34 (aI n y18.2) rfl (fun _=>rfl) fun y30 h=>zk hp hr h [] Tryz.call56 (fF y30.1 ([105,102]:List UInt8)) rfl (fun _=>rfl) fun y31 h=>zQ hK29 (zB rfl h (fun _ h=>?_) fun _ h=>?_)))
     · refine ab fun _ hK33=>aa (zm rfl (zk hp hr h [0] Tryz.call158 (fU n ([105,102]:List UInt8) (ag.mk y30.2.text y30.2.bg y30.2.at_ y18.2.base y30.2.skip y30.2.pending)) rfl (fun _=>rfl) fun y34 h=>zQ hK33 (lT [] ?_)))
       refine bo [0,1,2,3,4,5,6,7] rfl (by kernel_rfl) (zD rfl (bn rfl) rfl (zD rfl (ei [.any,.any,.any,.any,.any,.arr 26661 (List.length ([]++[y18.1])),.any,.any,.any] rfl rfl ⟨.inr rfl,.inr rfl,.inr rfl,.inr rfl,.inr rfl,.inl rfl,.inr rfl,.inr rfl,.inr rfl,trivial⟩ rfl) rfl (zD rfl (aq rfl) rfl (cS rfl (bF rfl) hr h [0] Tryz.call33 (hT.aG false y34) ⟨rfl,rfl,rfl,rfl,rfl,rfl,trivial⟩ rfl rfl (fun _=>⟨rfl,rfl,rfl⟩) (fun _=>⟨rfl,rfl⟩) hp (fun y35 h=>⟨ch ⟨trivial,⟨⟨⟨_,rfl,be.ed ⟨.inr rfl,.inr rfl,.inr rfl,.inr rfl,.inr rfl,.inl rfl,.inr rfl,.inr rfl,.inr rfl,trivial⟩⟩,trivial⟩,⟨trivial,trivial⟩⟩⟩,?_⟩)))))
       refine gI [y35.1] ai.bb rfl (bF rfl) ⟨rfl,rfl⟩ ⟨rfl,rfl⟩ ?_
       refine zd hr h fun hg36 h=>mM 138 rfl (bF rfl) ⟨jC.h,dL.h,ai.bb,ai.bE,ai.iV,hE _ rfl,rfl,rfl,(.inl rfl),⟨rfl,rfl,rfl⟩,hg36⟩ rfl rfl ⟨aJ rfl,?_⟩
       refine zD rfl (bn rfl) rfl (bR rfl ⟨rfl,rfl,rfl,rfl,rfl,rfl,rfl,rfl⟩ rfl (fun e7 he=>⟨aJ rfl,?_⟩))
       subst he
       refine fb (iU 138 26661 [(0,.ptr 0 0),(2,.ptr 102 0),(4,.ptr 104 0)] [(0,.box (ah y35.2)),(102,.box [I 0,bd [],I 0,bd [],bd [],Sc (.slice none 0 0),Sc (.slice none 0 0),Sc (.slice none 0 0),I 0]),(104,.box [I 15,bd [],I 0,bd y14.1.x0,bd y14.1.x1,.arr 26661 (List.length (([]++[y18.1])++[y35.1])),Sc (.slice none 0 0),Sc (.slice none 0 0),I y3.1])] (hE _ rfl) rfl rfl ⟨rfl,rfl⟩ ⟨⟨_,rfl,rfl,rfl⟩,⟨_,rfl,rfl,rfl⟩,⟨_,rfl,rfl,rfl⟩,trivial⟩ ⟨⟨_,rfl,rfl,rfl,rfl,rfl⟩,⟨_,rfl,rfl,rfl,rfl,rfl⟩,⟨_,rfl,rfl,rfl,rfl,rfl⟩,trivial⟩) ?_
       exact hK22 _ _ _ h rfl
     · exact an (hK22 _ _ _ h rfl)
theorem qb (n:Nat) (T:aE) (hT:ba T) (p0:ag):CT Tryz.prog 279 [.ptr 0 0] [.box (ah p0)] (iz n T p0) (fun x=>.agg (aV x.1)) (fun x=>[.box (ah x.2)]):=by
 refine zC Tryz.func279 rfl fun r hp h hr E hE=>ab fun _ hK1=>aa (cM 101 (hE _ rfl) ⟨rfl,rfl,rfl,rfl,rfl,rfl,rfl⟩ rfl ?_)
 refine aM 102 (hE _ rfl) ⟨rfl,rfl,rfl,rfl⟩ rfl ?_
 refine zQ hK1 (ab fun _ hK2=>aa (zl rfl (zk hp hr h [0] Tryz.call75 (bT n p0) rfl (fun _=>rfl) fun y3 h=>al (cT rfl rfl) rfl ?_)))
 refine aM 103 (hE _ rfl) ⟨rfl,rfl,rfl,rfl⟩ rfl ?_
 refine zs rfl (zQ hK2 (ab fun _ hK4=>aa (zl rfl (zk hp hr h [0] Tryz.call155 (cu n ([91]:List UInt8) y3.2) rfl (fun _=>rfl) fun y5 h=>zQ hK4 (ab fun _ hK6=>aa (zl rfl (al (oG rfl rfl) rfl ?_)))))))
 refine aY (qD (j:=103) (off:=5) 26597 (sz:=9) (el:=38) (hE _ rfl) rfl rfl ⟨rfl,rfl,rfl⟩ rfl rfl) ?_
 refine aY (jd 103 rfl rfl) ?_
 refine iT hr h [0,101,103,26597] Tryz.call200 (hT.dG true y5 (ai.mk 14 [] 0 [] [] [] [] [] y3.1)) ⟨rfl,rfl,rfl,rfl,rfl,rfl,⟨hE _ rfl,trivial⟩⟩ rfl (fun _=>⟨rfl,rfl,rfl⟩) (fun _=>⟨rfl,rfl⟩) hp (fun y7 h=>?_)
 refine zQ hK6 (ab fun _ hK8=>aa (zl rfl (zn rfl (zf rfl (zl rfl (zd hr h fun hg9 h=>zo hg9 rfl (zn rfl (zf rfl (zs rfl (zQ hK8 (ab fun _ hK10=>aa (aY (pd (j:=103) (off:=5) ai.bb ai.bE rfl rfl rfl rfl (hE _ rfl) rfl) ?_))))))))))))
 refine zA rfl ?_
 exact zs rfl (zQ hK10 (ar (zX (.cons (aZ rfl rfl rfl) .nil) h rfl)))
theorem oU (n:Nat) (T:aE) (hT:ba T) (p0:ai) (p1:ag):CT Tryz.prog 299 [.ptr 0 0,.ptr 1 0] [.box [.ptr 2 0],.box [I p0.Kind,bd p0.Text,I p0.jD,bd p0.bk,bd p0.bt,.arr 3 (List.length p0.bc),.pv (.sl (List.length p0.Decls) (ax.Cs p0.Decls)),.pv (.sl (List.length p0.b3) (bS p0.b3)),I p0.Pos],.box (ah p1),.arr 38 9 (ai.Cs p0.bc)] (gA n T p0 p1) (fun _=>.eT []) (fun x=>[.box [.ptr 2 0],.box [I x.1.Kind,bd x.1.Text,I x.1.jD,bd x.1.bk,bd x.1.bt,.arr 3 (List.length x.1.bc),.pv (.sl (List.length x.1.Decls) (ax.Cs x.1.Decls)),.pv (.sl (List.length x.1.b3) (bS x.1.b3)),I x.1.Pos],.box (ah x.2),.arr 38 9 (ai.Cs x.1.bc)]):=by
 refine zC Tryz.func299 rfl fun r hp h hr E hE=>ab fun _ hK1=>ab fun _ hK2=>aa (za rfl (zQ hK2 (aB (zL hr h (fun (v3:ai×ag×Bool)=>[(0,.ptr 0 0),(1,.ptr 1 0),(2,Bo v3.2.2)]) (fun (v3:ai×ag×Bool)=>[(0,.box [.ptr 2 0]),(1,.box [I v3.1.Kind,bd v3.1.Text,I v3.1.jD,bd v3.1.bk,bd v3.1.bt,.arr 3 (List.length v3.1.bc),.pv (.sl (List.length v3.1.Decls) (ax.Cs v3.1.Decls)),.pv (.sl (List.length v3.1.b3) (bS v3.1.b3)),I v3.1.Pos]),(2,.box (ah v3.2.1)),(3,.arr 38 9 (ai.Cs v3.1.bc))]) rfl fun _ v3 _ hK5 h=>ab fun _ hK6=>ab fun _ hK7=>aa (zl rfl (zk hp hr h [2] Tryz.call34 (aI n v3.2.1) rfl (fun _=>rfl) fun y8 h=>zk hp hr h [] Tryz.call72 (cd y8.1 ([93]:List UInt8)) rfl (fun _=>rfl) fun y9 h=>al (du rfl) rfl (zQ hK7 (zB rfl h (fun _ h=>?_) fun _ h=>?_))))))))
 · refine an (hK6 _ _ (ab fun _ hK11=>aB (zM h (fun (v12:ag)=>[(0,.ptr 0 0),(1,.ptr 1 0)]) (fun (v12:ag)=>[(0,.box [.ptr 2 0]),(1,.box [I v3.1.Kind,bd v3.1.Text,I v3.1.jD,bd v3.1.bk,bd v3.1.bt,.arr 3 (List.length v3.1.bc),.pv (.sl (List.length v3.1.Decls) (ax.Cs v3.1.Decls)),.pv (.sl (List.length v3.1.b3) (bS v3.1.b3)),I v3.1.Pos]),(2,.box (ah v12)),(3,.arr 38 9 (ai.Cs v3.1.bc))]) (fun v12 h=>?_) fun _ _ hK14 h=>?_)))
   · refine ab fun _ hK15=>aa (zl rfl (zk hp hr h [2] Tryz.call75 (bT n v12) rfl (fun _=>rfl) fun y16 h=>za rfl (zQ hK15 (ab fun _ hK17=>ab fun _ hK18=>aa (zl rfl (zk hp hr h [2] Tryz.call76 (cG n ([46,46,46]:List UInt8) y16.2) rfl (fun _=>rfl) fun y19 h=>zQ hK18 (zB rfl h (fun _ h=>?_) fun _ h=>?_)))))))
     · refine ab fun _ hK21=>aa (zf rfl (zs rfl (zQ hK21 (ab fun _ hK22=>aa (zm rfl (al (cT rfl rfl) rfl ?_))))))
       refine aM 104 (hE _ rfl) ⟨rfl,rfl,rfl,rfl⟩ rfl ?_
       refine zs rfl (zQ hK22 (zM h (fun (v23:ag×ai)=>[(0,.ptr 0 0),(1,.ptr 1 0),(4,.ptr 104 0)]) (fun (v23:ag×ai)=>[(0,.box [.ptr 2 0]),(1,.box [I v3.1.Kind,bd v3.1.Text,I 1,bd v3.1.bk,bd v3.1.bt,.arr 3 (List.length v3.1.bc),.pv (.sl (List.length v3.1.Decls) (ax.Cs v3.1.Decls)),.pv (.sl (List.length v3.1.b3) (bS v3.1.b3)),I v3.1.Pos]),(2,.box (ah v23.1)),(104,.box (aV v23.2)),(3,.arr 38 9 (ai.Cs v3.1.bc))]) (fun v23 h=>?_) fun _ _ hK25 h=>?_))
       · refine ab fun _ hK26=>lT [] ?_
         refine oD [0,1,2,3,4,5,6,8] 7 9 rfl (by kernel_rfl) ?_
         refine zD rfl (bn rfl) rfl (zD rfl (aX rfl rfl rfl) rfl (zD rfl (hY rfl rfl rfl rfl) rfl ?_))
         refine zD rfl (lQ rfl) rfl (sZ [(ai.mk 0 ([]:List UInt8) 0 ([]:List UInt8) ([]:List UInt8) [] [] [] 0)] ai.bb rfl (bF rfl) ⟨rfl,rfl,rfl⟩ ⟨rfl,rfl⟩ ?_)
         refine zd hr h fun hg27 h=>mM 131 rfl (bF rfl) ⟨jC.h,dL.h,ai.bb,ai.bE,ai.iV,hE _ rfl,rfl,rfl,(.inl rfl),⟨rfl,rfl,rfl⟩,hg27⟩ rfl rfl ⟨aJ rfl,?_⟩
         refine zD rfl (lP rfl rfl (Int.natCast_nonneg _) (rl _ _)) rfl (zD rfl (bn rfl) rfl (rm ?_ ?_))
         · refine mj v3.1.bc rfl (⟨ai.bb,ai.bE,Int.natCast_nonneg _,jz _ _,rfl,rfl,rfl,rfl,rfl,lp.h,rfl,rfl,rfl⟩:uY _ _ _ _ _ _ _ _ _ 0 _ _ _ _ _ _ v23.2 _ (ai.C v23.2)) rfl ⟨aJ rfl,?_⟩
           refine bR rfl ⟨rfl,rfl,rfl,rfl,rfl,rfl,rfl,rfl⟩ rfl (fun e9 he=>⟨aJ rfl,?_⟩)
           subst he
           refine fb (dU.trans (ml 1 5 (m':=List.length (v3.1.bc++[v23.2])) rfl rfl (by simp) rfl) (iU 131 3 [(0,.ptr 0 0),(1,.ptr 1 0)] [(0,.box [.ptr 2 0]),(1,.box [I v3.1.Kind,bd v3.1.Text,I 1,bd v3.1.bk,bd v3.1.bt,.arr 3 (List.length (v3.1.bc++[v23.2])),.pv (.sl (List.length v3.1.Decls) (ax.Cs v3.1.Decls)),.pv (.sl (List.length v3.1.b3) (bS v3.1.b3)),I v3.1.Pos]),(2,.box (ah v23.1))] (hE _ rfl) rfl rfl ⟨rfl,rfl⟩ ⟨⟨_,rfl,rfl,rfl⟩,⟨_,rfl,rfl,rfl⟩,trivial⟩ ⟨⟨_,rfl,rfl,rfl,rfl,rfl⟩,⟨_,rfl,rfl,rfl,rfl,rfl⟩,⟨_,rfl,rfl,rfl,rfl,rfl⟩,trivial⟩)) ?_
           exact hK26 _ _ (bh (hK1 _ _ (aa (zl rfl (zk hp hr h [2] Tryz.call202 (cL n ([93]:List UInt8) v23.1) rfl (fun _=>rfl) fun y28 h=>ao (zY .nil h rfl))))))
         · refine bR rfl ⟨rfl,rfl,rfl,rfl,rfl,rfl,rfl,rfl⟩ rfl (fun e8 he=>⟨aJ rfl,?_⟩)
           subst he
           refine mj v3.1.bc rfl (⟨ai.bb,ai.bE,Int.natCast_nonneg _,jz _ _,rfl,rfl,rfl,rfl,rfl,lp.h,rfl,rfl,rfl⟩:uY _ _ _ _ _ _ _ _ _ 0 _ _ _ _ _ _ v23.2 _ (ai.C v23.2)) rfl ⟨aJ rfl,?_⟩
           refine fb (dU.trans (ml 1 5 (m':=List.length (v3.1.bc++[v23.2])) rfl rfl (by simp) rfl) (iU 131 3 [(0,.ptr 0 0),(1,.ptr 1 0)] [(0,.box [.ptr 2 0]),(1,.box [I v3.1.Kind,bd v3.1.Text,I 1,bd v3.1.bk,bd v3.1.bt,.arr 3 (List.length (v3.1.bc++[v23.2])),.pv (.sl (List.length v3.1.Decls) (ax.Cs v3.1.Decls)),.pv (.sl (List.length v3.1.b3) (bS v3.1.b3)),I v3.1.Pos]),(2,.box (ah v23.1))] (hE _ rfl) rfl rfl ⟨rfl,rfl⟩ ⟨⟨_,rfl,rfl,rfl⟩,⟨_,rfl,rfl,rfl⟩,trivial⟩ ⟨⟨_,rfl,rfl,rfl,rfl,rfl⟩,⟨_,rfl,rfl,rfl,rfl,rfl⟩,⟨_,rfl,rfl,rfl,rfl,rfl⟩,trivial⟩)) ?_
           exact hK26 _ _ (bh (hK1 _ _ (aa (zl rfl (zk hp hr h [2] Tryz.call202 (cL n ([93]:List UInt8) v23.1) rfl (fun _=>rfl) fun y29 h=>ao (zY .nil h rfl))))))
       · refine ab fun _ hK30=>aa (zl rfl (zk hp hr h [2] Tryz.call34 (aI n y19.2) rfl (fun _=>rfl) fun y31 h=>zk hp hr h [] Tryz.call72 (cd y31.1 ([93]:List UInt8)) rfl (fun _=>rfl) fun y32 h=>al (du rfl) rfl (zQ hK30 (zB rfl h (fun _ h=>?_) fun _ h=>?_))))
         · exact aa (zl rfl (zk hp hr h [2] Tryz.call33 (hT.aG false (ag.mk y31.2.text y31.2.bg y31.2.at_ y19.2.base y31.2.skip y31.2.pending)) rfl (fun _=>rfl) fun y34 h=>zs rfl (ao (hK25 _ _ _ h rfl))))
         · refine bK (fB 104 5 rfl rfl rfl) ?_
           refine bK (fB 104 6 rfl rfl rfl) ?_
           refine bK (fB 104 7 rfl rfl rfl) ?_
           exact an (hK25 _ _ _ h rfl)
     · refine an (hK17 _ _ (lT [] ?_))
       refine oD [0,1,2,4,5,3,6,7,9] 8 10 rfl (by kernel_rfl) ?_
       refine zD rfl (bn rfl) rfl (zD rfl (ei [.any,.any,.any,.any,.any,.arr 3 (List.length v3.1.bc),.any,.any,.any] rfl rfl ⟨.inr rfl,.inr rfl,.inr rfl,.inr rfl,.inr rfl,.inl rfl,.inr rfl,.inr rfl,.inr rfl,trivial⟩ rfl) rfl (zD rfl (aX rfl rfl rfl) rfl (zD rfl (lQ rfl) rfl (sZ [(ai.mk 0 ([]:List UInt8) 0 ([]:List UInt8) ([]:List UInt8) [] [] [] 0)] ai.bb rfl (bF rfl) ⟨rfl,rfl,rfl⟩ ⟨rfl,rfl⟩ ?_))))
       refine cS rfl (bF rfl) hr h [2] Tryz.call300 (hT.dQ y19.2) ⟨rfl,rfl,rfl,rfl,rfl,rfl,trivial⟩ rfl rfl (fun _=>⟨rfl,rfl,rfl⟩) (fun _=>⟨rfl,rfl⟩) hp (fun y35 h=>⟨ch ⟨trivial,⟨trivial,⟨trivial,⟨⟨⟨_,rfl,be.ed ⟨.inr rfl,.inr rfl,.inr rfl,.inr rfl,.inr rfl,.inl rfl,.inr rfl,.inr rfl,.inr rfl,trivial⟩⟩,trivial⟩,⟨trivial,trivial⟩⟩⟩⟩⟩,?_⟩)
       refine zd hr h fun hg36 h=>mM 140 rfl (bF rfl) ⟨jC.h,dL.h,ai.bb,ai.bE,ai.iV,hE _ rfl,rfl,rfl,(.inl rfl),⟨rfl,rfl,rfl⟩,hg36⟩ rfl rfl ⟨aJ rfl,?_⟩
       refine zD rfl (lP rfl rfl (Int.natCast_nonneg _) (rl _ _)) rfl (zD rfl (bn rfl) rfl (rm ?_ ?_))
       · refine mj v3.1.bc rfl (⟨ai.bb,ai.bE,Int.natCast_nonneg _,jz _ _,rfl,rfl,rfl,rfl,rfl,lp.h,rfl,rfl,rfl⟩:uY _ _ _ _ _ _ _ _ _ 0 _ _ _ _ _ _ y35.1 _ (ai.C y35.1)) rfl ⟨aJ rfl,?_⟩
         refine bR rfl ⟨rfl,rfl,rfl,rfl,rfl,rfl,rfl,rfl⟩ rfl (fun e10 he=>⟨aJ rfl,?_⟩)
         subst he
         refine fb (dU.trans (ml 1 5 (m':=List.length (v3.1.bc++[y35.1])) rfl rfl (by simp) rfl) (iU 140 3 [(0,.ptr 0 0),(1,.ptr 1 0)] [(0,.box [.ptr 2 0]),(1,.box [I v3.1.Kind,bd v3.1.Text,I v3.1.jD,bd v3.1.bk,bd v3.1.bt,.arr 3 (List.length (v3.1.bc++[y35.1])),.pv (.sl (List.length v3.1.Decls) (ax.Cs v3.1.Decls)),.pv (.sl (List.length v3.1.b3) (bS v3.1.b3)),I v3.1.Pos]),(2,.box (ah y35.2))] (hE _ rfl) rfl rfl ⟨rfl,rfl⟩ ⟨⟨_,rfl,rfl,rfl⟩,⟨_,rfl,rfl,rfl⟩,trivial⟩ ⟨⟨_,rfl,rfl,rfl,rfl,rfl⟩,⟨_,rfl,rfl,rfl,rfl,rfl⟩,⟨_,rfl,rfl,rfl,rfl,rfl⟩,trivial⟩)) ?_
         exact hK11 _ _ (aa (za rfl (ao (hK5 _ _ _ h rfl))))
       · refine bR rfl ⟨rfl,rfl,rfl,rfl,rfl,rfl,rfl,rfl⟩ rfl (fun e9 he=>⟨aJ rfl,?_⟩)
         subst he
         refine mj v3.1.bc rfl (⟨ai.bb,ai.bE,Int.natCast_nonneg _,jz _ _,rfl,rfl,rfl,rfl,rfl,lp.h,rfl,rfl,rfl⟩:uY _ _ _ _ _ _ _ _ _ 0 _ _ _ _ _ _ y35.1 _ (ai.C y35.1)) rfl ⟨aJ rfl,?_⟩
         refine fb (dU.trans (ml 1 5 (m':=List.length (v3.1.bc++[y35.1])) rfl rfl (by simp) rfl) (iU 140 3 [(0,.ptr 0 0),(1,.ptr 1 0)] [(0,.box [.ptr 2 0]),(1,.box [I v3.1.Kind,bd v3.1.Text,I v3.1.jD,bd v3.1.bk,bd v3.1.bt,.arr 3 (List.length (v3.1.bc++[y35.1])),.pv (.sl (List.length v3.1.Decls) (ax.Cs v3.1.Decls)),.pv (.sl (List.length v3.1.b3) (bS v3.1.b3)),I v3.1.Pos]),(2,.box (ah y35.2))] (hE _ rfl) rfl rfl ⟨rfl,rfl⟩ ⟨⟨_,rfl,rfl,rfl⟩,⟨_,rfl,rfl,rfl⟩,trivial⟩ ⟨⟨_,rfl,rfl,rfl,rfl,rfl⟩,⟨_,rfl,rfl,rfl,rfl,rfl⟩,⟨_,rfl,rfl,rfl,rfl,rfl⟩,trivial⟩)) ?_
         exact hK11 _ _ (aa (za rfl (ao (hK5 _ _ _ h rfl))))
   · refine ab fun _ hK37=>aa (zm rfl (al (du rfl) rfl (zQ hK37 (zB rfl h (fun _ h=>?_) fun _ h=>?_))))
     · exact aa (zl rfl (zk hp hr h [2] Tryz.call155 (cu n ([44]:List UInt8) (ag.mk y8.2.text y8.2.bg y8.2.at_ v3.2.1.base y8.2.skip y8.2.pending)) rfl (fun _=>rfl) fun y39 h=>ao (hK14 _ _ _ h rfl)))
     · exact an (hK14 _ _ _ h rfl)
 · exact bh (hK1 _ _ (aa (zl rfl (zk hp hr h [2] Tryz.call202 (cL n ([93]:List UInt8) (ag.mk y8.2.text y8.2.bg y8.2.at_ v3.2.1.base y8.2.skip y8.2.pending)) rfl (fun _=>rfl) fun y40 h=>ao (zY .nil h rfl)))))
theorem pC (n:Nat) (T:aE) (hT:ba T) (p0:ag):CT Tryz.prog 276 [.ptr 0 0] [.box (ah p0)] (gV n T p0) (fun x=>.agg (aV x.1)) (fun x=>[.box (ah x.2)]):=by
 refine zC Tryz.func276 rfl fun r hp h hr E hE=>ab fun _ hK1=>aa (aM 102 (hE _ rfl) ⟨rfl,rfl,rfl,rfl⟩ rfl ?_)
 refine zQ hK1 (ab fun _ hK2=>aa (zm rfl (zk hp hr h [0] Tryz.call34 (aI n p0) rfl (fun _=>rfl) fun y3 h=>zm rfl (zk hp hr h [0] Tryz.call75 (bT n (ag.mk y3.2.text y3.2.bg y3.2.at_ p0.base y3.2.skip y3.2.pending)) rfl (fun _=>rfl) fun y4 h=>aM 103 (hE _ rfl) ⟨rfl,rfl,rfl,rfl⟩ rfl ?_))))
 refine zs rfl (za rfl (zQ hK2 (ab fun _ hK5=>aa (zm rfl (al (cT rfl rfl) rfl ?_)))))
 refine aM 105 (hE _ rfl) ⟨rfl,rfl,rfl,rfl⟩ rfl ?_
 refine zs rfl (zQ hK5 (zM h (fun (v6:ai)=>[(0,.ptr 0 0),(2,.ptr 102 0),(5,.ptr 105 0)]) (fun (v6:ai)=>[(0,.box (ah y4.2)),(102,.box [I 0,bd [],I 0,bd [],bd [],Sc (.slice none 0 0),Sc (.slice none 0 0),Sc (.slice none 0 0),I 0]),(105,.box [I v6.Kind,bd v6.Text,I v6.jD,bd v6.bk,bd v6.bt,Sc (.slice none 0 0),Sc (.slice none 0 0),Sc (.slice none 0 0),I v6.Pos])]) (fun v6 h=>?_) fun _ _ hK8 h=>?_))
 · refine ab fun _ hK9=>aa (zm rfl (zn rfl (zf rfl (zl rfl (zd hr h fun hg10 h=>zo hg10 rfl (zn rfl (zf rfl (zs rfl (zQ hK9 (ab fun _ hK11=>aa (zA rfl ?_)))))))))))
   refine zs rfl (zQ hK11 (bK (jd 102 rfl rfl) ?_))
   exact ar (zX (.cons (aZ rfl rfl rfl) .nil) h rfl)
 · refine ab fun _ hK12=>aa (zf rfl (zl rfl (zQ hK12 (aB (ab fun _ hK13=>aa (al (iQ rfl rfl) rfl (za rfl (zQ hK13 (zB rfl h (fun _ h=>?_) fun _ h=>?_)))))))))
   · exact aa (zf rfl (zs rfl (ao (hK8 _ _ _ h rfl))))
   · refine zM h (fun (v15:Bool)=>[(0,.ptr 0 0),(2,.ptr 102 0),(3,.ptr 103 0),(5,.ptr 105 0),(13,bd y3.1.Text),(29,Bo v15)]) (fun (v15:Bool)=>[(0,.box (ah y4.2)),(102,.box [I 0,bd [],I 0,bd [],bd [],Sc (.slice none 0 0),Sc (.slice none 0 0),Sc (.slice none 0 0),I 0]),(103,.box (eA y3.1)),(105,.box [I 0,bd [],I 0,bd [],bd [],Sc (.slice none 0 0),Sc (.slice none 0 0),Sc (.slice none 0 0),I y4.1])]) (fun v15 h=>?_) fun _ _ hK17 h=>?_
     · refine zB rfl h (fun _ h=>?_) fun _ h=>?_
       · refine ab fun _ hK19=>aa (zf rfl (zs rfl (zQ hK19 (ab fun _ hK20=>aa (zf rfl (zl rfl (al (iQ rfl rfl) rfl (zQ hK20 (zB rfl h (fun _ h=>?_) fun _ h=>?_)))))))))
         · exact aa (zf rfl (zs rfl (ao (hK8 _ _ _ h rfl))))
         · exact an (hK8 _ _ _ h rfl)
       · refine zM h (fun (v22:Bool)=>[(0,.ptr 0 0),(2,.ptr 102 0),(3,.ptr 103 0),(5,.ptr 105 0),(37,Bo v22)]) (fun (v22:Bool)=>[(0,.box (ah y4.2)),(102,.box [I 0,bd [],I 0,bd [],bd [],Sc (.slice none 0 0),Sc (.slice none 0 0),Sc (.slice none 0 0),I 0]),(103,.box (eA y3.1)),(105,.box [I 0,bd [],I 0,bd [],bd [],Sc (.slice none 0 0),Sc (.slice none 0 0),Sc (.slice none 0 0),I y4.1])]) (fun v22 h=>?_) fun _ _ hK24 h=>?_
         · refine zB rfl h (fun _ h=>?_) fun _ h=>?_
           · refine bo [0,1,2,3,4,5] rfl (by kernel_rfl) (zD rfl (bn rfl) rfl (zD rfl (ei [.any,bd y3.1.Text,.any,.any] rfl rfl ⟨.inr rfl,.inl rfl,.inr rfl,.inr rfl,trivial⟩ rfl) rfl (zD rfl (bn rfl) rfl (bR rfl ⟨rfl,rfl,rfl,rfl,rfl,rfl,rfl,rfl⟩ rfl (fun e3 he=>⟨ch ⟨trivial,⟨⟨⟨_,rfl,be.ed ⟨.inr rfl,.inl rfl,.inr rfl,.inr rfl,trivial⟩⟩,trivial⟩,⟨trivial,trivial⟩⟩⟩,?_⟩)))))
             subst he
             refine zD rfl (bn rfl) rfl (bR rfl ⟨rfl,rfl,rfl,rfl,rfl,rfl,rfl,rfl⟩ rfl (fun e5 he=>⟨aJ rfl,?_⟩))
             subst he
             exact b4 (hK8 _ _ _ h rfl)
           · refine ab fun _ hK26=>aa (zm rfl (zk hp hr h [0] Tryz.call57 (eP n y4.2) rfl (fun _=>rfl) fun y27 h=>zf rfl (zs rfl (zf rfl (zs rfl (zQ hK26 (ab fun _ hK28=>ab fun _ hK29=>aa (zm rfl (zk hp hr h [0] Tryz.call34 (aI n y27.2) rfl (fun _=>rfl) fun y30 h=>zk hp hr h [] Tryz.call72 (cd y30.1 ([40]:List UInt8)) rfl (fun _=>rfl) fun y31 h=>zQ hK29 (zB rfl h (fun _ h=>?_) fun _ h=>?_))))))))))
             · refine ab fun _ hK33=>aa (zf rfl (zs rfl (zQ hK33 (aa (zm rfl (zk hp hr h [0] Tryz.call297 (hT.dP (ag.mk y30.2.text y30.2.bg y30.2.at_ y27.2.base y30.2.skip y30.2.pending)) rfl (fun _=>rfl) fun y34 h=>zf rfl (zs rfl (zQ hK28 (ab fun _ hK35=>aa (zA rfl ?_))))))))))
               refine zs rfl (zQ hK35 (bK (jd 102 rfl rfl) ?_))
               exact ar (zX (.cons (aZ rfl rfl rfl) .nil) h rfl)
             · refine an (hK28 _ _ (ab fun _ hK36=>aa (zA rfl ?_)))
               refine zs rfl (zQ hK36 (bK (jd 102 rfl rfl) ?_))
               exact ar (zX (.cons (aZ rfl rfl rfl) .nil) h rfl)
         · refine ab fun _ hK37=>aa (al (iQ rfl rfl) rfl (za rfl (zQ hK37 (zB rfl h (fun _ h=>?_) fun _ h=>?_))))
           · exact an (hK24 _ _ _ h rfl)
           · refine ab fun _ hK39=>aa (al (iQ rfl rfl) rfl (za rfl (zQ hK39 (zB rfl h (fun _ h=>?_) fun _ h=>?_))))
             · exact an (hK24 _ _ _ h rfl)
             · refine ab fun _ hK41=>aa (al (iQ rfl rfl) rfl (za rfl (zQ hK41 (zB rfl h (fun _ h=>?_) fun _ h=>?_))))
               · exact an (hK24 _ _ _ h rfl)
               · exact aa (al (iQ rfl rfl) rfl (za rfl (ao (hK24 _ _ _ h rfl))))
     · refine ab fun _ hK43=>aa (al (iQ rfl rfl) rfl (za rfl (zQ hK43 (zB rfl h (fun _ h=>?_) fun _ h=>?_))))
       · exact an (hK17 _ _ _ h rfl)
       · exact aa (al (iQ rfl rfl) rfl (za rfl (ao (hK17 _ _ _ h rfl))))
theorem oV (n:Nat) (T:aE) (hT:ba T) (p0:Bool) (p1:ag):CT Tryz.prog 204 [.ptr 0 0,Bo p0] [.box (ah p1)] (gB n T p0 p1) (fun x=>.agg (aV x.1)) (fun x=>[.box (ah x.2)]):=by
 refine zC Tryz.func204 rfl fun r hp h hr E hE=>ab fun _ hK1=>aa (cM 102 (hE _ rfl) ⟨rfl,rfl,rfl,rfl,rfl,rfl,rfl⟩ rfl ?_)
 refine cM 103 (hE _ rfl) ⟨rfl,rfl,rfl,rfl,rfl,rfl,rfl⟩ rfl ?_
 refine aM 104 (hE _ rfl) ⟨rfl,rfl,rfl,rfl⟩ rfl ?_
 refine zQ hK1 (ab fun _ hK2=>aa (zl rfl (zk hp hr h [0] Tryz.call155 (cu n ([40]:List UInt8) p1) rfl (fun _=>rfl) fun y3 h=>zQ hK2 (ab fun _ hK4=>aa (aM 105 (hE _ rfl) ⟨rfl,rfl,rfl,rfl⟩ rfl ?_)))))
 refine zQ hK4 (ab fun _ hK5=>aa (zl rfl (al (oG rfl rfl) rfl ?_)))
 refine aY (jd 105 rfl rfl) ?_
 refine zk hp hr h [0,102,103,105] Tryz.call200 (hT.dF true y3 p0 (ai.mk 0 [] 0 [] [] [] [] [] 0)) rfl (fun _=>rfl) fun y6 h=>zQ hK5 (ab fun _ hK7=>aa (zl rfl (zn rfl (zf rfl (zl rfl (zd hr h fun hg8 h=>zo hg8 rfl (zn rfl (zf rfl (zs rfl (zQ hK7 (ab fun _ hK9=>aa (zA rfl ?_))))))))))))
 exact zs rfl (zQ hK9 (ar (zX (.cons (aZ rfl rfl rfl) .nil) h rfl)))
theorem nN (n:Nat) (T:aE) (hT:ba T) (p0:Bool) (p1:ai) (p2:ag):CT Tryz.prog 237 [.ptr 0 0,.ptr 1 0,.ptr 2 0] [.box [.ptr 3 0],.box [Bo p0],.box (aV p1),.box (ah p2)] (fH n T p0 p1 p2) (fun _=>.eT []) (fun x=>[.box [.ptr 3 0],.box [Bo x.1],.box (aV x.2.1),.box (ah x.2.2)]):=by
 exact zC Tryz.func237 rfl fun r hp h hr E hE=>ab fun _ hK1=>aa (zl rfl (zl rfl (zk hp hr h [3] Tryz.call33 (hT.aG p0 p2) rfl (fun _=>rfl) fun y2 h=>zs rfl (zQ hK1 (aa (zl rfl (zk hp hr h [3] Tryz.call202 (cL n ([41]:List UInt8) y2.2) rfl (fun _=>rfl) fun y3 h=>ao (zY .nil h rfl))))))))
theorem od (n:Nat) (T:aE) (hT:ba T) (p0:Bool) (p1:ag) (p2:ax):CT Tryz.prog 154 [.ptr 0 0,.ptr 1 0,Bo p0] [.box (ah p1),.box (cU p2)] (fX n T p0 p1 p2) (fun _=>.eT []) (fun x=>[.box (ah x.1),.box (cU x.2)]):=by
 refine zC Tryz.func154 rfl fun r hp h hr E hE=>?_
 refine ab fun _ hK1=>?_
 refine aa ?_
 refine cM 103 (hE _ rfl) ⟨rfl,rfl,rfl,rfl,rfl,rfl,rfl⟩ rfl ?_
 refine cM 104 (hE _ rfl) ⟨rfl,rfl,rfl,rfl,rfl,rfl,rfl⟩ rfl ?_
 refine zQ hK1 ?_
 refine ab fun _ hK2=>?_
 refine bo [0,1,2,3,4,5,6,7] rfl (by kernel_rfl) ?_
 refine zD rfl (aX rfl rfl rfl) rfl ?_
 refine zD rfl (ei [.ptr 1 0] rfl rfl ⟨.inl rfl,trivial⟩ rfl) rfl ?_
 refine zD rfl (cC rfl) rfl ?_
 refine zD rfl (bn rfl) rfl ?_
 refine bR rfl ⟨rfl,rfl,rfl,rfl,rfl,rfl,rfl,rfl⟩ rfl (fun e4 he=>⟨ch ⟨trivial,⟨trivial,⟨⟨⟨_,rfl,be.ed ⟨.inl rfl,trivial⟩⟩,trivial⟩,⟨trivial,trivial⟩⟩⟩⟩,?_⟩)
 subst he
 refine zD rfl (cC rfl) rfl ?_
 refine zD rfl (bn rfl) rfl ?_
 refine bR rfl ⟨rfl,rfl,rfl,rfl,rfl,rfl,rfl,rfl⟩ rfl (fun e7 he=>⟨aJ rfl,?_⟩)
 subst he
 refine b4 ?_
 refine hK2 _ _ ?_
 refine ab fun _ hK3=>?_
 refine aa ?_
 refine zl rfl ?_
 refine zk hp hr h [0] Tryz.call155 (cu n ([91]:List UInt8) p1) rfl (fun _=>rfl) fun y4 h=>?_
 refine zQ hK3 ?_
 refine ab fun _ hK5=>?_
 refine aa ?_
 refine zl rfl ?_
 refine al (oG rfl rfl) rfl ?_
 refine zk hp hr h [0,103,104,1] Tryz.call200 (po n true y4 (ax.mk 2 p2.cj ([46,42]:List UInt8) p2.bk p2.bt p2.bc p2.Body p2.b3 p2.jG p2.Trail p2.Pos)) rfl (fun _=>rfl) fun y6 h=>?_
 refine zQ hK5 ?_
 refine ab fun _ hK7=>?_
 refine aa ?_
 refine zl rfl ?_
 refine zn rfl ?_
 refine zf rfl ?_
 refine zl rfl ?_
 refine zd hr h fun hg8 h=>?_
 refine zo hg8 rfl ?_
 refine zn rfl ?_
 refine zf rfl ?_
 refine zs rfl ?_
 refine zQ hK7 ?_
 refine ab fun _ hK9=>?_
 refine aa ?_
 refine zl rfl ?_
 refine zk hp hr h [0] Tryz.call155 (cu n ([58]:List UInt8) (ag.mk y6.1.text y6.1.bg (y6.1.at_+1) y6.1.base y6.1.skip y6.1.pending)) rfl (fun _=>rfl) fun y10 h=>?_
 refine zQ hK9 ?_
 refine bo [0,1,2,3,4,5,6,7] rfl (by kernel_rfl) ?_
 refine zD rfl (ei [.ptr 1 0] rfl rfl ⟨.inl rfl,trivial⟩ rfl) rfl ?_
 refine zD rfl (aX rfl rfl rfl) rfl ?_
 refine zD rfl (aq rfl) rfl ?_
 refine cS rfl (bF rfl) hr h [0] Tryz.call33 (hT.aG p0 y10) ⟨rfl,rfl,rfl,rfl,rfl,rfl,trivial⟩ rfl rfl (fun _=>⟨rfl,rfl,rfl⟩) (fun _=>⟨rfl,rfl⟩) hp (fun y11 h=>⟨ch ⟨trivial,⟨trivial,⟨⟨⟨_,rfl,be.ed ⟨.inl rfl,trivial⟩⟩,trivial⟩,trivial⟩⟩⟩,?_⟩)
 refine gI [y11.1] ai.bb rfl (bF rfl) ⟨rfl,rfl⟩ ⟨rfl,rfl⟩ ?_
 refine zD rfl (cC rfl) rfl ?_
 refine zD rfl (bn rfl) rfl ?_
 refine bR rfl ⟨rfl,rfl,rfl,rfl,rfl,rfl,rfl,rfl⟩ rfl (fun e7 he=>⟨aJ rfl,?_⟩)
 subst he
 refine b4 ?_
 exact zY .nil h rfl
theorem og (n:Nat) (T:aE) (hT:ba T) (p0:Bool) (p1:ag):CT Tryz.prog 243 [.ptr 0 0,Bo p0] [.box (ah p1)] (fY n T p0 p1) (fun x=>.agg (aV x.1)) (fun x=>[.box (ah x.2)]):=by
 refine zC Tryz.func243 rfl fun r hp h hr E hE=>ab fun _ hK1=>aa (cM 102 (hE _ rfl) ⟨rfl,rfl,rfl,rfl,rfl,rfl,rfl⟩ rfl ?_)
 refine aM 104 (hE _ rfl) ⟨rfl,rfl,rfl,rfl⟩ rfl ?_
 refine zQ hK1 (ab fun _ hK2=>aa (zl rfl (zm rfl (zk hp hr h [0] Tryz.call264 (hT.c8 p0 p1) rfl (fun _=>rfl) fun y3 h=>aM 105 (hE _ rfl) ⟨rfl,rfl,rfl,rfl⟩ rfl ?_))))
 refine zs rfl (zQ hK2 (aB (zL hr h (fun (v4:ag×ai)=>[(0,.ptr 0 0),(1,Bo p0),(2,.ptr 102 0),(4,.ptr 104 0),(5,.ptr 105 0)]) (fun (v4:ag×ai)=>[(0,.box (ah v4.1)),(102,.box [.ptr 0 0]),(104,.box [I 0,bd [],I 0,bd [],bd [],Sc (.slice none 0 0),Sc (.slice none 0 0),Sc (.slice none 0 0),I 0]),(105,.box (aV v4.2))]) rfl fun _ v4 _ hK6 h=>aB (ab fun _ hK7=>bo [0,2,4,1,3,5,6] rfl (by kernel_rfl) (zD rfl (aX rfl rfl rfl) rfl (zD rfl (ei [.ptr 0 0] rfl rfl ⟨.inl rfl,trivial⟩ rfl) rfl (sv rfl (bF rfl) 106 (hE _ rfl) ⟨rfl,rfl,rfl,rfl,rfl⟩ ⟨rfl,rfl,rfl,rfl⟩ ?_)))))))
 refine cS rfl (bF rfl) hr h [0] Tryz.call34 (aI n v4.1) ⟨rfl,rfl,rfl,rfl,rfl,rfl,trivial⟩ rfl rfl (fun _=>⟨rfl,rfl,rfl⟩) (fun _=>⟨rfl,rfl⟩) hp (fun y8 h=>⟨ch ⟨trivial,⟨⟨⟨_,rfl,be.ed ⟨.inl rfl,trivial⟩⟩,trivial⟩,⟨trivial,trivial⟩⟩⟩,?_⟩)
 refine cS rfl (bF rfl) hr h [0] Tryz.call75 (bT n (ag.mk y8.2.text y8.2.bg y8.2.at_ v4.1.base y8.2.skip y8.2.pending)) ⟨rfl,rfl,rfl,rfl,rfl,rfl,trivial⟩ rfl rfl (fun _=>⟨rfl,rfl,rfl⟩) (fun _=>⟨rfl,rfl⟩) hp (fun y9 h=>⟨aJ rfl,?_⟩)
 refine rh rfl ⟨rfl,rfl,rfl,rfl,rfl,rfl,rfl,rfl⟩ rfl (fun e5 he=>⟨aJ rfl,?_⟩)
 subst he
 refine r4 rfl rfl rfl (aJ rfl) rfl ?_
 refine b4 (hK7 _ _ (aB (ab fun _ hK10=>aa (zA rfl ?_))))
 refine zk hp hr h [] Tryz.call72 (cd y8.1 ([46]:List UInt8)) rfl (fun _=>rfl) fun y11 h=>za rfl (zQ hK10 (zB rfl h (fun _ h=>?_) fun _ h=>?_))
 · refine ab fun _ hK13=>aa (zl rfl (zA rfl ?_))
   refine zm rfl (zk hp hr h [0] Tryz.call74 (fc n v4.2 y9.1 y9.2) rfl (fun _=>rfl) fun y14 h=>zs rfl (zQ hK13 (ab fun _ hK15=>aa (zl rfl (zn rfl (zf rfl (zl rfl (zd hr h fun hg16 h=>zo hg16 rfl (zn rfl (zf rfl (zs rfl (zQ hK15 (ab fun _ hK17=>aa (zl rfl (zk hp hr h [0] Tryz.call34 (aI n (ag.mk y14.2.text y14.2.bg (y14.2.at_+1) y14.2.base y14.2.skip y14.2.pending)) rfl (fun _=>rfl) fun y18 h=>aM 108 (hE _ rfl) ⟨rfl,rfl,rfl,rfl⟩ rfl ?_)))))))))))))))
   refine zs rfl (zQ hK17 (zM h (fun (v19:ag)=>[(0,.ptr 0 0),(1,Bo p0),(2,.ptr 102 0),(4,.ptr 104 0),(5,.ptr 105 0),(8,.ptr 108 0)]) (fun (v19:ag)=>[(0,.box (ah v19)),(102,.box [.ptr 0 0]),(104,.box [I 0,bd [],I 0,bd [],bd [],Sc (.slice none 0 0),Sc (.slice none 0 0),Sc (.slice none 0 0),I 0]),(105,.box (aV y14.1)),(108,.box (eA y18.1))]) (fun v19 h=>?_) fun _ _ hK21 h=>?_))
   · refine ab fun _ hK22=>aa (zl rfl (zn rfl (zf rfl (zl rfl (zd hr h fun hg23 h=>zo hg23 rfl (zn rfl (zf rfl (zs rfl (zQ hK22 (aa (zf rfl (zl rfl (zA rfl ?_)))))))))))))
     refine bL [y14.1] ai.bb ⟨rfl,rfl⟩ rfl ?_
     refine zf rfl (zl rfl (al (cT rfl rfl) rfl ?_))
     refine zs rfl (aY (fB 105 6 rfl rfl rfl) ?_)
     refine aY (fB 105 7 rfl rfl rfl) ?_
     exact ao (hK6 _ _ _ h rfl)
   · refine ab fun _ hK24=>aa (zA rfl ?_)
     refine zk hp hr h [] Tryz.call150 (oM n y18.1) rfl (fun _=>rfl) fun y25 h=>al (du rfl) rfl (zQ hK24 (zB rfl h (fun _ h=>?_) fun _ h=>?_))
     · exact aa (zl rfl (zk hp hr h [0] Tryz.call35 (bu n (ag.mk y18.2.text y18.2.bg y18.2.at_ y14.2.base y18.2.skip y18.2.pending)) rfl (fun _=>rfl) fun y27 h=>ao (hK21 _ _ _ h rfl)))
     · exact an (hK21 _ _ _ h rfl)
 · refine ab fun _ hK28=>aa (zA rfl ?_)
   refine zk hp hr h [] Tryz.call72 (cd y8.1 ([91]:List UInt8)) rfl (fun _=>rfl) fun y29 h=>za rfl (zQ hK28 (zB rfl h (fun _ h=>?_) fun _ h=>?_))
   · refine ab fun _ hK31=>aa (zl rfl (zA rfl ?_))
     refine zm rfl (zk hp hr h [0] Tryz.call74 (fc n v4.2 y9.1 y9.2) rfl (fun _=>rfl) fun y32 h=>zs rfl (zQ hK31 (ab fun _ hK33=>aa (zl rfl (zn rfl (zf rfl (zl rfl (zd hr h fun hg34 h=>zo hg34 rfl (zn rfl (zf rfl (zs rfl (zQ hK33 (ab fun _ hK35=>aa (zl rfl (al (oG rfl rfl) rfl ?_)))))))))))))))
     exact zk hp hr h [0,105,102] Tryz.call200 (hT.db true (ag.mk y32.2.text y32.2.bg (y32.2.at_+1) y32.2.base y32.2.skip y32.2.pending) y32.1) rfl (fun _=>rfl) fun y36 h=>zQ hK35 (aa (zl rfl (zn rfl (zf rfl (zl rfl (zd hr h fun hg37 h=>zo hg37 rfl (zn rfl (zf rfl (zs rfl (ao (hK6 _ _ _ h rfl)))))))))))
   · refine ab fun _ hK38=>aa (zA rfl ?_)
     exact zs rfl (zQ hK38 (ar (zX (.cons (aZ rfl rfl rfl) .nil) h rfl)))
theorem nv (n:Nat) (T:aE) (hT:ba T) (p0:ai) (p1:ag):CT Tryz.prog 265 [.ptr 0 0,.ptr 1 0] [.box (aV p0),.box [.ptr 2 0],.box (ah p1)] (fl n T p0 p1) (fun _=>.eT []) (fun x=>[.box (aV x.1),.box [.ptr 2 0],.box (ah x.2)]):=by
 refine zC Tryz.func265 rfl fun r hp h hr E hE=>ab fun _ hK1=>bo [0,1,4,5,2,3,6,7] rfl (by kernel_rfl) (zD rfl (hY rfl rfl rfl rfl) rfl ?_)
 refine zD rfl (aX rfl rfl rfl) rfl (zD rfl (bn rfl) rfl (zD rfl (ei [.any,.any,.any,.any,.any,.any,.any,.any,I p0.Pos] rfl rfl ⟨.inr rfl,.inr rfl,.inr rfl,.inr rfl,.inr rfl,.inr rfl,.inr rfl,.inr rfl,.inl rfl,trivial⟩ rfl) rfl (cS rfl (bF rfl) hr h [2] Tryz.call33 (hT.aG false p1) ⟨rfl,rfl,rfl,rfl,rfl,rfl,trivial⟩ rfl rfl (fun _=>⟨rfl,rfl,rfl⟩) (fun _=>⟨rfl,rfl⟩) hp (fun y2 h=>⟨ch ⟨⟨⟨_,rfl,be.ed ⟨.inr rfl,.inr rfl,.inr rfl,.inr rfl,.inr rfl,.inr rfl,.inr rfl,.inr rfl,.inl rfl,trivial⟩⟩,trivial⟩,⟨trivial,⟨trivial,⟨⟨⟨_,rfl,be.le_refl _⟩,trivial⟩,trivial⟩⟩⟩⟩,?_⟩))))
 refine gI [p0,y2.1] ai.bb rfl (bF rfl) ⟨rfl,rfl⟩ ⟨rfl,rfl⟩ ?_
 refine zD rfl (cT rfl rfl) rfl ?_
 refine bR rfl ⟨rfl,rfl,rfl,rfl,rfl,rfl,rfl,rfl⟩ rfl (fun e7 he=>⟨aJ rfl,?_⟩)
 subst he
 refine b4 (hK1 _ _ (aa (zl rfl (zk hp hr h [2] Tryz.call202 (cL n ([93]:List UInt8) y2.2) rfl (fun _=>rfl) fun y3 h=>aY (jd 0 rfl rfl) ?_))))
 exact ao (zY .nil h rfl)
theorem oh (n:Nat) (T:aE) (hT:ba T) (p0:Bool) (p1:ag):CT Tryz.prog 264 [.ptr 0 0,Bo p0] [.box (ah p1)] (fZ n T p0 p1) (fun x=>.agg (aV x.1)) (fun x=>[.box (ah x.2)]):=by
 refine zC Tryz.func264 rfl fun r hp h hr E hE=>ab fun _ hK1=>aa (aM 104 (hE _ rfl) ⟨rfl,rfl,rfl,rfl⟩ rfl ?_)
 refine zQ hK1 (ab fun _ hK2=>ab fun _ hK3=>aa (zm rfl (zn rfl (zf rfl (zl rfl (al (Ax rfl rfl) rfl (zQ hK3 (zB rfl h (fun _ h=>?_) fun _ h=>?_))))))))
 · refine ab fun _ hK5=>aa (zm rfl (zn rfl (zf rfl (zl rfl ?_))))
   obtain ⟨q6,hq7,h⟩:=C2 hr h
   refine al (BQ (by rw[hq7];rfl)) rfl ?_
   refine al (fi rfl rfl) rfl ?_
   refine aM 105 (hE _ rfl) ⟨rfl,rfl,rfl,rfl⟩ rfl ?_
   refine zs rfl (zQ hK5 (ab fun _ hK8=>aa (zm rfl (zn rfl (zf rfl (zs rfl (zQ hK8 (ab fun _ hK9=>aa (zA rfl ?_)))))))))
   refine zs rfl (zQ hK9 (bK (jd 0 rfl rfl) ?_))
   exact ar (zX (.cons (aZ rfl rfl rfl) .nil) h rfl)
 · refine an (hK2 _ _ (ab fun _ hK10=>aa (zm rfl (zk hp hr h [0] Tryz.call34 (aI n p1) rfl (fun _=>rfl) fun y11 h=>zm rfl (zk hp hr h [0] Tryz.call75 (bT n (ag.mk y11.2.text y11.2.bg y11.2.at_ p1.base y11.2.skip y11.2.pending)) rfl (fun _=>rfl) fun y12 h=>aM 106 (hE _ rfl) ⟨rfl,rfl,rfl,rfl⟩ rfl ?_)))))
   refine zs rfl (za rfl (zQ hK10 (ab fun _ hK13=>aa (zm rfl (al (cT rfl rfl) rfl ?_)))))
   refine aM 108 (hE _ rfl) ⟨rfl,rfl,rfl,rfl⟩ rfl ?_
   refine zs rfl (zQ hK13 (zM h (fun (v14:ag×ai)=>[(0,.ptr 0 0),(1,Bo p0),(4,.ptr 104 0),(8,.ptr 108 0)]) (fun (v14:ag×ai)=>[(0,.box (ah v14.1)),(104,.box [I 0,bd [],I 0,bd [],bd [],Sc (.slice none 0 0),Sc (.slice none 0 0),Sc (.slice none 0 0),I 0]),(108,.box (aV v14.2))]) (fun v14 h=>?_) fun _ _ hK16 h=>?_))
   · refine ab fun _ hK17=>aa (zm rfl (zn rfl (zf rfl (zl rfl (zd hr h fun hg18 h=>zo hg18 rfl (zn rfl (zf rfl (zs rfl (zQ hK17 (ab fun _ hK19=>aa (zA rfl ?_)))))))))))
     exact zs rfl (zQ hK19 (ar (zX (.cons (aZ rfl rfl rfl) .nil) h rfl)))
   · refine aB (ab fun _ hK20=>aa (zf rfl (zl rfl (zc rfl (za rfl (zQ hK20 (zB rfl h (fun _ h=>?_) fun _ h=>?_)))))))
     · exact ab fun _ hK22=>aa (zm rfl (zk hp hr h [0] Tryz.call276 (hT.dy y12.2) rfl (fun _=>rfl) fun y23 h=>zs rfl (zQ hK22 (ar (zX (.cons (aZ rfl rfl rfl) .nil) h rfl)))))
     · refine ab fun _ hK24=>aa (zf rfl (zl rfl (zc rfl (za rfl (zQ hK24 (zB rfl h (fun _ h=>?_) fun _ h=>?_))))))
       · refine ab fun _ hK26=>aa (zf rfl (zs rfl (zQ hK26 (aa (zf rfl (zl rfl (zk hp hr h [] Tryz.call100 (rJ n y11.1.Text) rfl (fun _=>rfl) fun y27 h=>zm rfl (zx rfl (zx rfl (zf rfl (zs rfl (aY (fB 108 5 rfl rfl rfl) ?_))))))))))))
         refine aY (fB 108 6 rfl rfl rfl) ?_
         refine aY (fB 108 7 rfl rfl rfl) ?_
         exact ao (hK16 _ _ _ h rfl)
       · refine ab fun _ hK28=>aa (zf rfl (zl rfl (zc rfl (za rfl (zQ hK28 (zB rfl h (fun _ h=>?_) fun _ h=>?_))))))
         · refine lT [] ?_
           refine bo [0,1,2,3,4,5] rfl (by kernel_rfl) (zD rfl (bn rfl) rfl (zD rfl (ei [.any,bd y11.1.Text,.any,.any] rfl rfl ⟨.inr rfl,.inl rfl,.inr rfl,.inr rfl,trivial⟩ rfl) rfl (zD rfl (bn rfl) rfl (bR rfl ⟨rfl,rfl,rfl,rfl,rfl,rfl,rfl,rfl⟩ rfl (fun e3 he=>⟨ch ⟨trivial,⟨⟨⟨_,rfl,be.ed ⟨.inr rfl,.inl rfl,.inr rfl,.inr rfl,trivial⟩⟩,trivial⟩,⟨trivial,trivial⟩⟩⟩,?_⟩)))))
           subst he
           refine zD rfl (bn rfl) rfl (bR rfl ⟨rfl,rfl,rfl,rfl,rfl,rfl,rfl,rfl⟩ rfl (fun e5 he=>⟨aJ rfl,?_⟩))
           subst he
           refine fb (dU.trans (fB 108 5 rfl rfl rfl) (dU.trans (fB 108 6 rfl rfl rfl) (fB 108 7 rfl rfl rfl))) ?_
           exact hK16 _ _ _ h rfl
         · refine ab fun _ hK30=>aa (zf rfl (zl rfl (zc rfl (za rfl (zQ hK30 (zB rfl h (fun _ h=>?_) fun _ h=>?_))))))
           · refine aa (zm rfl (zA rfl ?_))
             exact zm rfl (zk hp hr h [0] Tryz.call277 (hT.dq y11.1 y12.1 y12.2) rfl (fun _=>rfl) fun y32 h=>zs rfl (ao (hK16 _ _ _ h rfl)))
           · refine ab fun _ hK33=>aa (zA rfl ?_)
             refine zk hp hr h [] Tryz.call72 (cd y11.1 ([95]:List UInt8)) rfl (fun _=>rfl) fun y34 h=>za rfl (zQ hK33 (zB rfl h (fun _ h=>?_) fun _ h=>?_))
             · refine aa (zf rfl (zs rfl (aY (fB 108 5 rfl rfl rfl) ?_)))
               refine aY (fB 108 6 rfl rfl rfl) ?_
               refine aY (fB 108 7 rfl rfl rfl) ?_
               exact ao (hK16 _ _ _ h rfl)
             · refine ab fun _ hK36=>aa (zA rfl ?_)
               refine zk hp hr h [] Tryz.call72 (cd y11.1 ([95,124,95]:List UInt8)) rfl (fun _=>rfl) fun y37 h=>za rfl (zQ hK36 (zB rfl h (fun _ h=>?_) fun _ h=>?_))
               · refine aa (zf rfl (zs rfl (aY (fB 108 5 rfl rfl rfl) ?_)))
                 refine aY (fB 108 6 rfl rfl rfl) ?_
                 refine aY (fB 108 7 rfl rfl rfl) ?_
                 exact ao (hK16 _ _ _ h rfl)
               · refine ab fun _ hK39=>aa (zA rfl ?_)
                 refine zk hp hr h [] Tryz.call72 (cd y11.1 ([40]:List UInt8)) rfl (fun _=>rfl) fun y40 h=>za rfl (zQ hK39 (zB rfl h (fun _ h=>?_) fun _ h=>?_))
                 · exact ab fun _ hK42=>aa (zm rfl (zm rfl (zk hp hr h [0] Tryz.call204 (hT.cI p0 y12.2) rfl (fun _=>rfl) fun y43 h=>zs rfl (zQ hK42 (ar (zX (.cons (aZ rfl rfl rfl) .nil) h rfl))))))
                 · refine ab fun _ hK44=>aa (zA rfl ?_)
                   refine zk hp hr h [] Tryz.call72 (cd y11.1 ([123]:List UInt8)) rfl (fun _=>rfl) fun y45 h=>za rfl (zQ hK44 (zB rfl h (fun _ h=>?_) fun _ h=>?_))
                   · exact ab fun _ hK47=>aa (zm rfl (zm rfl (zk hp hr h [0] Tryz.call278 (hT.dn p0 y12.2) rfl (fun _=>rfl) fun y48 h=>zs rfl (zQ hK47 (ar (zX (.cons (aZ rfl rfl rfl) .nil) h rfl))))))
                   · refine ab fun _ hK49=>aa (zA rfl ?_)
                     refine zk hp hr h [] Tryz.call72 (cd y11.1 ([91]:List UInt8)) rfl (fun _=>rfl) fun y50 h=>za rfl (zQ hK49 (zB rfl h (fun _ h=>?_) fun _ h=>?_))
                     · exact ab fun _ hK52=>aa (zm rfl (zk hp hr h [0] Tryz.call279 (hT.dR y12.2) rfl (fun _=>rfl) fun y53 h=>zs rfl (zQ hK52 (ar (zX (.cons (aZ rfl rfl rfl) .nil) h rfl)))))
                     · refine aa (zm rfl (zk hp hr h [0] Tryz.call35 (bu n y12.2) rfl (fun _=>rfl) fun y54 h=>aY (fB 108 5 rfl rfl rfl) ?_))
                       refine aY (fB 108 6 rfl rfl rfl) ?_
                       refine aY (fB 108 7 rfl rfl rfl) ?_
                       exact ao (hK16 _ _ _ h rfl)
theorem pD (n:Nat) (T:aE) (hT:ba T) (p0:Bool) (p1:ag):CT Tryz.prog 214 [.ptr 0 0,Bo p0] [.box (ah p1)] (gW n T p0 p1) (fun x=>.agg (aV x.1)) (fun x=>[.box (ah x.2)]):=by
 refine zC Tryz.func214 rfl fun r hp h hr E hE=>?_
 refine ab fun _ hK1=>?_
 refine aa ?_
 refine aM 104 (hE _ rfl) ⟨rfl,rfl,rfl,rfl⟩ rfl ?_
 refine zQ hK1 ?_
 refine ab fun _ hK2=>?_
 refine ab fun _ hK3=>?_
 refine aa ?_
 refine zm rfl ?_
 refine zn rfl ?_
 refine zf rfl ?_
 refine zl rfl ?_
 refine al (Ax rfl rfl) rfl ?_
 refine zQ hK3 ?_
 refine zB rfl h (fun _ h=>?_) fun _ h=>?_
 · refine ab fun _ hK5=>?_
   refine aa ?_
   refine zm rfl ?_
   refine zm rfl ?_
   refine zk hp hr h [0] Tryz.call243 (hT.cA p0 p1) rfl (fun _=>rfl) fun y6 h=>?_
   refine zs rfl ?_
   refine zQ hK5 ?_
   refine ar ?_
   exact zX (.cons (aZ rfl rfl rfl) .nil) h rfl
 · refine an ?_
   refine hK2 _ _ ?_
   refine ab fun _ hK7=>?_
   refine aa ?_
   refine zm rfl ?_
   refine zk hp hr h [0] Tryz.call34 (aI n p1) rfl (fun _=>rfl) fun y8 h=>?_
   refine zm rfl ?_
   refine zk hp hr h [0] Tryz.call75 (bT n (ag.mk y8.2.text y8.2.bg y8.2.at_ p1.base y8.2.skip y8.2.pending)) rfl (fun _=>rfl) fun y9 h=>?_
   refine aM 105 (hE _ rfl) ⟨rfl,rfl,rfl,rfl⟩ rfl ?_
   refine zs rfl ?_
   refine za rfl ?_
   refine zQ hK7 ?_
   refine ab fun _ hK10=>?_
   refine aa ?_
   refine za rfl ?_
   refine zQ hK10 ?_
   refine zM h (fun (v11:Int)=>[(0,.ptr 0 0),(1,Bo p0),(4,.ptr 104 0),(5,.ptr 105 0),(6,I y9.1),(7,I v11)]) (fun (v11:Int)=>[(0,.box (ah y9.2)),(104,.box [I 0,bd [],I 0,bd [],bd [],Sc (.slice none 0 0),Sc (.slice none 0 0),Sc (.slice none 0 0),I 0]),(105,.box (eA y8.1))]) (fun v11 h=>?_) fun _ _ hK13 h=>?_
   · refine ab fun _ hK14=>?_
     refine aa ?_
     refine zm rfl ?_
     refine zn rfl ?_
     refine zf rfl ?_
     refine zl rfl ?_
     refine zd hr h fun hg15 h=>?_
     refine zo hg15 rfl ?_
     refine zn rfl ?_
     refine zf rfl ?_
     refine zs rfl ?_
     refine zQ hK14 ?_
     refine ab fun _ hK16=>?_
     refine bo [0,1,2,3,6,4,5,7,8] rfl (by kernel_rfl) ?_
     refine zD rfl (aq rfl) rfl ?_
     refine zD rfl (bn rfl) rfl ?_
     refine zD rfl (ei [.any,bd y8.1.Text,.any,.any] rfl rfl ⟨.inr rfl,.inl rfl,.inr rfl,.inr rfl,trivial⟩ rfl) rfl ?_
     refine zD rfl (aq rfl) rfl ?_
     refine zD rfl (aq rfl) rfl ?_
     refine cS rfl (bF rfl) hr h [0] Tryz.call214 (hT.cQ false (ag.mk y9.2.text y9.2.bg (y9.2.at_+1) y9.2.base y9.2.skip y9.2.pending)) ⟨rfl,rfl,rfl,rfl,rfl,rfl,trivial⟩ rfl rfl (fun _=>⟨rfl,rfl,rfl⟩) (fun _=>⟨rfl,rfl⟩) hp (fun y17 h=>⟨ch ⟨trivial,⟨trivial,⟨⟨⟨_,rfl,be.ed ⟨.inr rfl,.inl rfl,.inr rfl,.inr rfl,trivial⟩⟩,trivial⟩,⟨trivial,⟨trivial,trivial⟩⟩⟩⟩⟩,?_⟩)
     refine gI [y17.1] ai.bb rfl (bF rfl) ⟨rfl,rfl⟩ ⟨rfl,rfl⟩ ?_
     refine zD rfl (cT rfl rfl) rfl ?_
     refine bR rfl ⟨rfl,rfl,rfl,rfl,rfl,rfl,rfl,rfl⟩ rfl (fun e8 he=>⟨aJ rfl,?_⟩)
     subst he
     refine b4 ?_
     refine hK16 _ _ ?_
     refine bK (jd 104 rfl rfl) ?_
     refine ar ?_
     exact zX (.cons (aZ rfl rfl rfl) .nil) h rfl
   · refine aB ?_
     refine ab fun _ hK18=>?_
     refine aa ?_
     refine zA rfl ?_
     refine zk hp hr h [] Tryz.call151 (k3 n y8.1 ([45,32,33]:List UInt8)) rfl (fun _=>rfl) fun y19 h=>?_
     refine za rfl ?_
     refine zQ hK18 ?_
     refine zB rfl h (fun _ h=>?_) fun _ h=>?_
     · refine aa ?_
       refine za rfl ?_
       refine ao ?_
       exact hK13 _ _ _ h rfl
     · refine ab fun _ hK21=>?_
       refine aa ?_
       refine zA rfl ?_
       refine zk hp hr h [] Tryz.call151 (k3 n y8.1 ([60,32,60,61,32,62,32,62,61,32,33,61,32,61,126,32,33,126]:List UInt8)) rfl (fun _=>rfl) fun y22 h=>?_
       refine za rfl ?_
       refine zQ hK21 ?_
       refine zB rfl h (fun _ h=>?_) fun _ h=>?_
       · refine aa ?_
         refine za rfl ?_
         refine ao ?_
         exact hK13 _ _ _ h rfl
       · refine ab fun _ hK24=>?_
         refine aa ?_
         refine zm rfl ?_
         refine zm rfl ?_
         refine zk hp hr h [0] Tryz.call243 (hT.cA p0 y9.2) rfl (fun _=>rfl) fun y25 h=>?_
         refine zs rfl ?_
         refine zQ hK24 ?_
         refine ar ?_
         exact zX (.cons (aZ rfl rfl rfl) .nil) h rfl
theorem ny (n:Nat) (T:aE) (hT:ba T) (p0:Bool) (p1:ag) (p2:Bool) (p3:(List ax)) (p4:(List (List UInt8))):CT Tryz.prog 200 [.ptr 0 0,Bo p0,.fn 203 [] [.ptr 1 0,.ptr 2 0,.ptr 3 0,.ptr 4 0]] [.box (ah p1),.box [.ptr 0 0],.box [Bo p2],.box [.pv (.sl (List.length p3) (ax.Cs p3))],.box [.pv (.sl (List.length p4) (bS p4))]] (fm n T p0 p1 p2 p3 p4) (fun _=>.eT []) (fun x=>[.box (ah x.1),.box [.ptr 0 0],.box [Bo x.2.1],.box [.pv (.sl (List.length x.2.2.1) (ax.Cs x.2.2.1))],.box [.pv (.sl (List.length x.2.2.2) (bS x.2.2.2))]]):=by
 refine zC Tryz.func200 rfl fun r hp h hr E hE=>ab fun _ hK1=>aa (zm rfl (zn rfl (zf rfl (zl rfl (za rfl (zQ hK1 (ab fun _ hK2=>aa (zm rfl (zm rfl (zn rfl (zf rfl (zs rfl (zQ hK2 (ab fun _ hK3=>aa (zm rfl (zk hp hr h [1,2,3,4,0] Tryz.call203 (hT.dZ p2 p3 p4 (ag.mk p1.text p1.bg p1.at_ p1.base p0 p1.pending)) rfl (fun _=>rfl) fun y4 h=>zQ hK3 (aa (zm rfl (zm rfl ?_)))))))))))))))))))
 exact zn rfl (zf rfl (zs rfl (ao (zY .nil h rfl))))
theorem nA (n:Nat) (T:aE) (hT:ba T) (p0:Bool) (p1:ag) (p2:Bool) (p3:ai):CT Tryz.prog 200 [.ptr 0 0,Bo p0,.fn 237 [] [.ptr 1 0,.ptr 2 0,.ptr 3 0]] [.box (ah p1),.box [.ptr 0 0],.box [Bo p2],.box (aV p3)] (fo n T p0 p1 p2 p3) (fun _=>.eT []) (fun x=>[.box (ah x.1),.box [.ptr 0 0],.box [Bo x.2.1],.box (aV x.2.2)]):=by
 refine zC Tryz.func200 rfl fun r hp h hr E hE=>ab fun _ hK1=>aa (zm rfl (zn rfl (zf rfl (zl rfl (za rfl (zQ hK1 (ab fun _ hK2=>aa (zm rfl (zm rfl (zn rfl (zf rfl (zs rfl (zQ hK2 (ab fun _ hK3=>aa (zm rfl (zk hp hr h [1,2,3,0] Tryz.call237 (hT.dS p2 p3 (ag.mk p1.text p1.bg p1.at_ p1.base p0 p1.pending)) rfl (fun _=>rfl) fun y4 h=>zQ hK3 (aa (zm rfl (zm rfl ?_)))))))))))))))))))
 exact zn rfl (zf rfl (zs rfl (ao (zY .nil h rfl))))
theorem nB (n:Nat) (T:aE) (hT:ba T) (p0:Bool) (p1:ag) (p2:ai):CT Tryz.prog 200 [.ptr 0 0,Bo p0,.fn 265 [] [.ptr 1 0,.ptr 2 0]] [.box (ah p1),.box (aV p2),.box [.ptr 0 0]] (fp n T p0 p1 p2) (fun _=>.eT []) (fun x=>[.box (ah x.1),.box (aV x.2),.box [.ptr 0 0]]):=by
 refine zC Tryz.func200 rfl fun r hp h hr E hE=>ab fun _ hK1=>aa (zm rfl (zn rfl (zf rfl (zl rfl (za rfl (zQ hK1 (ab fun _ hK2=>aa (zm rfl (zm rfl (zn rfl (zf rfl (zs rfl (zQ hK2 (ab fun _ hK3=>aa (zm rfl (zk hp hr h [1,2,0] Tryz.call265 (hT.dD p2 (ag.mk p1.text p1.bg p1.at_ p1.base p0 p1.pending)) rfl (fun _=>rfl) fun y4 h=>zQ hK3 (aa (zm rfl (zm rfl ?_)))))))))))))))))))
 exact zn rfl (zf rfl (zs rfl (ao (zY .nil h rfl))))
theorem nC (n:Nat) (T:aE) (hT:ba T) (p0:Bool) (p1:ag) (p2:ai):CT Tryz.prog 200 [.ptr 0 0,Bo p0,.fn 299 [] [.ptr 1 0,.ptr 2 0]] [.box (ah p1),.box [.ptr 0 0],.box [I p2.Kind,bd p2.Text,I p2.jD,bd p2.bk,bd p2.bt,.arr 3 (List.length p2.bc),.pv (.sl (List.length p2.Decls) (ax.Cs p2.Decls)),.pv (.sl (List.length p2.b3) (bS p2.b3)),I p2.Pos],.arr 38 9 (ai.Cs p2.bc)] (fq n T p0 p1 p2) (fun _=>.eT []) (fun x=>[.box (ah x.1),.box [.ptr 0 0],.box [I x.2.Kind,bd x.2.Text,I x.2.jD,bd x.2.bk,bd x.2.bt,.arr 3 (List.length x.2.bc),.pv (.sl (List.length x.2.Decls) (ax.Cs x.2.Decls)),.pv (.sl (List.length x.2.b3) (bS x.2.b3)),I x.2.Pos],.arr 38 9 (ai.Cs x.2.bc)]):=by
 refine zC Tryz.func200 rfl fun r hp h hr E hE=>ab fun _ hK1=>aa (zm rfl (zn rfl (zf rfl (zl rfl (za rfl (zQ hK1 (ab fun _ hK2=>aa (zm rfl (zm rfl (zn rfl (zf rfl (zs rfl (zQ hK2 (ab fun _ hK3=>aa (zm rfl (iT hr h [1,2,0,3] Tryz.call299 (hT.er p2 (ag.mk p1.text p1.bg p1.at_ p1.base p0 p1.pending)) ⟨rfl,rfl,rfl,rfl,rfl,rfl,⟨hE _ rfl,trivial⟩⟩ rfl (fun _=>⟨rfl,rfl,rfl⟩) (fun _=>⟨rfl,rfl⟩) hp (fun y4 h=>?_)))))))))))))))))
 exact zQ hK3 (aa (zm rfl (zm rfl (zn rfl (zf rfl (zs rfl (ao (zY .nil h rfl))))))))
theorem nD (n:Nat) (T:aE) (hT:ba T) (p0:Bool) (p1:ag) (p2:(List ai)):CT Tryz.prog 200 [.ptr 0 0,Bo p0,.fn 313 [] [.ptr 1 0,.ptr 2 0]] [.box (ah p1),.box [.ptr 0 0],.box [.arr 3 (List.length p2)],.arr 38 9 (ai.Cs p2)] (fu n T p0 p1 p2) (fun _=>.eT []) (fun x=>[.box (ah x.1),.box [.ptr 0 0],.box [.arr 3 (List.length x.2)],.arr 38 9 (ai.Cs x.2)]):=by
 refine zC Tryz.func200 rfl fun r hp h hr E hE=>ab fun _ hK1=>aa (zm rfl (zn rfl (zf rfl (zl rfl (za rfl (zQ hK1 (ab fun _ hK2=>aa (zm rfl (zm rfl (zn rfl (zf rfl (zs rfl (zQ hK2 (ab fun _ hK3=>aa (zm rfl (iT hr h [1,2,0,3] Tryz.call313 (hT.ep p2 (ag.mk p1.text p1.bg p1.at_ p1.base p0 p1.pending)) ⟨rfl,rfl,rfl,rfl,rfl,rfl,⟨hE _ rfl,trivial⟩⟩ rfl (fun _=>⟨rfl,rfl,rfl⟩) (fun _=>⟨rfl,rfl⟩) hp (fun y4 h=>?_)))))))))))))))))
 exact zQ hK3 (aa (zm rfl (zm rfl (zn rfl (zf rfl (zs rfl (ao (zY .nil h rfl))))))))
theorem aQ:∀ n,ba (au n)
 | 0=>⟨fun _ _=>bY,fun _ _=>bY,fun _=>bY,fun _ _=>bY,fun _ _ _=>bY,fun _ _=>bY,fun _ _ _ _=>bY,fun _ _=>bY,fun _ _=>bY,fun _ _=>bY,fun _ _=>bY,fun _ _ _=>bY,fun _ _=>bY,fun _ _ _=>bY,fun _ _ _=>bY,fun _=>bY,fun _=>bY,fun _ _=>bY,fun _=>bY,fun _ _=>bY,fun _ _ _=>bY,fun _ _ _=>bY,fun _ _=>bY,fun _ _=>bY,fun _ _=>bY,fun _ _=>bY,fun _ _ _ _ _=>bY,fun _ _ _ _=>bY,fun _ _ _=>bY,fun _ _ _=>bY,fun _ _ _=>bY⟩
 | n+1=>⟨fun p0 p1=>uG n _ (aQ n) p0 p1,fun p0 p1=>mw n _ (aQ n) p0 p1,fun p0=>pZ n _ (aQ n) p0,fun p0 p1=>oQ n _ (aQ n) p0 p1,fun p0 p1 p2=>oR n _ (aQ n) p0 p1 p2,fun p0 p1=>pA n _ (aQ n) p0 p1,fun p0 p1 p2 p3=>oa n _ (aQ n) p0 p1 p2 p3,fun p0 p1=>oS n _ (aQ n) p0 p1,fun p0 p1=>mx n _ (aQ n) p0 p1,fun p0 p1=>p7 n _ (aQ n) p0 p1,fun p0 p1=>nM n _ (aQ n) p0 p1,fun p0 p1 p2=>ob n _ (aQ n) p0 p1 p2,fun p0 p1=>p8 n _ (aQ n) p0 p1,fun p0 p1 p2=>pB n _ (aQ n) p0 p1 p2,fun p0 p1 p2=>oT n _ (aQ n) p0 p1 p2,fun p0=>p9 n _ (aQ n) p0,fun p0=>qb n _ (aQ n) p0,fun p0 p1=>oU n _ (aQ n) p0 p1,fun p0=>pC n _ (aQ n) p0,fun p0 p1=>oV n _ (aQ n) p0 p1,fun p0 p1 p2=>nN n _ (aQ n) p0 p1 p2,fun p0 p1 p2=>od n _ (aQ n) p0 p1 p2,fun p0 p1=>og n _ (aQ n) p0 p1,fun p0 p1=>nv n _ (aQ n) p0 p1,fun p0 p1=>oh n _ (aQ n) p0 p1,fun p0 p1=>pD n _ (aQ n) p0 p1,fun p0 p1 p2 p3 p4=>ny n _ (aQ n) p0 p1 p2 p3 p4,fun p0 p1 p2 p3=>nA n _ (aQ n) p0 p1 p2 p3,fun p0 p1 p2=>nB n _ (aQ n) p0 p1 p2,fun p0 p1 p2=>nC n _ (aQ n) p0 p1 p2,fun p0 p1 p2=>nD n _ (aQ n) p0 p1 p2⟩
theorem qR (n:Nat) (p0:Bool) (p1:ag):CT Tryz.prog 107 [.ptr 0 0,Bo p0] [.box (ah p1)] (cF n p0 p1) (fun x=>.agg (cU x.1)) (fun x=>[.box (ah x.2)]):=(aQ n).cF p0 p1
theorem qS (n:Nat) (p0:Bool) (p1:ag):CT Tryz.prog 33 [.ptr 0 0,Bo p0] [.box (ah p1)] (aG n p0 p1) (fun x=>.agg (aV x.1)) (fun x=>[.box (ah x.2)]):=(aQ n).aG p0 p1
end Go.Abs
end
section
namespace Go.Abs
open ay
theorem vd {m:Nat→Nat} (hm:b1 m) {s:List UInt8} (hs:s.length≤65536):Ev (fun i=>pw (m i) s) (fun r=>r.2=true→r.1.length+2≤s.length) gp:=by
 unfold pw
 refine Ev.iter hm (fun (x:Int×Int)=>0≤x.2∧x.2≤s.length∧x.1≤x.2∧-x.2≤x.1) (fun x=>(s.length - x.2).toNat) (by simp) ?_
 intro x hx next hn
 (repeat' (first|((with_reducible refine Ev.gd ?_ ?_);(next=>(first|omega|(simp only[aD]<;>omega)|(simp[aD,aL,aN,maxLen]<;>omega))))|with_reducible refine Ev.cq ?_|with_reducible refine Ev.cr ?_|with_reducible refine Ev.aW (fun _=>?_) (fun _=>?_)|with_reducible refine Ev.bm (fun _=>?_) (fun _=>?_)|with_reducible refine Ev.bM (fun _=>?_) (fun _=>?_)|with_reducible refine Ev.bj (fun _=>?_) (fun _=>?_)|with_reducible refine Ev.br (fun _=>?_) (fun _=>?_)|((with_reducible refine Ev.el ?_ ?_ (fun _ _=>?_));(next=>(first|omega|(simp only[aD,aL,aN,maxLen,List.length_append,List.length_cons,List.length_nil]<;>omega)|(simp[aD,aL,aN,maxLen]<;>omega)));(next=>(first|omega|(simp only[aD,aL,aN,maxLen,List.length_append,List.length_cons,List.length_nil]<;>omega)|(simp[aD,aL,aN,maxLen]<;>omega))))|((with_reducible refine Ev.ka ?_);try dsimp only)))
 ·exact hn _ (by dsimp only;omega) (by dsimp only;omega)
 ·have:=rn (c:=s) (i:=1) (j:=x.2) (by omega) (by omega) (by omega)
  exact Ev.ok fun _=>by dsimp only;omega
 ·exact hn _ (by dsimp only;omega) (by dsimp only;omega)
 ·exact hn _ (by dsimp only;omega) (by dsimp only;omega)
 ·exact Ev.ok (by simp)
theorem tE {m:Nat→Nat} (hm:b1 m) {s:List UInt8} (hs:s.length≤65536) (h0:s[0]?=some 92):Ev (fun i=>mR (m i) s) (fun r=>r.2=0∨2≤r.2∧r.2≤s.length) gp:=by
 unfold mR
 refine Ev.jn (fun v=>2≤v) (fun v hv=>?_) (fun j hj=>?_)
 ·refine Ev.aW (fun _=>Ev.ok (.inl rfl)) (fun h=>?_)
  refine Ev.gd (by omega) ?_
  have hl:=vG (c:=s) (j:=v) (by omega) (by omega)
  refine Ev.gd (by (first|omega|(simp only[aN,List.length_cons,List.length_nil]<;>omega)|(simp[aD,aL,aN,maxLen]<;>omega))) (Ev.gd (by (first|omega|(simp only[aN,List.length_append,List.length_cons,List.length_nil]<;>omega)|(simp[aD,aL,aN,maxLen]<;>omega))) ?_)
  refine Ev.bind (oP hm) (fun _ q=>q) fun y hy=>?_
  refine Ev.bM (fun _=>Ev.ok (.inl rfl)) (fun he=>?_)
  have h1:([34]++kr s v++[34])[1]?=some (92:UInt8):=by
   cases s with
   | nil=>simp at h0
   | cons a s=>
    simp at h0;subst h0
    have:v.toNat=(v.toNat - 1)+1:=by omega
    simp[kr];rw[this];simp
  have:=hy.2 _ h1 (by decide) he
  refine Ev.el (by omega) (by omega) fun b _=>Ev.ok (.inr ⟨hv,by dsimp only;omega⟩)
 ·refine Ev.bind pz (fun _ q=>q) fun y _=>?_
  (repeat' (first|((with_reducible refine Ev.gd ?_ ?_);(next=>(first|omega|(simp only[aD,aL,aN,maxLen,List.length_append,List.length_cons,List.length_nil]<;>omega)|(simp[aD,aL,aN,maxLen]<;>omega))))|with_reducible refine Ev.cq ?_|with_reducible refine Ev.cr ?_|with_reducible refine Ev.aW (fun _=>?_) (fun _=>?_)|with_reducible refine Ev.bm (fun _=>?_) (fun _=>?_)|with_reducible refine Ev.bM (fun _=>?_) (fun _=>?_)|with_reducible refine Ev.bj (fun _=>?_) (fun _=>?_)|with_reducible refine Ev.br (fun _=>?_) (fun _=>?_)|((with_reducible refine Ev.el ?_ ?_ (fun _ _=>?_));(next=>(first|omega|(simp only[aD,aL,aN,maxLen,List.length_append,List.length_cons,List.length_nil]<;>omega)|(simp[aD,aL,aN,maxLen]<;>omega)));(next=>(first|omega|(simp only[aD,aL,aN,maxLen,List.length_append,List.length_cons,List.length_nil]<;>omega)|(simp[aD,aL,aN,maxLen]<;>omega))))|((with_reducible refine Ev.ka ?_);try dsimp only)))
  all_goals exact hj _ (by omega)
def x7 (n:Nat) (x:aT):Prop:=0≤x.Pos∧x.Pos≤n∧(x.Code=true→x.Pos+x.Text.length<n)
theorem nY {t:List Int} {out:List aT} {f:Int} (ho:out.length≤70000) :
  Ev (fun _=>jY t out f) (fun r=>r.1=[]∧r.2.2=f∧((t=[]∧r.2.1=out)∨(1≤t.length∧∃ x:aT,r.2.1=out++[x]∧x.Code=false∧x.Pos=f))) gp:=by
 unfold jY
 (repeat' (first|((with_reducible refine Ev.gd ?_ ?_);(next=>(first|omega|(simp only[aL,maxLen,List.length_cons,List.length_nil]<;>omega)|(simp[aD,aL,aN,maxLen]<;>omega))))|with_reducible refine Ev.cq ?_|with_reducible refine Ev.cr ?_|with_reducible refine Ev.aW (fun _=>?_) (fun _=>?_)|with_reducible refine Ev.bm (fun _=>?_) (fun _=>?_)|with_reducible refine Ev.bM (fun _=>?_) (fun _=>?_)|with_reducible refine Ev.bj (fun _=>?_) (fun _=>?_)|with_reducible refine Ev.br (fun _=>?_) (fun _=>?_)|((with_reducible refine Ev.el ?_ ?_ (fun _ _=>?_));(next=>(first|omega|(simp only[aD,aL,aN,maxLen,List.length_append,List.length_cons,List.length_nil]<;>omega)|(simp[aD,aL,aN,maxLen]<;>omega)));(next=>(first|omega|(simp only[aD,aL,aN,maxLen,List.length_append,List.length_cons,List.length_nil]<;>omega)|(simp[aD,aL,aN,maxLen]<;>omega))))|((with_reducible refine Ev.ka ?_);try dsimp only)))
 ·exact Ev.ok ⟨rfl,rfl,.inr ⟨by omega,_,rfl,rfl,rfl⟩⟩
 ·exact Ev.ok ⟨rfl,rfl,.inl ⟨List.eq_nil_of_length_eq_zero (by omega),rfl⟩⟩
theorem pR {m:Nat→Nat} (hm:b1 m) {s:List UInt8} (hs:s.length≤65536):Ev (fun i=>la (m i) s) (fun r=>r.1.length≤s.length∧∀ x,x∈r.1→x7 s.length x) gp:=by
 unfold la
 refine Ev.iter hm (fun (x:List aT×List Int×Int×Int)=>0≤x.2.2.2∧x.2.2.2≤s.length∧0≤x.2.2.1∧x.2.2.1≤s.length∧(x.1.length:Int)+min 1 x.2.1.length≤x.2.2.2∧(x.2.1.length:Int)≤x.2.2.2∧∀ p,p∈x.1→x7 s.length p)
  (fun x=>(s.length - x.2.2.2).toNat) (by simp) ?_
 rintro ⟨out,t,f,i⟩ ⟨h1,h2,h3,h4,h5,h6,h7⟩ next hn
 dsimp only at h1 h2 h3 h4 h5 h6 h7 hn ⊢
 refine Ev.aW (fun hi=>?_) (fun hi=>?_)
 ·refine Ev.jn (fun v=>0≤v∧v≤s.length) (fun v hv=>?_) (fun j hj=>?_)
  ·refine Ev.gd (by omega) (Ev.bind pz (fun _ q=>q) fun y hy=>?_)
   refine Ev.br (fun hp=>?_) (fun _=>?_)
   ·refine Ev.gd (by (first|omega|(simp only[aD]<;>omega)|(simp[aD,aL,aN,maxLen]<;>omega))) (Ev.gd (by omega) ?_)
    have hl:=kc (c:=s) (i:=i+1) (by omega) (by omega)
    refine Ev.bind (vd hm (by omega)) (fun _ q=>q) fun c hc=>?_
    refine Ev.bj (fun _=>Ev.ok ⟨by simp,fun _ h=>by cases h⟩) (fun hct=>?_)
    have hc2:=hc hct
    refine Ev.bind (nY (by omega)) (fun _ q=>q) fun r hr=>?_
    obtain ⟨r1,r2,r3⟩:=hr
    have hr4:(r.2.1.length:Int)≤i∧∀ p,p∈r.2.1→x7 s.length p:=by
     rcases r3 with ⟨a,b⟩|⟨a,x,b,c1,c2⟩
     ·rw[b];subst a;exact ⟨by simp at h5;omega,h7⟩
     ·rw[b];refine ⟨by simp;omega,fun p hp=>?_⟩
      rcases List.mem_append.1 hp with q|q
      ·exact h7 p q
      ·simp at q;subst q;exact ⟨by omega,by omega,fun q=>by rw[c1] at q;cases q⟩
    (repeat' (first|((with_reducible refine Ev.gd ?_ ?_);(next=>(first|omega|(simp only[aD,aL,maxLen,List.length_cons,List.length_nil]<;>omega)|(simp[aD,aL,aN,maxLen]<;>omega))))|with_reducible refine Ev.cq ?_|with_reducible refine Ev.cr ?_|with_reducible refine Ev.aW (fun _=>?_) (fun _=>?_)|with_reducible refine Ev.bm (fun _=>?_) (fun _=>?_)|with_reducible refine Ev.bM (fun _=>?_) (fun _=>?_)|with_reducible refine Ev.bj (fun _=>?_) (fun _=>?_)|with_reducible refine Ev.br (fun _=>?_) (fun _=>?_)|((with_reducible refine Ev.el ?_ ?_ (fun _ _=>?_));(next=>(first|omega|(simp only[aD,aL,aN,maxLen,List.length_append,List.length_cons,List.length_nil]<;>omega)|(simp[aD,aL,aN,maxLen]<;>omega)));(next=>(first|omega|(simp only[aD,aL,aN,maxLen,List.length_append,List.length_cons,List.length_nil]<;>omega)|(simp[aD,aL,aN,maxLen]<;>omega))))|((with_reducible refine Ev.ka ?_);try dsimp only)))
    refine hn _ ⟨by dsimp only;omega,by dsimp only;omega,by dsimp only;omega,by dsimp only;omega,by rw[r1];simp;omega,by rw[r1];simp;omega,fun p hp=>?_⟩ (by dsimp only;omega)
    rcases List.mem_append.1 hp with q|q
    ·exact hr4.2 p q
    ·simp at q;subst q;exact ⟨by dsimp only;omega,by dsimp only;omega,fun _=>by dsimp only;omega⟩
   ·refine Ev.el (by omega) (by omega) (fun b hb=>?_)
    refine Ev.bm (fun h92=>?_) (fun _=>?_)
    ·refine Ev.gd (by omega) ?_
     have hl:=kc (c:=s) (i:=i) (by omega) (by omega)
     have h0:(dK s i)[0]?=some (92:UInt8):=by
      simp only[dK,List.getElem?_drop,Nat.add_zero,hb]
      congr 1
      apply UInt8.toNat_inj.1;show b.toNat=92;omega
     refine Ev.bind (tE hm (by omega) h0) (fun _ q=>q) fun e he=>?_
     refine Ev.bm (fun _=>Ev.ok ⟨by simp,fun _ h=>by cases h⟩) (fun hne=>?_)
     (repeat' (first|((with_reducible refine Ev.gd ?_ ?_);(next=>(first|omega|(simp only[aD,aL,maxLen,List.length_cons,List.length_nil]<;>omega)|(simp[aD,aL,aN,maxLen]<;>omega))))|with_reducible refine Ev.cq ?_|with_reducible refine Ev.cr ?_|with_reducible refine Ev.aW (fun _=>?_) (fun _=>?_)|with_reducible refine Ev.bm (fun _=>?_) (fun _=>?_)|with_reducible refine Ev.bM (fun _=>?_) (fun _=>?_)|with_reducible refine Ev.bj (fun _=>?_) (fun _=>?_)|with_reducible refine Ev.br (fun _=>?_) (fun _=>?_)|((with_reducible refine Ev.el ?_ ?_ (fun _ _=>?_));(next=>(first|omega|(simp only[aD,aL,aN,maxLen,List.length_append,List.length_cons,List.length_nil]<;>omega)|(simp[aD,aL,aN,maxLen]<;>omega)));(next=>(first|omega|(simp only[aD,aL,aN,maxLen,List.length_append,List.length_cons,List.length_nil]<;>omega)|(simp[aD,aL,aN,maxLen]<;>omega))))|((with_reducible refine Ev.ka ?_);try dsimp only)))
     exact hn _ ⟨by dsimp only;omega,by dsimp only;omega,hv.1,hv.2,by simp;omega,by simp;omega,h7⟩ (by dsimp only;omega)
    ·refine Ev.jn (fun _=>True) (fun w _=>?_) (fun j2 hj2=>?_)
     ·refine Ev.br (fun _=>Ev.ok ⟨by simp,fun _ h=>by cases h⟩) (fun _=>?_)
      (repeat' (first|((with_reducible refine Ev.gd ?_ ?_);(next=>(first|omega|(simp only[aD,aL,maxLen,List.length_cons,List.length_nil]<;>omega)|(simp[aD,aL,aN,maxLen]<;>omega))))|with_reducible refine Ev.cq ?_|with_reducible refine Ev.cr ?_|with_reducible refine Ev.aW (fun _=>?_) (fun _=>?_)|with_reducible refine Ev.bm (fun _=>?_) (fun _=>?_)|with_reducible refine Ev.bM (fun _=>?_) (fun _=>?_)|with_reducible refine Ev.bj (fun _=>?_) (fun _=>?_)|with_reducible refine Ev.br (fun _=>?_) (fun _=>?_)|((with_reducible refine Ev.el ?_ ?_ (fun _ _=>?_));(next=>(first|omega|(simp only[aD,aL,aN,maxLen,List.length_append,List.length_cons,List.length_nil]<;>omega)|(simp[aD,aL,aN,maxLen]<;>omega)));(next=>(first|omega|(simp only[aD,aL,aN,maxLen,List.length_append,List.length_cons,List.length_nil]<;>omega)|(simp[aD,aL,aN,maxLen]<;>omega))))|((with_reducible refine Ev.ka ?_);try dsimp only)))
      exact hn _ ⟨by dsimp only;omega,by dsimp only;omega,hv.1,hv.2,by simp;omega,by simp;omega,h7⟩ (by dsimp only;omega)
     ·(repeat' (first|((with_reducible refine Ev.gd ?_ ?_);(next=>(first|omega|(simp only[aD,aL,aN,maxLen,List.length_append,List.length_cons,List.length_nil]<;>omega)|(simp[aD,aL,aN,maxLen]<;>omega))))|with_reducible refine Ev.cq ?_|with_reducible refine Ev.cr ?_|with_reducible refine Ev.aW (fun _=>?_) (fun _=>?_)|with_reducible refine Ev.bm (fun _=>?_) (fun _=>?_)|with_reducible refine Ev.bM (fun _=>?_) (fun _=>?_)|with_reducible refine Ev.bj (fun _=>?_) (fun _=>?_)|with_reducible refine Ev.br (fun _=>?_) (fun _=>?_)|((with_reducible refine Ev.el ?_ ?_ (fun _ _=>?_));(next=>(first|omega|(simp only[aD,aL,aN,maxLen,List.length_append,List.length_cons,List.length_nil]<;>omega)|(simp[aD,aL,aN,maxLen]<;>omega)));(next=>(first|omega|(simp only[aD,aL,aN,maxLen,List.length_append,List.length_cons,List.length_nil]<;>omega)|(simp[aD,aL,aN,maxLen]<;>omega))))|((with_reducible refine Ev.ka ?_);try dsimp only)))
      all_goals exact hj2 _ trivial
  ·(repeat' (first|((with_reducible refine Ev.gd ?_ ?_);(next=>(first|omega|(simp only[aD,aL,aN,maxLen,List.length_append,List.length_cons,List.length_nil]<;>omega)|(simp[aD,aL,aN,maxLen]<;>omega))))|with_reducible refine Ev.cq ?_|with_reducible refine Ev.cr ?_|with_reducible refine Ev.aW (fun _=>?_) (fun _=>?_)|with_reducible refine Ev.bm (fun _=>?_) (fun _=>?_)|with_reducible refine Ev.bM (fun _=>?_) (fun _=>?_)|with_reducible refine Ev.bj (fun _=>?_) (fun _=>?_)|with_reducible refine Ev.br (fun _=>?_) (fun _=>?_)|((with_reducible refine Ev.el ?_ ?_ (fun _ _=>?_));(next=>(first|omega|(simp only[aD,aL,aN,maxLen,List.length_append,List.length_cons,List.length_nil]<;>omega)|(simp[aD,aL,aN,maxLen]<;>omega)));(next=>(first|omega|(simp only[aD,aL,aN,maxLen,List.length_append,List.length_cons,List.length_nil]<;>omega)|(simp[aD,aL,aN,maxLen]<;>omega))))|((with_reducible refine Ev.ka ?_);try dsimp only)))
   all_goals exact hj _ (by omega)
 ·refine Ev.bind (nY (by omega)) (fun _ q=>q) fun r hr=>?_
  obtain ⟨r1,r2,r3⟩:=hr
  refine Ev.ok ?_
  rcases r3 with ⟨a,b⟩|⟨a,x,b,c1,c2⟩
  ·dsimp only;rw[b];exact ⟨by omega,h7⟩
  ·dsimp only;rw[b];refine ⟨by simp;omega,fun p hp=>?_⟩
   rcases List.mem_append.1 hp with q|q
   ·exact h7 p q
   ·simp at q;subst q;exact ⟨by omega,by omega,fun q=>by rw[c1] at q;cases q⟩
structure Ee (a:Int) (t:aS):Prop where
 p0:0≤t.Pos
 pe:t.Pos<t.End
 e:t.End≤a
 k:t.Kind≠0
 ip:t.Kind=4→(t.Text.length:Int)+2≤t.End - t.Pos
 tl:t.Text.length≤65536
structure tq (a:Int) (l:List aS):Prop where
 len:(l.length:Int)≤a
 ok:∀ t,t∈l→Ee a t
 sorted:l.Pairwise fun t u=>t.End≤u.Pos
theorem tq.snoc {a:Int} {l:List aS} (h:tq a l) {t:aS} (h1:t.Pos=a) (h2:a<t.End) (h0:0≤a) (hk:t.Kind≠0) (hi:t.Kind=4→(t.Text.length:Int)+2≤t.End - t.Pos) (hl:t.Text.length≤65536):tq t.End (l++[t]):=by
 refine ⟨by have:=h.len;simp;omega,fun u hu=>?_,?_⟩
 ·rcases List.mem_append.1 hu with q|q
  ·obtain ⟨a1,a2,a3,a4,a5,a6⟩:=h.ok u q
   exact ⟨a1,a2,by omega,a4,a5,a6⟩
  ·simp at q;subst q;exact ⟨by omega,by omega,by omega,hk,hi,hl⟩
 ·refine List.pairwise_append.2 ⟨h.sorted,by simp,fun u hu v hv=>?_⟩
  simp at hv;subst hv
  have:=(h.ok u hu).e;omega
theorem tq.mono {a b:Int} {l:List aS} (h:tq a l) (hab:a≤b):tq b l:=
 ⟨by have:=h.len;omega,fun t ht=>let q:=h.ok t ht;⟨q.p0,q.pe,by have:=q.e;omega,q.k,q.ip,q.tl⟩,h.sorted⟩
structure xG (s:List UInt8) (x:bN):Prop where
 text:x.text=s
 uU:0≤x.at_
 vJ:x.at_≤s.length
 out:tq x.at_ x.out
theorem l9 {k n:Int} {t:List UInt8} {x:bN} (h0:0≤x.at_) (h1:x.at_≤70000) (hn:0≤n) (hn2:n≤70000) (ho:x.out.length≤70000) (ht:t.length≤70000) :
  Ev (fun _=>cY k t n x) (fun r=>r.text=x.text∧r.at_=x.at_+n∧r.out=x.out++[aS.mk k t x.at_ (x.at_+n)]) gp:=by
 unfold cY
 refine Ev.gd (by (first|omega|(simp only[aD]<;>omega)|(simp[aD,aL,aN,maxLen]<;>omega))) (Ev.gd (by (first|omega|(simp only[aL,maxLen,List.length_cons,List.length_nil]<;>omega)|(simp[aD,aL,aN,maxLen]<;>omega))) (Ev.gd (by (first|omega|(simp only[aD]<;>omega)|(simp[aD,aL,aN,maxLen]<;>omega))) (Ev.bm (fun _=>Ev.ok ⟨rfl,rfl,rfl⟩) (fun _=>?_))))
 refine Ev.jn (fun _=>True) (fun v _=>?_) (fun j hj=>?_)
 ·refine Ev.br (fun _=>Ev.ok ⟨rfl,rfl,rfl⟩) (fun _=>?_)
  refine Ev.bm (fun _=>?_) (fun _=>Ev.ok ⟨rfl,rfl,rfl⟩)
  (repeat' (first|((with_reducible refine Ev.gd ?_ ?_);(next=>(first|omega|(simp only[aN,List.length_append,List.length_cons,List.length_nil]<;>omega)|(simp[aD,aL,aN,maxLen]<;>omega))))|with_reducible refine Ev.cq ?_|with_reducible refine Ev.cr ?_|with_reducible refine Ev.aW (fun _=>?_) (fun _=>?_)|with_reducible refine Ev.bm (fun _=>?_) (fun _=>?_)|with_reducible refine Ev.bM (fun _=>?_) (fun _=>?_)|with_reducible refine Ev.bj (fun _=>?_) (fun _=>?_)|with_reducible refine Ev.br (fun _=>?_) (fun _=>?_)|((with_reducible refine Ev.el ?_ ?_ (fun _ _=>?_));(next=>(first|omega|(simp only[aD,aL,aN,maxLen,List.length_append,List.length_cons,List.length_nil]<;>omega)|(simp[aD,aL,aN,maxLen]<;>omega)));(next=>(first|omega|(simp only[aD,aL,aN,maxLen,List.length_append,List.length_cons,List.length_nil]<;>omega)|(simp[aD,aL,aN,maxLen]<;>omega))))|((with_reducible refine Ev.ka ?_);try dsimp only)))
  exact Ev.bind (nX (by simp)) (fun _ q=>q) fun y _=>Ev.ok ⟨rfl,rfl,rfl⟩
 ·(repeat' (first|((with_reducible refine Ev.gd ?_ ?_);(next=>(first|omega|(simp only[aD,aL,aN,maxLen,List.length_append,List.length_cons,List.length_nil]<;>omega)|(simp[aD,aL,aN,maxLen]<;>omega))))|with_reducible refine Ev.cq ?_|with_reducible refine Ev.cr ?_|with_reducible refine Ev.aW (fun _=>?_) (fun _=>?_)|with_reducible refine Ev.bm (fun _=>?_) (fun _=>?_)|with_reducible refine Ev.bM (fun _=>?_) (fun _=>?_)|with_reducible refine Ev.bj (fun _=>?_) (fun _=>?_)|with_reducible refine Ev.br (fun _=>?_) (fun _=>?_)|((with_reducible refine Ev.el ?_ ?_ (fun _ _=>?_));(next=>(first|omega|(simp only[aD,aL,aN,maxLen,List.length_append,List.length_cons,List.length_nil]<;>omega)|(simp[aD,aL,aN,maxLen]<;>omega)));(next=>(first|omega|(simp only[aD,aL,aN,maxLen,List.length_append,List.length_cons,List.length_nil]<;>omega)|(simp[aD,aL,aN,maxLen]<;>omega))))|((with_reducible refine Ev.ka ?_);try dsimp only)))
  all_goals exact hj _ trivial
theorem xG.add {s:List UInt8} (hs:s.length≤65536) {x:bN} (h:xG s x) {k n:Int} {t:List UInt8} (hn:1≤n) (hn2:x.at_+n≤s.length) (ht:t.length≤65536) (hk:k≠0) (hi:k=4→(t.length:Int)+2≤n) :
  Ev (fun _=>cY k t n x) (fun r=>xG s r∧x.at_<r.at_) gp:=by
 have hl:=h.out.len
 have h0:=h.uU
 have h1:=h.vJ
 refine (l9 (k:=k) (t:=t) h0 (by omega) (by omega) (by omega) (by omega) (by omega)).CC fun r hr=>?_
 refine ⟨⟨by rw[hr.1];exact h.text,by omega,by omega,?_⟩,by omega⟩
 rw[hr.2.1,hr.2.2]
 have:=h.out.snoc (t:=aS.mk k t x.at_ (x.at_+n)) rfl (by dsimp only;omega) h0 hk (fun q=>by have:=hi q;dsimp only;omega) ht
 exact this
theorem qT {m:Nat→Nat} (hm:b1 m) {s:List UInt8} (hs:s.length≤65536) {x:bN} (h:xG s x) :
  Ev (fun i=>jK (m i) x) (fun r=>xG s r.2∧(r.1=true→x.at_<r.2.at_)) gp:=by
 have hl:=h.out.len
 have h0:=h.uU
 have h1:=h.vJ
 have ht:=h.text
 unfold jK
 simp only[ht]
 refine Ev.gd (by omega) ?_
 have hq:=kc (c:=s) (i:=x.at_) (by omega) (by omega)
 refine Ev.bind (s6 hm (by omega)) (fun _ q=>q) fun y hy=>?_
 refine Ev.bm (fun _=>Ev.ok ⟨h,by simp⟩) (fun hne=>?_)
 refine Ev.gd (by (first|omega|(simp only[aD]<;>omega)|(simp[aD,aL,aN,maxLen]<;>omega))) (Ev.gd (by omega) ?_)
 have hq2:=rn (c:=s) (i:=x.at_) (j:=x.at_+y.1) (by omega) (by omega) (by omega)
 refine Ev.br (fun _=>?_) (fun _=>?_)
 ·refine Ev.gd (by (first|omega|(simp only[aD]<;>omega)|(simp[aD,aL,aN,maxLen]<;>omega))) (Ev.gd (by omega) ?_)
  have hq3:=rn (c:=sub s x.at_ (x.at_+y.1)) (i:=1) (j:=y.1 - 1) (by omega) (by omega) (by omega)
  refine Ev.bind (pR hm (by omega)) (fun _ q=>q) fun z _=>?_
  refine Ev.bM (fun _=>Ev.ok ⟨h,by simp⟩) (fun _=>?_)
  refine Ev.gd (by (first|omega|(simp only[aD]<;>omega)|(simp[aD,aL,aN,maxLen]<;>omega))) (Ev.gd (by omega) ?_)
  refine Ev.bind (h.add hs (by omega) (by omega) (by omega) (by decide) (fun _=>by omega)) (fun _ q=>q) fun r hr=>Ev.ok ⟨hr.1,fun _=>hr.2⟩
 ·refine Ev.bind (oP hm) (fun _ q=>q) fun z hz=>?_
  refine Ev.bM (fun _=>Ev.ok ⟨h,by simp⟩) (fun _=>?_)
  refine Ev.bind (h.add hs (by omega) (by omega) (by omega) (by decide) (fun q=>by simp at q)) (fun _ q=>q) fun r hr=>Ev.ok ⟨hr.1,fun _=>hr.2⟩
theorem yV:∀ (s p:List UInt8) (i:Nat),oJ s p=some i→i≤s.length
 | [],p,i,h=>by
  unfold oJ at h;split at h
  ·cases h;simp
  ·cases h
 | b::l,p,i,h=>by
  unfold oJ at h;split at h
  ·cases h;simp
  ·cases q:oJ l p with
   | none=>rw[q] at h;cases h
   | some k=>rw[q] at h;cases h;have:=yV l p k q;simp;omega
theorem zT {s p:List UInt8} (h:(kr s p.length==p)=true):∃ r,s=p++r:=by
 have:=beq_iff_eq.1 h
 simp only[kr,Int.toNat_natCast] at this
 exact ⟨s.drop p.length,by conv=>lhs;rw[← List.take_append_drop p.length s,this]⟩
theorem ve {s p:List UInt8}:Ev (fun _=>strings_HasPrefix s p) (fun r=>r=true→∃ q,s=p++q) gp:=by
 unfold strings_HasPrefix stringslite_HasPrefix
 refine Ev.bind (Q:=fun r=>r=true→∃ q,s=p++q) (R':=gp) ?_ (fun _ q=>q) fun _ h=>Ev.ok h
 (repeat' (first|((with_reducible refine Ev.gd ?_ ?_);(next=>(first|omega|(simp only[aD,aL,aN,maxLen,List.length_append,List.length_cons,List.length_nil]<;>omega)|(simp[aD,aL,aN,maxLen]<;>omega))))|with_reducible refine Ev.cq ?_|with_reducible refine Ev.cr ?_|with_reducible refine Ev.aW (fun _=>?_) (fun _=>?_)|with_reducible refine Ev.bm (fun _=>?_) (fun _=>?_)|with_reducible refine Ev.bM (fun _=>?_) (fun _=>?_)|with_reducible refine Ev.bj (fun _=>?_) (fun _=>?_)|with_reducible refine Ev.br (fun _=>?_) (fun _=>?_)|((with_reducible refine Ev.el ?_ ?_ (fun _ _=>?_));(next=>(first|omega|(simp only[aD,aL,aN,maxLen,List.length_append,List.length_cons,List.length_nil]<;>omega)|(simp[aD,aL,aN,maxLen]<;>omega)));(next=>(first|omega|(simp only[aD,aL,aN,maxLen,List.length_append,List.length_cons,List.length_nil]<;>omega)|(simp[aD,aL,aN,maxLen]<;>omega))))|((with_reducible refine Ev.ka ?_);try dsimp only)))
 ·exact Ev.ok (fun h=>zT h)
 ·exact Ev.ok (by simp)
theorem qc {m:Nat→Nat} (hm:b1 m) {s:List UInt8} (hs:s.length≤65536) {x:bN} (h:xG s x) (hlt:x.at_<s.length) :
  Ev (fun i=>jo (m i) x) (fun r=>xG s r.2∧(r.1=true→x.at_<r.2.at_)) gp:=by
 have hl:=h.out.len
 have h0:=h.uU
 have h1:=h.vJ
 have ht:=h.text
 unfold jo
 simp only[ht]
 refine Ev.gd (by omega) ?_
 have hq:=kc (c:=s) (i:=x.at_) (by omega) (by omega)
 refine Ev.bind ve (fun _ q=>q) fun y hy=>?_
 refine Ev.br (fun hp=>?_) (fun _=>?_)
 ·obtain ⟨r,hr⟩:=hy hp
  rw[hr] at hq ⊢
  refine Ev.vF (Q:=fun c=>2≤c.1.length∧c.1.length≤([47,47]++r:List UInt8).length) ?_ fun c hc=>?_
  ·unfold strings_Cut
   refine Ev.gd (by omega) (Ev.ok ?_)
   split
   ·rename_i i hi
    have:=yV _ _ _ hi
    refine ⟨?_,by simp;omega⟩
    have h2:2≤i:=by
     cases q:oJ r [10] with
     | none=>simp[oJ,q] at hi
     | some k=>simp[oJ,q] at hi;omega
    simp at this ⊢;omega
   ·simp
  ·refine Ev.gd (by omega) ?_
   have:=kc (c:=c.1) (i:=2) (by omega) (by omega)
   refine Ev.bind (h.add hs (by omega) (by omega) (by omega) (by decide) (fun q=>by simp at q)) (fun _ q=>q) fun r hr=>Ev.ok ⟨hr.1,fun _=>hr.2⟩
 ·refine Ev.bind (u9 hm (by omega)) (fun _ q=>q) fun y hy=>?_
  refine Ev.aW (fun hp=>?_) (fun _=>?_)
  ·refine Ev.gd (by omega) ?_
   have:=uu (c:=dK s x.at_) (j:=y)
   refine Ev.bind (h.add hs (by omega) (by omega) (by omega) (by decide) (fun q=>by simp at q)) (fun _ q=>q) fun r hr=>Ev.ok ⟨hr.1,fun _=>hr.2⟩
  ·refine Ev.el (by omega) (by omega) (fun b hb=>?_)
   refine Ev.bind jZ (fun _ q=>q) fun d hd=>?_
   refine Ev.br (fun hdt=>?_) (fun _=>?_)
   ·rw[hd] at hdt
    have hdd:=of_decide_eq_true hdt
    refine Ev.bind (tC hm (by omega)) (fun _ q=>q) fun y hy=>?_
    have hy1:=hy.2.2 b hb hdd.1 hdd.2
    refine Ev.gd (by omega) ?_
    have:=uu (c:=dK s x.at_) (j:=y)
    refine Ev.bind (qK hm) (fun _ q=>q) fun z _=>?_
    refine Ev.bM (fun _=>Ev.ok ⟨h,by simp⟩) (fun _=>?_)
    refine Ev.gd (by omega) ?_
    refine Ev.bind (h.add hs (by omega) (by omega) (by omega) (by decide) (fun q=>by simp at q)) (fun _ q=>q) fun r hr=>Ev.ok ⟨hr.1,fun _=>hr.2⟩
   ·refine Ev.bm (fun _=>?_) (fun _=>?_)
    ·exact Ev.bind (qT hm hs h) (fun _ q=>q) fun r hr=>Ev.ok hr
    ·refine Ev.bind (sy hm) (fun _ q=>q) fun y hy=>?_
     refine Ev.bm (fun _=>Ev.ok ⟨h,by simp⟩) (fun hne=>?_)
     have:1≤y.length:=by
      cases y with
      | nil=>exact absurd rfl hne
      | cons=>simp
     refine Ev.bind (h.add hs (by omega) (by omega) (by omega) (by decide) (fun q=>by simp at q)) (fun _ q=>q) fun r hr=>Ev.ok ⟨hr.1,fun _=>hr.2⟩
structure Ef (s:List UInt8) (bg:List aS):Prop where
 EN:s.length≤65536
 is:∃ l,bg=l++[aS.mk 0 [] s.length s.length]∧tq s.length l
theorem oj {m:Nat→Nat} (hm:b1 m) {s:List UInt8}:Ev (fun i=>lC (m i) s) (fun r=>0≤r.2.At∧r.2.At≤s.length∧(r.2.Errno=0→r.2.At=0∧Ef s r.1)) gp:=by
 unfold lC
 refine Ev.aW (fun _=>Ev.ok ⟨by simp,by simp,by simp⟩) (fun h=>?_)
 refine Ev.iter hm (fun (x:bN)=>xG s x) (fun x=>(s.length - x.at_).toNat) ⟨rfl,by simp,by simp,by simp,by simp,by simp⟩ ?_
 intro x hx next hn
 have hl:=hx.out.len
 have h0:=hx.uU
 have h1:=hx.vJ
 refine Ev.aW (fun hlt=>?_) (fun hge=>?_)
 ·refine Ev.el (by omega) (by omega) (fun b hb=>?_)
  refine Ev.jn (fun _=>True) (fun v _=>?_) (fun j hj=>?_)
  ·refine Ev.gd (by (first|omega|(simp only[aD]<;>omega)|(simp[aD,aL,aN,maxLen]<;>omega))) (hn _ ⟨hx.text,by dsimp only;omega,by dsimp only;omega,hx.out.mono (by dsimp only;omega)⟩ (by dsimp only;omega))
  ·refine Ev.bm (fun _=>?_) (fun _=>?_)
   ·refine Ev.br (fun _=>?_) (fun _=>hj _ trivial)
    refine Ev.bind (hx.add (by omega) (by omega) (by omega) (by simp) (by decide) (fun q=>by simp at q)) (fun _ q=>q) fun r hr=>?_
    exact hn _ ⟨hr.1.text,hr.1.uU,hr.1.vJ,hr.1.out⟩ (by have:=hr.1.vJ;dsimp only;omega)
   ·(repeat' (first|((with_reducible refine Ev.gd ?_ ?_);(next=>(first|omega|(simp only[aD,aL,aN,maxLen,List.length_append,List.length_cons,List.length_nil]<;>omega)|(simp[aD,aL,aN,maxLen]<;>omega))))|with_reducible refine Ev.cq ?_|with_reducible refine Ev.cr ?_|with_reducible refine Ev.aW (fun _=>?_) (fun _=>?_)|with_reducible refine Ev.bm (fun _=>?_) (fun _=>?_)|with_reducible refine Ev.bM (fun _=>?_) (fun _=>?_)|with_reducible refine Ev.bj (fun _=>?_) (fun _=>?_)|with_reducible refine Ev.br (fun _=>?_) (fun _=>?_)|((with_reducible refine Ev.el ?_ ?_ (fun _ _=>?_));(next=>(first|omega|(simp only[aD,aL,aN,maxLen,List.length_append,List.length_cons,List.length_nil]<;>omega)|(simp[aD,aL,aN,maxLen]<;>omega)));(next=>(first|omega|(simp only[aD,aL,aN,maxLen,List.length_append,List.length_cons,List.length_nil]<;>omega)|(simp[aD,aL,aN,maxLen]<;>omega))))|((with_reducible refine Ev.ka ?_);try dsimp only)))
    all_goals first|exact hj _ trivial|skip
    refine Ev.bind (qc hm (by omega) hx hlt) (fun _ q=>q) fun r hr=>?_
    refine Ev.bj (fun _=>Ev.ok ⟨hr.1.uU,hr.1.vJ,by simp⟩) (fun hb=>hn _ hr.1 (by have:=hr.1.vJ;have:=hr.2 hb;omega))
 ·have:x.at_=s.length:=by omega
  refine Ev.bind (l9 (by omega) (by omega) (by omega) (by omega) (by omega) (by simp)) (fun _ q=>q) fun r hr=>?_
  refine Ev.ok ⟨by simp,by simp,fun _=>⟨rfl,by omega,x.out,?_,this▸hx.out⟩⟩
  rw[hr.2.2,this];simp
end Go.Abs
end
section
namespace Go.Abs
open ay
theorem wrap_i64 {x:Int} (h0:-9223372036854775808≤x) (h1:x≤9223372036854775807):IntKind.wrap .i64 x=x:=by
 have:IntKind.wrap .i64 x=if x % 18446744073709551616≥9223372036854775808 then x % 18446744073709551616 - 18446744073709551616 else x % 18446744073709551616:=by
  simp[IntKind.wrap,IntKind.bits,IntKind.signed]
 rw[this];split<;>omega
theorem Cb {v:Int} (h0:0≤v) (h1:v<256):0≤IntKind.wrap .i64 (Int.tdiv v 64)∧IntKind.wrap .i64 (Int.tdiv v 64)<4:=by
 have:Int.tdiv v 64=v / 64:=Int.tdiv_eq_ediv_of_nonneg h0
 rw[this,wrap_i64 (by omega) (by omega)];omega
theorem eK {m:Nat→Nat} (hm:b1 m) {a b:Int}:Ev (fun i=>fe (m i) a b) (fun _=>True) gp:=by
 unfold fe
 refine Ev.iter hm (fun (x:ek×Int)=>0≤x.2∧x.2≤256) (fun x=>(256 - x.2).toNat) (by simp) ?_
 intro x hx next hn
 refine Ev.aW (fun h=>?_) (fun _=>Ev.ok trivial)
 have hw:=Cb hx.1 h
 have ht:0≤Int.tmod x.2 64:=Int.tmod_nonneg _ hx.1
 refine Ev.jn (fun _=>True) (fun v _=>?_) (fun j hj=>?_)
 ·refine Ev.br (fun _=>?_) (fun _=>?_)
  ·refine Ev.gd (by omega) (Ev.gd hw (Ev.gd (by omega) (Ev.gd ht (Ev.gd hw (Ev.gd (by (first|omega|(simp only[aD]<;>omega)|(simp[aD,aL,aN,maxLen]<;>omega))) ?_)))))
   exact hn _ (by dsimp only;omega) (by dsimp only;omega)
  ·refine Ev.gd (by (first|omega|(simp only[aD]<;>omega)|(simp[aD,aL,aN,maxLen]<;>omega))) ?_
   exact hn _ (by dsimp only;omega) (by dsimp only;omega)
 ·(repeat' (first|((with_reducible refine Ev.gd ?_ ?_);(next=>(first|omega|(simp only[aD,aL,aN,maxLen,List.length_append,List.length_cons,List.length_nil]<;>omega)|(simp[aD,aL,aN,maxLen]<;>omega))))|with_reducible refine Ev.cq ?_|with_reducible refine Ev.cr ?_|with_reducible refine Ev.aW (fun _=>?_) (fun _=>?_)|with_reducible refine Ev.bm (fun _=>?_) (fun _=>?_)|with_reducible refine Ev.bM (fun _=>?_) (fun _=>?_)|with_reducible refine Ev.bj (fun _=>?_) (fun _=>?_)|with_reducible refine Ev.br (fun _=>?_) (fun _=>?_)|((with_reducible refine Ev.el ?_ ?_ (fun _ _=>?_));(next=>(first|omega|(simp only[aD,aL,aN,maxLen,List.length_append,List.length_cons,List.length_nil]<;>omega)|(simp[aD,aL,aN,maxLen]<;>omega)));(next=>(first|omega|(simp only[aD,aL,aN,maxLen,List.length_append,List.length_cons,List.length_nil]<;>omega)|(simp[aD,aL,aN,maxLen]<;>omega))))|((with_reducible refine Ev.ka ?_);try dsimp only)))
  all_goals exact hj _ trivial
theorem iF {m:Nat→Nat} (hm:b1 m) {a b:ek}:Ev (fun i=>iE (m i) a b) (fun _=>True) gp:=by
 unfold iE
 refine Ev.iter hm (fun (x:ek×Int)=>0≤x.2∧x.2≤4) (fun x=>(4 - x.2).toNat) (by simp) ?_
 intro x hx next hn
 (repeat' (first|((with_reducible refine Ev.gd ?_ ?_);(next=>(first|omega|(simp only[aD]<;>omega)|(simp[aD,aL,aN,maxLen]<;>omega))))|with_reducible refine Ev.cq ?_|with_reducible refine Ev.cr ?_|with_reducible refine Ev.aW (fun _=>?_) (fun _=>?_)|with_reducible refine Ev.bm (fun _=>?_) (fun _=>?_)|with_reducible refine Ev.bM (fun _=>?_) (fun _=>?_)|with_reducible refine Ev.bj (fun _=>?_) (fun _=>?_)|with_reducible refine Ev.br (fun _=>?_) (fun _=>?_)|((with_reducible refine Ev.el ?_ ?_ (fun _ _=>?_));(next=>(first|omega|(simp only[aD,aL,aN,maxLen,List.length_append,List.length_cons,List.length_nil]<;>omega)|(simp[aD,aL,aN,maxLen]<;>omega)));(next=>(first|omega|(simp only[aD,aL,aN,maxLen,List.length_append,List.length_cons,List.length_nil]<;>omega)|(simp[aD,aL,aN,maxLen]<;>omega))))|((with_reducible refine Ev.ka ?_);try dsimp only)))
 ·exact hn _ (by dsimp only;omega) (by dsimp only;omega)
 ·exact Ev.ok trivial
theorem uH {m:Nat→Nat} (hm:b1 m) {a:ek}:Ev (fun i=>nW (m i) a) (fun _=>True) gp:=by
 unfold nW
 refine Ev.iter hm (fun (x:ek×Int)=>0≤x.2∧x.2≤4) (fun x=>(4 - x.2).toNat) (by simp) ?_
 intro x hx next hn
 (repeat' (first|((with_reducible refine Ev.gd ?_ ?_);(next=>(first|omega|(simp only[aD]<;>omega)|(simp[aD,aL,aN,maxLen]<;>omega))))|with_reducible refine Ev.cq ?_|with_reducible refine Ev.cr ?_|with_reducible refine Ev.aW (fun _=>?_) (fun _=>?_)|with_reducible refine Ev.bm (fun _=>?_) (fun _=>?_)|with_reducible refine Ev.bM (fun _=>?_) (fun _=>?_)|with_reducible refine Ev.bj (fun _=>?_) (fun _=>?_)|with_reducible refine Ev.br (fun _=>?_) (fun _=>?_)|((with_reducible refine Ev.el ?_ ?_ (fun _ _=>?_));(next=>(first|omega|(simp only[aD,aL,aN,maxLen,List.length_append,List.length_cons,List.length_nil]<;>omega)|(simp[aD,aL,aN,maxLen]<;>omega)));(next=>(first|omega|(simp only[aD,aL,aN,maxLen,List.length_append,List.length_cons,List.length_nil]<;>omega)|(simp[aD,aL,aN,maxLen]<;>omega))))|((with_reducible refine Ev.ka ?_);try dsimp only)))
 ·exact hn _ (by dsimp only;omega) (by dsimp only;omega)
 ·exact Ev.ok trivial
inductive vf:aO→Prop where
 | mk {k a b c d:Int} {l:List aO} (h:l.length≤70000) (hs:∀ x,x∈l→vf x):vf (aO.mk k a b c d l)
theorem vf.leaf {k a b c d:Int}:vf (aO.mk k a b c d []):=.mk (by simp) (by simp)
theorem uI {m:Nat→Nat} (hm:b1 m) {c:Int}:Ev (fun i=>nU (m i) c) (fun _=>True) gp:=by
 unfold nU
 refine Ev.bind (eK hm) (fun _ q=>q) fun _ _=>?_
 (repeat' (first|((with_reducible refine Ev.gd ?_ ?_);(next=>(first|omega|(simp only[aD,aL,aN,maxLen,List.length_append,List.length_cons,List.length_nil]<;>omega)|(simp[aD,aL,aN,maxLen]<;>omega))))|with_reducible refine Ev.cq ?_|with_reducible refine Ev.cr ?_|with_reducible refine Ev.aW (fun _=>?_) (fun _=>?_)|with_reducible refine Ev.bm (fun _=>?_) (fun _=>?_)|with_reducible refine Ev.bM (fun _=>?_) (fun _=>?_)|with_reducible refine Ev.bj (fun _=>?_) (fun _=>?_)|with_reducible refine Ev.br (fun _=>?_) (fun _=>?_)|((with_reducible refine Ev.el ?_ ?_ (fun _ _=>?_));(next=>(first|omega|(simp only[aD,aL,aN,maxLen,List.length_append,List.length_cons,List.length_nil]<;>omega)|(simp[aD,aL,aN,maxLen]<;>omega)));(next=>(first|omega|(simp only[aD,aL,aN,maxLen,List.length_append,List.length_cons,List.length_nil]<;>omega)|(simp[aD,aL,aN,maxLen]<;>omega))))|((with_reducible refine Ev.ka ?_);try dsimp only)))
 ·exact Ev.ok trivial
 ·refine Ev.bind (eK hm) (fun _ q=>q) fun _ _=>Ev.bind (eK hm) (fun _ q=>q) fun _ _=>Ev.bind (iF hm) (fun _ q=>q) fun _ _=>Ev.bind (iF hm) (fun _ q=>q) fun _ _=>Ev.bind (eK hm) (fun _ q=>q) fun _ _=>Ev.bind (iF hm) (fun _ q=>q) fun _ _=>Ev.ok trivial
 ·refine Ev.bind (eK hm) (fun _ q=>q) fun _ _=>Ev.bind (eK hm) (fun _ q=>q) fun _ _=>Ev.bind (iF hm) (fun _ q=>q) fun _ _=>Ev.bind (eK hm) (fun _ q=>q) fun _ _=>Ev.bind (iF hm) (fun _ q=>q) fun _ _=>Ev.ok trivial
 ·exact Ev.ok trivial
theorem pE {m:Nat→Nat} (hm:b1 m) {c:Int}:Ev (fun i=>nc (m i) c) vf gp:=by
 unfold nc
 exact Ev.bind (eK hm) (fun _ q=>q) fun _ _=>Ev.ok .leaf
def RP:rX→Prop:=fun p=>∃ v:Int,p=⟨202,[.sc (.int .i64 v)]⟩
theorem rM {α:Type} {a:Int} {p:aj} {K:Nat→aj→ay α} {Q:α→Prop}:Ev (fun i=>ay.bind (cJ a p) (K i)) Q RP:=by
 unfold cJ
 exact Ev.nl ⟨a,rfl⟩
structure RI (s:List UInt8) (p:aj):Prop where
 text:p.text=s
 uU:0≤p.at_
 vJ:p.at_≤s.length
theorem ca {s:List UInt8} {p:aj} (h:RI s p):Ev (fun _=>b7 p) (fun r=>r.2=p∧(r.1≠0→p.at_<s.length)) gp:=by
 have h0:=h.uU
 have ht:=h.text
 unfold b7
 rw[ht]
 (repeat' (first|((with_reducible refine Ev.gd ?_ ?_);(next=>(first|omega|(simp only[aD,aL,aN,maxLen,List.length_append,List.length_cons,List.length_nil]<;>omega)|(simp[aD,aL,aN,maxLen]<;>omega))))|with_reducible refine Ev.cq ?_|with_reducible refine Ev.cr ?_|with_reducible refine Ev.aW (fun _=>?_) (fun _=>?_)|with_reducible refine Ev.bm (fun _=>?_) (fun _=>?_)|with_reducible refine Ev.bM (fun _=>?_) (fun _=>?_)|with_reducible refine Ev.bj (fun _=>?_) (fun _=>?_)|with_reducible refine Ev.br (fun _=>?_) (fun _=>?_)|((with_reducible refine Ev.el ?_ ?_ (fun _ _=>?_));(next=>(first|omega|(simp only[aD,aL,aN,maxLen,List.length_append,List.length_cons,List.length_nil]<;>omega)|(simp[aD,aL,aN,maxLen]<;>omega)));(next=>(first|omega|(simp only[aD,aL,aN,maxLen,List.length_append,List.length_cons,List.length_nil]<;>omega)|(simp[aD,aL,aN,maxLen]<;>omega))))|((with_reducible refine Ev.ka ?_);try dsimp only)))
 ·exact Ev.ok ⟨rfl,fun _=>by omega⟩
 ·exact Ev.ok ⟨rfl,fun h=>absurd rfl h⟩
theorem uJ {c:Int}:Ev (fun _=>nV c) (fun r=>r.2=true→c≠0) gp:=by
 unfold nV
 refine Ev.jn (fun v=>v=true→c≠0) (fun v hv=>?_) (fun j hj=>?_)
 ·refine Ev.br (fun h=>Ev.ok fun _=>hv h) (fun _=>?_)
  refine Ev.jn (fun v=>v=true→c≠0) (fun v hv=>?_) (fun j hj=>?_)
  ·refine Ev.br (fun h=>Ev.ok fun _=>hv h) (fun _=>?_)
   (repeat' (first|((with_reducible refine Ev.gd ?_ ?_);(next=>(first|omega|(simp only[aD,aL,aN,maxLen,List.length_append,List.length_cons,List.length_nil]<;>omega)|(simp[aD,aL,aN,maxLen]<;>omega))))|with_reducible refine Ev.cq ?_|with_reducible refine Ev.cr ?_|with_reducible refine Ev.aW (fun _=>?_) (fun _=>?_)|with_reducible refine Ev.bm (fun _=>?_) (fun _=>?_)|with_reducible refine Ev.bM (fun _=>?_) (fun _=>?_)|with_reducible refine Ev.bj (fun _=>?_) (fun _=>?_)|with_reducible refine Ev.br (fun _=>?_) (fun _=>?_)|((with_reducible refine Ev.el ?_ ?_ (fun _ _=>?_));(next=>(first|omega|(simp only[aD,aL,aN,maxLen,List.length_append,List.length_cons,List.length_nil]<;>omega)|(simp[aD,aL,aN,maxLen]<;>omega)));(next=>(first|omega|(simp only[aD,aL,aN,maxLen,List.length_append,List.length_cons,List.length_nil]<;>omega)|(simp[aD,aL,aN,maxLen]<;>omega))))|((with_reducible refine Ev.ka ?_);try dsimp only)))
   ·exact Ev.ok fun _=>by omega
   all_goals exact Ev.ok (by simp)
  ·(repeat' (first|((with_reducible refine Ev.gd ?_ ?_);(next=>(first|omega|(simp only[aD,aL,aN,maxLen,List.length_append,List.length_cons,List.length_nil]<;>omega)|(simp[aD,aL,aN,maxLen]<;>omega))))|with_reducible refine Ev.cq ?_|with_reducible refine Ev.cr ?_|with_reducible refine Ev.aW (fun _=>?_) (fun _=>?_)|with_reducible refine Ev.bm (fun _=>?_) (fun _=>?_)|with_reducible refine Ev.bM (fun _=>?_) (fun _=>?_)|with_reducible refine Ev.bj (fun _=>?_) (fun _=>?_)|with_reducible refine Ev.br (fun _=>?_) (fun _=>?_)|((with_reducible refine Ev.el ?_ ?_ (fun _ _=>?_));(next=>(first|omega|(simp only[aD,aL,aN,maxLen,List.length_append,List.length_cons,List.length_nil]<;>omega)|(simp[aD,aL,aN,maxLen]<;>omega)));(next=>(first|omega|(simp only[aD,aL,aN,maxLen,List.length_append,List.length_cons,List.length_nil]<;>omega)|(simp[aD,aL,aN,maxLen]<;>omega))))|((with_reducible refine Ev.ka ?_);try dsimp only)))
   ·exact hj _ fun _=>by omega
   ·exact hj _ (by simp)
 ·(repeat' (first|((with_reducible refine Ev.gd ?_ ?_);(next=>(first|omega|(simp only[aD,aL,aN,maxLen,List.length_append,List.length_cons,List.length_nil]<;>omega)|(simp[aD,aL,aN,maxLen]<;>omega))))|with_reducible refine Ev.cq ?_|with_reducible refine Ev.cr ?_|with_reducible refine Ev.aW (fun _=>?_) (fun _=>?_)|with_reducible refine Ev.bm (fun _=>?_) (fun _=>?_)|with_reducible refine Ev.bM (fun _=>?_) (fun _=>?_)|with_reducible refine Ev.bj (fun _=>?_) (fun _=>?_)|with_reducible refine Ev.br (fun _=>?_) (fun _=>?_)|((with_reducible refine Ev.el ?_ ?_ (fun _ _=>?_));(next=>(first|omega|(simp only[aD,aL,aN,maxLen,List.length_append,List.length_cons,List.length_nil]<;>omega)|(simp[aD,aL,aN,maxLen]<;>omega)));(next=>(first|omega|(simp only[aD,aL,aN,maxLen,List.length_append,List.length_cons,List.length_nil]<;>omega)|(simp[aD,aL,aN,maxLen]<;>omega))))|((with_reducible refine Ev.ka ?_);try dsimp only)))
  ·exact hj _ fun _=>by omega
  ·exact hj _ (by simp)
theorem mT {m:Nat→Nat} (hm:b1 m) {s:List UInt8} (hs:s.length≤70000) {p:aj} (h:RI s p) (hlt:p.at_<s.length) {c:Int} :
  Ev (fun i=>fG (m i) c p) (fun r=>RI s r.2∧p.at_<r.2.at_) RP:=by
 have h0:=h.uU
 unfold fG
 refine Ev.iter hm (fun (x:aj×Int×Int)=>RI s x.1∧x.1.at_<s.length∧p.at_≤x.1.at_∧0≤x.2.2∧x.2.2≤2) (fun x=>(2 - x.2.2).toNat) ⟨h,hlt,by simp,by simp,by simp⟩ ?_
 rintro x ⟨h1,h2,h3,h4,h5⟩ next hn
 have h6:=h1.uU
 refine Ev.aW (fun hi=>?_) (fun hi=>?_)
 ·refine Ev.gd (by omega) (Ev.gd (by (first|omega|(simp only[aD]<;>omega)|(simp[aD,aL,aN,maxLen]<;>omega))) ?_)
  have hR:RI s (aj.mk x.1.text (x.1.at_+1)):=⟨h1.text,by dsimp only;omega,by dsimp only;omega⟩
  refine Ev.bind (ca hR) (fun _ q=>q.elim) fun y hy=>?_
  refine Ev.bind uJ (fun _ q=>q.elim) fun d hd=>?_
  refine Ev.gd (by omega) ?_
  refine Ev.jn (fun v=>v=false→d.2=true) (fun v hv=>?_) (fun j hj=>?_)
  ·refine Ev.br (fun _=>rM) (fun hf=>?_)
   have:=hy.2 (hd (hv hf))
   rw[hy.1]
   refine Ev.gd (by (first|omega|(simp only[aD]<;>omega)|(simp[aD,aL,aN,maxLen]<;>omega))) (hn _ ⟨hR,this,?_,?_,?_⟩ ?_)
   all_goals (dsimp only at *;omega)
  ·refine Ev.bj (fun _=>hj _ (by simp)) (fun hd2=>?_)
   (repeat' (first|((with_reducible refine Ev.gd ?_ ?_);(next=>(first|omega|(simp only[aD,aL,aN,maxLen,List.length_append,List.length_cons,List.length_nil]<;>omega)|(simp[aD,aL,aN,maxLen]<;>omega))))|with_reducible refine Ev.cq ?_|with_reducible refine Ev.cr ?_|with_reducible refine Ev.aW (fun _=>?_) (fun _=>?_)|with_reducible refine Ev.bm (fun _=>?_) (fun _=>?_)|with_reducible refine Ev.bM (fun _=>?_) (fun _=>?_)|with_reducible refine Ev.bj (fun _=>?_) (fun _=>?_)|with_reducible refine Ev.br (fun _=>?_) (fun _=>?_)|((with_reducible refine Ev.el ?_ ?_ (fun _ _=>?_));(next=>(first|omega|(simp only[aD,aL,aN,maxLen,List.length_append,List.length_cons,List.length_nil]<;>omega)|(simp[aD,aL,aN,maxLen]<;>omega)));(next=>(first|omega|(simp only[aD,aL,aN,maxLen,List.length_append,List.length_cons,List.length_nil]<;>omega)|(simp[aD,aL,aN,maxLen]<;>omega))))|((with_reducible refine Ev.ka ?_);try dsimp only)))
   all_goals exact hj _ (fun _=>hd2)
 ·refine Ev.gd (by (first|omega|(simp only[aD]<;>omega)|(simp[aD,aL,aN,maxLen]<;>omega))) (Ev.ok ⟨⟨h1.text,?_,?_⟩,?_⟩)
  all_goals (dsimp only;omega)
theorem iY {m:Nat→Nat} (hm:b1 m) {s:List UInt8} (hs:s.length≤70000) {p:aj} (h:RI s p) (hlt:p.at_<s.length) {c:Int} :
  Ev (fun i=>eQ (m i) c p) (fun r=>RI s r.2∧p.at_<r.2.at_) RP:=by
 have h0:=h.uU
 unfold eQ
 rw[h.text]
 refine Ev.gd (by (first|omega|(simp only[aD]<;>omega)|(simp[aD,aL,aN,maxLen]<;>omega))) ?_
 have hR:RI s (aj.mk s (p.at_+1)):=⟨rfl,by dsimp only;omega,by dsimp only;omega⟩
 refine Ev.bind (ca hR) (fun _ q=>q.elim) fun y hy=>?_
 rw[hy.1];dsimp only
 refine Ev.jn (fun v=>v.1=(aj.mk s (p.at_+1))∧p.at_+1<s.length) (fun v hv=>?_) (fun j hj=>?_)
 ·refine Ev.jn (fun v=>v=(aj.mk s (p.at_+1))) (fun v2 hv2=>?_) (fun j hj=>?_)
  ·subst hv2
   refine Ev.gd (by (first|omega|(simp only[aD]<;>omega)|(simp[aD,aL,aN,maxLen]<;>omega))) (Ev.ok ⟨⟨rfl,?_,?_⟩,?_⟩)
   all_goals (dsimp only;omega)
  ·exact Ev.aW (fun _=>rM) (fun _=>hj _ hv.1)
 ·refine Ev.aW (fun _=>rM) (fun hlt2=>?_)
  have hlt3:p.at_+1<s.length:=by omega
  (repeat' (first|((with_reducible refine Ev.gd ?_ ?_);(next=>(first|omega|(simp only[aD,aL,aN,maxLen,List.length_append,List.length_cons,List.length_nil]<;>omega)|(simp[aD,aL,aN,maxLen]<;>omega))))|with_reducible refine Ev.cq ?_|with_reducible refine Ev.cr ?_|with_reducible refine Ev.aW (fun _=>?_) (fun _=>?_)|with_reducible refine Ev.bm (fun _=>?_) (fun _=>?_)|with_reducible refine Ev.bM (fun _=>?_) (fun _=>?_)|with_reducible refine Ev.bj (fun _=>?_) (fun _=>?_)|with_reducible refine Ev.br (fun _=>?_) (fun _=>?_)|((with_reducible refine Ev.el ?_ ?_ (fun _ _=>?_));(next=>(first|omega|(simp only[aD,aL,aN,maxLen,List.length_append,List.length_cons,List.length_nil]<;>omega)|(simp[aD,aL,aN,maxLen]<;>omega)));(next=>(first|omega|(simp only[aD,aL,aN,maxLen,List.length_append,List.length_cons,List.length_nil]<;>omega)|(simp[aD,aL,aN,maxLen]<;>omega))))|((with_reducible refine Ev.ka ?_);try dsimp only)))
  ·refine (Ev.bind (mT hm hs hR (by dsimp only;omega)) (fun _ q=>q) fun z hz=>Ev.ok ⟨hz.1,?_⟩)
   have:=hz.2;dsimp only at *;omega
  ·exact hj _ ⟨rfl,hlt3⟩
  ·exact hj _ ⟨rfl,hlt3⟩
  ·exact hj _ ⟨rfl,hlt3⟩
  ·refine Ev.vF (Q:=fun _=>True) (Ev.ok trivial) fun z _=>?_
   exact Ev.aW (fun _=>rM) (fun _=>hj _ ⟨rfl,hlt3⟩)
theorem ma {m:Nat→Nat} (hm:b1 m) {s:List UInt8} (hs:s.length≤70000) {p:aj} (h:RI s p) {c:Int} :
  Ev (fun i=>ig (m i) c p) (fun r=>RI s r.2∧p.at_<r.2.at_) RP:=by
 have h0:=h.uU
 have h1:=h.vJ
 unfold ig
 refine Ev.bind (ca h) (fun _ q=>q.elim) fun y hy=>?_
 rw[hy.1]
 refine Ev.jn (fun v=>v=p∧p.at_<s.length) (fun v hv=>?_) (fun j hj=>?_)
 ·rw[hv.1]
  refine Ev.gd (by (first|omega|(simp only[aD]<;>omega)|(simp[aD,aL,aN,maxLen]<;>omega))) (Ev.ok ⟨⟨h.text,?_,?_⟩,?_⟩)
  all_goals (dsimp only;omega)
 ·rw[h.text]
  refine Ev.aW (fun _=>rM) (fun hlt2=>?_)
  have hlt:p.at_<s.length:=by omega
  refine Ev.bm (fun _=>?_) (fun _=>?_)
  ·exact Ev.bind (iY hm hs h hlt) (fun _ q=>q) fun z hz=>Ev.ok hz
  ·refine Ev.jn (fun _=>True) (fun v _=>?_) (fun j2 hj2=>?_)
   ·exact Ev.br (fun _=>rM) (fun _=>hj _ ⟨rfl,hlt⟩)
   ·(repeat' (first|((with_reducible refine Ev.gd ?_ ?_);(next=>(first|omega|(simp only[aD,aL,aN,maxLen,List.length_append,List.length_cons,List.length_nil]<;>omega)|(simp[aD,aL,aN,maxLen]<;>omega))))|with_reducible refine Ev.cq ?_|with_reducible refine Ev.cr ?_|with_reducible refine Ev.aW (fun _=>?_) (fun _=>?_)|with_reducible refine Ev.bm (fun _=>?_) (fun _=>?_)|with_reducible refine Ev.bM (fun _=>?_) (fun _=>?_)|with_reducible refine Ev.bj (fun _=>?_) (fun _=>?_)|with_reducible refine Ev.br (fun _=>?_) (fun _=>?_)|((with_reducible refine Ev.el ?_ ?_ (fun _ _=>?_));(next=>(first|omega|(simp only[aD,aL,aN,maxLen,List.length_append,List.length_cons,List.length_nil]<;>omega)|(simp[aD,aL,aN,maxLen]<;>omega)));(next=>(first|omega|(simp only[aD,aL,aN,maxLen,List.length_append,List.length_cons,List.length_nil]<;>omega)|(simp[aD,aL,aN,maxLen]<;>omega))))|((with_reducible refine Ev.ka ?_);try dsimp only)))
    ·exact hj2 _ trivial
    ·exact hj2 _ trivial
    ·exact hj2 _ trivial
    ·exact Ev.vF (Q:=fun _=>True) (Ev.ok trivial) fun z _=>hj2 _ trivial
theorem ry {m:Nat→Nat} (hm:b1 m) {s:List UInt8} (hs:s.length≤70000) {p:aj} (h:RI s p) (hlt:p.at_<s.length) :
  Ev (fun i=>kg (m i) p) (fun r=>RI s r.2∧p.at_<r.2.at_∧vf r.1) RP:=by
 have h0:=h.uU
 unfold kg
 refine Ev.gd (by (first|omega|(simp only[aD]<;>omega)|(simp[aD,aL,aN,maxLen]<;>omega))) ?_
 have hR:RI s (aj.mk p.text (p.at_+1)):=⟨h.text,by dsimp only;omega,by dsimp only;omega⟩
 refine Ev.bind (ca hR) (fun _ q=>q.elim) fun y hy=>?_
 rw[hy.1];dsimp only
 have hy2:=hy.2;dsimp only at hy2
 refine Ev.jn (fun v=>RI s v∧p.at_<v.at_) (fun v hv=>?_) (fun j hj=>?_)
 ·refine Ev.jn (fun w=>RI s w.1∧p.at_<w.1.at_∧(w.2=true→w.1.at_<s.length)) (fun w hw=>?_) (fun j hj=>?_)
  ·have hw0:=hw.1.uU
   have hw1:=hw.1.vJ
   refine Ev.br (fun hb=>?_) (fun _=>?_)
   ·have:=hw.2.2 hb
    refine Ev.gd (by (first|omega|(simp only[aD]<;>omega)|(simp[aD,aL,aN,maxLen]<;>omega))) (Ev.ok ⟨⟨hw.1.text,?_,?_⟩,?_,.leaf⟩)
    all_goals (dsimp only;omega)
   ·refine Ev.iter hm (fun (x:aj×ek×Bool)=>RI s x.1∧p.at_<x.1.at_) (fun x=>(s.length - x.1.at_).toNat) ⟨hw.1,hw.2.1⟩ ?_
    rintro x ⟨hx1,hx2⟩ next hn
    have hx0:=hx1.uU
    have hx3:=hx1.vJ
    refine Ev.jn (fun v=>v=x.1) (fun v hv=>?_) (fun j hj=>?_)
    ·subst hv
     refine Ev.bind (ma hm hs hx1) (fun _ q=>q) fun z hz=>?_
     have hz0:=hz.1.uU
     have hz1:=hz.1.vJ
     have hz2:=hz.2
     refine Ev.bind (ca hz.1) (fun _ q=>q.elim) fun z2 hz2=>?_
     rw[hz2.1]
     refine Ev.bm (fun hq=>?_) (fun _=>?_)
     ·have:=hz2.2 (by omega)
      have hR2:RI s (aj.mk z.2.text (z.2.at_+1)):=⟨hz.1.text,by dsimp only;omega,by dsimp only;omega⟩
      refine Ev.gd (by (first|omega|(simp only[aD]<;>omega)|(simp[aD,aL,aN,maxLen]<;>omega))) (Ev.bind (ma hm hs hR2) (fun _ q=>q) fun z3 hz3=>?_)
      have hz4:=hz3.1.vJ
      have hz5:=hz3.2;dsimp only at hz5
      refine Ev.bind (eK hm) (fun _ q=>q.elim) fun _ _=>Ev.bind (iF hm) (fun _ q=>q.elim) fun _ _=>hn _ ⟨hz3.1,?_⟩ ?_
      all_goals (dsimp only;omega)
     ·refine Ev.bind (eK hm) (fun _ q=>q.elim) fun _ _=>Ev.bind (iF hm) (fun _ q=>q.elim) fun _ _=>hn _ ⟨hz.1,?_⟩ ?_
      all_goals (dsimp only;omega)
    ·refine Ev.br (fun _=>hj _ rfl) (fun _=>?_)
     refine Ev.bind (ca hx1) (fun _ q=>q.elim) fun z2 hz2=>?_
     rw[hz2.1]
     refine Ev.bM (fun _=>hj _ rfl) (fun hq=>?_)
     have:=hz2.2 (by omega)
     refine Ev.gd (by (first|omega|(simp only[aD]<;>omega)|(simp[aD,aL,aN,maxLen]<;>omega))) ?_
     (repeat' (first|((with_reducible refine Ev.gd ?_ ?_);(next=>(first|omega|(simp only[aD,aL,aN,maxLen,List.length_append,List.length_cons,List.length_nil]<;>omega)|(simp[aD,aL,aN,maxLen]<;>omega))))|with_reducible refine Ev.cq ?_|with_reducible refine Ev.cr ?_|with_reducible refine Ev.aW (fun _=>?_) (fun _=>?_)|with_reducible refine Ev.bm (fun _=>?_) (fun _=>?_)|with_reducible refine Ev.bM (fun _=>?_) (fun _=>?_)|with_reducible refine Ev.bj (fun _=>?_) (fun _=>?_)|with_reducible refine Ev.br (fun _=>?_) (fun _=>?_)|((with_reducible refine Ev.el ?_ ?_ (fun _ _=>?_));(next=>(first|omega|(simp only[aD,aL,aN,maxLen,List.length_append,List.length_cons,List.length_nil]<;>omega)|(simp[aD,aL,aN,maxLen]<;>omega)));(next=>(first|omega|(simp only[aD,aL,aN,maxLen,List.length_append,List.length_cons,List.length_nil]<;>omega)|(simp[aD,aL,aN,maxLen]<;>omega))))|((with_reducible refine Ev.ka ?_);try dsimp only)))
     ·refine Ev.bind (uH hm) (fun _ q=>q.elim) fun _ _=>Ev.ok ⟨⟨hx1.text,?_,?_⟩,?_,.leaf⟩
      all_goals (dsimp only;omega)
     ·refine Ev.ok ⟨⟨hx1.text,?_,?_⟩,?_,.leaf⟩
      all_goals (dsimp only;omega)
  ·refine Ev.bj (fun _=>?_) (fun _=>hj _ ⟨hv.1,hv.2,by simp⟩)
   refine Ev.bind (ca hv.1) (fun _ q=>q.elim) fun z2 hz2=>?_
   rw[hz2.1]
   refine hj _ ⟨hv.1,hv.2,fun hq=>hz2.2 ?_⟩
   have:=beq_iff_eq.1 hq
   omega
 ·refine Ev.bm (fun hq=>?_) (fun _=>hj _ ⟨hR,by dsimp only;omega⟩)
  have:=hy2 (by omega)
  refine Ev.gd (by (first|omega|(simp only[aD]<;>omega)|(simp[aD,aL,aN,maxLen]<;>omega))) (hj _ ⟨⟨h.text,?_,?_⟩,?_⟩)
  all_goals (dsimp only;omega)
theorem lK {k:Int} {l:List aO} (h:l.length≤70000) (hs:∀ x,x∈l→vf x):Ev (fun _=>kK k l) vf gp:=by
 unfold kK
 refine Ev.bm (fun _=>?_) (fun _=>Ev.ok (.mk h hs))
 exact Ev.el (by omega) (by omega) fun x hx=>Ev.ok (hs x (List.mem_of_getElem? hx))
structure RG (s:List UInt8) (k:Nat):Prop where
 alt:∀ {m:Nat→Nat} {p:aj},b1 m→RI s p→8*(s.length - p.at_).toNat+6<k→Ev (fun i=>bZ (m i) p) (fun r=>RI s r.2∧p.at_<r.2.at_∧vf r.1) RP
 Eg:∀ {m:Nat→Nat} {p:aj},b1 m→RI s p→8*(s.length - p.at_).toNat+5<k→Ev (fun i=>cb (m i) p) (fun r=>RI s r.2∧p.at_<r.2.at_∧vf r.1) RP
 CF:∀ {m:Nat→Nat} {p:aj} {l:List aO},b1 m→RI s p→8*(s.length - p.at_).toNat+4<k→l.length≤70000→(∀ x,x∈l→vf x)→
  Ev (fun i=>bV (m i) l p) (fun r=>RI s r.2∧p.at_<r.2.at_∧r.1.length=l.length+1∧∀ x,x∈r.1→vf x) RP
 piece:∀ {m:Nat→Nat} {p:aj},b1 m→RI s p→8*(s.length - p.at_).toNat+3<k→Ev (fun i=>eo (m i) p) (fun r=>RI s r.2∧p.at_<r.2.at_∧vf r.1) RP
 atom:∀ {m:Nat→Nat} {p:aj},b1 m→RI s p→8*(s.length - p.at_).toNat+2<k→Ev (fun i=>eB (m i) p) (fun r=>RI s r.2∧p.at_<r.2.at_∧vf r.1) RP
 group:∀ {m:Nat→Nat} {p:aj},b1 m→RI s p→p.at_<s.length→8*(s.length - p.at_).toNat+1<k→Ev (fun i=>en (m i) p) (fun r=>RI s r.2∧p.at_<r.2.at_∧vf r.1) RP
theorem DA {s:List UInt8} (hs:s.length≤60000):∀ k,RG s k:=by
 intro k
 induction k with
 | zero=>exact ⟨fun _ _ h=>absurd h (Nat.not_lt_zero _),fun _ _ h=>absurd h (Nat.not_lt_zero _),fun _ _ h=>absurd h (Nat.not_lt_zero _),fun _ _ h=>absurd h (Nat.not_lt_zero _),fun _ _ h=>absurd h (Nat.not_lt_zero _),fun _ _ _ h=>absurd h (Nat.not_lt_zero _)⟩
 | succ k ih=>
  refine ⟨?_,?_,?_,?_,?_,?_⟩
  ·intro m p hm h hk
   have h0:=h.uU
   refine Ev.grow (F:=fun n=>bZ n p) hm fun m hm=>?_
   show Ev (fun i=>eU (m i) (aU (m i)) p) _ _
   unfold eU
   refine Ev.bind (ih.Eg hm h (by omega)) (fun _ q=>q) fun y hy=>?_
   refine Ev.iter hm (fun (x:aj×List aO)=>RI s x.1∧p.at_<x.1.at_∧x.2.length≤x.1.at_∧∀ z,z∈x.2→vf z) (fun x=>(s.length - x.1.at_).toNat) ⟨hy.1,hy.2.1,by simp;omega,by simpa using hy.2.2⟩ ?_
   rintro x ⟨hx1,hx2,hx3,hx4⟩ next hn
   have hx5:=hx1.vJ
   refine Ev.bind (ca hx1) (fun _ q=>q.elim) fun z hz=>?_
   rw[hz.1]
   refine Ev.bm (fun hq=>?_) (fun _=>?_)
   ·have:=hz.2 (by omega)
    have hR:RI s (aj.mk x.1.text (x.1.at_+1)):=⟨hx1.text,by dsimp only;omega,by dsimp only;omega⟩
    refine Ev.gd (by (first|omega|(simp only[aD]<;>omega)|(simp[aD,aL,aN,maxLen]<;>omega))) (Ev.bind (ih.Eg hm hR (by dsimp only;omega)) (fun _ q=>q) fun w hw=>?_)
    have hw1:=hw.2.1;dsimp only at hw1
    have hw2:=hw.1.vJ
    refine Ev.gd (by (first|omega|(simp only[aL,maxLen,List.length_cons,List.length_nil]<;>omega)|(simp[aD,aL,aN,maxLen]<;>omega))) (hn _ ⟨hw.1,by dsimp only;omega,by simp;omega,fun z hz=>?_⟩ (by dsimp only;omega))
    rcases List.mem_append.1 hz with q|q
    ·exact hx4 z q
    ·simp at q;subst q;exact hw.2.2
   ·exact Ev.bind (lK (by omega) hx4) (fun _ q=>q.elim) fun w hw=>Ev.ok ⟨hx1,hx2,hw⟩
  ·intro m p hm h hk
   have h0:=h.uU
   refine Ev.grow (F:=fun n=>cb n p) hm fun m hm=>?_
   show Ev (fun i=>eL (m i) (aU (m i)) p) _ _
   unfold eL
   refine Ev.bind (ih.CF (l:=[]) hm h (by omega) (by simp) (by simp)) (fun _ q=>q) fun y hy=>?_
   have hy3:=hy.2.2.1
   refine Ev.iter hm (fun (x:aj×List aO)=>RI s x.1∧p.at_<x.1.at_∧x.2.length≤x.1.at_∧∀ z,z∈x.2→vf z) (fun x=>(s.length - x.1.at_).toNat) ⟨hy.1,hy.2.1,by simp at hy3;dsimp only;omega,hy.2.2.2⟩ ?_
   rintro x ⟨hx1,hx2,hx3,hx4⟩ next hn
   have hx5:=hx1.vJ
   refine Ev.aW (fun hlt=>?_) (fun _=>?_)
   ·refine Ev.bind (ca hx1) (fun _ q=>q.elim) fun z hz=>?_
    rw[hz.1]
    refine Ev.bM (fun _=>?_) (fun _=>?_)
    ·refine Ev.bind (ca hx1) (fun _ q=>q.elim) fun z hz=>?_
     rw[hz.1]
     refine Ev.bM (fun _=>?_) (fun _=>?_)
     ·rw[hx1.text] at hlt
      refine Ev.bind (ih.CF hm hx1 (by omega) (by omega) hx4) (fun _ q=>q) fun w hw=>?_
      have hw1:=hw.2.1
      have hw2:=hw.1.vJ
      have hw3:=hw.2.2.1
      exact hn _ ⟨hw.1,by dsimp only;omega,by dsimp only;omega,hw.2.2.2⟩ (by dsimp only;omega)
     ·exact Ev.bind (lK (by omega) hx4) (fun _ q=>q.elim) fun w hw=>Ev.ok ⟨hx1,hx2,hw⟩
    ·exact Ev.bind (lK (by omega) hx4) (fun _ q=>q.elim) fun w hw=>Ev.ok ⟨hx1,hx2,hw⟩
   ·exact Ev.bind (lK (by omega) hx4) (fun _ q=>q.elim) fun w hw=>Ev.ok ⟨hx1,hx2,hw⟩
  ·intro m p l hm h hk hl hls
   refine Ev.grow (F:=fun n=>bV n l p) hm fun m hm=>?_
   show Ev (fun i=>eu (m i) (aU (m i)) l p) _ _
   unfold eu
   refine Ev.bind (ih.piece hm h (by omega)) (fun _ q=>q) fun y hy=>?_
   refine Ev.gd (by (first|omega|(simp only[aL,maxLen,List.length_cons,List.length_nil]<;>omega)|(simp[aD,aL,aN,maxLen]<;>omega))) (Ev.ok ⟨hy.1,hy.2.1,by simp,fun z hz=>?_⟩)
   rcases List.mem_append.1 hz with q|q
   ·exact hls z q
   ·simp at q;subst q;exact hy.2.2
  ·intro m p hm h hk
   refine Ev.grow (F:=fun n=>eo n p) hm fun m hm=>?_
   show Ev (fun i=>ik (m i) (aU (m i)) p) _ _
   unfold ik
   refine Ev.bind (ih.atom hm h (by omega)) (fun _ q=>q) fun y hy=>?_
   refine Ev.iter hm (fun (x:aj×aO)=>RI s x.1∧p.at_<x.1.at_∧vf x.2) (fun x=>(s.length - x.1.at_).toNat) ⟨hy.1,hy.2.1,hy.2.2⟩ ?_
   rintro x ⟨hx1,hx2,hx3⟩ next hn
   have hx0:=hx1.uU
   have hx5:=hx1.vJ
   refine Ev.jn (fun v=>v.1=x.1∧x.1.at_<s.length∧vf v.2) (fun v hv=>?_) (fun j hj=>?_)
   ·rw[hv.1]
    have:=hv.2.1
    refine Ev.gd (by (first|omega|(simp only[aD]<;>omega)|(simp[aD,aL,aN,maxLen]<;>omega))) (hn _ ⟨⟨hx1.text,?_,?_⟩,?_,hv.2.2⟩ ?_)
    all_goals (dsimp only;omega)
   ·refine Ev.bind (ca hx1) (fun _ q=>q.elim) fun z hz=>?_
    rw[hz.1]
    have hs1:vf (aO.mk 5 0 0 0 0 [x.2]):=.mk (by simp) (by simpa using hx3)
    refine Ev.bm (fun hq=>hj _ ⟨rfl,hz.2 (by omega),hs1⟩) (fun _=>?_)
    refine Ev.bm (fun hq=>hj _ ⟨rfl,hz.2 (by omega),.mk (by simp) ?_⟩) (fun _=>?_)
    ·intro w hw;simp at hw;rcases hw with rfl|rfl
     ·exact hx3
     ·exact hs1
    refine Ev.bm (fun hq=>hj _ ⟨rfl,hz.2 (by omega),.mk (by simp) ?_⟩) (fun _=>Ev.ok ⟨hx1,hx2,hx3⟩)
    ·intro w hw;simp at hw;rcases hw with rfl|rfl
     ·exact hx3
     ·exact .leaf
  ·intro m p hm h hk
   have h0:=h.uU
   have h1:=h.vJ
   refine Ev.grow (F:=fun n=>eB n p) hm fun m hm=>?_
   show Ev (fun i=>iH (m i) (aU (m i)) p) _ _
   unfold iH
   refine Ev.bind (ca h) (fun _ q=>q.elim) fun y hy=>?_
   rw[hy.1]
   refine Ev.jn (fun v=>v=p∧p.at_<s.length) (fun v hv=>?_) (fun j hj=>?_)
   ·rw[hv.1]
    refine Ev.gd (by (first|omega|(simp only[aD]<;>omega)|(simp[aD,aL,aN,maxLen]<;>omega))) (Ev.bind (pE hm) (fun _ q=>q.elim) fun z hz=>Ev.ok ⟨⟨h.text,?_,?_⟩,?_,hz⟩)
    all_goals (dsimp only;omega)
   ·rw[h.text]
    refine Ev.aW (fun _=>rM) (fun hlt2=>?_)
    have hlt:p.at_<s.length:=by omega
    refine Ev.bm (fun _=>?_) (fun _=>?_)
    ·exact Ev.bind (ih.group hm h hlt (by omega)) (fun _ q=>q) fun z hz=>Ev.ok hz
    refine Ev.bm (fun _=>?_) (fun _=>?_)
    ·exact Ev.bind (ry hm (by omega) h hlt) (fun _ q=>q) fun z hz=>Ev.ok hz
    refine Ev.bm (fun _=>?_) (fun _=>?_)
    ·refine Ev.gd (by (first|omega|(simp only[aD]<;>omega)|(simp[aD,aL,aN,maxLen]<;>omega))) (Ev.bind (eK hm) (fun _ q=>q.elim) fun z _=>Ev.ok ⟨⟨rfl,?_,?_⟩,?_,.leaf⟩)
     all_goals (dsimp only;omega)
    refine Ev.bm (fun _=>?_) (fun _=>?_)
    ·refine Ev.gd (by (first|omega|(simp only[aD]<;>omega)|(simp[aD,aL,aN,maxLen]<;>omega))) (Ev.aW (fun _=>?_) (fun _=>?_))
     ·refine Ev.gd (by (first|omega|(simp only[aD]<;>omega)|(simp[aD,aL,aN,maxLen]<;>omega))) (Ev.el (by omega) (by omega) (fun b _=>?_))
      refine Ev.bind (uI hm) (fun _ q=>q.elim) fun z _=>?_
      refine Ev.br (fun _=>?_) (fun _=>?_)
      ·refine Ev.gd (by (first|omega|(simp only[aD]<;>omega)|(simp[aD,aL,aN,maxLen]<;>omega))) (Ev.ok ⟨⟨rfl,?_,?_⟩,?_,.leaf⟩)
       all_goals (dsimp only;omega)
      ·exact Ev.bind (iY hm (by omega) h hlt) (fun _ q=>q) fun z hz=>Ev.bind (pE hm) (fun _ q=>q.elim) fun w hw=>Ev.ok ⟨hz.1,hz.2,hw⟩
     ·exact Ev.bind (iY hm (by omega) h hlt) (fun _ q=>q) fun z hz=>Ev.bind (pE hm) (fun _ q=>q.elim) fun w hw=>Ev.ok ⟨hz.1,hz.2,hw⟩
    ·refine Ev.jn (fun _=>True) (fun v _=>?_) (fun j2 hj2=>?_)
     ·exact Ev.br (fun _=>rM) (fun _=>hj _ ⟨rfl,hlt⟩)
     ·(repeat' (first|((with_reducible refine Ev.gd ?_ ?_);(next=>(first|omega|(simp only[aD,aL,aN,maxLen,List.length_append,List.length_cons,List.length_nil]<;>omega)|(simp[aD,aL,aN,maxLen]<;>omega))))|with_reducible refine Ev.cq ?_|with_reducible refine Ev.cr ?_|with_reducible refine Ev.aW (fun _=>?_) (fun _=>?_)|with_reducible refine Ev.bm (fun _=>?_) (fun _=>?_)|with_reducible refine Ev.bM (fun _=>?_) (fun _=>?_)|with_reducible refine Ev.bj (fun _=>?_) (fun _=>?_)|with_reducible refine Ev.br (fun _=>?_) (fun _=>?_)|((with_reducible refine Ev.el ?_ ?_ (fun _ _=>?_));(next=>(first|omega|(simp only[aD,aL,aN,maxLen,List.length_append,List.length_cons,List.length_nil]<;>omega)|(simp[aD,aL,aN,maxLen]<;>omega)));(next=>(first|omega|(simp only[aD,aL,aN,maxLen,List.length_append,List.length_cons,List.length_nil]<;>omega)|(simp[aD,aL,aN,maxLen]<;>omega))))|((with_reducible refine Ev.ka ?_);try dsimp only)))
      ·exact hj2 _ trivial
      ·exact hj2 _ trivial
      ·exact Ev.vF (Q:=fun _=>True) (Ev.ok trivial) fun z _=>hj2 _ trivial
  ·intro m p hm h hlt hk
   have h0:=h.uU
   refine Ev.grow (F:=fun n=>en n p) hm fun m hm=>?_
   show Ev (fun i=>ij (m i) (aU (m i)) p) _ _
   unfold ij
   refine Ev.gd (by (first|omega|(simp only[aD]<;>omega)|(simp[aD,aL,aN,maxLen]<;>omega))) ?_
   have hR:RI s (aj.mk p.text (p.at_+1)):=⟨h.text,by dsimp only;omega,by dsimp only;omega⟩
   refine Ev.bind (ca hR) (fun _ q=>q.elim) fun y hy=>?_
   rw[hy.1];dsimp only
   have hy2:=hy.2;dsimp only at hy2
   refine Ev.bm (fun hq=>?_) (fun _=>?_)
   ·have:=hy2 (by omega)
    refine Ev.gd (by (first|omega|(simp only[aD]<;>omega)|(simp[aD,aL,aN,maxLen]<;>omega))) (Ev.ok ⟨⟨h.text,?_,?_⟩,?_,.leaf⟩)
    all_goals (dsimp only;omega)
   ·refine Ev.bind (ih.alt hm hR (by dsimp only;omega)) (fun _ q=>q) fun z hz=>?_
    have hz0:=hz.1.uU
    have hz1:=hz.2.1;dsimp only at hz1
    refine Ev.jn (fun v=>v=z.2∧z.2.at_<s.length) (fun v hv=>?_) (fun j hj=>?_)
    ·rw[hv.1]
     refine Ev.gd (by (first|omega|(simp only[aD]<;>omega)|(simp[aD,aL,aN,maxLen]<;>omega))) (Ev.ok ⟨⟨hz.1.text,?_,?_⟩,?_,hz.2.2⟩)
     all_goals (dsimp only;omega)
    ·refine Ev.bind (ca hz.1) (fun _ q=>q.elim) fun w hw=>?_
     rw[hw.1]
     exact Ev.bM (fun _=>rM) (fun hq=>hj _ ⟨rfl,hw.2 (by omega)⟩)
theorem uK:∀ (d:Nat) {m:Nat→Nat} {r:aO} {l:Int},b1 m→vf r→0≤l→(17 - l).toNat≤d→Ev (fun i=>fh (m i) r l) (fun _=>True) gp:=by
 intro d
 induction d with
 | zero=>
  intro m r l hm _ h0 hd
  refine Ev.grow (F:=fun n=>fh n r l) hm fun m hm=>?_
  show Ev (fun i=>jE (m i) (iW (m i)) r l) _ _
  unfold jE
  exact Ev.aW (fun _=>Ev.ok trivial) (fun _=>by omega)
 | succ d ih=>
  intro m r l hm hr h0 hd
  refine Ev.grow (F:=fun n=>fh n r l) hm fun m hm=>?_
  show Ev (fun i=>jE (m i) (iW (m i)) r l) _ _
  unfold jE
  cases hr with
  | @mk k a b c d' subs hl hs=>
   refine Ev.aW (fun _=>Ev.ok trivial) (fun _=>?_)
   refine Ev.jn (fun _=>True) (fun v _=>?_) (fun j hj=>?_)
   ·refine Ev.jn (fun _=>True) (fun v _=>?_) (fun j hj=>?_)
    ·refine Ev.iter hm (fun (x:Int)=>0≤x∧x≤subs.length) (fun x=>(subs.length - x).toNat) (by omega) ?_
     intro x hx next hn
     show Ev (fun i=>ay.br (decide (x<(subs.length:Int))) (ay.el subs x _) _) _ _
     refine Ev.aW (fun h=>?_) (fun _=>Ev.ok trivial)
     refine Ev.el (by omega) (by omega) (fun z hz=>?_)
     refine Ev.gd (by (first|omega|(simp only[aD]<;>omega)|(simp[aD,aL,aN,maxLen]<;>omega))) (Ev.bind (ih hm (hs z (List.mem_of_getElem? hz)) (by omega) (by omega)) (fun _ q=>q) fun w _=>?_)
     (repeat' (first|((with_reducible refine Ev.gd ?_ ?_);(next=>(first|omega|(simp only[aD]<;>omega)|(simp[aD,aL,aN,maxLen]<;>omega))))|with_reducible refine Ev.cq ?_|with_reducible refine Ev.cr ?_|with_reducible refine Ev.aW (fun _=>?_) (fun _=>?_)|with_reducible refine Ev.bm (fun _=>?_) (fun _=>?_)|with_reducible refine Ev.bM (fun _=>?_) (fun _=>?_)|with_reducible refine Ev.bj (fun _=>?_) (fun _=>?_)|with_reducible refine Ev.br (fun _=>?_) (fun _=>?_)|((with_reducible refine Ev.el ?_ ?_ (fun _ _=>?_));(next=>(first|omega|(simp only[aD,aL,aN,maxLen,List.length_append,List.length_cons,List.length_nil]<;>omega)|(simp[aD,aL,aN,maxLen]<;>omega)));(next=>(first|omega|(simp only[aD,aL,aN,maxLen,List.length_append,List.length_cons,List.length_nil]<;>omega)|(simp[aD,aL,aN,maxLen]<;>omega))))|((with_reducible refine Ev.ka ?_);try dsimp only)))
     ·exact Ev.ok trivial
     ·exact hn _ (by omega) (by omega)
    ·(repeat' (first|((with_reducible refine Ev.gd ?_ ?_);(next=>(first|omega|(simp only[aD,aL,aN,maxLen,List.length_append,List.length_cons,List.length_nil]<;>omega)|(simp[aD,aL,aN,maxLen]<;>omega))))|with_reducible refine Ev.cq ?_|with_reducible refine Ev.cr ?_|with_reducible refine Ev.aW (fun _=>?_) (fun _=>?_)|with_reducible refine Ev.bm (fun _=>?_) (fun _=>?_)|with_reducible refine Ev.bM (fun _=>?_) (fun _=>?_)|with_reducible refine Ev.bj (fun _=>?_) (fun _=>?_)|with_reducible refine Ev.br (fun _=>?_) (fun _=>?_)|((with_reducible refine Ev.el ?_ ?_ (fun _ _=>?_));(next=>(first|omega|(simp only[aD,aL,aN,maxLen,List.length_append,List.length_cons,List.length_nil]<;>omega)|(simp[aD,aL,aN,maxLen]<;>omega)));(next=>(first|omega|(simp only[aD,aL,aN,maxLen,List.length_append,List.length_cons,List.length_nil]<;>omega)|(simp[aD,aL,aN,maxLen]<;>omega))))|((with_reducible refine Ev.ka ?_);try dsimp only)))
     all_goals first|exact Ev.ok trivial|exact hj _ trivial
   ·(repeat' (first|((with_reducible refine Ev.gd ?_ ?_);(next=>(first|omega|(simp only[aD,aL,aN,maxLen,List.length_append,List.length_cons,List.length_nil]<;>omega)|(simp[aD,aL,aN,maxLen]<;>omega))))|with_reducible refine Ev.cq ?_|with_reducible refine Ev.cr ?_|with_reducible refine Ev.aW (fun _=>?_) (fun _=>?_)|with_reducible refine Ev.bm (fun _=>?_) (fun _=>?_)|with_reducible refine Ev.bM (fun _=>?_) (fun _=>?_)|with_reducible refine Ev.bj (fun _=>?_) (fun _=>?_)|with_reducible refine Ev.br (fun _=>?_) (fun _=>?_)|((with_reducible refine Ev.el ?_ ?_ (fun _ _=>?_));(next=>(first|omega|(simp only[aD,aL,aN,maxLen,List.length_append,List.length_cons,List.length_nil]<;>omega)|(simp[aD,aL,aN,maxLen]<;>omega)));(next=>(first|omega|(simp only[aD,aL,aN,maxLen,List.length_append,List.length_cons,List.length_nil]<;>omega)|(simp[aD,aL,aN,maxLen]<;>omega))))|((with_reducible refine Ev.ka ?_);try dsimp only)))
    all_goals first|exact Ev.ok trivial|exact hj _ trivial
theorem qU {m:Nat→Nat} (hm:b1 m) {s:List UInt8}:Ev (fun i=>lZ (m i) s) (fun _=>True) gp:=by
 unfold lZ
 refine Ev.aW (fun _=>Ev.ok trivial) (fun _=>?_)
 refine Ev.yQ (R':=RP) ?_ ?_
 ·refine Ev.bind ((DA (s:=s) (by omega) (8*(s.length - 0:Int).toNat+7)).alt hm ⟨rfl,by simp,by simp⟩ (by simp)) (fun _ q=>q) fun y hy=>?_
  refine Ev.jn (fun _=>True) (fun v _=>?_) (fun j hj=>?_)
  ·unfold qL
   refine Ev.bind (Ev.bind (uK 17 hm hy.2.2 (by omega) (by simp)) (fun _ q=>q) fun z _=>Ev.ok trivial) (fun _ q=>q.elim) fun z (_:True)=>?_
   (repeat' (first|((with_reducible refine Ev.gd ?_ ?_);(next=>(first|omega|(simp only[aD,aL,aN,maxLen,List.length_append,List.length_cons,List.length_nil]<;>omega)|(simp[aD,aL,aN,maxLen]<;>omega))))|with_reducible refine Ev.cq ?_|with_reducible refine Ev.cr ?_|with_reducible refine Ev.aW (fun _=>?_) (fun _=>?_)|with_reducible refine Ev.bm (fun _=>?_) (fun _=>?_)|with_reducible refine Ev.bM (fun _=>?_) (fun _=>?_)|with_reducible refine Ev.bj (fun _=>?_) (fun _=>?_)|with_reducible refine Ev.br (fun _=>?_) (fun _=>?_)|((with_reducible refine Ev.el ?_ ?_ (fun _ _=>?_));(next=>(first|omega|(simp only[aD,aL,aN,maxLen,List.length_append,List.length_cons,List.length_nil]<;>omega)|(simp[aD,aL,aN,maxLen]<;>omega)));(next=>(first|omega|(simp only[aD,aL,aN,maxLen,List.length_append,List.length_cons,List.length_nil]<;>omega)|(simp[aD,aL,aN,maxLen]<;>omega))))|((with_reducible refine Ev.ka ?_);try dsimp only)))
   all_goals exact Ev.ok trivial
  ·exact Ev.aW (fun _=>rM) (fun _=>hj _ trivial)
 ·rintro p ⟨v,rfl⟩
  refine Ev.ss ?_
  unfold k5
  exact Ev.ok trivial
end Go.Abs
end
section
namespace Go.Abs
open ay
structure PC (s:List UInt8) (T:List aS) (b:Int):Prop where
 bg:Ef s T
 b0:0≤b
 bs:b+s.length≤65536
def PP (c:Int):rX→Prop:=fun p=>∃ v:Int,p=⟨86,[.sc (.int .i64 v)]⟩∧0≤v∧v≤c
abbrev dh:=ag.mk
section
variable {s:List UInt8} {T:List aS} {b:Int}
theorem PC.len (h:PC s T b):(T.length:Int)≤s.length+1:=by
 obtain ⟨l,rfl,h1⟩:=h.bg.is
 have:=h1.len
 simp;omega
theorem PC.pos (h:PC s T b):1≤T.length:=by
 obtain ⟨l,rfl,h1⟩:=h.bg.is
 simp
theorem PC.kL (h:PC s T b):(T.length:Int)≤65537:=by
 have:=h.len
 have:=h.bs
 have:=h.b0
 omega
theorem PC.tok (h:PC s T b) {i:Nat} {t:aS} (ht:T[i]?=some t):0≤t.Pos∧t.Pos≤t.End∧t.End≤s.length∧t.Text.length≤65536∧(t.Kind=4→(t.Text.length:Int)+2≤t.End - t.Pos)∧(t.Kind≠0→i+1<T.length∧t.Pos<t.End):=by
 obtain ⟨l,rfl,h1⟩:=h.bg.is
 rcases Nat.lt_or_ge i l.length with q|q
 ·rw[List.getElem?_append_left q] at ht
  have:=h1.ok t (List.mem_of_getElem? ht)
  exact ⟨this.p0,by have:=this.pe;omega,this.e,this.tl,this.ip,fun _=>⟨by simp;omega,this.pe⟩⟩
 ·rw[List.getElem?_append_right q] at ht
  have hi:i - l.length=0:=by
   have:=(List.getElem?_eq_some_iff.1 ht).1
   simp at this;omega
  rw[hi] at ht;simp at ht;subst ht
  exact ⟨by simp,by simp,by simp,by simp,fun q=>by simp at q,fun q=>absurd rfl q⟩
theorem PC.next (h:PC s T b) {a:Int} (h0:0≤a) {t:aS} (ht:T[a.toNat]?=some t) (hk:t.Kind≠0):a+1<T.length:=by
 have:=((h.tok ht).2.2.2.2.2 hk).1
 omega
theorem PC.sorted (h:PC s T b) {i j:Nat} (hij:i<j) {t u:aS} (ht:T[i]?=some t) (hu:T[j]?=some u):t.End≤u.Pos:=by
 obtain ⟨l,rfl,h1⟩:=h.bg.is
 have hj:=(List.getElem?_eq_some_iff.1 hu).1
 simp at hj
 have hi:i<l.length:=by omega
 rw[List.getElem?_append_left hi] at ht
 rcases Nat.lt_or_ge j l.length with q|q
 ·rw[List.getElem?_append_left q] at hu
  obtain ⟨hi',e1⟩:=List.getElem?_eq_some_iff.1 ht
  obtain ⟨hj',e2⟩:=List.getElem?_eq_some_iff.1 hu
  rw[← e1,← e2]
  exact List.pairwise_iff_getElem.1 h1.sorted i j hi' hj' hij
 ·rw[List.getElem?_append_right q] at hu
  have hi:j - l.length=0:=by omega
  rw[hi] at hu;simp at hu;subst hu
  exact (h1.ok t (List.mem_of_getElem? ht)).e
end
section
variable {s:List UInt8} {T:List aS} {b:Int} {α:Type} {Q:α→Prop} {R:rX→Prop} {m:Nat→Nat} {a:Int} {k:Bool} {q:Option ai}
theorem iZ {t:aS} {x:List UInt8} {K:Nat→Bool→ay α} (hk:∀ r,(r=true→t.Kind=5∧t.Text=x)→(r=false→¬ (t.Kind=5∧t.Text=x))→Ev (fun i=>K i r) Q R):Ev (fun i=>ay.bind (cE t x) (K i)) Q R:=by
 refine Ev.bind (Q:=fun r=>(r=true→t.Kind=5∧t.Text=x)∧(r=false→¬ (t.Kind=5∧t.Text=x))) (R':=gp) ?_ (fun _ q=>q.elim) fun r hr=>hk r hr.1 hr.2
 unfold cE
 refine Ev.bm (fun h=>Ev.ok ⟨fun q=>⟨h,by simpa using q⟩,fun q=>by simp at q;exact fun w=>q w.2⟩) (fun h=>Ev.ok ⟨fun q=>by simp at q,fun _ w=>h w.1⟩)
theorem mU {t:aS} {x:List UInt8} {K:Nat→Bool→ay α} (hk:∀ r,(r=true→t.Kind=1∧t.Text=x)→(r=false→¬ (t.Kind=1∧t.Text=x))→Ev (fun i=>K i r) Q R):Ev (fun i=>ay.bind (fg t x) (K i)) Q R:=by
 refine Ev.bind (Q:=fun r=>(r=true→t.Kind=1∧t.Text=x)∧(r=false→¬ (t.Kind=1∧t.Text=x))) (R':=gp) ?_ (fun _ q=>q.elim) fun r hr=>hk r hr.1 hr.2
 unfold fg
 refine Ev.bm (fun h=>Ev.ok ⟨fun q=>⟨h,by simpa using q⟩,fun q=>by simp at q;exact fun w=>q w.2⟩) (fun h=>Ev.ok ⟨fun q=>by simp at q,fun _ w=>h w.1⟩)
theorem sB (hm:b1 m) {t:aS} {x:List UInt8} (hx:x.length≤60000) {K:Nat→Bool→ay α} (hk:∀ r,(r=true→t.Kind=5)→Ev (fun i=>K i r) Q R):Ev (fun i=>ay.bind (jk (m i) t x) (K i)) Q R:=by
 refine Ev.bind (Q:=fun r=>r=true→t.Kind=5) (R':=gp) ?_ (fun _ q=>q.elim) fun r hr=>hk r hr
 unfold jk
 refine Ev.bm (fun h=>?_) (fun _=>Ev.ok (by simp))
 refine Ev.bind (uF (by simp) (by omega)) (fun _ q=>q) fun y hy=>Ev.bind (hO hm (by omega)) (fun _ q=>q) fun z _=>Ev.ok fun _=>h
theorem uL (hm:b1 m) {t:aS} {K:Nat→Bool→ay α} (hk:∀ r,(r=true→t.Kind=3∨t.Kind=1)→Ev (fun i=>K i r) Q R):Ev (fun i=>ay.bind (jX (m i) t) (K i)) Q R:=by
 refine Ev.bind (Q:=fun r=>r=true→t.Kind=3∨t.Kind=1) (R':=gp) ?_ (fun _ q=>q.elim) fun r hr=>hk r hr
 unfold jX
 refine Ev.bm (fun h=>Ev.ok fun _=>.inl h) (fun _=>Ev.bm (fun h=>?_) (fun _=>Ev.ok (by simp)))
 exact Ev.bind (eJ hm) (fun _ q=>q) fun z _=>Ev.ok fun _=>.inr h
theorem vg (hm:b1 m) (hC:PC s T b) (h0:0≤a) (h1:a<T.length) :
  Ev (fun i=>aH (m i) (dh s T a b k q)) (fun r=>∃ a' t,r=(t,dh s T a' b k q)∧a≤a'∧a'<T.length∧T[a'.toNat]?=some t∧(k=true→t.Kind≠7)∧∀ u,T[a.toNat]?=some u→(k=true→u.Kind≠7)→a'=a) gp:=by
 unfold aH
 have hl:=hC.kL
 refine Ev.jn (fun v=>∃ a',v=dh s T a' b k q∧a≤a'∧a'<T.length∧(k=true→∀ t,T[a'.toNat]?=some t→t.Kind≠7)∧∀ u,T[a.toNat]?=some u→(k=true→u.Kind≠7)→a'=a) (fun v hv=>?_) (fun j hj=>?_)
 ·obtain ⟨a',rfl,h2,h3,h4,h5⟩:=hv
  exact Ev.el (by dsimp only;omega) (by dsimp only;omega) fun t ht=>Ev.ok ⟨a',t,rfl,h2,h3,ht,fun hk=>h4 hk t ht,h5⟩
 ·refine Ev.iter hm (fun (x:ag)=>∃ a',x=dh s T a' b k q∧a≤a'∧a'<T.length∧∀ u,T[a.toNat]?=some u→(k=true→u.Kind≠7)→a'=a) (fun x=>(T.length - x.at_).toNat) ⟨a,rfl,by omega,h1,fun _ _ _=>rfl⟩ ?_
  rintro x ⟨a',rfl,h2,h3,h5⟩ next hn
  dsimp only
  refine Ev.br (fun hk0=>?_) (fun hk=>hj _ ⟨a',rfl,h2,h3,(fun h=>by rw[hk] at h;cases h),h5⟩)
  refine Ev.el (by omega) (by omega) fun t ht=>?_
  refine Ev.bm (fun h7=>?_) (fun h7=>hj _ ⟨a',rfl,h2,h3,fun _ u hu=>by rw[ht] at hu;cases hu;exact h7,h5⟩)
  have:=hC.next (by omega) ht (by omega)
  refine Ev.gd (by (first|omega|(simp only[aD]<;>omega)|(simp[aD,aL,aN,maxLen]<;>omega))) (hn _ ⟨a'+1,rfl,by omega,by omega,fun u hu hk=>?_⟩ (by dsimp only;omega))
  have:=h5 u hu hk
  subst this
  rw[ht] at hu;cases hu
  exact absurd h7 (hk ‹k=true›)
theorem dI (hm:b1 m) (hC:PC s T b) (h0:0≤a) (h1:a<T.length) {K:Nat→aS×ag→ay α}
  (hk:∀ a' t,a≤a'→a'<T.length→T[a'.toNat]?=some t→(k=true→t.Kind≠7)→(∀ u,T[a.toNat]?=some u→(k=true→u.Kind≠7)→a'=a)→Ev (fun i=>K i (t,dh s T a' b k q)) Q R) :
  Ev (fun i=>ay.bind (aH (m i) (dh s T a b k q)) (K i)) Q R:=by
 refine Ev.bind (vg hm hC h0 h1) (fun _ q=>q.elim) fun r hr=>?_
 obtain ⟨a',t,rfl,h⟩:=hr
 exact hk a' t h.1 h.2.1 h.2.2.1 h.2.2.2.1 h.2.2.2.2
theorem kp (hm:b1 m) (hC:PC s T b) (h0:0≤a) (h1:a<T.length) {K:Nat→Int×ag→ay α}
  (hk:∀ a' t v,a≤a'→a'<T.length→T[a'.toNat]?=some t→(∀ u,T[a.toNat]?=some u→(k=true→u.Kind≠7)→a'=a)→v=b+t.Pos→0≤v→v≤b+s.length→Ev (fun i=>K i (v,dh s T a' b k q)) Q R) :
  Ev (fun i=>ay.bind (bO (m i) (dh s T a b k q)) (K i)) Q R:=by
 refine Ev.bind (Q:=fun r=>∃ a' t v,r=(v,dh s T a' b k q)∧a≤a'∧a'<T.length∧T[a'.toNat]?=some t∧(∀ u,T[a.toNat]?=some u→(k=true→u.Kind≠7)→a'=a)∧v=b+t.Pos∧0≤v∧v≤b+s.length) (R':=gp) ?_ (fun _ q=>q.elim) fun r hr=>?_
 ·unfold bO
  refine dI hm hC h0 h1 fun a' t h2 h3 h4 h5 h6=>?_
  have:=hC.tok h4
  have:=hC.b0
  have:=hC.bs
  exact Ev.gd (by (first|omega|(simp only[aD]<;>omega)|(simp[aD,aL,aN,maxLen]<;>omega))) (Ev.ok ⟨a',t,_,rfl,h2,h3,h4,h6,rfl,by dsimp only;omega,by dsimp only;omega⟩)
 ·obtain ⟨a',t,v,rfl,h2,h3,h4,h5,h6,h7,h8⟩:=hr
  exact hk a' t v h2 h3 h4 h5 h6 h7 h8
theorem tQ {v:Int} {p:ag} {c:Int} (h0:0≤v) (h1:v≤c) {K:Nat→ag→ay α}:Ev (fun i=>ay.bind (eM v p) (K i)) Q (PP c):=by
 unfold eM
 exact Ev.nl ⟨v,rfl,h0,h1⟩
theorem fy (hm:b1 m) (hC:PC s T b) (h0:0≤a) (h1:a<T.length) {c:Int} (hc:b+s.length≤c) {K:Nat→ag→ay α}:Ev (fun i=>ay.bind (bp (m i) (dh s T a b k q)) (K i)) Q (PP c):=by
 refine Ev.bind (Q:=fun _=>False) (R':=PP c) ?_ (fun _ q=>q) fun r hr=>hr.elim
 unfold bp
 refine kp hm hC h0 h1 fun a' t v _ _ _ _ _ h2 h3=>?_
 exact tQ h2 (by omega)
theorem kh (hm:b1 m) (hC:PC s T b) (h0:0≤a) (h1:a<T.length) {x:List UInt8} {K:Nat→Bool×ag→ay α}
  (ht:∀ a' t,a<a'→a'<T.length→T[(a' - 1).toNat]?=some t→t.Kind=5→t.Text=x→(∀ u,T[a.toNat]?=some u→(k=true→u.Kind≠7)→a'=a+1)→Ev (fun i=>K i (true,dh s T a' b k q)) Q R)
  (hf:∀ a' t,a≤a'→a'<T.length→T[a'.toNat]?=some t→(k=true→t.Kind≠7)→¬ (t.Kind=5∧t.Text=x)→(∀ u,T[a.toNat]?=some u→(k=true→u.Kind≠7)→a'=a)→Ev (fun i=>K i (false,dh s T a' b k q)) Q R) :
  Ev (fun i=>ay.bind (cy (m i) x (dh s T a b k q)) (K i)) Q R:=by
 refine Ev.bind (Q:=fun r=>(∃ a' t,r=(true,dh s T a' b k q)∧a<a'∧a'<T.length∧T[(a' - 1).toNat]?=some t∧t.Kind=5∧t.Text=x∧(∀ u,T[a.toNat]?=some u→(k=true→u.Kind≠7)→a'=a+1))∨
  (∃ a' t,r=(false,dh s T a' b k q)∧a≤a'∧a'<T.length∧T[a'.toNat]?=some t∧(k=true→t.Kind≠7)∧¬ (t.Kind=5∧t.Text=x)∧(∀ u,T[a.toNat]?=some u→(k=true→u.Kind≠7)→a'=a))) (R':=gp) ?_ (fun _ q=>q.elim) fun r hr=>?_
 ·unfold cy
  have:=hC.kL
  refine dI hm hC h0 h1 fun a' t h2 h3 h4 h5 h6=>?_
  dsimp only
  refine iZ fun r hr1 hr2=>?_
  refine Ev.bj (fun h=>Ev.ok (.inr ⟨a',t,rfl,h2,h3,h4,h5,hr2 h,h6⟩)) (fun h=>?_)
  obtain ⟨q1,q2⟩:=hr1 h
  have:=hC.next (by omega) h4 (by omega)
  exact Ev.gd (by (first|omega|(simp only[aD]<;>omega)|(simp[aD,aL,aN,maxLen]<;>omega))) (Ev.ok (.inl ⟨a'+1,t,rfl,by omega,by omega,by simpa using h4,q1,q2,fun u hu hk=>by rw[h6 u hu hk]⟩))
 ·rcases hr with ⟨a',t,rfl,h2,h3,h4,h5,h6,h7⟩|⟨a',t,rfl,h2,h3,h4,h5,h6,h7⟩
  ·exact ht a' t h2 h3 h4 h5 h6 h7
  ·exact hf a' t h2 h3 h4 h5 h6 h7
theorem ja (hm:b1 m) (hC:PC s T b) (h0:0≤a) (h1:a<T.length) {c:Int} (hc:b+s.length≤c) {x:List UInt8} {K:Nat→ag→ay α}
  (ht:∀ a' t,a<a'→a'<T.length→T[(a' - 1).toNat]?=some t→t.Kind=5→t.Text=x→(∀ u,T[a.toNat]?=some u→(k=true→u.Kind≠7)→a'=a+1)→Ev (fun i=>K i (dh s T a' b k q)) Q (PP c)) :
  Ev (fun i=>ay.bind (b5 (m i) x (dh s T a b k q)) (K i)) Q (PP c):=by
 refine Ev.bind (Q:=fun r=>(∃ a' t,r=(dh s T a' b k q)∧a<a'∧a'<T.length∧T[(a' - 1).toNat]?=some t∧t.Kind=5∧t.Text=x∧(∀ u,T[a.toNat]?=some u→(k=true→u.Kind≠7)→a'=a+1))) (R':=PP c) ?_ (fun _ q=>q) fun r hr=>?_
 ·unfold b5
  refine kh hm hC h0 h1 (fun a' t h2 h3 h4 h5 h6 h7=>Ev.ok ⟨a',t,rfl,h2,h3,h4,h5,h6,h7⟩) (fun a' t h2 h3 h4 h5 h6 h7=>?_)
  exact fy hm hC (by omega) (by omega) hc
 ·obtain ⟨a',t,rfl,h2,h3,h4,h5,h6,h7⟩:=hr
  exact ht a' t h2 h3 h4 h5 h6 h7
theorem mb (hm:b1 m) (hC:PC s T b) (h0:0≤a) (h1:a<T.length) {c:Int} (hc:b+s.length≤c) {x:List UInt8} {K:Nat→ag→ay α}
  (ht:∀ a' t,a≤a'→a'+1<T.length→T[a'.toNat]?=some t→t.Kind=5→t.Text=x→Ev (fun i=>K i (dh s T a' b k q)) Q (PP c)) :
  Ev (fun i=>ay.bind (cP (m i) x (dh s T a b k q)) (K i)) Q (PP c):=by
 refine Ev.bind (Q:=fun r=>(∃ a' t,r=(dh s T a' b k q)∧a≤a'∧a'+1<T.length∧T[a'.toNat]?=some t∧t.Kind=5∧t.Text=x)) (R':=PP c) ?_ (fun _ q=>q) fun r hr=>?_
 ·unfold cP
  refine dI hm hC h0 h1 fun a' t h2 h3 h4 h5 h6=>?_
  dsimp only
  refine iZ fun r hr1 hr2=>?_
  refine Ev.bj (fun h=>fy hm hC (by omega) (by omega) hc) (fun h=>?_)
  obtain ⟨q1,q2⟩:=hr1 h
  exact Ev.ok ⟨a',t,rfl,h2,hC.next (by omega) h4 (by omega),h4,q1,q2⟩
 ·obtain ⟨a',t,rfl,h⟩:=hr
  exact ht a' t h.1 h.2.1 h.2.2.1 h.2.2.2.1 h.2.2.2.2
theorem pF (hm:b1 m) (hC:PC s T b) (h0:0≤a) (h1:a<T.length) {c:Int} (hc:b+s.length≤c) {x:List UInt8} {K:Nat→ag→ay α}
  (ht:∀ a',a<a'→a'<T.length→Ev (fun i=>K i (dh s T a' b k q)) Q (PP c)):Ev (fun i=>ay.bind (dY (m i) x (dh s T a b k q)) (K i)) Q (PP c):=by
 refine Ev.bind (Q:=fun r=>(∃ a',r=(dh s T a' b k q)∧a<a'∧a'<T.length)) (R':=PP c) ?_ (fun _ q=>q) fun r hr=>?_
 ·unfold dY
  have:=hC.kL
  refine dI hm hC h0 h1 fun a' t h2 h3 h4 h5 h6=>?_
  dsimp only
  refine mU fun r hr1 hr2=>?_
  refine Ev.bj (fun h=>fy hm hC (by omega) (by omega) hc) (fun h=>?_)
  obtain ⟨q1,q2⟩:=hr1 h
  have:=hC.next (by omega) h4 (by omega)
  exact Ev.gd (by (first|omega|(simp only[aD]<;>omega)|(simp[aD,aL,aN,maxLen]<;>omega))) (Ev.ok ⟨a'+1,rfl,by omega,by omega⟩)
 ·obtain ⟨a',rfl,h⟩:=hr
  exact ht a' h.1 h.2
theorem rp (hm:b1 m) (hC:PC s T b) (h0:0≤a) (h1:a<T.length) {c:Int} (hc:b+s.length≤c) {K:Nat→List UInt8×ag→ay α}
  (ht:∀ a' x,a<a'→a'<T.length→Ev (fun i=>K i (x,dh s T a' b k q)) Q (PP c)):Ev (fun i=>ay.bind (dO (m i) (dh s T a b k q)) (K i)) Q (PP c):=by
 refine Ev.bind (Q:=fun r=>(∃ a' x,r=(x,dh s T a' b k q)∧a<a'∧a'<T.length)) (R':=PP c) ?_ (fun _ q=>q) fun r hr=>?_
 ·unfold dO
  have:=hC.kL
  refine dI hm hC h0 h1 fun a' t h2 h3 h4 h5 h6=>?_
  dsimp only
  refine Ev.jn (fun v=>v=dh s T a' b k q∧t.Kind=1) (fun v hv=>?_) (fun j hj=>?_)
  ·obtain ⟨rfl,h7⟩:=hv
   have:=hC.next (by omega) h4 (by omega)
   exact Ev.gd (by (first|omega|(simp only[aD]<;>omega)|(simp[aD,aL,aN,maxLen]<;>omega))) (Ev.ok ⟨a'+1,_,rfl,by omega,by omega⟩)
  ·refine Ev.bM (fun _=>fy hm hC (by omega) (by omega) hc) (fun h1=>?_)
   refine Ev.bind (eJ hm) (fun _ q=>q.elim) fun z _=>?_
   exact Ev.bj (fun _=>fy hm hC (by omega) (by omega) hc) (fun _=>hj _ ⟨rfl,h1⟩)
 ·obtain ⟨a',x,rfl,h⟩:=hr
  exact ht a' x h.1 h.2
theorem xH (hm:b1 m) (hC:PC s T b) (h0:0≤a) (h1:a<T.length) {c:Int} (hc:b+s.length≤c) {K:Nat→fS×ag→ay α}
  (ht:∀ a' x,a<a'→a'<T.length→Ev (fun i=>K i (x,dh s T a' b k q)) Q (PP c)):Ev (fun i=>ay.bind (gq (m i) (dh s T a b k q)) (K i)) Q (PP c):=by
 refine Ev.bind (Q:=fun r=>(∃ a' x,r=(x,dh s T a' b k q)∧a<a'∧a'<T.length)) (R':=PP c) ?_ (fun _ q=>q) fun r hr=>?_
 ·unfold gq
  refine rp hm hC h0 h1 hc fun a1 x1 h2 h3=>ja hm hC (by omega) (by omega) hc fun a2 t h4 h5 _ _ _ _=>kp hm hC (by omega) (by omega) fun a3 t3 v h6 h7 _ _ _ h8 h9=>rp hm hC (by omega) (by omega) hc fun a4 x4 h10 h11=>?_
  exact Ev.bm (fun _=>tQ h8 (by omega)) (fun _=>Ev.ok ⟨a4,_,rfl,by omega,by omega⟩)
 ·obtain ⟨a',x,rfl,h⟩:=hr
  exact ht a' x h.1 h.2
theorem lD {n:Int} (hC:PC s T b) (h0:0≤a) (h1:a<T.length) (hn:0≤n) (hn2:n≤70000) {K:Nat→aS×ag→ay α}
  (hk:∀ t,(t.Kind≠0→T[(a+n).toNat]?=some t∧a+n+1<T.length)→Ev (fun i=>K i (t,dh s T a b k q)) Q R):Ev (fun i=>ay.bind (cW n (dh s T a b k q)) (K i)) Q R:=by
 refine Ev.bind (Q:=fun r=>∃ t,r=(t,dh s T a b k q)∧(t.Kind≠0→T[(a+n).toNat]?=some t∧a+n+1<T.length)) (R':=gp) ?_ (fun _ q=>q.elim) fun r hr=>?_
 ·unfold cW
  have:=hC.kL
  dsimp only
  refine Ev.gd (by (first|omega|(simp only[aD]<;>omega)|(simp[aD,aL,aN,maxLen]<;>omega))) (Ev.gd (by (first|omega|(simp only[aD]<;>omega)|(simp[aD,aL,aN,maxLen]<;>omega))) (Ev.el (by split<;>omega) (by split<;>omega) fun t ht=>Ev.ok ⟨t,rfl,fun hk=>?_⟩))
  have h2:=((hC.tok ht).2.2.2.2.2 hk).1
  have:¬ ((T.length:Int) - 1<a+n):=fun h=>by rw[if_pos h] at h2;omega
  rw[if_neg this] at ht h2
  exact ⟨ht,by omega⟩
 ·obtain ⟨t,rfl,h⟩:=hr
  exact hk t h
theorem pS (hm:b1 m) (hC:PC s T b) (h0:0≤a) (h1:a<T.length):Ev (fun i=>ez (m i) (dh s T a b k q)) (fun r=>r.2=dh s T a b k q) gp:=by
 have hl:=hC.kL
 unfold ez
 dsimp only
 refine Ev.gd (by (first|omega|(simp only[aD]<;>omega)|(simp[aD,aL,aN,maxLen]<;>omega))) ?_
 refine Ev.iter hm (fun (x:Int)=>-1≤x∧x<a) (fun x=>(x+1).toNat) (by omega) ?_
 intro x hx next hn
 refine Ev.aW (fun h=>?_) (fun _=>Ev.ok rfl)
 refine Ev.el (by omega) (by omega) fun t ht=>?_
 refine Ev.bM (fun _=>?_) (fun _=>Ev.gd (by (first|omega|(simp only[aD]<;>omega)|(simp[aD,aL,aN,maxLen]<;>omega))) (hn _ (by omega) (by omega)))
 refine Ev.EO (by omega) ht (Ev.el (by omega) (by omega) fun u hu=>?_)
 have h2:=hC.sorted (by omega) ht hu
 have h3:=hC.tok ht
 have h4:=hC.tok hu
 have:=hC.bs
 have:=hC.b0
 refine Ev.gd (by omega) ?_
 have:=rn (c:=s) (i:=t.End) (j:=u.Pos) (by omega) (by omega) (by omega)
 exact Ev.bind (nX (by omega)) (fun _ q=>q) fun _ _=>Ev.ok rfl
theorem s7 (hm:b1 m) (hC:PC s T b) (h0:0≤a) (h1:a<T.length) {e:Int} (he:1≤e) (he2:e≤a):Ev (fun i=>fN (m i) e (dh s T a b k q)) (fun r=>r.2=dh s T a b k q) gp:=by
 have hl:=hC.kL
 unfold fN
 dsimp only
 refine Ev.iter hm (fun (x:Int)=>e≤x∧x≤a) (fun x=>(a - x).toNat) (by omega) ?_
 intro x hx next hn
 refine Ev.aW (fun h=>?_) (fun _=>?_)
 ·refine Ev.el (by omega) (by omega) fun t ht=>iZ fun r _ _=>Ev.bj (fun _=>Ev.ok rfl) (fun _=>?_)
  exact Ev.gd (by (first|omega|(simp only[aD]<;>omega)|(simp[aD,aL,aN,maxLen]<;>omega))) (hn _ (by omega) (by omega))
 ·refine Ev.gd (by (first|omega|(simp only[aD]<;>omega)|(simp[aD,aL,aN,maxLen]<;>omega))) (Ev.el (by omega) (by omega) fun t ht=>Ev.el (by omega) (by omega) fun u hu=>?_)
  have h2:=hC.sorted (by omega) ht hu
  have h3:=hC.tok ht
  have h4:=hC.tok hu
  have:=hC.bs
  have:=hC.b0
  refine Ev.gd (by omega) ?_
  have:=rn (c:=s) (i:=t.End) (j:=u.Pos) (by omega) (by omega) (by omega)
  exact Ev.bind (nX (by omega)) (fun _ q=>q) fun _ _=>Ev.ok rfl
theorem Cc (hm:b1 m) (hC:PC s T b) (h0:0≤a) (h1:a<T.length) {K:Nat→Bool×ag→ay α}
  (hk:∀ a' t r,a≤a'→a'<T.length→T[a'.toNat]?=some t→(r=false→t.Kind≠0)→(k=true→t.Kind≠7)→Ev (fun i=>K i (r,dh s T a' b k q)) Q R):Ev (fun i=>ay.bind (gL (m i) (dh s T a b k q)) (K i)) Q R:=by
 refine Ev.bind (Q:=fun r=>∃ a' t x,r=(x,dh s T a' b k q)∧a≤a'∧a'<T.length∧T[a'.toNat]?=some t∧(x=false→t.Kind≠0)∧(k=true→t.Kind≠7)) (R':=gp) ?_ (fun _ q=>q.elim) fun r hr=>?_
 ·unfold gL
  refine dI hm hC h0 h1 fun a1 t1 h2 h3 h4 h5 _=>?_
  dsimp only
  refine Ev.bm (fun _=>Ev.ok ⟨a1,t1,_,rfl,h2,h3,h4,by simp,h5⟩) (fun hne=>?_)
  refine dI hm hC (by omega) h3 fun a2 t2 h6 h7 h8 h9 h10=>iZ fun r _ _=>Ev.ok ⟨a2,t2,r,rfl,by omega,by omega,h8,fun _=>?_,h9⟩
  have:=h10 t1 h4 h5
  subst this
  rw[h4] at h8;cases h8;exact hne
 ·obtain ⟨a',t,x,rfl,h⟩:=hr
  exact hk a' t x h.1 h.2.1 h.2.2.1 h.2.2.2.1 h.2.2.2.2
end
end Go.Abs
end
