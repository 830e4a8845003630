/- PROVED: lemmas for ParserFiles. CONDITIONS: as stated. -/
import Derived.Test.YtlfolpjenfkhiaaGreatDoorW7
set_option linter.all false
namespace Go.Abs
open Go.Proofs Go.Proofs.Tryz aI
set_option maxRecDepth 100000
set_option maxHeartbeats 2000000
section
variable (n:Nat)
structure dP where
 eY:N->aI (bu×N)
 kX:N->aI (bu×N)
 fW:N->aI (bu×N)
 fP:N->aI (bu×N)
def kY (d:dP) (g:N):aI (bu×N):=
 ag (d.fP g) λe=>oj [[20,6]] (jk [[1,106,10003],[0,2,3],[0,102]] (dz [0,2] [102] (λa=>[(3,.arr 10003 a.2.length)]) (λa=>[(0,.box (dp a.1)),(10003,.app 156 6 (bu.Cs a.2))]) (λf (a:N×(List bu))=>ag (cx 124 a.1) λb=>br b.1 (ag (d.fP b.2) λc=>gd (nP 64 a.2.length (List.length [c.1])) (jk [[1,113,10003],[0,2,3],[0,102]] (f (c.2,a.2++[c.1])))) (oj [[22,14]] (ag (lV 4 a.2) λh=>.ok (h,b.2)))) n (e.2,[e.1])))
def qj (q:dP) (u:N):aI (bu×N):=
 ag (cx 92 u) λk=>br k.1 (ag (mo n k.2) λp=>.ok (p.1,p.2)) (ag (cx 46 k.2) λl=>br l.1 (ag (mg n 0 255) λd=>.ok (rG 2 d,l.2)) (ag (cx 91 l.2) λg=>br g.1 (ag (sP n g.2) λo=>.ok (o.1,o.2)) (ag (cx 40 g.2) λh=>br h.1 (ag (cx 41 h.2) λi=>br i.1 (.ok (rK 1 [],i.2)) (ag (q.eY i.2) λj=>ag (cx 41 j.2) λe=>br (!e.1) (.ok (j.1,bF e.2)) (.ok (j.1,e.2)))) (iu 1 [0,2] [102] (λa=>[(73,Bo a.2)]) (λa=>[(0,.box (dp a.1))]) (λ(a:N×Bool)=>br a.2 (.ok (rK 0 [],bF a.1)) (gd (cD (a.1.At+1)) (ji 12 (gd (cD ((a.1.At+1) - 1)) (el a.1.S ((a.1.At+1) - 1) λm=>ag (mg n (IntKind.wrap .i64 (m.toNat:Int)) (IntKind.wrap .i64 (m.toNat:Int))) λf=>.ok (rG 2 f,bA a.1)))))) λc=>ji 39 (ag (gC h.2) λb=>br (!b.1) (c (b.2,true)) (el b.2.S b.2.At λr=>br (decide ((r.toNat:Int)<32)) (c (b.2,true)) (el b.2.S b.2.At λs=>br (decide ((s.toNat:Int)>126)) (c (b.2,true)) (el b.2.S b.2.At λt=>ag (lQ n (t.toNat:Int)) λv=>c (b.2,v)))))))))
def pj (g:dP) (h:N):aI (bu×N):=
 ag (g.kX h) λf=>dz [0,2,3] [102] (λ_=>[]) (λa=>[(0,.box (dp a.1)),(103,.box (mA a.2))]) (λb (a:N×bu)=>br (!a.1.oO) (ag (cx 42 a.1) λc=>br c.1 (b (c.2,rK 5 [a.2])) (ag (cx 43 c.2) λd=>br d.1 (b (d.2,rK 3 [a.2,rK 5 [a.2]])) (ag (cx 63 d.2) λe=>br e.1 (b (e.2,rK 4 [a.2,rK 1 []])) (.ok (a.2,e.2))))) (.ok (a.2,a.1))) n (f.2,f.1)
def nJ (d:dP) (i:N):aI (bu×N):=
 ag (d.fW i) λe=>oj [[20,6]] (jk [[1,106,10003],[0,2,3],[0,102]] (dz [0,2] [102] (λa=>[(3,.arr 10003 a.2.length)]) (λa=>[(0,.box (dp a.1)),(10003,.app 156 6 (bu.Cs a.2))]) (λh (a:N×(List bu))=>ji 26 (ag (gC a.1) λb=>br b.1 (el b.2.S b.2.At λf=>br ((f.toNat:Int) !=124) (el b.2.S b.2.At λg=>br ((g.toNat:Int) !=41) (ag (d.fW b.2) λc=>gd (nP 64 a.2.length (List.length [c.1])) (jk [[1,137,10003],[0,2,3],[0,102]] (h (c.2,a.2++[c.1])))) (oj [[22,38]] (ag (lV 3 a.2) λj=>.ok (j,b.2)))) (oj [[22,38]] (ag (lV 3 a.2) λk=>.ok (k,b.2)))) (oj [[22,38]] (ag (lV 3 a.2) λl=>.ok (l,b.2))))) n (e.2,[e.1])))
def cw:Nat->dP
 | 0=>⟨λ_=>.stuck,λ_=>.stuck,λ_=>.stuck,λ_=>.stuck⟩
 | n+1=>⟨kY n (cw n),qj n (cw n),pj n (cw n),nJ n (cw n)⟩
abbrev eY:=(cw n).eY
abbrev kX:=(cw n).kX
abbrev fW:=(cw n).fW
abbrev fP:=(cw n).fP
abbrev tS (f:N->aI (bu×N)):Prop:=∀ p0,CT Pq 204 [.ptr 0 0] [.box (dp p0)] (f p0) (λx=>.agg (mA x.1)) (λx=>[.box (dp x.2)])
abbrev z8 (f:N->aI (bu×N)):Prop:=∀ p0,CT Pq 268 [.ptr 0 0] [.box (dp p0)] (f p0) (λx=>.agg (mA x.1)) (λx=>[.box (dp x.2)])
abbrev yC (f:N->aI (bu×N)):Prop:=∀ p0,CT Pq 254 [.ptr 0 0] [.box (dp p0)] (f p0) (λx=>.agg (mA x.1)) (λx=>[.box (dp x.2)])
abbrev wj (f:N->aI (bu×N)):Prop:=∀ p0,CT Pq 232 [.ptr 0 0] [.box (dp p0)] (f p0) (λx=>.agg (mA x.1)) (λx=>[.box (dp x.2)])
class eC (T:dP):Prop where
 eY:tS T.eY
 kX:z8 T.kX
 fW:yC T.fW
 fP:wj T.fP
attribute [instance] eC.eY eC.kX eC.fW eC.fP
theorem zI (T:dP) [hT:eC T]:tS (kY n T):=λp0=>by unfold kY;exact zz 0 func204
theorem EY (T:dP) [hT:eC T]:z8 (qj n T):=λp0=>by unfold qj rG rK bF bA;exact zz 1 func268
theorem Ef (T:dP) [hT:eC T]:yC (pj n T):=λp0=>by unfold pj rK;exact zz 1 func254
theorem Ch (T:dP) [hT:eC T]:wj (nJ n T):=λp0=>by unfold nJ;exact zz 0 func232
theorem rz:∀ n,eC (cw n)
 | 0=>by constructor<;>(repeat intro)<;>exact rU
 | n+1=>have:=rz n;⟨zI n _,EY n _,Ef n _,Ch n _⟩
attribute [instance] rz
def lL (b:ByS):aI (bu×dH):=
 br (decide ((b.length:Int)>1000)) (.ok (rK 0 [],dH.mk 2 0)) (ag (eY n (N.mk b 0 false)) λa=>br a.2.oO (ji 8 (.ok (rK 0 [],dH.mk 8 a.2.At))) (br (decide (a.2.At<b.length)) (ji 8 (.ok (rK 0 [],dH.mk 8 a.2.At))) (ag (BP n a.1) λc=>br (c==9) (.ok (rK 0 [],dH.mk 9 0)) (.ok (a.1,dH.mk 0 0)))))
instance ŕ (p0:ByS):CT Pq 162 [eu p0] [] (lL n p0) (λx=>.mE [.agg (mA x.1),.agg [I x.2.eU,I x.2.At]]) (λ_=>[]):=by unfold lL rK;exact zz 1 func162
def BQ (a:aK):aI (Bool):=
 br (decide (a.aq<1)) (.ok false) (br (decide (a.aq>8)) (.ok false) (ag (nI n a.so) λo=>br o (.ok false) (ag (nI n [a.lR]) λi=>br i (.ok false) (ag (nI n a.J) λj=>br j (.ok false) (iu 1 [0,1] [101] (λe=>[(3,I e)]) (λ_=>[]) (λ(e:Int)=>iu 0 [0,1] [101] (λf=>[(3,I f)]) (λ_=>[]) (λ(f:Int)=>iu 0 [0,1] [101] (λ_=>[]) (λ_=>[]) (λ(p:Unit)=>iu 0 [0,1] [101] (λ_=>[]) (λ_=>[]) (λ(q:Unit)=>iu 0 [0,1] [101] (λ_=>[]) (λ_=>[]) (λ(r:Unit)=>br (a.aq==1) (.ok true) (br (a.aq==2) (ag (lL n a.ni) λk=>.ok ((k.2.eU==0))) (br (a.aq==4) (ag (eJ n a.ni) λl=>.ok l) (.ok ((a.ni==([]:ByS))))))) λc=>br (a.aq==6) (ag (wi n (mz.mk a.B a.bT)) λm=>br (!m) (.ok false) (br (a.aq !=6) (br (a.B !=([]:ByS)) (.ok false) (br (a.bT !=([]:ByS)) (.ok false) (c ()))) (c ()))) (br (a.aq !=6) (br (a.B !=([]:ByS)) (.ok false) (br (a.bT !=([]:ByS)) (.ok false) (c ()))) (c ()))) λd=>br (a.aq !=5) (br (a.aq !=6) (br (decide ((a.lZ.length:Int)>0)) (.ok false) (br (decide ((a.J.length:Int)>0)) (.ok false) (d ()))) (d ())) (d ())) λb=>br ((a.bK.length:Int) !=f) (.ok false) (br (a.aq==1) (br (decide (a.eo<1)) (.ok false) (br (decide (a.eo>3)) (.ok false) (br (a.aq !=1) (br (a.eo !=0) (.ok false) (b ())) (b ())))) (br (a.aq !=1) (br (a.eo !=0) (.ok false) (b ())) (b ())))) λh=>br (a.aq==8) (h 0) (h e)) λg=>br (a.aq==7) (g 2) (g 1))))))
instance bg (p0:aK):CT Pq 110 [.agg (rD p0)] [] (BQ n p0) (λx=>Bo x) (λ_=>[]):=by unfold BQ;exact zz 0 func110
end
section
variable (n:Nat)
structure pY where
 jB:(List aK)->Bool->aI (Bool)
 oa:ak->Bool->Bool->Bool->aI (Bool)
def vw (e:pY) (h:(List aK)) (i:Bool):aI (Bool):=
 dz [0,1,10,11] [] (λc=>[(12,I c)]) (λ_=>[]) (λk (c:Int)=>br (decide (c<h.length)) (el h c λa=>iu 2 [0,1,6,10,11,12] [106] (λ_=>[]) (λ_=>[]) (λ(r:Unit)=>iu 0 [0,1,6,10,11,12] [106] (λf=>[(7,Bo f)]) (λ_=>[]) (λ(f:Bool)=>dz [0,1,7,10,11,12,61,62] [] (λb=>[(63,I b)]) (λ_=>[]) (λj (b:Int)=>br (decide (b<a.bK.length)) (el a.bK b λl=>ag (e.oa l f false false) λm=>br (!m) (.ok false) (gd (cD (b+1)) (j (b+1)))) (gd (cD (c+1)) (k (c+1)))) n 0) λd=>br i (br (a.aq==1) (d true) (br (a.aq==2) (d true) (br (a.aq==3) (d true) (d ((a.aq==4)))))) (d false)) λg=>ag (BQ n a) λo=>br (!o) (.ok false) (br (!i) (br (a.aq==4) (.ok false) (br (a.aq==8) (.ok false) (ag (e.jB a.lZ false) λp=>br (!p) (.ok false) (g ())))) (ag (e.jB a.lZ false) λq=>br (!q) (.ok false) (g ())))) (.ok true)) n 0
def wZ (j:pY) (a:ak) (c:Bool) (m:Bool) (k:Bool):aI (Bool):=
 iu 2 [0,1,2,3,4] [104] (λi=>[(50,Bo i)]) (λ_=>[]) (λ(i:Bool)=>br i (.ok false) (dz [0,1,2,3,4,52,53] [104] (λd=>[(54,I d)]) (λ_=>[]) (λl (d:Int)=>br (decide (d<a.bK.length)) (el a.bK d λo=>iu 2 [0,1,2,3,4,9,10,52,53,54] [104,110] (λg=>[(11,Bo g)]) (λ_=>[]) (λ(g:Bool)=>iu 0 [0,1,2,3,4,10,11,52,53,54] [104,110] (λh=>[(12,Bo h)]) (λ_=>[]) (λ(h:Bool)=>ag (j.oa o g (a.aq==17) h) λp=>br (!p) (.ok false) (gd (cD (d+1)) (l (d+1)))) λf=>br (a.aq==14) (br (a.U==0) (f true) (gd (cD (d+1)) (f ((decide ((d+1)<(a.bK.length:Int))))))) (f false)) λe=>br (a.aq==16) (br c (e true) (e ((a.aq==10)))) (e ((a.aq==10)))) (ag (j.jB a.fi (a.aq==13)) λq=>.ok q)) n 0)) λb=>ag (wX n a) λr=>br (!r) (b true) (br (a.aq==18) (br (!m) (b true) (br (a.aq==15) (br (!k) (b true) (br (a.aq==13) (br (!c) (b true) (br (a.aq==22) (b c) (b false))) (br (a.aq==22) (b c) (b false)))) (br (a.aq==13) (br (!c) (b true) (br (a.aq==22) (b c) (b false))) (br (a.aq==22) (b c) (b false))))) (br (a.aq==15) (br (!k) (b true) (br (a.aq==13) (br (!c) (b true) (br (a.aq==22) (b c) (b false))) (br (a.aq==22) (b c) (b false)))) (br (a.aq==13) (br (!c) (b true) (br (a.aq==22) (b c) (b false))) (br (a.aq==22) (b c) (b false)))))
def jN:Nat->pY
 | 0=>⟨λ_ _=>.stuck,λ_ _ _ _=>.stuck⟩
 | n+1=>⟨vw n (jN n),wZ n (jN n)⟩
abbrev jB:=(jN n).jB
abbrev oa:=(jN n).oa
abbrev Gb (f:(List aK)->Bool->aI (Bool)):Prop:=∀ p0 p1,CT Pq 58 [.pv (.sl p0.length (aK.Cs p0)),Bo p1] [] (f p0 p1) (λx=>Bo x) (λ_=>[])
abbrev Hn (f:ak->Bool->Bool->Bool->aI (Bool)):Prop:=∀ p0 p1 p2 p3,CT Pq 73 [.agg (Q p0),Bo p1,Bo p2,Bo p3] [] (f p0 p1 p2 p3) (λx=>Bo x) (λ_=>[])
class sd (T:pY):Prop where
 jB:Gb T.jB
 oa:Hn T.oa
attribute [instance] sd.jB sd.oa
theorem Lg (T:pY) [hT:sd T]:Gb (vw n T):=λp0 p1=>by unfold vw;exact zz 0 func58
theorem MF (T:pY) [hT:sd T]:Hn (wZ n T):=λp0 p1 p2 p3=>by unfold wZ;exact zz 0 func73
theorem Aa:∀ n,sd (jN n)
 | 0=>by constructor<;>(repeat intro)<;>exact rU
 | n+1=>have:=Aa n;⟨Lg n _,MF n _⟩
attribute [instance] Aa
structure ra where
 rf:(List aK)->aI (Int)
 kB:ak->aI (Int)
def w4 (d:ra) (e:(List aK)):aI (Int):=
 dz [0,9,10] [] (λb=>[(3,I b.1),(11,I b.2)]) (λ_=>[]) (λh (b:Int×Int)=>br (decide (b.2<e.length)) (el e b.2 λc=>ag (d.rf c.lZ) λj=>dz [0,3,9,10,11,19,20] [] (λa=>[(6,I a.1),(21,I a.2)]) (λ_=>[]) (λg (a:Int×Int)=>br (decide (a.2<c.bK.length)) (el c.bK a.2 λi=>ag (d.kB i) λf=>gd (cD (a.2+1)) (g (if f>a.1 then f else a.1,a.2+1))) (gd (cD (a.1+1)) (gd (cD (b.2+1)) (h (if a.1+1>b.1 then a.1+1 else b.1,b.2+1))))) n (j,0)) (.ok b.1)) n (0,0)
def sQ (c:ra) (b:ak):aI (Int):=
 ag (c.rf b.fi) λg=>dz [0,10,11] [] (λa=>[(3,I a.1),(12,I a.2)]) (λ_=>[]) (λe (a:Int×Int)=>br (decide (a.2<b.bK.length)) (el b.bK a.2 λf=>ag (c.kB f) λd=>gd (cD (a.2+1)) (e (if d>a.1 then d else a.1,a.2+1))) (gd (cD (a.1+1)) (.ok (a.1+1)))) n (g,0)
def mV:Nat->ra
 | 0=>⟨λ_=>.stuck,λ_=>.stuck⟩
 | n+1=>⟨w4 n (mV n),sQ n (mV n)⟩
abbrev rf:=(mV n).rf
abbrev kB:=(mV n).kB
abbrev Ho (f:(List aK)->aI (Int)):Prop:=∀ p0,CT Pq 60 [.pv (.sl p0.length (aK.Cs p0))] [] (f p0) (λx=>I x) (λ_=>[])
abbrev CU (f:ak->aI (Int)):Prop:=∀ p0,CT Pq 74 [.agg (Q p0)] [] (f p0) (λx=>I x) (λ_=>[])
class sR (T:ra):Prop where
 rf:Ho T.rf
 kB:CU T.kB
attribute [instance] sR.rf sR.kB
theorem MG (T:ra) [hT:sR T]:Ho (w4 n T):=λp0=>by unfold w4;exact zz 0 func60
theorem Hp (T:ra) [hT:sR T]:CU (sQ n T):=λp0=>by unfold sQ;exact zz 0 func74
theorem Bd:∀ n,sR (mV n)
 | 0=>by constructor<;>(repeat intro)<;>exact rU
 | n+1=>have:=Bd n;⟨MG n _,Hp n _⟩
attribute [instance] Bd
def xY (a:Bool) (b:Int):aI (Int):=
 br (!a) (.ok 11) (br (decide (b>16)) (.ok 9) (.ok 0))
instance Y4 (p0:Bool) (p1:Int):CT Pq 59 [Bo p0,I p1] [] (xY p0 p1) (λx=>I x) (λ_=>[]):=by unfold xY;exact zz 0 func59
def yD (b:fX):aI (Int):=
 iu 1 [0,1] [101] (λd=>[(3,Bo d)]) (λ_=>[]) (λ(d:Bool)=>dz [0,1,26,27] [101] (λa=>[(3,Bo a.1),(28,I a.2)]) (λ_=>[]) (λe (a:Bool×Int)=>br (decide (a.2<b.eB.length)) (el b.eB a.2 λf=>br a.1 (ag (eJ n f.Name) λg=>gd (cD (a.2+1)) (e (g,a.2+1))) (gd (cD (a.2+1)) (e (false,a.2+1)))) (ag (rf n b.fi) λh=>ag (xY a.1 h) λi=>.ok i)) n (d,0)) λc=>br (b.jD==([]:ByS)) (ag (nI n b.J) λj=>br (!j) (ag (jB n b.fi true) λk=>c k) (c false)) (ag (eJ n b.jD) λl=>br l (ag (nI n b.J) λm=>br (!m) (ag (jB n b.fi true) λo=>c o) (c false)) (c false))
instance Ŗ (p0:fX):CT Pq 20 [.agg (zj p0)] [] (yD n p0) (λx=>I x) (λ_=>[]):=by unfold yD;exact zz 0 func20
def aS (e:ah):aI (aC×ah):=
 iu 1 [0,2] [102] (λ_=>[]) (λb=>[(0,.box (K b))]) (λ(b:ah)=>ji 11 (el b.l b.bO λg=>.ok (g,b))) λc=>dz [0,2] [102] (λ_=>[]) (λa=>[(0,.box (K a))]) (λd (a:ah)=>ji 18 (br a.skip (el a.l a.bO λf=>br (f.aq==7) (gd (cD (a.bO+1)) (d ((ah.mk a.s a.shift a.l (a.bO+1) a.skip a.jF a.td)))) (c a)) (c a))) n e
instance FO (p0:ah):CT Pq 29 [.ptr 0 0] [.box (K p0)] (aS n p0) (λx=>.agg (nL x.1)) (λx=>[.box (K x.2)]):=by unfold aS;exact zz 0 func29
def P (b:ah):aI (aC×ah):=
 ag (aS n b) λa=>ji 11 (gd (cD (a.2.bO+1)) (br (decide ((a.2.bO+1)<(a.2.l.length:Int))) (gd (cD (a.2.bO+1)) (.ok (a.1,ah.mk a.2.s a.2.shift a.2.l (a.2.bO+1) a.2.skip a.2.jF a.2.td))) (.ok (a.1,a.2))))
instance To (p0:ah):CT Pq 30 [.ptr 0 0] [.box (K p0)] (P n p0) (λx=>.agg (nL x.1)) (λx=>[.box (K x.2)]):=by unfold P;exact zz 0 func30
def kZ (e:Int) (f:Int) (b:ah):aI (Bool×ah):=
 dz [0,1,2] [0] (λa=>[(7,I a)]) (λ_=>[]) (λd (a:Int)=>br (decide (a<f)) (ji 12 (gd (cD (a - b.shift)) (el b.s (a - b.shift) λc=>br ((c.toNat:Int)==10) (.ok (true,b)) (gd (cD (a+1)) (d (a+1)))))) (.ok (false,b))) n e
instance Tp (p0:Int) (p1:Int) (p2:ah):CT Pq 105 [.ptr 0 0,I p0,I p1] [.box (K p2)] (kZ n p0 p1 p2) (λx=>Bo x.1) (λx=>[.box (K x.2)]):=by unfold kZ;exact zz 0 func105
def kI (a:ah):aI (Bool×ah):=
 br (a.bO==0) (.ok (true,a)) (ji 41 (gd (cD (a.bO - 1)) (el a.l (a.bO - 1) λe=>br (e.aq==7) (.ok (true,a)) (gd (cD (a.bO - 1)) (el a.l (a.bO - 1) λc=>el a.l a.bO λd=>ag (kZ n c.pO d.cN a) λb=>.ok (b.1,b.2))))))
instance Ud (p0:ah):CT Pq 102 [.ptr 0 0] [.box (K p0)] (kI n p0) (λx=>Bo x.1) (λx=>[.box (K x.2)]):=by unfold kI;exact zz 0 func102
def iD (f:ah):aI ((List ByS)×ah):=
 jk [[3,3,10003,1,9]] (dz [0] [] (λa=>[(3,.arr 10003 a.2.length)]) (λa=>[(0,.box (K a.1)),(10003,.app 9 1 (gh a.2))]) (λe (a:ah×(List ByS))=>ag (aS n a.1) λd=>br (d.1.aq==6) (ag (kI n d.2) λb=>br b.1 (ag (P n b.2) λc=>gd (nP 16 a.2.length (List.length [c.1.bM])) (jk [[1,117,10003],[0,3],[0]] (e (c.2,a.2++[c.1.bM])))) (s6 [[1,10003,1],[0,2],[0]] (.ok (a.2,b.2)))) (s6 [[1,10003,1],[0,2],[0]] (.ok (a.2,d.2)))) n (f,[]))
instance NS (p0:ah):CT Pq 50 [.ptr 0 0] [.box (K p0),.app 9 1 (gh [])] (iD n p0) (λx=>.arr 1 x.1.length) (λx=>[.box (K x.2),.app 9 1 (gh x.1)]):=by unfold iD;exact zz 0 func50
def jx (f:ah):aI ((List ByS)×ah):=
 jk [[3,3,10003,1,9]] (dz [0] [] (λa=>[(3,.arr 10003 a.2.length)]) (λa=>[(0,.box (K a.1)),(10003,.app 9 1 (gh a.2))]) (λe (a:ah×(List ByS))=>ag (aS n a.1) λd=>br (d.1.aq==6) (ag (kI n d.2) λb=>br b.1 (ag (P n b.2) λc=>gd (nP 16 a.2.length (List.length [c.1.bM])) (jk [[1,117,10003],[0,3],[0]] (e (c.2,a.2++[c.1.bM])))) (oj [[22,18]] (.ok (a.2,b.2)))) (oj [[22,18]] (.ok (a.2,d.2)))) n (f,[]))
instance Lh (p0:ah):CT Pq 50 [.ptr 0 0] [.box (K p0)] (jx n p0) (λx=>yi x.1) (λx=>[.box (K x.2)]):=by unfold jx;exact zz 0 func50
def cM (b:Int) (a:ah):aI (aC×ah):=
 ji 12 (gd (cD (a.bO+b)) (br (decide ((a.bO+b)<(a.l.length:Int))) (ji 13 (gd (cD (a.bO+b)) (el a.l (a.bO+b) λd=>.ok (d,a)))) (ji 13 (gd (cD ((a.l.length:Int) - 1)) (el a.l ((a.l.length:Int) - 1) λc=>.ok (c,a))))))
instance R8 (p0:Int) (p1:ah):CT Pq 155 [.ptr 0 0,I p0] [.box (K p1)] (cM p0 p1) (λx=>.agg (nL x.1)) (λx=>[.box (K x.2)]):=by unfold cM;exact zz 0 func155
def bJ (b:Int) (a:ah):aI (ah):=
 br (a.jF==0) (.ok ((ah.mk a.s a.shift a.l a.bO a.skip 8 b))) (.ok a)
instance FP (p0:Int) (p1:ah):CT Pq 31 [.ptr 0 0,I p0] [.box (K p1)] (bJ p0 p1) (λ_=>.mE []) (λx=>[.box (K x)]):=by unfold bJ;exact zz 0 func31
def cG (a:ah):aI (Bool×ah):=
 .ok ((a.jF==0),a)
instance BR (p0:ah):CT Pq 19 [.ptr 0 0] [.box (K p0)] (cG p0) (λx=>Bo x.1) (λx=>[.box (K x.2)]):=by unfold cG;exact zz 0 func19
def ch (a:aC) (b:ByS):aI (Bool):=
 br (a.aq==5) (.ok ((a.bM==b))) (.ok false)
instance afY (p0:aC) (p1:ByS):CT Pq 70 [.agg (nL p0),eu p1] [] (ch p0 p1) (λx=>Bo x) (λ_=>[]):=by unfold ch;exact zz 0 func70
def cH (b:ByS) (c:ah):aI (ah):=
 ag (aS n c) λa=>ag (ch a.1 b) λd=>br (!d) (ag (bJ a.1.cN a.2) λe=>.ok e) (ag (P n a.2) λf=>.ok f.2)
instance WD (p0:ByS) (p1:ah):CT Pq 156 [.ptr 0 0,eu p0] [.box (K p1)] (cH n p0 p1) (λ_=>.mE []) (λx=>[.box (K x)]):=by unfold cH;exact zz 0 func156
def jU (d:aC) (b:(List ByS)):aI (Bool):=
 dz [0,1,2] [102] (λa=>[(5,I a)]) (λ_=>[]) (λc (a:Int)=>br (decide (a<b.length)) (ji 6 (el b a λe=>ag (ch d e) λf=>br f (.ok true) (gd (cD (a+1)) (c (a+1))))) (.ok false)) n 0
instance ŗ (p0:aC) (p1:(List ByS)):CT Pq 154 [.agg (nL p0),yi p1] [] (jU n p0 p1) (λx=>Bo x) (λ_=>[]):=by unfold jU;exact zz 0 func154
def kM (b:ah):aI (Int×ah):=
 dz [0] [0] (λa=>[(3,I a.1),(4,I a.2)]) (λ_=>[]) (λe (a:Int×Int)=>br (decide (a.2<b.l.length)) (iu 1 [0,4] [0] (λc=>[(3,I c)]) (λ_=>[]) (λ(c:Int)=>el b.l a.2 λf=>ag (jU n f [([41]:ByS),([93]:ByS),([125]:ByS)]) λh=>br h (gd (cD (c - 1)) (br ((c - 1)==0) (.ok (a.2,b)) (gd (cD (a.2+1)) (e (c - 1,a.2+1))))) (br (c==0) (.ok (a.2,b)) (gd (cD (a.2+1)) (e (c,a.2+1))))) λd=>el b.l a.2 λg=>ag (jU n g [([40]:ByS),([91]:ByS),([123]:ByS)]) λi=>br i (gd (cD (a.1+1)) (d (a.1+1))) (d a.1)) (.ok ((-1),b))) n (0,b.bO)
instance Qi (p0:ah):CT Pq 201 [.ptr 0 0] [.box (K p0)] (kM n p0) (λx=>I x.1) (λx=>[.box (K x.2)]):=by unfold kM;exact zz 0 func201
def cy (b:ByS) (c:Bool) (d:ah):aI (ah):=
 ag (cH n b d) λa=>.ok ((ah.mk a.s a.shift a.l a.bO c a.jF a.td))
instance au (p0:ByS) (p1:Bool) (p2:ah):CT Pq 203 [.ptr 0 0,eu p0,Bo p1] [.box (K p2)] (cy n p0 p1 p2) (λ_=>.mE []) (λx=>[.box (K x)]):=by unfold cy;exact zz 0 func203
end
end Go.Abs
