/- PROVED: lemmas for ParserFiles. CONDITIONS: as stated. -/
import Derived.Test.YtlfolpjenfkhiaaGreatDoorW6
set_option linter.all false
namespace Go.Abs
open Go.Proofs Go.Proofs.Tryz aI
set_option maxRecDepth 100000
set_option maxHeartbeats 2000000
section
variable (n:Nat)
def tp (b:ByS):aI ((List aC)×dH):=
 br (decide ((b.length:Int)>65536)) (s6 [[9,2]] (.ok ([],dH.mk 2 0))) (jk [[3,4,10004,4,62]] (dz [0,3] [103] (λa=>[(4,.arr 10004 a.1.length),(5,I a.2)]) (λa=>[(10004,.app 62 4 (aC.Cs a.1))]) (λc (a:(List aC)×Int)=>br (decide (a.2<b.length)) (el b a.2 λe=>br ((e.toNat:Int)==32) (gd (cD (a.2+1)) (c (a.1,a.2+1))) (el b a.2 λf=>br ((f.toNat:Int)==9) (gd (cD (a.2+1)) (c (a.1,a.2+1))) (el b a.2 λg=>br ((g.toNat:Int)==13) (gd (cD (a.2+1)) (c (a.1,a.2+1))) (el b a.2 λh=>br ((h.toNat:Int)==10) (oj [[22,39]] (ag (xT n b a.1 a.2) λi=>br i (gd (cD (a.2+1)) (gd (nP 40 a.1.length (List.length [aC.mk 7 [10] a.2 (a.2+1)])) (jk [[1,148,10004],[0,3,4,5],[103]] (gd (cD (a.2+1)) (c (a.1++[aC.mk 7 [10] a.2 (a.2+1)],a.2+1)))))) (gd (cD (a.2+1)) (c (a.1,a.2+1))))) (ag (uq n b a.2) λd=>br (!d.2) (s6 [[9,2]] (.ok ([],dH.mk 8 a.2))) (gd (nP 40 a.1.length (List.length [d.1])) (jk [[1,164,10004],[0,3,4,6],[103,106]] (c (a.1++[d.1],d.1.pO))))))))) (gd (nP 40 a.1.length (List.length [aC.mk 0 [] (b.length:Int) (b.length:Int)])) (jk [[1,174,10002],[0,2,3],[103]] (s6 [[14,2]] (.ok (a.1++[aC.mk 0 [] (b.length:Int) (b.length:Int)],dH.mk 0 0)))))) n ([],0)))
instance abk (p0:ByS):CT Pq 17 [eu p0] [] (tp n p0) (λx=>.mE [EP x.1,.agg [I x.2.eU,I x.2.At]]) (λ_=>[]):=by unfold tp;exact zz 0 func17
def wh:aI ((List ByS)):=
 .ok ([([110,117,108,108]:ByS),([116,114,117,101]:ByS),([102,97,108,115,101]:ByS),([98,111,111,108]:ByS),([105,110,116]:ByS),([110,117,109,98,101,114]:ByS),([115,116,114,105,110,103]:ByS),([108,101,116]:ByS),([105,102]:ByS),([102,111,114]:ByS),([105,110]:ByS),([112,97,99,107,97,103,101]:ByS),([105,109,112,111,114,116]:ByS)])
instance Ŏ:CT Pq 107 [] [] (wh) (λx=>yi x) (λ_=>[]):=by unfold wh;exact zz 0 func107
def eJ (b:ByS):aI (Bool):=
 br (decide ((b.length:Int)<1)) (.ok false) (br (decide ((b.length:Int)>32)) (.ok false) (ag wh λg=>dz [0,15,16] [] (λc=>[(17,I c)]) (λ_=>[]) (λo (c:Int)=>br (decide (c<g.length)) (el g c λp=>br (b==p) (.ok false) (gd (cD (c+1)) (o (c+1)))) (iu 1 [0] [] (λd=>[(5,I d)]) (λ_=>[]) (λ(d:Int)=>br (decide (d>=b.length)) (.ok false) (el b d λh=>ag (lU (h.toNat:Int)) λq=>br (!q) (.ok false) (dz [0] [] (λa=>[(6,I a)]) (λ_=>[]) (λf (a:Int)=>br (decide (a<b.length)) (el b a λi=>ag (lU (i.toNat:Int)) λr=>br (!r) (el b a λj=>ag (lK (j.toNat:Int)) λs=>br (!s) (el b a λk=>br ((k.toNat:Int) !=95) (.ok false) (gd (cD (a+1)) (f (a+1)))) (gd (cD (a+1)) (f (a+1)))) (gd (cD (a+1)) (f (a+1)))) (.ok true)) n d))) λe=>el b 0 λl=>br ((l.toNat:Int)==35) (e 1) (el b 0 λm=>br ((m.toNat:Int)==95) (e 1) (e 0)))) n 0))
instance ŏ (p0:ByS):CT Pq 56 [eu p0] [] (eJ n p0) (λx=>Bo x) (λ_=>[]):=by unfold eJ;exact zz 0 func56
def yA (a:Int):aI (Int×Int):=
 iu 3 [0,4] [] (λd=>[(5,Bo d)]) (λ_=>[]) (λ(d:Bool)=>br d (.ok (1,1)) (iu 0 [0,4] [] (λe=>[(10,Bo e)]) (λ_=>[]) (λ(e:Bool)=>br e (.ok (2,2)) (br (a==15) (.ok (2,3)) (br (a==5) (.ok (1,1000000)) (br (a==17) (.ok (2,1000000)) (br (a==14) (.ok (0,1000000)) (br (a==21) (.ok (0,1000000)) (.ok (0,0)))))))) λc=>br (a==12) (c ((a==12))) (br (a==16) (c ((a==16))) (c ((a==20)))))) λb=>br (a==9) (b ((a==9))) (br (a==11) (b ((a==11))) (br (a==18) (b ((a==18))) (b ((a==19)))))
instance Ő (p0:Int):CT Pq 171 [I p0] [] (yA p0) (λx=>.mE [I x.1,I x.2]) (λ_=>[]):=by unfold yA;exact zz 0 func171
def nI (c:(List ByS)):aI (Bool):=
 dz [0,6,7] [] (λb=>[(8,I b)]) (λ_=>[]) (λg (b:Int)=>br (decide (b<c.length)) (el c b λd=>dz [0,4,6,7,8] [] (λa=>[(5,I a)]) (λ_=>[]) (λf (a:Int)=>br (decide (a<d.length)) (el d a λe=>br ((e.toNat:Int)==10) (.ok true) (gd (cD (a+1)) (f (a+1)))) (gd (cD (b+1)) (g (b+1)))) n 0) (.ok false)) n 0
instance ő (p0:(List ByS)):CT Pq 57 [yi p0] [] (nI n p0) (λx=>Bo x) (λ_=>[]):=by unfold nI;exact zz 0 func57
def wi (a:mz):aI (Bool):=
 ag (eJ n a.x0) λb=>br b (ag (eJ n a.x1) λc=>br c (.ok ((a.x0 !=a.x1))) (.ok false)) (.ok false)
instance Œ (p0:mz):CT Pq 161 [.agg [eu p0.x0,eu p0.x1]] [] (wi n p0) (λx=>Bo x) (λ_=>[]):=by unfold wi;exact zz 0 func161
def wV (a:ak):aI (Bool):=
 br (a.aq==2) (br (a.U==0) (.ok true) (.ok ((a.U==1)))) (br (a.aq==14) (br (a.U==0) (.ok true) (br (a.U==1) (.ok ((decide ((a.bK.length:Int)>0)))) (.ok false))) (br (a.aq==3) (br (decide (a.U>=0)) (.ok ((decide (a.U<=1000000000000000)))) (.ok false)) (.ok ((a.U==0)))))
instance Í (p0:ak):CT Pq 172 [.agg (Q p0)] [] (wV p0) (λx=>Bo x) (λ_=>[]):=by unfold wV;exact zz 0 func172
def wW (d:ByS) (b:(List ByS)):aI (Bool):=
 dz [0,1,7,8] [] (λa=>[(9,I a)]) (λ_=>[]) (λc (a:Int)=>br (decide (a<b.length)) (el b a λe=>br (d==e) (.ok true) (gd (cD (a+1)) (c (a+1)))) (.ok false)) n 0
instance afV (p0:ByS) (p1:(List ByS)):CT Pq 211 [eu p0,yi p1] [] (wW n p0 p1) (λx=>Bo x) (λ_=>[]):=by unfold wW;exact zz 0 func211
def tD (a:ak):aI (Bool):=
 br (a.B==([]:ByS)) (br (a.bT==([]:ByS)) (br (a.U==0) (.ok (((a.bK.length:Int)==0))) (.ok false)) (.ok false)) (iu 1 [0,1] [101] (λb=>[(3,I b)]) (λ_=>[]) (λ(b:Int)=>ag (wW n a.B [([102,105,101,108,100]:ByS),([108,101,116]:ByS),([108,111,111,112]:ByS),([112,97,99,107,97,103,101]:ByS),([117,110,107,110,111,119,110]:ByS)]) λd=>br d (br (a.bT==([]:ByS)) (br (decide (a.U>=0)) (.ok (((a.bK.length:Int)==b))) (.ok false)) (.ok false)) (.ok false)) λc=>br (a.B==([108,101,116]:ByS)) (c 1) (c 0))
instance WA (p0:ak):CT Pq 170 [.agg (Q p0)] [] (tD n p0) (λx=>Bo x) (λ_=>[]):=by unfold tD;exact zz 0 func170
def Bb (a:ak):aI (Bool):=
 iu 3 [0,1,4] [101] (λb=>[(5,Bo b)]) (λ_=>[]) (λ(b:Bool)=>br b (.ok true) (br (a.aq==8) (ag (wW n a.bM [([110,117,108,108]:ByS),([98,111,111,108]:ByS),([105,110,116]:ByS),([110,117,109,98,101,114]:ByS),([115,116,114,105,110,103]:ByS)]) λd=>.ok d) (br (a.aq==9) (ag (wW n a.bM [([60]:ByS),([60,61]:ByS),([62]:ByS),([62,61]:ByS),([33,61]:ByS),([61,126]:ByS),([33,126]:ByS)]) λe=>.ok e) (br (a.aq==19) (ag (wW n a.bM [([45]:ByS),([33]:ByS)]) λf=>.ok f) (br (a.aq==20) (ag (wW n a.bM [([43]:ByS),([45]:ByS),([42]:ByS),([47]:ByS),([37]:ByS),([61,61]:ByS),([33,61]:ByS),([60]:ByS),([60,61]:ByS),([62]:ByS),([62,61]:ByS),([38,38]:ByS),([124,124]:ByS)]) λg=>.ok g) (br (a.aq==10) (ag (eJ n a.bM) λh=>.ok h) (br (a.aq==21) (ag (eJ n a.bM) λi=>.ok i) (.ok ((a.bM==([]:ByS))))))))))) λc=>br (a.aq==4) (c ((a.aq==4))) (c ((a.aq==11)))
instance abl (p0:ak):CT Pq 169 [.agg (Q p0)] [] (Bb n p0) (λx=>Bo x) (λ_=>[]):=by unfold Bb;exact zz 0 func169
def wX (a:ak):aI (Bool):=
 br (decide (a.aq<1)) (.ok false) (br (decide (a.aq>22)) (.ok false) (ag (Bb n a) λj=>br (!j) (.ok false) (ag (nI n a.J) λf=>br f (.ok false) (iu 0 [0,1] [101] (λb=>[(3,Bo b)]) (λ_=>[]) (λ(b:Bool)=>iu 0 [0,1] [101] (λ_=>[]) (λ_=>[]) (λ(k:Unit)=>br (a.aq==10) (ag (tD n a) λg=>.ok g) (ag (yA a.aq) λe=>br (decide ((a.bK.length:Int)<e.1)) (.ok false) (br (decide ((a.bK.length:Int)>e.2)) (.ok false) (ag (wV a) λh=>br (!h) (.ok false) (br (a.aq==15) (ag (wi n (mz.mk a.B a.bT)) λi=>.ok i) (br (a.B==([]:ByS)) (.ok ((a.bT==([]:ByS)))) (.ok false))))))) λd=>br (!b) (br (decide ((a.fi.length:Int)>0)) (.ok false) (br (decide ((a.J.length:Int)>0)) (.ok false) (d ()))) (d ())) λc=>br (a.aq==13) (c true) (c ((a.aq==22)))))))
instance Î (p0:ak):CT Pq 116 [.agg (Q p0)] [] (wX n p0) (λx=>Bo x) (λ_=>[]):=by unfold wX;exact zz 0 func116
def Bc (a:bu):aI (Int):=
 iu 1 [0,1] [101] (λ_=>[]) (λ_=>[]) (λ(e:Unit)=>iu 2 [0] [] (λc=>[(55,Bo c)]) (λ_=>[]) (λ(c:Bool)=>br c (.ok 2) (.ok 0)) λb=>br (decide (a.aq<3)) (br (decide ((a.bK.length:Int)>0)) (b true) (br (a.aq==3) (br (decide ((a.bK.length:Int)<2)) (b true) (br (a.aq==5) (b (((a.bK.length:Int) !=1))) (b false))) (br (a.aq==4) (br (decide ((a.bK.length:Int)<2)) (b true) (br (a.aq==5) (b (((a.bK.length:Int) !=1))) (b false))) (br (a.aq==5) (b (((a.bK.length:Int) !=1))) (b false))))) (br (a.aq==3) (br (decide ((a.bK.length:Int)<2)) (b true) (br (a.aq==5) (b (((a.bK.length:Int) !=1))) (b false))) (br (a.aq==4) (br (decide ((a.bK.length:Int)<2)) (b true) (br (a.aq==5) (b (((a.bK.length:Int) !=1))) (b false))) (br (a.aq==5) (b (((a.bK.length:Int) !=1))) (b false))))) λd=>br (decide (a.aq<0)) (.ok 11) (br (decide (a.aq>5)) (.ok 11) (br (a.aq !=2) (br (!([a.Rx,a.Ry,a.Rz,a.RA]==[0,0,0,0])) (.ok 11) (d ())) (d ())))
instance abm (p0:bu):CT Pq 256 [.agg (mA p0)] [] (Bc p0) (λx=>I x) (λ_=>[]):=by unfold Bc;exact zz 0 func256
structure vD where
 ph:bu->Int->aI (Int)
def vu (f:vD) (b:bu) (c:Int):aI (Int):=
 br (decide (c>16)) (.ok 9) (ag (Bc b) λe=>br (e !=0) (.ok e) (dz [0,1,2] [102] (λa=>[(6,I a)]) (λ_=>[]) (λg (a:Int)=>br (decide (a<b.bK.length)) (el b.bK a λh=>gd (cD (c+1)) (ag (f.ph h (c+1)) λd=>br (d !=0) (.ok d) (gd (cD (a+1)) (g (a+1))))) (.ok 0)) n 0))
def sM:Nat->vD
 | 0=>⟨λ_ _=>.stuck⟩
 | n+1=>⟨vu n (sM n)⟩
abbrev ph:=(sM n).ph
abbrev Ga (f:bu->Int->aI (Int)):Prop:=∀ p0 p1,CT Pq 235 [.agg (mA p0),I p1] [] (f p0 p1) (λx=>I x) (λ_=>[])
class wY (T:vD):Prop where
 ph:Ga T.ph
attribute [instance] wY.ph
theorem Lf (T:vD) [hT:wY T]:Ga (vu n T):=λp0 p1=>by unfold vu;exact zz 0 func235
theorem z7:∀ n,wY (sM n)
 | 0=>by constructor<;>(repeat intro)<;>exact rU
 | n+1=>have:=z7 n;⟨Lf n _⟩
attribute [instance] z7
def BP (a:bu):aI (Int):=
 ag (ph n a 1) λb=>.ok b
instance œ (p0:bu):CT Pq 205 [.agg (mA p0)] [] (BP n p0) (λx=>I x) (λ_=>[]):=by unfold BP;exact zz 0 func205
end
section
variable (n:Nat)
def cx (c:Int) (a:N):aI (Bool×N):=
 ji 29 (br a.oO (.ok (false,a)) (br (decide (a.At>=a.S.length)) (.ok (false,a)) (el a.S a.At λb=>br ((b.toNat:Int) !=c) (.ok (false,a)) (gd (cD (a.At+1)) (.ok (true,bA a))))))
instance WB (p0:Int) (p1:N):CT Pq 233 [.ptr 0 0,Sc (.int .u8 p0)] [.box (dp p1)] (cx p0 p1) (λx=>Bo x.1) (λx=>[.box (dp x.2)]):=by unfold cx bA;exact zz 0 func233
def gC (a:N):aI (Bool×N):=
 ji 18 (br (!a.oO) (.ok ((decide (a.At<a.S.length)),a)) (.ok (false,a)))
instance Tm (p0:N):CT Pq 255 [.ptr 0 0] [.box (dp p0)] (gC p0) (λx=>Bo x.1) (λx=>[.box (dp x.2)]):=by unfold gC;exact zz 0 func255
def mg (c:Int) (d:Int):aI (eT):=
 dz [0,1,4,5] [104] (λa=>[(6,I a.2)]) (λa=>[(105,.box (mU a.1))]) (λb (a:eT×Int)=>br (decide (a.2<=d)) (ji 12 (gd ((64:Int)≠0) (gd ((64:Int)≠0) (gd ((0:Int)<=(IntKind.wrap .i64 (Int.tdiv a.2 64))/\(IntKind.wrap .i64 (Int.tdiv a.2 64))<4) (gd ((64:Int)≠0) (gd ((0:Int)<=(Int.tmod a.2 64)) (gd ((0:Int)<=(IntKind.wrap .i64 (Int.tdiv a.2 64))/\(IntKind.wrap .i64 (Int.tdiv a.2 64))<4) (gd (cD (a.2+1)) (b (tB (Bq [a.1.x0,a.1.x1,a.1.x2,a.1.x3] (IntKind.wrap .i64 (Int.tdiv a.2 64)) (HI .u64 (tA [a.1.x0,a.1.x1,a.1.x2,a.1.x3] (IntKind.wrap .i64 (Int.tdiv a.2 64))) (B9 .u64 1 (Int.tmod a.2 64)))),a.2+1)))))))))) (.ok a.1)) n (eT.mk 0 0 0 0,c)
instance afW (p0:Int) (p1:Int):CT Pq 287 [I p0,I p1] [] (mg n p0 p1) (λx=>.agg (mU x)) (λ_=>[]):=by unfold mg tB;exact zz 0 func287
def sN (a:Int):aI (Int):=
 iu 2 [0] [] (λb=>[(3,Bo b)]) (λ_=>[]) (λ(b:Bool)=>br b (.ok (IntKind.wrap .i64 (IntKind.wrap .u8 (a - 48)))) (iu 0 [0] [] (λc=>[(13,Bo c)]) (λ_=>[]) (λ(c:Bool)=>br c (gd (cD ((IntKind.wrap .i64 (IntKind.wrap .u8 (a - 97)))+10)) (.ok ((IntKind.wrap .i64 (IntKind.wrap .u8 (a - 97)))+10))) (br (decide (a>=65)) (br (decide (a<=70)) (gd (cD ((IntKind.wrap .i64 (IntKind.wrap .u8 (a - 65)))+10)) (.ok ((IntKind.wrap .i64 (IntKind.wrap .u8 (a - 65)))+10))) (.ok ((-1)))) (.ok ((-1))))) λe=>br (decide (a>=97)) (e ((decide (a<=102)))) (e false))) λd=>br (decide (a>=48)) (d ((decide (a<=57)))) (d false)
instance adJ (p0:Int):CT Pq 311 [Sc (.int .u8 p0)] [] (sN p0) (λx=>I x) (λ_=>[]):=by unfold sN;exact zz 0 func311
def mn (h:Int) (s:N):aI (Int×N):=
 iu 2 [0,1] [] (λb=>[(37,Bo b.2)]) (λb=>[(0,.box (dp b.1))]) (λ(b:N×Bool)=>br b.2 (.ok (0,bF b.1)) (ji 12 (el b.1.S b.1.At λl=>ag (sN (l.toNat:Int)) λe=>gd (cD (b.1.At+1)) (iu 2 [0,1,5] [] (λa=>[(91,Bo a.2)]) (λa=>[(0,.box (dp a.1))]) (λ(a:N×Bool)=>br a.2 (.ok (0,bF a.1)) (gd (cD (a.1.At+1)) (ji 14 (gd (cD ((a.1.At+1) - 1)) (el a.1.S ((a.1.At+1) - 1) λm=>ag (sN (m.toNat:Int)) λi=>gd (cD ((IntKind.wrap .i64 (e*16))+i)) (.ok ((IntKind.wrap .i64 (e*16))+i,bA a.1))))))) λf=>vi [0,1,2,3,4,5,6,7,8,9,10,11,12,13,14,15,16,17,18,19,20,21,22,23,24,25,26,29,27,28,30,31] (ag (gC (bA b.1)) λc=>br (!c.1) (f (c.2,true)) (el c.2.S c.2.At λo=>ag (sN (o.toNat:Int)) λt=>br (decide (t<0)) (f (c.2,true)) (el c.2.S c.2.At λp=>ag (sN (p.toNat:Int)) λj=>gd (cD ((IntKind.wrap .i64 (e*16))+j)) (f (c.2,(decide (((IntKind.wrap .i64 (e*16))+j)<h))))))))))) λg=>vi [0,1,2,3,4,5,6,7,8,9,10,11,12,13,14,15,16,17,18,19,20,21,22,23,24,25,29,26,27,28,30,31] (ag (gC s) λd=>br (!d.1) (g (d.2,true)) (el d.2.S d.2.At λq=>ag (sN (q.toNat:Int)) λu=>br (decide (u<0)) (g (d.2,true)) (el d.2.S d.2.At λr=>ag (sN (r.toNat:Int)) λk=>gd (cD ((IntKind.wrap .i64 (k*16))+15)) (g (d.2,(decide (((IntKind.wrap .i64 (k*16))+15)<h)))))))
instance Qg (p0:Int) (p1:N):CT Pq 300 [.ptr 0 0,I p0] [.box (dp p1)] (mn p0 p1) (λx=>I x.1) (λx=>[.box (dp x.2)]):=by unfold mn bF bA;exact zz 0 func300
def sO (d:eT) (b:eT):aI (eT):=
 dz [0,1,2,3,4] [103,104] (λa=>[(5,I a.2)]) (λa=>[(102,.box (mU a.1))]) (λc (a:eT×Int)=>br (decide (a.2<4)) (ji 10 (gd ((0:Int)<=a.2/\a.2<4) (gd ((0:Int)<=a.2/\a.2<4) (gd ((0:Int)<=a.2/\a.2<4) (gd (cD (a.2+1)) (c (tB (Bq [a.1.x0,a.1.x1,a.1.x2,a.1.x3] a.2 (HI .u64 (tA [a.1.x0,a.1.x1,a.1.x2,a.1.x3] a.2) (tA [b.x0,b.x1,b.x2,b.x3] a.2))),a.2+1))))))) (.ok a.1)) n (d,0)
instance afX (p0:eT) (p1:eT):CT Pq 304 [.agg (mU p0),.agg (mU p1)] [] (sO n p0 p1) (λx=>.agg (mU x)) (λ_=>[]):=by unfold sO tB;exact zz 0 func304
def yB (a:Int):aI (eT×Bool):=
 br (a==100) (ag (mg n 48 57) λo=>.ok (o,true)) (br (a==119) (ag (mg n 48 57) λb=>ag (mg n 97 122) λc=>ag (sO n b c) λd=>ag (mg n 65 90) λe=>ag (mg n 95 95) λf=>ag (sO n e f) λg=>ag (sO n d g) λh=>.ok (h,true)) (br (a==115) (ag (mg n 32 32) λi=>ag (mg n 9 10) λj=>ag (sO n i j) λk=>ag (mg n 13 13) λl=>ag (sO n k l) λm=>.ok (m,true)) (.ok (eT.mk 0 0 0 0,false))))
instance Ŕ (p0:Int):CT Pq 301 [Sc (.int .u8 p0)] [] (yB n p0) (λx=>.mE [.agg (mU x.1),Bo x.2]) (λ_=>[]):=by unfold yB;exact zz 0 func301
def qF (a:Int):aI (Int):=
 br (a==110) (.ok 10) (br (a==116) (.ok 9) (br (a==114) (.ok 13) (.ok ((-1)))))
instance Y2 (p0:Int):CT Pq 302 [Sc (.int .u8 p0)] [] (qF p0) (λx=>I x) (λ_=>[]):=by unfold qF;exact zz 0 func302
def lQ (d:Int):aI (Bool):=
 dz [0,3] [] (λa=>[(4,I a)]) (λ_=>[]) (λc (a:Int)=>br (decide (a<(List.length ([40,41,91,93,123,125,124,42,43,63,46,92]:ByS):Int))) (el ([40,41,91,93,123,125,124,42,43,63,46,92]:ByS) a λb=>br ((b.toNat:Int)==d) (.ok true) (gd (cD (a+1)) (c (a+1)))) (.ok false)) n 0
instance Y3 (p0:Int):CT Pq 289 [Sc (.int .u8 p0)] [] (lQ n p0) (λx=>Bo x) (λ_=>[]):=by unfold lQ;exact zz 0 func289
def mo (o:N):aI (bu×N):=
 ag (cx 120 o) λh=>br h.1 (ag (mn 0 h.2) λj=>ag (mg n j.1 j.1) λe=>.ok (rG 2 e,j.2)) (ag (gC h.2) λa=>br a.1 (ji 10 (el a.2.S a.2.At λc=>ag (yB n (c.toNat:Int)) λm=>iu 0 [0,2,4,5] [0,102] (λd=>[(6,Bo d.2)]) (λd=>[(105,.box (mU d.1))]) (λ(d:eT×Bool)=>iu 0 [0,2,5] [0,102] (λb=>[(6,Bo b.2)]) (λb=>[(105,.box (mU b.1))]) (λ(b:eT×Bool)=>br b.2 (gd (cD (a.2.At+1)) (.ok (rG 2 b.1,bA a.2))) (.ok (rK 0 [],bF a.2))) λl=>iu 0 [0,2,4,5,6] [0,102,105] (λg=>[(48,Bo g)]) (λ_=>[]) (λ(g:Bool)=>br g (ag (mg n (IntKind.wrap .i64 (c.toNat:Int)) (IntKind.wrap .i64 (c.toNat:Int))) λp=>l (p,true)) (l (d.1,d.2))) λf=>ag (lQ n (c.toNat:Int)) λq=>br q (f true) (br ((c.toNat:Int)==94) (f true) (f (((c.toNat:Int)==45))))) λk=>ag (qF (c.toNat:Int)) λi=>br (decide (i>=0)) (ag (mg n i i) λr=>k (r,true)) (k (m.1,m.2)))) (.ok (rK 0 [],bF a.2)))
instance Qh (p0:N):CT Pq 286 [.ptr 0 0] [.box (dp p0)] (mo n p0) (λx=>.agg (mA x.1)) (λx=>[.box (dp x.2)]):=by unfold mo rG bA rK bF;exact zz 1 func286
def mC (h:Int) (m:N):aI (Int×N):=
 ag (cx 92 m) λj=>br j.1 (ag (cx 120 j.2) λk=>br k.1 (ag (mn h k.2) λl=>.ok (l.1,l.2)) (ag (gC k.2) λa=>br a.1 (ji 10 (el a.2.S a.2.At λc=>ag (qF (c.toNat:Int)) λo=>iu 0 [0,1] [0] (λg=>[(6,I g)]) (λ_=>[]) (λ(g:Int)=>br (decide (g>=h)) (gd (cD (a.2.At+1)) (.ok (g,bA a.2))) (.ok (0,bF a.2))) λf=>ag (lQ n (c.toNat:Int)) λp=>br p (f (IntKind.wrap .i64 (c.toNat:Int))) (br ((c.toNat:Int)==94) (f (IntKind.wrap .i64 (c.toNat:Int))) (br ((c.toNat:Int)==45) (f (IntKind.wrap .i64 (c.toNat:Int))) (f o))))) (.ok (0,bF a.2)))) (ag (gC j.2) λb=>br (!b.1) (.ok (0,bF b.2)) (ji 10 (el b.2.S b.2.At λd=>iu 1 [0,1,7] [0] (λi=>[(93,Bo i)]) (λ_=>[]) (λ(i:Bool)=>br i (.ok (0,bF b.2)) (gd (cD (b.2.At+1)) (.ok (IntKind.wrap .i64 (d.toNat:Int),bA b.2)))) λe=>br (decide ((d.toNat:Int)<32)) (e true) (br (decide ((d.toNat:Int)>126)) (e true) (ag (lQ n (d.toNat:Int)) λq=>br q (e true) (br ((d.toNat:Int)==94) (e true) (br ((d.toNat:Int)==45) (e true) (e ((decide ((IntKind.wrap .i64 (d.toNat:Int))<h)))))))))))
instance Tn (p0:Int) (p1:N):CT Pq 303 [.ptr 0 0,I p0] [.box (dp p1)] (mC n p0 p1) (λx=>I x.1) (λx=>[.box (dp x.2)]):=by unfold mC bA bF;exact zz 0 func303
def AE (c:eT):aI (eT):=
 dz [0,1,2] [102] (λa=>[(3,I a.2)]) (λa=>[(101,.box (mU a.1))]) (λb (a:eT×Int)=>br (decide (a.2<4)) (gd ((0:Int)<=a.2/\a.2<4) (gd ((0:Int)<=a.2/\a.2<4) (gd (cD (a.2+1)) (b (tB (Bq [a.1.x0,a.1.x1,a.1.x2,a.1.x3] a.2 (aas .u64 (tA [a.1.x0,a.1.x1,a.1.x2,a.1.x3] a.2))),a.2+1))))) (.ok a.1)) n (c,0)
instance adK (p0:eT):CT Pq 305 [.agg (mU p0)] [] (AE n p0) (λx=>.agg (mU x)) (λ_=>[]):=by unfold AE tB;exact zz 0 func305
def sP (q:N):aI (bu×N):=
 ag (cx 93 q) λh=>br h.1 (.ok (rK 0 [],h.2)) (ag (cx 94 h.2) λp=>iu 1 [0,2,3,4] [102] (λ_=>[]) (λa=>[(0,.box (dp a.1)),(104,.box (mU a.2))]) (λ(a:N×eT)=>br p.1 (ag (AE n a.2) λd=>.ok (rG 2 d,a.1)) (.ok (rG 2 a.2,a.1))) λf=>dz [0,2,3,4] [102] (λ_=>[]) (λb=>[(0,.box (dp b.1)),(104,.box (mU b.2))]) (λl (b:N×eT)=>br (!b.1.oO) (ag (mC n 0 b.1) λe=>iu 1 [0,2,3,4,5] [102,104] (λc=>[(6,I c.2)]) (λc=>[(0,.box (dp c.1))]) (λ(c:N×Int)=>br (!c.1.oO) (ji 6 (ag (mg n e.1 c.2) λr=>ag (sO n b.2 r) λm=>ag (cx 93 c.1) λg=>br g.1 (f (g.2,m)) (l (g.2,m)))) (ag (cx 93 c.1) λi=>br i.1 (f (i.2,b.2)) (l (i.2,b.2)))) λk=>ag (cx 45 e.2) λj=>br j.1 (ag (mC n e.1 j.2) λo=>k (o.2,o.1)) (k (j.2,e.1))) (f (b.1,b.2))) n (p.2,eT.mk 0 0 0 0))
instance Uc (p0:N):CT Pq 288 [.ptr 0 0] [.box (dp p0)] (sP n p0) (λx=>.agg (mA x.1)) (λx=>[.box (dp x.2)]):=by unfold sP rK rG;exact zz 1 func288
def lV (b:Int) (a:(List bu)):aI (bu):=
 br ((a.length:Int)==1) (el a 0 λc=>.ok c) (.ok ((rK b a)))
instance aV (p0:Int) (p1:(List bu)):CT Pq 234 [I p0,afM p1] [] (lV p0 p1) (λx=>.agg (mA x)) (λ_=>[]):=by unfold lV rK;exact zz 0 func234
end
end Go.Abs
