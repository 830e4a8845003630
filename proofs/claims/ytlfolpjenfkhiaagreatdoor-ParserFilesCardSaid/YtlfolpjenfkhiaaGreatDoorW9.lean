/- PROVED: lemmas for ParserFiles. CONDITIONS: as stated. -/
import Derived.Test.YtlfolpjenfkhiaaGreatDoorW8
set_option linter.all false
namespace Go.Abs
open Go.Proofs Go.Proofs.Tryz aI
set_option maxRecDepth 100000
set_option maxHeartbeats 2000000
section
variable (n:Nat)
def sS (a:aK):aI (Bool):=
 br (a.aq==1) (.ok true) (br (a.aq==2) (.ok true) (.ok ((a.aq==3))))
instance Yf (p0:aK):CT Pq 168 [.agg (rD p0)] [] (sS p0) (λx=>Bo x) (λ_=>[]):=by unfold sS;exact zz 0 func168
structure vE where
 kN:ak->aI (Bool)
def ss (d:vE) (b:ak):aI (Bool):=
 br (b.aq==16) (el b.bK 0 λh=>ag (d.kN h) λi=>br i (.ok true) (el b.bK 1 λf=>ag (d.kN f) λj=>.ok j)) (br (b.aq !=13) (.ok false) (dz [0,1] [101] (λa=>[(3,I a)]) (λ_=>[]) (λe (a:Int)=>br (decide (a<b.fi.length)) (el b.fi a λc=>br (c.aq==4) (.ok true) (br (c.aq==8) (.ok true) (ag (sS c) λk=>br k (el c.bK 0 λg=>ag (d.kN g) λl=>br l (.ok true) (gd (cD (a+1)) (e (a+1)))) (gd (cD (a+1)) (e (a+1)))))) (.ok false)) n 0))
def oQ:Nat->vE
 | 0=>⟨λ_=>.stuck⟩
 | n+1=>⟨ss n (oQ n)⟩
abbrev kN:=(oQ n).kN
abbrev Gc (f:ak->aI (Bool)):Prop:=∀ p0,CT Pq 114 [.agg (Q p0)] [] (f p0) (λx=>Bo x) (λ_=>[])
class w5 (T:vE):Prop where
 kN:Gc T.kN
attribute [instance] w5.kN
theorem Li (T:vE) [hT:w5 T]:Gc (ss n T):=λp0=>by unfold ss;exact zz 0 func114
theorem Ab:∀ n,w5 (oQ n)
 | 0=>by constructor<;>(repeat intro)<;>exact rU
 | n+1=>have:=Ab n;⟨Li n _⟩
attribute [instance] Ab
structure vF where
 jV:ak->aI (ak)
def oY (d:vF) (b:ak):aI (ak):=
 br (b.aq==16) (vi [0,1,2,3,5,6,7,8,4,9,10,11,12] (el b.bK 0 λi=>el b.bK 1 λg=>ag (d.jV i) λj=>ag (d.jV g) λk=>.ok ((ak.mk b.aq b.bM b.U b.B b.bT [j,k] b.fi b.J b.cN)))) (br (b.aq !=13) (.ok b) (jk [[3,3,10003,11,43]] (dz [0,1,2] [101,102] (λc=>[(3,.arr 10003 c.1.length),(4,I c.2)]) (λc=>[(10003,.app 43 11 (aK.Cs c.1))]) (λe (c:(List aK)×Int)=>br (decide (c.2<b.fi.length)) (el b.fi c.2 λa=>ag (sS a) λl=>br l (el a.bK 0 λh=>ag (d.jV h) λf=>gd (nP 184 c.1.length (List.length [dS a a.aq [f]])) (jk [[1,151,10003],[0,1,2,3,4],[101,102]] (gd (cD (c.2+1)) (e (c.1++[dS a a.aq [f]],c.2+1))))) (gd (nP 184 c.1.length (List.length [a])) (jk [[1,151,10003],[0,1,2,3,4],[101,102]] (gd (cD (c.2+1)) (e (c.1++[a],c.2+1)))))) (oj [[22,52]] (.ok ((ak.mk 22 b.bM b.U b.B b.bT b.bK c.1 b.J b.cN))))) n ([],0))))
def lW:Nat->vF
 | 0=>⟨λ_=>.stuck⟩
 | n+1=>⟨oY n (lW n)⟩
abbrev jV:=(lW n).jV
abbrev Gd (f:ak->aI (ak)):Prop:=∀ p0,CT Pq 115 [.agg (Q p0)] [] (f p0) (λx=>.agg (Q x)) (λ_=>[])
class w6 (T:vF):Prop where
 jV:Gd T.jV
attribute [instance] w6.jV
theorem Lj (T:vF) [hT:w6 T]:Gd (oY n T):=λp0=>by unfold oY dS;exact zz 1 func115
theorem Ac:∀ n,w6 (lW n)
 | 0=>by constructor<;>(repeat intro)<;>exact rU
 | n+1=>have:=Ac n;⟨Lj n _⟩
attribute [instance] Ac
def eE (a:ak) (c:aC) (b:ah):aI (ak×ah):=
 ag (kN n a) λe=>br e (ag (bJ c.cN b) λf=>.ok (eS 0 [] [] 0,f)) (ag (jV n a) λd=>.ok (d,b))
instance Qj (p0:ak) (p1:aC) (p2:ah):CT Pq 72 [.ptr 0 0,.agg (Q p0),.agg (nL p1)] [.box (K p2)] (eE n p0 p1 p2) (λx=>.agg (Q x.1)) (λx=>[.box (K x.2)]):=by unfold eE eS;exact zz 1 func72
def eR (b:ah):aI (Bool×ah):=
 ag (P n b) λa=>.ok (b.skip,ah.mk a.2.s a.2.shift a.2.l a.2.bO true a.2.jF a.2.td)
instance Tq (p0:ah):CT Pq 202 [.ptr 0 0] [.box (K p0)] (eR n p0) (λx=>Bo x.1) (λx=>[.box (K x.2)]):=by unfold eR;exact zz 0 func202
def oR (a:aC):aI (Bool):=
 br (a.aq==1) (ag (eJ n a.bM) λb=>.ok b) (.ok false)
instance abn (p0:aC):CT Pq 103 [.agg (nL p0)] [] (oR n p0) (λx=>Bo x) (λ_=>[]):=by unfold oR;exact zz 0 func103
def Ci (b:ByS):aI ((List aC)×dH):=
 br (decide ((b.length:Int)>65536)) (s6 [[3,2,0,4,62]] (.ok ([],dH.mk 2 0))) (jk [[3,4,10004,4,62]] (dz [0,3] [103] (λa=>[(4,.arr 10004 a.1.length),(5,I a.2)]) (λa=>[(10004,.app 62 4 (aC.Cs a.1))]) (λc (a:(List aC)×Int)=>br (decide (a.2<b.length)) (el b a.2 λe=>br ((e.toNat:Int)==32) (gd (cD (a.2+1)) (c (a.1,a.2+1))) (el b a.2 λf=>br ((f.toNat:Int)==9) (gd (cD (a.2+1)) (c (a.1,a.2+1))) (el b a.2 λg=>br ((g.toNat:Int)==13) (gd (cD (a.2+1)) (c (a.1,a.2+1))) (el b a.2 λh=>br ((h.toNat:Int)==10) (oj [[22,39]] (ag (xT n b a.1 a.2) λi=>br i (gd (cD (a.2+1)) (gd (nP 40 a.1.length (List.length [aC.mk 7 [10] a.2 (a.2+1)])) (jk [[1,148,10004],[0,3,4,5],[103]] (gd (cD (a.2+1)) (c (a.1++[aC.mk 7 [10] a.2 (a.2+1)],a.2+1)))))) (gd (cD (a.2+1)) (c (a.1,a.2+1))))) (ag (uq n b a.2) λd=>br (!d.2) (s6 [[3,2,0,4,62]] (.ok ([],dH.mk 8 a.2))) (gd (nP 40 a.1.length (List.length [d.1])) (jk [[1,164,10004],[0,3,4,6],[103,106]] (c (a.1++[d.1],d.1.pO))))))))) (gd (nP 40 a.1.length (List.length [aC.mk 0 [] (b.length:Int) (b.length:Int)])) (jk [[1,174,10002],[0,2,3],[103]] (s6 [[1,10002,0],[0,2,3],[103]] (.ok (a.1++[aC.mk 0 [] (b.length:Int) (b.length:Int)],dH.mk 0 0)))))) n ([],0)))
instance Jl (p0:ByS):CT Pq 17 [eu p0] [.app 62 4 (aC.Cs [])] (Ci n p0) (λx=>.mE [.arr 0 x.1.length,.agg [I x.2.eU,I x.2.At]]) (λx=>[.app 62 4 (aC.Cs x.1)]):=by unfold Ci;exact zz 0 func17
def zJ (p0:ByS):aI ((List aC)×dH):=Ci n p0
instance Hq (p0:ByS):CT Pq 17 [eu p0] [.arr 62 4 (aC.Cs [])] (zJ n p0) (λx=>.mE [.arr 0 x.1.length,.agg [I x.2.eU,I x.2.At]]) (λx=>[.arr 62 4 (aC.Cs x.1)]):=CT.ald (h:=Jl n p0) (λ_=>rfl) (λ_=>rfl) (λ_=>Rs (λ_=>rfl) _)
def jO (a:aC) (b:ByS):aI (Bool):=
 br (a.aq==1) (.ok ((a.bM==b))) (.ok false)
instance abo (p0:aC) (p1:ByS):CT Pq 51 [.agg (nL p0),eu p1] [] (jO p0 p1) (λx=>Bo x) (λ_=>[]):=by unfold jO;exact zz 0 func51
def jb (b:ByS) (c:ah):aI (ah):=
 ag (aS n c) λa=>ag (jO a.1 b) λd=>br (!d) (ag (bJ a.1.cN a.2) λe=>.ok e) (ag (P n a.2) λf=>.ok f.2)
instance O9 (p0:ByS) (p1:ah):CT Pq 200 [.ptr 0 0,eu p0] [.box (K p1)] (jb n p0 p1) (λ_=>.mE []) (λx=>[.box (K x)]):=by unfold jb;exact zz 0 func200
def fU (b:ah):aI (ByS×ah):=
 ag (aS n b) λa=>ag (oR n a.1) λd=>br (!d) (ag (bJ a.1.cN a.2) λe=>.ok (([]:ByS),e)) (ag (P n a.2) λc=>.ok (a.1.bM,c.2))
instance Tr (p0:ah):CT Pq 52 [.ptr 0 0] [.box (K p0)] (fU n p0) (λx=>eu x.1) (λx=>[.box (K x.2)]):=by unfold fU;exact zz 0 func52
def lM (g:ah):aI (mz×ah):=
 ag (fU n g) λd=>ag (cH n [44] d.2) λj=>ag (aS n j) λf=>ag (fU n f.2) λe=>iu 0 [0,2,3,5] [102] (λ_=>[]) (λc=>[(0,.box (K c))]) (λ(c:ah)=>ag (jb n [105,110] c) λh=>.ok (mz.mk d.1 e.1,h)) λb=>ag (cG e.2) λa=>br a.1 (br (d.1==e.1) (ag (bJ f.1.cN a.2) λi=>b i) (b a.2)) (b a.2)
instance R9 (p0:ah):CT Pq 159 [.ptr 0 0] [.box (K p0)] (lM n p0) (λx=>.agg [eu x.1.x0,eu x.1.x1]) (λx=>[.box (K x.2)]):=by unfold lM;exact zz 0 func159
def qG (a:aC):aI (Bool):=
 ag (oR n a) λb=>br b (.ok true) (.ok ((a.aq==3)))
instance Ř (p0:aC):CT Pq 153 [.agg (nL p0)] [] (qG n p0) (λx=>Bo x) (λ_=>[]):=by unfold qG;exact zz 0 func153
def ur (a:aC) (b:Int):aI (Bool):=
 br (b==0) (ag (ch a [124,124]) λg=>.ok g) (br (b==1) (ag (ch a [38,38]) λc=>.ok c) (br (b==2) (ag (jU n a [([61,61]:ByS),([33,61]:ByS),([60]:ByS),([60,61]:ByS),([62]:ByS),([62,61]:ByS)]) λd=>.ok d) (br (b==3) (ag (jU n a [([43]:ByS),([45]:ByS)]) λe=>.ok e) (ag (jU n a [([42]:ByS),([47]:ByS),([37]:ByS)]) λf=>.ok f))))
instance ř (p0:aC) (p1:Int):CT Pq 210 [.agg (nL p0),I p1] [] (ur n p0 p1) (λx=>Bo x) (λ_=>[]):=by unfold ur;exact zz 0 func210
def gD (d:Int) (e:ah):aI (Int×ah):=
 dz [0,1] [] (λa=>[(5,I a.2)]) (λa=>[(0,.box (K a.1))]) (λc (a:ah×Int)=>ag (cM a.2 a.1) λb=>br (b.1.aq==7) (gd (cD (a.2+1)) (c (b.2,a.2+1))) (.ok (a.2,b.2))) n (e,d)
instance Ts (p0:Int) (p1:ah):CT Pq 231 [.ptr 0 0,I p0] [.box (K p1)] (gD n p0 p1) (λx=>I x.1) (λx=>[.box (K x.2)]):=by unfold gD;exact zz 0 func231
def nK (o:ah):aI (ByS×Int×Int×ah):=
 ag (cM 0 o) λh=>ag (ch h.1 [91]) λt=>br (!t) (.ok (([]:ByS),0,0,h.2)) (ag (gD n 1 h.2) λc=>iu 2 [0] [] (λa=>[(5,I a.2.1),(6,eu a.2.2.1),(7,I a.2.2.2)]) (λa=>[(0,.box (K a.1))]) (λ(a:ah×Int×ByS×Int)=>gd (cD (a.2.1+1)) (ag (gD n (a.2.1+1) a.1) λb=>ag (cM b.1 b.2) λe=>ag (ch e.1 [93]) λp=>br (!p) (.ok (([]:ByS),0,0,e.2)) (gd (cD (b.1+1)) (ag (cM (b.1+1) e.2) λf=>ag (ch f.1 [58]) λq=>br (!q) (.ok (([]:ByS),0,0,f.2)) (gd (cD (b.1+2)) (.ok (a.2.2.1,a.2.2.2,b.1+2,f.2))))))) λk=>ag (cM c.1 c.2) λg=>ag (ch g.1 [61,126]) λr=>br r (gd (cD (c.1+1)) (ag (gD n (c.1+1) g.2) λd=>ag (cM d.1 d.2) λi=>br (i.1.aq !=3) (.ok (([]:ByS),0,0,i.2)) (ag (cM d.1 i.2) λl=>ag (cM d.1 l.2) λm=>k (m.2,d.1,l.1.bM,m.1.cN)))) (ag (cM c.1 g.2) λj=>ag (jO j.1 [115,116,114,105,110,103]) λs=>br (!s) (.ok (([]:ByS),0,0,j.2)) (k (j.2,c.1,([46,42]:ByS),(-1)))))
instance ay (p0:ah):CT Pq 199 [.ptr 0 0] [.box (K p0)] (nK n p0) (λx=>.mE [eu x.1,I x.2.1,I x.2.2.1]) (λx=>[.box (K x.2.2.2)]):=by unfold nK;exact zz 0 func199
end
section
variable (n:Nat)
structure aO where
 cL:Bool->ah->aI (ak×ah)
 cI:Int->Bool->ah->aI (ak×ah)
 dx:Bool->ah->aI ((List aK)×(List ByS)×ah)
 ic:aK->Bool->ah->aI (aK×ah)
 cX:Bool->ah->aI (ak×ah)
 cd:Bool->ah->aI (aK×ah)
 dj:Bool->ByS->ah->aI ((List aK)×(List ByS)×ah)
 eZ:aK->Bool->ah->aI (aK×ah)
 ax:Bool->ah->aI (ak×ah)
 jy:aC->ah->aI (ak×ah)
 fZ:aC->ah->aI (ak×ah)
 fb:ah->aI (ak×ah)
 jT:aC->ah->aI (ak×ah)
 fc:Bool->ah->aI (ak×ah)
 dQ:Bool->ah->aI (ak×ah)
 dI:Bool->ah->aI (ak×ah)
 pZ:ByS->Int->aI (ak×Bool)
def eK (b:aO) (e:Bool) (f:ah):aI (ak×ah):=
 ag (aS n f) λa=>ag (ch a.1 [42]) λh=>br (!h) (ag (b.cX e a.2) λd=>.ok (d.1,d.2)) (ag (P n a.2) λg=>vi [0,3,4,1,2,5,6] (ag (b.cX false g.2) λc=>.ok (eS 18 [] [c.1] a.1.cN,c.2)))
def eN (c:aO) (b:Int) (h:Bool) (i:ah):aI (ak×ah):=
 br (b==5) (ag (c.dI h i) λk=>.ok (k.1,k.2)) (gd (cD (b+1)) (ag (c.cI (b+1) h i) λl=>dz [0,1,2,6,7] [106] (λ_=>[]) (λa=>[(0,.box (K a.1)),(107,.box (Q a.2))]) (λm (a:ah×ak)=>ag (cG a.1) λd=>br d.1 (ag (aS n d.2) λe=>ag (ur n e.1 b) λo=>br o (ag (P n e.2) λf=>ag (eE n a.2 f.1 f.2) λg=>vi [0,1,2,3,4,5,8,9,6,7,10,11] (gd (cD (b+1)) (ag (c.cI (b+1) false g.2) λj=>m (j.2,eS 20 f.1.bM [g.1,j.1] g.1.cN)))) (.ok (a.2,e.2))) (.ok (a.2,d.2))) n (l.2,l.1)))
def fQ (e:aO) (f:Bool) (d:ah):aI ((List aK)×(List ByS)×ah):=
 ag (cH n [123] d) λa=>ag (e.dj f [125] (ah.mk a.s a.shift a.l a.bO false a.jF a.td)) λc=>ag (cH n [125] c.2.2) λb=>.ok (c.1,c.2.1,ah.mk b.s b.shift b.l b.bO d.skip b.jF b.td)
def kj (c:aO) (b:aK) (e:Bool) (h:ah):aI (aK×ah):=
 ag (nK n h) λa=>br (a.2.2.1==0) (ag (c.eZ b e a.2.2.2) λg=>.ok (g.1,g.2)) (iu 0 [0,1,2,4,6,7,9] [0,104,106] (λ_=>[]) (λ_=>[]) (λ(k:Unit)=>gd (cD (a.2.2.2.bO+a.2.2.1)) (ag (c.ax e (ah.mk a.2.2.2.s a.2.2.2.shift a.2.2.2.l (a.2.2.2.bO+a.2.2.1) a.2.2.2.skip a.2.2.2.jF a.2.2.2.td)) λf=>.ok (aK.mk 2 b.eo a.1 b.B b.bT [f.1] b.lZ b.J b.so b.lR b.cN,f.2))) λd=>ag (lL n a.1) λi=>br (decide (a.2.1>=0)) (br (i.2.eU !=0) (ag (bJ a.2.1 a.2.2.2) λj=>.ok (b,j)) (d ())) (d ()))
def eL (d:aO) (e:Bool) (i:ah):aI (ak×ah):=
 ag (d.cI 0 e i) λg=>dz [0,1,4,5] [104] (λ_=>[]) (λa=>[(0,.box (K a.1)),(105,.box (Q a.2))]) (λh (a:ah×ak)=>ag (cG a.1) λb=>br b.1 (ag (aS n b.2) λc=>ag (ch c.1 [38]) λj=>br j (ag (P n c.2) λk=>vi [0,1,2,5,6,3,4,7,8] (ag (d.cI 0 e k.2) λf=>h (f.2,eS 16 [] [a.2,f.1] a.2.cN))) (.ok (a.2,c.2))) (.ok (a.2,b.2))) n (g.2,g.1)
def fA (d:aO) (e:Bool) (v:ah):aI (aK×ah):=
 ag (aS n v) λa=>iu 2 [0,1,4,5,6] [104,105,106] (λc=>[(20,Bo c.2)]) (λc=>[(0,.box (K c.1))]) (λ(c:ah×Bool)=>br c.2 (ag (P n c.1) λx=>iu 0 [0,1,4,6] [104] (λ_=>[]) (λb=>[(0,.box (K b.1)),(106,.box [I b.2.aq,I b.2.eo,eu b.2.ni,eu b.2.B,eu b.2.bT,.pv (.sl (List.length ([]:List ak)) (ak.Cs [])),.pv (.sl (List.length ([]:List aK)) (aK.Cs [])),.pv (.sl (List.length ([]:List ByS)) (gh [])),.pv (.sl (List.length ([]:List ByS)) (gh [])),eu b.2.lR,I b.2.cN])]) (λ(b:ah×aK)=>ag (cH n [58] b.1) λy=>ag (d.ax e y) λm=>.ok (aK.mk b.2.aq b.2.eo b.2.ni b.2.B b.2.bT [m.1] [] [] [] b.2.lR b.2.cN,m.2)) λf=>ag (aS n x.2) λg=>ag (ch g.1 [63]) λz=>br z (ag (P n g.2) λa0=>f (a0.2,aK.mk 1 3 a.1.bM [] [] [] [] [] [] [] a.1.cN)) (ag (aS n g.2) λh=>ag (ch h.1 [33]) λb0=>br b0 (ag (P n h.2) λc0=>f (c0.2,aK.mk 1 2 a.1.bM [] [] [] [] [] [] [] a.1.cN)) (f (h.2,aK.mk 1 1 a.1.bM [] [] [] [] [] [] [] a.1.cN)))) (ag (ch a.1 [91]) λd0=>br d0 (ag (d.ic (dZ 0 a.1.cN) e c.1) λo=>.ok (o.1,o.2)) (ag (jO a.1 [108,101,116]) λe0=>br e0 (br (!e) (ag (bJ a.1.cN c.1) λf0=>.ok (dZ 0 a.1.cN,f0)) (ag (P n c.1) λg0=>ag (fU n g0.2) λp=>ag (cH n [61] p.2) λh0=>ag (d.ax true h0) λq=>.ok (aK.mk 4 0 p.1 [] [] [q.1] [] [] [] [] a.1.cN,q.2))) (ag (jO a.1 [105,102]) λi0=>br i0 (ag (P n c.1) λj0=>ag (d.ax false j0.2) λr=>ag (d.dx false r.2) λi=>.ok (aK.mk 5 0 [] [] [] [r.1] i.1 i.2.1 [] [] a.1.cN,i.2.2)) (ag (jO a.1 [102,111,114]) λk0=>br k0 (ag (P n c.1) λl0=>ag (lM n l0.2) λj=>ag (d.ax false j.2) λs=>ag (d.dx false s.2) λk=>.ok (aK.mk 6 0 [] j.1.x0 j.1.x1 [s.1] k.1 k.2.1 [] [] a.1.cN,k.2.2)) (ag (ch a.1 [46,46,46]) λm0=>br m0 (br (!e) (ag (bJ a.1.cN c.1) λn0=>.ok (dZ 0 a.1.cN,n0)) (ag (P n c.1) λo0=>.ok (dZ 8 a.1.cN,o0.2))) (ag (d.eZ (dZ 0 a.1.cN) e c.1) λt=>.ok (t.1,t.2)))))))) λl=>ag (qG n a.1) λp0=>br p0 (ag (cM 1 a.2) λu=>ag (jU n u.1 [([58]:ByS),([63]:ByS),([33]:ByS)]) λw=>l (u.2,w)) (l (a.2,false))
def ig (r:aO) (s:Bool) (h:ByS) (t:ah):aI ((List aK)×(List ByS)×ah):=
 jk [[3,2,10002,1,9]] (jk [[4,10,10010,11,43]] (dz [0,1,3] [] (λa=>[(2,.arr 10002 a.2.1.length),(10,.arr 10010 a.2.2.1.length),(11,Bo a.2.2.2.1),(12,I a.2.2.2.2)]) (λa=>[(0,.box (K a.1)),(10002,.app 9 1 (gh a.2.1)),(10010,.arr 43 11 (aK.Cs a.2.2.1))]) (λf (a:ah×(List ByS)×(List aK)×Bool×Int)=>ag (cG a.1) λk=>br k.1 (ag (aS n k.2) λc=>iu 0 [0,1,2,3,10,11,12,13] [0,113,10002,10010] (λi=>[(41,Bo i)]) (λ_=>[]) (λ(i:Bool)=>br i (ag (P n c.2) λv=>f (v.2,a.2.1,a.2.2.1,true,a.2.2.2.2)) (iu 0 [0,1,2,3,10,11,12,13] [113,10002,10010] (λd=>[(51,Bo d.2)]) (λd=>[(0,.box (K d.1))]) (λ(d:ah×Bool)=>br d.2 (ag (P n d.1) λw=>gd (nP 16 a.2.1.length (List.length [c.1.bM])) (jk [[1,165,10002],[0,1,2,3,10,11,12],[10010,0]] (f (w.2,a.2.1++[c.1.bM],a.2.2.1,a.2.2.2.1,a.2.2.2.2)))) (br (c.1.aq==6) (br ((a.2.2.1.length:Int)==0) (ag (bJ c.1.cN d.1) λx=>f (x,a.2.1,a.2.2.1,a.2.2.2.1,a.2.2.2.2)) (ag (kZ n a.2.2.2.2 c.1.cN d.1) λm=>br m.1 (ag (bJ c.1.cN m.2) λy=>f (y,a.2.1,a.2.2.1,a.2.2.2.1,a.2.2.2.2)) (ag (P n m.2) λz=>gd (cD ((a.2.2.1.length:Int) - 1)) (el a.2.2.1 ((a.2.2.1.length:Int) - 1) λe=>jk [[17,10]] (f (z.2,a.2.1,List.set a.2.2.1 ((a.2.2.1.length:Int) - 1).toNat (dT e c.1.bM),a.2.2.2.1,a.2.2.2.2)))))) (iu 0 [0,1,2,3,10,11,12,13] [0,113,10002,10010] (λj=>[(94,Bo j)]) (λ_=>[]) (λ(j:Bool)=>br j (oj [[22,112]] (s6 [[12,8]] (.ok (a.2.2.1,a.2.1,d.1)))) (br (!a.2.2.2.1) (ag (bJ c.1.cN d.1) λa0=>f (a0,a.2.1,a.2.2.1,a.2.2.2.1,a.2.2.2.2)) (ag (r.cd s d.1) λb=>oj [[22,22]] (gd (nP 184 a.2.2.1.length (List.length [dL b.1 a.2.1])) (jk [[2,127,10010],[0,1,2,3,10],[0]] (Bn 14 (gd (cD (b.2.bO - 1)) (el b.2.l (if b.2.bO - 1>0 then b.2.bO - 1 else 0) λu=>jk [[3,2,10002,1,9]] (f (b.2,[],a.2.2.1++[dL b.1 a.2.1],false,u.pO)))))))))) λg=>br (c.1.aq==0) (br (h==([]:ByS)) (g true) (br (h !=([]:ByS)) (ag (ch c.1 h) λb0=>g b0) (g false))) (br (h !=([]:ByS)) (ag (ch c.1 h) λc0=>g c0) (g false))))) λp=>br (c.1.aq==6) (ag (kI n c.2) λq=>p (q.2,q.1)) (p (c.2,false)))) λo=>br (c.1.aq==7) (o true) (ag (ch c.1 [44]) λd0=>o d0)) (s6 [[9,8]] (s6 [[9,9]] (.ok ([],[],k.2))))) n (t,[],[],true,0)))
def jc (d:aO) (a:aK) (i:Bool) (r:ah):aI (aK×ah):=
 iu 1 [0,1,2,4,6] [104,106] (λ_=>[]) (λf=>[(0,.box (K f))]) (λ(f:ah)=>ag (d.ax i f) λq=>.ok (dS a 3 [q.1],q.2)) λh=>ag (aS n r) λg=>ag (ch g.1 [40]) λu=>br u (ag (kM n g.2) λb=>iu 0 [0,1,2,4,6] [0,104,106] (λe=>[(47,Bo e)]) (λ_=>[]) (λ(e:Bool)=>br e (ag (eR n b.2) λj=>ag (d.ax i j.2) λk=>ag (cy n [41] j.1 k.2) λv=>ji 6 (ag (aS n v) λm=>ag (eE n k.1 m.1 m.2) λo=>ag (cH n [58] o.2) λw=>ji 6 (ag (d.ax false w) λp=>.ok (dS a 7 [o.1,p.1],p.2)))) (h b.2)) λc=>br (decide (b.1>=0)) (el b.2.l b.1 λs=>ag (ch s [41]) λx=>br x (gd (cD (b.1+1)) (br (decide ((b.1+1)<(b.2.l.length:Int))) (gd (cD (b.1+1)) (el b.2.l (b.1+1) λt=>ag (ch t [58]) λy=>c y)) (c false))) (c false)) (c false)) (h g.2)
def dC (d:aO) (e:Bool) (r:ah):aI (ak×ah):=
 ag (aS n r) λg=>ag (ch g.1 [42]) λk=>jnF 0 (λb=>[(0,.ptr 0 0),(1,Bo e),(4,.ptr 104 0),(5,Bo k),(6,.ptr 106 0)]) (λb=>[(0,.box (K b.1)),(104,.box [I 0,eu [],I 0,eu [],eu [],.pv (.sl (List.length ([]:List ak)) (ak.Cs [])),.pv (.sl (List.length ([]:List aK)) (aK.Cs [])),.pv (.sl (List.length ([]:List ByS)) (gh [])),I 0]),(106,.box (Q b.2))]) (λ(b:ah×ak)=>ag (aS n b.1) λc=>ag (ch c.1 [124]) λs=>br (!s) (br k (ag (bJ c.1.cN c.2) λt=>.ok (b.2,t)) (.ok (b.2,c.2))) (ji 6 (ag (aS n c.2) λm=>ag (eE n b.2 m.1 m.2) λf=>oj [[21,36]] (jk [[2,136,26917],[0,1,4,8],[0,104,108]] (NN (λa=>[(0,.ptr 0 0),(1,Bo e),(4,.ptr 104 0),(8,.ptr 108 0)]) (λa=>[(0,.box (K a.1)),(104,.box [I 0,eu [],I 0,eu [],eu [],.pv (.sl (List.length ([]:List ak)) (ak.Cs [])),.pv (.sl (List.length ([]:List aK)) (aK.Cs [])),.pv (.sl (List.length ([]:List ByS)) (gh [])),I 0]),(108,.box [I a.2.aq,eu a.2.bM,I a.2.U,eu a.2.B,eu a.2.bT,.arr 26917 a.2.bK.length,.pv (.sl (List.length ([]:List aK)) (aK.Cs [])),.pv (.sl (List.length ([]:List ByS)) (gh [])),I a.2.cN]),(26917,.arr 38 9 (ak.Cs a.2.bK))]) (λq (a:ah×ak)=>ag (cG a.1) λh=>br h.1 (ag (aS n h.2) λi=>ag (ch i.1 [124]) λu=>br u (ag (P n i.2) λv=>Bn 8 (ag (d.cL false v.2) λj=>gd (nP 144 a.2.bK.length (List.length [j.1])) (jk [[2,154,26917],[0,1,4,8],[0,104,108]] (q (j.2,eA a.2 (a.2.bK++[j.1])))))) (oj [[11,108,5]] (.ok (eA a.2 a.2.bK,i.2)))) (oj [[11,108,5]] (.ok (eA a.2 a.2.bK,h.2)))) n (f.2,eS 17 [] [f.1] f.1.cN)))))) λl=>br e (ag (d.cL (!k) g.2) λo=>l (o.2,o.1)) (ag (d.cL false g.2) λp=>l (p.2,p.1))
def lN (q:aO) (b:aC) (r:ah):aI (ak×ah):=
 ag (P n r) λd=>br (b.bM==([110,117,108,108]:ByS)) (s6 [[7,104]] (.ok (eS 1 [] [] b.cN,d.2))) (br (b.bM==([116,114,117,101]:ByS)) (s6 [[7,104]] (.ok (ak.mk 2 [] 1 [] [] [] [] [] b.cN,d.2))) (br (b.bM==([102,97,108,115,101]:ByS)) (s6 [[7,104]] (.ok (eS 2 [] [] b.cN,d.2))) (iu 0 [0,1,3,4] [0,103,104] (λi=>[(27,Bo i)]) (λ_=>[]) (λ(i:Bool)=>br i (s6 [[7,104]] (.ok (eS 8 b.bM [] b.cN,d.2))) (ag (oR n b) λs=>br (!s) (ag (bJ b.cN d.2) λt=>s6 [[7,104]] (.ok (eS 0 [] [] 0,t))) (ag (aS n d.2) λj=>ag (ch j.1 [40]) λu=>br (!u) (s6 [[7,104]] (.ok (eS 10 b.bM [] b.cN,j.2))) (ag (eR n j.2) λp=>iu 0 [0,1,4,5,6] [104] (λ_=>[]) (λc=>[(0,.box (K c.1)),(105,.box [I c.2.aq,eu c.2.bM,I c.2.U,eu c.2.B,eu c.2.bT,.arr 26725 c.2.bK.length,nSl,nSl,I c.2.cN]),(26725,.arr 38 9 (ak.Cs c.2.bK))]) (λ(c:ah×ak)=>ag (cy n [41] p.1 c.1) λv=>oj [[11,105,5]] (s6 [[7,104]] (.ok (eA c.2 c.2.bK,v)))) λh=>jk [[6,105,5,26725,9,38]] (dz [0,1,4,5,6] [104] (λ_=>[]) (λa=>[(0,.box (K a.1)),(105,.box [I a.2.aq,eu a.2.bM,I a.2.U,eu a.2.B,eu a.2.bT,.arr 26725 a.2.bK.length,nSl,nSl,I a.2.cN]),(26725,.arr 38 9 (ak.Cs a.2.bK))]) (λo (a:ah×ak)=>ag (cG a.1) λk=>br k.1 (ag (aS n k.2) λl=>ag (ch l.1 [41]) λw=>br (!w) (Bn 8 (ag (q.ax false l.2) λe=>gd (nP 144 a.2.bK.length (List.length [e.1])) (jk [[2,174,26725],[0,1,4,5,6],[0,104,105]] (ag (aS n e.2) λm=>ag (ch m.1 [41]) λx=>br x (h (m.2,eA a.2 (a.2.bK++[e.1]))) (ag (cH n [44] m.2) λy=>ag (aS n y) λg=>ag (ch g.1 [41]) λz=>br z (ag (bJ g.1.cN g.2) λa0=>o (a0,eA a.2 (a.2.bK++[e.1]))) (o (g.2,eA a.2 (a.2.bK++[e.1])))))))) (h (l.2,eA a.2 a.2.bK))) (h (k.2,eA a.2 a.2.bK))) n (p.2,eS 21 b.bM [] b.cN)))))) λf=>br (b.bM==([98,111,111,108]:ByS)) (f ((b.bM==([98,111,111,108]:ByS)))) (br (b.bM==([105,110,116]:ByS)) (f ((b.bM==([105,110,116]:ByS)))) (br (b.bM==([110,117,109,98,101,114]:ByS)) (f ((b.bM==([110,117,109,98,101,114]:ByS)))) (f ((b.bM==([115,116,114,105,110,103]:ByS)))))))))
def kU (i:aO) (b:aC) (j:ah):aI (ak×ah):=
 ag (P n j) λe=>ag (jE n b.bM) λc=>br (c.2.eU !=0) (ag (bJ b.cN e.2) λm=>s6 [[7,104]] (.ok (eS 0 [] [] 0,m))) (jk [[6,105,5,26725,9,38]] (dz [0,1,3,4,5,6] [0,103,104] (λa=>[(8,I a.2)]) (λa=>[(105,.box [I a.1.aq,eu a.1.bM,I a.1.U,eu a.1.B,eu a.1.bT,.arr 26725 a.1.bK.length,nSl,nSl,I a.1.cN]),(26725,.arr 38 9 (ak.Cs a.1.bK))]) (λg (a:ak×Int)=>br (decide (a.2<c.1.length)) (ji 10 (gd (cD (b.cN+1)) (el c.1 a.2 λd=>gd (cD ((b.cN+1)+d.cN)) (el c.1 a.2 λk=>br (!k.Code) (Bn 13 (el c.1 a.2 λh=>gd (nP 144 a.1.bK.length (List.length [eS 4 h.bM [] ((b.cN+1)+d.cN)])) (jk [[2,162,26725],[0,1,3,4,5,6,8,9],[0,103,104,105]] (gd (cD (a.2+1)) (g (eA a.1 (a.1.bK++[eS 4 h.bM [] ((b.cN+1)+d.cN)]),a.2+1)))))) (el c.1 a.2 λl=>ag (i.pZ l.bM ((b.cN+1)+d.cN)) λf=>br (!f.2) (ag (bJ b.cN e.2) λo=>s6 [[7,104]] (.ok (eS 0 [] [] 0,o))) (gd (nP 144 a.1.bK.length (List.length [f.1])) (jk [[2,185,26725],[0,1,3,4,5,6,8],[0,103,104,105]] (gd (cD (a.2+1)) (g (eA a.1 (a.1.bK++[f.1]),a.2+1)))))))))) (oj [[11,105,5]] (s6 [[7,104]] (.ok (eA a.1 a.1.bK,e.2))))) n (eS 5 [] [] b.cN,0)))
def mr (e:aO) (k:ah):aI (ak×ah):=
 ag (aS n k) λd=>ag (jO d.1 [102,111,114]) λq=>br (!q) (ag (e.ax false d.2) λj=>.ok (j.1,j.2)) (ag (P n d.2) λl=>vi [0,1,2,5,3,4,6] (ag (lM n l.2) λb=>jk [[6,104,5,26661,9,38]] (Bn 8 (ag (e.ax false b.2) λc=>gd (nP 144 (List.length ([]:List ak)) (List.length [c.1])) (jk [[2,124,26661],[0,2,4],[0,102,104]] (iu 0 [0,2,4] [102] (λ_=>[]) (λa=>[(0,.box (K a.1)),(104,.box [I a.2.aq,eu a.2.bM,I a.2.U,eu a.2.B,eu a.2.bT,.arr 26661 a.2.bK.length,nSl,nSl,I a.2.cN]),(26661,.arr 38 9 (ak.Cs a.2.bK))]) (λ(a:ah×ak)=>ag (cH n [58] a.1) λm=>Bn 8 (ag (e.ax false m) λf=>gd (nP 144 a.2.bK.length (List.length [f.1])) (jk [[2,145,26661],[0,2,4],[0,102,104]] (oj [[11,104,5]] (s6 [[7,102]] (.ok (eA a.2 (a.2.bK++[f.1]),f.2))))))) λi=>ag (aS n c.2) λg=>ag (jO g.1 [105,102]) λo=>br o (ag (P n g.2) λp=>Bn 8 (ag (e.ax false p.2) λh=>gd (nP 144 (List.length ([]++[c.1])) (List.length [h.1])) (jk [[2,136,26661],[0,2,4],[0,102,104]] (i (h.2,ak.mk 15 [] 0 b.1.x0 b.1.x1 (([]++[c.1])++[h.1]) [] [] d.1.cN))))) (i (g.2,ak.mk 15 [] 0 b.1.x0 b.1.x1 ([]++[c.1]) [] [] d.1.cN))))))))
def mu (l:aO) (p:aC) (q:ah):aI (ak×ah):=
 ag (eR n q) λo=>iu 0 [0,1,4,5,6] [104] (λ_=>[]) (λb=>[(0,.box (K b.1)),(105,.box [I b.2.aq,eu b.2.bM,I b.2.U,eu b.2.B,eu b.2.bT,.arr 26725 b.2.bK.length,nSl,nSl,I b.2.cN]),(26725,.arr 38 9 (ak.Cs b.2.bK))]) (λ(b:ah×ak)=>ag (cy n [93] o.1 b.1) λz=>oj [[11,105,5]] (s6 [[7,104]] (.ok (eA b.2 b.2.bK,z)))) λc=>jk [[6,105,5,26725,9,38]] (dz [0,1,4,5,6] [104] (λ_=>[]) (λa=>[(0,.box (K a.1)),(105,.box [I a.2.aq,eu a.2.bM,I a.2.U,eu a.2.B,eu a.2.bT,.arr 26725 a.2.bK.length,nSl,nSl,I a.2.cN]),(26725,.arr 38 9 (ak.Cs a.2.bK))]) (λm (a:ah×ak)=>ag (cG a.1) λg=>br g.1 (ag (aS n g.2) λh=>ag (ch h.1 [93]) λr=>br (!r) (ag (aS n h.2) λd=>ag (ch d.1 [46,46,46]) λs=>br s (ag (P n d.2) λt=>ag (aS n t.2) λi=>ag (ch i.1 [93]) λu=>br u (gd (nP 144 a.2.bK.length (List.length [eS 6 [] [] d.1.cN])) (jk [[2,138,26725],[0,1,4,5,6],[0,104,105]] (c (i.2,ak.mk a.2.aq a.2.bM 1 a.2.B a.2.bT (a.2.bK++[eS 6 [] [] d.1.cN]) [] [] a.2.cN)))) (Bn 8 (ag (l.ax false i.2) λj=>gd (nP 144 a.2.bK.length (List.length [j.1])) (jk [[2,145,26725],[0,1,4,5,6],[0,104,105]] (c (j.2,ak.mk a.2.aq a.2.bM 1 a.2.B a.2.bT (a.2.bK++[j.1]) [] [] a.2.cN)))))) (Bn 8 (ag (l.fb d.2) λe=>gd (nP 144 a.2.bK.length (List.length [e.1])) (jk [[2,152,26725],[0,1,4,5,6],[0,104,105]] (ag (aS n e.2) λk=>ag (ch k.1 [93]) λv=>br v (c (k.2,eA a.2 (a.2.bK++[e.1]))) (ag (cH n [44] k.2) λw=>ag (aS n w) λf=>ag (ch f.1 [93]) λx=>br x (ag (bJ f.1.cN f.2) λy=>m (y,eA a.2 (a.2.bK++[e.1]))) (m (f.2,eA a.2 (a.2.bK++[e.1]))))))))) (c (h.2,eA a.2 a.2.bK))) (c (g.2,eA a.2 a.2.bK))) n (o.2,eS 14 [] [] p.cN))
def hO (h:aO) (o:Bool) (p:ah):aI (ak×ah):=
 ag (h.dQ o p) λk=>dz [0,1,4,5] [104] (λ_=>[]) (λa=>[(0,.box (K a.1)),(105,.box (Q a.2))]) (λj (a:ah×ak)=>ag (cG a.1) λe=>br e.1 (ag (aS n e.2) λf=>ag (jU n f.1 [([46]:ByS),([91]:ByS)]) λq=>br q (ag (aS n f.2) λg=>ag (eE n a.2 g.1 g.2) λb=>ag (ch g.1 [46]) λr=>br r (ag (P n b.2) λs=>ag (aS n s.2) λc=>iu 0 [0,1,4,5,7] [104,105,107] (λ_=>[]) (λd=>[(0,.box (K d))]) (λ(d:ah)=>ag (P n d) λt=>j (t.2,eS 11 c.1.bM [b.1] b.1.cN)) λi=>ag (qG n c.1) λu=>br (!u) (ag (bJ c.1.cN c.2) λv=>i v) (i c.2)) (ag (eR n b.2) λl=>ag (h.ax false l.2) λm=>ag (cy n [93] l.1 m.2) λw=>j (w,eS 12 [] [b.1,m.1] b.1.cN))) (.ok (a.2,f.2))) (.ok (a.2,e.2))) n (k.2,k.1)
def fB (c:aO) (d:Bool) (l:ah):aI (ak×ah):=
 ag (aS n l) λa=>br (a.1.aq==1) (ag (c.jy a.1 a.2) λk=>.ok (k.1,k.2)) (br (a.1.aq==2) (ag (P n a.2) λm=>ag (ov n a.1.bM) λo=>.ok (ak.mk 3 [] o.1 [] [] [] [] [] a.1.cN,m.2)) (br (a.1.aq==3) (ag (P n a.2) λp=>.ok (eS 4 a.1.bM [] a.1.cN,p.2)) (br (a.1.aq==4) (ag (c.fZ a.1 a.2) λg=>.ok (g.1,g.2)) (ag (ch a.1 [95]) λq=>br q (ag (P n a.2) λr=>.ok (eS 6 [] [] a.1.cN,r.2)) (ag (ch a.1 [95,124,95]) λs=>br s (ag (P n a.2) λt=>.ok (eS 7 [] [] a.1.cN,t.2)) (ag (ch a.1 [40]) λu=>br u (ag (eR n a.2) λh=>ag (c.ax d h.2) λi=>ag (cy n [41] h.1 i.2) λv=>.ok (i.1,v)) (ag (ch a.1 [123]) λw=>br w (iu 1 [0,1,4,5,10] [0,104,105] (λ_=>[]) (λb=>[(110,.box [I b.aq,eu b.bM,I b.U,eu b.B,eu b.bT,.pv (.sl (List.length ([]:List ak)) (ak.Cs [])),.pv (.sl (List.length ([]:List aK)) (aK.Cs [])),.pv (.sl (List.length ([]:List ByS)) (gh [])),I b.cN])]) (λ(b:ak)=>ag (c.dx d a.2) λe=>.ok (ak.mk b.aq b.bM b.U b.B b.bT [] e.1 e.2.1 b.cN,e.2.2)) λf=>br d (f ((eS 13 [] [] a.1.cN))) (f ((eS 22 [] [] a.1.cN)))) (ag (ch a.1 [91]) λx=>br x (ag (c.jT a.1 a.2) λj=>.ok (j.1,j.2)) (ag (bJ a.1.cN a.2) λy=>.ok (eS 0 [] [] 0,y))))))))))
def gk (e:aO) (j:Bool) (k:ah):aI (ak×ah):=
 ag (aS n k) λa=>ag (cG a.2) λc=>br (!c.1) (.ok (eS 0 [] [] 0,c.2)) (iu 1 [0,1,4,5] [0,104,105] (λd=>[(6,I d)]) (λ_=>[]) (λ(d:Int)=>iu 0 [0,1,4,5] [0,104,105] (λb=>[(6,I b)]) (λ_=>[]) (λ(b:Int)=>br (b==0) (ag (e.fc j c.2) λh=>.ok (h.1,h.2)) (ag (P n c.2) λl=>vi [0,1,2,3,6,7,4,5,8,9] (ag (e.dI false l.2) λi=>.ok (eS b a.1.bM [i.1] a.1.cN,i.2)))) λg=>ag (jU n a.1 [([60]:ByS),([60,61]:ByS),([62]:ByS),([62,61]:ByS),([33,61]:ByS),([61,126]:ByS),([33,126]:ByS)]) λm=>br m (g 9) (g d)) λf=>ag (jU n a.1 [([45]:ByS),([33]:ByS)]) λo=>br o (f 19) (f 0))
def uJ (k:aO) (h:ByS) (c:Int):aI (ak×Bool):=
 ag (zJ n h) λj=>br (j.2.eU !=0) (.ok (ak.mk 0 [] 0 [] [] [] [] [] 0,false)) (iter (λl (a:(List aC)×Int)=>br (decide (a.2<a.1.length)) (el a.1 a.2 λm=>br (m.aq==6) (.ok (ak.mk 0 [] 0 [] [] [] [] [] 0,false)) (el a.1 a.2 λd=>gd (cD (d.cN+c)) (el a.1 a.2 λb=>el (List.set a.1 a.2.toNat (aC.mk b.aq b.bM (d.cN+c) b.pO)) a.2 λi=>gd (cD (i.pO+c)) (el (List.set a.1 a.2.toNat (aC.mk b.aq b.bM (d.cN+c) b.pO)) a.2 λf=>gd (cD (a.2+1)) (l (List.set (List.set a.1 a.2.toNat (aC.mk b.aq b.bM (d.cN+c) b.pO)) a.2.toNat (aC.mk f.aq f.bM f.cN (i.pO+c)),a.2+1)))))) (ag (k.ax false (ah.mk h c a.1 0 true 0 0)) λg=>ag (aS n g.2) λe=>br (e.1.aq !=0) (ag (bJ e.1.cN e.2) λo=>ag (cG o) λp=>.ok (g.1,p.1)) (ag (cG e.2) λq=>.ok (g.1,q.1)))) n (j.1,0))
def ar:Nat->aO
 | 0=>⟨λ_ _=>.stuck,λ_ _ _=>.stuck,λ_ _=>.stuck,λ_ _ _=>.stuck,λ_ _=>.stuck,λ_ _=>.stuck,λ_ _ _=>.stuck,λ_ _ _=>.stuck,λ_ _=>.stuck,λ_ _=>.stuck,λ_ _=>.stuck,λ_=>.stuck,λ_ _=>.stuck,λ_ _=>.stuck,λ_ _=>.stuck,λ_ _=>.stuck,λ_ _=>.stuck⟩
 | n+1=>⟨eK n (ar n),eN n (ar n),fQ n (ar n),kj n (ar n),eL n (ar n),fA n (ar n),ig n (ar n),jc n (ar n),dC n (ar n),lN n (ar n),kU n (ar n),mr n (ar n),mu n (ar n),hO n (ar n),fB n (ar n),gk n (ar n),uJ n (ar n)⟩
abbrev cL:=(ar n).cL
abbrev cI:=(ar n).cI
abbrev dx:=(ar n).dx
abbrev ic:=(ar n).ic
abbrev cX:=(ar n).cX
abbrev cd:=(ar n).cd
abbrev dj:=(ar n).dj
abbrev eZ:=(ar n).eZ
abbrev ax:=(ar n).ax
abbrev jy:=(ar n).jy
abbrev fZ:=(ar n).fZ
abbrev fb:=(ar n).fb
abbrev jT:=(ar n).jT
abbrev fc:=(ar n).fc
abbrev dQ:=(ar n).dQ
abbrev dI:=(ar n).dI
abbrev pZ:=(ar n).pZ
abbrev uu (f:Bool->ah->aI (ak×ah)):Prop:=∀ p0 p1,CT Pq 71 [.ptr 0 0,Bo p0] [.box (K p1)] (f p0 p1) (λx=>.agg (Q x.1)) (λx=>[.box (K x.2)])
abbrev xD (f:Int->Bool->ah->aI (ak×ah)):Prop:=∀ p0 p1 p2,CT Pq 167 [.ptr 0 0,I p0,Bo p1] [.box (K p2)] (f p0 p1 p2) (λx=>.agg (Q x.1)) (λx=>[.box (K x.2)])
abbrev xE (f:Bool->ah->aI ((List aK)×(List ByS)×ah)):Prop:=∀ p0 p1,CT Pq 158 [.ptr 0 0,Bo p0] [.box (K p1)] (f p0 p1) (λx=>.mE [.pv (.sl x.1.length (aK.Cs x.1)),.pv (.sl x.2.1.length (gh x.2.1))]) (λx=>[.box (K x.2.2)])
abbrev w7 (f:aK->Bool->ah->aI (aK×ah)):Prop:=∀ p0 p1 p2,CT Pq 157 [.ptr 0 0,.agg (rD p0),Bo p1] [.box (K p2)] (f p0 p1 p2) (λx=>.agg (rD x.1)) (λx=>[.box (K x.2)])
abbrev uv (f:Bool->ah->aI (ak×ah)):Prop:=∀ p0 p1,CT Pq 113 [.ptr 0 0,Bo p0] [.box (K p1)] (f p0 p1) (λx=>.agg (Q x.1)) (λx=>[.box (K x.2)])
abbrev uw (f:Bool->ah->aI (aK×ah)):Prop:=∀ p0 p1,CT Pq 106 [.ptr 0 0,Bo p0] [.box (K p1)] (f p0 p1) (λx=>.agg (rD x.1)) (λx=>[.box (K x.2)])
abbrev sT (f:Bool->ByS->ah->aI ((List aK)×(List ByS)×ah)):Prop:=∀ p0 p1 p2,CT Pq 55 [.ptr 0 0,Bo p0,nSl,eu p1] [.box (K p2)] (f p0 p1 p2) (λx=>.mE [.pv (.sl x.1.length (aK.Cs x.1)),.pv (.sl x.2.1.length (gh x.2.1))]) (λx=>[.box (K x.2.2)])
abbrev yE (f:aK->Bool->ah->aI (aK×ah)):Prop:=∀ p0 p1 p2,CT Pq 160 [.ptr 0 0,.agg (rD p0),Bo p1] [.box (K p2)] (f p0 p1 p2) (λx=>.agg (rD x.1)) (λx=>[.box (K x.2)])
abbrev uX (f:Bool->ah->aI (ak×ah)):Prop:=∀ p0 p1,CT Pq 28 [.ptr 0 0,Bo p0] [.box (K p1)] (f p0 p1) (λx=>.agg (Q x.1)) (λx=>[.box (K x.2)])
abbrev yF (f:aC->ah->aI (ak×ah)):Prop:=∀ p0 p1,CT Pq 273 [.ptr 0 0,.agg (nL p0)] [.box (K p1)] (f p0 p1) (λx=>.agg (Q x.1)) (λx=>[.box (K x.2)])
abbrev xF (f:aC->ah->aI (ak×ah)):Prop:=∀ p0 p1,CT Pq 274 [.ptr 0 0,.agg (nL p0)] [.box (K p1)] (f p0 p1) (λx=>.agg (Q x.1)) (λx=>[.box (K x.2)])
abbrev Ad (f:ah->aI (ak×ah)):Prop:=∀ p0,CT Pq 295 [.ptr 0 0] [.box (K p0)] (f p0) (λx=>.agg (Q x.1)) (λx=>[.box (K x.2)])
abbrev Ae (f:aC->ah->aI (ak×ah)):Prop:=∀ p0 p1,CT Pq 275 [.ptr 0 0,.agg (nL p0)] [.box (K p1)] (f p0 p1) (λx=>.agg (Q x.1)) (λx=>[.box (K x.2)])
abbrev w8 (f:Bool->ah->aI (ak×ah)):Prop:=∀ p0 p1,CT Pq 237 [.ptr 0 0,Bo p0] [.box (K p1)] (f p0 p1) (λx=>.agg (Q x.1)) (λx=>[.box (K x.2)])
abbrev w9 (f:Bool->ah->aI (ak×ah)):Prop:=∀ p0 p1,CT Pq 259 [.ptr 0 0,Bo p0] [.box (K p1)] (f p0 p1) (λx=>.agg (Q x.1)) (λx=>[.box (K x.2)])
abbrev yG (f:Bool->ah->aI (ak×ah)):Prop:=∀ p0 p1,CT Pq 209 [.ptr 0 0,Bo p0] [.box (K p1)] (f p0 p1) (λx=>.agg (Q x.1)) (λx=>[.box (K x.2)])
abbrev Hr (f:ByS->Int->aI (ak×Bool)):Prop:=∀ p0 p1,CT Pq 294 [eu p0,I p1] [] (f p0 p1) (λx=>.mE [.agg (Q x.1),Bo x.2]) (λ_=>[])
class ba (T:aO):Prop where
 cL:uu T.cL
 cI:xD T.cI
 dx:xE T.dx
 ic:w7 T.ic
 cX:uv T.cX
 cd:uw T.cd
 dj:sT T.dj
 eZ:yE T.eZ
 ax:uX T.ax
 jy:yF T.jy
 fZ:xF T.fZ
 fb:Ad T.fb
 jT:Ae T.jT
 fc:w8 T.fc
 dQ:w9 T.dQ
 dI:yG T.dI
 pZ:Hr T.pZ
attribute [instance] ba.cL ba.cI ba.dx ba.ic ba.cX ba.cd ba.dj ba.eZ ba.ax ba.jy ba.fZ ba.fb ba.jT ba.fc ba.dQ ba.dI ba.pZ
theorem An (T:aO) [hT:ba T]:uu (eK n T):=λp0 p1=>by unfold eK eS;exact zz 1 func71
theorem Dv (T:aO) [hT:ba T]:xD (eN n T):=λp0 p1 p2=>by unfold eN eS;exact zz 1 func167
theorem Dw (T:aO) [hT:ba T]:xE (fQ n T):=λp0 p1=>by unfold fQ;exact zz 1 func158
theorem CV (T:aO) [hT:ba T]:w7 (kj n T):=λp0 p1 p2=>by unfold kj;exact zz 1 func157
theorem Ao (T:aO) [hT:ba T]:uv (eL n T):=λp0 p1=>by unfold eL eS;exact zz 1 func113
theorem Ap (T:aO) [hT:ba T]:uw (fA n T):=λp0 p1=>by unfold fA dZ;exact zz 1 func106
theorem xn (T:aO) [hT:ba T]:sT (ig n T):=λp0 p1 p2=>by unfold ig dT dL;exact zz 1 func55
theorem Eg (T:aO) [hT:ba T]:yE (jc n T):=λp0 p1 p2=>by unfold jc dS;exact zz 1 func160
theorem Be (T:aO) [hT:ba T]:uX (dC n T):=λp0 p1=>by unfold dC eA eS;exact zz 1 func28
theorem Eh (T:aO) [hT:ba T]:yF (lN n T):=λp0 p1=>by unfold lN eS eA;exact zz 0 func273
theorem Dx (T:aO) [hT:ba T]:xF (kU n T):=λp0 p1=>by unfold kU eS eA;exact zz 2 func274
theorem EZ (T:aO) [hT:ba T]:Ad (mr n T):=λp0=>by unfold mr eA;exact zz 0 func295
theorem E0 (T:aO) [hT:ba T]:Ae (mu n T):=λp0 p1=>by unfold mu eA eS;exact zz 2 func275
theorem CW (T:aO) [hT:ba T]:w8 (hO n T):=λp0 p1=>by unfold hO eS;exact zz 1 func237
theorem CX (T:aO) [hT:ba T]:w9 (fB n T):=λp0 p1=>by unfold fB eS;exact zz 1 func259
theorem Ei (T:aO) [hT:ba T]:yG (gk n T):=λp0 p1=>by unfold gk eS;exact zz 1 func209
theorem MH (T:aO) [hT:ba T]:Hr (uJ n T):=λp0 p1=>by
 refine zC func294 O λr hp h hr E hE=>bE λ_ IH=>bB (lY 104 (hE _ O) O4 O ?_);refine za O (zQ IH (bE λ_ R4=>bB (zm O (lX (Wl 3114 (sz:=4) (el:=62) (hE _ O) O3) ?_))));refine Hi hr h [3114] call17 (Hq n p0) ⟨O,O,O,O,O,O,⟨hE _ O,trivial⟩⟩ O (λ_=>O3) (λ_=>O2) hp (λy3 h=>?_);refine zm O (zx O (zx O (lY 107 (hE _ O) O4 O ?_)));refine za O (zs O (lX (Y' 3114 10006 [(0,eu p0),(1,I p1),(4,.ptr 104 0),(6,.arr 10006 y3.1.length),(7,.ptr 107 0)] [(104,.box oE),(107,.box [I y3.2.eU,I y3.2.At])] (hE _ O) O O O2 ⟨⟨_,O,O,O⟩,⟨_,O,O,O⟩,⟨_,O,O,O⟩,⟨_,O,O,O⟩,⟨_,O,O,O⟩,trivial⟩ ⟨⟨_,O,O,O,O,O⟩,⟨_,O,O,O,O,O⟩,trivial⟩) ?_));refine zQ R4 (bE λ_ T8=>bE λ_ X9=>bB (zf O (zl O (zc O (zQ X9 (zB O h (λ_ h=>?_) λ_ h=>?_))))))
 ·refine bE λ_ hK7=>bB (fg Fz O ?_);refine zs O (za O (zQ hK7 (nY (Dc 104 O O) ?_)));exact ť
 refine mR (T8 _ _ (bE λ_ hK8=>bE λ_ hK9=>bB (za O (zQ hK9 (CC (zL hr h (λ(v10:(List aC)×Int)=>[(0,eu p0),(1,I p1),(4,.ptr 104 0),(6,.arr 10006 v10.1.length),(8,I v10.2)]) (λ(v10:(List aC)×Int)=>[(104,.box oE),(10006,.arr 62 4 (aC.Cs v10.1))]) O λ_ v10 _ R5 h=>bE λ_ OW=>bE λ_ Mz=>bB (zm O (zm O (fg (Ra O) O (zc O (zQ Mz (zB O h (λ_ h=>?_) λ_ h=>?_))))))))))))
 ·refine mR (OW _ _ (bE λ_ Yc=>CC (bE λ_ MA=>bE λ_ T9=>bB (zm O (zm O (ze hr h λx19 Yg h21 h22 h=>fg (AP O O Yg h21) O (zf O (fg (Ζ o8 o7 h22 O O O) O (zc O (zQ T9 (zB O h (λ_ h=>?_) λ_ h=>?_)))))))))))
  ·refine bE λ_ hK24=>bB (fg Fz O ?_);refine zs O (za O (zQ hK24 (nY (Dc 104 O O) ?_)));exact ť
  refine mR (MA _ _ (bE λ_ hK25=>bB (zm O (zm O (zm O (zm O (ze hr h λx26 h27 h28 h29 h=>fg (AP O O h27 h28) O (zf O (fg (Ζ o8 o7 h29 O O O) O (zm O (zd hr h λhg30 h=>zo hg30 O (ze hr h λMI h32 h33 h34 h=>fg (AP O O h32 h33) O (zf O (TT (⟨o8,o7,h32,h34,O,O,O,O,O,yR.h,O,O,O⟩:StA _ _ _ _ _ _ _ _ _ 2 _ _ _ _ _ _ (aC.mk MI.aq MI.bM (x26.cN+p1) MI.pO) _ [.sc (.int .i64 (x26.cN+p1))]) ?_))))))))))))));refine lX (TW 6 (m':=List.length (List.set v10.1 v10.2.toNat (aC.mk MI.aq MI.bM (x26.cN+p1) MI.pO))) O bn) ?_;refine zQ hK25 (bB (zm O (zm O (zm O (zm O (ze hr h λx35 h36 h37 h38 h=>fg (AP O O h36 h37) O (zf O (fg (Ζ o8 o7 h38 O O O) O (zm O (zd hr h λhg39 h=>zo hg39 O (ze hr h λx40 Sa h42 h43 h=>fg (AP O O Sa h42) O (zf O (TT (⟨o8,o7,Sa,h43,O,O,O,O,O,yR.h,O,O,O⟩:StA _ _ _ _ _ _ _ _ _ 3 _ _ _ _ _ _ (aC.mk x40.aq x40.bM x40.cN (x35.pO+p1)) _ [.sc (.int .i64 (x35.pO+p1))]) ?_)))))))))))));refine lX (TW 6 (m':=List.length (List.set (List.set v10.1 v10.2.toNat (aC.mk MI.aq MI.bM (x26.cN+p1) MI.pO)) v10.2.toNat (aC.mk x40.aq x40.bM x40.cN (x35.pO+p1)))) O bn) ?_;exact zQ Yc (bB (zm O (zd hr h λhg44 h=>zo hg44 O (za O (tH (R5 _ _ _ h O))))))
 refine Ha (hK8 _ _ (bE λ_ hK45=>bB (zm O (zm O (zm O (lX (μ (d:=58) o8 o7 O O O (hE _ O)) ?_))))));refine fg Fx O ?_;refine H7 160 (hE _ O) O7 O ?_;refine za O (zQ hK45 (bE λ_ hK46=>bB (zm O (zk hp hr h [160] call28 (hT.ax false (ah.mk p0 p1 v10.1 0 true 0 0)) O (λ_=>rfl) λy47 h=>lY 110 (hE _ O) O4 O ?_))));refine zs O (zQ hK46 (bE λ_ hK48=>bE λ_ hK49=>bB (zm O (zk hp hr h [160] call29 (FO n y47.2) O (λ_=>rfl) λy50 h=>lY 111 (hE _ O) O4 O ?_))));refine zs O (zQ hK49 (bE λ_ hK51=>bB (zf O (zl O (zc O (zQ hK51 (zB O h (λ_ h=>?_) λ_ h=>?_)))))))
 ·refine bB (zm O (zf O (zl O (zk hp hr h [160] call31 (FP y50.1.cN y50.2) O (λ_=>rfl) λy53 h=>zQ hK48 (bE λ_ hK54=>sH [0,1,2,3,4] O (by kernel_rfl) (zD O Ke O ?_))))));refine zD O zS O (KQ O (xr O) hr h [160] call19 (BR y53) ⟨O,O,O,O,O,O,trivial⟩ O O (λ_=>O3) (λ_=>O2) hp (λy55 h=>⟨qg ⟨trivial,⟨⟨⟨_,O,nR _⟩,trivial⟩,trivial⟩⟩,?_⟩));refine sG O O8 O (λe3 he=>⟨kW O,?_⟩);subst he;exact Ic O O O (kW O) O (AS (hK54 _ _ ť))
 refine mR (hK48 _ _ (bE λ_ hK56=>sH [0,1,2,3,4] O (by kernel_rfl) (zD O Ke O ?_)));refine zD O zS O (KQ O (xr O) hr h [160] call19 (BR y50.2) ⟨O,O,O,O,O,O,trivial⟩ O O (λ_=>O3) (λ_=>O2) hp (λy57 h=>⟨qg ⟨trivial,⟨⟨⟨_,O,nR _⟩,trivial⟩,trivial⟩⟩,?_⟩));refine sG O O8 O (λe3 he=>⟨kW O,?_⟩);subst he;exact Ic O O O (kW O) O (AS (hK56 _ _ ť))
theorem se:∀ n,ba (ar n)
 | 0=>by constructor<;>(repeat intro)<;>exact rU
 | n+1=>have:=se n;⟨An n _,Dv n _,Dw n _,CV n _,Ao n _,Ap n _,xn n _,Eg n _,Be n _,Eh n _,Dx n _,EZ n _,E0 n _,CW n _,CX n _,Ei n _,MH n _⟩
attribute [instance] se
end
end Go.Abs
