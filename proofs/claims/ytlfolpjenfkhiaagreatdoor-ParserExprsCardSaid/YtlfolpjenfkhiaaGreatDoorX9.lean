/- PROVED: lemmas of the proof of: configlanglaw26.ParserExprs returns true for every input. CONDITIONS: as each lemma states. -/
import Derived.Test.YtlfolpjenfkhiaaGreatDoorX8
set_option linter.all false
namespace Go.Abs
open Go.Proofs aG
set_option maxRecDepth 100000
set_option maxHeartbeats 2000000
structure ph where
 mX:(List aK)->Bool->aG (Bool)
 mG:ak->Bool->Bool->Bool->aG (Bool)
def uO (n:Nat) (e:ph) (h:(List aK)) (i:Bool):aG (Bool):=
 dG [0,1,10,11] [] (λc=>[(12,I c)]) (λ_=>[]) (λk (c:Int)=>br (decide (c<h.length)) (el h c λa=>gV 2 [0,1,6,10,11,12] [106] (λ_=>[]) (λ_=>[]) (λ(r:Unit)=>gV 0 [0,1,6,10,11,12] [106] (λf=>[(7,Bo f)]) (λ_=>[]) (λ(f:Bool)=>dG [0,1,7,10,11,12,61,62] [] (λb=>[(63,I b)]) (λ_=>[]) (λj (b:Int)=>br (decide (b<a.bF.length)) (el a.bF b λl=>ag (e.mG l f false false) λm=>br (!m) (.ok false) (gd (cD (b+1)) (j (b+1)))) (gd (cD (c+1)) (k (c+1)))) n 0) λd=>br i (br (a.an==1) (d true) (br (a.an==2) (d true) (br (a.an==3) (d true) (d ((a.an==4)))))) (d false)) λg=>ag (vJ n a) λo=>br (!o) (.ok false) (br (!i) (br (a.an==4) (.ok false) (br (a.an==8) (.ok false) (ag (e.mX a.jf false) λp=>br (!p) (.ok false) (g ())))) (ag (e.mX a.jf false) λq=>br (!q) (.ok false) (g ())))) (.ok true)) n 0
def wC (n:Nat) (j:ph) (a:ak) (c:Bool) (m:Bool) (k:Bool):aG (Bool):=
 gV 2 [0,1,2,3,4] [104] (λi=>[(50,Bo i)]) (λ_=>[]) (λ(i:Bool)=>br i (.ok false) (dG [0,1,2,3,4,52,53] [104] (λd=>[(54,I d)]) (λ_=>[]) (λl (d:Int)=>br (decide (d<a.bF.length)) (el a.bF d λo=>gV 2 [0,1,2,3,4,9,10,52,53,54] [104,110] (λg=>[(11,Bo g)]) (λ_=>[]) (λ(g:Bool)=>gV 0 [0,1,2,3,4,10,11,52,53,54] [104,110] (λh=>[(12,Bo h)]) (λ_=>[]) (λ(h:Bool)=>ag (j.mG o g (a.an==17) h) λp=>br (!p) (.ok false) (gd (cD (d+1)) (l (d+1)))) λf=>br (a.an==14) (br (a.U==0) (f true) (gd (cD (d+1)) (f ((decide ((d+1)<(a.bF.length:Int))))))) (f false)) λe=>br (a.an==16) (br c (e true) (e ((a.an==10)))) (e ((a.an==10)))) (ag (j.mX a.fS (a.an==13)) λq=>.ok q)) n 0)) λb=>ag (wA n a) λr=>br (!r) (b true) (br (a.an==18) (br (!m) (b true) (br (a.an==15) (br (!k) (b true) (br (a.an==13) (br (!c) (b true) (br (a.an==22) (b c) (b false))) (br (a.an==22) (b c) (b false)))) (br (a.an==13) (br (!c) (b true) (br (a.an==22) (b c) (b false))) (br (a.an==22) (b c) (b false))))) (br (a.an==15) (br (!k) (b true) (br (a.an==13) (br (!c) (b true) (br (a.an==22) (b c) (b false))) (br (a.an==22) (b c) (b false)))) (br (a.an==13) (br (!c) (b true) (br (a.an==22) (b c) (b false))) (br (a.an==22) (b c) (b false)))))
def ju:Nat->ph
 | 0=>⟨λ_ _=>.stuck,λ_ _ _ _=>.stuck⟩
 | n+1=>⟨uO n (ju n),wC n (ju n)⟩
abbrev mX (n:Nat):=(ju n).mX
abbrev mG (n:Nat):=(ju n).mG
abbrev FM (f:(List aK)->Bool->aG (Bool)):Prop:=∀ p0 p1,CT Pq 58 [.pv (.sl p0.length (aK.Cs p0)),Bo p1] [] (f p0 p1) (λx=>Bo x) (λ_=>[])
abbrev G4 (f:ak->Bool->Bool->Bool->aG (Bool)):Prop:=∀ p0 p1 p2 p3,CT Pq 73 [.agg (Q p0),Bo p1,Bo p2,Bo p3] [] (f p0 p1 p2 p3) (λx=>Bo x) (λ_=>[])
class rC (T:ph):Prop where
 mX:FM T.mX
 mG:G4 T.mG
attribute [instance] rC.mX rC.mG
theorem KM (n:Nat) (T:ph) [hT:rC T]:FM (uO n T):=λp0 p1=>by unfold uO;exact zz 0 Tryz.func58
theorem Md (n:Nat) (T:ph) [hT:rC T]:G4 (wC n T):=λp0 p1 p2 p3=>by unfold wC;exact zz 0 Tryz.func73
theorem yT:∀ n,rC (ju n)
 | 0=>by constructor<;>(repeat intro)<;>exact rh
 | n+1=>have:=yT n;⟨KM n _,Md n _⟩
attribute [instance] yT
structure qA where
 rR:(List aK)->aG (Int)
 jv:ak->aG (Int)
def wD (n:Nat) (d:qA) (e:(List aK)):aG (Int):=
 dG [0,9,10] [] (λb=>[(3,I b.1),(11,I b.2)]) (λ_=>[]) (λh (b:Int×Int)=>br (decide (b.2<e.length)) (el e b.2 λc=>ag (d.rR c.jf) λj=>dG [0,3,9,10,11,19,20] [] (λa=>[(6,I a.1),(21,I a.2)]) (λ_=>[]) (λg (a:Int×Int)=>br (decide (a.2<c.bF.length)) (el c.bF a.2 λi=>ag (d.jv i) λf=>gd (cD (a.2+1)) (g (if f>a.1 then f else a.1,a.2+1))) (gd (cD (a.1+1)) (gd (cD (b.2+1)) (h (if a.1+1>b.1 then a.1+1 else b.1,b.2+1))))) n (j,0)) (.ok b.1)) n (0,0)
def sq (n:Nat) (c:qA) (b:ak):aG (Int):=
 ag (c.rR b.fS) λg=>dG [0,10,11] [] (λa=>[(3,I a.1),(12,I a.2)]) (λ_=>[]) (λe (a:Int×Int)=>br (decide (a.2<b.bF.length)) (el b.bF a.2 λf=>ag (c.jv f) λd=>gd (cD (a.2+1)) (e (if d>a.1 then d else a.1,a.2+1))) (gd (cD (a.1+1)) (.ok (a.1+1)))) n (g,0)
def my:Nat->qA
 | 0=>⟨λ_=>.stuck,λ_=>.stuck⟩
 | n+1=>⟨wD n (my n),sq n (my n)⟩
abbrev rR (n:Nat):=(my n).rR
abbrev jv (n:Nat):=(my n).jv
abbrev G5 (f:(List aK)->aG (Int)):Prop:=∀ p0,CT Pq 60 [.pv (.sl p0.length (aK.Cs p0))] [] (f p0) (λx=>I x) (λ_=>[])
abbrev Cj (f:ak->aG (Int)):Prop:=∀ p0,CT Pq 74 [.agg (Q p0)] [] (f p0) (λx=>I x) (λ_=>[])
class sr (T:qA):Prop where
 rR:G5 T.rR
 jv:Cj T.jv
attribute [instance] sr.rR sr.jv
theorem Me (n:Nat) (T:qA) [hT:sr T]:G5 (wD n T):=λp0=>by unfold wD;exact zz 0 Tryz.func60
theorem G6 (n:Nat) (T:qA) [hT:sr T]:Cj (sq n T):=λp0=>by unfold sq;exact zz 0 Tryz.func74
theorem AK:∀ n,sr (my n)
 | 0=>by constructor<;>(repeat intro)<;>exact rh
 | n+1=>have:=AK n;⟨Me n _,G6 n _⟩
attribute [instance] AK
def xE (a:Bool) (b:Int):aG (Int):=
 br (!a) (.ok 11) (br (decide (b>16)) (.ok 9) (.ok 0))
instance YO (p0:Bool) (p1:Int):CT Pq 59 [Bo p0,I p1] [] (xE p0 p1) (λx=>I x) (λ_=>[]):=by unfold xE;exact zz 0 Tryz.func59
def aY (n:Nat) (e:ah):aG (aB×ah):=
 gV 1 [0,2] [102] (λ_=>[]) (λb=>[(0,.box (K b))]) (λ(b:ah)=>jg 11 (el b.l b.bB λg=>.ok (g,b))) λc=>dG [0,2] [102] (λ_=>[]) (λa=>[(0,.box (K a))]) (λd (a:ah)=>jg 18 (br a.skip (el a.l a.bB λf=>br (f.an==7) (gd (cD (a.bB+1)) (d ((ah.mk a.s a.shift a.l (a.bB+1) a.skip a.iR a.qW)))) (c a)) (c a))) n e
instance Ft (n:Nat) (p0:ah):CT Pq 29 [.ptr 0 0] [.box (K p0)] (aY n p0) (λx=>.agg (na x.1)) (λx=>[.box (K x.2)]):=by unfold aY;exact zz 0 Tryz.func29
def bu (n:Nat) (b:ah):aG (aB×ah):=
 ag (aY n b) λa=>jg 11 (gd (cD (a.2.bB+1)) (br (decide ((a.2.bB+1)<(a.2.l.length:Int))) (gd (cD (a.2.bB+1)) (.ok (a.1,ah.mk a.2.s a.2.shift a.2.l (a.2.bB+1) a.2.skip a.2.iR a.2.qW))) (.ok (a.1,a.2))))
instance S2 (n:Nat) (p0:ah):CT Pq 30 [.ptr 0 0] [.box (K p0)] (bu n p0) (λx=>.agg (na x.1)) (λx=>[.box (K x.2)]):=by unfold bu;exact zz 0 Tryz.func30
def kC (n:Nat) (e:Int) (f:Int) (b:ah):aG (Bool×ah):=
 dG [0,1,2] [0] (λa=>[(7,I a)]) (λ_=>[]) (λd (a:Int)=>br (decide (a<f)) (jg 12 (gd (cD (a - b.shift)) (el b.s (a - b.shift) λc=>br ((c.toNat:Int)==10) (.ok (true,b)) (gd (cD (a+1)) (d (a+1)))))) (.ok (false,b))) n e
instance S3 (n:Nat) (p0:Int) (p1:Int) (p2:ah):CT Pq 105 [.ptr 0 0,I p0,I p1] [.box (K p2)] (kC n p0 p1 p2) (λx=>Bo x.1) (λx=>[.box (K x.2)]):=by unfold kC;exact zz 0 Tryz.func105
def mY (n:Nat) (a:ah):aG (Bool×ah):=
 br (a.bB==0) (.ok (true,a)) (jg 41 (gd (cD (a.bB - 1)) (el a.l (a.bB - 1) λe=>br (e.an==7) (.ok (true,a)) (gd (cD (a.bB - 1)) (el a.l (a.bB - 1) λc=>el a.l a.bB λd=>ag (kC n c.oZ d.cG a) λb=>.ok (b.1,b.2))))))
instance TT (n:Nat) (p0:ah):CT Pq 102 [.ptr 0 0] [.box (K p0)] (mY n p0) (λx=>Bo x.1) (λx=>[.box (K x.2)]):=by unfold mY;exact zz 0 Tryz.func102
def cK (b:Int) (a:ah):aG (aB×ah):=
 jg 12 (gd (cD (a.bB+b)) (br (decide ((a.bB+b)<(a.l.length:Int))) (jg 13 (gd (cD (a.bB+b)) (el a.l (a.bB+b) λd=>.ok (d,a)))) (jg 13 (gd (cD ((a.l.length:Int) - 1)) (el a.l ((a.l.length:Int) - 1) λc=>.ok (c,a))))))
instance RM (p0:Int) (p1:ah):CT Pq 155 [.ptr 0 0,I p0] [.box (K p1)] (cK p0 p1) (λx=>.agg (na x.1)) (λx=>[.box (K x.2)]):=by unfold cK;exact zz 0 Tryz.func155
def bO (b:Int) (a:ah):aG (ah):=
 br (a.iR==0) (.ok ((ah.mk a.s a.shift a.l a.bB a.skip 8 b))) (.ok a)
instance Fu (p0:Int) (p1:ah):CT Pq 31 [.ptr 0 0,I p0] [.box (K p1)] (bO p0 p1) (λ_=>.lM []) (λx=>[.box (K x)]):=by unfold bO;exact zz 0 Tryz.func31
def cL (a:ah):aG (Bool×ah):=
 .ok ((a.iR==0),a)
instance Bn (p0:ah):CT Pq 19 [.ptr 0 0] [.box (K p0)] (cL p0) (λx=>Bo x.1) (λx=>[.box (K x.2)]):=by unfold cL;exact zz 0 Tryz.func19
def cg (a:aB) (b:ByS):aG (Bool):=
 br (a.an==5) (.ok ((a.bJ==b))) (.ok false)
instance aft (p0:aB) (p1:ByS):CT Pq 70 [.agg (na p0),eu p1] [] (cg p0 p1) (λx=>Bo x) (λ_=>[]):=by unfold cg;exact zz 0 Tryz.func70
def cF (n:Nat) (b:ByS) (c:ah):aG (ah):=
 ag (aY n c) λa=>ag (cg a.1 b) λd=>br (!d) (ag (bO a.1.cG a.2) λe=>.ok e) (ag (bu n a.2) λf=>.ok f.2)
instance Wh (n:Nat) (p0:ByS) (p1:ah):CT Pq 156 [.ptr 0 0,eu p0] [.box (K p1)] (cF n p0 p1) (λ_=>.lM []) (λx=>[.box (K x)]):=by unfold cF;exact zz 0 Tryz.func156
def jC (n:Nat) (d:aB) (b:(List ByS)):aG (Bool):=
 dG [0,1,2] [102] (λa=>[(5,I a)]) (λ_=>[]) (λc (a:Int)=>br (decide (a<b.length)) (jg 6 (el b a λe=>ag (cg d e) λf=>br f (.ok true) (gd (cD (a+1)) (c (a+1))))) (.ok false)) n 0
instance ń (n:Nat) (p0:aB) (p1:(List ByS)):CT Pq 154 [.agg (na p0),Av p1] [] (jC n p0 p1) (λx=>Bo x) (λ_=>[]):=by unfold jC;exact zz 0 Tryz.func154
def kf (n:Nat) (b:ah):aG (Int×ah):=
 dG [0] [0] (λa=>[(3,I a.1),(4,I a.2)]) (λ_=>[]) (λe (a:Int×Int)=>br (decide (a.2<b.l.length)) (gV 1 [0,4] [0] (λc=>[(3,I c)]) (λ_=>[]) (λ(c:Int)=>el b.l a.2 λf=>ag (jC n f [([41]:ByS),([93]:ByS),([125]:ByS)]) λh=>br h (gd (cD (c - 1)) (br ((c - 1)==0) (.ok (a.2,b)) (gd (cD (a.2+1)) (e (c - 1,a.2+1))))) (br (c==0) (.ok (a.2,b)) (gd (cD (a.2+1)) (e (c,a.2+1))))) λd=>el b.l a.2 λg=>ag (jC n g [([40]:ByS),([91]:ByS),([123]:ByS)]) λi=>br i (gd (cD (a.1+1)) (d (a.1+1))) (d a.1)) (.ok ((-1),b))) n (0,b.bB)
instance P0 (n:Nat) (p0:ah):CT Pq 201 [.ptr 0 0] [.box (K p0)] (kf n p0) (λx=>I x.1) (λx=>[.box (K x.2)]):=by unfold kf;exact zz 0 Tryz.func201
def ca (n:Nat) (b:ByS) (c:Bool) (d:ah):aG (ah):=
 ag (cF n b d) λa=>.ok ((ah.mk a.s a.shift a.l a.bB c a.iR a.qW))
instance OI (n:Nat) (p0:ByS) (p1:Bool) (p2:ah):CT Pq 203 [.ptr 0 0,eu p0,Bo p1] [.box (K p2)] (ca n p0 p1 p2) (λ_=>.lM []) (λx=>[.box (K x)]):=by unfold ca;exact zz 0 Tryz.func203
def ss (a:aK):aG (Bool):=
 br (a.an==1) (.ok true) (br (a.an==2) (.ok true) (.ok ((a.an==3))))
instance XZ (p0:aK):CT Pq 168 [.agg (qo p0)] [] (ss p0) (λx=>Bo x) (λ_=>[]):=by unfold ss;exact zz 0 Tryz.func168
structure uV where
 kg:ak->aG (Bool)
def rS (n:Nat) (d:uV) (b:ak):aG (Bool):=
 br (b.an==16) (el b.bF 0 λh=>ag (d.kg h) λi=>br i (.ok true) (el b.bF 1 λf=>ag (d.kg f) λj=>.ok j)) (br (b.an !=13) (.ok false) (dG [0,1] [101] (λa=>[(3,I a)]) (λ_=>[]) (λe (a:Int)=>br (decide (a<b.fS.length)) (el b.fS a λc=>br (c.an==4) (.ok true) (br (c.an==8) (.ok true) (ag (ss c) λk=>br k (el c.bF 0 λg=>ag (d.kg g) λl=>br l (.ok true) (gd (cD (a+1)) (e (a+1)))) (gd (cD (a+1)) (e (a+1)))))) (.ok false)) n 0))
def n9:Nat->uV
 | 0=>⟨λ_=>.stuck⟩
 | n+1=>⟨rS n (n9 n)⟩
abbrev kg (n:Nat):=(n9 n).kg
abbrev FN (f:ak->aG (Bool)):Prop:=∀ p0,CT Pq 114 [.agg (Q p0)] [] (f p0) (λx=>Bo x) (λ_=>[])
class wE (T:uV):Prop where
 kg:FN T.kg
attribute [instance] wE.kg
theorem KN (n:Nat) (T:uV) [hT:wE T]:FN (rS n T):=λp0=>by unfold rS;exact zz 0 Tryz.func114
theorem yU:∀ n,wE (n9 n)
 | 0=>by constructor<;>(repeat intro)<;>exact rh
 | n+1=>have:=yU n;⟨KN n _⟩
attribute [instance] yU
structure uW where
 jD:ak->aG (ak)
def ov (n:Nat) (d:uW) (b:ak):aG (ak):=
 br (b.an==16) (uD [0,1,2,3,5,6,7,8,4,9,10,11,12] (el b.bF 0 λi=>el b.bF 1 λg=>ag (d.jD i) λj=>ag (d.jD g) λk=>.ok ((ak.mk b.an b.bJ b.U b.B b.bE [j,k] b.fS b.J b.cG)))) (br (b.an !=13) (.ok b) (jU [[3,3,10003,11,43]] (dG [0,1,2] [101,102] (λc=>[(3,.arr 10003 c.1.length),(4,I c.2)]) (λc=>[(10003,.app 43 11 (aK.Cs c.1))]) (λe (c:(List aK)×Int)=>br (decide (c.2<b.fS.length)) (el b.fS c.2 λa=>ag (ss a) λl=>br l (el a.bF 0 λh=>ag (d.jD h) λf=>gd (ob 184 c.1.length (List.length [aK.mk a.an a.cS a.jb a.B a.bE [f] a.jf a.J a.oO a.iG a.cG])) (jU [[1,151,10003],[0,1,2,3,4],[101,102]] (gd (cD (c.2+1)) (e (c.1++[aK.mk a.an a.cS a.jb a.B a.bE [f] a.jf a.J a.oO a.iG a.cG],c.2+1))))) (gd (ob 184 c.1.length (List.length [a])) (jU [[1,151,10003],[0,1,2,3,4],[101,102]] (gd (cD (c.2+1)) (e (c.1++[a],c.2+1)))))) (oz [[22,52]] (.ok ((ak.mk 22 b.bJ b.U b.B b.bE b.bF c.1 b.J b.cG))))) n ([],0))))
def lA:Nat->uW
 | 0=>⟨λ_=>.stuck⟩
 | n+1=>⟨ov n (lA n)⟩
abbrev jD (n:Nat):=(lA n).jD
abbrev FO (f:ak->aG (ak)):Prop:=∀ p0,CT Pq 115 [.agg (Q p0)] [] (f p0) (λx=>.agg (Q x)) (λ_=>[])
class wF (T:uW):Prop where
 jD:FO T.jD
attribute [instance] wF.jD
theorem KO (n:Nat) (T:uW) [hT:wF T]:FO (ov n T):=λp0=>by unfold ov;exact zz 1 Tryz.func115
theorem yV:∀ n,wF (lA n)
 | 0=>by constructor<;>(repeat intro)<;>exact rh
 | n+1=>have:=yV n;⟨KO n _⟩
attribute [instance] yV
def eo (n:Nat) (a:ak) (c:aB) (b:ah):aG (ak×ah):=
 ag (kg n a) λe=>br e (ag (bO c.cG b) λf=>.ok (ak.mk 0 [] 0 [] [] [] [] [] 0,f)) (ag (jD n a) λd=>.ok (d,b))
instance P1 (n:Nat) (p0:ak) (p1:aB) (p2:ah):CT Pq 72 [.ptr 0 0,.agg (Q p0),.agg (na p1)] [.box (K p2)] (eo n p0 p1 p2) (λx=>.agg (Q x.1)) (λx=>[.box (K x.2)]):=by unfold eo;exact zz 1 Tryz.func72
def eH (n:Nat) (b:ah):aG (Bool×ah):=
 ag (bu n b) λa=>.ok (b.skip,ah.mk a.2.s a.2.shift a.2.l a.2.bB true a.2.iR a.2.qW)
instance S4 (n:Nat) (p0:ah):CT Pq 202 [.ptr 0 0] [.box (K p0)] (eH n p0) (λx=>Bo x.1) (λx=>[.box (K x.2)]):=by unfold eH;exact zz 0 Tryz.func202
def oa (n:Nat) (a:aB):aG (Bool):=
 br (a.an==1) (ag (fu n a.bJ) λb=>.ok b) (.ok false)
instance aa4 (n:Nat) (p0:aB):CT Pq 103 [.agg (na p0)] [] (oa n p0) (λx=>Bo x) (λ_=>[]):=by unfold oa;exact zz 0 Tryz.func103
def BL (n:Nat) (b:ByS):aG ((List aB)×cZ):=
 br (decide ((b.length:Int)>65536)) (tG [[3,2,0,4,62]] (.ok ([],cZ.mk 2 0))) (jU [[3,4,10004,4,62]] (dG [0,3] [103] (λa=>[(4,.arr 10004 a.1.length),(5,I a.2)]) (λa=>[(10004,.app 62 4 (aB.Cs a.1))]) (λc (a:(List aB)×Int)=>br (decide (a.2<b.length)) (el b a.2 λe=>br ((e.toNat:Int)==32) (gd (cD (a.2+1)) (c (a.1,a.2+1))) (el b a.2 λf=>br ((f.toNat:Int)==9) (gd (cD (a.2+1)) (c (a.1,a.2+1))) (el b a.2 λg=>br ((g.toNat:Int)==13) (gd (cD (a.2+1)) (c (a.1,a.2+1))) (el b a.2 λh=>br ((h.toNat:Int)==10) (oz [[22,39]] (ag (xz n b a.1 a.2) λi=>br i (gd (cD (a.2+1)) (gd (ob 40 a.1.length (List.length [aB.mk 7 [10] a.2 (a.2+1)])) (jU [[1,148,10004],[0,3,4,5],[103]] (gd (cD (a.2+1)) (c (a.1++[aB.mk 7 [10] a.2 (a.2+1)],a.2+1)))))) (gd (cD (a.2+1)) (c (a.1,a.2+1))))) (ag (tM n b a.2) λd=>br (!d.2) (tG [[3,2,0,4,62]] (.ok ([],cZ.mk 8 a.2))) (gd (ob 40 a.1.length (List.length [d.1])) (jU [[1,164,10004],[0,3,4,6],[103,106]] (c (a.1++[d.1],d.1.oZ))))))))) (gd (ob 40 a.1.length (List.length [aB.mk 0 [] (b.length:Int) (b.length:Int)])) (jU [[1,174,10002],[0,2,3],[103]] (tG [[1,10002,0],[0,2,3],[103]] (.ok (a.1++[aB.mk 0 [] (b.length:Int) (b.length:Int)],cZ.mk 0 0)))))) n ([],0)))
instance IW (n:Nat) (p0:ByS):CT Pq 17 [eu p0] [.app 62 4 (aB.Cs [])] (BL n p0) (λx=>.lM [.arr 0 x.1.length,.agg [I x.2.dX,I x.2.At]]) (λx=>[.app 62 4 (aB.Cs x.1)]):=by unfold BL;exact zz 0 Tryz.func17
def yE (n:Nat) (p0:ByS):aG ((List aB)×cZ):=BL n p0
instance G7 (n:Nat) (p0:ByS):CT Pq 17 [eu p0] [.arr 62 4 (aB.Cs [])] (yE n p0) (λx=>.lM [.arr 0 x.1.length,.agg [I x.2.dX,I x.2.At]]) (λx=>[.arr 62 4 (aB.Cs x.1)]):=CT.akD (h:=IW n p0) (λ_=>rfl) (λ_=>rfl) (λ_=>Rc (λ_=>rfl) _)
def kt (a:aB) (b:ByS):aG (Bool):=
 br (a.an==1) (.ok ((a.bJ==b))) (.ok false)
instance aa5 (p0:aB) (p1:ByS):CT Pq 51 [.agg (na p0),eu p1] [] (kt p0 p1) (λx=>Bo x) (λ_=>[]):=by unfold kt;exact zz 0 Tryz.func51
def iN (n:Nat) (b:ByS) (c:ah):aG (ah):=
 ag (aY n c) λa=>ag (kt a.1 b) λd=>br (!d) (ag (bO a.1.cG a.2) λe=>.ok e) (ag (bu n a.2) λf=>.ok f.2)
instance OJ (n:Nat) (p0:ByS) (p1:ah):CT Pq 200 [.ptr 0 0,eu p0] [.box (K p1)] (iN n p0 p1) (λ_=>.lM []) (λx=>[.box (K x)]):=by unfold iN;exact zz 0 Tryz.func200
def iO (n:Nat) (b:ah):aG (ByS×ah):=
 ag (aY n b) λa=>ag (oa n a.1) λd=>br (!d) (ag (bO a.1.cG a.2) λe=>.ok (([]:ByS),e)) (ag (bu n a.2) λc=>.ok (a.1.bJ,c.2))
instance S5 (n:Nat) (p0:ah):CT Pq 52 [.ptr 0 0] [.box (K p0)] (iO n p0) (λx=>eu x.1) (λx=>[.box (K x.2)]):=by unfold iO;exact zz 0 Tryz.func52
def lg (n:Nat) (g:ah):aG (ma×ah):=
 ag (iO n g) λd=>ag (cF n [44] d.2) λj=>ag (aY n j) λf=>ag (iO n f.2) λe=>gV 0 [0,2,3,5] [102] (λ_=>[]) (λc=>[(0,.box (K c))]) (λ(c:ah)=>ag (iN n [105,110] c) λh=>.ok (ma.mk d.1 e.1,h)) λb=>ag (cL e.2) λa=>br a.1 (br (d.1==e.1) (ag (bO f.1.cG a.2) λi=>b i) (b a.2)) (b a.2)
instance RN (n:Nat) (p0:ah):CT Pq 159 [.ptr 0 0] [.box (K p0)] (lg n p0) (λx=>.agg [eu x.1.x0,eu x.1.x1]) (λx=>[.box (K x.2)]):=by unfold lg;exact zz 0 Tryz.func159
def qd (n:Nat) (a:aB):aG (Bool):=
 ag (oa n a) λb=>br b (.ok true) (.ok ((a.an==3)))
instance Ņ (n:Nat) (p0:aB):CT Pq 153 [.agg (na p0)] [] (qd n p0) (λx=>Bo x) (λ_=>[]):=by unfold qd;exact zz 0 Tryz.func153
def tN (n:Nat) (a:aB) (b:Int):aG (Bool):=
 br (b==0) (ag (cg a [124,124]) λg=>.ok g) (br (b==1) (ag (cg a [38,38]) λc=>.ok c) (br (b==2) (ag (jC n a [([61,61]:ByS),([33,61]:ByS),([60]:ByS),([60,61]:ByS),([62]:ByS),([62,61]:ByS)]) λd=>.ok d) (br (b==3) (ag (jC n a [([43]:ByS),([45]:ByS)]) λe=>.ok e) (ag (jC n a [([42]:ByS),([47]:ByS),([37]:ByS)]) λf=>.ok f))))
instance ņ (n:Nat) (p0:aB) (p1:Int):CT Pq 210 [.agg (na p0),I p1] [] (tN n p0 p1) (λx=>Bo x) (λ_=>[]):=by unfold tN;exact zz 0 Tryz.func210
def fX (n:Nat) (d:Int) (e:ah):aG (Int×ah):=
 dG [0,1] [] (λa=>[(5,I a.2)]) (λa=>[(0,.box (K a.1))]) (λc (a:ah×Int)=>ag (cK a.2 a.1) λb=>br (b.1.an==7) (gd (cD (a.2+1)) (c (b.2,a.2+1))) (.ok (a.2,b.2))) n (e,d)
instance S6 (n:Nat) (p0:Int) (p1:ah):CT Pq 231 [.ptr 0 0,I p0] [.box (K p1)] (fX n p0 p1) (λx=>I x.1) (λx=>[.box (K x.2)]):=by unfold fX;exact zz 0 Tryz.func231
def jE (n:Nat) (o:ah):aG (ByS×Int×Int×ah):=
 ag (cK 0 o) λh=>ag (cg h.1 [91]) λt=>br (!t) (.ok (([]:ByS),0,0,h.2)) (ag (fX n 1 h.2) λc=>gV 2 [0] [] (λa=>[(5,I a.2.1),(6,eu a.2.2.1),(7,I a.2.2.2)]) (λa=>[(0,.box (K a.1))]) (λ(a:ah×Int×ByS×Int)=>gd (cD (a.2.1+1)) (ag (fX n (a.2.1+1) a.1) λb=>ag (cK b.1 b.2) λe=>ag (cg e.1 [93]) λp=>br (!p) (.ok (([]:ByS),0,0,e.2)) (gd (cD (b.1+1)) (ag (cK (b.1+1) e.2) λf=>ag (cg f.1 [58]) λq=>br (!q) (.ok (([]:ByS),0,0,f.2)) (gd (cD (b.1+2)) (.ok (a.2.2.1,a.2.2.2,b.1+2,f.2))))))) λk=>ag (cK c.1 c.2) λg=>ag (cg g.1 [61,126]) λr=>br r (gd (cD (c.1+1)) (ag (fX n (c.1+1) g.2) λd=>ag (cK d.1 d.2) λi=>br (i.1.an !=3) (.ok (([]:ByS),0,0,i.2)) (ag (cK d.1 i.2) λl=>ag (cK d.1 l.2) λm=>k (m.2,d.1,l.1.bJ,m.1.cG)))) (ag (cK c.1 g.2) λj=>ag (kt j.1 [115,116,114,105,110,103]) λs=>br (!s) (.ok (([]:ByS),0,0,j.2)) (k (j.2,c.1,([46,42]:ByS),(-1)))))
instance OK (n:Nat) (p0:ah):CT Pq 199 [.ptr 0 0] [.box (K p0)] (jE n p0) (λx=>.lM [eu x.1,I x.2.1,I x.2.2.1]) (λx=>[.box (K x.2.2.2)]):=by unfold jE;exact zz 0 Tryz.func199
end Go.Abs
