/- PROVED: lemmas of the proof of: configlanglaw26.ParserExprs returns true for every input. CONDITIONS: as each lemma states. -/
import Derived.Test.YtlfolpjenfkhiaaGreatDoorX2
set_option linter.all false
namespace Go.Abs
open Go.Proofs aG
set_option maxRecDepth 100000
set_option maxHeartbeats 2000000
def p9 (a:rL):aG (cZ):=
 .ok ((cZ.mk 8 a.bB))
instance IF (p0:rL):CT Pq 14 [.vu 71 (.agg [I p0.bB])] [] (p9 p0) (λx=>.agg [I x.dX,I x.At]) (λ_=>[]):=by unfold p9;exact zz 0 Tryz.func14
def Hw (p0:rL):NP (p9 p0):=by
 unfold p9;(repeat (first|assumption|exact NP.ok _|exact tF|refine NP.br ?_ ?_|refine NP.gd ?_|refine NP.el λ_=>?_|refine NP.some? λ_=>?_|refine NP.bind ?_ λ_=>?_|refine NP.jn (λ_ _=>?_) (λ_=>?_)|refine NP.iter (λ_ _ _=>?_) _ _|apply_assumption))
def rp (a:Int):aG (ak×cZ):=
 ag (p9 (rL.mk a)) λb=>.ok (ak.mk 0 [] 0 [] [] [] [] [] 0,b)
def Fa (v:Int):Xs Pq 23 [.ptr 0 0,.ptr 1 0] [.box [.any,.any,.any,.any,.any,.any,.any,.any,.any],.box [.any,.any]] (some (.iface 71 (.agg #[.int .i64 v]))) (rp v) (λx=>[.box (Q x.1),.box [I x.2.dX,I x.2.At]]):=by
 refine xN (m:=some (.iface 71 (.agg #[.int .i64 v]))) (mv:=.vu 71 (.agg [I v])) (λg=>.vu 71 (.agg (.cons (.pv (.sc _)) .nil))) Tryz.func23 O O O λr h hr E hE=>?_;exact yC6
def w5 (es:List cQ):Xs Pq 23 [.ptr 0 0,.ptr 1 0] es none (aG.ok ()) (λ_=>es):=by
 refine xN (m:=none) (mv:=Sc .nilIface) (λg=>.pv (.sc _)) Tryz.func23 O O O λr h hr E hE=>?_;exact yC7
def eg (a:aB) (b:ByS):aG (Bool):=
 br (a.an==5) (.ok ((a.bJ==b))) (.ok false)
instance RB (p0:aB) (p1:ByS):CT Pq 63 [.agg (na p0),eu p1] [] (eg p0 p1) (λx=>Bo x) (λ_=>[]):=by unfold eg;exact zz 0 Tryz.func63
def bq (n:Nat) (c:D):aG (aB×D):=
 gV 1 [0,2] [102] (λ_=>[]) (λb=>[(0,.box [eu b.bM,Er b.M,I b.bB,I c.base,Bo b.skip,.pv (.pt (Option.map ak.C b.Z))])]) (λ(b:D)=>jg 11 (el b.M b.bB λg=>.ok (g,D.mk b.bM b.M b.bB c.base b.skip b.Z))) λd=>dG [0,2] [102] (λ_=>[]) (λa=>[(0,.box [eu a.bM,Er a.M,I a.bB,I c.base,Bo a.skip,.pv (.pt (Option.map ak.C a.Z))])]) (λe (a:D)=>jg 18 (br a.skip (el a.M a.bB λf=>br (f.an==7) (gd (cD (a.bB+1)) (e ((D.mk a.bM a.M (a.bB+1) c.base a.skip a.Z)))) (d ((D.mk a.bM a.M a.bB c.base a.skip a.Z)))) (d ((D.mk a.bM a.M a.bB c.base a.skip a.Z))))) n c
instance rY (n:Nat) (p0:D):CT Pq 25 [.ptr 0 0] [.box (F p0)] (bq n p0) (λx=>.agg (na x.1)) (λx=>[.box [eu x.2.bM,Er x.2.M,I x.2.bB,I p0.base,Bo x.2.skip,.pv (.pt (Option.map ak.C x.2.Z))]]):=by unfold bq;exact zz 0 Tryz.func25
def Eu (n:Nat) (p0:D):NP (bq n p0):=by
 unfold bq;(repeat (first|assumption|exact NP.ok _|exact tF|refine NP.br ?_ ?_|refine NP.gd ?_|refine NP.el λ_=>?_|refine NP.some? λ_=>?_|refine NP.bind ?_ λ_=>?_|refine NP.jn (λ_ _=>?_) (λ_=>?_)|refine NP.iter (λ_ _ _=>?_) _ _|apply_assumption))
def di (n:Nat) (c:ByS) (b:D):aG (Bool×D):=
 ag (bq n b) λa=>ag (eg a.1 c) λd=>br (!d) (.ok (false,D.mk a.2.bM a.2.M a.2.bB b.base a.2.skip a.2.Z)) (gd (cD (a.2.bB+1)) (.ok (true,D.mk a.2.bM a.2.M (a.2.bB+1) b.base a.2.skip a.2.Z)))
instance On (n:Nat) (p0:ByS) (p1:D):CT Pq 67 [.ptr 0 0,eu p0] [.box (F p1)] (di n p0 p1) (λx=>Bo x.1) (λx=>[.box (F x.2)]):=by unfold di;exact zz 0 Tryz.func67
def slices_Index_string (n:Nat) (b:(List ByS)) (d:ByS):aG (Int):=
 dG [0,1,7] [] (λa=>[(8,I a)]) (λ_=>[]) (λc (a:Int)=>br (decide (a<b.length)) (el b a λe=>br (d==e) (.ok a) (gd (cD (a+1)) (c (a+1)))) (.ok ((-1)))) n 0
instance PM (n:Nat) (p0:(List ByS)) (p1:ByS):CT Pq 142 [Av p0,eu p1] [] (slices_Index_string n p0 p1) (λx=>I x) (λ_=>[]):=by unfold slices_Index_string;exact zz 0 Tryz.func142
def slices_Contains_string (n:Nat) (a:(List ByS)) (b:ByS):aG (Bool):=
 ag (slices_Index_string n a b) λc=>.ok ((decide (c>=0)))
instance L1 (n:Nat) (p0:(List ByS)) (p1:ByS):CT Pq 90 [Av p0,eu p1] [] (slices_Contains_string n p0 p1) (λx=>Bo x) (λ_=>[]):=by unfold slices_Contains_string;exact zz 0 Tryz.func90
def nB (n:Nat) (a:aB) (b:ByS):aG (Bool):=
 uD [0,1,2,3,4,6,7,5,8,9,10] (br (a.an==5) (ag (strings_Split b ([32]:ByS)) λc=>ag (slices_Contains_string n c a.bJ) λd=>.ok d) (.ok false))
instance Μ (n:Nat) (p0:aB) (p1:ByS):CT Pq 132 [.agg (na p0),eu p1] [] (nB n p0 p1) (λx=>Bo x) (λ_=>[]):=by unfold nB;exact zz 0 Tryz.func132
def qh (a:Int):aG (ByS):=
 br (a==0) (.ok (([124,124]:ByS))) (br (a==1) (.ok (([38,38]:ByS))) (br (a==2) (.ok (([61,61,32,33,61,32,60,32,60,61,32,62,32,62,61]:ByS))) (br (a==3) (.ok (([43,32,45]:ByS))) (.ok (([42,32,47,32,37]:ByS))))))
instance TO (p0:Int):CT Pq 207 [I p0] [] (qh p0) (λx=>eu x) (λ_=>[]):=by unfold qh;exact zz 0 Tryz.func207
def jJ (a:Int) (b:D):aG (D):=
 .qH ⟨71,[.sc (.int .i64 a)]⟩
instance RC (p0:Int) (p1:D):CT Pq 68 [.ptr 0 0,I p0] [.box (F p1)] (jJ p0 p1) (λ_=>.lM []) (λx=>[.box (F x)]):=by unfold jJ;exact zz 0 Tryz.func68
structure oo where
 cB:ak->Int->D->aG (ak×D)
def gw (n:Nat) (f:oo) (a:ak) (e:Int) (i:D):aG (ak×D):=
 br (a.an==16) (uD [0,1,2,3,4,5,7,8,9,10,11,12,6,13,14,15,16] (el a.bF 0 λt=>el a.bF 1 λr=>ag (f.cB t e i) λm=>ag (f.cB r e m.2) λo=>.ok (ak.mk a.an a.bJ a.U a.B a.bE [m.1,o.1] a.fS a.J a.cG,o.2))) (br (a.an==13) (jU [[3,7,10007,11,43]] (dG [0,1,2,4,6,34,35] [104,106] (λc=>[(7,.arr 10007 c.2.1.length),(36,I c.2.2)]) (λc=>[(0,.box (F c.1)),(10007,.app 43 11 (aK.Cs c.2.1))]) (λq (c:D×(List aK)×Int)=>br (decide (c.2.2<a.fS.length)) (el a.fS c.2.2 λb=>gV 2 [0,1,2,4,6,7,9,34,35,36] [104,106,10007] (λ_=>[]) (λd=>[(0,.box (F d.1)),(109,.box (qo d.2))]) (λ(d:D×aK)=>gd (ob 184 c.2.1.length (List.length [d.2])) (jU [[1,164,10007],[0,1,2,4,6,7,34,35,36],[0,104,106]] (gd (cD (c.2.2+1)) (q (d.1,c.2.1++[d.2],c.2.2+1))))) λg=>gV 1 [0,1,2,4,6,7,9,34,35,36,41] [0,104,106,109,10007] (λj=>[(42,Bo j)]) (λ_=>[]) (λ(j:Bool)=>br j (ag (jJ e c.1) λu=>g (u,b)) (gV 0 [0,1,2,4,6,7,9,34,35,36] [0,104,106,109,10007] (λk=>[(48,Bo k)]) (λ_=>[]) (λ(k:Bool)=>br k (el b.bF 0 λs=>ag (f.cB s e c.1) λp=>g (p.2,aK.mk b.an b.cS b.jb b.B b.bE [p.1] b.jf b.J b.oO b.iG b.cG)) (g (c.1,b))) λh=>br (b.an==1) (h ((b.an==1))) (br (b.an==2) (h ((b.an==2))) (h ((b.an==3)))))) λl=>br (b.an==4) (l ((b.an==4))) (l ((b.an==8)))) (oz [[22,66]] (.ok (ak.mk 22 a.bJ a.U a.B a.bE a.bF c.2.1 a.J a.cG,c.1)))) n (i,[],0))) (.ok (a,i)))
def e7:Nat->oo
 | 0=>⟨λ_ _ _=>.stuck⟩
 | n+1=>⟨gw n (e7 n)⟩
abbrev cB (n:Nat):=(e7 n).cB
abbrev wc (f:ak->Int->D->aG (ak×D)):Prop:=∀ p0 p1 p2,CT Pq 65 [.ptr 0 0,.agg (Q p0),I p1] [.box (F p2)] (f p0 p1 p2) (λx=>.agg (Q x.1)) (λx=>[.box (F x.2)])
class qp (T:oo):Prop where
 cB:wc T.cB
attribute [instance] qp.cB
theorem B9 (n:Nat) (T:oo) [hT:qp T]:wc (gw n T):=λp0 p1 p2=>by unfold gw;exact zz 0 Tryz.func65
theorem pb:∀ n,qp (e7 n)
 | 0=>by constructor<;>(repeat intro)<;>exact rh
 | n+1=>have:=pb n;⟨B9 n _⟩
attribute [instance] pb
def cY (n:Nat) (b:D):aG (Int×D):=
 jg 9 (ag (bq n b) λa=>gd (cD (b.base+a.1.cG)) (.ok (b.base+a.1.cG,D.mk a.2.bM a.2.M a.2.bB b.base a.2.skip a.2.Z)))
instance Fj (n:Nat) (p0:D):CT Pq 66 [.ptr 0 0] [.box (F p0)] (cY n p0) (λx=>I x.1) (λx=>[.box (F x.2)]):=by unfold cY;exact zz 0 Tryz.func66
def nC (a:Int):aG (Bool):=
 br (decide (a>=97)) (br (decide (a<=122)) (.ok true) (br (decide (a>=65)) (.ok ((decide (a<=90)))) (.ok false))) (br (decide (a>=65)) (.ok ((decide (a<=90)))) (.ok false))
instance Ν (p0:Int):CT Pq 91 [Sc (.int .u8 p0)] [] (nC p0) (λx=>Bo x) (λ_=>[]):=by unfold nC;exact zz 0 Tryz.func91
def dT (n:Nat) (b:ByS):aG (Bool):=
 br (decide ((b.length:Int)>32)) (.ok false) (ag (slices_Contains_string n [([110,117,108,108]:ByS),([116,114,117,101]:ByS),([102,97,108,115,101]:ByS),([98,111,111,108]:ByS),([105,110,116]:ByS),([110,117,109,98,101,114]:ByS),([115,116,114,105,110,103]:ByS),([108,101,116]:ByS),([105,102]:ByS),([102,111,114]:ByS),([105,110]:ByS),([112,97,99,107,97,103,101]:ByS),([105,109,112,111,114,116]:ByS)] b) λp=>br p (.ok false) (jnF 0 (λc=>[(0,eu c)]) (λc=>[]) (λ(c:ByS)=>br ((c.length:Int)==0) (.ok false) (el c 0 λf=>ag (nC (f.toNat:Int)) λm=>br (!m) (.ok false) (dG [0,39] [] (λa=>[(40,I a)]) (λ_=>[]) (λe (a:Int)=>br (decide (a<c.length)) (el c a λg=>ag (nC (g.toNat:Int)) λo=>br (!o) (el c a λh=>br ((h.toNat:Int) !=95) (el c a λi=>br (decide ((i.toNat:Int)<48)) (.ok false) (el c a λj=>br (decide ((j.toNat:Int)>57)) (.ok false) (gd (cD (a+1)) (e (a+1))))) (gd (cD (a+1)) (e (a+1)))) (gd (cD (a+1)) (e (a+1)))) (.ok true)) n 0))) λd=>br (decide ((b.length:Int)>0)) (el b 0 λk=>br ((k.toNat:Int)==35) (gd ((0:Int)<=1/\1<=(b.length:Int)) (d (gp b 1))) (el b 0 λl=>br ((l.toNat:Int)==95) (gd ((0:Int)<=1/\1<=(b.length:Int)) (d (gp b 1))) (d b))) (d b)))
instance Ī (n:Nat) (p0:ByS):CT Pq 44 [eu p0] [] (dT n p0) (λx=>Bo x) (λ_=>[]):=by unfold dT;exact zz 0 Tryz.func44
def oF (n:Nat) (a:aB):aG (Bool):=
 br (a.an==3) (.ok true) (br (a.an==1) (ag (dT n a.bJ) λb=>.ok b) (.ok false))
instance XO (n:Nat) (p0:aB):CT Pq 131 [.agg (na p0)] [] (oF n p0) (λx=>Bo x) (λ_=>[]):=by unfold oF;exact zz 0 Tryz.func131
def mc (a:Int):aG (Bool):=
 br (decide (a>=(-1000000000000000))) (.ok ((decide (a<=1000000000000000)))) (.ok false)
instance ī (p0:Int):CT Pq 122 [I p0] [] (mc p0) (λx=>Bo x) (λ_=>[]):=by unfold mc;exact zz 0 Tryz.func122
def vi (a:Int):aG (Int):=
 br (decide (a<0)) (.ok (IntKind.wrap .u64 (IntKind.wrap .i64 (0 - a)))) (.ok (IntKind.wrap .u64 a))
instance aaP (p0:Int):CT Pq 176 [I p0] [] (vi p0) (λx=>Sc (.int .u64 x)) (λ_=>[]):=by unfold vi;exact zz 0 Tryz.func176
def vj (n:Nat) (d:Int):aG (ByS):=
 ag (mc d) λl=>br (!l) (.ok (([63]:ByS))) (ag (vi d) λi=>gd ((10000:Int)≠0) (ag (nY (IntKind.wrap .u64 (Int.tdiv i 10000)) 10) λe=>gV 0 [0,3] [] (λc=>[(4,eu c)]) (λ_=>[]) (λ(c:ByS)=>gd ((10000:Int)≠0) (ag (nY (IntKind.wrap .u64 ((Int.tmod i 10000)+10000)) 10) λh=>gd ((0:Int)<=1/\1<=(h.length:Int)) (gV 0 [0,4] [] (λb=>[(5,eu b)]) (λ_=>[]) (λ(b:ByS)=>br (b !=([]:ByS)) (gd (BR ([46]:ByS) b) (gd (BR c (([46]:ByS)++b)) (.ok (c++(([46]:ByS)++b))))) (.ok c)) λg=>dG [0,4] [] (λa=>[(5,eu a)]) (λ_=>[]) (λk (a:ByS)=>br (decide ((a.length:Int)>0)) (gd (cD ((a.length:Int) - 1)) (el a ((a.length:Int) - 1) λj=>br ((j.toNat:Int)==48) (gd (cD ((a.length:Int) - 1)) (gd ((0:Int)<=((a.length:Int) - 1)/\((a.length:Int) - 1)<=(a.length:Int)) (k (sd a ((a.length:Int) - 1))))) (g a))) (g a)) n (gp h 1)))) λf=>br (decide (d<0)) (gd (BR ([45]:ByS) e) (f (([45]:ByS)++e))) (f e)))
instance aaQ (n:Nat) (p0:Int):CT Pq 123 [I p0] [] (vj n p0) (λx=>eu x) (λ_=>[]):=by unfold vj;exact zz 0 Tryz.func123
def mK (n:Nat) (b:ByS):aG (Int×Int):=
 br (decide ((b.length:Int)>20)) (.ok (0,8)) (gV 1 [0] [] (λd=>[(4,eu d.1),(5,eu d.2)]) (λ_=>[]) (λ(d:ByS×ByS)=>dG [0,4] [] (λc=>[(5,eu c)]) (λ_=>[]) (λh (c:ByS)=>br (decide ((c.length:Int)<4)) (gd (BR c ([48]:ByS)) (h (c++([48]:ByS)))) (br (decide ((c.length:Int)>4)) (.ok (0,8)) (gd (BR d.1 c) (ag (tY (d.1++c) 10 64) λe=>br e.2 (.ok (0,8)) (ag (mc e.1) λj=>br (!j) (.ok (0,8)) (ag (vj n e.1) λk=>br (k !=b) (.ok (0,8)) (.ok (e.1,0)))))))) n d.2) λf=>dG [0,4,5,14] [] (λa=>[(15,I a)]) (λ_=>[]) (λi (a:Int)=>br (decide (a<b.length)) (el b a λg=>br ((g.toNat:Int)==46) (jg 9 (gd ((0:Int)<=a/\a<=(b.length:Int)) (gd (cD (a+1)) (gd ((0:Int)<=(a+1)/\(a+1)<=(b.length:Int)) (f (sd b a,gp b (a+1))))))) (gd (cD (a+1)) (i (a+1)))) (f (b,([]:ByS)))) n 0)
instance Ĭ (n:Nat) (p0:ByS):CT Pq 81 [eu p0] [] (mK n p0) (λx=>.lM [I x.1,I x.2]) (λ_=>[]):=by unfold mK;exact zz 0 Tryz.func81
def bY (n:Nat) (b:D):aG (D):=
 ag (cY n b) λa=>ag (jJ a.1 a.2) λc=>.ok c
instance Dt (n:Nat) (p0:D):CT Pq 26 [.ptr 0 0] [.box (F p0)] (bY n p0) (λ_=>.lM []) (λx=>[.box (F x)]):=by unfold bY;exact zz 0 Tryz.func26
def cT (n:Nat) (b:ByS) (c:D):aG (D):=
 ag (di n b c) λa=>br (!a.1) (ag (bY n a.2) λd=>.ok d) (.ok a.2)
instance Oo (n:Nat) (p0:ByS) (p1:D):CT Pq 136 [.ptr 0 0,eu p0] [.box (F p1)] (cT n p0 p1) (λ_=>.lM []) (λx=>[.box (F x)]):=by unfold cT;exact zz 0 Tryz.func136
def cz (n:Nat) (c:ByS) (b:D):aG (D):=
 ag (bq n b) λa=>ag (eg a.1 c) λd=>br (!d) (ag (bY n (D.mk a.2.bM a.2.M a.2.bB b.base a.2.skip a.2.Z)) λe=>.ok e) (.ok ((D.mk a.2.bM a.2.M a.2.bB b.base a.2.skip a.2.Z)))
instance PN (n:Nat) (p0:ByS) (p1:D):CT Pq 186 [.ptr 0 0,eu p0] [.box (F p1)] (cz n p0 p1) (λ_=>.lM []) (λx=>[.box (F x)]):=by unfold cz;exact zz 0 Tryz.func186
def im (n:Nat) (a:D):aG (Bool×D):=
 gd (cD (a.bB - 1)) (dG [0] [0] (λb=>[(3,I b)]) (λ_=>[]) (λe (b:Int)=>br (decide (b>=0)) (el a.M b λf=>br (f.an !=7) (jg 26 (el a.M b λc=>el a.M a.bB λd=>gd ((0:Int)<=c.oZ/\(c.oZ:Int)<=d.cG/\d.cG<=(a.bM.length:Int)) (ag (strings_Contains (sub a.bM c.oZ d.cG) ([10]:ByS)) λg=>.ok (g,a)))) (gd (cD (b - 1)) (e (b - 1)))) (.ok (true,a))) n (a.bB - 1))
instance PQ (n:Nat) (p0:D):CT Pq 84 [.ptr 0 0] [.box (F p0)] (im n p0) (λx=>Bo x.1) (λx=>[.box (F x.2)]):=by unfold im;exact zz 0 Tryz.func84
def cX (b:Int) (a:D):aG (aB×D):=
 jg 20 (gd (cD (a.bB+b)) (gd (cD ((a.M.length:Int) - 1)) (el a.M (if (a.M.length:Int) - 1<a.bB+b then (a.M.length:Int) - 1 else a.bB+b) λc=>.ok (c,a))))
instance Oq (p0:Int) (p1:D):CT Pq 130 [.ptr 0 0,I p0] [.box (F p1)] (cX p0 p1) (λx=>.agg (na x.1)) (λx=>[.box (F x.2)]):=by unfold cX;exact zz 0 Tryz.func130
def kc (a:aB) (b:ByS):aG (Bool):=
 br (a.an==1) (.ok ((a.bJ==b))) (.ok false)
instance ĭ (p0:aB) (p1:ByS):CT Pq 38 [.agg (na p0),eu p1] [] (kc p0 p1) (λx=>Bo x) (λ_=>[]):=by unfold kc;exact zz 0 Tryz.func38
def fw (n:Nat) (d:D):aG (Bool×D):=
 ag (bq n d) λb=>ag (eg b.1 [91]) λr=>br (!r) (.ok (false,D.mk b.2.bM b.2.M b.2.bB d.base b.2.skip b.2.Z)) (gV 1 [0] [] (λc=>[(3,I c.2)]) (λc=>[(0,.box (F c.1))]) (λ(c:D×Int)=>dG [0] [] (λa=>[(3,I a.2)]) (λa=>[(0,.box (F a.1))]) (λl (a:D×Int)=>ag (cX a.2 a.1) λe=>br (e.1.an==7) (gd (cD (a.2+1)) (l (e.2,a.2+1))) (ag (cX a.2 e.2) λf=>ag (eg f.1 [93]) λm=>br m (gd (cD (a.2+1)) (ag (cX (a.2+1) f.2) λk=>ag (eg k.1 [58]) λo=>.ok (o,k.2))) (.ok (false,f.2)))) n (c.1,c.2)) λj=>ag (cX 1 (D.mk b.2.bM b.2.M b.2.bB d.base b.2.skip b.2.Z)) λg=>ag (kc g.1 [115,116,114,105,110,103]) λp=>br (!p) (ag (cX 1 g.2) λh=>ag (eg h.1 [61,126]) λq=>br (!q) (.ok (false,h.2)) (ag (cX 2 h.2) λi=>br (i.1.an !=3) (.ok (false,i.2)) (j (i.2,3)))) (j (g.2,2)))
instance LC (n:Nat) (p0:D):CT Pq 134 [.ptr 0 0] [.box (F p0)] (fw n p0) (λx=>Bo x.1) (λx=>[.box (F x.2)]):=by unfold fw;exact zz 0 Tryz.func134
def dW (n:Nat) (d:ByS) (c:D):aG (D):=
 ag (bq n c) λa=>ag (kc a.1 d) λe=>br (!e) (ag (bY n (D.mk a.2.bM a.2.M a.2.bB c.base a.2.skip a.2.Z)) λb=>gd (cD (b.bB+1)) (.ok ((D.mk b.bM b.M (b.bB+1) b.base b.skip b.Z)))) (gd (cD (a.2.bB+1)) (.ok ((D.mk a.2.bM a.2.M (a.2.bB+1) c.base a.2.skip a.2.Z))))
instance Nj (n:Nat) (p0:ByS) (p1:D):CT Pq 139 [.ptr 0 0,eu p0] [.box (F p1)] (dW n p0 p1) (λ_=>.lM []) (λx=>[.box (F x)]):=by unfold dW;exact zz 0 Tryz.func139
def eN (n:Nat) (c:D):aG (ByS×D):=
 ag (bq n c) λa=>gV 0 [0,3] [103] (λ_=>[]) (λb=>[(0,.box (F b))]) (λ(b:D)=>gd (cD (b.bB+1)) (.ok (a.1.bJ,D.mk b.bM b.M (b.bB+1) b.base b.skip b.Z))) λd=>br (a.1.an !=1) (ag (bY n (D.mk a.2.bM a.2.M a.2.bB c.base a.2.skip a.2.Z)) λe=>d e) (ag (dT n a.1.bJ) λf=>br (!f) (ag (bY n (D.mk a.2.bM a.2.M a.2.bB c.base a.2.skip a.2.Z)) λg=>d g) (d ((D.mk a.2.bM a.2.M a.2.bB c.base a.2.skip a.2.Z))))
instance RD (n:Nat) (p0:D):CT Pq 39 [.ptr 0 0] [.box (F p0)] (eN n p0) (λx=>eu x.1) (λx=>[.box (F x.2)]):=by unfold eN;exact zz 0 Tryz.func39
def ke (n:Nat) (d:D):aG (ma×D):=
 ag (eN n d) λb=>ag (cT n [44] b.2) λf=>ag (cY n f) λc=>ag (eN n c.2) λa=>br (b.1==a.1) (ag (jJ c.1 a.2) λe=>.ok (ma.mk b.1 a.1,e)) (.ok (ma.mk b.1 a.1,a.2))
instance PS (n:Nat) (p0:D):CT Pq 138 [.ptr 0 0] [.box (F p0)] (ke n p0) (λx=>.agg [eu x.1.x0,eu x.1.x1]) (λx=>[.box (F x.2)]):=by unfold ke;exact zz 0 Tryz.func138
structure uT where
 mL:bh->Int->aG (Int)
def ot (n:Nat) (i:uT) (a:bh) (d:Int):aG (Int):=
 br (decide (d>16)) (.ok 9) (gV 0 [0,1,2] [102] (λ_=>[]) (λ_=>[]) (λ(m:Unit)=>gV 1 [0,1,2] [102] (λ_=>[]) (λ_=>[]) (λ(l:Unit)=>dG [0,1,47,48] [] (λb=>[(49,I b)]) (λ_=>[]) (λj (b:Int)=>br (decide (b<a.bF.length)) (el a.bF b λk=>gd (cD (d+1)) (ag (i.mL k (d+1)) λh=>br (h !=0) (.ok h) (gd (cD (b+1)) (j (b+1))))) (.ok 0)) n 0) λc=>gV 1 [0,1,2,5,34] [102] (λe=>[(37,Bo e)]) (λ_=>[]) (λ(e:Bool)=>br e (br (decide ((a.bF.length:Int)<2)) (.ok 2) (c ())) (br (a.an==5) (br ((a.bF.length:Int) !=1) (.ok 2) (c ())) (br ((a.bF.length:Int) !=0) (.ok 2) (c ())))) λf=>br (a.an==3) (f ((a.an==3))) (f ((a.an==4)))) λg=>br (decide (a.an<0)) (.ok 11) (br (decide (a.an>5)) (.ok 11) (br (a.an !=2) (br (!([a.Rh,a.Ri,a.Rj,a.Rk]==[0,0,0,0])) (.ok 11) (g ())) (g ()))))
def nZ:Nat->uT
 | 0=>⟨λ_ _=>.stuck⟩
 | n+1=>⟨ot n (nZ n)⟩
abbrev mL (n:Nat):=(nZ n).mL
abbrev FJ (f:bh->Int->aG (Int)):Prop:=∀ p0 p1,CT Pq 229 [.agg (kK p0),I p1] [] (f p0 p1) (λx=>I x) (λ_=>[])
class we (T:uT):Prop where
 mL:FJ T.mL
attribute [instance] we.mL
theorem KE (n:Nat) (T:uT) [hT:we T]:FJ (ot n T):=λp0 p1=>by unfold ot;exact zz 0 Tryz.func229
theorem yO:∀ n,we (nZ n)
 | 0=>by constructor<;>(repeat intro)<;>exact rh
 | n+1=>have:=yO n;⟨KE n _⟩
attribute [instance] yO
def xS (n:Nat) (a:bh):aG (Int):=
 ag (mL n a 1) λb=>.ok b
instance L2 (n:Nat) (p0:bh):CT Pq 192 [.agg (kK p0)] [] (xS n p0) (λx=>I x) (λ_=>[]):=by unfold xS;exact zz 0 Tryz.func192
def rq (a:Int):aG (bh×cZ):=
 .ok (bh.mk 0 0 0 0 0 [],cZ.mk 8 a)
def Fb (v:Int):Xs Pq 189 [.ptr 0 0,.ptr 1 0,.ptr 2 0] [.box [.ptr 3 0],.box [.any,.any,.any,.any,.any,.any],.box [.any,.any],.box [.any,.any]] (some (.iface 188 (.agg #[.int .i64 v]))) (rq v) (λx=>[.box [.ptr 3 0],.box (kK x.1),.box [I x.2.dX,I x.2.At],.box [.any,.any]]):=by
 refine xN (m:=some (.iface 188 (.agg #[.int .i64 v]))) (mv:=.vu 188 (.agg [I v])) (λg=>.vu 188 (.agg (.cons (.pv (.sc _)) .nil))) Tryz.func189 O O O λr h hr E hE=>?_;refine bz λ_ Hn=>bp (zm O (et (Hv O O) O (zQ Hn (GB O (λhc=>?_) (λhc=>?_)))))
 ·refine bz λ_ Ot=>bp (et E9 O ?_);refine zl O (zn O (zf O (et (ae5 O O O) O (et Dq O ?_))));refine zs O (zs O (zQ Ot (bz λ_ hK3=>bp (zm O (et (ac5 O) O (zm O (zx O (zx O (gH 104 (hE _ O) O4 O ?_)))))))));refine zs O (za O (zQ hK3 (bz λ_ RE=>bp (zm O (zQ RE (GB O (λhc=>?_) (λhc=>?_)))))))
  ·refine bp (zf O (zl O (zf O (zs O (lD (CH 1 O O) ?_)))));exact rJ (Hx (.inr O) _ h.symm ⟨O,O,O,O,trivial⟩)
  exact MJ
 exact MJ
def w6 (es:List cQ):Xs Pq 189 [.ptr 0 0,.ptr 1 0,.ptr 2 0] es none (aG.ok ()) (λ_=>es):=by
 refine xN (m:=none) (mv:=Sc .nilIface) (λg=>.pv (.sc _)) Tryz.func189 O O O λr h hr E hE=>?_;exact yC7
def qq (b:Int) (a:(List bh)):aG (bh):=
 br ((a.length:Int)==1) (el a 0 λc=>.ok c) (.ok ((bh.mk b 0 0 0 0 a)))
instance aaR (p0:Int) (p1:(List bh)):CT Pq 228 [I p0,ω p1] [] (qq p0 p1) (λx=>.agg (kK x)) (λ_=>[]):=by unfold qq;exact zz 0 Tryz.func228
def iz (n:Nat) (e:Int) (f:Int):aG (eb):=
 dG [0,1,4,5] [104] (λa=>[(7,I a.2)]) (λa=>[(105,.box (mw a.1))]) (λd (a:eb×Int)=>br (decide (a.2<256)) (gV 2 [0,1,4,5,6,7] [104,105] (λb=>[(19,Bo b)]) (λ_=>[]) (λ(b:Bool)=>br b (jg 10 (gd ((64:Int)≠0) (gd ((0:Int)<=(IntKind.wrap .i64 (Int.tdiv a.2 64))/\(IntKind.wrap .i64 (Int.tdiv a.2 64))<4) (gd ((64:Int)≠0) (gd ((0:Int)<=(Int.tmod a.2 64)) (gd ((0:Int)<=(IntKind.wrap .i64 (Int.tdiv a.2 64))/\(IntKind.wrap .i64 (Int.tdiv a.2 64))<4) (gd (cD (a.2+1)) (d (eb.mk (jx (sy [a.1.x0,a.1.x1,a.1.x2,a.1.x3] (IntKind.wrap .i64 (Int.tdiv a.2 64)) (Cy .u64 (jx [a.1.x0,a.1.x1,a.1.x2,a.1.x3] (IntKind.wrap .i64 (Int.tdiv a.2 64))) (xx .u64 1 (Int.tmod a.2 64)))) 0) (jx (sy [a.1.x0,a.1.x1,a.1.x2,a.1.x3] (IntKind.wrap .i64 (Int.tdiv a.2 64)) (Cy .u64 (jx [a.1.x0,a.1.x1,a.1.x2,a.1.x3] (IntKind.wrap .i64 (Int.tdiv a.2 64))) (xx .u64 1 (Int.tmod a.2 64)))) 1) (jx (sy [a.1.x0,a.1.x1,a.1.x2,a.1.x3] (IntKind.wrap .i64 (Int.tdiv a.2 64)) (Cy .u64 (jx [a.1.x0,a.1.x1,a.1.x2,a.1.x3] (IntKind.wrap .i64 (Int.tdiv a.2 64))) (xx .u64 1 (Int.tmod a.2 64)))) 2) (jx (sy [a.1.x0,a.1.x1,a.1.x2,a.1.x3] (IntKind.wrap .i64 (Int.tdiv a.2 64)) (Cy .u64 (jx [a.1.x0,a.1.x1,a.1.x2,a.1.x3] (IntKind.wrap .i64 (Int.tdiv a.2 64))) (xx .u64 1 (Int.tmod a.2 64)))) 3),a.2+1))))))))) (gd (cD (a.2+1)) (d (a.1,a.2+1)))) λc=>br (decide (a.2>=(IntKind.wrap .i64 e))) (c ((decide (a.2<=(IntKind.wrap .i64 f))))) (c false)) (.ok a.1)) n (eb.mk 0 0 0 0,0)
instance aaS (n:Nat) (p0:Int) (p1:Int):CT Pq 281 [Sc (.int .u8 p0),Sc (.int .u8 p1)] [] (iz n p0 p1) (λx=>.agg (mw x)) (λ_=>[]):=by unfold iz;exact zz 0 Tryz.func281
def kj (n:Nat) (d:eb) (b:eb):aG (eb):=
 dG [0,1,2,3,4] [103,104] (λa=>[(6,I a.2)]) (λa=>[(102,.box (mw a.1))]) (λc (a:eb×Int)=>br (decide (a.2<4)) (jg 9 (gd ((0:Int)<=a.2/\a.2<4) (gd ((0:Int)<=a.2/\a.2<4) (gd ((0:Int)<=a.2/\a.2<4) (gd (cD (a.2+1)) (c (eb.mk (jx (sy [a.1.x0,a.1.x1,a.1.x2,a.1.x3] a.2 (Cy .u64 (jx [a.1.x0,a.1.x1,a.1.x2,a.1.x3] a.2) (jx [b.x0,b.x1,b.x2,b.x3] a.2))) 0) (jx (sy [a.1.x0,a.1.x1,a.1.x2,a.1.x3] a.2 (Cy .u64 (jx [a.1.x0,a.1.x1,a.1.x2,a.1.x3] a.2) (jx [b.x0,b.x1,b.x2,b.x3] a.2))) 1) (jx (sy [a.1.x0,a.1.x1,a.1.x2,a.1.x3] a.2 (Cy .u64 (jx [a.1.x0,a.1.x1,a.1.x2,a.1.x3] a.2) (jx [b.x0,b.x1,b.x2,b.x3] a.2))) 2) (jx (sy [a.1.x0,a.1.x1,a.1.x2,a.1.x3] a.2 (Cy .u64 (jx [a.1.x0,a.1.x1,a.1.x2,a.1.x3] a.2) (jx [b.x0,b.x1,b.x2,b.x3] a.2))) 3),a.2+1))))))) (.ok a.1)) n (d,0)
instance aaT (n:Nat) (p0:eb) (p1:eb):CT Pq 297 [.agg (mw p0),.agg (mw p1)] [] (kj n p0 p1) (λx=>.agg (mw x)) (λ_=>[]):=by unfold kj;exact zz 0 Tryz.func297
def tH (n:Nat) (a:Int):aG (eb×Bool):=
 ag (iz n 48 57) λb=>br (a==100) (.ok (b,true)) (br (a==119) (ag (iz n 97 122) λc=>ag (iz n 65 90) λd=>ag (kj n c d) λe=>ag (kj n b e) λf=>ag (iz n 95 95) λg=>ag (kj n f g) λh=>.ok (h,true)) (br (a==115) (ag (iz n 9 10) λi=>ag (iz n 13 13) λj=>ag (kj n i j) λk=>ag (iz n 32 32) λl=>ag (kj n k l) λm=>.ok (m,true)) (.ok (eb.mk 0 0 0 0,false))))
instance Į (n:Nat) (p0:Int):CT Pq 282 [Sc (.int .u8 p0)] [] (tH n p0) (λx=>.lM [.agg (mw x.1),Bo x.2]) (λ_=>[]):=by unfold tH;exact zz 0 Tryz.func282
def sY (n:Nat) (b:Int):aG (bh):=
 ag (iz n b b) λa=>.ok ((bh.mk 2 a.x0 a.x1 a.x2 a.x3 []))
instance adf (n:Nat) (p0:Int):CT Pq 283 [Sc (.int .u8 p0)] [] (sY n p0) (λx=>.agg (kK x)) (λ_=>[]):=by unfold sY;exact zz 1 Tryz.func283
def eF (a:Int) (b:L):aG (L):=
 .qH ⟨188,[.sc (.int .i64 a)]⟩
instance Fk (p0:Int) (p1:L):CT Pq 191 [.ptr 0 0,I p0] [.box (y p1)] (eF p0 p1) (λ_=>.lM []) (λx=>[.box (y x)]):=by unfold eF;exact zz 0 Tryz.func191
def sC (a:Int):aG (Int×Bool):=
 gV 2 [0] [] (λb=>[(4,Bo b)]) (λ_=>[]) (λ(b:Bool)=>br b (.ok (IntKind.wrap .u8 (a - 48),true)) (gV 0 [0] [] (λc=>[(13,Bo c)]) (λ_=>[]) (λ(c:Bool)=>br c (.ok (IntKind.wrap .u8 ((IntKind.wrap .u8 (a - 97))+10),true)) (br (decide (a>=65)) (br (decide (a<=70)) (.ok (IntKind.wrap .u8 ((IntKind.wrap .u8 (a - 65))+10),true)) (.ok (0,false))) (.ok (0,false)))) λe=>br (decide (a>=97)) (e ((decide (a<=102)))) (e false))) λd=>br (decide (a>=48)) (d ((decide (a<=57)))) (d false)
instance į (p0:Int):CT Pq 310 [Sc (.int .u8 p0)] [] (sC p0) (λx=>.lM [Sc (.int .u8 x.1),Bo x.2]) (λ_=>[]):=by unfold sC;exact zz 0 Tryz.func310
def dj (a:L):aG (Int×L):=
 jg 10 (br (decide (a.bB<a.bM.length)) (jg 10 (el a.bM a.bB λb=>.ok ((b.toNat:Int),a))) (.ok (0,a)))
instance SS (p0:L):CT Pq 227 [.ptr 0 0] [.box (y p0)] (dj p0) (λx=>Sc (.int .u8 x.1)) (λx=>[.box (y x.2)]):=by unfold dj;exact zz 0 Tryz.func227
def iU (n:Nat) (e:Int) (h:L):aG (Int×L):=
 dG [0,1,10] [] (λa=>[(5,Sc (.int .u8 a.2.1)),(11,I a.2.2)]) (λa=>[(0,.box (y a.1))]) (λg (a:L×Int×Int)=>br (decide (a.2.2<2)) (gd ((0:Int)<=a.2.2/\a.2.2<2) (gd (cD (a.1.bB+1)) (ag (dj (L.mk a.1.bM (a.1.bB+1))) λd=>ag (sC d.1) λc=>gd ((0:Int)<=4) (gV 1 [0,1,5,10,11] [0] (λf=>[(53,Bo f)]) (λ_=>[]) (λ(f:Bool)=>br f (ag (eF d.2.bB d.2) λi=>gd (cD (a.2.2+1)) (g (i,Cy .u8 (xx .u8 a.2.1 4) c.1,a.2.2+1))) (gd (cD (a.2.2+1)) (g (d.2,Cy .u8 (xx .u8 a.2.1 4) c.1,a.2.2+1)))) λb=>br (!c.2) (b true) (br (decide ((jx [15,0] a.2.2)>0)) (gd ((0:Int)<=4) (br (decide ((Cy .u8 (xx .u8 (Cy .u8 (xx .u8 a.2.1 4) c.1) 4) (jx [15,0] a.2.2))<e)) (b true) (br ((jx [15,0] a.2.2)==0) (b ((decide ((Cy .u8 (xx .u8 a.2.1 4) c.1)<e)))) (b false)))) (br ((jx [15,0] a.2.2)==0) (b ((decide ((Cy .u8 (xx .u8 a.2.1 4) c.1)<e)))) (b false))))))) (gd (cD (a.1.bB+1)) (.ok (a.2.1,L.mk a.1.bM (a.1.bB+1))))) n (h,0,0)
instance KF (n:Nat) (p0:Int) (p1:L):CT Pq 299 [.ptr 0 0,Sc (.int .u8 p0)] [.box (y p1)] (iU n p0 p1) (λx=>Sc (.int .u8 x.1)) (λx=>[.box (y x.2)]):=by unfold iU;exact zz 0 Tryz.func299
def gI (n:Nat) (g:Int) (e:L):aG (Int×L):=
 gd (cD (e.bB+1)) (ag (dj (L.mk e.bM (e.bB+1))) λa=>gV 0 [0,1] [] (λb=>[(5,Sc (.int .u8 b.2))]) (λb=>[(0,.box (y b.1))]) (λ(b:L×Int)=>gV 0 [0,1,5] [] (λ_=>[]) (λd=>[(0,.box (y d))]) (λ(d:L)=>gd (cD (d.bB+1)) (.ok (b.2,L.mk d.bM (d.bB+1)))) λf=>br (decide (b.2<g)) (ag (eF b.1.bB b.1) λi=>f i) (f b.1)) λc=>jg 11 (br (decide (a.2.bB>=a.2.bM.length)) (ag (eF (a.2.bM.length:Int) a.2) λj=>c (j,a.1)) (br (a.1==120) (ag (iU n g a.2) λh=>.ok (h.1,h.2)) (br (a.1==110) (c (a.2,10)) (br (a.1==116) (c (a.2,9)) (br (a.1==114) (c (a.2,13)) (ag (strings_IndexByte ([40,41,91,93,123,125,124,42,43,63,46,92,45,94]:ByS) a.1) λk=>br (decide (k<0)) (ag (eF a.2.bB a.2) λl=>c (l,a.1)) (c (a.2,a.1)))))))))
instance Ou (n:Nat) (p0:Int) (p1:L):CT Pq 284 [.ptr 0 0,Sc (.int .u8 p0)] [.box (y p1)] (gI n p0 p1) (λx=>Sc (.int .u8 x.1)) (λx=>[.box (y x.2)]):=by unfold gI;exact zz 0 Tryz.func284
def sD (n:Nat) (c:eb):aG (eb):=
 dG [0,1,2] [102] (λa=>[(4,I a.2)]) (λa=>[(101,.box (mw a.1))]) (λb (a:eb×Int)=>br (decide (a.2<4)) (gd ((0:Int)<=a.2/\a.2<4) (gd ((0:Int)<=a.2/\a.2<4) (gd (cD (a.2+1)) (b (eb.mk (jx (sy [a.1.x0,a.1.x1,a.1.x2,a.1.x3] a.2 (L0 .u64 (jx [a.1.x0,a.1.x1,a.1.x2,a.1.x3] a.2))) 0) (jx (sy [a.1.x0,a.1.x1,a.1.x2,a.1.x3] a.2 (L0 .u64 (jx [a.1.x0,a.1.x1,a.1.x2,a.1.x3] a.2))) 1) (jx (sy [a.1.x0,a.1.x1,a.1.x2,a.1.x3] a.2 (L0 .u64 (jx [a.1.x0,a.1.x1,a.1.x2,a.1.x3] a.2))) 2) (jx (sy [a.1.x0,a.1.x1,a.1.x2,a.1.x3] a.2 (L0 .u64 (jx [a.1.x0,a.1.x1,a.1.x2,a.1.x3] a.2))) 3),a.2+1))))) (.ok a.1)) n (c,0)
instance İ (n:Nat) (p0:eb):CT Pq 298 [.agg (mw p0)] [] (sD n p0) (λx=>.agg (mw x)) (λ_=>[]):=by unfold sD;exact zz 0 Tryz.func298
def gN (n:Nat) (f:Int) (h:L):aG (Int×L):=
 ag (dj h) λa=>gV 0 [0,1,5] [] (λ_=>[]) (λb=>[(0,.box (y b))]) (λ(b:L)=>gd (cD (b.bB+1)) (.ok (a.1,L.mk b.bM (b.bB+1)))) λd=>jg 11 (br (decide (a.2.bB>=a.2.bM.length)) (ag (eF (a.2.bM.length:Int) a.2) λi=>d i) (br (a.1==92) (ag (gI n f a.2) λg=>.ok (g.1,g.2)) (gV 0 [0,1,5] [0] (λe=>[(32,Bo e)]) (λ_=>[]) (λ(e:Bool)=>br e (ag (eF a.2.bB a.2) λj=>d j) (d a.2)) λc=>br (decide (a.1<32)) (c true) (br (decide (a.1>126)) (c true) (br (decide (a.1<f)) (c true) (ag (strings_IndexByte ([40,41,91,93,123,125,124,42,43,63,46,94,45]:ByS) a.1) λk=>c ((decide (k>=0)))))))))
instance SU (n:Nat) (p0:Int) (p1:L):CT Pq 296 [.ptr 0 0,Sc (.int .u8 p0)] [.box (y p1)] (gN n p0 p1) (λx=>Sc (.int .u8 x.1)) (λx=>[.box (y x.2)]):=by unfold gN;exact zz 0 Tryz.func296
def n7 (n:Nat) (i:L):aG (bh×L):=
 gd (cD (i.bB+1)) (ag (dj (L.mk i.bM (i.bB+1))) λd=>gV 0 [0,2,3] [102] (λ_=>[]) (λg=>[(0,.box (y g))]) (λ(g:L)=>gV 1 [0,2,3] [102] (λb=>[(32,Bo b.2)]) (λb=>[(0,.box (y b.1))]) (λ(b:L×Bool)=>br b.2 (gd (cD (b.1.bB+1)) (.ok (bh.mk 0 0 0 0 0 [],L.mk b.1.bM (b.1.bB+1)))) (dG [0,2,3,4] [102] (λa=>[(5,Bo a.2.2)]) (λa=>[(0,.box (y a.1)),(104,.box (mw a.2.1))]) (λo (a:L×eb×Bool)=>gV 0 [0,2,3,4] [102,104] (λ_=>[]) (λj=>[(0,.box (y j))]) (λ(j:L)=>ag (gN n 0 j) λe=>ag (dj e.2) λf=>br (f.1==45) (gd (cD (f.2.bB+1)) (ag (gN n e.1 (L.mk f.2.bM (f.2.bB+1))) λp=>jg 6 (ag (iz n e.1 p.1) λr=>ag (kj n a.2.1 r) λs=>o (p.2,s,false)))) (jg 6 (ag (iz n e.1 e.1) λt=>ag (kj n a.2.1 t) λu=>o (f.2,u,false)))) λl=>br a.2.2 (l a.1) (ag (dj a.1) λc=>br (c.1 !=93) (l c.2) (gd (cD (c.2.bB+1)) (br (d.1==94) (ag (sD n a.2.1) λh=>.ok (bh.mk 2 h.x0 h.x1 h.x2 h.x3 [],L.mk c.2.bM (c.2.bB+1))) (.ok (bh.mk 2 a.2.1.x0 a.2.1.x1 a.2.1.x2 a.2.1.x3 [],L.mk c.2.bM (c.2.bB+1))))))) n (b.1,eb.mk 0 0 0 0,true))) λk=>br (!(d.1==94)) (ag (dj g) λq=>k (q.2,(q.1==93))) (k (g,false))) λm=>br (d.1==94) (gd (cD (d.2.bB+1)) (m ((L.mk d.2.bM (d.2.bB+1))))) (m d.2))
instance TP (n:Nat) (p0:L):CT Pq 280 [.ptr 0 0] [.box (y p0)] (n7 n p0) (λx=>.agg (kK x.1)) (λx=>[.box (y x.2)]):=by unfold n7;exact zz 1 Tryz.func280
structure cO where
 dZ:L->aG (bh×L)
 jA:L->aG (bh×L)
 ez:L->aG (bh×L)
 dP:(List bh)->L->aG ((List bh)×L)
 iV:L->aG (bh×L)
 iW:L->aG (bh×L)
def gx (n:Nat) (d:cO) (g:L):aG (bh×L):=
 ag (d.ez g) λe=>oz [[20,6]] (jU [[1,106,10003],[0,2,3],[0,102]] (dG [0,2] [102] (λa=>[(3,.arr 10003 a.2.length)]) (λa=>[(0,.box (y a.1)),(10003,.app 156 6 (bh.Cs a.2))]) (λf (a:L×(List bh))=>ag (dj a.1) λb=>br (b.1==124) (gd (cD (b.2.bB+1)) (ag (d.ez (L.mk b.2.bM (b.2.bB+1))) λc=>gd (ob 64 a.2.length (List.length [c.1])) (jU [[1,121,10003],[0,2,3],[0,102]] (f (c.2,a.2++[c.1]))))) (oz [[22,22]] (ag (qq 4 a.2) λh=>.ok (h,b.2)))) n (e.2,[e.1])))
def lQ (n:Nat) (l:cO) (o:L):aG (bh×L):=
 ag (dj o) λa=>gV 0 [0,2,3] [102] (λ_=>[]) (λb=>[(0,.box (y b))]) (λ(b:L)=>gd (cD (b.bB+1)) (ag (sY n a.1) λp=>.ok (p,L.mk b.bM (b.bB+1)))) λe=>jg 11 (br (decide (a.2.bB>=a.2.bM.length)) (ag (eF (a.2.bM.length:Int) a.2) λq=>e q) (br (a.1==40) (ag (l.iV a.2) λh=>.ok (h.1,h.2)) (br (a.1==91) (ag (n7 n a.2) λi=>.ok (i.1,i.2)) (br (a.1==46) (gd (cD (a.2.bB+1)) (ag (iz n 0 255) λd=>.ok (bh.mk 2 d.x0 d.x1 d.x2 d.x3 [],L.mk a.2.bM (a.2.bB+1)))) (br (a.1==92) (jg 11 (gd (cD (a.2.bB+1)) (br (decide ((a.2.bB+1)<(a.2.bM.length:Int))) (uD [0,1,2,3,4,5,6,7,8,9,14,10,11,12,13,15,16] (gd (cD (a.2.bB+1)) (el a.2.bM (a.2.bB+1) λm=>ag (tH n (m.toNat:Int)) λc=>br c.2 (gd (cD (a.2.bB+2)) (.ok (bh.mk 2 c.1.x0 c.1.x1 c.1.x2 c.1.x3 [],L.mk a.2.bM (a.2.bB+2)))) (ag (gI n 0 a.2) λj=>ag (sY n j.1) λr=>.ok (r,j.2))))) (ag (gI n 0 a.2) λk=>ag (sY n k.1) λs=>.ok (s,k.2))))) (gV 0 [0,2,3] [0,102] (λg=>[(89,Bo g)]) (λ_=>[]) (λ(g:Bool)=>br g (ag (eF a.2.bB a.2) λt=>e t) (e a.2)) λf=>br (decide (a.1<32)) (f true) (br (decide (a.1>126)) (f true) (ag (strings_IndexByte ([40,41,91,93,123,125,124,42,43,63,46,92]:ByS) a.1) λu=>f ((decide (u>=0)))))))))))
def gb (n:Nat) (d:cO) (h:L):aG (bh×L):=
 oz [[6,103,0,26592,6,156]] (ag (d.dP [] h) λf=>dG [0,1,2,3,4] [101,102] (λ_=>[]) (λa=>[(0,.box (y a.1)),(103,.box [.arr 26592 a.2.length]),(26592,.arr 156 6 (bh.Cs a.2))]) (λg (a:L×(List bh))=>jg 20 (br (decide (a.1.bB<a.1.bM.length)) (ag (dj a.1) λb=>br (b.1 !=124) (ag (dj b.2) λc=>br (c.1 !=41) (ag (d.dP a.2 c.2) λe=>g (e.2,e.1)) (oz [[11,103,0]] (ag (qq 3 a.2) λi=>.ok (i,c.2)))) (oz [[11,103,0]] (ag (qq 3 a.2) λj=>.ok (j,b.2)))) (oz [[11,103,0]] (ag (qq 3 a.2) λk=>.ok (k,a.1))))) n (f.2,f.1))
def fI (n:Nat) (c:cO) (a:(List bh)) (d:L):aG ((List bh)×L):=
 YE [0,1,3,4,2,5,6] 7 8 (ag (c.iW d) λb=>gd (ob 64 a.length (List.length [bh.mk 0 0 0 0 0 []])) (jU [[24,0,0]] (jU [[2,107,2],[0,1],[0,1,3]] (.ok (a++[b.1],b.2)))))
def kQ (n:Nat) (g:cO) (d:L):aG (bh×L):=
 gd (cD (d.bB+1)) (ag (dj (L.mk d.bM (d.bB+1))) λb=>br (b.1==41) (gd (cD (b.2.bB+1)) (.ok (bh.mk 1 0 0 0 0 [],L.mk b.2.bM (b.2.bB+1)))) (ag (g.dZ b.2) λf=>gV 0 [0,2,3] [102,103] (λ_=>[]) (λa=>[(0,.box (y a))]) (λ(a:L)=>gd (cD (a.bB+1)) (.ok (f.1,L.mk a.bM (a.bB+1)))) λe=>ag (dj f.2) λc=>br (c.1 !=41) (ag (eF c.2.bB c.2) λh=>e h) (e c.2)))
def kR (n:Nat) (f:cO) (h:L):aG (bh×L):=
 ag (f.jA h) λe=>dG [0,2,3] [102] (λ_=>[]) (λa=>[(0,.box (y a.1)),(103,.box (kK a.2))]) (λg (a:L×bh)=>gV 1 [0,2,3] [102] (λ_=>[]) (λb=>[(0,.box (y b.1)),(103,.box (kK b.2))]) (λ(b:L×bh)=>gd (cD (b.1.bB+1)) (g (L.mk b.1.bM (b.1.bB+1),b.2))) λd=>ag (dj a.1) λc=>br (c.1==42) (d (c.2,bh.mk 5 0 0 0 0 [a.2])) (br (c.1==43) (d (c.2,bh.mk 3 0 0 0 0 [a.2,bh.mk 5 0 0 0 0 [a.2]])) (br (c.1==63) (d (c.2,bh.mk 4 0 0 0 0 [a.2,bh.mk 1 0 0 0 0 []])) (.ok (a.2,c.2))))) n (e.2,e.1)
def bG:Nat->cO
 | 0=>⟨λ_=>.stuck,λ_=>.stuck,λ_=>.stuck,λ_ _=>.stuck,λ_=>.stuck,λ_=>.stuck⟩
 | n+1=>⟨gx n (bG n),lQ n (bG n),gb n (bG n),fI n (bG n),kQ n (bG n),kR n (bG n)⟩
abbrev dZ (n:Nat):=(bG n).dZ
abbrev jA (n:Nat):=(bG n).jA
abbrev ez (n:Nat):=(bG n).ez
abbrev dP (n:Nat):=(bG n).dP
abbrev iV (n:Nat):=(bG n).iV
abbrev iW (n:Nat):=(bG n).iW
abbrev td (f:L->aG (bh×L)):Prop:=∀ p0,CT Pq 190 [.ptr 0 0] [.box (y p0)] (f p0) (λx=>.agg (kK x.1)) (λx=>[.box (y x.2)])
abbrev yP (f:L->aG (bh×L)):Prop:=∀ p0,CT Pq 267 [.ptr 0 0] [.box (y p0)] (f p0) (λx=>.agg (kK x.1)) (λx=>[.box (y x.2)])
abbrev sU (f:L->aG (bh×L)):Prop:=∀ p0,CT Pq 226 [.ptr 0 0] [.box (y p0)] (f p0) (λx=>.agg (kK x.1)) (λx=>[.box (y x.2)])
abbrev se (f:(List bh)->L->aG ((List bh)×L)):Prop:=∀ p0 p1,CT Pq 252 [.ptr 0 0,.ptr 1 0] [.box [.arr 2 p0.length],.box [.ptr 3 0],.arr 156 6 (bh.Cs p0),.box (y p1)] (f p0 p1) (λ_=>.lM []) (λx=>[.box [.arr 2 x.1.length],.box [.ptr 3 0],.arr 156 6 (bh.Cs x.1),.box (y x.2)])
abbrev xT (f:L->aG (bh×L)):Prop:=∀ p0,CT Pq 279 [.ptr 0 0] [.box (y p0)] (f p0) (λx=>.agg (kK x.1)) (λx=>[.box (y x.2)])
abbrev xU (f:L->aG (bh×L)):Prop:=∀ p0,CT Pq 253 [.ptr 0 0] [.box (y p0)] (f p0) (λx=>.agg (kK x.1)) (λx=>[.box (y x.2)])
class cN (T:cO):Prop where
 dZ:td T.dZ
 jA:yP T.jA
 ez:sU T.ez
 dP:se T.dP
 iV:xT T.iV
 iW:xU T.iW
attribute [instance] cN.dZ cN.jA cN.ez cN.dP cN.iV cN.iW
theorem yy (n:Nat) (T:cO) [hT:cN T]:td (gx n T):=λp0=>by unfold gx;exact zz 0 Tryz.func190
theorem Ew (n:Nat) (T:cO) [hT:cN T]:yP (lQ n T):=λp0=>by unfold lQ;exact zz 1 Tryz.func267
theorem xV (n:Nat) (T:cO) [hT:cN T]:sU (gb n T):=λp0=>by unfold gb;exact zz 0 Tryz.func226
theorem wV (n:Nat) (T:cO) [hT:cN T]:se (fI n T):=λp0 p1=>by unfold fI;exact zz 0 Tryz.func252
theorem Du (n:Nat) (T:cO) [hT:cN T]:xT (kQ n T):=λp0=>by unfold kQ;exact zz 1 Tryz.func279
theorem Dv (n:Nat) (T:cO) [hT:cN T]:xU (kR n T):=λp0=>by unfold kR;exact zz 1 Tryz.func253
theorem nb:∀ n,cN (bG n)
 | 0=>by constructor<;>(repeat intro)<;>exact rh
 | n+1=>have:=nb n;⟨yy n _,Ew n _,xV n _,wV n _,Du n _,Dv n _⟩
attribute [instance] nb
def oG (n:Nat) (b:ByS):aG (bh×cZ):=
 br (decide ((b.length:Int)>1000)) (.ok (bh.mk 0 0 0 0 0 [],cZ.mk 2 0)) (Ar (ag (dZ n (L.mk b 0)) λa=>jn (λ(i:L)=>ag (xS n a.1) λg=>br (g==9) (.ok (bh.mk 0 0 0 0 0 [],cZ.mk 9 0)) (.ok (a.1,cZ.mk 0 0))) λc=>br (decide (a.2.bB<b.length)) (ag (eF a.2.bB a.2) λh=>c h) (c a.2)) (λe=>HU 188 e λf=>ag (rq f) λd=>.ok (d.1,d.2)))
instance ı (n:Nat) (p0:ByS):CT Pq 144 [eu p0] [] (oG n p0) (λx=>.lM [.agg (kK x.1),.agg [I x.2.dX,I x.2.At]]) (λ_=>[]):=by
 refine EZ Tryz.func144 O O λr h hr E hE=>?_;refine bz λ_ Hn=>bp (gH 102 (hE _ O) O4 O ?_);refine gH 103 (hE _ O) O4 O ?_;refine zQ Hn (bz λ_ Ot=>bz λ_ hK3=>bp (zm O (et (Kk O) O (zc O (zQ hK3 (zB O h (λ_ h=>?_) λ_ h=>?_))))))
 ·refine bz λ_ XP=>bp (et E9 O ?_);refine et Dq O ?_;refine zs O (zs O (zQ XP (nA (CH 102 O O) ?_)));exact rK (I4 (n:=Tryz.f144.ntmps) (.inl O) adK)
 refine lZ (Ot _ _ (bz λ_ hK6=>bp (zm O (et Dq O ?_))));refine HL 112 (hE _ O) O7 O ?_;refine gH 104 (hE _ O) O4 O ?_;refine zs O (zQ hK6 (bz λ_ hK7=>bp (et (Kp O O) O ?_)));refine Oh O ?_;have hrO:=hr;obtain ⟨r,hr,h,hc⟩:=Jj hr h;refine zQ hK7 (bz λ_ XS=>bp (zl O (BD hr h [112] Tryz.call190 ((nb n).dZ (L.mk p0 0)) ⟨O,O,O,O,O,O,trivial⟩ O O (λ_=>O3) (λ_=>O2) O (λp hp=>?_) (λy9 h=>?_))))
 ·exact yC3
 refine zs O (zQ XS (zM h (λ(v10:L)=>[(0,eu p0),(2,.ptr 102 0),(3,.ptr 103 0)]) (λ(v10:L)=>[(102,.box (kK y9.1)),(103,.box [I 0,I 0]),(104,.box [.ptr 112 0]),(112,.box (y v10))]) (λv10 h=>?_) λ_ _ L3 h=>?_))
 ·refine bz λ_ Ov=>bz λ_ L4=>bp (zA O ?_);refine BD hr h [] Tryz.call192 (L2 n y9.1) ⟨O,O,O,O,O,O,trivial⟩ O O (λ_=>O3) (λ_=>O2) O (λp hp=>?_) (λy15 h=>?_)
  ·exact yC3
  refine zc O (zQ L4 (zB O h (λ_ h=>?_) λ_ h=>?_))
  ·refine bz λ_ IS=>bp (et E9 O ?_);refine et Dq O ?_;refine zs O (zs O (zQ IS (nA (CH 102 O O) ?_)));refine rK (vg (n:=Tryz.f144.ntmps) (.inl O) [104,102,103,112] Tryz.call189 (w6 [.box [.ptr 3 0],.box [I 0,Sc (.int .u64 0),Sc (.int .u64 0),Sc (.int .u64 0),Sc (.int .u64 0),.pv (.sl (List.length ([]:List bh)) (bh.Cs []))],.box [I 9,I 0],.box (y v10)]) ⟨O,O,O,O⟩ O O ?_);exact W2
  refine lZ (Ov _ _ (bz λ_ NG=>bp (zA O ?_)));refine et Dq O ?_;refine zs O (zs O (zQ NG (rK (vg (n:=Tryz.f144.ntmps) (.inl O) [104,102,103,112] Tryz.call189 (w6 [.box [.ptr 3 0],.box (kK y9.1),.box [I 0,I 0],.box (y v10)]) ⟨O,O,O,O⟩ O O ?_))));exact W2
 refine bz λ_ hK20=>bp (zl O (zn O (zf O (zl O (zm O (et (Kk O) O (zc O (zQ hK20 (zB O h (λ_ h=>?_) λ_ h=>?_)))))))))
 ·refine sb [0,1,2,3,4,5] O (by kernel_rfl) (zD O E8 O (zD O E8 O (zD O (Kj O) O (zD O (Ef O) O (zD O E8 O (ae1 O (w4 O) O hr h [112] Tryz.call191 (Fk y9.2.bB y9.2) ⟨O,O,O,O,O,O,trivial⟩ O O (λ_=>O3) (λ_=>O2) O (λp hp=>?_) (λy22 h=>?_)))))))
  ·exact yC3
  exact An (L3 _ _ _ h O)
 exact lZ (L3 _ _ _ h O)
def mM (n:Nat) (f:D) (a:aK):aG (D×aK):=
 gV 0 [0,1] [0,1] (λ_=>[]) (λc=>[(2,.box (F c.1)),(3,.box (qo c.2))]) (λ(c:D×aK)=>gd (cD (c.1.bB+1)) (ag (cz n [93] (D.mk c.1.bM c.1.M (c.1.bB+1) c.1.base c.1.skip c.1.Z)) λi=>.ok (i,c.2))) λe=>ag (di n [61,126] f) λd=>br d.1 (jg 7 (ag (bq n d.2) λb=>ag (oG n b.1.bJ) λg=>br (g.2.dX !=0) (ag (bY n (D.mk b.2.bM b.2.M b.2.bB d.2.base b.2.skip b.2.Z)) λh=>e (h,aK.mk a.an a.cS b.1.bJ a.B a.bE a.bF a.jf a.J a.oO a.iG a.cG)) (e (D.mk b.2.bM b.2.M b.2.bB d.2.base b.2.skip b.2.Z,aK.mk a.an a.cS b.1.bJ a.B a.bE a.bF a.jf a.J a.oO a.iG a.cG)))) (e (d.2,a))
instance LD (n:Nat) (p0:D) (p1:aK):CT Pq 185 [.ptr 0 0,.ptr 1 0] [.box [.ptr 2 0],.box [.ptr 3 0],.box (F p0),.box (qo p1)] (mM n p0 p1) (λ_=>.lM []) (λx=>[.box [.ptr 2 0],.box [.ptr 3 0],.box (F x.1),.box (qo x.2)]):=by unfold mM;exact zz 0 Tryz.func185
def mN (n:Nat) (c:Bool) (a:D) (d:aK):aG (D×aK):=
 ag (mM n (D.mk a.bM a.M a.bB a.base c a.Z) d) λb=>.ok (D.mk b.1.bM b.1.M b.1.bB b.1.base a.skip b.1.Z,b.2)
instance Ow (n:Nat) (p0:Bool) (p1:D) (p2:aK):CT Pq 184 [.ptr 0 0,Bo p0,.fn 185 [] [.ptr 1 0,.ptr 2 0]] [.box (F p1),.box [.ptr 0 0],.box [.ptr 3 0],.box (qo p2)] (mN n p0 p1 p2) (λ_=>.lM []) (λx=>[.box (F x.1),.box [.ptr 0 0],.box [.ptr 3 0],.box (qo x.2)]):=by unfold mN;exact MF
def kS (n:Nat) (c:D):aG (Bool×D):=
 ag (bq n c) λa=>br (a.1.an==0) (.ok (true,D.mk a.2.bM a.2.M a.2.bB c.base a.2.skip a.2.Z)) (ag (bq n (D.mk a.2.bM a.2.M a.2.bB c.base a.2.skip a.2.Z)) λb=>ag (eg b.1 [125]) λd=>.ok (d,D.mk b.2.bM b.2.M b.2.bB c.base b.2.skip b.2.Z))
instance RH (n:Nat) (p0:D):CT Pq 86 [.ptr 0 0] [.box (F p0)] (kS n p0) (λx=>Bo x.1) (λx=>[.box (F x.2)]):=by unfold kS;exact zz 0 Tryz.func86
def iH (n:Nat) (c:Int) (a:D):aG (Bool×D):=
 dG [0,1] [0] (λb=>[(5,I b)]) (λ_=>[]) (λf (b:Int)=>br (decide (b<a.bB)) (el a.M b λg=>ag (eg g [44]) λh=>br (!h) (.ok (false,a)) (gd (cD (b+1)) (f (b+1)))) (jg 28 (gd (cD (c - 1)) (el a.M (c - 1) λd=>el a.M a.bB λe=>gd ((0:Int)<=d.oZ/\(d.oZ:Int)<=e.cG/\e.cG<=(a.bM.length:Int)) (ag (strings_Contains (sub a.bM d.oZ e.cG) ([10]:ByS)) λi=>.ok ((!i),a)))))) n c
instance Ox (n:Nat) (p0:Int) (p1:D):CT Pq 87 [.ptr 0 0,I p0] [.box (F p1)] (iH n p0 p1) (λx=>Bo x.1) (λx=>[.box (F x.2)]):=by unfold iH;exact zz 0 Tryz.func87
def wg (a:Int):aG (ak×Bool):=
 .ok (ak.mk 0 [] 0 [] [] [] [] [] 0,false)
def Fm (v:Int):Xs Pq 309 [.ptr 0 0,.ptr 1 0] [.box [.any,.any,.any,.any,.any,.any,.any,.any,.any],.box [.any]] (some (.iface 71 (.agg #[.int .i64 v]))) (wg v) (λx=>[.box (Q x.1),.box [Bo x.2]]):=by
 refine xN (m:=some (.iface 71 (.agg #[.int .i64 v]))) (mv:=.vu 71 (.agg [I v])) (λg=>.vu 71 (.agg (.cons (.pv (.sc _)) .nil))) Tryz.func309 O O O λr h hr E hE=>?_;refine bz λ_ Hn=>bp (zm O (et (Hv O O) O (zQ Hn (GB O (λhc=>?_) (λhc=>?_)))))
 ·refine bp (et E9 O ?_);refine zs O (zs O (lD (CH 0 O O) ?_));exact rJ (Hx (.inr O) _ h.symm ⟨O,O,trivial⟩)
 exact MJ
def Dw (es:List cQ):Xs Pq 309 [.ptr 0 0,.ptr 1 0] es none (aG.ok ()) (λ_=>es):=by
 refine xN (m:=none) (mv:=Sc .nilIface) (λg=>.pv (.sc _)) Tryz.func309 O O O λr h hr E hE=>?_;exact yC7
def uI (a:aB):aG (Bool):=
 .ok ((a.an==6))
instance YF (p0:aB):CT Pq 307 [.agg (na p0)] [] (uI p0) (λx=>Bo x) (λ_=>[]):=by unfold uI;exact zz 0 Tryz.func307
def jo (n:Nat) (b:(List aB)):aG (Int):=
 dG [0,1,7] [] (λa=>[(8,I a)]) (λ_=>[]) (λc (a:Int)=>br (decide (a<b.length)) (el b a λd=>ag (uI d) λe=>br e (.ok a) (gd (cD (a+1)) (c (a+1)))) (.ok ((-1)))) n 0
instance IT (n:Nat) (p0:(List aB)):CT Pq 312 [Er p0,.fn 307 [] []] [] (jo n p0) (λx=>I x) (λ_=>[]):=by unfold jo;exact zz 0 Tryz.func312
def fM (n:Nat) (a:(List aB)):aG (Bool):=
 ag (jo n a) λb=>.ok ((decide (b>=0)))
instance wW (n:Nat) (p0:(List aB)):CT Pq 308 [Er p0,.fn 307 [] []] [] (fM n p0) (λx=>Bo x) (λ_=>[]):=by unfold fM;exact zz 0 Tryz.func308
def eR (b:Int) (d:ByS) (c:Int) (a:ey):aG (ey):=
 Cz 23 (gd (cD (a.bB+c)) (gd (ob 40 a.out.length (List.length [aB.mk b d a.bB (a.bB+c)])) (jU [[1,127,1],[0,1,2,3],[0]] (gd (cD (a.bB+c)) (br (b==6) (.ok ((ey.mk a.bM (a.bB+c) (a.out++[aB.mk b d a.bB (a.bB+c)]) a.line))) (gV 0 [0,1,2,3] [0,1] (λf=>[(52,Bo f)]) (λ_=>[]) (λ(f:Bool)=>br f (.ok ((ey.mk a.bM (a.bB+c) (a.out++[aB.mk b d a.bB (a.bB+c)]) true))) (br (b==5) (gd (BR ([32]:ByS) d) (gd (BR (([32]:ByS)++d) ([32]:ByS)) (ag (strings_Contains ([32,95,124,95,32,95,32,46,46,46,32,41,32,93,32,125,32,63,32]:ByS) ((([32]:ByS)++d)++([32]:ByS))) λg=>.ok ((ey.mk a.bM (a.bB+c) (a.out++[aB.mk b d a.bB (a.bB+c)]) g))))) (.ok ((ey.mk a.bM (a.bB+c) (a.out++[aB.mk b d a.bB (a.bB+c)]) false))))) λe=>br (b==1) (e ((b==1))) (br (b==2) (e ((b==2))) (br (b==3) (e ((b==3))) (e ((b==4)))))))))))
instance SV (p0:Int) (p1:ByS) (p2:Int) (p3:ey):CT Pq 35 [.ptr 0 0,I p0,eu p1,I p2] [.box [eu p3.bM,I p3.bB,.arr 1 p3.out.length,Bo p3.line],.app 62 4 (aB.Cs p3.out)] (eR p0 p1 p2 p3) (λ_=>.lM []) (λx=>[.box [eu x.bM,I x.bB,.arr 1 x.out.length,Bo x.line],.app 62 4 (aB.Cs x.out)]):=by unfold eR;exact zz 0 Tryz.func35
def stringslite_HasPrefix (b:ByS) (a:ByS):aG (Bool):=
 br (decide ((b.length:Int)>=(a.length:Int))) (gd ((0:Int)<=(a.length:Int)/\(a.length:Int)<=(b.length:Int)) (.ok (((sd b (a.length:Int))==a)))) (.ok false)
instance Nk (p0:ByS) (p1:ByS):CT Pq 118 [eu p0,eu p1] [] (stringslite_HasPrefix p0 p1) (λx=>Bo x) (λ_=>[]):=by unfold stringslite_HasPrefix;exact zz 0 Tryz.func118
def strings_HasPrefix (a:ByS) (b:ByS):aG (Bool):=
 ag (stringslite_HasPrefix a b) λc=>.ok c
instance Fo (p0:ByS) (p1:ByS):CT Pq 76 [eu p0,eu p1] [] (strings_HasPrefix p0 p1) (λx=>Bo x) (λ_=>[]):=by unfold strings_HasPrefix;exact zz 0 Tryz.func76
def oH (a:Int):aG (Bool):=
 br (decide (a>=48)) (.ok ((decide (a<=57)))) (.ok false)
instance Ĳ (p0:Int):CT Pq 79 [Sc (.int .u8 p0)] [] (oH p0) (λx=>Bo x) (λ_=>[]):=by unfold oH;exact zz 0 Tryz.func79
def sN (n:Nat) (d:ByS):aG (Int):=
 gV 2 [0] [] (λa=>[(3,I a)]) (λ_=>[]) (λ(a:Int)=>gV 1 [0,3] [] (λf=>[(33,Bo f)]) (λ_=>[]) (λ(f:Bool)=>br f (gd (cD (a+1)) (dG [0] [] (λb=>[(3,I b)]) (λ_=>[]) (λl (b:Int)=>br (decide (b<d.length)) (el d b λh=>ag (oH (h.toNat:Int)) λo=>br o (gd (cD (b+1)) (l (b+1))) (.ok b)) (.ok b)) n (a+1))) (.ok a)) λe=>gd (cD (a+1)) (br (decide ((a+1)<(d.length:Int))) (el d a λi=>br ((i.toNat:Int)==46) (gd (cD (a+1)) (el d (a+1) λj=>ag (oH (j.toNat:Int)) λp=>e p)) (e false)) (e false))) λg=>dG [0] [] (λc=>[(3,I c)]) (λ_=>[]) (λm (c:Int)=>br (decide (c<d.length)) (el d c λk=>ag (oH (k.toNat:Int)) λq=>br q (gd (cD (c+1)) (m (c+1))) (g c)) (g c)) n 0
instance Ξ (n:Nat) (p0:ByS):CT Pq 80 [eu p0] [] (sN n p0) (λx=>I x) (λ_=>[]):=by unfold sN;exact zz 0 Tryz.func80
def qt (n:Nat) (g:ByS):aG (ByS):=
 dG [0,7,8] [] (λb=>[(9,I b)]) (λ_=>[]) (λf (b:Int)=>br (decide (b<(List.length [([95,124,95,32,46,46,46]:ByS),([61,61,32,33,61,32,60,61,32,62,61,32,61,126,32,33,126,32,38,38,32,124,124]:ByS),([95,32,40,32,41,32,91,32,93,32,123,32,125,32,58,32,44,32,46,32,63,32,33,32,42,32,38,32,124,32,61,32,60,32,62,32,43,32,45,32,47,32,37]:ByS)]:Int))) (el [([95,124,95,32,46,46,46]:ByS),([61,61,32,33,61,32,60,61,32,62,61,32,61,126,32,33,126,32,38,38,32,124,124]:ByS),([95,32,40,32,41,32,91,32,93,32,123,32,125,32,58,32,44,32,46,32,63,32,33,32,42,32,38,32,124,32,61,32,60,32,62,32,43,32,45,32,47,32,37]:ByS)] b λh=>ag (strings_Split h ([32]:ByS)) λd=>dG [0,7,8,9,14,15] [] (λa=>[(16,I a)]) (λ_=>[]) (λe (a:Int)=>br (decide (a<d.length)) (el d a λc=>ag (strings_HasPrefix g c) λi=>br i (.ok c) (gd (cD (a+1)) (e (a+1)))) (gd (cD (b+1)) (f (b+1)))) n 0) (.ok (([]:ByS)))) n 0
instance XT (n:Nat) (p0:ByS):CT Pq 83 [eu p0] [] (qt n p0) (λx=>eu x) (λ_=>[]):=by unfold qt;exact zz 0 Tryz.func83
def eV (a:Int):aG (Int):=
 .ok (Cy .u8 a 32)
instance YG (p0:Int):CT Pq 240 [Sc (.int .u8 p0)] [] (eV p0) (λx=>Sc (.int .u8 x)) (λ_=>[]):=by unfold eV;exact zz 0 Tryz.func240
end Go.Abs
