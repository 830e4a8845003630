/- PROVED: lemmas for ParserFiles. CONDITIONS: as stated. -/
import Derived.Test.YtlfolpjenfkhiaaGreatDoorW2
set_option linter.all false
namespace Go.Abs
open Go.Proofs Go.Proofs.Tryz aI
set_option maxRecDepth 100000
set_option maxHeartbeats 2000000
section
variable (n:Nat)
def qC (a:si):aI (dH):=
 .ok ((dH.mk 8 a.bO))
instance I9 (p0:si):CT Pq 14 [.vV 71 (.agg [I p0.bO])] [] (qC p0) (λx=>.agg [I x.eU,I x.At]) (λ_=>[]):=by unfold qC;exact zz 0 func14
def HR (p0:si):NP (qC p0):=by
 unfold qC;(repeat (first|assumption|exact NP.ok _|exact uh|refine NP.br ?_ ?_|refine NP.gd ?_|refine NP.el λ_=>?_|refine NP.some? λ_=>?_|refine NP.bind ?_ λ_=>?_|refine NP.jn (λ_ _=>?_) (λ_=>?_)|refine NP.iter (λ_ _ _=>?_) _ _|apply_assumption))
def BN (a:Int):aI (ak×dH):=
 ag (qC (si.mk a)) λb=>.ok (ak.mk 0 [] 0 [] [] [] [] [] 0,b)
def FA (v:Int):XM Pq 23 [.ptr 0 0,.ptr 1 0] [.box [.any,.any,.any,.any,.any,.any,.any,.any,.any],.box [.any,.any]] (some (.iface 71 (.agg #[.int .i64 v]))) (BN v) (λx=>[.box (Q x.1),.box [I x.2.eU,I x.2.At]]):=by
 refine yf (m:=some (.iface 71 (.agg #[.int .i64 v]))) (mv:=.vV 71 (.agg [I v])) (λg=>.vV 71 (.agg (.cons (.pv (.sc _)) .nil))) func23 O O O λr h hr E hE=>?_;exact yC7
def xu (es:List cV):XM Pq 23 [.ptr 0 0,.ptr 1 0] es none (aI.ok ()) (λ_=>es):=by
 refine yf (m:=none) (mv:=Sc .nilIface) (λg=>.pv (.sc _)) func23 O O O λr h hr E hE=>?_;exact yC6
def ez (a:aC) (b:ByS):aI (Bool):=
 br (a.aq==5) (.ok ((a.bM==b))) (.ok false)
instance R2 (p0:aC) (p1:ByS):CT Pq 63 [.agg (nL p0),eu p1] [] (ez p0 p1) (λx=>Bo x) (λ_=>[]):=by unfold ez;exact zz 0 func63
def bq (c:D):aI (aC×D):=
 iu 1 [0,2] [102] (λ_=>[]) (λb=>[(0,.box [eu b.cP,EP b.oh,I b.bO,I c.base,Bo b.skip,.pv (.pt (Option.map ak.C b.iO))])]) (λ(b:D)=>ji 11 (el b.oh b.bO λg=>.ok (g,pB b c))) λd=>dz [0,2] [102] (λ_=>[]) (λa=>[(0,.box [eu a.cP,EP a.oh,I a.bO,I c.base,Bo a.skip,.pv (.pt (Option.map ak.C a.iO))])]) (λe (a:D)=>ji 18 (br a.skip (el a.oh a.bO λf=>br (f.aq==7) (gd (cD (a.bO+1)) (e ((pM a c)))) (d ((pB a c)))) (d ((pB a c))))) n c
instance sA (p0:D):CT Pq 25 [.ptr 0 0] [.box (F p0)] (bq n p0) (λx=>.agg (nL x.1)) (λx=>[.box [eu x.2.cP,EP x.2.oh,I x.2.bO,I p0.base,Bo x.2.skip,.pv (.pt (Option.map ak.C x.2.iO))]]):=by unfold bq pB pM;exact zz 0 func25
def EU (p0:D):NP (bq n p0):=by
 unfold bq;(repeat (first|assumption|exact NP.ok _|exact uh|refine NP.br ?_ ?_|refine NP.gd ?_|refine NP.el λ_=>?_|refine NP.some? λ_=>?_|refine NP.bind ?_ λ_=>?_|refine NP.jn (λ_ _=>?_) (λ_=>?_)|refine NP.iter (λ_ _ _=>?_) _ _|apply_assumption))
def dq (c:ByS) (b:D):aI (Bool×D):=
 ag (bq n b) λa=>ag (ez a.1 c) λd=>br (!d) (.ok (false,pB a.2 b)) (gd (cD (a.2.bO+1)) (.ok (true,pM a.2 b)))
instance OS (p0:ByS) (p1:D):CT Pq 67 [.ptr 0 0,eu p0] [.box (F p1)] (dq n p0 p1) (λx=>Bo x.1) (λx=>[.box (F x.2)]):=by unfold dq pB pM;exact zz 0 func67
def slices_Index_string (b:(List ByS)) (d:ByS):aI (Int):=
 dz [0,1,7] [] (λa=>[(8,I a)]) (λ_=>[]) (λc (a:Int)=>br (decide (a<b.length)) (el b a λe=>br (d==e) (.ok a) (gd (cD (a+1)) (c (a+1)))) (.ok ((-1)))) n 0
instance P7 (p0:(List ByS)) (p1:ByS):CT Pq 142 [yi p0,eu p1] [] (slices_Index_string n p0 p1) (λx=>I x) (λ_=>[]):=by unfold slices_Index_string;exact zz 0 func142
def slices_Contains_string (a:(List ByS)) (b:ByS):aI (Bool):=
 ag (slices_Index_string n a b) λc=>.ok ((decide (c>=0)))
instance Mx (p0:(List ByS)) (p1:ByS):CT Pq 90 [yi p0,eu p1] [] (slices_Contains_string n p0 p1) (λx=>Bo x) (λ_=>[]):=by unfold slices_Contains_string;exact zz 0 func90
def nZ (a:aC) (b:ByS):aI (Bool):=
 vi [0,1,2,3,4,6,7,5,8,9,10] (br (a.aq==5) (ag (strings_Split b ([32]:ByS)) λc=>ag (slices_Contains_string n c a.bM) λd=>.ok d) (.ok false))
instance Á (p0:aC) (p1:ByS):CT Pq 132 [.agg (nL p0),eu p1] [] (nZ n p0 p1) (λx=>Bo x) (λ_=>[]):=by unfold nZ;exact zz 0 func132
def qL (a:Int):aI (ByS):=
 br (a==0) (.ok (([124,124]:ByS))) (br (a==1) (.ok (([38,38]:ByS))) (br (a==2) (.ok (([61,61,32,33,61,32,60,32,60,61,32,62,32,62,61]:ByS))) (br (a==3) (.ok (([43,32,45]:ByS))) (.ok (([42,32,47,32,37]:ByS))))))
instance T7 (p0:Int):CT Pq 207 [I p0] [] (qL p0) (λx=>eu x) (λ_=>[]):=by unfold qL;exact zz 0 func207
def j8 (a:Int) (b:D):aI (D):=
 .ry ⟨71,[.sc (.int .i64 a)]⟩
instance R3 (p0:Int) (p1:D):CT Pq 68 [.ptr 0 0,I p0] [.box (F p1)] (j8 p0 p1) (λ_=>.mE []) (λx=>[.box (F x)]):=by unfold j8;exact zz 0 func68
structure oW where
 cE:ak->Int->D->aI (ak×D)
def gV (f:oW) (a:ak) (e:Int) (i:D):aI (ak×D):=
 br (a.aq==16) (vi [0,1,2,3,4,5,7,8,9,10,11,12,6,13,14,15,16] (el a.bK 0 λt=>el a.bK 1 λr=>ag (f.cE t e i) λm=>ag (f.cE r e m.2) λo=>.ok (ak.mk a.aq a.bM a.U a.B a.bT [m.1,o.1] a.fi a.J a.cN,o.2))) (br (a.aq==13) (jk [[3,7,10007,11,43]] (dz [0,1,2,4,6,34,35] [104,106] (λc=>[(7,.arr 10007 c.2.1.length),(36,I c.2.2)]) (λc=>[(0,.box (F c.1)),(10007,.app 43 11 (aK.Cs c.2.1))]) (λq (c:D×(List aK)×Int)=>br (decide (c.2.2<a.fi.length)) (el a.fi c.2.2 λb=>iu 2 [0,1,2,4,6,7,9,34,35,36] [104,106,10007] (λ_=>[]) (λd=>[(0,.box (F d.1)),(109,.box (rD d.2))]) (λ(d:D×aK)=>gd (nP 184 c.2.1.length (List.length [d.2])) (jk [[1,164,10007],[0,1,2,4,6,7,34,35,36],[0,104,106]] (gd (cD (c.2.2+1)) (q (d.1,c.2.1++[d.2],c.2.2+1))))) λg=>iu 1 [0,1,2,4,6,7,9,34,35,36,41] [0,104,106,109,10007] (λj=>[(42,Bo j)]) (λ_=>[]) (λ(j:Bool)=>br j (ag (j8 e c.1) λu=>g (u,b)) (iu 0 [0,1,2,4,6,7,9,34,35,36] [0,104,106,109,10007] (λk=>[(48,Bo k)]) (λ_=>[]) (λ(k:Bool)=>br k (el b.bK 0 λs=>ag (f.cE s e c.1) λp=>g (p.2,dS b b.aq [p.1])) (g (c.1,b))) λh=>br (b.aq==1) (h ((b.aq==1))) (br (b.aq==2) (h ((b.aq==2))) (h ((b.aq==3)))))) λl=>br (b.aq==4) (l ((b.aq==4))) (l ((b.aq==8)))) (oj [[22,66]] (.ok (ak.mk 22 a.bM a.U a.B a.bT a.bK c.2.1 a.J a.cN,c.1)))) n (i,[],0))) (.ok (a,i)))
def fm:Nat->oW
 | 0=>⟨λ_ _ _=>.stuck⟩
 | n+1=>⟨gV n (fm n)⟩
abbrev cE:=(fm n).cE
abbrev wI (f:ak->Int->D->aI (ak×D)):Prop:=∀ p0 p1 p2,CT Pq 65 [.ptr 0 0,.agg (Q p0),I p1] [.box (F p2)] (f p0 p1 p2) (λx=>.agg (Q x.1)) (λx=>[.box (F x.2)])
class qS (T:oW):Prop where
 cE:wI T.cE
attribute [instance] qS.cE
theorem CK (T:oW) [hT:qS T]:wI (gV n T):=λp0 p1 p2=>by unfold gV dS;exact zz 0 func65
theorem pV:∀ n,qS (fm n)
 | 0=>by constructor<;>(repeat intro)<;>exact rU
 | n+1=>have:=pV n;⟨CK n _⟩
attribute [instance] pV
def dc (b:D):aI (Int×D):=
 ji 9 (ag (bq n b) λa=>gd (cD (b.base+a.1.cN)) (.ok (b.base+a.1.cN,pB a.2 b)))
instance FI (p0:D):CT Pq 66 [.ptr 0 0] [.box (F p0)] (dc n p0) (λx=>I x.1) (λx=>[.box (F x.2)]):=by unfold dc pB;exact zz 0 func66
def n7 (a:Int):aI (Bool):=
 br (decide (a>=97)) (br (decide (a<=122)) (.ok true) (br (decide (a>=65)) (.ok ((decide (a<=90)))) (.ok false))) (br (decide (a>=65)) (.ok ((decide (a<=90)))) (.ok false))
instance Â (p0:Int):CT Pq 91 [Sc (.int .u8 p0)] [] (n7 p0) (λx=>Bo x) (λ_=>[]):=by unfold n7;exact zz 0 func91
def dO (b:ByS):aI (Bool):=
 br (decide ((b.length:Int)>32)) (.ok false) (ag (slices_Contains_string n [([110,117,108,108]:ByS),([116,114,117,101]:ByS),([102,97,108,115,101]:ByS),([98,111,111,108]:ByS),([105,110,116]:ByS),([110,117,109,98,101,114]:ByS),([115,116,114,105,110,103]:ByS),([108,101,116]:ByS),([105,102]:ByS),([102,111,114]:ByS),([105,110]:ByS),([112,97,99,107,97,103,101]:ByS),([105,109,112,111,114,116]:ByS)] b) λp=>br p (.ok false) (jnF 0 (λc=>[(0,eu c)]) (λc=>[]) (λ(c:ByS)=>br ((c.length:Int)==0) (.ok false) (el c 0 λf=>ag (n7 (f.toNat:Int)) λm=>br (!m) (.ok false) (dz [0,39] [] (λa=>[(40,I a)]) (λ_=>[]) (λe (a:Int)=>br (decide (a<c.length)) (el c a λg=>ag (n7 (g.toNat:Int)) λo=>br (!o) (el c a λh=>br ((h.toNat:Int) !=95) (el c a λi=>br (decide ((i.toNat:Int)<48)) (.ok false) (el c a λj=>br (decide ((j.toNat:Int)>57)) (.ok false) (gd (cD (a+1)) (e (a+1))))) (gd (cD (a+1)) (e (a+1)))) (gd (cD (a+1)) (e (a+1)))) (.ok true)) n 0))) λd=>br (decide ((b.length:Int)>0)) (el b 0 λk=>br ((k.toNat:Int)==35) (gd ((0:Int)<=1/\1<=(b.length:Int)) (d (gL b 1))) (el b 0 λl=>br ((l.toNat:Int)==95) (gd ((0:Int)<=1/\1<=(b.length:Int)) (d (gL b 1))) (d b))) (d b)))
instance ĺ (p0:ByS):CT Pq 44 [eu p0] [] (dO n p0) (λx=>Bo x) (λ_=>[]):=by unfold dO;exact zz 0 func44
def o9 (a:aC):aI (Bool):=
 br (a.aq==3) (.ok true) (br (a.aq==1) (ag (dO n a.bM) λb=>.ok b) (.ok false))
instance X8 (p0:aC):CT Pq 131 [.agg (nL p0)] [] (o9 n p0) (λx=>Bo x) (λ_=>[]):=by unfold o9;exact zz 0 func131
def mB (a:Int):aI (Bool):=
 br (decide (a>=(-1000000000000000))) (.ok ((decide (a<=1000000000000000)))) (.ok false)
instance Ļ (p0:Int):CT Pq 122 [I p0] [] (mB p0) (λx=>Bo x) (λ_=>[]):=by unfold mB;exact zz 0 func122
def vO (a:Int):aI (Int):=
 br (decide (a<0)) (.ok (IntKind.wrap .u64 (IntKind.wrap .i64 (0 - a)))) (.ok (IntKind.wrap .u64 a))
instance aa9 (p0:Int):CT Pq 176 [I p0] [] (vO p0) (λx=>Sc (.int .u64 x)) (λ_=>[]):=by unfold vO;exact zz 0 func176
def vP (d:Int):aI (ByS):=
 ag (mB d) λl=>br (!l) (.ok (([63]:ByS))) (ag (vO d) λi=>gd ((10000:Int)≠0) (ag (oN (IntKind.wrap .u64 (Int.tdiv i 10000)) 10) λe=>iu 0 [0,3] [] (λc=>[(4,eu c)]) (λ_=>[]) (λ(c:ByS)=>gd ((10000:Int)≠0) (ag (oN (IntKind.wrap .u64 ((Int.tmod i 10000)+10000)) 10) λh=>gd ((0:Int)<=1/\1<=(h.length:Int)) (iu 0 [0,4] [] (λb=>[(5,eu b)]) (λ_=>[]) (λ(b:ByS)=>br (b !=([]:ByS)) (gd (Bp ([46]:ByS) b) (gd (Bp c (([46]:ByS)++b)) (.ok (c++(([46]:ByS)++b))))) (.ok c)) λg=>dz [0,4] [] (λa=>[(5,eu a)]) (λ_=>[]) (λk (a:ByS)=>br (decide ((a.length:Int)>0)) (gd (cD ((a.length:Int) - 1)) (el a ((a.length:Int) - 1) λj=>br ((j.toNat:Int)==48) (gd (cD ((a.length:Int) - 1)) (gd ((0:Int)<=((a.length:Int) - 1)/\((a.length:Int) - 1)<=(a.length:Int)) (k (sI a ((a.length:Int) - 1))))) (g a))) (g a)) n (gL h 1)))) λf=>br (decide (d<0)) (gd (Bp ([45]:ByS) e) (f (([45]:ByS)++e))) (f e)))
instance aa_ (p0:Int):CT Pq 123 [I p0] [] (vP n p0) (λx=>eu x) (λ_=>[]):=by unfold vP;exact zz 0 func123
def nj (b:ByS):aI (Int×Int):=
 br (decide ((b.length:Int)>20)) (.ok (0,8)) (iu 1 [0] [] (λd=>[(4,eu d.1),(5,eu d.2)]) (λ_=>[]) (λ(d:ByS×ByS)=>dz [0,4] [] (λc=>[(5,eu c)]) (λ_=>[]) (λh (c:ByS)=>br (decide ((c.length:Int)<4)) (gd (Bp c ([48]:ByS)) (h (c++([48]:ByS)))) (br (decide ((c.length:Int)>4)) (.ok (0,8)) (gd (Bp d.1 c) (ag (uG (d.1++c) 10 64) λe=>br e.2 (.ok (0,8)) (ag (mB e.1) λj=>br (!j) (.ok (0,8)) (ag (vP n e.1) λk=>br (k !=b) (.ok (0,8)) (.ok (e.1,0)))))))) n d.2) λf=>dz [0,4,5,14] [] (λa=>[(15,I a)]) (λ_=>[]) (λi (a:Int)=>br (decide (a<b.length)) (el b a λg=>br ((g.toNat:Int)==46) (ji 9 (gd ((0:Int)<=a/\a<=(b.length:Int)) (gd (cD (a+1)) (gd ((0:Int)<=(a+1)/\(a+1)<=(b.length:Int)) (f (sI b a,gL b (a+1))))))) (gd (cD (a+1)) (i (a+1)))) (f (b,([]:ByS)))) n 0)
instance ļ (p0:ByS):CT Pq 81 [eu p0] [] (nj n p0) (λx=>.mE [I x.1,I x.2]) (λ_=>[]):=by unfold nj;exact zz 0 func81
def ca (b:D):aI (D):=
 ag (dc n b) λa=>ag (j8 a.1 a.2) λc=>.ok c
instance D5 (p0:D):CT Pq 26 [.ptr 0 0] [.box (F p0)] (ca n p0) (λ_=>.mE []) (λx=>[.box (F x)]):=by unfold ca;exact zz 0 func26
def cW (b:ByS) (c:D):aI (D):=
 ag (dq n b c) λa=>br (!a.1) (ag (ca n a.2) λd=>.ok d) (.ok a.2)
instance OT (p0:ByS) (p1:D):CT Pq 136 [.ptr 0 0,eu p0] [.box (F p1)] (cW n p0 p1) (λ_=>.mE []) (λx=>[.box (F x)]):=by unfold cW;exact zz 0 func136
def cC (c:ByS) (b:D):aI (D):=
 ag (bq n b) λa=>ag (ez a.1 c) λd=>br (!d) (ag (ca n (pB a.2 b)) λe=>.ok e) (.ok ((pB a.2 b)))
instance P8 (p0:ByS) (p1:D):CT Pq 186 [.ptr 0 0,eu p0] [.box (F p1)] (cC n p0 p1) (λ_=>.mE []) (λx=>[.box (F x)]):=by unfold cC pB;exact zz 0 func186
def iK (a:D):aI (Bool×D):=
 gd (cD (a.bO - 1)) (dz [0] [0] (λb=>[(3,I b)]) (λ_=>[]) (λe (b:Int)=>br (decide (b>=0)) (el a.oh b λf=>br (f.aq !=7) (ji 26 (el a.oh b λc=>el a.oh a.bO λd=>gd ((0:Int)<=c.pO/\(c.pO:Int)<=d.cN/\d.cN<=(a.cP.length:Int)) (ag (strings_Contains (sub a.cP c.pO d.cN) ([10]:ByS)) λg=>.ok (g,a)))) (gd (cD (b - 1)) (e (b - 1)))) (.ok (true,a))) n (a.bO - 1))
instance P9 (p0:D):CT Pq 84 [.ptr 0 0] [.box (F p0)] (iK n p0) (λx=>Bo x.1) (λx=>[.box (F x.2)]):=by unfold iK;exact zz 0 func84
def c8 (b:Int) (a:D):aI (aC×D):=
 ji 20 (gd (cD (a.bO+b)) (gd (cD ((a.oh.length:Int) - 1)) (el a.oh (if (a.oh.length:Int) - 1<a.bO+b then (a.oh.length:Int) - 1 else a.bO+b) λc=>.ok (c,a))))
instance OU (p0:Int) (p1:D):CT Pq 130 [.ptr 0 0,I p0] [.box (F p1)] (c8 p0 p1) (λx=>.agg (nL x.1)) (λx=>[.box (F x.2)]):=by unfold c8;exact zz 0 func130
def kK (a:aC) (b:ByS):aI (Bool):=
 br (a.aq==1) (.ok ((a.bM==b))) (.ok false)
instance Ľ (p0:aC) (p1:ByS):CT Pq 38 [.agg (nL p0),eu p1] [] (kK p0 p1) (λx=>Bo x) (λ_=>[]):=by unfold kK;exact zz 0 func38
def fL (d:D):aI (Bool×D):=
 ag (bq n d) λb=>ag (ez b.1 [91]) λr=>br (!r) (.ok (false,pB b.2 d)) (iu 1 [0] [] (λc=>[(3,I c.2)]) (λc=>[(0,.box (F c.1))]) (λ(c:D×Int)=>dz [0] [] (λa=>[(3,I a.2)]) (λa=>[(0,.box (F a.1))]) (λl (a:D×Int)=>ag (c8 a.2 a.1) λe=>br (e.1.aq==7) (gd (cD (a.2+1)) (l (e.2,a.2+1))) (ag (c8 a.2 e.2) λf=>ag (ez f.1 [93]) λm=>br m (gd (cD (a.2+1)) (ag (c8 (a.2+1) f.2) λk=>ag (ez k.1 [58]) λo=>.ok (o,k.2))) (.ok (false,f.2)))) n (c.1,c.2)) λj=>ag (c8 1 (pB b.2 d)) λg=>ag (kK g.1 [115,116,114,105,110,103]) λp=>br (!p) (ag (c8 1 g.2) λh=>ag (ez h.1 [61,126]) λq=>br (!q) (.ok (false,h.2)) (ag (c8 2 h.2) λi=>br (i.1.aq !=3) (.ok (false,i.2)) (j (i.2,3)))) (j (g.2,2)))
instance Me (p0:D):CT Pq 134 [.ptr 0 0] [.box (F p0)] (fL n p0) (λx=>Bo x.1) (λx=>[.box (F x.2)]):=by unfold fL pB;exact zz 0 func134
def ei (d:ByS) (c:D):aI (D):=
 ag (bq n c) λa=>ag (kK a.1 d) λe=>br (!e) (ag (ca n (pB a.2 c)) λb=>gd (cD (b.bO+1)) (.ok ((pM b b)))) (gd (cD (a.2.bO+1)) (.ok ((pM a.2 c))))
instance NO (p0:ByS) (p1:D):CT Pq 139 [.ptr 0 0,eu p0] [.box (F p1)] (ei n p0 p1) (λ_=>.mE []) (λx=>[.box (F x)]):=by unfold ei pB pM;exact zz 0 func139
def fw (c:D):aI (ByS×D):=
 ag (bq n c) λa=>iu 0 [0,3] [103] (λ_=>[]) (λb=>[(0,.box (F b))]) (λ(b:D)=>gd (cD (b.bO+1)) (.ok (a.1.bM,pM b b))) λd=>br (a.1.aq !=1) (ag (ca n (pB a.2 c)) λe=>d e) (ag (dO n a.1.bM) λf=>br (!f) (ag (ca n (pB a.2 c)) λg=>d g) (d ((pB a.2 c))))
instance aA (p0:D):CT Pq 39 [.ptr 0 0] [.box (F p0)] (fw n p0) (λx=>eu x.1) (λx=>[.box (F x.2)]):=by unfold fw pM pB;exact zz 0 func39
end
section
variable (n:Nat)
def kL (d:D):aI (mz×D):=
 ag (fw n d) λb=>ag (cW n [44] b.2) λf=>ag (dc n f) λc=>ag (fw n c.2) λa=>br (b.1==a.1) (ag (j8 c.1 a.2) λe=>.ok (mz.mk b.1 a.1,e)) (.ok (mz.mk b.1 a.1,a.2))
instance Qa (p0:D):CT Pq 138 [.ptr 0 0] [.box (F p0)] (kL n p0) (λx=>.agg [eu x.1.x0,eu x.1.x1]) (λx=>[.box (F x.2)]):=by unfold kL;exact zz 0 func138
structure vC where
 nq:bu->Int->aI (Int)
def oX (i:vC) (a:bu) (d:Int):aI (Int):=
 br (decide (d>16)) (.ok 9) (iu 0 [0,1,2] [102] (λ_=>[]) (λ_=>[]) (λ(m:Unit)=>iu 1 [0,1,2] [102] (λ_=>[]) (λ_=>[]) (λ(l:Unit)=>dz [0,1,47,48] [] (λb=>[(49,I b)]) (λ_=>[]) (λj (b:Int)=>br (decide (b<a.bK.length)) (el a.bK b λk=>gd (cD (d+1)) (ag (i.nq k (d+1)) λh=>br (h !=0) (.ok h) (gd (cD (b+1)) (j (b+1))))) (.ok 0)) n 0) λc=>iu 1 [0,1,2,5,34] [102] (λe=>[(37,Bo e)]) (λ_=>[]) (λ(e:Bool)=>br e (br (decide ((a.bK.length:Int)<2)) (.ok 2) (c ())) (br (a.aq==5) (br ((a.bK.length:Int) !=1) (.ok 2) (c ())) (br ((a.bK.length:Int) !=0) (.ok 2) (c ())))) λf=>br (a.aq==3) (f ((a.aq==3))) (f ((a.aq==4)))) λg=>br (decide (a.aq<0)) (.ok 11) (br (decide (a.aq>5)) (.ok 11) (br (a.aq !=2) (br (!([a.Rx,a.Ry,a.Rz,a.RA]==[0,0,0,0])) (.ok 11) (g ())) (g ()))))
def oP:Nat->vC
 | 0=>⟨λ_ _=>.stuck⟩
 | n+1=>⟨oX n (oP n)⟩
abbrev nq:=(oP n).nq
abbrev F8 (f:bu->Int->aI (Int)):Prop:=∀ p0 p1,CT Pq 229 [.agg (mA p0),I p1] [] (f p0 p1) (λx=>I x) (λ_=>[])
class wJ (T:vC):Prop where
 nq:F8 T.nq
attribute [instance] wJ.nq
theorem K8 (T:vC) [hT:wJ T]:F8 (oX n T):=λp0 p1=>by unfold oX;exact zz 0 func229
theorem zV:∀ n,wJ (oP n)
 | 0=>by constructor<;>(repeat intro)<;>exact rU
 | n+1=>have:=zV n;⟨K8 n _⟩
attribute [instance] zV
def yl (a:bu):aI (Int):=
 ag (nq n a 1) λb=>.ok b
instance My (p0:bu):CT Pq 192 [.agg (mA p0)] [] (yl n p0) (λx=>I x) (λ_=>[]):=by unfold yl;exact zz 0 func192
def rY (a:Int):aI (bu×dH):=
 .ok (bu.mk 0 0 0 0 0 [],dH.mk 8 a)
def FB (v:Int):XM Pq 189 [.ptr 0 0,.ptr 1 0,.ptr 2 0] [.box [.ptr 3 0],.box [.any,.any,.any,.any,.any,.any],.box [.any,.any],.box [.any,.any]] (some (.iface 188 (.agg #[.int .i64 v]))) (rY v) (λx=>[.box [.ptr 3 0],.box (mA x.1),.box [I x.2.eU,I x.2.At],.box [.any,.any]]):=by
 refine yf (m:=some (.iface 188 (.agg #[.int .i64 v]))) (mv:=.vV 188 (.agg [I v])) (λg=>.vV 188 (.agg (.cons (.pv (.sc _)) .nil))) func189 O O O λr h hr E hE=>?_;refine bE λ_ IH=>bB (zm O (fg (HQ O O) O (zQ IH (GZ O (λhc=>?_) (λhc=>?_)))))
 ·refine bE λ_ R4=>bB (fg Fz O ?_);refine zl O (zn O (zf O (fg (afy O O O) O (fg Fx O ?_))));refine zs O (zs O (zQ R4 (bE λ_ hK3=>bB (zm O (fg (adx O) O (zm O (zx O (zx O (lY 104 (hE _ O) O4 O ?_)))))))));refine zs O (za O (zQ hK3 (bE λ_ T8=>bB (zm O (zQ T8 (GZ O (λhc=>?_) (λhc=>?_)))))))
  ·refine bB (zf O (zl O (zf O (zs O (lX (Dc 1 O O) ?_)))));exact tH (HS (.inr O) _ h.symm ⟨O,O,O,O,trivial⟩)
  exact Na
 exact Na
def xv (es:List cV):XM Pq 189 [.ptr 0 0,.ptr 1 0,.ptr 2 0] es none (aI.ok ()) (λ_=>es):=by
 refine yf (m:=none) (mv:=Sc .nilIface) (λg=>.pv (.sc _)) func189 O O O λr h hr E hE=>?_;exact yC6
def qT (b:Int) (a:(List bu)):aI (bu):=
 br ((a.length:Int)==1) (el a 0 λc=>.ok c) (.ok ((rK b a)))
instance aba (p0:Int) (p1:(List bu)):CT Pq 228 [I p0,afM p1] [] (qT p0 p1) (λx=>.agg (mA x)) (λ_=>[]):=by unfold qT rK;exact zz 0 func228
def iQ (e:Int) (f:Int):aI (eT):=
 dz [0,1,4,5] [104] (λa=>[(7,I a.2)]) (λa=>[(105,.box (mU a.1))]) (λd (a:eT×Int)=>br (decide (a.2<256)) (iu 2 [0,1,4,5,6,7] [104,105] (λb=>[(19,Bo b)]) (λ_=>[]) (λ(b:Bool)=>br b (ji 10 (gd ((64:Int)≠0) (gd ((0:Int)<=(IntKind.wrap .i64 (Int.tdiv a.2 64))/\(IntKind.wrap .i64 (Int.tdiv a.2 64))<4) (gd ((64:Int)≠0) (gd ((0:Int)<=(Int.tmod a.2 64)) (gd ((0:Int)<=(IntKind.wrap .i64 (Int.tdiv a.2 64))/\(IntKind.wrap .i64 (Int.tdiv a.2 64))<4) (gd (cD (a.2+1)) (d (tB (Bq [a.1.x0,a.1.x1,a.1.x2,a.1.x3] (IntKind.wrap .i64 (Int.tdiv a.2 64)) (HI .u64 (tA [a.1.x0,a.1.x1,a.1.x2,a.1.x3] (IntKind.wrap .i64 (Int.tdiv a.2 64))) (B9 .u64 1 (Int.tmod a.2 64)))),a.2+1))))))))) (gd (cD (a.2+1)) (d (a.1,a.2+1)))) λc=>br (decide (a.2>=(IntKind.wrap .i64 e))) (c ((decide (a.2<=(IntKind.wrap .i64 f))))) (c false)) (.ok a.1)) n (eT.mk 0 0 0 0,0)
instance abb (p0:Int) (p1:Int):CT Pq 281 [Sc (.int .u8 p0),Sc (.int .u8 p1)] [] (iQ n p0 p1) (λx=>.agg (mU x)) (λ_=>[]):=by unfold iQ tB;exact zz 0 func281
def kO (d:eT) (b:eT):aI (eT):=
 dz [0,1,2,3,4] [103,104] (λa=>[(6,I a.2)]) (λa=>[(102,.box (mU a.1))]) (λc (a:eT×Int)=>br (decide (a.2<4)) (ji 9 (gd ((0:Int)<=a.2/\a.2<4) (gd ((0:Int)<=a.2/\a.2<4) (gd ((0:Int)<=a.2/\a.2<4) (gd (cD (a.2+1)) (c (tB (Bq [a.1.x0,a.1.x1,a.1.x2,a.1.x3] a.2 (HI .u64 (tA [a.1.x0,a.1.x1,a.1.x2,a.1.x3] a.2) (tA [b.x0,b.x1,b.x2,b.x3] a.2))),a.2+1))))))) (.ok a.1)) n (d,0)
instance abc (p0:eT) (p1:eT):CT Pq 297 [.agg (mU p0),.agg (mU p1)] [] (kO n p0 p1) (λx=>.agg (mU x)) (λ_=>[]):=by unfold kO tB;exact zz 0 func297
def uj (a:Int):aI (eT×Bool):=
 ag (iQ n 48 57) λb=>br (a==100) (.ok (b,true)) (br (a==119) (ag (iQ n 97 122) λc=>ag (iQ n 65 90) λd=>ag (kO n c d) λe=>ag (kO n b e) λf=>ag (iQ n 95 95) λg=>ag (kO n f g) λh=>.ok (h,true)) (br (a==115) (ag (iQ n 9 10) λi=>ag (iQ n 13 13) λj=>ag (kO n i j) λk=>ag (iQ n 32 32) λl=>ag (kO n k l) λm=>.ok (m,true)) (.ok (eT.mk 0 0 0 0,false))))
instance ľ (p0:Int):CT Pq 282 [Sc (.int .u8 p0)] [] (uj n p0) (λx=>.mE [.agg (mU x.1),Bo x.2]) (λ_=>[]):=by unfold uj;exact zz 0 func282
def tF (b:Int):aI (bu):=
 ag (iQ n b b) λa=>.ok ((rG 2 a))
instance adF (p0:Int):CT Pq 283 [Sc (.int .u8 p0)] [] (tF n p0) (λx=>.agg (mA x)) (λ_=>[]):=by unfold tF rG;exact zz 1 func283
def eP (a:Int) (b:L):aI (L):=
 .ry ⟨188,[.sc (.int .i64 a)]⟩
instance FJ (p0:Int) (p1:L):CT Pq 191 [.ptr 0 0,I p0] [.box (y p1)] (eP p0 p1) (λ_=>.mE []) (λx=>[.box (y x)]):=by unfold eP;exact zz 0 func191
def s7 (a:Int):aI (Int×Bool):=
 iu 2 [0] [] (λb=>[(4,Bo b)]) (λ_=>[]) (λ(b:Bool)=>br b (.ok (IntKind.wrap .u8 (a - 48),true)) (iu 0 [0] [] (λc=>[(13,Bo c)]) (λ_=>[]) (λ(c:Bool)=>br c (.ok (IntKind.wrap .u8 ((IntKind.wrap .u8 (a - 97))+10),true)) (br (decide (a>=65)) (br (decide (a<=70)) (.ok (IntKind.wrap .u8 ((IntKind.wrap .u8 (a - 65))+10),true)) (.ok (0,false))) (.ok (0,false)))) λe=>br (decide (a>=97)) (e ((decide (a<=102)))) (e false))) λd=>br (decide (a>=48)) (d ((decide (a<=57)))) (d false)
instance Ŀ (p0:Int):CT Pq 310 [Sc (.int .u8 p0)] [] (s7 p0) (λx=>.mE [Sc (.int .u8 x.1),Bo x.2]) (λ_=>[]):=by unfold s7;exact zz 0 func310
def dt (a:L):aI (Int×L):=
 ji 10 (br (decide (a.bO<a.cP.length)) (ji 10 (el a.cP a.bO λb=>.ok ((b.toNat:Int),a))) (.ok (0,a)))
instance Te (p0:L):CT Pq 227 [.ptr 0 0] [.box (y p0)] (dt p0) (λx=>Sc (.int .u8 x.1)) (λx=>[.box (y x.2)]):=by unfold dt;exact zz 0 func227
def jq (e:Int) (h:L):aI (Int×L):=
 dz [0,1,10] [] (λa=>[(5,Sc (.int .u8 a.2.1)),(11,I a.2.2)]) (λa=>[(0,.box (y a.1))]) (λg (a:L×Int×Int)=>br (decide (a.2.2<2)) (gd ((0:Int)<=a.2.2/\a.2.2<2) (gd (cD (a.1.bO+1)) (ag (dt (nA a.1)) λd=>ag (s7 d.1) λc=>gd ((0:Int)<=4) (iu 1 [0,1,5,10,11] [0] (λf=>[(53,Bo f)]) (λ_=>[]) (λ(f:Bool)=>br f (ag (eP d.2.bO d.2) λi=>gd (cD (a.2.2+1)) (g (i,HI .u8 (B9 .u8 a.2.1 4) c.1,a.2.2+1))) (gd (cD (a.2.2+1)) (g (d.2,HI .u8 (B9 .u8 a.2.1 4) c.1,a.2.2+1)))) λb=>br (!c.2) (b true) (br (decide ((tA [15,0] a.2.2)>0)) (gd ((0:Int)<=4) (br (decide ((HI .u8 (B9 .u8 (HI .u8 (B9 .u8 a.2.1 4) c.1) 4) (tA [15,0] a.2.2))<e)) (b true) (br ((tA [15,0] a.2.2)==0) (b ((decide ((HI .u8 (B9 .u8 a.2.1 4) c.1)<e)))) (b false)))) (br ((tA [15,0] a.2.2)==0) (b ((decide ((HI .u8 (B9 .u8 a.2.1 4) c.1)<e)))) (b false))))))) (gd (cD (a.1.bO+1)) (.ok (a.2.1,nA a.1)))) n (h,0,0)
instance K9 (p0:Int) (p1:L):CT Pq 299 [.ptr 0 0,Sc (.int .u8 p0)] [.box (y p1)] (jq n p0 p1) (λx=>Sc (.int .u8 x.1)) (λx=>[.box (y x.2)]):=by unfold jq nA;exact zz 0 func299
def ia (g:Int) (e:L):aI (Int×L):=
 gd (cD (e.bO+1)) (ag (dt (nA e)) λa=>iu 0 [0,1] [] (λb=>[(5,Sc (.int .u8 b.2))]) (λb=>[(0,.box (y b.1))]) (λ(b:L×Int)=>iu 0 [0,1,5] [] (λ_=>[]) (λd=>[(0,.box (y d))]) (λ(d:L)=>gd (cD (d.bO+1)) (.ok (b.2,nA d))) λf=>br (decide (b.2<g)) (ag (eP b.1.bO b.1) λi=>f i) (f b.1)) λc=>ji 11 (br (decide (a.2.bO>=a.2.cP.length)) (ag (eP (a.2.cP.length:Int) a.2) λj=>c (j,a.1)) (br (a.1==120) (ag (jq n g a.2) λh=>.ok (h.1,h.2)) (br (a.1==110) (c (a.2,10)) (br (a.1==116) (c (a.2,9)) (br (a.1==114) (c (a.2,13)) (ag (strings_IndexByte ([40,41,91,93,123,125,124,42,43,63,46,92,45,94]:ByS) a.1) λk=>br (decide (k<0)) (ag (eP a.2.bO a.2) λl=>c (l,a.1)) (c (a.2,a.1)))))))))
instance OV (p0:Int) (p1:L):CT Pq 284 [.ptr 0 0,Sc (.int .u8 p0)] [.box (y p1)] (ia n p0 p1) (λx=>Sc (.int .u8 x.1)) (λx=>[.box (y x.2)]):=by unfold ia nA;exact zz 0 func284
def s8 (c:eT):aI (eT):=
 dz [0,1,2] [102] (λa=>[(4,I a.2)]) (λa=>[(101,.box (mU a.1))]) (λb (a:eT×Int)=>br (decide (a.2<4)) (gd ((0:Int)<=a.2/\a.2<4) (gd ((0:Int)<=a.2/\a.2<4) (gd (cD (a.2+1)) (b (tB (Bq [a.1.x0,a.1.x1,a.1.x2,a.1.x3] a.2 (aas .u64 (tA [a.1.x0,a.1.x1,a.1.x2,a.1.x3] a.2))),a.2+1))))) (.ok a.1)) n (c,0)
instance ŀ (p0:eT):CT Pq 298 [.agg (mU p0)] [] (s8 n p0) (λx=>.agg (mU x)) (λ_=>[]):=by unfold s8 tB;exact zz 0 func298
def iq (f:Int) (h:L):aI (Int×L):=
 ag (dt h) λa=>iu 0 [0,1,5] [] (λ_=>[]) (λb=>[(0,.box (y b))]) (λ(b:L)=>gd (cD (b.bO+1)) (.ok (a.1,nA b))) λd=>ji 11 (br (decide (a.2.bO>=a.2.cP.length)) (ag (eP (a.2.cP.length:Int) a.2) λi=>d i) (br (a.1==92) (ag (ia n f a.2) λg=>.ok (g.1,g.2)) (iu 0 [0,1,5] [0] (λe=>[(32,Bo e)]) (λ_=>[]) (λ(e:Bool)=>br e (ag (eP a.2.bO a.2) λj=>d j) (d a.2)) λc=>br (decide (a.1<32)) (c true) (br (decide (a.1>126)) (c true) (br (decide (a.1<f)) (c true) (ag (strings_IndexByte ([40,41,91,93,123,125,124,42,43,63,46,94,45]:ByS) a.1) λk=>c ((decide (k>=0)))))))))
instance Tf (p0:Int) (p1:L):CT Pq 296 [.ptr 0 0,Sc (.int .u8 p0)] [.box (y p1)] (iq n p0 p1) (λx=>Sc (.int .u8 x.1)) (λx=>[.box (y x.2)]):=by unfold iq nA;exact zz 0 func296
def sJ (i:L):aI (bu×L):=
 gd (cD (i.bO+1)) (ag (dt (nA i)) λd=>iu 0 [0,2,3] [102] (λ_=>[]) (λg=>[(0,.box (y g))]) (λ(g:L)=>iu 1 [0,2,3] [102] (λb=>[(32,Bo b.2)]) (λb=>[(0,.box (y b.1))]) (λ(b:L×Bool)=>br b.2 (gd (cD (b.1.bO+1)) (.ok (rK 0 [],nA b.1))) (dz [0,2,3,4] [102] (λa=>[(5,Bo a.2.2)]) (λa=>[(0,.box (y a.1)),(104,.box (mU a.2.1))]) (λo (a:L×eT×Bool)=>iu 0 [0,2,3,4] [102,104] (λ_=>[]) (λj=>[(0,.box (y j))]) (λ(j:L)=>ag (iq n 0 j) λe=>ag (dt e.2) λf=>br (f.1==45) (gd (cD (f.2.bO+1)) (ag (iq n e.1 (nA f.2)) λp=>ji 6 (ag (iQ n e.1 p.1) λr=>ag (kO n a.2.1 r) λs=>o (p.2,s,false)))) (ji 6 (ag (iQ n e.1 e.1) λt=>ag (kO n a.2.1 t) λu=>o (f.2,u,false)))) λl=>br a.2.2 (l a.1) (ag (dt a.1) λc=>br (c.1 !=93) (l c.2) (gd (cD (c.2.bO+1)) (br (d.1==94) (ag (s8 n a.2.1) λh=>.ok (rG 2 h,nA c.2)) (.ok (rG 2 a.2.1,nA c.2)))))) n (b.1,eT.mk 0 0 0 0,true))) λk=>br (!(d.1==94)) (ag (dt g) λq=>k (q.2,(q.1==93))) (k (g,false))) λm=>br (d.1==94) (gd (cD (d.2.bO+1)) (m ((nA d.2)))) (m d.2))
instance aN (p0:L):CT Pq 280 [.ptr 0 0] [.box (y p0)] (sJ n p0) (λx=>.agg (mA x.1)) (λx=>[.box (y x.2)]):=by unfold sJ nA rK rG;exact zz 1 func280
end
section
variable (n:Nat)
structure cS where
 ep:L->aI (bu×L)
 jR:L->aI (bu×L)
 eH:L->aI (bu×L)
 dV:(List bu)->L->aI ((List bu)×L)
 jr:L->aI (bu×L)
 js:L->aI (bu×L)
def gW (d:cS) (g:L):aI (bu×L):=
 ag (d.eH g) λe=>oj [[20,6]] (jk [[1,106,10003],[0,2,3],[0,102]] (dz [0,2] [102] (λa=>[(3,.arr 10003 a.2.length)]) (λa=>[(0,.box (y a.1)),(10003,.app 156 6 (bu.Cs a.2))]) (λf (a:L×(List bu))=>ag (dt a.1) λb=>br (b.1==124) (gd (cD (b.2.bO+1)) (ag (d.eH (nA b.2)) λc=>gd (nP 64 a.2.length (List.length [c.1])) (jk [[1,121,10003],[0,2,3],[0,102]] (f (c.2,a.2++[c.1]))))) (oj [[22,22]] (ag (qT 4 a.2) λh=>.ok (h,b.2)))) n (e.2,[e.1])))
def mi (l:cS) (o:L):aI (bu×L):=
 ag (dt o) λa=>iu 0 [0,2,3] [102] (λ_=>[]) (λb=>[(0,.box (y b))]) (λ(b:L)=>gd (cD (b.bO+1)) (ag (tF n a.1) λp=>.ok (p,nA b))) λe=>ji 11 (br (decide (a.2.bO>=a.2.cP.length)) (ag (eP (a.2.cP.length:Int) a.2) λq=>e q) (br (a.1==40) (ag (l.jr a.2) λh=>.ok (h.1,h.2)) (br (a.1==91) (ag (sJ n a.2) λi=>.ok (i.1,i.2)) (br (a.1==46) (gd (cD (a.2.bO+1)) (ag (iQ n 0 255) λd=>.ok (rG 2 d,nA a.2))) (br (a.1==92) (ji 11 (gd (cD (a.2.bO+1)) (br (decide ((a.2.bO+1)<(a.2.cP.length:Int))) (vi [0,1,2,3,4,5,6,7,8,9,14,10,11,12,13,15,16] (gd (cD (a.2.bO+1)) (el a.2.cP (a.2.bO+1) λm=>ag (uj n (m.toNat:Int)) λc=>br c.2 (gd (cD (a.2.bO+2)) (.ok (rG 2 c.1,L.mk a.2.cP (a.2.bO+2)))) (ag (ia n 0 a.2) λj=>ag (tF n j.1) λr=>.ok (r,j.2))))) (ag (ia n 0 a.2) λk=>ag (tF n k.1) λs=>.ok (s,k.2))))) (iu 0 [0,2,3] [0,102] (λg=>[(89,Bo g)]) (λ_=>[]) (λ(g:Bool)=>br g (ag (eP a.2.bO a.2) λt=>e t) (e a.2)) λf=>br (decide (a.1<32)) (f true) (br (decide (a.1>126)) (f true) (ag (strings_IndexByte ([40,41,91,93,123,125,124,42,43,63,46,92]:ByS) a.1) λu=>f ((decide (u>=0)))))))))))
def gI (d:cS) (h:L):aI (bu×L):=
 oj [[6,103,0,26592,6,156]] (ag (d.dV [] h) λf=>dz [0,1,2,3,4] [101,102] (λ_=>[]) (λa=>[(0,.box (y a.1)),(103,.box [.arr 26592 a.2.length]),(26592,.arr 156 6 (bu.Cs a.2))]) (λg (a:L×(List bu))=>ji 20 (br (decide (a.1.bO<a.1.cP.length)) (ag (dt a.1) λb=>br (b.1 !=124) (ag (dt b.2) λc=>br (c.1 !=41) (ag (d.dV a.2 c.2) λe=>g (e.2,e.1)) (oj [[11,103,0]] (ag (qT 3 a.2) λi=>.ok (i,c.2)))) (oj [[11,103,0]] (ag (qT 3 a.2) λj=>.ok (j,b.2)))) (oj [[11,103,0]] (ag (qT 3 a.2) λk=>.ok (k,a.1))))) n (f.2,f.1))
def fV (n:Nat) (c:cS) (a:(List bu)) (d:L):aI ((List bu)×L):=
 YV [0,1,3,4,2,5,6] 7 8 (ag (c.js d) λb=>gd (nP 64 a.length (List.length [rK 0 []])) (jk [[24,0,0]] (jk [[2,107,2],[0,1],[0,1,3]] (.ok (a++[b.1],b.2)))))
def ly (n:Nat) (g:cS) (d:L):aI (bu×L):=
 gd (cD (d.bO+1)) (ag (dt (nA d)) λb=>br (b.1==41) (gd (cD (b.2.bO+1)) (.ok (rK 1 [],nA b.2))) (ag (g.ep b.2) λf=>iu 0 [0,2,3] [102,103] (λ_=>[]) (λa=>[(0,.box (y a))]) (λ(a:L)=>gd (cD (a.bO+1)) (.ok (f.1,nA a))) λe=>ag (dt f.2) λc=>br (c.1 !=41) (ag (eP c.2.bO c.2) λh=>e h) (e c.2)))
def lA (f:cS) (h:L):aI (bu×L):=
 ag (f.jR h) λe=>dz [0,2,3] [102] (λ_=>[]) (λa=>[(0,.box (y a.1)),(103,.box (mA a.2))]) (λg (a:L×bu)=>iu 1 [0,2,3] [102] (λ_=>[]) (λb=>[(0,.box (y b.1)),(103,.box (mA b.2))]) (λ(b:L×bu)=>gd (cD (b.1.bO+1)) (g (nA b.1,b.2))) λd=>ag (dt a.1) λc=>br (c.1==42) (d (c.2,rK 5 [a.2])) (br (c.1==43) (d (c.2,rK 3 [a.2,rK 5 [a.2]])) (br (c.1==63) (d (c.2,rK 4 [a.2,rK 1 []])) (.ok (a.2,c.2))))) n (e.2,e.1)
def bI:Nat->cS
 | 0=>⟨λ_=>.stuck,λ_=>.stuck,λ_=>.stuck,λ_ _=>.stuck,λ_=>.stuck,λ_=>.stuck⟩
 | n+1=>⟨gW n (bI n),mi n (bI n),gI n (bI n),fV n (bI n),ly n (bI n),lA n (bI n)⟩
abbrev ep:=(bI n).ep
abbrev jR:=(bI n).jR
abbrev eH:=(bI n).eH
abbrev dV:=(bI n).dV
abbrev jr:=(bI n).jr
abbrev js:=(bI n).js
abbrev tO (f:L->aI (bu×L)):Prop:=∀ p0,CT Pq 190 [.ptr 0 0] [.box (y p0)] (f p0) (λx=>.agg (mA x.1)) (λx=>[.box (y x.2)])
abbrev zW (f:L->aI (bu×L)):Prop:=∀ p0,CT Pq 267 [.ptr 0 0] [.box (y p0)] (f p0) (λx=>.agg (mA x.1)) (λx=>[.box (y x.2)])
abbrev tC (f:L->aI (bu×L)):Prop:=∀ p0,CT Pq 226 [.ptr 0 0] [.box (y p0)] (f p0) (λx=>.agg (mA x.1)) (λx=>[.box (y x.2)])
abbrev sK (f:(List bu)->L->aI ((List bu)×L)):Prop:=∀ p0 p1,CT Pq 252 [.ptr 0 0,.ptr 1 0] [.box [.arr 2 p0.length],.box [.ptr 3 0],.arr 156 6 (bu.Cs p0),.box (y p1)] (f p0 p1) (λ_=>.mE []) (λx=>[.box [.arr 2 x.1.length],.box [.ptr 3 0],.arr 156 6 (bu.Cs x.1),.box (y x.2)])
abbrev ym (f:L->aI (bu×L)):Prop:=∀ p0,CT Pq 279 [.ptr 0 0] [.box (y p0)] (f p0) (λx=>.agg (mA x.1)) (λx=>[.box (y x.2)])
abbrev yn (f:L->aI (bu×L)):Prop:=∀ p0,CT Pq 253 [.ptr 0 0] [.box (y p0)] (f p0) (λx=>.agg (mA x.1)) (λx=>[.box (y x.2)])
class cR (T:cS):Prop where
 ep:tO T.ep
 jR:zW T.jR
 eH:tC T.eH
 dV:sK T.dV
 jr:ym T.jr
 js:yn T.js
attribute [instance] cR.ep cR.jR cR.eH cR.dV cR.jr cR.js
theorem zp (T:cS) [hT:cR T]:tO (gW n T):=λp0=>by unfold gW nA;exact zz 0 func190
theorem EV (T:cS) [hT:cR T]:zW (mi n T):=λp0=>by unfold mi nA rG;exact zz 1 func267
theorem yo (T:cS) [hT:cR T]:tC (gI n T):=λp0=>by unfold gI;exact zz 0 func226
theorem xk (T:cS) [hT:cR T]:sK (fV n T):=λp0 p1=>by unfold fV rK;exact zz 0 func252
theorem D6 (T:cS) [hT:cR T]:ym (ly n T):=λp0=>by unfold ly nA rK;exact zz 1 func279
theorem D7 (T:cS) [hT:cR T]:yn (lA n T):=λp0=>by unfold lA nA rK;exact zz 1 func253
theorem nO:∀ n,cR (bI n)
 | 0=>by constructor<;>(repeat intro)<;>exact rU
 | n+1=>have:=nO n;⟨zp n _,EV n _,yo n _,xk n _,D6 n _,D7 n _⟩
attribute [instance] nO
def pa (b:ByS):aI (bu×dH):=
 br (decide ((b.length:Int)>1000)) (.ok (bu.mk 0 0 0 0 0 [],dH.mk 2 0)) (AX (ag (ep n (L.mk b 0)) λa=>jn (λ(i:L)=>ag (yl n a.1) λg=>br (g==9) (.ok (bu.mk 0 0 0 0 0 [],dH.mk 9 0)) (.ok (a.1,dH.mk 0 0))) λc=>br (decide (a.2.bO<b.length)) (ag (eP a.2.bO a.2) λh=>c h) (c a.2)) (λe=>Ih 188 e λf=>ag (rY f) λd=>.ok (d.1,d.2)))
instance Ł (p0:ByS):CT Pq 144 [eu p0] [] (pa n p0) (λx=>.mE [.agg (mA x.1),.agg [I x.2.eU,I x.2.At]]) (λ_=>[]):=by
 refine Fo func144 O O λr h hr E hE=>?_;refine bE λ_ IH=>bB (lY 102 (hE _ O) O4 O ?_);refine lY 103 (hE _ O) O4 O ?_;refine zQ IH (bE λ_ R4=>bE λ_ hK3=>bB (zm O (fg (KM O) O (zc O (zQ hK3 (zB O h (λ_ h=>?_) λ_ h=>?_))))))
 ·refine bE λ_ X9=>bB (fg Fz O ?_);refine fg Fx O ?_;refine zs O (zs O (zQ X9 (nY (Dc 102 O O) ?_)));exact tc (Js (n:=Tryz.f144.ntmps) (.inl O) aea)
 refine mR (R4 _ _ (bE λ_ hK6=>bB (zm O (fg Fx O ?_))));refine H7 112 (hE _ O) O7 O ?_;refine lY 104 (hE _ O) O4 O ?_;refine zs O (zQ hK6 (bE λ_ hK7=>bB (fg (KS O O) O ?_)));refine ON O ?_;have hrO:=hr;obtain ⟨r,hr,h,hc⟩:=JI hr h;refine zQ hK7 (bE λ_ hK8=>bB (zl O (B8 hr h [112] call190 ((nO n).ep (L.mk p0 0)) ⟨O,O,O,O,O,O,trivial⟩ O O (λ_=>O3) (λ_=>O2) O (λp hp=>?_) (λy9 h=>?_))))
 ·exact yC3
 refine zs O (zQ hK8 (zM h (λ(v10:L)=>[(0,eu p0),(2,.ptr 102 0),(3,.ptr 103 0)]) (λ(v10:L)=>[(102,.box (mA y9.1)),(103,.box [I 0,I 0]),(104,.box [.ptr 112 0]),(112,.box (y v10))]) (λv10 h=>?_) λ_ _ R5 h=>?_))
 ·refine bE λ_ OW=>bE λ_ Mz=>bB (zA O ?_);refine B8 hr h [] call192 (My n y9.1) ⟨O,O,O,O,O,O,trivial⟩ O O (λ_=>O3) (λ_=>O2) O (λp hp=>?_) (λy15 h=>?_)
  ·exact yC3
  refine zc O (zQ Mz (zB O h (λ_ h=>?_) λ_ h=>?_))
  ·refine bE λ_ MA=>bB (fg Fz O ?_);refine fg Fx O ?_;refine zs O (zs O (zQ MA (nY (Dc 102 O O) ?_)));refine tc (vM (n:=Tryz.f144.ntmps) (.inl O) [104,102,103,112] call189 (xv [.box [.ptr 3 0],.box [I 0,Sc (.int .u64 0),Sc (.int .u64 0),Sc (.int .u64 0),Sc (.int .u64 0),.pv (.sl (List.length ([]:List bu)) (bu.Cs []))],.box [I 9,I 0],.box (y v10)]) ⟨O,O,O,O⟩ O O ?_);exact Xm
  refine mR (OW _ _ (bE λ_ T9=>bB (zA O ?_)));refine fg Fx O ?_;refine zs O (zs O (zQ T9 (tc (vM (n:=Tryz.f144.ntmps) (.inl O) [104,102,103,112] call189 (xv [.box [.ptr 3 0],.box (mA y9.1),.box [I 0,I 0],.box (y v10)]) ⟨O,O,O,O⟩ O O ?_))));exact Xm
 refine bE λ_ hK20=>bB (zl O (zn O (zf O (zl O (zm O (fg (KM O) O (zc O (zQ hK20 (zB O h (λ_ h=>?_) λ_ h=>?_)))))))))
 ·refine sH [0,1,2,3,4,5] O (by kernel_rfl) (zD O (KK O O O) O (zD O (KK O O O) O (zD O (KJ O) O (zD O (E' O) O (zD O (KK O O O) O (afu O (xr O) O hr h [112] call191 (FJ y9.2.bO y9.2) ⟨O,O,O,O,O,O,trivial⟩ O O (λ_=>O3) (λ_=>O2) O (λp hp=>?_) (λy22 h=>?_)))))))
  ·exact yC3
  exact AS (R5 _ _ _ h O)
 exact mR (R5 _ _ _ h O)
def nr (f:D) (a:aK):aI (D×aK):=
 iu 0 [0,1] [0,1] (λ_=>[]) (λc=>[(2,.box (F c.1)),(3,.box (rD c.2))]) (λ(c:D×aK)=>gd (cD (c.1.bO+1)) (ag (cC n [93] (pM c.1 c.1)) λi=>.ok (i,c.2))) λe=>ag (dq n [61,126] f) λd=>br d.1 (ji 7 (ag (bq n d.2) λb=>ag (pa n b.1.bM) λg=>br (g.2.eU !=0) (ag (ca n (pB b.2 d.2)) λh=>e (h,aK.mk a.aq a.eo b.1.bM a.B a.bT a.bK a.lZ a.J a.so a.lR a.cN)) (e (pB b.2 d.2,aK.mk a.aq a.eo b.1.bM a.B a.bT a.bK a.lZ a.J a.so a.lR a.cN)))) (e (d.2,a))
instance Mf (p0:D) (p1:aK):CT Pq 185 [.ptr 0 0,.ptr 1 0] [.box [.ptr 2 0],.box [.ptr 3 0],.box (F p0),.box (rD p1)] (nr n p0 p1) (λ_=>.mE []) (λx=>[.box [.ptr 2 0],.box [.ptr 3 0],.box (F x.1),.box (rD x.2)]):=by unfold nr pM pB;exact zz 0 func185
def nt (c:Bool) (a:D) (d:aK):aI (D×aK):=
 ag (nr n (pK a a c) d) λb=>.ok (pK b.1 b.1 a.skip,b.2)
instance OY (p0:Bool) (p1:D) (p2:aK):CT Pq 184 [.ptr 0 0,Bo p0,.fn 185 [] [.ptr 1 0,.ptr 2 0]] [.box (F p1),.box [.ptr 0 0],.box [.ptr 3 0],.box (rD p2)] (nt n p0 p1 p2) (λ_=>.mE []) (λx=>[.box (F x.1),.box [.ptr 0 0],.box [.ptr 3 0],.box (rD x.2)]):=by unfold nt pK;exact zz 0 func184
def lB (c:D):aI (Bool×D):=
 ag (bq n c) λa=>br (a.1.aq==0) (.ok (true,pB a.2 c)) (ag (bq n (pB a.2 c)) λb=>ag (ez b.1 [125]) λd=>.ok (d,pB b.2 c))
instance R6 (p0:D):CT Pq 86 [.ptr 0 0] [.box (F p0)] (lB n p0) (λx=>Bo x.1) (λx=>[.box (F x.2)]):=by unfold lB pB;exact zz 0 func86
def iV (c:Int) (a:D):aI (Bool×D):=
 dz [0,1] [0] (λb=>[(5,I b)]) (λ_=>[]) (λf (b:Int)=>br (decide (b<a.bO)) (el a.oh b λg=>ag (ez g [44]) λh=>br (!h) (.ok (false,a)) (gd (cD (b+1)) (f (b+1)))) (ji 28 (gd (cD (c - 1)) (el a.oh (c - 1) λd=>el a.oh a.bO λe=>gd ((0:Int)<=d.pO/\(d.pO:Int)<=e.cN/\e.cN<=(a.cP.length:Int)) (ag (strings_Contains (sub a.cP d.pO e.cN) ([10]:ByS)) λi=>.ok ((!i),a)))))) n c
instance OZ (p0:Int) (p1:D):CT Pq 87 [.ptr 0 0,I p0] [.box (F p1)] (iV n p0 p1) (λx=>Bo x.1) (λx=>[.box (F x.2)]):=by unfold iV;exact zz 0 func87
def wK (a:Int):aI (ak×Bool):=
 .ok (ak.mk 0 [] 0 [] [] [] [] [] 0,false)
def FK (v:Int):XM Pq 309 [.ptr 0 0,.ptr 1 0] [.box [.any,.any,.any,.any,.any,.any,.any,.any,.any],.box [.any]] (some (.iface 71 (.agg #[.int .i64 v]))) (wK v) (λx=>[.box (Q x.1),.box [Bo x.2]]):=by
 refine yf (m:=some (.iface 71 (.agg #[.int .i64 v]))) (mv:=.vV 71 (.agg [I v])) (λg=>.vV 71 (.agg (.cons (.pv (.sc _)) .nil))) func309 O O O λr h hr E hE=>?_;refine bE λ_ IH=>bB (zm O (fg (HQ O O) O (zQ IH (GZ O (λhc=>?_) (λhc=>?_)))))
 ·refine bB (fg Fz O ?_);refine zs O (zs O (lX (Dc 0 O O) ?_));exact tH (HS (.inr O) _ h.symm ⟨O,O,trivial⟩)
 exact Na
def D8 (es:List cV):XM Pq 309 [.ptr 0 0,.ptr 1 0] es none (aI.ok ()) (λ_=>es):=by
 refine yf (m:=none) (mv:=Sc .nilIface) (λg=>.pv (.sc _)) func309 O O O λr h hr E hE=>?_;exact yC6
def vn (a:aC):aI (Bool):=
 .ok ((a.aq==6))
instance YW (p0:aC):CT Pq 307 [.agg (nL p0)] [] (vn p0) (λx=>Bo x) (λ_=>[]):=by unfold vn;exact zz 0 func307
def jJ (b:(List aC)):aI (Int):=
 dz [0,1,7] [] (λa=>[(8,I a)]) (λ_=>[]) (λc (a:Int)=>br (decide (a<b.length)) (el b a λd=>ag (vn d) λe=>br e (.ok a) (gd (cD (a+1)) (c (a+1)))) (.ok ((-1)))) n 0
instance Jj (p0:(List aC)):CT Pq 312 [EP p0,.fn 307 [] []] [] (jJ n p0) (λx=>I x) (λ_=>[]):=by unfold jJ;exact zz 0 func312
def gi (a:(List aC)):aI (Bool):=
 ag (jJ n a) λb=>.ok ((decide (b>=0)))
instance xm (p0:(List aC)):CT Pq 308 [EP p0,.fn 307 [] []] [] (gi n p0) (λx=>Bo x) (λ_=>[]):=by unfold gi;exact zz 0 func308
def e9 (b:Int) (d:ByS) (c:Int) (a:eG):aI (eG):=
 Bn 23 (gd (cD (a.bO+c)) (gd (nP 40 a.out.length (List.length [aC.mk b d a.bO (a.bO+c)])) (jk [[1,127,1],[0,1,2,3],[0]] (gd (cD (a.bO+c)) (br (b==6) (.ok ((eG.mk a.cP (a.bO+c) (a.out++[aC.mk b d a.bO (a.bO+c)]) a.line))) (iu 0 [0,1,2,3] [0,1] (λf=>[(52,Bo f)]) (λ_=>[]) (λ(f:Bool)=>br f (.ok ((eG.mk a.cP (a.bO+c) (a.out++[aC.mk b d a.bO (a.bO+c)]) true))) (br (b==5) (gd (Bp ([32]:ByS) d) (gd (Bp (([32]:ByS)++d) ([32]:ByS)) (ag (strings_Contains ([32,95,124,95,32,95,32,46,46,46,32,41,32,93,32,125,32,63,32]:ByS) ((([32]:ByS)++d)++([32]:ByS))) λg=>.ok ((eG.mk a.cP (a.bO+c) (a.out++[aC.mk b d a.bO (a.bO+c)]) g))))) (.ok ((eG.mk a.cP (a.bO+c) (a.out++[aC.mk b d a.bO (a.bO+c)]) false))))) λe=>br (b==1) (e ((b==1))) (br (b==2) (e ((b==2))) (br (b==3) (e ((b==3))) (e ((b==4)))))))))))
instance Tg (p0:Int) (p1:ByS) (p2:Int) (p3:eG):CT Pq 35 [.ptr 0 0,I p0,eu p1,I p2] [.box [eu p3.cP,I p3.bO,.arr 1 p3.out.length,Bo p3.line],.app 62 4 (aC.Cs p3.out)] (e9 p0 p1 p2 p3) (λ_=>.mE []) (λx=>[.box [eu x.cP,I x.bO,.arr 1 x.out.length,Bo x.line],.app 62 4 (aC.Cs x.out)]):=by unfold e9;exact zz 0 func35
def stringslite_HasPrefix (b:ByS) (a:ByS):aI (Bool):=
 br (decide ((b.length:Int)>=(a.length:Int))) (gd ((0:Int)<=(a.length:Int)/\(a.length:Int)<=(b.length:Int)) (.ok (((sI b (a.length:Int))==a)))) (.ok false)
instance NR (p0:ByS) (p1:ByS):CT Pq 118 [eu p0,eu p1] [] (stringslite_HasPrefix p0 p1) (λx=>Bo x) (λ_=>[]):=by unfold stringslite_HasPrefix;exact zz 0 func118
def strings_HasPrefix (a:ByS) (b:ByS):aI (Bool):=
 ag (stringslite_HasPrefix a b) λc=>.ok c
instance FL (p0:ByS) (p1:ByS):CT Pq 76 [eu p0,eu p1] [] (strings_HasPrefix p0 p1) (λx=>Bo x) (λ_=>[]):=by unfold strings_HasPrefix;exact zz 0 func76
def pf (a:Int):aI (Bool):=
 br (decide (a>=48)) (.ok ((decide (a<=57)))) (.ok false)
instance ł (p0:Int):CT Pq 79 [Sc (.int .u8 p0)] [] (pf p0) (λx=>Bo x) (λ_=>[]):=by unfold pf;exact zz 0 func79
def tn (d:ByS):aI (Int):=
 iu 2 [0] [] (λa=>[(3,I a)]) (λ_=>[]) (λ(a:Int)=>iu 1 [0,3] [] (λf=>[(33,Bo f)]) (λ_=>[]) (λ(f:Bool)=>br f (gd (cD (a+1)) (dz [0] [] (λb=>[(3,I b)]) (λ_=>[]) (λl (b:Int)=>br (decide (b<d.length)) (el d b λh=>ag (pf (h.toNat:Int)) λo=>br o (gd (cD (b+1)) (l (b+1))) (.ok b)) (.ok b)) n (a+1))) (.ok a)) λe=>gd (cD (a+1)) (br (decide ((a+1)<(d.length:Int))) (el d a λi=>br ((i.toNat:Int)==46) (gd (cD (a+1)) (el d (a+1) λj=>ag (pf (j.toNat:Int)) λp=>e p)) (e false)) (e false))) λg=>dz [0] [] (λc=>[(3,I c)]) (λ_=>[]) (λm (c:Int)=>br (decide (c<d.length)) (el d c λk=>ag (pf (k.toNat:Int)) λq=>br q (gd (cD (c+1)) (m (c+1))) (g c)) (g c)) n 0
instance Ã (p0:ByS):CT Pq 80 [eu p0] [] (tn n p0) (λx=>I x) (λ_=>[]):=by unfold tn;exact zz 0 func80
def qU (g:ByS):aI (ByS):=
 dz [0,7,8] [] (λb=>[(9,I b)]) (λ_=>[]) (λf (b:Int)=>br (decide (b<(List.length [([95,124,95,32,46,46,46]:ByS),([61,61,32,33,61,32,60,61,32,62,61,32,61,126,32,33,126,32,38,38,32,124,124]:ByS),([95,32,40,32,41,32,91,32,93,32,123,32,125,32,58,32,44,32,46,32,63,32,33,32,42,32,38,32,124,32,61,32,60,32,62,32,43,32,45,32,47,32,37]:ByS)]:Int))) (el [([95,124,95,32,46,46,46]:ByS),([61,61,32,33,61,32,60,61,32,62,61,32,61,126,32,33,126,32,38,38,32,124,124]:ByS),([95,32,40,32,41,32,91,32,93,32,123,32,125,32,58,32,44,32,46,32,63,32,33,32,42,32,38,32,124,32,61,32,60,32,62,32,43,32,45,32,47,32,37]:ByS)] b λh=>ag (strings_Split h ([32]:ByS)) λd=>dz [0,7,8,9,14,15] [] (λa=>[(16,I a)]) (λ_=>[]) (λe (a:Int)=>br (decide (a<d.length)) (el d a λc=>ag (strings_HasPrefix g c) λi=>br i (.ok c) (gd (cD (a+1)) (e (a+1)))) (gd (cD (b+1)) (f (b+1)))) n 0) (.ok (([]:ByS)))) n 0
instance Ya (p0:ByS):CT Pq 83 [eu p0] [] (qU n p0) (λx=>eu x) (λ_=>[]):=by unfold qU;exact zz 0 func83
def fv (a:Int):aI (Int):=
 .ok (HI .u8 a 32)
instance aU (p0:Int):CT Pq 240 [Sc (.int .u8 p0)] [] (fv p0) (λx=>Sc (.int .u8 x)) (λ_=>[]):=by unfold fv;exact zz 0 func240
end
end Go.Abs
