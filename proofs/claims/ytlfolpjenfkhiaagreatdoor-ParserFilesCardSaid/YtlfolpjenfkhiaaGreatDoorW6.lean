/- PROVED: lemmas for ParserFiles. CONDITIONS: as stated. -/
import Derived.Test.YtlfolpjenfkhiaaGreatDoorW2
set_option linter.all false
namespace Go.Abs
open Go.Proofs Go.Proofs.Tryz aI
set_option maxRecDepth 100000
set_option maxHeartbeats 2000000
section
variable (n:Nat)
def ot (b:(List ByS)) (c:(List ByS)):aI (Bool):=
 br ((b.length:Int) !=(c.length:Int)) (.ok false) (dz [0,1,12] [] (λa=>[(13,I a)]) (λ_=>[]) (λd (a:Int)=>br (decide (a<b.length)) (ji 9 (el b a λe=>el c a λf=>br (e !=f) (.ok false) (gd (cD (a+1)) (d (a+1))))) (.ok true)) n 0)
instance Wy (p0:(List ByS)) (p1:(List ByS)):CT Pq 61 [yi p0,yi p1] [] (ot n p0 p1) (λx=>Bo x) (λ_=>[]):=by unfold ot;exact zz 0 func61
structure nE where
 kG:(List aK)->(List aK)->aI (Bool)
 kA:ak->ak->aI (Bool)
def qY (f:nE) (e:(List aK)) (g:(List aK)):aI (Bool):=
 br ((e.length:Int) !=(g.length:Int)) (.ok false) (dz [0,1,15] [] (λd=>[(16,I d)]) (λ_=>[]) (λi (d:Int)=>br (decide (d<e.length)) (ji 12 (el e d λa=>el g d λb=>br (a.aq !=b.aq) (.ok false) (br (a.eo !=b.eo) (.ok false) (br (a.ni !=b.ni) (.ok false) (br (!((a.B==b.B)&&(a.bT==b.bT))) (.ok false) (br (a.lR !=b.lR) (.ok false) (br ((a.bK.length:Int) !=(b.bK.length:Int)) (.ok false) (ag (ot n a.so b.so) λl=>br (!l) (.ok false) (ag (ot n a.J b.J) λm=>br (!m) (.ok false) (ag (f.kG a.lZ b.lZ) λo=>br (!o) (.ok false) (dz [0,1,6,7,15,16,93] [106,107] (λc=>[(94,I c)]) (λ_=>[]) (λh (c:Int)=>br (decide (c<a.bK.length)) (ji 12 (el a.bK c λj=>el b.bK c λk=>ag (f.kA j k) λp=>br (!p) (.ok false) (gd (cD (c+1)) (h (c+1))))) (gd (cD (d+1)) (i (d+1)))) n 0))))))))))) (.ok true)) n 0)
def sa (d:nE) (a:ak) (b:ak):aI (Bool):=
 br (a.aq !=b.aq) (.ok false) (br (a.bM !=b.bM) (.ok false) (br (a.U !=b.U) (.ok false) (br (!((a.B==b.B)&&(a.bT==b.bT))) (.ok false) (br ((a.bK.length:Int) !=(b.bK.length:Int)) (.ok false) (ag (ot n a.J b.J) λh=>br (!h) (.ok false) (dz [0,1,2,3,51] [102,103] (λc=>[(52,I c)]) (λ_=>[]) (λe (c:Int)=>br (decide (c<a.bK.length)) (ji 12 (el a.bK c λf=>el b.bK c λg=>ag (d.kA f g) λi=>br (!i) (.ok false) (gd (cD (c+1)) (e (c+1))))) (ag (d.kG a.fi b.fi) λj=>.ok j)) n 0))))))
def iC:Nat->nE
 | 0=>⟨λ_ _=>.stuck,λ_ _=>.stuck⟩
 | n+1=>⟨qY n (iC n),sa n (iC n)⟩
abbrev kG:=(iC n).kG
abbrev kA:=(iC n).kA
abbrev A6 (f:(List aK)->(List aK)->aI (Bool)):Prop:=∀ p0 p1,CT Pq 62 [.pv (.sl p0.length (aK.Cs p0)),.pv (.sl p1.length (aK.Cs p1))] [] (f p0 p1) (λx=>Bo x) (λ_=>[])
abbrev BO (f:ak->ak->aI (Bool)):Prop:=∀ p0 p1,CT Pq 33 [.agg (Q p0),.agg (Q p1)] [] (f p0 p1) (λx=>Bo x) (λ_=>[])
class n9 (T:nE):Prop where
 kG:A6 T.kG
 kA:BO T.kA
attribute [instance] n9.kG n9.kA
theorem FM (T:nE) [hT:n9 T]:A6 (qY n T):=λp0 p1=>by unfold qY;exact zz 0 func62
theorem Gz (T:nE) [hT:n9 T]:BO (sa n T):=λp0 p1=>by unfold sa;exact zz 0 func33
theorem vr:∀ n,n9 (iC n)
 | 0=>by constructor<;>(repeat intro)<;>exact rU
 | n+1=>have:=vr n;⟨FM n _,Gz n _⟩
attribute [instance] vr
def yx (b:fX) (c:fX):aI (Bool):=
 br (b.jD !=c.jD) (.ok false) (br ((b.eB.length:Int) !=(c.eB.length:Int)) (.ok false) (ag (ot n b.J c.J) λj=>br (!j) (.ok false) (dz [0,1,2,3,30] [102,103] (λa=>[(31,I a)]) (λ_=>[]) (λd (a:Int)=>br (decide (a<b.eB.length)) (ji 28 (el b.eB a λe=>el c.eB a λf=>br (e.Name !=f.Name) (.ok false) (el b.eB a λg=>el c.eB a λh=>br (g.Path !=h.Path) (.ok false) (gd (cD (a+1)) (d (a+1)))))) (ag (kG n b.fi c.fi) λi=>.ok i)) n 0)))
instance Ň (p0:fX) (p1:fX):CT Pq 21 [.agg (zj p0),.agg (zj p1)] [] (yx n p0 p1) (λx=>Bo x) (λ_=>[]):=by unfold yx;exact zz 0 func21
structure mH where
 jS:(List aK)->(List aK)->aI (Bool)
 kH:ak->ak->aI (Bool)
def qi (e:mH) (c:(List aK)) (d:(List aK)):aI (Bool):=
 dz [0,1,8] [] (λa=>[(9,I a)]) (λ_=>[]) (λg (a:Int)=>br (decide (a<c.length)) (ji 25 (el c a λh=>el d a λi=>br (h.cN !=i.cN) (.ok false) (el c a λj=>el d a λk=>ag (e.jS j.lZ k.lZ) λr=>br (!r) (.ok false) (el c a λl=>dz [0,1,5,8,9,42] [] (λb=>[(43,I b)]) (λ_=>[]) (λf (b:Int)=>br (decide (b<l.bK.length)) (ji 18 (el c a λm=>el m.bK b λo=>el d a λp=>el p.bK b λq=>ag (e.kH o q) λs=>br (!s) (.ok false) (gd (cD (b+1)) (f (b+1))))) (gd (cD (a+1)) (g (a+1)))) n 0)))) (.ok true)) n 0
def qZ (d:mH) (b:ak) (c:ak):aI (Bool):=
 dz [0,1,2,3,8] [102,103] (λa=>[(9,I a)]) (λ_=>[]) (λe (a:Int)=>br (decide (a<b.bK.length)) (ji 12 (el b.bK a λf=>el c.bK a λg=>ag (d.kH f g) λh=>br (!h) (.ok false) (gd (cD (a+1)) (e (a+1))))) (br (b.cN==c.cN) (ag (d.jS b.fi c.fi) λi=>.ok i) (.ok false))) n 0
def ja:Nat->mH
 | 0=>⟨λ_ _=>.stuck,λ_ _=>.stuck⟩
 | n+1=>⟨qi n (ja n),qZ n (ja n)⟩
abbrev jS:=(ja n).jS
abbrev kH:=(ja n).kH
abbrev zZ (f:(List aK)->(List aK)->aI (Bool)):Prop:=∀ p0 p1,CT Pq 22 [.pv (.sl p0.length (aK.Cs p0)),.pv (.sl p1.length (aK.Cs p1))] [] (f p0 p1) (λx=>Bo x) (λ_=>[])
abbrev A7 (f:ak->ak->aI (Bool)):Prop:=∀ p0 p1,CT Pq 34 [.agg (Q p0),.agg (Q p1)] [] (f p0 p1) (λx=>Bo x) (λ_=>[])
class nG (T:mH):Prop where
 jS:zZ T.jS
 kH:A7 T.kH
attribute [instance] nG.jS nG.kH
theorem EX (T:mH) [hT:nG T]:zZ (qi n T):=λp0 p1=>by unfold qi;exact zz 0 func22
theorem FN (T:mH) [hT:nG T]:A7 (qZ n T):=λp0 p1=>by unfold qZ;exact zz 0 func34
theorem uW:∀ n,nG (ja n)
 | 0=>by constructor<;>(repeat intro)<;>exact rU
 | n+1=>have:=uW n;⟨EX n _,FN n _⟩
attribute [instance] uW
def uI (b:fX) (c:fX):aI (Bool):=
 ag (yx n b c) λh=>br (!h) (.ok false) (dz [0,1,2,3,12] [102,103] (λa=>[(13,I a)]) (λ_=>[]) (λf (a:Int)=>br (decide (a<b.eB.length)) (ji 11 (el b.eB a λd=>el c.eB a λe=>br (!((d.Name==e.Name)&&(d.Path==e.Path)&&(d.cN==e.cN))) (.ok false) (gd (cD (a+1)) (f (a+1))))) (ag (jS n b.fi c.fi) λg=>.ok g)) n 0)
instance Ç (p0:fX) (p1:fX):CT Pq 8 [.agg (zj p0),.agg (zj p1)] [] (uI n p0 p1) (λx=>Bo x) (λ_=>[]):=by unfold uI;exact zz 0 func8
def A8 (a:aC):aI (Bool):=
 iu 3 [0,1,6] [101] (λd=>[(7,Bo d)]) (λ_=>[]) (λ(d:Bool)=>br d (.ok true) (br (a.aq==5) (dz [0,1,3] [101] (λb=>[(4,I b)]) (λ_=>[]) (λe (b:Int)=>br (decide (b<(List.length [([95,124,95]:ByS),([95]:ByS),([46,46,46]:ByS),([41]:ByS),([93]:ByS),([125]:ByS),([63]:ByS)]:Int))) (ji 7 (el [([95,124,95]:ByS),([95]:ByS),([46,46,46]:ByS),([41]:ByS),([93]:ByS),([125]:ByS),([63]:ByS)] b λf=>br (f==a.bM) (.ok true) (gd (cD (b+1)) (e (b+1))))) (.ok false)) n 0) (.ok false))) λc=>br (a.aq==1) (c ((a.aq==1))) (br (a.aq==2) (c ((a.aq==2))) (br (a.aq==3) (c ((a.aq==3))) (c ((a.aq==4)))))
instance abe (p0:aC):CT Pq 95 [.agg (nL p0)] [] (A8 n p0) (λx=>Bo x) (λ_=>[]):=by unfold A8;exact zz 0 func95
def xT (g:ByS) (b:(List aC)) (h:Int):aI (Bool):=
 gd (cD ((b.length:Int) - 1)) (dz [0,1,2] [] (λa=>[(7,I a)]) (λ_=>[]) (λf (a:Int)=>br (decide (a>=0)) (el b a λi=>br (i.aq==7) (.ok false) (el b a λj=>br (j.aq==6) (gd (cD (a - 1)) (f (a - 1))) (el b a λk=>dz [0,1,2,7] [] (λc=>[(8,I c)]) (λ_=>[]) (λe (c:Int)=>br (decide (c<h)) (el g c λd=>br ((d.toNat:Int)==10) (.ok false) (gd (cD (c+1)) (e (c+1)))) (el b a λl=>ag (A8 n l) λm=>.ok m)) n k.pO))) (.ok false)) n ((b.length:Int) - 1))
instance abf (p0:ByS) (p1:(List aC)) (p2:Int):CT Pq 48 [eu p0,EP p1,I p2] [] (xT n p0 p1 p2) (λx=>Bo x) (λ_=>[]):=by unfold xT;exact zz 0 func48
def sb (d:Int) (e:Int):aI (ByS):=
 dz [1] [] (λa=>[(0,I a.1),(5,eu a.2)]) (λ_=>[]) (λc (a:Int×ByS)=>iu 0 [0,1,5] [] (λ_=>[]) (λ_=>[]) (λ(f:Unit)=>gd ((10:Int)≠0) (gd (cD (48+(Int.tmod a.1 10))) (gd (Bp (jQ [IntKind.wrap .u8 (48+(Int.tmod a.1 10))]) a.2) (gd ((10:Int)≠0) (c (IntKind.wrap .i64 (Int.tdiv a.1 10),(jQ [IntKind.wrap .u8 (48+(Int.tmod a.1 10))])++a.2)))))) λb=>br (decide (a.1>0)) (b ()) (br (decide ((a.2.length:Int)<e)) (b ()) (.ok a.2))) n (d,([]:ByS))
instance È (p0:Int) (p1:Int):CT Pq 197 [I p0,I p1] [] (sb n p0 p1) (λx=>eu x) (λ_=>[]):=by unfold sb;exact zz 0 func197
def um (a:Int):aI (Bool):=
 br (decide (a>=(-1000000000000000))) (.ok ((decide (a<=1000000000000000)))) (.ok false)
instance ň (p0:Int):CT Pq 149 [I p0] [] (um p0) (λx=>Bo x) (λ_=>[]):=by unfold um;exact zz 0 func149
def AB (a:Int):aI (Int):=
 br (decide (a<0)) (.ok (IntKind.wrap .i64 (0 - a))) (.ok a)
instance adG (p0:Int):CT Pq 198 [I p0] [] (AB p0) (λx=>I x) (λ_=>[]):=by unfold AB;exact zz 0 func198
def A9 (c:Int):aI (ByS):=
 ag (um c) λj=>br (!j) (.ok (([63]:ByS))) (ag (AB c) λk=>gd ((10000:Int)≠0) (ag (sb n (IntKind.wrap .i64 (Int.tdiv k 10000)) 1) λd=>iu 0 [0] [] (λb=>[(3,eu b)]) (λ_=>[]) (λ(b:ByS)=>gd ((10000:Int)≠0) (br ((Int.tmod c 10000)==0) (.ok b) (ag (AB c) λh=>gd ((10000:Int)≠0) (ag (sb n (Int.tmod h 10000) 4) λi=>dz [0,3] [] (λa=>[(4,eu a)]) (λ_=>[]) (λg (a:ByS)=>gd (cD ((a.length:Int) - 1)) (el a ((a.length:Int) - 1) λf=>br ((f.toNat:Int)==48) (gd (cD ((a.length:Int) - 1)) (gd ((0:Int)<=((a.length:Int) - 1)/\((a.length:Int) - 1)<=(a.length:Int)) (g (sI a ((a.length:Int) - 1))))) (gd (Bp b ([46]:ByS)) (gd (Bp (b++([46]:ByS)) a) (.ok ((b++([46]:ByS))++a)))))) n i)))) λe=>br (decide (c<0)) (gd (Bp ([45]:ByS) d) (e (([45]:ByS)++d))) (e d)))
instance abg (p0:Int):CT Pq 150 [I p0] [] (A9 n p0) (λx=>eu x) (λ_=>[]):=by unfold A9;exact zz 0 func150
def ov (c:ByS):aI (Int×Int):=
 br (decide ((c.length:Int)>18)) (.ok (0,8)) (dz [0] [] (λa=>[(4,I a.1),(5,I a.2.1),(6,I a.2.2)]) (λ_=>[]) (λt (a:Int×Int×Int)=>br (decide (a.2.2<c.length)) (iu 0 [0,6] [] (λd=>[(4,I d.1),(5,I d.2)]) (λ_=>[]) (λ(d:Int×Int)=>gd (cD (a.2.2+1)) (t (d.1,d.2,a.2.2+1))) λf=>iu 0 [0,4,5,6] [] (λ_=>[]) (λ_=>[]) (λ(x:Unit)=>iu 1 [0,4,5,6] [] (λi=>[(33,Bo i)]) (λ_=>[]) (λ(i:Bool)=>br i (el c a.2.2 λg=>gd (cD ((IntKind.wrap .i64 (a.1*10))+(IntKind.wrap .i64 (IntKind.wrap .u8 ((g.toNat:Int) - 48))))) (br (decide (a.2.1>=0)) (gd (cD (a.2.1+1)) (f ((IntKind.wrap .i64 (a.1*10))+(IntKind.wrap .i64 (IntKind.wrap .u8 ((g.toNat:Int) - 48))),a.2.1+1))) (f ((IntKind.wrap .i64 (a.1*10))+(IntKind.wrap .i64 (IntKind.wrap .u8 ((g.toNat:Int) - 48))),a.2.1)))) (br (decide (a.2.2>0)) (.ok (0,8)) (el c a.2.2 λo=>br ((o.toNat:Int) !=45) (.ok (0,8)) (f (a.1,a.2.1))))) λl=>el c a.2.2 λp=>br (decide ((p.toNat:Int)>=48)) (el c a.2.2 λq=>l ((decide ((q.toNat:Int)<=57)))) (l false)) λk=>el c a.2.2 λr=>br ((r.toNat:Int)==46) (br (decide (a.2.1<0)) (f (a.1,0)) (k ())) (k ())) (iu 0 [0,4] [] (λj=>[(5,I j)]) (λ_=>[]) (λ(j:Int)=>dz [0] [] (λb=>[(4,I b.1),(5,I b.2)]) (λ_=>[]) (λu (b:Int×Int)=>br (decide (b.2<4)) (br (decide (b.1>1000000000000000)) (.ok (0,8)) (gd (cD (b.2+1)) (u (IntKind.wrap .i64 (b.1*10),b.2+1)))) (iu 0 [0] [] (λe=>[(4,I e)]) (λ_=>[]) (λ(e:Int)=>ag (um e) λv=>br (!v) (.ok (0,8)) (ag (A9 n e) λw=>br (w !=c) (.ok (0,8)) (.ok (e,0)))) λh=>br (decide ((c.length:Int)>0)) (el c 0 λs=>br ((s.toNat:Int)==45) (h (IntKind.wrap .i64 (0 - b.1))) (h b.1)) (h b.1))) n (a.1,j)) λm=>br (decide (a.2.1<0)) (m 0) (m a.2.1))) n (0,(-1),0))
instance ŉ (p0:ByS):CT Pq 99 [eu p0] [] (ov n p0) (λx=>.mE [I x.1,I x.2]) (λ_=>[]):=by unfold ov;exact zz 0 func99
def lU (a:Int):aI (Bool):=
 br (decide (a>=97)) (br (decide (a<=122)) (.ok true) (br (decide (a>=65)) (.ok ((decide (a<=90)))) (.ok false))) (br (decide (a>=65)) (.ok ((decide (a<=90)))) (.ok false))
instance É (p0:Int):CT Pq 108 [Sc (.int .u8 p0)] [] (lU p0) (λx=>Bo x) (λ_=>[]):=by unfold lU;exact zz 0 func108
end
section
variable (n:Nat)
def lK (a:Int):aI (Bool):=
 br (decide (a>=48)) (.ok ((decide (a<=57)))) (.ok false)
instance Ŋ (p0:Int):CT Pq 109 [Sc (.int .u8 p0)] [] (lK p0) (λx=>Bo x) (λ_=>[]):=by unfold lK;exact zz 0 func109
def Ba (a:Int):aI (Bool):=
 ag (lU a) λb=>br b (.ok true) (ag (lK a) λc=>br c (.ok true) (.ok ((a==95))))
instance abh (p0:Int):CT Pq 152 [Sc (.int .u8 p0)] [] (Ba p0) (λx=>Bo x) (λ_=>[]):=by unfold Ba;exact zz 0 func152
def yy (d:ByS) (a:Int):aI (Int):=
 gd (cD (a+1)) (iu 2 [0,1] [] (λc=>[(5,I c)]) (λ_=>[]) (λ(c:Int)=>el d a λi=>ag (lU (i.toNat:Int)) λk=>br k (.ok c) (el d a λf=>br ((f.toNat:Int)==95) (gd (cD (a+1)) (br (decide (c>(a+1))) (.ok c) (.ok a))) (el d a λg=>br ((g.toNat:Int)==35) (gd (cD (a+1)) (br (decide (c>(a+1))) (.ok c) (.ok a))) (.ok a)))) λe=>dz [0,1] [] (λb=>[(5,I b)]) (λ_=>[]) (λj (b:Int)=>br (decide (b<d.length)) (el d b λh=>ag (Ba (h.toNat:Int)) λl=>br l (gd (cD (b+1)) (j (b+1))) (e b)) (e b)) n (a+1))
instance ŋ (p0:ByS) (p1:Int):CT Pq 101 [eu p0,I p1] [] (yy n p0 p1) (λx=>I x) (λ_=>[]):=by unfold yy;exact zz 0 func101
def wT (d:ByS) (h:Int):aI (Int):=
 iu 2 [0,1] [] (λa=>[(5,I a)]) (λ_=>[]) (λ(a:Int)=>iu 1 [0,1,5] [] (λf=>[(41,Bo f)]) (λ_=>[]) (λ(f:Bool)=>br f (gd (cD (a+1)) (dz [0,1] [] (λb=>[(5,I b)]) (λ_=>[]) (λm (b:Int)=>br (decide (b<d.length)) (el d b λi=>ag (lK (i.toNat:Int)) λp=>br p (gd (cD (b+1)) (m (b+1))) (.ok b)) (.ok b)) n (a+1))) (.ok a)) λe=>br (decide (a>h)) (gd (cD (a+1)) (br (decide ((a+1)<(d.length:Int))) (el d a λj=>br ((j.toNat:Int)==46) (gd (cD (a+1)) (el d (a+1) λk=>ag (lK (k.toNat:Int)) λq=>e q)) (e false)) (e false))) (e false)) λg=>dz [0,1] [] (λc=>[(5,I c)]) (λ_=>[]) (λo (c:Int)=>br (decide (c<d.length)) (el d c λl=>ag (lK (l.toNat:Int)) λr=>br r (gd (cD (c+1)) (o (c+1))) (g c)) (g c)) n h
instance Ê (p0:ByS) (p1:Int):CT Pq 98 [eu p0,I p1] [] (wT n p0 p1) (λx=>I x) (λ_=>[]):=by unfold wT;exact zz 0 func98
def zF:aI ((List ByS)):=
 .ok ([([95,124,95]:ByS),([46,46,46]:ByS),([61,61]:ByS),([33,61]:ByS),([60,61]:ByS),([62,61]:ByS),([61,126]:ByS),([33,126]:ByS),([38,38]:ByS),([124,124]:ByS),([95]:ByS),([40]:ByS),([41]:ByS),([91]:ByS),([93]:ByS),([123]:ByS),([125]:ByS),([58]:ByS),([44]:ByS),([46]:ByS),([63]:ByS),([33]:ByS),([42]:ByS),([38]:ByS),([124]:ByS),([61]:ByS),([60]:ByS),([62]:ByS),([43]:ByS),([45]:ByS),([47]:ByS),([37]:ByS)])
instance Wz:CT Pq 151 [] [] (zF) (λx=>yi x) (λ_=>[]):=by unfold zF;exact zz 0 func151
def uo (d:ByS) (b:Int):aI (ByS):=
 ag zF λc=>dz [0,1,5] [] (λa=>[(6,I a)]) (λ_=>[]) (λf (a:Int)=>br (decide (a<c.length)) (ji 27 (gd (cD ((d.length:Int) - b)) (el c a λg=>br (decide (((d.length:Int) - b)>=(g.length:Int))) (el c a λe=>gd (cD (b+(e.length:Int))) (gd ((0:Int)<=b/\(b:Int)<=(b+(e.length:Int))/\(b+(e.length:Int))<=(d.length:Int)) (el c a λh=>br ((sub d b (b+(e.length:Int)))==h) (el c a λi=>.ok i) (gd (cD (a+1)) (f (a+1)))))) (gd (cD (a+1)) (f (a+1)))))) (.ok (([]:ByS)))) n 0
instance Ye (p0:ByS) (p1:Int):CT Pq 100 [eu p0,I p1] [] (uo n p0 p1) (λx=>eu x) (λ_=>[]):=by unfold uo;exact zz 0 func100
def AD (c:ByS) (e:Int):aI (Int×Bool):=
 gd (cD (e+1)) (dz [0,1] [] (λa=>[(6,Bo a.1),(7,I a.2)]) (λ_=>[]) (λi (a:Bool×Int)=>br (decide (a.2<c.length)) (iu 0 [0,1] [] (λb=>[(6,Bo b.1),(7,I b.2)]) (λ_=>[]) (λ(b:Bool×Int)=>gd (cD (b.2+1)) (i (b.1,b.2+1))) λd=>el c a.2 λf=>br ((f.toNat:Int)==34) (.ok (a.2,a.1)) (el c a.2 λg=>br ((g.toNat:Int)==92) (gd (cD (a.2+1)) (br a.1 (d (true,a.2+1)) (br (decide ((a.2+1)<(c.length:Int))) (el c (a.2+1) λh=>d (((h.toNat:Int)==40),a.2+1)) (d (false,a.2+1))))) (d (a.1,a.2)))) (.ok ((-1),false))) n (false,e+1))
instance adH (p0:ByS) (p1:Int):CT Pq 96 [eu p0,I p1] [] (AD n p0 p1) (λx=>.mE [I x.1,Bo x.2]) (λ_=>[]):=by unfold AD;exact zz 0 func96
def wg (a:Int):aI (Int):=
 ag (lK a) λc=>br c (gd (cD ((IntKind.wrap .i64 a) - 48)) (.ok ((IntKind.wrap .i64 a) - 48))) (iu 0 [0] [] (λ_=>[]) (λ_=>[]) (λ(d:Unit)=>br (decide (a>=65)) (br (decide (a<=70)) (gd (cD ((IntKind.wrap .i64 a) - 65)) (gd (cD (((IntKind.wrap .i64 a) - 65)+10)) (.ok (((IntKind.wrap .i64 a) - 65)+10)))) (.ok ((-1)))) (.ok ((-1)))) λb=>br (decide (a>=97)) (br (decide (a<=102)) (gd (cD ((IntKind.wrap .i64 a) - 97)) (gd (cD (((IntKind.wrap .i64 a) - 97)+10)) (.ok (((IntKind.wrap .i64 a) - 97)+10)))) (b ())) (b ()))
instance adI (p0:Int):CT Pq 230 [Sc (.int .u8 p0)] [] (wg p0) (λx=>I x) (λ_=>[]):=by unfold wg;exact zz 0 func230
def wU (b:ByS) (a:Int):aI (Int×Int):=
 gd (cD (a+1)) (br (decide ((a+1)>=(b.length:Int))) (.ok (0,0)) (el b a λp=>br ((p.toNat:Int) !=92) (.ok (0,0)) (gd (cD (a+1)) (el b (a+1) λc=>iu 2 [0,1,20] [] (λe=>[(21,Bo e)]) (λ_=>[]) (λ(e:Bool)=>br e (gd (cD (a+1)) (el b (a+1) λj=>.ok ((j.toNat:Int),2))) (br ((c.toNat:Int)==110) (.ok (10,2)) (br ((c.toNat:Int)==116) (.ok (9,2)) (br ((c.toNat:Int)==114) (.ok (13,2)) (iu 1 [0,1] [] (λf=>[(61,Bo f)]) (λ_=>[]) (λ(f:Bool)=>br f (vi [0,1,2,3,6,7,8,9,4,5,10,11,12,13,14] (gd (cD (a+2)) (el b (a+2) λk=>gd (cD (a+3)) (el b (a+3) λl=>ag (wg (k.toNat:Int)) λh=>ag (wg (l.toNat:Int)) λi=>gd (cD ((IntKind.wrap .i64 (16*h))+i)) (.ok (IntKind.wrap .u8 ((IntKind.wrap .i64 (16*h))+i),4)))))) (.ok (0,0))) λd=>gd (cD (a+1)) (el b (a+1) λm=>br ((m.toNat:Int)==120) (gd (cD (a+3)) (br (decide ((a+3)<(b.length:Int))) (gd (cD (a+2)) (el b (a+2) λo=>ag (wg (o.toNat:Int)) λr=>br (decide (r>=0)) (gd (cD (a+3)) (el b (a+3) λq=>ag (wg (q.toNat:Int)) λs=>d ((decide (s>=0))))) (d false))) (d false))) (d false))))))) λg=>br ((c.toNat:Int)==34) (g (((c.toNat:Int)==34))) (g (((c.toNat:Int)==92)))))))
instance Ë (p0:ByS) (p1:Int):CT Pq 196 [eu p0,I p1] [] (wU p0 p1) (λx=>.mE [Sc (.int .u8 x.1),I x.2]) (λ_=>[]):=by unfold wU;exact zz 0 func196
def nH (a:Int):aI (dH):=
 .ok ((dH.mk 8 a))
instance Ō (p0:Int):CT Pq 195 [I p0] [] (nH p0) (λx=>.agg [I x.eU,I x.At]) (λ_=>[]):=by unfold nH;exact zz 0 func195
def fM (b:ByS):aI (ByS×dH):=
 br (decide ((b.length:Int)>65536)) (.ok (([]:ByS),dH.mk 2 0)) (br ((b.length:Int)==0) (ag (nH 0) λi=>.ok (([]:ByS),i)) (el b 0 λh=>br ((h.toNat:Int) !=34) (ag (nH 0) λj=>.ok (([]:ByS),j)) (jk [[3,4,10004,1,5]] (dz [0,3] [103] (λa=>[(4,.arr 10004 a.1.length),(5,I a.2)]) (λa=>[(10004,.app 5 1 (Hk a.1))]) (λg (a:(List Int)×Int)=>br (decide (a.2<b.length)) (el b a.2 λd=>br ((d.toNat:Int)==34) (gd (cD (a.2+1)) (br (decide ((a.2+1)<(b.length:Int))) (gd (cD (a.2+1)) (ag (nH (a.2+1)) λk=>.ok (([]:ByS),k))) (oj [[22,41]] (.ok (jQ a.1,dH.mk 0 0))))) (br ((d.toNat:Int)==92) (ag (wU b a.2) λc=>br (c.2==0) (ag (nH a.2) λl=>.ok (([]:ByS),l)) (gd (nP 1 a.1.length (List.length [c.1])) (jk [[1,159,10004],[0,3,4,5,8],[103]] (gd (cD (a.2+c.2)) (gd (cD ((a.2+c.2) - 1)) (gd (cD (((a.2+c.2) - 1)+1)) (g (a.1++[c.1],((a.2+c.2) - 1)+1)))))))) (iu 0 [0,3,4,5,6] [103,10004] (λe=>[(69,Bo e)]) (λ_=>[]) (λ(e:Bool)=>br e (ag (nH a.2) λm=>.ok (([]:ByS),m)) (gd (nP 1 a.1.length (List.length [(d.toNat:Int)])) (jk [[1,175,10004],[0,3,4,5],[103]] (gd (cD (a.2+1)) (g (a.1++[(d.toNat:Int)],a.2+1)))))) λf=>br (decide ((d.toNat:Int)<32)) (f true) (f ((decide ((d.toNat:Int)>126))))))) (ag (nH (b.length:Int)) λo=>.ok (([]:ByS),o))) n ([],1)))))
instance Y0 (p0:ByS):CT Pq 148 [eu p0] [] (fM n p0) (λx=>.mE [eu x.1,.agg [I x.2.eU,I x.2.At]]) (λ_=>[]):=by unfold fM;exact zz 0 func148
def vt (b:ByS) (k:Int):aI (Int):=
 dz [0,1] [] (λa=>[(5,I a.1),(6,I a.2)]) (λ_=>[]) (λj (a:Int×Int)=>br (decide (a.2<b.length)) (iu 0 [0,1,6] [] (λd=>[(5,I d)]) (λ_=>[]) (λ(d:Int)=>gd (cD (a.2+1)) (j (d,a.2+1))) λc=>iu 0 [0,1,5,6] [] (λ_=>[]) (λ_=>[]) (λ(l:Unit)=>el b a.2 λf=>br ((f.toNat:Int)==40) (gd (cD (a.1+1)) (el b a.2 λg=>br ((g.toNat:Int)==41) (gd (cD ((a.1+1) - 1)) (c ((a.1+1) - 1))) (c (a.1+1)))) (el b a.2 λh=>br ((h.toNat:Int)==41) (gd (cD (a.1 - 1)) (c (a.1 - 1))) (c a.1))) λe=>el b a.2 λi=>br ((i.toNat:Int)==41) (br (a.1==0) (.ok a.2) (e ())) (e ())) (.ok ((-1)))) n (0,k)
instance Y1 (p0:ByS) (p1:Int):CT Pq 193 [eu p0,I p1] [] (vt n p0 p1) (λx=>I x) (λ_=>[]):=by unfold vt;exact zz 0 func193
def s9 (c:ByS) (b:Int):aI (Int):=
 dz [0,1] [] (λa=>[(5,I a)]) (λ_=>[]) (λd (a:Int)=>br (decide (a<=4)) (gd (cD (b+a)) (br (decide ((b+a)<=(c.length:Int))) (gd (cD (b+a)) (gd ((0:Int)<=b/\(b:Int)<=(b+a)/\(b+a)<=(c.length:Int)) (gd (Bp ([34]:ByS) (sub c b (b+a))) (gd (Bp (([34]:ByS)++(sub c b (b+a))) ([34]:ByS)) (ag (fM n ((([34]:ByS)++(sub c b (b+a)))++([34]:ByS))) λe=>br (e.2.eU==0) (br ((e.1.length:Int)==1) (.ok a) (gd (cD (a+1)) (d (a+1)))) (gd (cD (a+1)) (d (a+1)))))))) (.ok 0))) (.ok 0)) n 1
instance ō (p0:ByS) (p1:Int):CT Pq 194 [eu p0,I p1] [] (s9 n p0 p1) (λx=>I x) (λ_=>[]):=by unfold s9;exact zz 0 func194
def jE (b:ByS):aI ((List cB)×dH):=
 jk [[3,4,10004,3,192]] (dz [0,3] [103] (λa=>[(4,.arr 10004 a.1.length),(5,eu a.2.1),(6,I a.2.2.1),(7,I a.2.2.2)]) (λa=>[(10004,.app 192 3 (cB.Cs a.1))]) (λi (a:(List cB)×ByS×Int×Int)=>br (decide (a.2.2.2<b.length)) (iu 1 [0,3,4,5,6,7] [103,10004] (λg=>[(33,Bo g)]) (λ_=>[]) (λ(g:Bool)=>br g (gd (cD (a.2.2.2+2)) (ag (vt n b (a.2.2.2+2)) λc=>br (decide (c<0)) (s6 [[9,2]] (.ok ([],dH.mk 8 a.2.2.2))) (iu 0 [0,3,7,8] [103] (λe=>[(4,.arr 10004 e.length)]) (λe=>[(10004,.app 192 3 (cB.Cs e))]) (λ(e:(List cB))=>gd (cD (a.2.2.2+2)) (gd ((0:Int)<=(a.2.2.2+2)/\((a.2.2.2+2):Int)<=c/\c<=(b.length:Int)) (gd (cD (a.2.2.2+2)) (gd (nP 32 e.length (List.length [cB.mk (sub b (a.2.2.2+2) c) true (a.2.2.2+2)])) (jk [[1,161,10004],[0,3,4,8],[103]] (gd (cD (c+1)) (gd (cD (c+1)) (i (e++[cB.mk (sub b (a.2.2.2+2) c) true (a.2.2.2+2)],([]:ByS),c+1,c+1))))))))) λh=>br (decide (a.2.2.2>a.2.2.1)) (gd (nP 32 a.1.length (List.length [cB.mk a.2.1 false a.2.2.1])) (jk [[1,150,10004],[0,3,4,7,8],[103]] (h (a.1++[cB.mk a.2.1 false a.2.2.1])))) (h a.1)))) (ag (s9 n b a.2.2.2) λd=>br (d==0) (s6 [[9,2]] (.ok ([],dH.mk 8 a.2.2.2))) (gd (cD (a.2.2.2+d)) (gd ((0:Int)<=a.2.2.2/\(a.2.2.2:Int)<=(a.2.2.2+d)/\(a.2.2.2+d)<=(b.length:Int)) (gd (Bp ([34]:ByS) (sub b a.2.2.2 (a.2.2.2+d))) (gd (Bp (([34]:ByS)++(sub b a.2.2.2 (a.2.2.2+d))) ([34]:ByS)) (ag (fM n ((([34]:ByS)++(sub b a.2.2.2 (a.2.2.2+d)))++([34]:ByS))) λj=>gd (Bp a.2.1 j.1) (gd (cD (a.2.2.2+d)) (i (a.1,a.2.1++j.1,a.2.2.1,a.2.2.2+d)))))))))) λf=>el b a.2.2.2 λk=>br ((k.toNat:Int)==92) (gd (cD (a.2.2.2+1)) (br (decide ((a.2.2.2+1)<(b.length:Int))) (gd (cD (a.2.2.2+1)) (el b (a.2.2.2+1) λl=>f (((l.toNat:Int)==40)))) (f false))) (f false)) (br (decide (a.2.2.1<b.length)) (gd (nP 32 a.1.length (List.length [cB.mk a.2.1 false a.2.2.1])) (jk [[1,200,10004],[0,3,4],[103]] (oj [[22,101]] (.ok (a.1++[cB.mk a.2.1 false a.2.2.1],dH.mk 0 0))))) (oj [[22,101]] (.ok (a.1,dH.mk 0 0))))) n ([],([]:ByS),0,0))
instance Ì (p0:ByS):CT Pq 147 [eu p0] [] (jE n p0) (λx=>.mE [.pv (.sl x.1.length (cB.Cs x.1)),.agg [I x.2.eU,I x.2.At]]) (λ_=>[]):=by unfold jE;exact zz 0 func147
def vS (c:ByS) (b:Int) (a:Int) (e:Bool):aI (aC×Bool):=
 br e (gd (cD (b+1)) (gd ((0:Int)<=(b+1)/\((b+1):Int)<=a/\a<=(c.length:Int)) (ag (jE n (sub c (b+1) a)) λf=>ji 14 (gd (cD (b+1)) (gd ((0:Int)<=(b+1)/\((b+1):Int)<=a/\a<=(c.length:Int)) (gd (cD (a+1)) (.ok (aC.mk 4 (sub c (b+1) a) b (a+1),(f.2.eU==0))))))))) (gd (cD (a+1)) (gd ((0:Int)<=b/\(b:Int)<=(a+1)/\(a+1)<=(c.length:Int)) (ag (fM n (sub c b (a+1))) λd=>ji 10 (gd (cD (a+1)) (.ok (aC.mk 3 d.1 b (a+1),(d.2.eU==0)))))))
instance abi (p0:ByS) (p1:Int) (p2:Int) (p3:Bool):CT Pq 97 [eu p0,I p1,I p2,Bo p3] [] (vS n p0 p1 p2 p3) (λx=>.mE [.agg (nL x.1),Bo x.2]) (λ_=>[]):=by unfold vS;exact zz 0 func97
def uq (b:ByS) (a:Int):aI (aC×Bool):=
 el b a λq=>br ((q.toNat:Int)==34) (ag (AD n b a) λj=>br (decide (j.1<0)) (.ok (aC.mk 0 [] 0 0,false)) (ag (vS n b a j.1 j.2) λo=>.ok (o.1,o.2))) (iu 1 [0,1,4] [104] (λh=>[(46,Bo h)]) (λ_=>[]) (λ(h:Bool)=>br h (iu 1 [0,1,4] [104] (λf=>[(8,I f)]) (λ_=>[]) (λ(f:Int)=>gd (cD (a+2)) (gd ((0:Int)<=(a+2)/\((a+2):Int)<=f/\f<=(b.length:Int)) (.ok (aC.mk 6 (sub b (a+2) f) a f,true)))) λl=>dz [0,1,4] [104] (λc=>[(8,I c)]) (λ_=>[]) (λr (c:Int)=>br (decide (c<b.length)) (el b c λp=>br ((p.toNat:Int) !=10) (gd (cD (c+1)) (r (c+1))) (l c)) (l c)) n a) (ag (wT n b a) λd=>br (decide (d>a)) (gd ((0:Int)<=a/\(a:Int)<=d/\d<=(b.length:Int)) (ag (ov n (sub b a d)) λs=>gd ((0:Int)<=a/\(a:Int)<=d/\d<=(b.length:Int)) (.ok (aC.mk 2 (sub b a d) a d,(s.2==0))))) (ag (uo n b a) λg=>ag (yy n b a) λe=>iu 1 [0,1,4,12,13] [104] (λi=>[(107,Bo i)]) (λ_=>[]) (λ(i:Bool)=>br i (gd ((0:Int)<=a/\(a:Int)<=e/\e<=(b.length:Int)) (.ok (aC.mk 1 (sub b a e) a e,true))) (gd (cD (a+(g.length:Int))) (.ok (aC.mk 5 g a (a+(g.length:Int)),(g !=([]:ByS)))))) λm=>br (decide (e>a)) (gd (cD (e - a)) (m ((decide ((e - a)>=(g.length:Int)))))) (m false)))) λk=>gd (cD ((b.length:Int) - a)) (br (decide (((b.length:Int) - a)>=2)) (gd (cD (a+2)) (gd ((0:Int)<=a/\(a:Int)<=(a+2)/\(a+2)<=(b.length:Int)) (k (((sub b a (a+2))==([47,47]:ByS)))))) (k false)))
instance abj (p0:ByS) (p1:Int):CT Pq 49 [eu p0,I p1] [] (uq n p0 p1) (λx=>.mE [.agg (nL x.1),Bo x.2]) (λ_=>[]):=by unfold uq;exact zz 0 func49
end
end Go.Abs
