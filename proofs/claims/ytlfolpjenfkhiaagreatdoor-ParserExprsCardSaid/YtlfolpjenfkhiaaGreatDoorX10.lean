/- PROVED: lemmas of the proof of: configlanglaw26.ParserExprs returns true for every input. CONDITIONS: as each lemma states. -/
import Derived.Test.YtlfolpjenfkhiaaGreatDoorX9
set_option linter.all false
namespace Go.Abs
open Go.Proofs aG
set_option maxRecDepth 100000
set_option maxHeartbeats 2000000
structure aN where
 cJ:Bool->ah->aG (ak×ah)
 cH:Int->Bool->ah->aG (ak×ah)
 dq:Bool->ah->aG ((List aK)×(List ByS)×ah)
 gJ:aK->Bool->ah->aG (aK×ah)
 cU:Bool->ah->aG (ak×ah)
 cE:Bool->ah->aG (aK×ah)
 de:Bool->ByS->ah->aG ((List aK)×(List ByS)×ah)
 eP:aK->Bool->ah->aG (aK×ah)
 ax:Bool->ah->aG (ak×ah)
 ja:aB->ah->aG (ak×ah)
 fK:aB->ah->aG (ak×ah)
 eS:ah->aG (ak×ah)
 jB:aB->ah->aG (ak×ah)
 eT:Bool->ah->aG (ak×ah)
 dM:Bool->ah->aG (ak×ah)
 dD:Bool->ah->aG (ak×ah)
 pj:ByS->Int->aG (ak×Bool)
def eC (n:Nat) (b:aN) (e:Bool) (f:ah):aG (ak×ah):=
 ag (aY n f) λa=>ag (cg a.1 [42]) λh=>br (!h) (ag (b.cU e a.2) λd=>.ok (d.1,d.2)) (ag (bu n a.2) λg=>uD [0,3,4,1,2,5,6] (ag (b.cU false g.2) λc=>.ok (ak.mk 18 [] 0 [] [] [c.1] [] [] a.1.cG,c.2)))
def eE (n:Nat) (c:aN) (b:Int) (h:Bool) (i:ah):aG (ak×ah):=
 br (b==5) (ag (c.dD h i) λk=>.ok (k.1,k.2)) (gd (cD (b+1)) (ag (c.cH (b+1) h i) λl=>dG [0,1,2,6,7] [106] (λ_=>[]) (λa=>[(0,.box (K a.1)),(107,.box (Q a.2))]) (λm (a:ah×ak)=>ag (cL a.1) λd=>br d.1 (ag (aY n d.2) λe=>ag (tN n e.1 b) λo=>br o (ag (bu n e.2) λf=>ag (eo n a.2 f.1 f.2) λg=>uD [0,1,2,3,4,5,8,9,6,7,10,11] (gd (cD (b+1)) (ag (c.cH (b+1) false g.2) λj=>m (j.2,ak.mk 20 f.1.bJ 0 [] [] [g.1,j.1] [] [] g.1.cG)))) (.ok (a.2,e.2))) (.ok (a.2,d.2))) n (l.2,l.1)))
def fD (n:Nat) (e:aN) (f:Bool) (d:ah):aG ((List aK)×(List ByS)×ah):=
 ag (cF n [123] d) λa=>ag (e.de f [125] (ah.mk a.s a.shift a.l a.bB false a.iR a.qW)) λc=>ag (cF n [125] c.2.2) λb=>.ok (c.1,c.2.1,ah.mk b.s b.shift b.l b.bB d.skip b.iR b.qW)
def jQ (n:Nat) (c:aN) (b:aK) (e:Bool) (h:ah):aG (aK×ah):=
 ag (jE n h) λa=>br (a.2.2.1==0) (ag (c.eP b e a.2.2.2) λg=>.ok (g.1,g.2)) (gV 0 [0,1,2,4,6,7,9] [0,104,106] (λ_=>[]) (λ_=>[]) (λ(k:Unit)=>gd (cD (a.2.2.2.bB+a.2.2.1)) (ag (c.ax e (ah.mk a.2.2.2.s a.2.2.2.shift a.2.2.2.l (a.2.2.2.bB+a.2.2.1) a.2.2.2.skip a.2.2.2.iR a.2.2.2.qW)) λf=>.ok (aK.mk 2 b.cS a.1 b.B b.bE [f.1] b.jf b.J b.oO b.iG b.cG,f.2))) λd=>ag (la n a.1) λi=>br (decide (a.2.1>=0)) (br (i.2.dX !=0) (ag (bO a.2.1 a.2.2.2) λj=>.ok (b,j)) (d ())) (d ()))
def eD (n:Nat) (d:aN) (e:Bool) (i:ah):aG (ak×ah):=
 ag (d.cH 0 e i) λg=>dG [0,1,4,5] [104] (λ_=>[]) (λa=>[(0,.box (K a.1)),(105,.box (Q a.2))]) (λh (a:ah×ak)=>ag (cL a.1) λb=>br b.1 (ag (aY n b.2) λc=>ag (cg c.1 [38]) λj=>br j (ag (bu n c.2) λk=>uD [0,1,2,5,6,3,4,7,8] (ag (d.cH 0 e k.2) λf=>h (f.2,ak.mk 16 [] 0 [] [] [a.2,f.1] [] [] a.2.cG))) (.ok (a.2,c.2))) (.ok (a.2,b.2))) n (g.2,g.1)
def fg (n:Nat) (d:aN) (e:Bool) (v:ah):aG (aK×ah):=
 ag (aY n v) λa=>gV 2 [0,1,4,5,6] [104,105,106] (λc=>[(20,Bo c.2)]) (λc=>[(0,.box (K c.1))]) (λ(c:ah×Bool)=>br c.2 (ag (bu n c.1) λx=>gV 0 [0,1,4,6] [104] (λ_=>[]) (λb=>[(0,.box (K b.1)),(106,.box [I b.2.an,I b.2.cS,eu b.2.jb,eu b.2.B,eu b.2.bE,.pv (.sl (List.length ([]:List ak)) (ak.Cs [])),.pv (.sl (List.length ([]:List aK)) (aK.Cs [])),.pv (.sl (List.length ([]:List ByS)) (hO [])),.pv (.sl (List.length ([]:List ByS)) (hO [])),eu b.2.iG,I b.2.cG])]) (λ(b:ah×aK)=>ag (cF n [58] b.1) λy=>ag (d.ax e y) λm=>.ok (aK.mk b.2.an b.2.cS b.2.jb b.2.B b.2.bE [m.1] [] [] [] b.2.iG b.2.cG,m.2)) λf=>ag (aY n x.2) λg=>ag (cg g.1 [63]) λz=>br z (ag (bu n g.2) λa0=>f (a0.2,aK.mk 1 3 a.1.bJ [] [] [] [] [] [] [] a.1.cG)) (ag (aY n g.2) λh=>ag (cg h.1 [33]) λb0=>br b0 (ag (bu n h.2) λc0=>f (c0.2,aK.mk 1 2 a.1.bJ [] [] [] [] [] [] [] a.1.cG)) (f (h.2,aK.mk 1 1 a.1.bJ [] [] [] [] [] [] [] a.1.cG)))) (ag (cg a.1 [91]) λd0=>br d0 (ag (d.gJ (aK.mk 0 0 [] [] [] [] [] [] [] [] a.1.cG) e c.1) λo=>.ok (o.1,o.2)) (ag (kt a.1 [108,101,116]) λe0=>br e0 (br (!e) (ag (bO a.1.cG c.1) λf0=>.ok (aK.mk 0 0 [] [] [] [] [] [] [] [] a.1.cG,f0)) (ag (bu n c.1) λg0=>ag (iO n g0.2) λp=>ag (cF n [61] p.2) λh0=>ag (d.ax true h0) λq=>.ok (aK.mk 4 0 p.1 [] [] [q.1] [] [] [] [] a.1.cG,q.2))) (ag (kt a.1 [105,102]) λi0=>br i0 (ag (bu n c.1) λj0=>ag (d.ax false j0.2) λr=>ag (d.dq false r.2) λi=>.ok (aK.mk 5 0 [] [] [] [r.1] i.1 i.2.1 [] [] a.1.cG,i.2.2)) (ag (kt a.1 [102,111,114]) λk0=>br k0 (ag (bu n c.1) λl0=>ag (lg n l0.2) λj=>ag (d.ax false j.2) λs=>ag (d.dq false s.2) λk=>.ok (aK.mk 6 0 [] j.1.x0 j.1.x1 [s.1] k.1 k.2.1 [] [] a.1.cG,k.2.2)) (ag (cg a.1 [46,46,46]) λm0=>br m0 (br (!e) (ag (bO a.1.cG c.1) λn0=>.ok (aK.mk 0 0 [] [] [] [] [] [] [] [] a.1.cG,n0)) (ag (bu n c.1) λo0=>.ok (aK.mk 8 0 [] [] [] [] [] [] [] [] a.1.cG,o0.2))) (ag (d.eP (aK.mk 0 0 [] [] [] [] [] [] [] [] a.1.cG) e c.1) λt=>.ok (t.1,t.2)))))))) λl=>ag (qd n a.1) λp0=>br p0 (ag (cK 1 a.2) λu=>ag (jC n u.1 [([58]:ByS),([63]:ByS),([33]:ByS)]) λw=>l (u.2,w)) (l (a.2,false))
def jw (n:Nat) (r:aN) (s:Bool) (h:ByS) (t:ah):aG ((List aK)×(List ByS)×ah):=
 jU [[3,2,10002,1,9]] (jU [[4,10,10010,11,43]] (dG [0,1,3] [] (λa=>[(2,.arr 10002 a.2.1.length),(10,.arr 10010 a.2.2.1.length),(11,Bo a.2.2.2.1),(12,I a.2.2.2.2)]) (λa=>[(0,.box (K a.1)),(10002,.app 9 1 (hO a.2.1)),(10010,.arr 43 11 (aK.Cs a.2.2.1))]) (λf (a:ah×(List ByS)×(List aK)×Bool×Int)=>ag (cL a.1) λk=>br k.1 (ag (aY n k.2) λc=>gV 0 [0,1,2,3,10,11,12,13] [0,113,10002,10010] (λi=>[(41,Bo i)]) (λ_=>[]) (λ(i:Bool)=>br i (ag (bu n c.2) λv=>f (v.2,a.2.1,a.2.2.1,true,a.2.2.2.2)) (gV 0 [0,1,2,3,10,11,12,13] [113,10002,10010] (λd=>[(51,Bo d.2)]) (λd=>[(0,.box (K d.1))]) (λ(d:ah×Bool)=>br d.2 (ag (bu n d.1) λw=>gd (ob 16 a.2.1.length (List.length [c.1.bJ])) (jU [[1,165,10002],[0,1,2,3,10,11,12],[10010,0]] (f (w.2,a.2.1++[c.1.bJ],a.2.2.1,a.2.2.2.1,a.2.2.2.2)))) (br (c.1.an==6) (br ((a.2.2.1.length:Int)==0) (ag (bO c.1.cG d.1) λx=>f (x,a.2.1,a.2.2.1,a.2.2.2.1,a.2.2.2.2)) (ag (kC n a.2.2.2.2 c.1.cG d.1) λm=>br m.1 (ag (bO c.1.cG m.2) λy=>f (y,a.2.1,a.2.2.1,a.2.2.2.1,a.2.2.2.2)) (ag (bu n m.2) λz=>gd (cD ((a.2.2.1.length:Int) - 1)) (el a.2.2.1 ((a.2.2.1.length:Int) - 1) λe=>jU [[17,10]] (f (z.2,a.2.1,List.set a.2.2.1 ((a.2.2.1.length:Int) - 1).toNat (aK.mk e.an e.cS e.jb e.B e.bE e.bF e.jf e.J e.oO c.1.bJ e.cG),a.2.2.2.1,a.2.2.2.2)))))) (gV 0 [0,1,2,3,10,11,12,13] [0,113,10002,10010] (λj=>[(94,Bo j)]) (λ_=>[]) (λ(j:Bool)=>br j (oz [[22,112]] (tG [[12,8]] (.ok (a.2.2.1,a.2.1,d.1)))) (br (!a.2.2.2.1) (ag (bO c.1.cG d.1) λa0=>f (a0,a.2.1,a.2.2.1,a.2.2.2.1,a.2.2.2.2)) (ag (r.cE s d.1) λb=>oz [[22,22]] (gd (ob 184 a.2.2.1.length (List.length [aK.mk b.1.an b.1.cS b.1.jb b.1.B b.1.bE b.1.bF b.1.jf b.1.J a.2.1 b.1.iG b.1.cG])) (jU [[2,127,10010],[0,1,2,3,10],[0]] (Cz 14 (gd (cD (b.2.bB - 1)) (el b.2.l (if b.2.bB - 1>0 then b.2.bB - 1 else 0) λu=>jU [[3,2,10002,1,9]] (f (b.2,[],a.2.2.1++[aK.mk b.1.an b.1.cS b.1.jb b.1.B b.1.bE b.1.bF b.1.jf b.1.J a.2.1 b.1.iG b.1.cG],false,u.oZ)))))))))) λg=>br (c.1.an==0) (br (h==([]:ByS)) (g true) (br (h !=([]:ByS)) (ag (cg c.1 h) λb0=>g b0) (g false))) (br (h !=([]:ByS)) (ag (cg c.1 h) λc0=>g c0) (g false))))) λp=>br (c.1.an==6) (ag (mY n c.2) λq=>p (q.2,q.1)) (p (c.2,false)))) λo=>br (c.1.an==7) (o true) (ag (cg c.1 [44]) λd0=>o d0)) (tG [[9,8]] (tG [[9,9]] (.ok ([],[],k.2))))) n (t,[],[],true,0)))
def iP (n:Nat) (d:aN) (a:aK) (i:Bool) (r:ah):aG (aK×ah):=
 gV 1 [0,1,2,4,6] [104,106] (λ_=>[]) (λf=>[(0,.box (K f))]) (λ(f:ah)=>ag (d.ax i f) λq=>.ok (aK.mk 3 a.cS a.jb a.B a.bE [q.1] a.jf a.J a.oO a.iG a.cG,q.2)) λh=>ag (aY n r) λg=>ag (cg g.1 [40]) λu=>br u (ag (kf n g.2) λb=>gV 0 [0,1,2,4,6] [0,104,106] (λe=>[(47,Bo e)]) (λ_=>[]) (λ(e:Bool)=>br e (ag (eH n b.2) λj=>ag (d.ax i j.2) λk=>ag (ca n [41] j.1 k.2) λv=>jg 6 (ag (aY n v) λm=>ag (eo n k.1 m.1 m.2) λo=>ag (cF n [58] o.2) λw=>jg 6 (ag (d.ax false w) λp=>.ok (aK.mk 7 a.cS a.jb a.B a.bE [o.1,p.1] a.jf a.J a.oO a.iG a.cG,p.2)))) (h b.2)) λc=>br (decide (b.1>=0)) (el b.2.l b.1 λs=>ag (cg s [41]) λx=>br x (gd (cD (b.1+1)) (br (decide ((b.1+1)<(b.2.l.length:Int))) (gd (cD (b.1+1)) (el b.2.l (b.1+1) λt=>ag (cg t [58]) λy=>c y)) (c false))) (c false)) (c false)) (h g.2)
def dy (n:Nat) (d:aN) (e:Bool) (r:ah):aG (ak×ah):=
 ag (aY n r) λg=>ag (cg g.1 [42]) λk=>jnF 0 (λb=>[(0,.ptr 0 0),(1,Bo e),(4,.ptr 104 0),(5,Bo k),(6,.ptr 106 0)]) (λb=>[(0,.box (K b.1)),(104,.box [I 0,eu [],I 0,eu [],eu [],.pv (.sl (List.length ([]:List ak)) (ak.Cs [])),.pv (.sl (List.length ([]:List aK)) (aK.Cs [])),.pv (.sl (List.length ([]:List ByS)) (hO [])),I 0]),(106,.box (Q b.2))]) (λ(b:ah×ak)=>ag (aY n b.1) λc=>ag (cg c.1 [124]) λs=>br (!s) (br k (ag (bO c.1.cG c.2) λt=>.ok (b.2,t)) (.ok (b.2,c.2))) (jg 6 (ag (aY n c.2) λm=>ag (eo n b.2 m.1 m.2) λf=>oz [[21,36]] (jU [[2,136,26917],[0,1,4,8],[0,104,108]] (Ni (λa=>[(0,.ptr 0 0),(1,Bo e),(4,.ptr 104 0),(8,.ptr 108 0)]) (λa=>[(0,.box (K a.1)),(104,.box [I 0,eu [],I 0,eu [],eu [],.pv (.sl (List.length ([]:List ak)) (ak.Cs [])),.pv (.sl (List.length ([]:List aK)) (aK.Cs [])),.pv (.sl (List.length ([]:List ByS)) (hO [])),I 0]),(108,.box [I a.2.an,eu a.2.bJ,I a.2.U,eu a.2.B,eu a.2.bE,.arr 26917 a.2.bF.length,.pv (.sl (List.length ([]:List aK)) (aK.Cs [])),.pv (.sl (List.length ([]:List ByS)) (hO [])),I a.2.cG]),(26917,.arr 38 9 (ak.Cs a.2.bF))]) (λq (a:ah×ak)=>ag (cL a.1) λh=>br h.1 (ag (aY n h.2) λi=>ag (cg i.1 [124]) λu=>br u (ag (bu n i.2) λv=>Cz 8 (ag (d.cJ false v.2) λj=>gd (ob 144 a.2.bF.length (List.length [j.1])) (jU [[2,154,26917],[0,1,4,8],[0,104,108]] (q (j.2,ak.mk a.2.an a.2.bJ a.2.U a.2.B a.2.bE (a.2.bF++[j.1]) [] [] a.2.cG))))) (oz [[11,108,5]] (.ok (ak.mk a.2.an a.2.bJ a.2.U a.2.B a.2.bE a.2.bF [] [] a.2.cG,i.2)))) (oz [[11,108,5]] (.ok (ak.mk a.2.an a.2.bJ a.2.U a.2.B a.2.bE a.2.bF [] [] a.2.cG,h.2)))) n (f.2,ak.mk 17 [] 0 [] [] [f.1] [] [] f.1.cG)))))) λl=>br e (ag (d.cJ (!k) g.2) λo=>l (o.2,o.1)) (ag (d.cJ false g.2) λp=>l (p.2,p.1))
def lh (n:Nat) (q:aN) (b:aB) (r:ah):aG (ak×ah):=
 ag (bu n r) λd=>br (b.bJ==([110,117,108,108]:ByS)) (tG [[7,104]] (.ok (ak.mk 1 [] 0 [] [] [] [] [] b.cG,d.2))) (br (b.bJ==([116,114,117,101]:ByS)) (tG [[7,104]] (.ok (ak.mk 2 [] 1 [] [] [] [] [] b.cG,d.2))) (br (b.bJ==([102,97,108,115,101]:ByS)) (tG [[7,104]] (.ok (ak.mk 2 [] 0 [] [] [] [] [] b.cG,d.2))) (gV 0 [0,1,3,4] [0,103,104] (λi=>[(27,Bo i)]) (λ_=>[]) (λ(i:Bool)=>br i (tG [[7,104]] (.ok (ak.mk 8 b.bJ 0 [] [] [] [] [] b.cG,d.2))) (ag (oa n b) λs=>br (!s) (ag (bO b.cG d.2) λt=>tG [[7,104]] (.ok (ak.mk 0 [] 0 [] [] [] [] [] 0,t))) (ag (aY n d.2) λj=>ag (cg j.1 [40]) λu=>br (!u) (tG [[7,104]] (.ok (ak.mk 10 b.bJ 0 [] [] [] [] [] b.cG,j.2))) (ag (eH n j.2) λp=>gV 0 [0,1,4,5,6] [104] (λ_=>[]) (λc=>[(0,.box (K c.1)),(105,.box [I c.2.an,eu c.2.bJ,I c.2.U,eu c.2.B,eu c.2.bE,.arr 26725 c.2.bF.length,nSl,nSl,I c.2.cG]),(26725,.arr 38 9 (ak.Cs c.2.bF))]) (λ(c:ah×ak)=>ag (ca n [41] p.1 c.1) λv=>oz [[11,105,5]] (tG [[7,104]] (.ok (ak.mk c.2.an c.2.bJ c.2.U c.2.B c.2.bE c.2.bF [] [] c.2.cG,v)))) λh=>jU [[6,105,5,26725,9,38]] (dG [0,1,4,5,6] [104] (λ_=>[]) (λa=>[(0,.box (K a.1)),(105,.box [I a.2.an,eu a.2.bJ,I a.2.U,eu a.2.B,eu a.2.bE,.arr 26725 a.2.bF.length,nSl,nSl,I a.2.cG]),(26725,.arr 38 9 (ak.Cs a.2.bF))]) (λo (a:ah×ak)=>ag (cL a.1) λk=>br k.1 (ag (aY n k.2) λl=>ag (cg l.1 [41]) λw=>br (!w) (Cz 8 (ag (q.ax false l.2) λe=>gd (ob 144 a.2.bF.length (List.length [e.1])) (jU [[2,174,26725],[0,1,4,5,6],[0,104,105]] (ag (aY n e.2) λm=>ag (cg m.1 [41]) λx=>br x (h (m.2,ak.mk a.2.an a.2.bJ a.2.U a.2.B a.2.bE (a.2.bF++[e.1]) [] [] a.2.cG)) (ag (cF n [44] m.2) λy=>ag (aY n y) λg=>ag (cg g.1 [41]) λz=>br z (ag (bO g.1.cG g.2) λa0=>o (a0,ak.mk a.2.an a.2.bJ a.2.U a.2.B a.2.bE (a.2.bF++[e.1]) [] [] a.2.cG)) (o (g.2,ak.mk a.2.an a.2.bJ a.2.U a.2.B a.2.bE (a.2.bF++[e.1]) [] [] a.2.cG))))))) (h (l.2,ak.mk a.2.an a.2.bJ a.2.U a.2.B a.2.bE a.2.bF [] [] a.2.cG))) (h (k.2,ak.mk a.2.an a.2.bJ a.2.U a.2.B a.2.bE a.2.bF [] [] a.2.cG))) n (p.2,ak.mk 21 b.bJ 0 [] [] [] [] [] b.cG)))))) λf=>br (b.bJ==([98,111,111,108]:ByS)) (f ((b.bJ==([98,111,111,108]:ByS)))) (br (b.bJ==([105,110,116]:ByS)) (f ((b.bJ==([105,110,116]:ByS)))) (br (b.bJ==([110,117,109,98,101,114]:ByS)) (f ((b.bJ==([110,117,109,98,101,114]:ByS)))) (f ((b.bJ==([115,116,114,105,110,103]:ByS)))))))))
def kv (n:Nat) (i:aN) (b:aB) (j:ah):aG (ak×ah):=
 ag (bu n j) λe=>ag (jh n b.bJ) λc=>br (c.2.dX !=0) (ag (bO b.cG e.2) λm=>tG [[7,104]] (.ok (ak.mk 0 [] 0 [] [] [] [] [] 0,m))) (jU [[6,105,5,26725,9,38]] (dG [0,1,3,4,5,6] [0,103,104] (λa=>[(8,I a.2)]) (λa=>[(105,.box [I a.1.an,eu a.1.bJ,I a.1.U,eu a.1.B,eu a.1.bE,.arr 26725 a.1.bF.length,nSl,nSl,I a.1.cG]),(26725,.arr 38 9 (ak.Cs a.1.bF))]) (λg (a:ak×Int)=>br (decide (a.2<c.1.length)) (jg 10 (gd (cD (b.cG+1)) (el c.1 a.2 λd=>gd (cD ((b.cG+1)+d.cG)) (el c.1 a.2 λk=>br (!k.Code) (Cz 13 (el c.1 a.2 λh=>gd (ob 144 a.1.bF.length (List.length [ak.mk 4 h.bJ 0 [] [] [] [] [] ((b.cG+1)+d.cG)])) (jU [[2,162,26725],[0,1,3,4,5,6,8,9],[0,103,104,105]] (gd (cD (a.2+1)) (g (ak.mk a.1.an a.1.bJ a.1.U a.1.B a.1.bE (a.1.bF++[ak.mk 4 h.bJ 0 [] [] [] [] [] ((b.cG+1)+d.cG)]) [] [] a.1.cG,a.2+1)))))) (el c.1 a.2 λl=>ag (i.pj l.bJ ((b.cG+1)+d.cG)) λf=>br (!f.2) (ag (bO b.cG e.2) λo=>tG [[7,104]] (.ok (ak.mk 0 [] 0 [] [] [] [] [] 0,o))) (gd (ob 144 a.1.bF.length (List.length [f.1])) (jU [[2,185,26725],[0,1,3,4,5,6,8],[0,103,104,105]] (gd (cD (a.2+1)) (g (ak.mk a.1.an a.1.bJ a.1.U a.1.B a.1.bE (a.1.bF++[f.1]) [] [] a.1.cG,a.2+1)))))))))) (oz [[11,105,5]] (tG [[7,104]] (.ok (ak.mk a.1.an a.1.bJ a.1.U a.1.B a.1.bE a.1.bF [] [] a.1.cG,e.2))))) n (ak.mk 5 [] 0 [] [] [] [] [] b.cG,0)))
def lV (n:Nat) (e:aN) (k:ah):aG (ak×ah):=
 ag (aY n k) λd=>ag (kt d.1 [102,111,114]) λq=>br (!q) (ag (e.ax false d.2) λj=>.ok (j.1,j.2)) (ag (bu n d.2) λl=>uD [0,1,2,5,3,4,6] (ag (lg n l.2) λb=>jU [[6,104,5,26661,9,38]] (Cz 8 (ag (e.ax false b.2) λc=>gd (ob 144 (List.length ([]:List ak)) (List.length [c.1])) (jU [[2,124,26661],[0,2,4],[0,102,104]] (gV 0 [0,2,4] [102] (λ_=>[]) (λa=>[(0,.box (K a.1)),(104,.box [I a.2.an,eu a.2.bJ,I a.2.U,eu a.2.B,eu a.2.bE,.arr 26661 a.2.bF.length,nSl,nSl,I a.2.cG]),(26661,.arr 38 9 (ak.Cs a.2.bF))]) (λ(a:ah×ak)=>ag (cF n [58] a.1) λm=>Cz 8 (ag (e.ax false m) λf=>gd (ob 144 a.2.bF.length (List.length [f.1])) (jU [[2,145,26661],[0,2,4],[0,102,104]] (oz [[11,104,5]] (tG [[7,102]] (.ok (ak.mk a.2.an a.2.bJ a.2.U a.2.B a.2.bE (a.2.bF++[f.1]) [] [] a.2.cG,f.2))))))) λi=>ag (aY n c.2) λg=>ag (kt g.1 [105,102]) λo=>br o (ag (bu n g.2) λp=>Cz 8 (ag (e.ax false p.2) λh=>gd (ob 144 (List.length ([]++[c.1])) (List.length [h.1])) (jU [[2,136,26661],[0,2,4],[0,102,104]] (i (h.2,ak.mk 15 [] 0 b.1.x0 b.1.x1 (([]++[c.1])++[h.1]) [] [] d.1.cG))))) (i (g.2,ak.mk 15 [] 0 b.1.x0 b.1.x1 ([]++[c.1]) [] [] d.1.cG))))))))
def lW (n:Nat) (l:aN) (p:aB) (q:ah):aG (ak×ah):=
 ag (eH n q) λo=>gV 0 [0,1,4,5,6] [104] (λ_=>[]) (λb=>[(0,.box (K b.1)),(105,.box [I b.2.an,eu b.2.bJ,I b.2.U,eu b.2.B,eu b.2.bE,.arr 26725 b.2.bF.length,nSl,nSl,I b.2.cG]),(26725,.arr 38 9 (ak.Cs b.2.bF))]) (λ(b:ah×ak)=>ag (ca n [93] o.1 b.1) λz=>oz [[11,105,5]] (tG [[7,104]] (.ok (ak.mk b.2.an b.2.bJ b.2.U b.2.B b.2.bE b.2.bF [] [] b.2.cG,z)))) λc=>jU [[6,105,5,26725,9,38]] (dG [0,1,4,5,6] [104] (λ_=>[]) (λa=>[(0,.box (K a.1)),(105,.box [I a.2.an,eu a.2.bJ,I a.2.U,eu a.2.B,eu a.2.bE,.arr 26725 a.2.bF.length,nSl,nSl,I a.2.cG]),(26725,.arr 38 9 (ak.Cs a.2.bF))]) (λm (a:ah×ak)=>ag (cL a.1) λg=>br g.1 (ag (aY n g.2) λh=>ag (cg h.1 [93]) λr=>br (!r) (ag (aY n h.2) λd=>ag (cg d.1 [46,46,46]) λs=>br s (ag (bu n d.2) λt=>ag (aY n t.2) λi=>ag (cg i.1 [93]) λu=>br u (gd (ob 144 a.2.bF.length (List.length [ak.mk 6 [] 0 [] [] [] [] [] d.1.cG])) (jU [[2,138,26725],[0,1,4,5,6],[0,104,105]] (c (i.2,ak.mk a.2.an a.2.bJ 1 a.2.B a.2.bE (a.2.bF++[ak.mk 6 [] 0 [] [] [] [] [] d.1.cG]) [] [] a.2.cG)))) (Cz 8 (ag (l.ax false i.2) λj=>gd (ob 144 a.2.bF.length (List.length [j.1])) (jU [[2,145,26725],[0,1,4,5,6],[0,104,105]] (c (j.2,ak.mk a.2.an a.2.bJ 1 a.2.B a.2.bE (a.2.bF++[j.1]) [] [] a.2.cG)))))) (Cz 8 (ag (l.eS d.2) λe=>gd (ob 144 a.2.bF.length (List.length [e.1])) (jU [[2,152,26725],[0,1,4,5,6],[0,104,105]] (ag (aY n e.2) λk=>ag (cg k.1 [93]) λv=>br v (c (k.2,ak.mk a.2.an a.2.bJ a.2.U a.2.B a.2.bE (a.2.bF++[e.1]) [] [] a.2.cG)) (ag (cF n [44] k.2) λw=>ag (aY n w) λf=>ag (cg f.1 [93]) λx=>br x (ag (bO f.1.cG f.2) λy=>m (y,ak.mk a.2.an a.2.bJ a.2.U a.2.B a.2.bE (a.2.bF++[e.1]) [] [] a.2.cG)) (m (f.2,ak.mk a.2.an a.2.bJ a.2.U a.2.B a.2.bE (a.2.bF++[e.1]) [] [] a.2.cG)))))))) (c (h.2,ak.mk a.2.an a.2.bJ a.2.U a.2.B a.2.bE a.2.bF [] [] a.2.cG))) (c (g.2,ak.mk a.2.an a.2.bJ a.2.U a.2.B a.2.bE a.2.bF [] [] a.2.cG))) n (o.2,ak.mk 14 [] 0 [] [] [] [] [] p.cG))
def gD (n:Nat) (h:aN) (o:Bool) (p:ah):aG (ak×ah):=
 ag (h.dM o p) λk=>dG [0,1,4,5] [104] (λ_=>[]) (λa=>[(0,.box (K a.1)),(105,.box (Q a.2))]) (λj (a:ah×ak)=>ag (cL a.1) λe=>br e.1 (ag (aY n e.2) λf=>ag (jC n f.1 [([46]:ByS),([91]:ByS)]) λq=>br q (ag (aY n f.2) λg=>ag (eo n a.2 g.1 g.2) λb=>ag (cg g.1 [46]) λr=>br r (ag (bu n b.2) λs=>ag (aY n s.2) λc=>gV 0 [0,1,4,5,7] [104,105,107] (λ_=>[]) (λd=>[(0,.box (K d))]) (λ(d:ah)=>ag (bu n d) λt=>j (t.2,ak.mk 11 c.1.bJ 0 [] [] [b.1] [] [] b.1.cG)) λi=>ag (qd n c.1) λu=>br (!u) (ag (bO c.1.cG c.2) λv=>i v) (i c.2)) (ag (eH n b.2) λl=>ag (h.ax false l.2) λm=>ag (ca n [93] l.1 m.2) λw=>j (w,ak.mk 12 [] 0 [] [] [b.1,m.1] [] [] b.1.cG))) (.ok (a.2,f.2))) (.ok (a.2,e.2))) n (k.2,k.1)
def fh (n:Nat) (c:aN) (d:Bool) (l:ah):aG (ak×ah):=
 ag (aY n l) λa=>br (a.1.an==1) (ag (c.ja a.1 a.2) λk=>.ok (k.1,k.2)) (br (a.1.an==2) (ag (bu n a.2) λm=>ag (nM n a.1.bJ) λo=>.ok (ak.mk 3 [] o.1 [] [] [] [] [] a.1.cG,m.2)) (br (a.1.an==3) (ag (bu n a.2) λp=>.ok (ak.mk 4 a.1.bJ 0 [] [] [] [] [] a.1.cG,p.2)) (br (a.1.an==4) (ag (c.fK a.1 a.2) λg=>.ok (g.1,g.2)) (ag (cg a.1 [95]) λq=>br q (ag (bu n a.2) λr=>.ok (ak.mk 6 [] 0 [] [] [] [] [] a.1.cG,r.2)) (ag (cg a.1 [95,124,95]) λs=>br s (ag (bu n a.2) λt=>.ok (ak.mk 7 [] 0 [] [] [] [] [] a.1.cG,t.2)) (ag (cg a.1 [40]) λu=>br u (ag (eH n a.2) λh=>ag (c.ax d h.2) λi=>ag (ca n [41] h.1 i.2) λv=>.ok (i.1,v)) (ag (cg a.1 [123]) λw=>br w (gV 1 [0,1,4,5,10] [0,104,105] (λ_=>[]) (λb=>[(110,.box [I b.an,eu b.bJ,I b.U,eu b.B,eu b.bE,.pv (.sl (List.length ([]:List ak)) (ak.Cs [])),.pv (.sl (List.length ([]:List aK)) (aK.Cs [])),.pv (.sl (List.length ([]:List ByS)) (hO [])),I b.cG])]) (λ(b:ak)=>ag (c.dq d a.2) λe=>.ok (ak.mk b.an b.bJ b.U b.B b.bE [] e.1 e.2.1 b.cG,e.2.2)) λf=>br d (f ((ak.mk 13 [] 0 [] [] [] [] [] a.1.cG))) (f ((ak.mk 22 [] 0 [] [] [] [] [] a.1.cG)))) (ag (cg a.1 [91]) λx=>br x (ag (c.jB a.1 a.2) λj=>.ok (j.1,j.2)) (ag (bO a.1.cG a.2) λy=>.ok (ak.mk 0 [] 0 [] [] [] [] [] 0,y))))))))))
def fO (n:Nat) (e:aN) (j:Bool) (k:ah):aG (ak×ah):=
 ag (aY n k) λa=>ag (cL a.2) λc=>br (!c.1) (.ok (ak.mk 0 [] 0 [] [] [] [] [] 0,c.2)) (gV 1 [0,1,4,5] [0,104,105] (λd=>[(6,I d)]) (λ_=>[]) (λ(d:Int)=>gV 0 [0,1,4,5] [0,104,105] (λb=>[(6,I b)]) (λ_=>[]) (λ(b:Int)=>br (b==0) (ag (e.eT j c.2) λh=>.ok (h.1,h.2)) (ag (bu n c.2) λl=>uD [0,1,2,3,6,7,4,5,8,9] (ag (e.dD false l.2) λi=>.ok (ak.mk b a.1.bJ 0 [] [] [i.1] [] [] a.1.cG,i.2)))) λg=>ag (jC n a.1 [([60]:ByS),([60,61]:ByS),([62]:ByS),([62,61]:ByS),([33,61]:ByS),([61,126]:ByS),([33,126]:ByS)]) λm=>br m (g 9) (g d)) λf=>ag (jC n a.1 [([45]:ByS),([33]:ByS)]) λo=>br o (f 19) (f 0))
def ub (n:Nat) (k:aN) (h:ByS) (c:Int):aG (ak×Bool):=
 ag (yE n h) λj=>br (j.2.dX !=0) (.ok (ak.mk 0 [] 0 [] [] [] [] [] 0,false)) (iter (λl (a:(List aB)×Int)=>br (decide (a.2<a.1.length)) (el a.1 a.2 λm=>br (m.an==6) (.ok (ak.mk 0 [] 0 [] [] [] [] [] 0,false)) (el a.1 a.2 λd=>gd (cD (d.cG+c)) (el a.1 a.2 λb=>el (List.set a.1 a.2.toNat (aB.mk b.an b.bJ (d.cG+c) b.oZ)) a.2 λi=>gd (cD (i.oZ+c)) (el (List.set a.1 a.2.toNat (aB.mk b.an b.bJ (d.cG+c) b.oZ)) a.2 λf=>gd (cD (a.2+1)) (l (List.set (List.set a.1 a.2.toNat (aB.mk b.an b.bJ (d.cG+c) b.oZ)) a.2.toNat (aB.mk f.an f.bJ f.cG (i.oZ+c)),a.2+1)))))) (ag (k.ax false (ah.mk h c a.1 0 true 0 0)) λg=>ag (aY n g.2) λe=>br (e.1.an !=0) (ag (bO e.1.cG e.2) λo=>ag (cL o) λp=>.ok (g.1,p.1)) (ag (cL e.2) λq=>.ok (g.1,q.1)))) n (j.1,0))
def ar:Nat->aN
 | 0=>⟨λ_ _=>.stuck,λ_ _ _=>.stuck,λ_ _=>.stuck,λ_ _ _=>.stuck,λ_ _=>.stuck,λ_ _=>.stuck,λ_ _ _=>.stuck,λ_ _ _=>.stuck,λ_ _=>.stuck,λ_ _=>.stuck,λ_ _=>.stuck,λ_=>.stuck,λ_ _=>.stuck,λ_ _=>.stuck,λ_ _=>.stuck,λ_ _=>.stuck,λ_ _=>.stuck⟩
 | n+1=>⟨eC n (ar n),eE n (ar n),fD n (ar n),jQ n (ar n),eD n (ar n),fg n (ar n),jw n (ar n),iP n (ar n),dy n (ar n),lh n (ar n),kv n (ar n),lV n (ar n),lW n (ar n),gD n (ar n),fh n (ar n),fO n (ar n),ub n (ar n)⟩
abbrev cJ (n:Nat):=(ar n).cJ
abbrev cH (n:Nat):=(ar n).cH
abbrev dq (n:Nat):=(ar n).dq
abbrev gJ (n:Nat):=(ar n).gJ
abbrev cU (n:Nat):=(ar n).cU
abbrev cE (n:Nat):=(ar n).cE
abbrev de (n:Nat):=(ar n).de
abbrev eP (n:Nat):=(ar n).eP
abbrev ax (n:Nat):=(ar n).ax
abbrev ja (n:Nat):=(ar n).ja
abbrev fK (n:Nat):=(ar n).fK
abbrev eS (n:Nat):=(ar n).eS
abbrev jB (n:Nat):=(ar n).jB
abbrev eT (n:Nat):=(ar n).eT
abbrev dM (n:Nat):=(ar n).dM
abbrev dD (n:Nat):=(ar n).dD
abbrev pj (n:Nat):=(ar n).pj
abbrev tO (f:Bool->ah->aG (ak×ah)):Prop:=∀ p0 p1,CT Pq 71 [.ptr 0 0,Bo p0] [.box (K p1)] (f p0 p1) (λx=>.agg (Q x.1)) (λx=>[.box (K x.2)])
abbrev xf (f:Int->Bool->ah->aG (ak×ah)):Prop:=∀ p0 p1 p2,CT Pq 167 [.ptr 0 0,I p0,Bo p1] [.box (K p2)] (f p0 p1 p2) (λx=>.agg (Q x.1)) (λx=>[.box (K x.2)])
abbrev xg (f:Bool->ah->aG ((List aK)×(List ByS)×ah)):Prop:=∀ p0 p1,CT Pq 158 [.ptr 0 0,Bo p0] [.box (K p1)] (f p0 p1) (λx=>.lM [.pv (.sl x.1.length (aK.Cs x.1)),.pv (.sl x.2.1.length (hO x.2.1))]) (λx=>[.box (K x.2.2)])
abbrev wG (f:aK->Bool->ah->aG (aK×ah)):Prop:=∀ p0 p1 p2,CT Pq 157 [.ptr 0 0,.agg (qo p0),Bo p1] [.box (K p2)] (f p0 p1 p2) (λx=>.agg (qo x.1)) (λx=>[.box (K x.2)])
abbrev tP (f:Bool->ah->aG (ak×ah)):Prop:=∀ p0 p1,CT Pq 113 [.ptr 0 0,Bo p0] [.box (K p1)] (f p0 p1) (λx=>.agg (Q x.1)) (λx=>[.box (K x.2)])
abbrev tQ (f:Bool->ah->aG (aK×ah)):Prop:=∀ p0 p1,CT Pq 106 [.ptr 0 0,Bo p0] [.box (K p1)] (f p0 p1) (λx=>.agg (qo x.1)) (λx=>[.box (K x.2)])
abbrev su (f:Bool->ByS->ah->aG ((List aK)×(List ByS)×ah)):Prop:=∀ p0 p1 p2,CT Pq 55 [.ptr 0 0,Bo p0,nSl,eu p1] [.box (K p2)] (f p0 p1 p2) (λx=>.lM [.pv (.sl x.1.length (aK.Cs x.1)),.pv (.sl x.2.1.length (hO x.2.1))]) (λx=>[.box (K x.2.2)])
abbrev ye (f:aK->Bool->ah->aG (aK×ah)):Prop:=∀ p0 p1 p2,CT Pq 160 [.ptr 0 0,.agg (qo p0),Bo p1] [.box (K p2)] (f p0 p1 p2) (λx=>.agg (qo x.1)) (λx=>[.box (K x.2)])
abbrev ur (f:Bool->ah->aG (ak×ah)):Prop:=∀ p0 p1,CT Pq 28 [.ptr 0 0,Bo p0] [.box (K p1)] (f p0 p1) (λx=>.agg (Q x.1)) (λx=>[.box (K x.2)])
abbrev yf (f:aB->ah->aG (ak×ah)):Prop:=∀ p0 p1,CT Pq 273 [.ptr 0 0,.agg (na p0)] [.box (K p1)] (f p0 p1) (λx=>.agg (Q x.1)) (λx=>[.box (K x.2)])
abbrev xh (f:aB->ah->aG (ak×ah)):Prop:=∀ p0 p1,CT Pq 274 [.ptr 0 0,.agg (na p0)] [.box (K p1)] (f p0 p1) (λx=>.agg (Q x.1)) (λx=>[.box (K x.2)])
abbrev yW (f:ah->aG (ak×ah)):Prop:=∀ p0,CT Pq 295 [.ptr 0 0] [.box (K p0)] (f p0) (λx=>.agg (Q x.1)) (λx=>[.box (K x.2)])
abbrev yX (f:aB->ah->aG (ak×ah)):Prop:=∀ p0 p1,CT Pq 275 [.ptr 0 0,.agg (na p0)] [.box (K p1)] (f p0 p1) (λx=>.agg (Q x.1)) (λx=>[.box (K x.2)])
abbrev wH (f:Bool->ah->aG (ak×ah)):Prop:=∀ p0 p1,CT Pq 237 [.ptr 0 0,Bo p0] [.box (K p1)] (f p0 p1) (λx=>.agg (Q x.1)) (λx=>[.box (K x.2)])
abbrev wI (f:Bool->ah->aG (ak×ah)):Prop:=∀ p0 p1,CT Pq 259 [.ptr 0 0,Bo p0] [.box (K p1)] (f p0 p1) (λx=>.agg (Q x.1)) (λx=>[.box (K x.2)])
abbrev yg (f:Bool->ah->aG (ak×ah)):Prop:=∀ p0 p1,CT Pq 209 [.ptr 0 0,Bo p0] [.box (K p1)] (f p0 p1) (λx=>.agg (Q x.1)) (λx=>[.box (K x.2)])
abbrev G8 (f:ByS->Int->aG (ak×Bool)):Prop:=∀ p0 p1,CT Pq 294 [eu p0,I p1] [] (f p0 p1) (λx=>.lM [.agg (Q x.1),Bo x.2]) (λ_=>[])
class aZ (T:aN):Prop where
 cJ:tO T.cJ
 cH:xf T.cH
 dq:xg T.dq
 gJ:wG T.gJ
 cU:tP T.cU
 cE:tQ T.cE
 de:su T.de
 eP:ye T.eP
 ax:ur T.ax
 ja:yf T.ja
 fK:xh T.fK
 eS:yW T.eS
 jB:yX T.jB
 eT:wH T.eT
 dM:wI T.dM
 dD:yg T.dD
 pj:G8 T.pj
attribute [instance] aZ.cJ aZ.cH aZ.dq aZ.gJ aZ.cU aZ.cE aZ.de aZ.eP aZ.ax aZ.ja aZ.fK aZ.eS aZ.jB aZ.eT aZ.dM aZ.dD aZ.pj
theorem zp (n:Nat) (T:aN) [hT:aZ T]:tO (eC n T):=λp0 p1=>by unfold eC;exact zz 1 Tryz.func71
theorem C2 (n:Nat) (T:aN) [hT:aZ T]:xf (eE n T):=λp0 p1 p2=>by unfold eE;exact zz 1 Tryz.func167
theorem C3 (n:Nat) (T:aN) [hT:aZ T]:xg (fD n T):=λp0 p1=>by unfold fD;exact zz 1 Tryz.func158
theorem Ck (n:Nat) (T:aN) [hT:aZ T]:wG (jQ n T):=λp0 p1 p2=>by unfold jQ;exact zz 1 Tryz.func157
theorem zq (n:Nat) (T:aN) [hT:aZ T]:tP (eD n T):=λp0 p1=>by unfold eD;exact zz 1 Tryz.func113
theorem zE (n:Nat) (T:aN) [hT:aZ T]:tQ (fg n T):=λp0 p1=>by unfold fg;exact zz 1 Tryz.func106
theorem wX (n:Nat) (T:aN) [hT:aZ T]:su (jw n T):=λp0 p1 p2=>by unfold jw;exact zz 1 Tryz.func55
theorem DK (n:Nat) (T:aN) [hT:aZ T]:ye (iP n T):=λp0 p1 p2=>by unfold iP;exact zz 1 Tryz.func160
theorem AL (n:Nat) (T:aN) [hT:aZ T]:ur (dy n T):=λp0 p1=>by unfold dy;exact zz 1 Tryz.func28
theorem DL (n:Nat) (T:aN) [hT:aZ T]:yf (lh n T):=λp0 p1=>by unfold lh;exact zz 0 Tryz.func273
theorem C4 (n:Nat) (T:aN) [hT:aZ T]:xh (kv n T):=λp0 p1=>by unfold kv;exact zz 2 Tryz.func274
theorem EB (n:Nat) (T:aN) [hT:aZ T]:yW (lV n T):=λp0=>by unfold lV;exact zz 0 Tryz.func295
theorem EC (n:Nat) (T:aN) [hT:aZ T]:yX (lW n T):=λp0 p1=>by unfold lW;exact zz 2 Tryz.func275
theorem Cm (n:Nat) (T:aN) [hT:aZ T]:wH (gD n T):=λp0 p1=>by unfold gD;exact zz 1 Tryz.func237
theorem Cn (n:Nat) (T:aN) [hT:aZ T]:wI (fh n T):=λp0 p1=>by unfold fh;exact zz 1 Tryz.func259
theorem DM (n:Nat) (T:aN) [hT:aZ T]:yg (fO n T):=λp0 p1=>by unfold fO;exact zz 1 Tryz.func209
theorem Mf (n:Nat) (T:aN) [hT:aZ T]:G8 (ub n T):=λp0 p1=>by
 refine zC Tryz.func294 O λr hp h hr E hE=>bz λ_ Hn=>bp (gH 104 (hE _ O) O4 O ?_);refine za O (zQ Hn (bz λ_ Ot=>bp (zm O (lD (V1 3114 (sz:=4) (el:=62) (hE _ O) O3) ?_))));refine GY hr h [3114] Tryz.call17 (G7 n p0) ⟨O,O,O,O,O,O,⟨hE _ O,trivial⟩⟩ O (λ_=>O3) (λ_=>O2) hp (λy3 h=>?_);refine zm O (zx O (zx O (gH 107 (hE _ O) O4 O ?_)));refine za O (zs O (lD (E' 3114 10006 [(0,eu p0),(1,I p1),(4,.ptr 104 0),(6,.arr 10006 y3.1.length),(7,.ptr 107 0)] [(104,.box oE),(107,.box [I y3.2.dX,I y3.2.At])] (hE _ O) O O O2 ⟨⟨_,O,O,O⟩,⟨_,O,O,O⟩,⟨_,O,O,O⟩,⟨_,O,O,O⟩,⟨_,O,O,O⟩,trivial⟩ ⟨⟨_,O,O,O,O,O⟩,⟨_,O,O,O,O,O⟩,trivial⟩) ?_));refine zQ Ot (bz λ_ RE=>bz λ_ XP=>bp (zf O (zl O (zc O (zQ XP (zB O h (λ_ h=>?_) λ_ h=>?_))))))
 ·refine bz λ_ hK7=>bp (et E9 O ?_);refine zs O (za O (zQ hK7 (nA (CH 104 O O) ?_)));exact Œ
 refine lZ (RE _ _ (bz λ_ XS=>bz λ_ hK9=>bp (za O (zQ hK9 (B2 (zL hr h (λ(v10:(List aB)×Int)=>[(0,eu p0),(1,I p1),(4,.ptr 104 0),(6,.arr 10006 v10.1.length),(8,I v10.2)]) (λ(v10:(List aB)×Int)=>[(104,.box oE),(10006,.arr 62 4 (aB.Cs v10.1))]) O λ_ v10 _ L3 h=>bz λ_ Ov=>bz λ_ L4=>bp (zm O (zm O (et (QU O) O (zc O (zQ L4 (zB O h (λ_ h=>?_) λ_ h=>?_))))))))))))
 ·refine lZ (Ov _ _ (bz λ_ XV=>B2 (bz λ_ IS=>bz λ_ NG=>bp (zm O (zm O (ze hr h λx19 h20 h21 h22 h=>et (Ak O O h20 h21) O (zf O (et (ο oD oC h22 O O O) O (zc O (zQ NG (zB O h (λ_ h=>?_) λ_ h=>?_)))))))))))
  ·refine bz λ_ hK24=>bp (et E9 O ?_);refine zs O (za O (zQ hK24 (nA (CH 104 O O) ?_)));exact Œ
  refine lZ (IS _ _ (bz λ_ hK25=>bp (zm O (zm O (zm O (zm O (ze hr h λx26 h27 h28 h29 h=>et (Ak O O h27 h28) O (zf O (et (ο oD oC h29 O O O) O (zm O (zd hr h λhg30 h=>zo hg30 O (ze hr h λMg h32 h33 h34 h=>et (Ak O O h32 h33) O (zf O (TB (⟨oD,oC,h32,h34,O,O,O,O,O,yn.h,O,O,O⟩:StA _ _ _ _ _ _ _ _ _ 2 _ _ _ _ _ _ (aB.mk Mg.an Mg.bJ (x26.cG+p1) Mg.oZ) _ [.sc (.int .i64 (x26.cG+p1))]) ?_))))))))))))));refine lD (TE 6 (m':=List.length (List.set v10.1 v10.2.toNat (aB.mk Mg.an Mg.bJ (x26.cG+p1) Mg.oZ))) O bm) ?_;refine zQ hK25 (bp (zm O (zm O (zm O (zm O (ze hr h λx35 h36 h37 h38 h=>et (Ak O O h36 h37) O (zf O (et (ο oD oC h38 O O O) O (zm O (zd hr h λhg39 h=>zo hg39 O (ze hr h λx40 OF h42 h43 h=>et (Ak O O OF h42) O (zf O (TB (⟨oD,oC,OF,h43,O,O,O,O,O,yn.h,O,O,O⟩:StA _ _ _ _ _ _ _ _ _ 3 _ _ _ _ _ _ (aB.mk x40.an x40.bJ x40.cG (x35.oZ+p1)) _ [.sc (.int .i64 (x35.oZ+p1))]) ?_)))))))))))));refine lD (TE 6 (m':=List.length (List.set (List.set v10.1 v10.2.toNat (aB.mk Mg.an Mg.bJ (x26.cG+p1) Mg.oZ)) v10.2.toNat (aB.mk x40.an x40.bJ x40.cG (x35.oZ+p1)))) O bm) ?_;exact zQ XV (bp (zm O (zd hr h λhg44 h=>zo hg44 O (za O (rJ (L3 _ _ _ h O))))))
 refine GP (XS _ _ (bz λ_ hK45=>bp (zm O (zm O (zm O (lD (O' (d:=58) oD oC O O O (hE _ O)) ?_))))));refine et Dq O ?_;refine HL 160 (hE _ O) O7 O ?_;refine za O (zQ hK45 (bz λ_ hK46=>bp (zm O (zk hp hr h [160] Tryz.call28 (hT.ax false (ah.mk p0 p1 v10.1 0 true 0 0)) O (λ_=>rfl) λy47 h=>gH 110 (hE _ O) O4 O ?_))));refine zs O (zQ hK46 (bz λ_ hK48=>bz λ_ hK49=>bp (zm O (zk hp hr h [160] Tryz.call29 (Ft n y47.2) O (λ_=>rfl) λy50 h=>gH 111 (hE _ O) O4 O ?_))));refine zs O (zQ hK49 (bz λ_ hK51=>bp (zf O (zl O (zc O (zQ hK51 (zB O h (λ_ h=>?_) λ_ h=>?_)))))))
 ·refine bp (zm O (zf O (zl O (zk hp hr h [160] Tryz.call31 (Fu y50.1.cG y50.2) O (λ_=>rfl) λy53 h=>zQ hK48 (bz λ_ hK54=>sb [0,1,2,3,4] O (by kernel_rfl) (zD O Ih O ?_))))));refine zD O yK O (Ko O (w4 O) hr h [160] Tryz.call19 (Bn y53) ⟨O,O,O,O,O,O,trivial⟩ O O (λ_=>O3) (λ_=>O2) hp (λy55 h=>⟨pF ⟨trivial,⟨⟨⟨_,O,nh _⟩,trivial⟩,trivial⟩⟩,?_⟩));refine sa O O8 O (λe3 he=>⟨ky O,?_⟩);subst he;exact HQ O O O (ky O) O (An (hK54 _ _ Œ))
 refine lZ (hK48 _ _ (bz λ_ hK56=>sb [0,1,2,3,4] O (by kernel_rfl) (zD O Ih O ?_)));refine zD O yK O (Ko O (w4 O) hr h [160] Tryz.call19 (Bn y50.2) ⟨O,O,O,O,O,O,trivial⟩ O O (λ_=>O3) (λ_=>O2) hp (λy57 h=>⟨pF ⟨trivial,⟨⟨⟨_,O,nh _⟩,trivial⟩,trivial⟩⟩,?_⟩));refine sa O O8 O (λe3 he=>⟨ky O,?_⟩);subst he;exact HQ O O O (ky O) O (An (hK56 _ _ Œ))
theorem rD:∀ n,aZ (ar n)
 | 0=>by constructor<;>(repeat intro)<;>exact rh
 | n+1=>have:=rD n;⟨zp n _,C2 n _,C3 n _,Ck n _,zq n _,zE n _,wX n _,DK n _,AL n _,DL n _,C4 n _,EB n _,EC n _,Cm n _,Cn n _,DM n _,Mf n _⟩
attribute [instance] rD
def lL (n:Nat) (r:Bool) (s:(List ByS)) (h:ByS) (t:ah):aG ((List aK)×(List ByS)×ah):=
 jU [[4,10,10010,11,43]] (jU [[1,1,10002],[0,1,2,3,10,11,12],[0,10010]] (dG [0,1,3] [] (λa=>[(2,.arr 10002 a.2.1.length),(10,.arr 10010 a.2.2.1.length),(11,Bo a.2.2.2.1),(12,I a.2.2.2.2)]) (λa=>[(0,.box (K a.1)),(10002,.app 9 1 (hO a.2.1)),(10010,.arr 43 11 (aK.Cs a.2.2.1))]) (λf (a:ah×(List ByS)×(List aK)×Bool×Int)=>ag (cL a.1) λk=>br k.1 (ag (aY n k.2) λc=>gV 0 [0,1,2,3,10,11,12,13] [0,113,10002,10010] (λi=>[(41,Bo i)]) (λ_=>[]) (λ(i:Bool)=>br i (ag (bu n c.2) λv=>f (v.2,a.2.1,a.2.2.1,true,a.2.2.2.2)) (gV 0 [0,1,2,3,10,11,12,13] [113,10002,10010] (λd=>[(51,Bo d.2)]) (λd=>[(0,.box (K d.1))]) (λ(d:ah×Bool)=>br d.2 (ag (bu n d.1) λw=>gd (ob 16 a.2.1.length (List.length [c.1.bJ])) (jU [[1,165,10002],[0,1,2,3,10,11,12],[10010,0]] (f (w.2,a.2.1++[c.1.bJ],a.2.2.1,a.2.2.2.1,a.2.2.2.2)))) (br (c.1.an==6) (br ((a.2.2.1.length:Int)==0) (ag (bO c.1.cG d.1) λx=>f (x,a.2.1,a.2.2.1,a.2.2.2.1,a.2.2.2.2)) (ag (kC n a.2.2.2.2 c.1.cG d.1) λm=>br m.1 (ag (bO c.1.cG m.2) λy=>f (y,a.2.1,a.2.2.1,a.2.2.2.1,a.2.2.2.2)) (ag (bu n m.2) λz=>gd (cD ((a.2.2.1.length:Int) - 1)) (el a.2.2.1 ((a.2.2.1.length:Int) - 1) λe=>jU [[17,10]] (f (z.2,a.2.1,List.set a.2.2.1 ((a.2.2.1.length:Int) - 1).toNat (aK.mk e.an e.cS e.jb e.B e.bE e.bF e.jf e.J e.oO c.1.bJ e.cG),a.2.2.2.1,a.2.2.2.2)))))) (gV 0 [0,1,2,3,10,11,12,13] [0,113,10002,10010] (λj=>[(94,Bo j)]) (λ_=>[]) (λ(j:Bool)=>br j (oz [[22,112]] (tG [[12,8]] (tG [[19,1,1,9],[0,1,2,3,8,9],[0]] (.ok (a.2.2.1,a.2.1,d.1))))) (br (!a.2.2.2.1) (ag (bO c.1.cG d.1) λa0=>f (a0,a.2.1,a.2.2.1,a.2.2.2.1,a.2.2.2.2)) (ag (cE n r d.1) λb=>oz [[22,22]] (gd (ob 184 a.2.2.1.length (List.length [aK.mk b.1.an b.1.cS b.1.jb b.1.B b.1.bE b.1.bF b.1.jf b.1.J a.2.1 b.1.iG b.1.cG])) (jU [[2,127,10010],[0,1,2,3,10],[0]] (Cz 14 (gd (cD (b.2.bB - 1)) (el b.2.l (if b.2.bB - 1>0 then b.2.bB - 1 else 0) λu=>jU [[3,2,10002,1,9]] (f (b.2,[],a.2.2.1++[aK.mk b.1.an b.1.cS b.1.jb b.1.B b.1.bE b.1.bF b.1.jf b.1.J a.2.1 b.1.iG b.1.cG],false,u.oZ)))))))))) λg=>br (c.1.an==0) (br (h==([]:ByS)) (g true) (br (h !=([]:ByS)) (ag (cg c.1 h) λb0=>g b0) (g false))) (br (h !=([]:ByS)) (ag (cg c.1 h) λc0=>g c0) (g false))))) λp=>br (c.1.an==6) (ag (mY n c.2) λq=>p (q.2,q.1)) (p (c.2,false)))) λo=>br (c.1.an==7) (o true) (ag (cg c.1 [44]) λd0=>o d0)) (tG [[9,8]] (tG [[9,9]] (tG [[19,1,1,9],[0,1,2,3,8,9],[0]] (.ok ([],[],k.2)))))) n (t,s,[],true,0)))
def qi (n:Nat) (a:ak) (b:ak):aG (Bool):=
 ag (ji n a b) λc=>br c (ag (jt n a b) λd=>.ok d) (.ok false)
instance TU (n:Nat) (p0:ak) (p1:ak):CT Pq 11 [.agg (Q p0),.agg (Q p1)] [] (qi n p0 p1) (λx=>Bo x) (λ_=>[]):=by unfold qi;exact zz 0 Tryz.func11
def pk (n:Nat) (a:ak):aG (Int):=
 uD [0,2,1,3,4,5] (ag (mG n a true false false) λb=>ag (jv n a) λc=>ag (xE b c) λd=>.ok d)
instance Wi (n:Nat) (p0:ak):CT Pq 32 [.agg (Q p0)] [] (pk n p0) (λx=>I x) (λ_=>[]):=by unfold pk;exact zz 0 Tryz.func32
def AM (n:Nat) (j:ByS):aG (ak×cZ):=
 ag (sP n j) λf=>br (f.2.dX !=0) (jg 4 (tG [[7,102]] (.ok (ak.mk 0 [] 0 [] [] [] [] [] 0,f.2)))) (ag (ax n true (ah.mk j 0 f.1 0 false 0 0)) λd=>gV 0 [0,2,3,6,7] [102,103,107] (λ_=>[]) (λb=>[(122,.box (K b))]) (λ(b:ah)=>gV 0 [0,2,3,6,7] [102,103,107] (λ_=>[]) (λc=>[(122,.box (K c))]) (λ(c:ah)=>ag (cL c) λe=>br (!e.1) (jg 7 (tG [[7,102]] (.ok (ak.mk 0 [] 0 [] [] [] [] [] 0,cZ.mk e.2.iR e.2.qW)))) (ag (pk n d.1) λk=>br (k==9) (tG [[7,102]] (.ok (ak.mk 0 [] 0 [] [] [] [] [] 0,cZ.mk 9 0))) (.ok (d.1,cZ.mk 0 0)))) λi=>ag (aY n b) λa=>br (a.1.an !=0) (ag (bO a.1.cG a.2) λl=>i l) (i a.2)) λh=>ag (aY n d.2) λg=>br (g.1.an==7) (ag (bu n g.2) λm=>h m.2) (h g.2))
instance aa6 (n:Nat) (p0:ByS):CT Pq 10 [eu p0] [] (AM n p0) (λx=>.lM [.agg (Q x.1),.agg [I x.2.dX,I x.2.At]]) (λ_=>[]):=by unfold AM;exact zz 0 Tryz.func10
def oV (n:Nat) (a:ByS):aG (Bool):=
 br (decide ((a.length:Int)>400)) (ag (Bj 64) λf=>.ok f) (ag (tJ n a) λc=>ag (AM n a) λb=>br ((c.2.dX==b.2.dX)&&(c.2.At==b.2.At)) (ag (qi n c.1 b.1) λd=>br d (ag (Bj 64) λe=>.ok e) (.ok false)) (.ok false))
instance Fv (n:Nat) (p0:ByS):CT Pq 4 [eu p0] [] (oV n p0) (λx=>Bo x) (λ_=>[]):=by unfold oV;exact zz 0 Tryz.func4
end Go.Abs
namespace Go.Abs
open aG
variable {a b c n:Int} {k j:Bool} {q:Option ak} {t:aB} {x:ByS} {α:Type} {p:V} {e:ak}
section
abbrev dt:sT->Prop:=λ_=>False
variable {m:Nat->Nat} {l:List ByS} {s:ByS}
def C5 (hm:bN m) (hl:l.length<=1099511627776):Ev (λi=>slices_Index_string (m i) l s) (λ_=>True) dt:=by
 unfold slices_Index_string;refine bR hm (λ(v:Int)=>0<=v/\v<=l.length) (λv=>(l.length - v).toNat) aD ?_;intro v hv next hn
 (repeat' (with_reducible first|refine aF ?_|refine W (λ_ _=>?_)|apply ba|apply aH|refine dH (λ_=>?_) (λ_=>?_)|(apply cW;try dsimp only)))
 all_goals first|exact aj trivial|exact hn _ yJ yJ
def qP (hm:bN m) (hl:l.length<=1099511627776):Ev (λi=>slices_Contains_string (m i) l s) (λ_=>True) dt:=by
 unfold slices_Contains_string;exact ai (C5 hm hl) λ_ _=>aj trivial
def Dk:Ev (λ_=>nC c) (λ_=>True) dt:=by
 unfold nC;exact yC4
def Jz (hm:bN m):Ev (λi=>dT (m i) s) (λ_=>True) dt:=by
 unfold dT;refine aS pL (λh=>?_);refine ai (qP hm bm) λy _=>?_;refine ay pL (λ_=>?_);refine bD (λv=>v.length<=32) (λv hv=>?_) (λj hj=>?_)
 ·(repeat' (with_reducible first|refine aF ?_|refine W (λ_ _=>?_)|apply ba|apply aH|refine dH (λ_=>?_) (λ_=>?_)|(apply cW;try dsimp only)))
  ·exact A4
  refine ai Dk λy _=>?_
  (repeat' (with_reducible first|refine aF ?_|refine W (λ_ _=>?_)|apply ba|apply aH|refine dH (λ_=>?_) (λ_=>?_)|(apply cW;try dsimp only)))
  ·exact A4
  refine bR hm (λ(x:Int)=>0<=x/\x<=v.length) (λx=>(v.length - x).toNat) aD ?_;intro x hx next hn
  (repeat' (with_reducible first|refine aF ?_|refine W (λ_ _=>?_)|apply ba|apply aH|refine dH (λ_=>?_) (λ_=>?_)|(apply cW;try dsimp only)))
  ·refine ai Dk λy _=>?_
   (repeat' (with_reducible first|refine aF ?_|refine W (λ_ _=>?_)|apply ba|apply aH|refine dH (λ_=>?_) (λ_=>?_)|(apply cW;try dsimp only)))
   all_goals first|exact aj trivial|exact hn _ yJ yJ
  exact A4
 (repeat' (with_reducible first|refine aF ?_|refine W (λ_ _=>?_)|apply ba|apply aH|refine dH (λ_=>?_) (λ_=>?_)|(apply cW;try dsimp only)))
 all_goals refine hj _ ?_
 all_goals first|omega|(have:=tZ (c:=s) (i:=1) aD aD;omega)
def AN:Ev (λ_=>mc c) (λr=>r=true->-1000000000000000<=c/\c<=1000000000000000) dt:=by
 unfold mc
 (repeat' (with_reducible first|refine aF ?_|refine W (λ_ _=>?_)|apply ba|apply aH|refine dH (λ_=>?_) (λ_=>?_)|(apply cW;try dsimp only)))
 all_goals first|exact aj rI|exact aj bm
def Mh:Ev (λ_=>vi c) (λr=>0<=r/\r<18446744073709551616) dt:=by
 unfold vi
 (repeat' (with_reducible first|refine aF ?_|refine W (λ_ _=>?_)|apply ba|apply aH|refine dH (λ_=>?_) (λ_=>?_)|(apply cW;try dsimp only)))
 all_goals exact aj (wrap_u64 _)
def FP {a:Int} (h:0<=a/\a<18446744073709551616):Ev (λ_=>nY a 10) (λr=>1<=r.length/\r.length<=20) dt:=by
 unfold nY;refine dB ⟨rfl,h.1,h.2⟩ (aj ⟨ς 19 _,Re 20 _⟩)
def Mi (hm:bN m):Ev (λi=>vj (m i) c) (λ_=>True) dt:=by
 unfold vj;refine ai AN λy _=>?_;refine df pL (λ_=>?_);refine ai Mh λy _=>?_;refine aF (ai (FP (wrap_u64 _)) λy hy=>?_);refine bD (λv=>v.length<=30) (λv hv=>?_) (λj hj=>?_)
 ·refine aF (ai (FP (wrap_u64 _)) λy hy=>?_);refine aF ?_;refine bD (λv=>v.length<=30) (λv hv=>?_) (λj hj=>?_)
  ·exact yC4
  refine bR hm (λx=>x.length<=30) (λx=>x.length) ?_ ?_
  ·have:=tZ (c:=y) (i:=1) aD aD;omega
  intro x hx next hn
  (repeat' (with_reducible first|refine aF ?_|refine W (λ_ _=>?_)|apply ba|apply aH|refine dH (λ_=>?_) (λ_=>?_)|(apply cW;try dsimp only)))
  ·have:=Nc (c:=x) (j:=x.length - 1) aD aD;exact hn _ aD aD
  ·exact hj _ aD
  exact hj _ aD
 (repeat' (with_reducible first|refine aF ?_|refine W (λ_ _=>?_)|apply ba|apply aH|refine dH (λ_=>?_) (λ_=>?_)|(apply cW;try dsimp only)))
 all_goals exact hj _ yJ
def ED (hm:bN m):Ev (λi=>mK (m i) s) (λ_=>True) dt:=by
 unfold mK jg;refine aS pL (λh=>?_);refine bD (λv=>v.1.length<=20/\v.2.length<=20) (λv hv=>?_) (λj hj=>?_)
 ·refine bR hm (λx=>x.length<=20) (λx=>20 - x.length) hv.2 ?_;intro x hx next hn
  (repeat' (with_reducible first|refine aF ?_|refine W (λ_ _=>?_)|apply ba|apply aH|refine dH (λ_=>?_) (λ_=>?_)|(apply cW;try dsimp only)))
  ·exact ř
  ·exact A4
  refine dJ (Q:=λ_=>True) ?_ λy _=>?_
  ·unfold tY;exact aF A4
  refine ay pL (λ_=>?_);refine ai AN λy _=>?_;refine df pL (λ_=>?_);refine ai (Mi hm) λy _=>?_;refine ay pL pL
 refine bR hm (λ(x:Int)=>0<=x/\x<=s.length) (λx=>(s.length - x).toNat) aD ?_;intro x hx next hn
 (repeat' (with_reducible first|refine aF ?_|refine W (λ_ _=>?_)|apply ba|apply aH|refine dH (λ_=>?_) (λ_=>?_)|(apply cW;try dsimp only)))
 ·have h1:=Kw (c:=s) (j:=x);have h2:=tZ (c:=s) (i:=x+1) aD aD;exact hj _ eZ
 ·exact ř
 exact hj _ (by dsimp only;simp;omega)
end
section
variable {s:ByS} {m:Nat->Nat}
def C6 {p:ByS}:Ev (λ_=>strings_HasPrefix s p) (λr=>r=true->p.length<=s.length) dt:=by
 unfold strings_HasPrefix stringslite_HasPrefix;refine ai (Q:=λr=>r=true->p.length<=s.length) ?_ λ_ h=>aj h
 (repeat' (with_reducible first|refine aF ?_|refine W (λ_ _=>?_)|apply ba|apply aH|refine dH (λ_=>?_) (λ_=>?_)|(apply cW;try dsimp only)))
 ·exact aj JQ
 exact aj bm
variable {a b:ByS}
def KP (h:1<=b.length) (ha:a.length<4294967281):Ev (λ_=>strings_Split a b) (λr=>r.length<=a.length+2) dt:=by
 unfold strings_Split;exact dB ⟨h,ha⟩ (aj (Kx _ _ _))
def D1 (ha:a.length<4294967281):Ev (λ_=>strings_Contains a b) (λ_=>True) dt:=by
 unfold strings_Contains;exact dB ha A4
def tR:Ev (λ_=>oH c) (λr=>r=decide (48<=c/\c<=57)) dt:=by
 unfold oH
 (repeat' (with_reducible first|refine aF ?_|refine W (λ_ _=>?_)|apply ba|apply aH|refine dH (λ_=>?_) (λ_=>?_)|(apply cW;try dsimp only)))
 ·exact aj rI
 exact aj rI
def Dl:Ev (λ_=>ry c) (λ_=>True) dt:=by
 unfold ry;exact yC4
def IX (hm:bN m) (hs:s.length<=65536) :
  Ev (λi=>sN (m i) s) (λr=>0<=r/\r<=s.length/\∀ b:UInt8,s[0]?=some b->48<=(b.toNat:Int)->(b.toNat:Int)<=57->1<=r) dt:=by
 unfold sN
 refine bD (λv=>0<=v/\v<=s.length/\∀ b:UInt8,s[0]?=some b->48<=(b.toNat:Int)->(b.toNat:Int)<=57->1<=v) (λv hv=>?_) (λj hj=>?_)
 ·refine bD (λb=>b=true->v+1<=s.length) (λb hb=>?_) (λj hj=>?_)
  ·refine ay (λh=>?_) (λ_=>aj hv)
   have:=hb h
   refine aF ?_
   refine bR hm (λ(x:Int)=>v+1<=x/\x<=s.length) (λx=>(s.length - x).toNat) aD ?_
   intro x hx next hn
   (repeat' (with_reducible first|refine aF ?_|refine W (λ_ _=>?_)|apply ba|apply aH|refine dH (λ_=>?_) (λ_=>?_)|(apply cW;try dsimp only)))
   ·refine ai tR λy _=>?_
    (repeat' (with_reducible first|refine aF ?_|refine W (λ_ _=>?_)|apply ba|apply aH|refine dH (λ_=>?_) (λ_=>?_)|(apply cW;try dsimp only)))
    ·exact ř
    ·exact aj ⟨by omega,by omega,λ_ _ _ _=>by omega⟩
   ·exact aj ⟨by omega,by omega,λ_ _ _ _=>by omega⟩
  ·(repeat' (with_reducible first|refine aF ?_|refine W (λ_ _=>?_)|apply ba|apply aH|refine dH (λ_=>?_) (λ_=>?_)|(apply cW;try dsimp only)))
   ·refine ai tR λy _=>?_
    exact hj _ JQ
   all_goals exact hj _ bm
 ·refine bR hm (λ(x:Int)=>0<=x/\x<=s.length) (λx=>(s.length - x).toNat) aD ?_
  intro x hx next hn
  refine aS (λh=>?_) (λh=>?_)
  ·refine W (λb hb=>?_)
   refine ai tR λy hy=>?_
   refine ay (λ_=>?_) (λh2=>?_)
   ·(repeat' (with_reducible first|refine aF ?_|refine W (λ_ _=>?_)|apply ba|apply aH|refine dH (λ_=>?_) (λ_=>?_)|(apply cW;try dsimp only)))
    exact hn _ yJ yJ
   ·refine hj _ ⟨hx.1,hx.2,λb' xH h3 h4=>?_⟩
    rcases oA x 1 with q|q
    ·have:x=0:=by omega
     subst this
     simp only[Int.toNat_zero] at hb
     rw[hb] at xH;cases xH
     rw[hy] at h2
     exact aw ⟨h3,h4⟩ (aU h2)
    ·exact q
  ·refine hj _ ⟨hx.1,hx.2,λb' xH _ _=>?_⟩
   have:=(ao.1 xH).1
   omega
def G9 (hm:bN m):Ev (λi=>qt (m i) s) (λr=>r.length<=s.length) dt:=by
 unfold qt;refine bR hm (λ(x:Int)=>0<=x/\x<=3) (λx=>(3 - x).toNat) aD ?_;intro x hx next hn;refine aS (λh=>?_) (λh=>aj bm);simp only[jI,List.length_nil] at h;refine gL aD rI (λa ha=>?_);have hal:a.length<=60:=by
  have hm:=aP ha;simp only[cf,cM,cw,or_false] at hm;rcases hm with rfl|rfl|rfl<;>simp
 refine ai (KP bm aD) λl hl=>?_;refine bR hm (λ(z:Int)=>0<=z/\z<=l.length) (λz=>(l.length - z).toNat) aD ?_;intro z hz Nl IN
 (repeat' (with_reducible first|refine aF ?_|refine W (λ_ _=>?_)|apply ba|apply aH|refine dH (λ_=>?_) (λ_=>?_)|(apply cW;try dsimp only)))
 ·refine ai C6 λy hy=>?_;refine ay (λh=>aj (hy h)) (λ_=>?_)
  (repeat' (with_reducible first|refine aF ?_|refine W (λ_ _=>?_)|apply ba|apply aH|refine dH (λ_=>?_) (λ_=>?_)|(apply cW;try dsimp only)))
  exact IN _ yJ yJ
 exact ř
def Mj (hm:bN m) (hs:s.length<=65536):Ev (λi=>vl (m i) s) (λr=>0<=r/\r<=s.length) dt:=by
 unfold vl;refine bD (λv=>0<=v/\v<=s.length) (λv hv=>?_) (λj hj=>?_)
 ·refine cd (λh=>?_) (λ_=>aj hv);refine W (λb _=>?_);refine ai Dl λy _=>?_
  (repeat' (with_reducible first|refine aF ?_|refine W (λ_ _=>?_)|apply ba|apply aH|refine dH (λ_=>?_) (λ_=>?_)|(apply cW;try dsimp only)))
  all_goals exact aj aD
 refine bR hm (λ(x:Int)=>0<=x/\x<=s.length) (λx=>(s.length - x).toNat) aD ?_;intro x hx next hn;refine bD (λ_=>x<s.length) (λ_ h=>?_) (λj2 xI=>?_)
 ·(repeat' (with_reducible first|refine aF ?_|refine W (λ_ _=>?_)|apply ba|apply aH|refine dH (λ_=>?_) (λ_=>?_)|(apply cW;try dsimp only)))
  exact hn _ yJ yJ
 refine aS (λh=>?_) (λ_=>hj _ hx);refine W (λb _=>?_);refine ai Dl λy _=>?_;refine ay (λ_=>xI _ h) (λ_=>?_)
 (repeat' (with_reducible first|refine aF ?_|refine W (λ_ _=>?_)|apply ba|apply aH|refine dH (λ_=>?_) (λ_=>?_)|(apply cW;try dsimp only)))
 ·refine ai tR λy _=>?_
  (repeat' (with_reducible first|refine aF ?_|refine W (λ_ _=>?_)|apply ba|apply aH|refine dH (λ_=>?_) (λ_=>?_)|(apply cW;try dsimp only)))
  all_goals first|exact xI _ h|exact hj _ hx
 all_goals first|exact xI _ h|exact hj _ hx
def H5 (hm:bN m) (hs:s.length<=65536):Ev (λi=>rP (m i) s) (λr=>r.1=0\/2<=r.1/\r.1<=s.length) dt:=by
 unfold rP;refine bR hm (λx=>1<=x.2/\x.2<=65540) (λx=>(65540 - x.2).toNat) bm ?_;intro x hx next hn;refine aS (λh=>?_) U0;refine bD (λv=>x.2<=v.2/\v.2<=s.length+1) (λv hv=>?_) (λj hj=>?_)
 ·refine aF (hn _ eZ eZ)
 (repeat' (with_reducible first|refine aF ?_|refine W (λ_ _=>?_)|apply ba|apply aH|refine dH (λ_=>?_) (λ_=>?_)|(apply cW;try dsimp only)))
 all_goals first|exact aj (.inr ⟨yJ,yJ⟩)|exact hj _ eZ
def IY (hm:bN m) (hs:s.length<=70000):Ev (λi=>kT (m i) s 16 8) (λr=>r.2=0\/r.2=1\/r.2=2) dt:=by
 unfold kT;refine ay UM (λ_=>?_);refine bD (λv=>v=(s,16)) (λv hv=>?_) (λj9 hj9=>?_)
 ·subst hv;dsimp only;refine bD (λv=>v=8) (λv hv=>?_) (λj12 hj12=>?_)
  ·subst hv;refine bD (λ_=>True) (λv _=>?_) (λj hj=>?_)
   ·refine dB (wrap_u64 _).1 ?_;have hl:(ofBytes s).length<=70000:=by simpa[ofBytes] using hs
    refine bR hm (λ(x:Bool×Int×Int)=>x.1=false/\0<=x.2.2/\x.2.2<=(ofBytes s).length) (λx=>((ofBytes s).length - x.2.2).toNat) bm ?_;intro x hx next hn;refine aS (λgR=>?_) (λ_=>ay (λh=>by rw[hx.1] at h;cases h) (λ_=>aj (.inl rfl)));refine W λc _=>?_;refine bD (λ_=>True) (λv _=>?_) (λWj hj38=>?_)
    ·refine ay UM (λ_=>ay (λ_=>aj (.inr (.inl rfl))) (λ_=>ay (λ_=>aj (.inr (.inl rfl))) (λ_=>ay (λ_=>aj (.inr (.inl rfl))) (λ_=>?_))));exact aF (hn _ ⟨hx.1,eZ,eZ⟩ eZ)
    refine bD (λv=>v=false) (λv hv=>?_) (λj58 hj58=>?_)
    ·subst hv;refine aH ?_;refine bD (λ_=>True) (λv _=>?_) (λj64 hj64=>ay (λ_=>hj64 _ trivial) (λ_=>hj64 _ trivial));refine ay (λ_=>hj38 _ trivial) (λ_=>bI rfl (ay (λ_=>bI rfl (ay (λ_=>bI rfl (hj38 _ trivial)) UM)) UM))
    exact ay (λ_=>hj58 _ rfl) (λ_=>hj58 _ rfl)
   exact ay Tj (λ_=>ay (λ_=>hj _ trivial) Tj)
  exact ay Tj (λ_=>ay Tj (λ_=>ay Tj (λ_=>hj12 _ rfl)))
 refine bD (λv=>v=true) (λv hv=>?_) (λj99 hj99=>?_)
 ·subst hv;exact ba (hj9 _ rfl)
 exact ay (λ_=>hj99 _ bm) Tj
def OL (hm:bN m) (hs:s.length<=70000):Ev (λi=>oT (m i) s 16 8) (λ_=>True) dt:=by
 unfold oT;refine ai (IY hm hs) λy hy=>kP (λh=>?_) pL;refine bI (a:=true) ?_ A4;unfold uS;simp only[aG.gd];rw[aL ⟨aD,aD⟩]
def Ha (hm:bN m) (hs:s.length<=70000):Ev (λi=>qu (m i) s) (λr=>0<=r.2/\r.2<=s.length) dt:=by
 unfold qu;refine aS U0 (λh=>?_);refine W (λb _=>?_);refine bD (λ_=>True) (λv _=>?_) (λj hj=>?_)
 ·(repeat' (with_reducible first|refine aF ?_|refine W (λ_ _=>?_)|apply ba|apply aH|refine dH (λ_=>?_) (λ_=>?_)|(apply cW;try dsimp only)))
  all_goals first|exact aj eZ|skip
  refine ai (OL hm (by have:=ES (c:=s) (i:=2) (j:=4) aD aD aD;omega)) λy _=>?_
  (repeat' (with_reducible first|refine aF ?_|refine W (λ_ _=>?_)|apply ba|apply aH|refine dH (λ_=>?_) (λ_=>?_)|(apply cW;try dsimp only)))
  all_goals exact aj eZ
 exact Ř
def Co (hm:bN m) :
  Ev (λi=>ni (m i) s) (λr=>r.1.length<=s.length/\∀ c:UInt8,s[1]?=some c->c.toNat≠34->r.2.dX=0->1<=r.1.length) dt:=by
 unfold ni oz jU
 refine aS W4 (λh=>?_)
 refine cd W4 (λh=>?_)
 refine W (λb _=>?_)
 refine kP W4 (λh=>?_)
 refine bR hm (λ(x:List Int×Int)=>1<=x.2/\x.2<=s.length/\x.1.length<=x.2/\(x.2=1\/1<=x.1.length)) (λx=>(s.length - x.2).toNat) rI ?_
 intro x hx next hn
 refine aS W4 (λh=>?_)
 refine W (λb hb=>?_)
 refine cd (λh34=>?_) (λh34=>?_)
 ·refine aF (aS (λ_=>aF (aj ⟨bm,λ_ _ _ h=>by simp at h⟩)) (λ_=>?_))
  refine aj ⟨by simp[jz];omega,λc hc Pz _=>?_⟩
  rcases hx.2.2.2 with q|q
  ·rw[q] at hb
   simp only[Int.toNat_one] at hb
   rw[hb] at hc;cases hc
   omega
  ·simpa[jz] using q
 ·refine W (λb2 _=>?_)
  refine cd (λ_=>?_) (λ_=>?_)
  ·refine aF ?_
   have hl:=tZ (c:=s) (i:=x.2) aD aD
   refine ai (Ha hm aD) λy hy=>?_
   refine cd W4 (λh0=>?_)
   exact ahq
  ·refine bD (λ_=>True) (λv _=>?_) (λj hj=>?_)
   ·refine ay W4 (λ_=>?_)
    exact ahq
   ·exact Ř
end
section
variable {m:Nat->Nat} {s:ByS} {x:ey}
def Mk (hm:bN m) (hs:s.length<=65536):Ev (λi=>vk (m i) s) (λr=>r.2=true->r.1.length+2<=s.length) dt:=by
 unfold vk;refine bR hm (λ(x:Int×Int)=>0<=x.2/\x.2<=s.length/\x.1<=x.2/\ -x.2<=x.1) (λx=>(s.length - x.2).toNat) bm ?_;intro x hx next hn
 (repeat' (with_reducible first|refine aF ?_|refine W (λ_ _=>?_)|apply ba|apply aH|refine dH (λ_=>?_) (λ_=>?_)|(apply cW;try dsimp only)))
 ·exact hn _ eZ eZ
 ·have:=ES (c:=s) (i:=1) (j:=x.2) aD aD aD;exact aj λ_=>by dsimp only;omega
 ·exact hn _ eZ eZ
 ·exact hn _ eZ eZ
 exact aj bm
def IZ (hm:bN m) (hs:s.length<=65536) (h0:s[0]?=some 92):Ev (λi=>ru (m i) s) (λr=>r.2=0\/2<=r.2/\r.2<=s.length) dt:=by
 unfold ru;refine bD (λv=>2<=v) (λv hv=>?_) (λj hj=>?_)
 ·refine aS (λ_=>aj (.inl rfl)) (λh=>?_);refine aF ?_;have hl:=Nc (c:=s) (j:=v) aD aD;refine aF (aF ?_);refine ai (Co hm) λy hy=>?_;refine kP (λ_=>aj (.inl rfl)) (λhe=>?_);have h1:([34]++sd s v++[34])[1]?=some (92:UInt8):=by
   cases s with
   | nil=>simp at h0
   | cons a s=>
    simp at h0;subst h0
    have:v.toNat=(v.toNat - 1)+1:=by omega
    simp[sd];rw[this];simp
  have:=hy.2 _ h1 dN he;refine W λb _=>aj (.inr ⟨hv,eZ⟩)
 refine ai C6 λy _=>?_;exact ahx
def TV (n:Nat) (x:bP):Prop:=0<=x.cG/\x.cG<=n/\(x.Code=true->x.cG+x.bJ.length<n)
def Bp {t:List Int} {out:List bP} {f:Int} (ho:out.length<=70000) :
  Ev (λ_=>qv t out f) (λr=>r.1=[]/\r.2.2=f/\((t=[]/\r.2.1=out)\/(1<=t.length/\∃ x:bP,r.2.1=out++[x]/\x.Code=false/\x.cG=f))) dt:=by
 unfold qv
 (repeat' (with_reducible first|refine aF ?_|refine W (λ_ _=>?_)|apply ba|apply aH|refine dH (λ_=>?_) (λ_=>?_)|(apply cW;try dsimp only)))
 ·exact aj ⟨rfl,rfl,.inr ⟨by omega,_,rfl,rfl,rfl⟩⟩
 ·exact aj ⟨rfl,rfl,.inl ⟨eW aD,rfl⟩⟩
def yF (hm:bN m) (hs:s.length<=65536):Ev (λi=>pT (m i) s) (λr=>r.1.length<=s.length/\∀ x,x∈r.1->TV s.length x) dt:=by
 unfold pT;refine bR hm (λ(x:List bP×List Int×Int×Int)=>0<=x.2.2.2/\x.2.2.2<=s.length/\0<=x.2.2.1/\x.2.2.1<=s.length/\(x.1.length:Int)+min 1 x.2.1.length<=x.2.2.2/\(x.2.1.length:Int)<=x.2.2.2/\∀ p,p∈x.1->TV s.length p)
  (λx=>(s.length - x.2.2.2).toNat) bm ?_
 rintro ⟨out,t,f,i⟩ ⟨h1,h2,h3,h4,h5,h6,h7⟩ next hn;dsimp only at h1 h2 h3 h4 h5 h6 h7 hn ⊢;refine aS (λhi=>?_) (λhi=>?_)
 ·refine bD (λv=>0<=v/\v<=s.length) (λv hv=>?_) (λj hj=>?_)
  ·refine aF (ai C6 λy hy=>?_);refine ay (λhp=>?_) (λ_=>?_)
   ·refine aF (aF ?_);have hl:=tZ (c:=s) (i:=i+1) aD aD;refine ai (Mk hm aD) λc hc=>?_;refine df Y7 (λhct=>?_);have Pz:=hc hct;refine ai (Bp aD) λr hr=>?_;obtain ⟨r1,r2,r3⟩:=hr;have hr4:(r.2.1.length:Int)<=i/\∀ p,p∈r.2.1->TV s.length p:=by
     rcases r3 with ⟨a,b⟩|⟨a,x,b,c1,c2⟩
     ·rw[b];subst a;exact ⟨by simp at h5;omega,h7⟩
     rw[b];refine ⟨rI,λp hp=>?_⟩;exact ahU
    (repeat' (with_reducible first|refine aF ?_|refine W (λ_ _=>?_)|apply ba|apply aH|refine dH (λ_=>?_) (λ_=>?_)|(apply cW;try dsimp only)))
    refine hn _ ⟨eZ,eZ,eZ,eZ,by rw[r1];simp;omega,by rw[r1];simp;omega,λp hp=>?_⟩ eZ;rcases bL.1 hp with q|q
    ·exact hr4.2 p q
    simp at q;subst q;exact ⟨eZ,eZ,λ_=>by dsimp only;omega⟩
   refine W (λb hb=>?_);refine cd (λDm=>?_) (λ_=>?_)
   ·refine aF ?_;have hl:=tZ (c:=s) (i:=i) aD aD;have h0:(gp s i)[0]?=some (92:UInt8):=by
     simp only[gp,dz,Nat.add_zero,hb];congr 1;apply qX.1;show b.toNat=92;omega
    refine ai (IZ hm aD h0) λe he=>?_;refine cd Y7 (λuv=>?_);exact aho
   refine bD (λ_=>True) (λw _=>?_) (λj2 xI=>?_)
   ·refine ay Y7 (λ_=>?_);exact aho
   exact ahy
  exact ahx
 refine ai (Bp aD) λr hr=>?_;obtain ⟨r1,r2,r3⟩:=hr;refine aj ?_;rcases r3 with ⟨a,b⟩|⟨a,x,b,c1,c2⟩
 ·dsimp only;rw[b];exact ⟨by omega,h7⟩
 dsimp only;rw[b];refine ⟨rI,λp hp=>?_⟩;exact ahU
structure ai0 (a:Int) (t:aB):Prop where
 p0:0<=t.cG
 pe:t.cG<t.oZ
 e:t.oZ<=a
 k:t.an≠0
 ip:t.an=4->(t.bJ.length:Int)+2<=t.oZ - t.cG
 tl:t.bJ.length<=65536
structure Iy (a:Int) (l:List aB):Prop where
 len:(l.length:Int)<=a
 ok:∀ t,t∈l->ai0 a t
 sorted:l.Pairwise λt u=>t.oZ<=u.cG
variable {l:List aB}
def Iy.snoc (h:Iy a l) {t:aB} (h1:t.cG=a) (h2:a<t.oZ) (h0:0<=a) (hk:t.an≠0) (hi:t.an=4->(t.bJ.length:Int)+2<=t.oZ - t.cG) (hl:t.bJ.length<=65536):Iy t.oZ (l++[t]):=by
 refine ⟨by have:=h.len;simp;omega,λu hu=>?_,?_⟩
 ·rcases bL.1 hu with q|q
  ·obtain ⟨a1,a2,a3,a4,a5,a6⟩:=h.ok u q;exact ⟨a1,a2,by omega,a4,a5,a6⟩
  simp at q;subst q;exact ⟨by omega,by omega,by omega,hk,hi,hl⟩
 refine List.pairwise_append.2 ⟨h.sorted,bm,λu hu v hv=>?_⟩;simp at hv;subst hv;have:=(h.ok u hu).e;omega
def Iy.mono {b:Int} (h:Iy a l) (hab:a<=b):Iy b l:=
 ⟨by have:=h.len;omega,λt ht=>let q:=h.ok t ht;⟨q.p0,q.pe,by have:=q.e;omega,q.k,q.ip,q.tl⟩,h.sorted⟩
structure RO (s:ByS) (x:ey):Prop where
 bM:x.bM=s
 LJ:0<=x.bB
 Nn:x.bB<=s.length
 out:Iy x.bB x.out
variable {k:Int} {t:ByS}
def yh (h0:0<=x.bB) (h1:x.bB<=70000) (hn:0<=n) (IN:n<=70000) (ho:x.out.length<=70000) (ht:t.length<=70000) :
  Ev (λ_=>eR k t n x) (λr=>r.bM=x.bM/\r.bB=x.bB+n/\r.out=x.out++[aB.mk k t x.bB (x.bB+n)]) dt:=by
 unfold eR Cz jU
 refine aF (aF (aF (cd (λ_=>aj JH) (λ_=>?_))))
 refine bD (λ_=>True) (λv _=>?_) (λj hj=>?_)
 ·refine ay (λ_=>aj JH) (λ_=>?_)
  refine cd (λ_=>?_) (λ_=>aj JH)
  (repeat' (with_reducible first|refine aF ?_|refine W (λ_ _=>?_)|apply ba|apply aH|refine dH (λ_=>?_) (λ_=>?_)|(apply cW;try dsimp only)))
  exact ai (D1 bm) λy _=>aj JH
 ·exact Ř
def RO.add (hs:s.length<=65536) (h:RO s x) (hn:1<=n) (IN:x.bB+n<=s.length) (ht:t.length<=65536) (hk:k≠0) (hi:k=4->(t.length:Int)+2<=n) :
  Ev (λ_=>eR k t n x) (λr=>RO s r/\x.bB<r.bB) dt:=by
 have hl:=h.out.len
 have h0:=h.LJ
 have h1:=h.Nn
 refine (yh (k:=k) (t:=t) h0 aD aD aD aD aD).oB λr hr=>?_
 refine ⟨⟨by rw[hr.1];exact h.bM,by omega,by omega,?_⟩,by omega⟩
 rw[hr.2.1,hr.2.2]
 have:=h.out.snoc (t:=aB.mk k t x.bB (x.bB+n)) rfl eZ h0 hk (λq=>by have:=hi q;dsimp only;omega) ht
 exact this
def EE (hm:bN m) (hs:s.length<=65536) (h:RO s x) :
  Ev (λi=>nD (m i) x) (λr=>RO s r.2/\(r.1=true->x.bB<r.2.bB)) dt:=by
 have hl:=h.out.len
 have h0:=h.LJ
 have h1:=h.Nn
 have ht:=h.bM
 unfold nD jg
 simp only[ht]
 refine aF ?_
 have hq:=tZ (c:=s) (i:=x.bB) aD aD
 refine ai (H5 hm aD) λy hy=>?_
 refine cd Qf (λuv=>?_)
 refine aF (aF ?_)
 have Gs:=ES (c:=s) (i:=x.bB) (j:=x.bB+y.1) aD aD aD
 refine ay (λ_=>?_) (λ_=>?_)
 ·refine aF (aF ?_)
  have Ds:=ES (c:=sub s x.bB (x.bB+y.1)) (i:=1) (j:=y.1 - 1) aD aD aD
  refine ai (yF hm aD) λz _=>?_
  refine kP Qf (λ_=>?_)
  refine aF (aF ?_)
  refine ai (h.add hs aD aD aD dN JQ) λr hr=>aj ⟨hr.1,λ_=>hr.2⟩
 ·refine ai (Co hm) λz hz=>?_
  refine kP Qf (λ_=>?_)
  refine ai (h.add hs aD aD aD dN JD) λr hr=>aj ⟨hr.1,λ_=>hr.2⟩
def Wk:∀ (s p:ByS) (i:Nat),vM s p=some i->i<=s.length
 | [],p,i,h=>by
  unfold vM at h;split at h
  ·cases h;simp
  cases h
 | b::l,p,i,h=>by
  unfold vM at h;split at h
  ·cases h;simp
  cases q:vM l p with
  | none=>rw[q] at h;cases h
  | some k=>rw[q] at h;cases h;have:=Wk l p k q;simp;omega
variable {p:ByS}
def X0 (h:(sd s p.length==p)=true):∃ r,s=p++r:=by
 have:=cn.1 h;simp only[sd,rW] at this;exact ⟨s.drop p.length,by conv=>lhs;rw[<- mI p.length s,this]⟩
def Ml:Ev (λ_=>strings_HasPrefix s p) (λr=>r=true->∃ q,s=p++q) dt:=by
 unfold strings_HasPrefix stringslite_HasPrefix;refine ai (Q:=λr=>r=true->∃ q,s=p++q) ?_ λ_ h=>aj h
 (repeat' (with_reducible first|refine aF ?_|refine W (λ_ _=>?_)|apply ba|apply aH|refine dH (λ_=>?_) (λ_=>?_)|(apply cW;try dsimp only)))
 ·exact aj (λh=>X0 h)
 exact aj bm
def DN (hm:bN m) (hs:s.length<=65536) (h:RO s x) (gR:x.bB<s.length) :
  Ev (λi=>mD (m i) x) (λr=>RO s r.2/\(r.1=true->x.bB<r.2.bB)) dt:=by
 have hl:=h.out.len
 have h0:=h.LJ
 have h1:=h.Nn
 have ht:=h.bM
 unfold mD jg
 simp only[ht]
 refine aF ?_
 have hq:=tZ (c:=s) (i:=x.bB) aD aD
 refine ai Ml λy hy=>?_
 refine ay (λhp=>?_) (λ_=>?_)
 ·obtain ⟨r,hr⟩:=hy hp
  rw[hr] at hq ⊢
  refine dJ (Q:=λc=>2<=c.1.length/\c.1.length<=([47,47]++r:ByS).length) ?_ λc hc=>?_
  ·unfold strings_Cut
   refine aF (aj ?_)
   split
   ·rename_i i hi
    have:=Wk _ _ _ hi
    refine ⟨?_,rI⟩
    have h2:2<=i:=by
     cases q:vM r [10] with
     | none=>simp[vM,q] at hi
     | some k=>simp[vM,q] at hi;omega
    simp at this ⊢;omega
   ·simp
  ·refine aF ?_
   have:=tZ (c:=c.1) (i:=2) aD aD
   refine ai (h.add hs aD aD aD dN JD) λr hr=>aj ⟨hr.1,λ_=>hr.2⟩
 ·refine ai (Mj hm aD) λy hy=>?_
  refine aS (λhp=>?_) (λ_=>?_)
  ·refine aF ?_
   have:=Kw (c:=gp s x.bB) (j:=y)
   refine ai (h.add hs aD aD aD dN JD) λr hr=>aj ⟨hr.1,λ_=>hr.2⟩
  ·refine W (λb hb=>?_)
   refine ai tR λd hd=>?_
   refine ay (λhdt=>?_) (λ_=>?_)
   ·rw[hd] at hdt
    have hdd:=bg hdt
    refine ai (IX hm aD) λy hy=>?_
    have P3:=hy.2.2 b hb hdd.1 hdd.2
    refine aF ?_
    have:=Kw (c:=gp s x.bB) (j:=y)
    refine ai (ED hm) λz _=>?_
    refine kP Qf (λ_=>?_)
    refine aF ?_
    refine ai (h.add hs aD aD aD dN JD) λr hr=>aj ⟨hr.1,λ_=>hr.2⟩
   ·refine cd (λ_=>?_) (λ_=>?_)
    ·exact ai (EE hm hs h) λr hr=>aj hr
    ·refine ai (G9 hm) λy hy=>?_
     refine cd Qf (λuv=>?_)
     have:1<=y.length:=by
      cases y with
      | nil=>exact aw rfl uv
      | cons=>simp
     refine ai (h.add hs aD aD aD dN JD) λr hr=>aj ⟨hr.1,λ_=>hr.2⟩
structure afu (s:ByS) (M:List aB):Prop where
 big:s.length<=65536
 is:∃ l,M=l++[aB.mk 0 [] s.length s.length]/\Iy s.length l
def BM (hm:bN m):Ev (λi=>pc (m i) s) (λr=>0<=r.2.At/\r.2.At<=s.length/\(r.2.dX=0->r.2.At=0/\afu s r.1)) dt:=by
 unfold pc jg oz jU tG;refine aS (λ_=>aj ⟨bm,bm,bm⟩) (λh=>?_);refine bR hm (λ(x:ey)=>RO s x) (λx=>(s.length - x.bB).toNat) ⟨rfl,bm,bm,bm,bm,bm⟩ ?_;intro x hx next hn;have hl:=hx.out.len;have h0:=hx.LJ;have h1:=hx.Nn;refine aS (λgR=>?_) (λFf=>?_)
 ·refine W (λb hb=>?_);refine bD (λ_=>True) (λv _=>?_) (λj hj=>?_)
  ·refine aF (hn _ ⟨hx.bM,eZ,eZ,hx.out.mono eZ⟩ eZ)
  refine cd (λ_=>?_) (λ_=>?_)
  ·refine ay (λ_=>?_) (λ_=>hj _ trivial);refine ai (hx.add aD aD aD bm dN JD) λr hr=>?_;exact hn _ ⟨hr.1.bM,hr.1.LJ,hr.1.Nn,hr.1.out⟩ (by have:=hr.1.Nn;dsimp only;omega)
  (repeat' (with_reducible first|refine aF ?_|refine W (λ_ _=>?_)|apply ba|apply aH|refine dH (λ_=>?_) (λ_=>?_)|(apply cW;try dsimp only)))
  all_goals first|exact hj _ trivial|skip
  refine ai (DN hm aD hx gR) λr hr=>?_;refine df (λ_=>aj ⟨hr.1.LJ,hr.1.Nn,bm⟩) (λhb=>hn _ hr.1 (by have:=hr.1.Nn;have:=hr.2 hb;omega))
 have:x.bB=s.length:=by omega
 refine ai (yh aD aD aD aD aD bm) λr hr=>?_;refine aj ⟨bm,bm,λ_=>⟨rfl,aD,x.out,?_,this▸hx.out⟩⟩;rw[hr.2.2,this];simp
end
section
def wrap_i64 {x:Int} (h0:-9223372036854775808<=x) (h1:x<=9223372036854775807):IntKind.wrap .i64 x=x:=by
 have:IntKind.wrap .i64 x=if x % 18446744073709551616>=9223372036854775808 then x % 18446744073709551616 - 18446744073709551616 else x % 18446744073709551616:=by
  simp[IntKind.wrap,IntKind.bits,IntKind.signed]
 rw[this];split<;>omega
def Wl {v:Int} (h0:0<=v) (h1:v<256):0<=IntKind.wrap .i64 (Int.tdiv v 64)/\IntKind.wrap .i64 (Int.tdiv v 64)<4:=by
 have:Int.tdiv v 64=v / 64:=jX h0;rw[this,wrap_i64 aD aD];omega
variable {m:Nat->Nat} {p:L} {s:ByS}
def LP (hm:bN m):Ev (λi=>iz (m i) a b) (λ_=>True) dt:=by
 unfold iz jg;refine bR hm (λ(x:eb×Int)=>0<=x.2/\x.2<=256) (λx=>(256 - x.2).toNat) bm ?_;intro x hx next hn;refine aS (λh=>?_) pL;have hw:=Wl hx.1 h;have ht:0<=Int.tmod x.2 64:=Int.tmod_nonneg _ hx.1;refine bD (λ_=>True) (λv _=>?_) (λj hj=>?_)
 ·refine ay (λ_=>?_) (λ_=>?_)
  ·refine aF (dB hw (aF (dB ht (dB hw (aF ?_)))));exact hn _ eZ eZ
  refine aF ?_;exact hn _ eZ eZ
 exact Ř
def LS (hm:bN m) {a b:eb}:Ev (λi=>kj (m i) a b) (λ_=>True) dt:=by
 unfold kj jg;exact ahe
def KQ (hm:bN m) {a:eb}:Ev (λi=>sD (m i) a) (λ_=>True) dt:=by
 unfold sD;exact ahe
inductive Mm:bh->Prop where
 | mk {k a b c d:Int} {l:List bh} (h:l.length<=70000) (hs:∀ x,x∈l->Mm x):Mm (bh.mk k a b c d l)
variable {k:Int}
def Mm.leaf {d:Int}:Mm (bh.mk k a b c d []):=.mk bm bm
def KS (hm:bN m):Ev (λi=>tH (m i) c) (λ_=>True) dt:=by
 unfold tH;refine ai Jx λ_ _=>?_
 (repeat' (with_reducible first|refine aF ?_|refine W (λ_ _=>?_)|apply ba|apply aH|refine dH (λ_=>?_) (λ_=>?_)|(apply cW;try dsimp only)))
 ·exact A4
 ·refine ai Jx λ_ _=>ai Jx λ_ _=>ai JJ λ_ _=>ai JJ λ_ _=>ai Jx λ_ _=>ai JJ λ_ _=>aj trivial
 ·refine ai Jx λ_ _=>ai Jx λ_ _=>ai JJ λ_ _=>ai Jx λ_ _=>ai JJ λ_ _=>aj trivial
 exact A4
def GI (hm:bN m):Ev (λi=>sY (m i) c) Mm dt:=by
 unfold sY;exact ai Jx λ_ _=>aj .leaf
def RP:sT->Prop:=λp=>∃ v:Int,p=⟨188,[.sc (.int .i64 v)]⟩
def agV {α:Type} {K:Nat->L->aG α} {Q:α->Prop}:Ev (λi=>ag (eF a p) (K i)) Q RP:=by
 unfold eF;exact Ev.qH ⟨a,rfl⟩
structure RI (s:ByS) (p:L):Prop where
 bM:p.bM=s
 LJ:0<=p.bB
 Nn:p.bB<=s.length
def kM (h:RI s p):Ev (λ_=>dj p) (λr=>r.2=p/\(r.1≠0->p.bB<s.length)) dt:=by
 have h0:=h.LJ;have ht:=h.bM;unfold dj jg;rw[ht]
 (repeat' (with_reducible first|refine aF ?_|refine W (λ_ _=>?_)|apply ba|apply aH|refine dH (λ_=>?_) (λ_=>?_)|(apply cW;try dsimp only)))
 ·exact aj ⟨rfl,λ_=>by omega⟩
 exact aj ⟨rfl,λh=>aw rfl h⟩
def KT:Ev (λ_=>sC c) (λr=>r.2=true->c≠0) dt:=by
 unfold sC;refine bD (λv=>v=true->c≠0) (λv hv=>?_) (λj hj=>?_)
 ·refine ay (λh=>aj λ_=>hv h) (λ_=>?_);refine bD (λv=>v=true->c≠0) (λv hv=>?_) (λj hj=>?_)
  ·refine ay (λh=>aj λ_=>hv h) (λ_=>?_)
   (repeat' (with_reducible first|refine aF ?_|refine W (λ_ _=>?_)|apply ba|apply aH|refine dH (λ_=>?_) (λ_=>?_)|(apply cW;try dsimp only)))
   ·exact aj λ_=>by omega
   all_goals exact aj bm
  exact ahw
 exact ahw
def zF (hm:bN m) (hs:s.length<=70000) (h:RI s p) (gR:p.bB<s.length) :
  Ev (λi=>iU (m i) c p) (λr=>RI s r.2/\p.bB<r.2.bB) RP:=by
 have h0:=h.LJ
 unfold iU
 refine bR hm (λ(x:L×Int×Int)=>RI s x.1/\x.1.bB<s.length/\p.bB<=x.1.bB/\0<=x.2.2/\x.2.2<=2) (λx=>(2 - x.2.2).toNat) ⟨h,gR,bm,bm,bm⟩ ?_
 rintro x ⟨h1,h2,h3,h4,h5⟩ next hn
 have h6:=h1.LJ
 refine aS (λhi=>?_) (λhi=>?_)
 ·refine aF (aF ?_)
  have hR:RI s (L.mk x.1.bM (x.1.bB+1)):=⟨h1.bM,eZ,eZ⟩
  refine dJ UW λy hy=>?_
  refine dJ KT λd hd=>?_
  refine aF ?_
  refine bD (λv=>v=false->d.2=true) (λv hv=>?_) (λj hj=>?_)
  ·refine ay Fx (λhf=>?_)
   have:=hy.2 (hd (hv hf))
   rw[hy.1]
   refine aF (hn _ ⟨hR,this,?_,?_,?_⟩ ?_)
   all_goals (dsimp only at *;omega)
  ·refine df (λ_=>hj _ bm) (λGW=>?_)
   (repeat' (with_reducible first|refine aF ?_|refine W (λ_ _=>?_)|apply ba|apply aH|refine dH (λ_=>?_) (λ_=>?_)|(apply cW;try dsimp only)))
   all_goals exact hj _ (λ_=>GW)
 ·refine aF (aj ⟨⟨h1.bM,?_,?_⟩,?_⟩)
  all_goals (dsimp only;omega)
def vw (hm:bN m) (hs:s.length<=70000) (h:RI s p) (gR:p.bB<s.length) :
  Ev (λi=>gI (m i) c p) (λr=>RI s r.2/\p.bB<r.2.bB) RP:=by
 have h0:=h.LJ
 unfold gI jg
 rw[h.bM]
 refine aF ?_
 have hR:RI s (L.mk s (p.bB+1)):=Ik
 refine dJ UW λy hy=>?_
 rw[hy.1];dsimp only
 refine bD (λv=>v.1=(L.mk s (p.bB+1))/\p.bB+1<s.length) (λv hv=>?_) (λj hj=>?_)
 ·refine bD (λv=>v=(L.mk s (p.bB+1))) (λv2 hv2=>?_) (λj hj=>?_)
  ·subst hv2
   refine aF (aj ⟨⟨rfl,?_,?_⟩,?_⟩)
   all_goals (dsimp only;omega)
  ·exact aS Fx (λ_=>hj _ hv.1)
 ·refine aS Fx (λKU=>?_)
  have hlt3:p.bB+1<s.length:=by omega
  (repeat' (with_reducible first|refine aF ?_|refine W (λ_ _=>?_)|apply ba|apply aH|refine dH (λ_=>?_) (λ_=>?_)|(apply cW;try dsimp only)))
  ·refine (ai (zF hm hs hR eZ) λz hz=>aj ⟨hz.1,?_⟩)
   have:=hz.2;dsimp only at *;omega
  ·exact hj _ ⟨rfl,hlt3⟩
  ·exact hj _ ⟨rfl,hlt3⟩
  ·exact hj _ ⟨rfl,hlt3⟩
  ·refine dJ (Q:=λ_=>True) A4 λz _=>?_
   exact aS Fx (λ_=>hj _ ⟨rfl,hlt3⟩)
def yi (hm:bN m) (hs:s.length<=70000) (h:RI s p) :
  Ev (λi=>gN (m i) c p) (λr=>RI s r.2/\p.bB<r.2.bB) RP:=by
 have h0:=h.LJ
 have h1:=h.Nn
 unfold gN jg
 refine dJ (kM h) λy hy=>?_
 rw[hy.1]
 refine bD (λv=>v=p/\p.bB<s.length) (λv hv=>?_) (λj hj=>?_)
 ·rw[hv.1]
  refine aF (aj ⟨⟨h.bM,?_,?_⟩,?_⟩)
  all_goals (dsimp only;omega)
 ·rw[h.bM]
  refine aS Fx (λKU=>?_)
  have gR:p.bB<s.length:=by omega
  refine cd (λ_=>?_) (λ_=>?_)
  ·exact ai (vw hm hs h gR) λz hz=>aj hz
  ·refine bD (λ_=>True) (λv _=>?_) (λj2 xI=>?_)
   ·exact ay Fx (λ_=>hj _ ⟨rfl,gR⟩)
   ·(repeat' (with_reducible first|refine aF ?_|refine W (λ_ _=>?_)|apply ba|apply aH|refine dH (λ_=>?_) (λ_=>?_)|(apply cW;try dsimp only)))
    ·exact xI _ trivial
    ·exact xI _ trivial
    ·exact xI _ trivial
    ·exact acd
def Fw (hm:bN m) (hs:s.length<=70000) (h:RI s p) (gR:p.bB<s.length) :
  Ev (λi=>n7 (m i) p) (λr=>RI s r.2/\p.bB<r.2.bB/\Mm r.1) RP:=by
 have h0:=h.LJ
 unfold n7 jg
 refine aF ?_
 have hR:RI s (L.mk p.bM (p.bB+1)):=⟨h.bM,eZ,eZ⟩
 refine dJ UW λy hy=>?_
 rw[hy.1];dsimp only
 have KV:=hy.2;dsimp only at KV
 refine bD (λv=>RI s v/\p.bB<v.bB) (λv hv=>?_) (λj hj=>?_)
 ·refine bD (λw=>RI s w.1/\p.bB<w.1.bB/\(w.2=true->w.1.bB<s.length)) (λw hw=>?_) (λj hj=>?_)
  ·have PH:=hw.1.LJ
   have hw1:=hw.1.Nn
   refine ay (λhb=>?_) (λ_=>?_)
   ·have:=hw.2.2 hb
    refine aF (aj ⟨⟨hw.1.bM,?_,?_⟩,?_,.leaf⟩)
    all_goals (dsimp only;omega)
   ·refine bR hm (λ(x:L×eb×Bool)=>RI s x.1/\p.bB<x.1.bB) (λx=>(s.length - x.1.bB).toNat) ⟨hw.1,hw.2.1⟩ ?_
    rintro x ⟨Hm,uz⟩ next hn
    have hx0:=Hm.LJ
    have Wm:=Hm.Nn
    refine bD (λv=>v=x.1) (λv hv=>?_) (λj hj=>?_)
    ·subst hv
     refine ai (yi hm hs Hm) λz hz=>?_
     have hz0:=hz.1.LJ
     have hz1:=hz.1.Nn
     have KX:=hz.2
     refine dJ (kM hz.1) λz2 KX=>?_
     rw[KX.1]
     refine cd (λhq=>?_) (λ_=>?_)
     ·have:=KX.2 aD
      have LZ:RI s (L.mk z.2.bM (z.2.bB+1)):=⟨hz.1.bM,eZ,eZ⟩
      refine aF (ai (yi hm hs LZ) λz3 hz3=>?_)
      have hz4:=hz3.1.Nn
      have hz5:=hz3.2;dsimp only at hz5
      refine dJ Jx λ_ _=>dJ JJ λ_ _=>hn _ ⟨hz3.1,?_⟩ ?_
      all_goals (dsimp only;omega)
     ·refine dJ Jx λ_ _=>dJ JJ λ_ _=>hn _ ⟨hz.1,?_⟩ ?_
      all_goals (dsimp only;omega)
    ·refine ay (λ_=>hj _ rfl) (λ_=>?_)
     refine dJ Qh λz2 KX=>?_
     rw[KX.1]
     refine kP (λ_=>hj _ rfl) (λhq=>?_)
     have:=KX.2 aD
     refine aF ?_
     (repeat' (with_reducible first|refine aF ?_|refine W (λ_ _=>?_)|apply ba|apply aH|refine dH (λ_=>?_) (λ_=>?_)|(apply cW;try dsimp only)))
     ·refine dJ (KQ hm) λ_ _=>aj ⟨⟨Hm.bM,?_,?_⟩,?_,.leaf⟩
      all_goals (dsimp only;omega)
     ·refine aj ⟨⟨Hm.bM,?_,?_⟩,?_,.leaf⟩
      all_goals (dsimp only;omega)
  ·refine df (λ_=>?_) (λ_=>hj _ ⟨hv.1,hv.2,bm⟩)
   refine dJ (kM hv.1) λz2 KX=>?_
   rw[KX.1]
   refine hj _ ⟨hv.1,hv.2,λhq=>KX.2 ?_⟩
   have:=cn.1 hq
   omega
 ·refine cd (λhq=>?_) (λ_=>hj _ ⟨hR,eZ⟩)
  have:=KV aD
  refine aF (hj _ ⟨⟨h.bM,?_,?_⟩,?_⟩)
  all_goals (dsimp only;omega)
def LV {l:List bh} (h:l.length<=70000) (hs:∀ x,x∈l->Mm x):Ev (λ_=>qq k l) Mm dt:=by
 unfold qq;refine cd (λ_=>?_) (λ_=>aj (.mk h hs));exact W λx hx=>aj (hs x (aP hx))
structure RG (s:ByS) (k:Nat):Prop where
 alt:∀ {m:Nat->Nat} {p:L},bN m->RI s p->8*(s.length - p.bB).toNat+6<k->Ev (λi=>dZ (m i) p) (λr=>RI s r.2/\p.bB<r.2.bB/\Mm r.1) RP
 Ã:∀ {m:Nat->Nat} {p:L},bN m->RI s p->8*(s.length - p.bB).toNat+5<k->Ev (λi=>ez (m i) p) (λr=>RI s r.2/\p.bB<r.2.bB/\Mm r.1) RP
 RS:∀ {m:Nat->Nat} {p:L} {l:List bh},bN m->RI s p->8*(s.length - p.bB).toNat+4<k->l.length<=70000->(∀ x,x∈l->Mm x)->
  Ev (λi=>dP (m i) l p) (λr=>RI s r.2/\p.bB<r.2.bB/\r.1.length=l.length+1/\∀ x,x∈r.1->Mm x) RP
 piece:∀ {m:Nat->Nat} {p:L},bN m->RI s p->8*(s.length - p.bB).toNat+3<k->Ev (λi=>iW (m i) p) (λr=>RI s r.2/\p.bB<r.2.bB/\Mm r.1) RP
 atom:∀ {m:Nat->Nat} {p:L},bN m->RI s p->8*(s.length - p.bB).toNat+2<k->Ev (λi=>jA (m i) p) (λr=>RI s r.2/\p.bB<r.2.bB/\Mm r.1) RP
 group:∀ {m:Nat->Nat} {p:L},bN m->RI s p->p.bB<s.length->8*(s.length - p.bB).toNat+1<k->Ev (λi=>iV (m i) p) (λr=>RI s r.2/\p.bB<r.2.bB/\Mm r.1) RP
def afv (hs:s.length<=60000):∀ k,RG s k:=by
 intro k
 induction k with
 | zero=>exact ⟨λ_ _ h=>aw h Gn,λ_ _ h=>aw h Gn,λ_ _ h=>aw h Gn,λ_ _ h=>aw h Gn,λ_ _ h=>aw h Gn,λ_ _ _ h=>aw h Gn⟩
 | succ k ih=>
  refine ⟨?_,?_,?_,?_,?_,?_⟩
  ·intro m p hm h hk;have h0:=h.LJ;refine bV (F:=λn=>dZ n p) hm λm hm=>?_;show Ev (λi=>gx (m i) (bG (m i)) p) _ _;unfold gx oz jU;refine ai (ih.Ã hm h aD) λy hy=>?_;refine bR hm (λ(x:L×List bh)=>RI s x.1/\p.bB<x.1.bB/\x.2.length<=x.1.bB/\∀ z,z∈x.2->Mm z) (λx=>(s.length - x.1.bB).toNat) ⟨hy.1,hy.2.1,rI,by simpa using hy.2.2⟩ ?_;rintro x ⟨Hm,uz,Wm,hx4⟩ next hn;have TK:=Hm.Nn;refine dJ Qh λz hz=>?_;rw[hz.1];refine cd (λhq=>?_) (λ_=>?_)
   ·have:=hz.2 aD;have hR:RI s (L.mk x.1.bM (x.1.bB+1)):=⟨Hm.bM,eZ,eZ⟩;refine aF (ai (ih.Ã hm hR eZ) λw hw=>?_);have hw1:=hw.2.1;dsimp only at hw1;have Gf:=hw.1.Nn;refine aF (hn _ ⟨hw.1,eZ,rI,λz hz=>?_⟩ eZ);rcases bL.1 hz with q|q
    ·exact hx4 z q
    simp at q;subst q;exact hw.2.2
   exact Ş
  ·intro m p hm h hk;have h0:=h.LJ;refine bV (F:=λn=>ez n p) hm λm hm=>?_;show Ev (λi=>gb (m i) (bG (m i)) p) _ _;unfold gb jg oz;refine ai (ih.RS (l:=[]) hm h aD bm bm) λy hy=>?_;have hy3:=hy.2.2.1;refine bR hm (λ(x:L×List bh)=>RI s x.1/\p.bB<x.1.bB/\x.2.length<=x.1.bB/\∀ z,z∈x.2->Mm z) (λx=>(s.length - x.1.bB).toNat) ⟨hy.1,hy.2.1,by simp at hy3;dsimp only;omega,hy.2.2.2⟩ ?_;rintro x ⟨Hm,uz,Wm,hx4⟩ next hn;have TK:=Hm.Nn;refine aS (λgR=>?_) (λ_=>?_)
   ·refine dJ Qh λz hz=>?_;rw[hz.1];refine kP (λ_=>?_) (λ_=>?_)
    ·refine dJ Qh λz hz=>?_;rw[hz.1];refine kP (λ_=>?_) (λ_=>?_)
     ·rw[Hm.bM] at gR;refine ai (ih.RS hm Hm aD aD hx4) λw hw=>?_;have hw1:=hw.2.1;have Gf:=hw.1.Nn;have hw3:=hw.2.2.1;exact hn _ ⟨hw.1,eZ,eZ,hw.2.2.2⟩ eZ
     exact Ş
    exact Ş
   exact Ş
  ·intro m p l hm h hk hl hls;refine bV (F:=λn=>dP n l p) hm λm hm=>?_;show Ev (λi=>fI (m i) (bG (m i)) l p) _ _;unfold fI YE jU;refine ai (ih.piece hm h aD) λy hy=>?_;refine aF (aj ⟨hy.1,hy.2.1,bm,λz hz=>?_⟩);rcases bL.1 hz with q|q
   ·exact hls z q
   simp at q;subst q;exact hy.2.2
  ·intro m p hm h hk;refine bV (F:=λn=>iW n p) hm λm hm=>?_;show Ev (λi=>kR (m i) (bG (m i)) p) _ _;unfold kR;refine ai (ih.atom hm h aD) λy hy=>?_;refine bR hm (λ(x:L×bh)=>RI s x.1/\p.bB<x.1.bB/\Mm x.2) (λx=>(s.length - x.1.bB).toNat) ⟨hy.1,hy.2.1,hy.2.2⟩ ?_;rintro x ⟨Hm,uz,Wm⟩ next hn;have hx0:=Hm.LJ;have TK:=Hm.Nn;refine bD (λv=>v.1=x.1/\x.1.bB<s.length/\Mm v.2) (λv hv=>?_) (λj hj=>?_)
   ·rw[hv.1];have:=hv.2.1;refine aF (hn _ ⟨⟨Hm.bM,?_,?_⟩,?_,hv.2.2⟩ ?_);all_goals (dsimp only;omega)
   refine dJ Qh λz hz=>?_;rw[hz.1];have SP:Mm (bh.mk 5 0 0 0 0 [x.2]):=.mk bm (by simpa using Wm);refine cd (λhq=>hj _ ⟨rfl,hz.2 aD,SP⟩) (λ_=>?_);refine cd (λhq=>hj _ ⟨rfl,hz.2 aD,.mk bm ?_⟩) (λ_=>?_)
   ·intro w hw;simp at hw;rcases hw with rfl|rfl
    ·exact Wm
    exact SP
   refine cd (λhq=>hj _ ⟨rfl,hz.2 aD,.mk bm ?_⟩) (λ_=>aj ⟨Hm,uz,Wm⟩);intro w hw;simp at hw;rcases hw with rfl|rfl
   ·exact Wm
   exact .leaf
  ·intro m p hm h hk;have h0:=h.LJ;have h1:=h.Nn;refine bV (F:=λn=>jA n p) hm λm hm=>?_;show Ev (λi=>lQ (m i) (bG (m i)) p) _ _;unfold lQ uD jg;refine dJ (kM h) λy hy=>?_;rw[hy.1];refine bD (λv=>v=p/\p.bB<s.length) (λv hv=>?_) (λj hj=>?_)
   ·rw[hv.1];refine aF (dJ (GI hm) λz hz=>aj ⟨⟨h.bM,?_,?_⟩,?_,hz⟩);all_goals (dsimp only;omega)
   rw[h.bM];refine aS Fx (λKU=>?_);have gR:p.bB<s.length:=by omega
   refine cd (λ_=>?_) (λ_=>?_)
   ·exact ai (ih.group hm h gR aD) λz hz=>aj hz
   refine cd (λ_=>?_) (λ_=>?_)
   ·exact ai (Fw hm aD h gR) λz hz=>aj hz
   refine cd (λ_=>?_) (λ_=>?_)
   ·refine aF (dJ Jx λz _=>aj ⟨⟨rfl,?_,?_⟩,?_,.leaf⟩);all_goals (dsimp only;omega)
   refine cd (λ_=>?_) (λ_=>?_)
   ·refine aF (aS (λ_=>?_) (λ_=>?_))
    ·refine aF (W (λb _=>?_));refine dJ (KS hm) λz _=>?_;refine ay (λ_=>?_) (λ_=>?_)
     ·refine aF (aj ⟨⟨rfl,?_,?_⟩,?_,.leaf⟩);all_goals (dsimp only;omega)
     exact ahW
    exact ahW
   refine bD (λ_=>True) (λv _=>?_) (λj2 xI=>?_)
   ·exact ay Fx (λ_=>hj _ ⟨rfl,gR⟩)
   (repeat' (with_reducible first|refine aF ?_|refine W (λ_ _=>?_)|apply ba|apply aH|refine dH (λ_=>?_) (λ_=>?_)|(apply cW;try dsimp only)))
   ·exact xI _ trivial
   ·exact xI _ trivial
   exact acd
  ·intro m p hm h gR hk;have h0:=h.LJ;refine bV (F:=λn=>iV n p) hm λm hm=>?_;show Ev (λi=>kQ (m i) (bG (m i)) p) _ _;unfold kQ;refine aF ?_;have hR:RI s (L.mk p.bM (p.bB+1)):=⟨h.bM,eZ,eZ⟩;refine dJ UW λy hy=>?_;rw[hy.1];dsimp only;have KV:=hy.2;dsimp only at KV;refine cd (λhq=>?_) (λ_=>?_)
   ·have:=KV aD;refine aF (aj ⟨⟨h.bM,?_,?_⟩,?_,.leaf⟩);all_goals (dsimp only;omega)
   refine ai (ih.alt hm hR eZ) λz hz=>?_;have hz0:=hz.1.LJ;have hz1:=hz.2.1;dsimp only at hz1;refine bD (λv=>v=z.2/\z.2.bB<s.length) (λv hv=>?_) (λj hj=>?_)
   ·rw[hv.1];refine aF (aj ⟨⟨hz.1.bM,?_,?_⟩,?_,hz.2.2⟩);all_goals (dsimp only;omega)
   refine dJ (kM hz.1) λw hw=>?_;rw[hw.1];exact kP Fx (λhq=>hj _ ⟨rfl,hw.2 aD⟩)
def KY:∀ (d:Nat) {m:Nat->Nat} {r:bh} {l:Int},bN m->Mm r->0<=l->(17 - l).toNat<=d->Ev (λi=>mL (m i) r l) (λ_=>True) dt:=by
 intro d
 induction d with
 | zero=>
  intro m r l hm _ h0 hd
  refine bV (F:=λn=>mL n r l) hm λm hm=>?_
  show Ev (λi=>ot (m i) (nZ (m i)) r l) _ _
  unfold ot
  exact aS pL JQ
 | succ d ih=>
  intro m r l hm hr h0 hd
  refine bV (F:=λn=>mL n r l) hm λm hm=>?_
  show Ev (λi=>ot (m i) (nZ (m i)) r l) _ _
  unfold ot
  cases hr with
  | @mk k a b c d' wY hl hs=>
   refine aS pL (λ_=>?_)
   refine bD (λ_=>True) (λv _=>?_) (λj hj=>?_)
   ·refine bD (λ_=>True) (λv _=>?_) (λj hj=>?_)
    ·refine bR hm (λ(x:Int)=>0<=x/\x<=wY.length) (λx=>(wY.length - x).toNat) aD ?_;intro x hx next hn;show Ev (λi=>aG.br (decide (x<(wY.length:Int))) (aG.el wY x _) _) _ _;refine aS (λh=>?_) pL;refine W (λz hz=>?_);refine aF (ai (ih hm (hs z (aP hz)) aD aD) λw _=>?_)
     (repeat' (with_reducible first|refine aF ?_|refine W (λ_ _=>?_)|apply ba|apply aH|refine dH (λ_=>?_) (λ_=>?_)|(apply cW;try dsimp only)))
     ·exact A4
     exact hn _ aD aD
    exact ahv
   ·exact ahv
def wJ (hm:bN m):Ev (λi=>oG (m i) s) (λ_=>True) dt:=by
 unfold oG;refine aS pL (λ_=>?_);refine Ev.κ (R':=RP) ?_ ?_
 ·refine ai ((afv (s:=s) aD (8*(s.length - 0:Int).toNat+7)).alt hm ⟨rfl,bm,bm⟩ bm) λy hy=>?_;refine bD (λ_=>True) (λv _=>?_) (λj hj=>?_)
  ·unfold xS;refine dJ (qU (KY 17 hm hy.2.2 aD bm) (λ_ q=>q) λz _=>aj trivial) λz (_:True)=>?_;exact yC4
  exact aS Fx (λ_=>hj _ trivial)
 rintro p ⟨v,rfl⟩;refine Ev.HU ?_;unfold rq;exact A4
end
structure PC (s:ByS) (T:List aB) (b:Int):Prop where
 M:afu s T
 b0:0<=b
 bs:b+s.length<=65536
def PP (c:Int):sT->Prop:=λp=>∃ v:Int,p=⟨71,[.sc (.int .i64 v)]⟩/\0<=v/\v<=c
abbrev H:=D.mk
section
variable {s:ByS} {T:List aB}
def PC.len (h:PC s T b):(T.length:Int)<=s.length+1:=by
 obtain ⟨l,rfl,h1⟩:=h.M.is;have:=h1.len;simp;omega
def PC.pos (h:PC s T b):1<=T.length:=by
 obtain ⟨l,rfl,h1⟩:=h.M.is;simp
def PC.pJ (h:PC s T b):(T.length:Int)<=65537:=by
 have:=h.len;have:=h.bs;have:=h.b0;omega
variable {i:Nat}
def PC.tok (h:PC s T b) (ht:T[i]?=some t):0<=t.cG/\t.cG<=t.oZ/\t.oZ<=s.length/\t.bJ.length<=65536/\(t.an=4->(t.bJ.length:Int)+2<=t.oZ - t.cG)/\(t.an≠0->i+1<T.length/\t.cG<t.oZ):=by
 obtain ⟨l,rfl,h1⟩:=h.M.is;rcases fA i l.length with q|q
 ·rw[fE q] at ht;have:=h1.ok t (aP ht);exact ⟨this.p0,by have:=this.pe;omega,this.e,this.tl,this.ip,λ_=>⟨rI,this.pe⟩⟩
 rw[ga q] at ht;have hi:i - l.length=0:=by
  have:=(ao.1 ht).1;simp at this;omega
 rw[hi] at ht;simp at ht;subst ht;exact ⟨by simp,by simp,by simp,by simp,λq=>by simp at q,λq=>aw rfl q⟩
def PC.next (h:PC s T b) {a:Int} (h0:0<=a) (ht:T[a.toNat]?=some t) (hk:t.an≠0):a+1<T.length:=by
 have:=((h.tok ht).2.2.2.2.2 hk).1;omega
def PC.sorted (h:PC s T b) {j:Nat} (hij:i<j) {u:aB} (ht:T[i]?=some t) (hu:T[j]?=some u):t.oZ<=u.cG:=by
 obtain ⟨l,rfl,h1⟩:=h.M.is;have hj:=(ao.1 hu).1;simp at hj;have hi:i<l.length:=by omega
 rw[fE hi] at ht;rcases fA j l.length with q|q
 ·rw[fE q] at hu;obtain ⟨hi',e1⟩:=ao.1 ht;obtain ⟨yL,e2⟩:=ao.1 hu;rw[<- e1,<- e2];exact List.pairwise_iff_getElem.1 h1.sorted i j hi' yL hij
 rw[ga q] at hu;have hi:j - l.length=0:=by omega
 rw[hi] at hu;simp at hu;subst hu;exact (h1.ok t (aP ht)).e
end
section
variable {s:ByS} {T:List aB} {Q:α->Prop} {R:sT->Prop} {m:Nat->Nat}
variable {K:Nat->D->aG α}
def sG {K:Nat->Bool->aG α} (hk:∀ r,(r=true->t.an=5/\t.bJ=x)->(r=false->¬ (t.an=5/\t.bJ=x))->Ev (λi=>K i r) Q R):Ev (λi=>ag (eg t x) (K i)) Q R:=by
 refine qU (Q:=λr=>(r=true->t.an=5/\t.bJ=x)/\(r=false->¬ (t.an=5/\t.bJ=x))) (R':=dt) ?_ (λ_ q=>q.elim) λr hr=>hk r hr.1 hr.2;unfold eg;refine cd acA (λh=>aj ⟨λq=>by simp at q,λ_ w=>h w.1⟩)
def C7 {K:Nat->Bool->aG α} (hk:∀ r,(r=true->t.an=1/\t.bJ=x)->(r=false->¬ (t.an=1/\t.bJ=x))->Ev (λi=>K i r) Q R):Ev (λi=>ag (kc t x) (K i)) Q R:=by
 refine qU (Q:=λr=>(r=true->t.an=1/\t.bJ=x)/\(r=false->¬ (t.an=1/\t.bJ=x))) (R':=dt) ?_ (λ_ q=>q.elim) λr hr=>hk r hr.1 hr.2;unfold kc;refine cd acA (λh=>aj ⟨λq=>by simp at q,λ_ w=>h w.1⟩)
def Hb (hm:bN m) (hx:x.length<=60000) {K:Nat->Bool->aG α} (hk:∀ r,(r=true->t.an=5)->Ev (λi=>K i r) Q R):Ev (λi=>ag (nB (m i) t x) (K i)) Q R:=by
 refine qU (Q:=λr=>r=true->t.an=5) (R':=dt) ?_ (λ_ q=>q.elim) λr hr=>hk r hr;unfold nB uD;refine cd (λh=>?_) U0;refine ai (KP bm aD) λy hy=>ai (qP hm aD) λz _=>aj λ_=>h
def KZ (hm:bN m) {K:Nat->Bool->aG α} (hk:∀ r,(r=true->t.an=3\/t.an=1)->Ev (λi=>K i r) Q R):Ev (λi=>ag (oF (m i) t) (K i)) Q R:=by
 refine qU (Q:=λr=>r=true->t.an=3\/t.an=1) (R':=dt) ?_ (λ_ q=>q.elim) λr hr=>hk r hr;unfold oF;refine cd (λh=>aj λ_=>.inl h) (λ_=>cd (λh=>?_) U0);exact ai Th λz _=>aj λ_=>.inr h
def Mn (hm:bN m) (hC:PC s T b) (h0:0<=a) (h1:a<T.length) :
  Ev (λi=>bq (m i) (H s T a b k q)) (λr=>∃ a' t,r=(t,H s T a' b k q)/\a<=a'/\a'<T.length/\T[a'.toNat]?=some t/\(k=true->t.an≠7)/\∀ u,T[a.toNat]?=some u->(k=true->u.an≠7)->a'=a) dt:=by
 unfold bq jg
 have hl:=hC.pJ
 refine bD (λv=>∃ a',v=H s T a' b k q/\a<=a'/\a'<T.length/\(k=true->∀ t,T[a'.toNat]?=some t->t.an≠7)/\∀ u,T[a.toNat]?=some u->(k=true->u.an≠7)->a'=a) (λv hv=>?_) (λj hj=>?_)
 ·obtain ⟨a',rfl,h2,h3,h4,h5⟩:=hv
  exact gL eZ eZ λt ht=>aj ⟨a',t,rfl,h2,h3,ht,λhk=>h4 hk t ht,h5⟩
 ·refine bR hm (λ(x:D)=>∃ a',x=H s T a' b k q/\a<=a'/\a'<T.length/\∀ u,T[a.toNat]?=some u->(k=true->u.an≠7)->a'=a) (λx=>(T.length - x.bB).toNat) ⟨a,rfl,aD,h1,λ_ _ _=>rfl⟩ ?_
  rintro x ⟨a',rfl,h2,h3,h5⟩ next hn
  dsimp only
  refine ay (λF2=>?_) (λhk=>hj _ ⟨a',rfl,h2,h3,(λh=>by rw[hk] at h;cases h),h5⟩)
  refine W λt ht=>?_
  refine cd (λh7=>?_) (λh7=>hj _ ⟨a',rfl,h2,h3,λ_ u hu=>by rw[ht] at hu;cases hu;exact h7,h5⟩)
  have:=hC.next aD ht aD
  refine aF (hn _ ⟨a'+1,rfl,aD,aD,λu hu hk=>?_⟩ eZ)
  have:=h5 u hu hk
  subst this
  rw[ht] at hu;cases hu
  exact aw h7 (hk ‹k=true›)
def mo (hm:bN m) (hC:PC s T b) (h0:0<=a) (h1:a<T.length) {K:Nat->aB×D->aG α}
  (hk:∀ a' t,a<=a'->a'<T.length->T[a'.toNat]?=some t->(k=true->t.an≠7)->(∀ u,T[a.toNat]?=some u->(k=true->u.an≠7)->a'=a)->Ev (λi=>K i (t,H s T a' b k q)) Q R) :
  Ev (λi=>ag (bq (m i) (H s T a b k q)) (K i)) Q R:=by
 refine dJ (Mn hm hC h0 h1) λr hr=>?_
 obtain ⟨a',t,rfl,h⟩:=hr
 exact hk a' t h.1 h.2.1 h.2.2.1 h.2.2.2.1 h.2.2.2.2
def vo (hm:bN m) (hC:PC s T b) (h0:0<=a) (h1:a<T.length) {K:Nat->Int×D->aG α}
  (hk:∀ a' t v,a<=a'->a'<T.length->T[a'.toNat]?=some t->(∀ u,T[a.toNat]?=some u->(k=true->u.an≠7)->a'=a)->v=b+t.cG->0<=v->v<=b+s.length->Ev (λi=>K i (v,H s T a' b k q)) Q R) :
  Ev (λi=>ag (cY (m i) (H s T a b k q)) (K i)) Q R:=by
 refine qU (Q:=λr=>∃ a' t v,r=(v,H s T a' b k q)/\a<=a'/\a'<T.length/\T[a'.toNat]?=some t/\(∀ u,T[a.toNat]?=some u->(k=true->u.an≠7)->a'=a)/\v=b+t.cG/\0<=v/\v<=b+s.length) (R':=dt) ?_ (λ_ q=>q.elim) λr hr=>?_
 ·unfold cY jg
  refine mo hm hC h0 h1 λa' t h2 h3 h4 h5 h6=>?_
  have:=hC.tok h4
  have:=hC.b0
  have:=hC.bs
  exact aF (aj ⟨a',t,_,rfl,h2,h3,h4,h6,rfl,eZ,eZ⟩)
 ·obtain ⟨a',t,v,rfl,h2,h3,h4,h5,h6,h7,h8⟩:=hr
  exact hk a' t v h2 h3 h4 h5 h6 h7 h8
def Jm {v:Int} {p:D} (h0:0<=v) (h1:v<=c):Ev (λi=>ag (jJ v p) (K i)) Q (PP c):=by
 unfold jJ;exact Ev.qH ⟨v,rfl,h0,h1⟩
def tv (hm:bN m) (hC:PC s T b) (h0:0<=a) (h1:a<T.length) (hc:b+s.length<=c):Ev (λi=>ag (bY (m i) (H s T a b k q)) (K i)) Q (PP c):=by
 refine ai (Q:=λ_=>False) ?_ λr hr=>hr.elim;unfold bY;refine vo hm hC h0 h1 λa' t v _ _ _ _ _ h2 h3=>?_;exact Jm h2 aD
def uc (hm:bN m) (hC:PC s T b) (h0:0<=a) (h1:a<T.length) {K:Nat->Bool×D->aG α} (ht:∀ a' t,a<a'->a'<T.length->T[(a' - 1).toNat]?=some t->t.an=5->t.bJ=x->(∀ u,T[a.toNat]?=some u->(k=true->u.an≠7)->a'=a+1)->Ev (λi=>K i (true,H s T a' b k q)) Q R) (hf:∀ a' t,a<=a'->a'<T.length->T[a'.toNat]?=some t->(k=true->t.an≠7)->¬ (t.an=5/\t.bJ=x)->(∀ u,T[a.toNat]?=some u->(k=true->u.an≠7)->a'=a)->Ev (λi=>K i (false,H s T a' b k q)) Q R) :
  Ev (λi=>ag (di (m i) x (H s T a b k q)) (K i)) Q R:=by
 refine qU (Q:=λr=>(∃ a' t,r=(true,H s T a' b k q)/\a<a'/\a'<T.length/\T[(a' - 1).toNat]?=some t/\t.an=5/\t.bJ=x/\(∀ u,T[a.toNat]?=some u->(k=true->u.an≠7)->a'=a+1))\/
  (∃ a' t,r=(false,H s T a' b k q)/\a<=a'/\a'<T.length/\T[a'.toNat]?=some t/\(k=true->t.an≠7)/\¬ (t.an=5/\t.bJ=x)/\(∀ u,T[a.toNat]?=some u->(k=true->u.an≠7)->a'=a))) (R':=dt) ?_ (λ_ q=>q.elim) λr hr=>?_
 ·unfold di
  have:=hC.pJ
  refine mo hm hC h0 h1 λa' t h2 h3 h4 h5 h6=>?_
  dsimp only
  refine sG λr yG Hq=>?_
  refine df (λh=>aj (.inr ⟨a',t,rfl,h2,h3,h4,h5,Hq h,h6⟩)) (λh=>?_)
  obtain ⟨q1,q2⟩:=yG h
  have:=hC.next aD h4 aD
  exact aF (aj (.inl ⟨a'+1,t,rfl,by omega,by omega,by simpa using h4,q1,q2,λu hu hk=>by rw[h6 u hu hk]⟩))
 ·rcases hr with ⟨a',t,rfl,h2,h3,h4,h5,h6,h7⟩|⟨a',t,rfl,h2,h3,h4,h5,h6,h7⟩
  ·exact ht a' t h2 h3 h4 h5 h6 h7
  ·exact hf a' t h2 h3 h4 h5 h6 h7
def sv (hm:bN m) (hC:PC s T b) (h0:0<=a) (h1:a<T.length) (hc:b+s.length<=c) (ht:∀ a' t,a<a'->a'<T.length->T[(a' - 1).toNat]?=some t->t.an=5->t.bJ=x->(∀ u,T[a.toNat]?=some u->(k=true->u.an≠7)->a'=a+1)->Ev (λi=>K i (H s T a' b k q)) Q (PP c)) :
  Ev (λi=>ag (cT (m i) x (H s T a b k q)) (K i)) Q (PP c):=by
 refine ai (Q:=λr=>(∃ a' t,r=(H s T a' b k q)/\a<a'/\a'<T.length/\T[(a' - 1).toNat]?=some t/\t.an=5/\t.bJ=x/\(∀ u,T[a.toNat]?=some u->(k=true->u.an≠7)->a'=a+1))) ?_ λr hr=>?_
 ·unfold cT
  refine uc hm hC h0 h1 (λa' t h2 h3 h4 h5 h6 h7=>aj ⟨a',t,rfl,h2,h3,h4,h5,h6,h7⟩) (λa' t h2 h3 h4 h5 h6 h7=>?_)
  exact tv hm hC aD aD hc
 ·obtain ⟨a',t,rfl,h2,h3,h4,h5,h6,h7⟩:=hr
  exact ht a' t h2 h3 h4 h5 h6 h7
def Ag (hm:bN m) (hC:PC s T b) (h0:0<=a) (h1:a<T.length) (hc:b+s.length<=c) (ht:∀ a' t,a<=a'->a'+1<T.length->T[a'.toNat]?=some t->t.an=5->t.bJ=x->Ev (λi=>K i (H s T a' b k q)) Q (PP c)) :
  Ev (λi=>ag (cz (m i) x (H s T a b k q)) (K i)) Q (PP c):=by
 refine ai (Q:=λr=>(∃ a' t,r=(H s T a' b k q)/\a<=a'/\a'+1<T.length/\T[a'.toNat]?=some t/\t.an=5/\t.bJ=x)) ?_ λr hr=>?_
 ·unfold cz
  refine mo hm hC h0 h1 λa' t h2 h3 h4 h5 h6=>?_
  dsimp only
  refine sG λr yG Hq=>?_
  refine df (λh=>tv hm hC aD aD hc) (λh=>?_)
  obtain ⟨q1,q2⟩:=yG h
  exact aj ⟨a',t,rfl,h2,hC.next aD h4 aD,h4,q1,q2⟩
 ·obtain ⟨a',t,rfl,h⟩:=hr
  exact ht a' t h.1 h.2.1 h.2.2.1 h.2.2.2.1 h.2.2.2.2
def C8 (hm:bN m) (hC:PC s T b) (h0:0<=a) (h1:a<T.length) (hc:b+s.length<=c) (ht:∀ a',a<a'->a'<T.length->Ev (λi=>K i (H s T a' b k q)) Q (PP c)):Ev (λi=>ag (dW (m i) x (H s T a b k q)) (K i)) Q (PP c):=by
 refine ai (Q:=λr=>(∃ a',r=(H s T a' b k q)/\a<a'/\a'<T.length)) ?_ λr hr=>?_
 ·unfold dW;have:=hC.pJ;refine mo hm hC h0 h1 λa' t h2 h3 h4 h5 h6=>?_;dsimp only;refine C7 λr yG Hq=>?_;refine df (λh=>tv hm hC aD aD hc) (λh=>?_);obtain ⟨q1,q2⟩:=yG h;have:=hC.next aD h4 aD;exact aF (aj ⟨a'+1,rfl,by omega,by omega⟩)
 obtain ⟨a',rfl,h⟩:=hr;exact ht a' h.1 h.2
def Jn (hm:bN m) (hC:PC s T b) (h0:0<=a) (h1:a<T.length) (hc:b+s.length<=c) {K:Nat->ByS×D->aG α} (ht:∀ a' x,a<a'->a'<T.length->Ev (λi=>K i (x,H s T a' b k q)) Q (PP c)):Ev (λi=>ag (eN (m i) (H s T a b k q)) (K i)) Q (PP c):=by
 refine ai (Q:=λr=>(∃ a' x,r=(x,H s T a' b k q)/\a<a'/\a'<T.length)) ?_ λr hr=>?_
 ·unfold eN;have:=hC.pJ;refine mo hm hC h0 h1 λa' t h2 h3 h4 h5 h6=>?_;dsimp only;refine bD (λv=>v=H s T a' b k q/\t.an=1) (λv hv=>?_) (λj hj=>?_)
  ·obtain ⟨rfl,h7⟩:=hv;have:=hC.next aD h4 aD;exact aF (aj ⟨a'+1,_,rfl,by omega,by omega⟩)
  refine kP (λ_=>tv hm hC aD aD hc) (λh1=>?_);refine dJ Th λz _=>?_;exact df (λ_=>tv hm hC aD aD hc) (λ_=>hj _ ⟨rfl,h1⟩)
 obtain ⟨a',x,rfl,h⟩:=hr;exact ht a' x h.1 h.2
def RT (hm:bN m) (hC:PC s T b) (h0:0<=a) (h1:a<T.length) (hc:b+s.length<=c) {K:Nat->ma×D->aG α} (ht:∀ a' x,a<a'->a'<T.length->Ev (λi=>K i (x,H s T a' b k q)) Q (PP c)):Ev (λi=>ag (ke (m i) (H s T a b k q)) (K i)) Q (PP c):=by
 refine ai (Q:=λr=>(∃ a' x,r=(x,H s T a' b k q)/\a<a'/\a'<T.length)) ?_ λr hr=>?_
 ·unfold ke;refine Jn hm hC h0 h1 hc λa1 x1 h2 h3=>sv hm hC aD aD hc λa2 t h4 h5 _ _ _ _=>vo hm hC aD aD λa3 t3 v h6 h7 _ _ _ h8 h9=>Jn hm hC aD aD hc λa4 x4 yM LB=>?_;exact cd (λ_=>Jm h8 aD) (λ_=>aj ⟨a4,_,rfl,by omega,by omega⟩)
 obtain ⟨a',x,rfl,h⟩:=hr;exact ht a' x h.1 h.2
def xA {n:Int} (hC:PC s T b) (h0:0<=a) (h1:a<T.length) (hn:0<=n) (IN:n<=70000) {K:Nat->aB×D->aG α}
  (hk:∀ t,(t.an≠0->T[(a+n).toNat]?=some t/\a+n+1<T.length)->Ev (λi=>K i (t,H s T a b k q)) Q R):Ev (λi=>ag (cX n (H s T a b k q)) (K i)) Q R:=by
 refine qU (Q:=λr=>∃ t,r=(t,H s T a b k q)/\(t.an≠0->T[(a+n).toNat]?=some t/\a+n+1<T.length)) (R':=dt) ?_ (λ_ q=>q.elim) λr hr=>?_
 ·unfold cX jg
  have:=hC.pJ
  dsimp only
  refine aF (aF (gL UP UP λt ht=>aj ⟨t,rfl,λhk=>?_⟩))
  have h2:=((hC.tok ht).2.2.2.2.2 hk).1
  have:¬ ((T.length:Int) - 1<a+n):=λh=>by rw[aL h] at h2;omega
  rw[aC this] at ht h2
  exact ⟨ht,by omega⟩
 ·obtain ⟨t,rfl,h⟩:=hr
  exact hk t h
def I0 (hm:bN m) (hC:PC s T b) (h0:0<=a) (h1:a<T.length):Ev (λi=>im (m i) (H s T a b k q)) (λr=>r.2=H s T a b k q) dt:=by
 have hl:=hC.pJ;unfold im jg;dsimp only;refine aF ?_;refine bR hm (λ(x:Int)=>-1<=x/\x<a) (λx=>(x+1).toNat) aD ?_;intro x hx next hn;refine aS (λh=>?_) U9;refine W λt ht=>?_;refine kP (λ_=>?_) U6;refine cR aD ht (W λu hu=>?_);exact ahs
def H6 (hm:bN m) (hC:PC s T b) (h0:0<=a) (h1:a<T.length) {e:Int} (he:1<=e) (SJ:e<=a):Ev (λi=>iH (m i) e (H s T a b k q)) (λr=>r.2=H s T a b k q) dt:=by
 have hl:=hC.pJ;unfold iH jg;dsimp only;refine bR hm (λ(x:Int)=>e<=x/\x<=a) (λx=>(a - x).toNat) aD ?_;intro x hx next hn;refine aS (λh=>?_) (λ_=>?_)
 ·refine W λt ht=>sG λr _ _=>df U9 (λ_=>?_);exact Qw
 refine aF (W λt ht=>W λu hu=>?_);exact ahs
def aa7 (hm:bN m) (hC:PC s T b) (h0:0<=a) (h1:a<T.length) {K:Nat->Bool×D->aG α}
  (hk:∀ a' t r,a<=a'->a'<T.length->T[a'.toNat]?=some t->(r=false->t.an≠0)->(k=true->t.an≠7)->Ev (λi=>K i (r,H s T a' b k q)) Q R):Ev (λi=>ag (kS (m i) (H s T a b k q)) (K i)) Q R:=by
 refine qU (Q:=λr=>∃ a' t x,r=(x,H s T a' b k q)/\a<=a'/\a'<T.length/\T[a'.toNat]?=some t/\(x=false->t.an≠0)/\(k=true->t.an≠7)) (R':=dt) ?_ (λ_ q=>q.elim) λr hr=>?_
 ·unfold kS
  refine mo hm hC h0 h1 λa1 t1 h2 h3 h4 h5 _=>?_
  dsimp only
  refine cd (λ_=>aj ⟨a1,t1,_,rfl,h2,h3,h4,bm,h5⟩) (λuv=>?_)
  refine mo hm hC aD h3 λa2 t2 h6 h7 h8 h9 yM=>sG λr _ _=>aj ⟨a2,t2,r,rfl,aD,aD,h8,λ_=>?_,h9⟩
  have:=yM t1 h4 h5
  subst this
  rw[h4] at h8;cases h8;exact uv
 ·obtain ⟨a',t,x,rfl,h⟩:=hr
  exact hk a' t x h.1 h.2.1 h.2.2.1 h.2.2.2.1 h.2.2.2.2
end
section
mutual
inductive ij:ak->Prop where
 | mk {k:Int} {t:ByS} {n:Int} {a b:ByS} {wY:List ak} {decls:List aK} {tail:List ByS} {pos:Int} (h1:wY.length<=70000) (h2:decls.length<=70000) (h3:tail.length<=70000)
  (h4:∀ x,x∈tail->x.length<=65536) (h5:k=16->2<=wY.length) (hs:∀ x,x∈wY->ij x) (hd:∀ x,x∈decls->g x):ij (ak.mk k t n a b wY decls tail pos)
inductive g:aK->Prop where
 | mk {k p:Int} {lb a b:ByS} {wY:List ak} {body:List aK} {tail lead:List ByS} {trail:ByS} {pos:Int} (h1:wY.length<=70000) (h2:body.length<=70000) (h3:tail.length<=70000)
  (h4:∀ x,x∈tail->x.length<=65536) (h5:lead.length<=70000) (h6:∀ x,x∈lead->x.length<=65536) (h7:trail.length<=65536) (h8:k=1\/k=2\/k=3->1<=wY.length)
  (hs:∀ x,x∈wY->ij x) (hd:∀ x,x∈body->g x):g (aK.mk k p lb a b wY body tail lead trail pos)
end
def ij.l1 {e:ak} (h:ij e):e.bF.length<=70000:=by cases h;assumption
def ij.l2 {e:ak} (h:ij e):e.fS.length<=70000:=by cases h;assumption
def ij.l3 {e:ak} (h:ij e):e.J.length<=70000:=by cases h;assumption
def ij.l4 {e:ak} (h:ij e):∀ x,x∈e.J->x.length<=65536:=by cases h;assumption
def ij.kd {e:ak} (h:ij e):e.an=16->2<=e.bF.length:=by cases h;assumption
def ij.s {e:ak} (h:ij e):∀ x,x∈e.bF->ij x:=by cases h;assumption
def ij.d {e:ak} (h:ij e):∀ x,x∈e.fS->g x:=by cases h;assumption
variable {e:aK} {k:Int} {t:ByS} {a b:ByS} {pos:Int}
def g.l1 (h:g e):e.bF.length<=70000:=by cases h;assumption
def g.l2 (h:g e):e.jf.length<=70000:=by cases h;assumption
def g.l3 (h:g e):e.J.length<=70000:=by cases h;assumption
def g.l4 (h:g e):∀ x,x∈e.J->x.length<=65536:=by cases h;assumption
def g.l5 (h:g e):e.oO.length<=70000:=by cases h;assumption
def g.l6 (h:g e):∀ x,x∈e.oO->x.length<=65536:=by cases h;assumption
def g.l7 (h:g e):e.iG.length<=65536:=by cases h;assumption
def g.kd (h:g e):e.an=1\/e.an=2\/e.an=3->1<=e.bF.length:=by cases h;assumption
def g.s (h:g e):∀ x,x∈e.bF->ij x:=by cases h;assumption
def g.d (h:g e):∀ x,x∈e.jf->g x:=by cases h;assumption
def TS {l:List ak} {d:List aK} {tl:List ByS} {p:Int}:(ak.mk k t n a b l d tl p).bF=l:=rfl
def ij.of {wY:List ak} (h1:wY.length<=70000) (h5:k=16->2<=wY.length) (hs:∀ x,x∈wY->ij x):ij (ak.mk k t n a b wY [] [] pos):=
 .mk h1 bm bm bm h5 hs bm
def ij.leaf (h5:k≠16):ij (ak.mk k t n a b [] [] [] pos):=.of bm (λq=>aw q h5) bm
variable {x:ak}
def ij.one (h5:k≠16) (hx:ij x):ij (ak.mk k t n a b [x] [] [] pos):=.of bm (λq=>aw q h5) DY
def ij.two {y:ak} (hx:ij x) (hy:ij y):ij (ak.mk k t n a b [x,y] [] [] pos):=.of bm Gq (by simp;exact ⟨hx,hy⟩)
def Qd {e:ak} (h:x∈e.bF):SizeOf.sizeOf x<SizeOf.sizeOf e:=by
 cases e;have:=oQ h;simp only[ak.bF] at this;simp;omega
def Y1 {e:ak} {x:aK} (h:x∈e.fS):SizeOf.sizeOf x<SizeOf.sizeOf e:=by
 cases e;have:=oQ h;simp only[ak.fS] at this;simp;omega
def ab1 (h:x∈e.bF):SizeOf.sizeOf x<SizeOf.sizeOf e:=by
 cases e;have:=oQ h;simp only[aK.bF] at this;simp;omega
def afw {x:aK} (h:x∈e.jf):SizeOf.sizeOf x<SizeOf.sizeOf e:=by
 cases e;have:=oQ h;simp only[aK.jf] at this;simp;omega
variable {v:Int} {p:D}
def H7 {c:Int} (h0:0<=v) (h1:v<=c):∀ (N:Nat) {m:Nat->Nat} {e:ak},bN m->SizeOf.sizeOf e<N->ij e->Ev (λi=>cB (m i) e v p) (λr=>r.2=p/\ij r.1) (PP c):=by
 intro N
 induction N with
 | zero=>intro m e _ h;exact aw h Gn
 | succ N ih=>
  intro m e hm hN he
  refine bV (F:=λn=>cB n e v p) hm λm hm=>?_
  show Ev (λi=>gw (m i) (e7 (m i)) e v p) _ _
  unfold gw uD oz jU
  refine cd (λhk=>?_) (λ_=>?_)
  ·have h2:=he.kd hk;refine W λx hx=>W λy hy=>?_;have hx:=aP hx;have hy:=aP hy;refine ai (ih hm (by have:=Qd hx;omega) (he.s _ hx)) λx2 uz=>?_;rw[uz.1];refine ai (ih hm (by have:=Qd hy;omega) (he.s _ hy)) λy2 KV=>?_;exact aj ⟨KV.1,.mk bm he.l2 he.l3 he.l4 Gq (by simp;exact ⟨uz.2,KV.2⟩) he.d⟩
  ·refine cd (λ_=>?_) (λ_=>aj ⟨rfl,he⟩);have hl:=he.l2;refine bR hm (λ(x:D×List aK×Int)=>x.1=p/\0<=x.2.2/\x.2.2<=e.fS.length/\x.2.1.length=x.2.2/\∀ d,d∈x.2.1->g d) (λx=>(e.fS.length - x.2.2).toNat) ⟨rfl,bm,bm,bm,bm⟩ ?_;rintro x ⟨Hm,uz,Wm,hx4,TK⟩ next hn;refine aS (λgR=>?_) (λ_=>aj ⟨Hm,.mk he.l1 aD he.l3 he.l4 bm he.s TK⟩);refine W λd hd=>?_;have hd:=aP hd;have DO:=he.d _ hd;refine bD (λw=>w.1=p/\g w.2) (λw hw=>?_) (λj hj=>?_)
   ·refine aF (aF (hn _ ⟨hw.1,eZ,eZ,rI,λz hz=>?_⟩ eZ));rcases bL.1 hz with q|q
    ·exact TK z q
    simp at q;subst q;exact hw.2
   refine bD (λ_=>True) (λw _=>?_) (λj2 xI=>?_)
   ·refine ay (λ_=>Jm h0 h1) (λ_=>?_);refine bD (λw=>w=true->d.an=1\/d.an=2\/d.an=3) (λw hw=>?_) (λj2 xI=>?_)
    ·refine ay (λGf=>?_) (λ_=>hj _ ⟨Hm,DO⟩);have:=DO.kd (hw Gf);refine W λy hy=>?_;have hy:=aP hy;rw[Hm];refine ai Y0 λy2 KV=>?_;exact hj _ ⟨KV.1,.mk bm DO.l2 DO.l3 DO.l4 DO.l5 DO.l6 DO.l7 Gq (by simpa using KV.2) DO.d⟩
    refine cd (λh=>xI _ λ_=>.inl h) (λ_=>cd (λh=>xI _ λ_=>.inr (.inl h)) (λ_=>xI _ λh=>.inr (.inr jk)))
   exact ahy
section
variable {s:ByS} {T:List aB} {b:Int} {X:Type} {Q:α->Prop} {R:sT->Prop} {m:Nat->Nat} {a:Int} {k:Bool}
def QS (q:Option ak):Prop:=∀ e,q=some e->ij e
def QS.none:QS none:=λ_ h=>by cases h
def St (s:ByS) (T:List aB) (b:Int) (k:Bool) (a d:Int) (p:D):Prop:=∃ a' q',p=H s T a' b k q'/\a<=a'/\a'+d<T.length/\QS q'
variable {d:Int} {P:X->Prop}
def lY {F:Nat->aG (X×D)} {K:Nat->X×D->aG α} (h:Ev F (λr=>St s T b k a d r.2/\P r.1) (PP c)) (hk:∀ x a' q',a<=a'->a'+d<T.length->QS q'->P x->Ev (λi=>K i (x,H s T a' b k q')) Q (PP c)):Ev (λi=>ag (F i) (K i)) Q (PP c):=by
 refine ai h λr hr=>?_;obtain ⟨x,p⟩:=r;exact acW
def FQ {F:Nat->aG (D×X)} {K:Nat->D×X->aG α} (h:Ev F (λr=>St s T b k a d r.1/\P r.2) (PP c)) (hk:∀ x a' q',a<=a'->a'+d<T.length->QS q'->P x->Ev (λi=>K i (H s T a' b k q',x)) Q (PP c)):Ev (λi=>ag (F i) (K i)) Q (PP c):=by
 refine ai h λr hr=>?_;obtain ⟨p,x⟩:=r;exact acW
def Cp (hm:bN m) (h0:0<=v) (h1:v<=c) {e:ak} (he:ij e) {K:Nat->ak×D->aG α} (hk:∀ x,ij x->Ev (λi=>K i (x,p)) Q (PP c)) :
  Ev (λi=>ag (cB (m i) e v p) (K i)) Q (PP c):=by
 refine ai (H7 h0 h1 _ hm ND he) λr hr=>?_
 obtain ⟨x,p'⟩:=r
 obtain ⟨h1,h2⟩:=hr
 dsimp only at h1
 subst h1
 exact hk x h2
def RU (T:List aB) (a:Int):Prop:=∃ t u,T[a.toNat]?=some t/\t.an=5/\T[(a+1).toNat]?=some u/\u.an≠0/\u.an≠7/\(u.an=5->∃ w,T[(a+2).toNat]?=some w/\w.an=3)
def OM (hm:bN m) (hC:PC s T b) (h0:0<=a) (h1:a<T.length) {K:Nat->Bool×D->aG α}
  (hk:∀ a' r,a<=a'->a'<T.length->(∀ u,T[a.toNat]?=some u->(k=true->u.an≠7)->a'=a)->(r=true->RU T a')->Ev (λi=>K i (r,H s T a' b k q)) Q R):Ev (λi=>ag (fw (m i) (H s T a b k q)) (K i)) Q R:=by
 refine qU (Q:=λr=>∃ a' x,r=(x,H s T a' b k q)/\a<=a'/\a'<T.length/\(∀ u,T[a.toNat]?=some u->(k=true->u.an≠7)->a'=a)/\(x=true->RU T a')) (R':=dt) ?_ (λ_ q=>q.elim) λr hr=>?_
 ·unfold fw
  have hl:=hC.pJ
  refine mo hm hC h0 h1 λa' t h2 h3 h4 h5 h6=>?_
  dsimp only
  refine sG λr yG Hq=>df Ŗ (λhr=>?_)
  obtain ⟨g1,g2⟩:=yG hr
  refine bD (λv=>v.1=H s T a' b k q/\2<=v.2/\v.2<=3/\RU T a') (λv hv=>?_) (λj hj=>?_)
  ·refine bR hm (λ(x:D×Int)=>x.1=H s T a' b k q/\2<=x.2/\x.2<=T.length+3) (λx=>(T.length+4 - x.2).toNat) ⟨hv.1,hv.2.1,eZ⟩ ?_
   rintro x ⟨Hm,uz,Wm⟩ next hn
   rw[Hm]
   refine xA hC aD h3 aD aD λu hu=>?_
   dsimp only
   refine cd (λh7=>?_) (λ_=>?_)
   ·have:=(hu aD).2
    exact aF (hn _ Ik eZ)
   ·refine xA hC aD h3 aD aD λu hu=>?_
    dsimp only
    refine sG λr _ _=>ay (λ_=>?_) Ŗ
    refine aF (xA hC aD h3 aD aD λu hu=>?_)
    dsimp only
    exact sG λr _ _=>aj ⟨a',_,rfl,h2,h3,h6,λ_=>hv.2.2.2⟩
  ·refine xA hC aD h3 aD aD λu hu=>?_
   dsimp only
   refine C7 λr yG Hq=>df (λ_=>?_) (λhr=>?_)
   ·refine xA hC aD h3 aD aD λu hu=>?_
    dsimp only
    refine sG λr yG Hq=>df Ŗ (λhr=>?_)
    obtain ⟨q1,q2⟩:=yG hr
    refine xA hC aD h3 aD aD λw hw=>?_
    dsimp only
    refine kP Ŗ (λh3=>?_)
    exact hj _ ⟨rfl,by simp,by simp,t,u,h4,g1,(hu aD).1,by omega,by omega,λ_=>⟨w,(hw aD).1,h3⟩⟩
   ·obtain ⟨q1,q2⟩:=yG hr
    exact hj _ ⟨rfl,by simp,by simp,t,u,h4,g1,(hu aD).1,by omega,by omega,λ_=>by omega⟩
 ·obtain ⟨a',x,rfl,h⟩:=hr
  exact hk a' x h.1 h.2.1 h.2.2.1 h.2.2.2
def H8 (hm:bN m) (hC:PC s T b) (h0:0<=a) (hc:b+s.length<=c) (hq:QS q) {u:aB} (hu:T[a.toNat]?=some u) (F2:u.an≠0) (ON:u.an≠7) (hw:u.an=5->∃ w,T[(a+1).toNat]?=some w/\w.an=3) {d:aK} :
  Ev (λi=>mN (m i) true (H s T a b k q) d) (λr=>St s T b k a 1 r.1/\(r.2=d\/∃ l,r.2=aK.mk d.an d.cS l d.B d.bE d.bF d.jf d.J d.oO d.iG d.cG)) (PP c):=by
 have hl:=hC.pJ
 have h1:a<T.length:=by have:=(ao.1 hu).1;omega
 unfold mN
 refine FQ (b:=b) (T:=T) (s:=s) (k:=true) (a:=a) (d:=1) (P:=λx=>x=d\/∃ l,x=aK.mk d.an d.cS l d.B d.bE d.bF d.jf d.J d.oO d.iG d.cG) ?_ λx a' q' h2 h3 h4 h5=>aj UI
 unfold mM jg
 dsimp only
 refine bD (λv=>(∃ a',v.1=H s T a' b true q/\a<=a'/\a'+1<T.length)/\(v.2=d\/∃ l,v.2=aK.mk d.an d.cS l d.B d.bE d.bF d.jf d.J d.oO d.iG d.cG)) (λv hv=>?_) (λj hj=>?_)
 ·obtain ⟨⟨a',hv1,hv2,hv3⟩,hv4⟩:=hv
  rw[hv1]
  refine aF (Ag hm hC eZ eZ hc λa2 t h2 h3 h4 h5 _=>aj ⟨⟨a2,q,rfl,by dsimp only at h2;omega,h3,hq⟩,hv4⟩)
 ·refine uc hm hC h0 h1 (λa' t h2 h3 h4 h5 h6 h7=>?_) (λa' t h2 h3 h4 h5 h6 h7=>?_)
  ·dsimp only
   have ha:=h7 u hu (λ_=>ON)
   subst ha
   have:u=t:=by
    have e:a+1 - 1=a:=by omega
    rw[e,hu] at h4;cases h4;rfl
   subst this
   obtain ⟨w,hw1,Gf⟩:=hw h5
   refine ba ?_
   refine mo hm hC aD h3 λa2 t2 h8 h9 yM LB Og=>?_
   dsimp only
   have ha2:=Og w hw1 JQ
   subst ha2
   have I1:=hC.next aD hw1 aD
   refine dJ (wJ hm) λy _=>?_
   refine kP (λ_=>tv hm hC aD h9 hc) (λ_=>hj _ ⟨⟨_,rfl,aD,aD⟩,.inr ⟨_,rfl⟩⟩)
  ·dsimp only
   have ha:=h7 u hu (λ_=>ON)
   subst ha
   have I1:=hC.next aD hu F2
   exact aH (hj _ ⟨⟨_,rfl,by omega,by omega⟩,.inl rfl⟩)
end
end
section
variable {s:ByS} {T:List aB}
def P4 (s:ByS) (T:List aB) (b:Int) (K c:Nat) (F:Nat->D->aG (ak×D)):Prop:=∀ {m:Nat->Nat} {a:Int} {k:Bool} {q:Option ak},bN m->0<=a->a<T.length->QS q->64*(T.length - a).toNat+c<K->Ev (λi=>F (m i) (H s T a b k q)) (λr=>St s T b k a 0 r.2/\ij r.1) (PP (b+s.length))
structure PG (s:ByS) (T:List aB) (b:Int) (K:Nat):Prop where
 expr:∀ {j:Bool},P4 s T b K 13 (λn=>aW n j)
 alt:∀ {j:Bool},P4 s T b K 12 (λn=>c8 n j)
 Mo:∀ {j:Bool},P4 s T b K 11 (λn=>da n j)
 bin:∀ {m:Nat->Nat} {a l:Int} {k:Bool} {q:Option ak} {j:Bool},bN m->0<=a->a<T.length->QS q->0<=l->l<=5->64*(T.length - a).toNat+(10 - l).toNat<K->Ev (λi=>dA (m i) l j (H s T a b k q)) (λr=>St s T b k a 0 r.2/\ij r.1) (PP (b+s.length))
 unary:∀ {j:Bool},P4 s T b K 4 (λn=>ei n j)
 post:∀ {j:Bool},P4 s T b K 3 (λn=>eG n j)
 RY:∀ {j:Bool},P4 s T b K 2 (λn=>eU n j)
 named:∀ {m:Nat->Nat} {a:Int} {k:Bool} {q:Option ak} {t:aB},bN m->0<=a->a<T.length->QS q->T[a.toNat]?=some t->t.an=1->64*(T.length - a).toNat+1<K->Ev (λi=>iu (m i) (H s T a b k q)) (λr=>St s T b k a 0 r.2/\ij r.1) (PP (b+s.length))
 K0:∀ {m:Nat->Nat} {a:Int} {k:Bool} {q:Option ak} {t:aB},bN m->0<=a->a<T.length->T[a.toNat]?=some t->t.an=4->64*(T.length - a).toNat+1<K->Ev (λi=>fo (m i) t (b+t.cG) (H s T a b k q)) (λr=>r.2=H s T a b k q/\ij r.1) (PP (b+s.length))
 parens:∀ {m:Nat->Nat} {a:Int} {k:Bool} {q:Option ak} {j:Bool},bN m->0<=a->a<T.length->QS q->64*(T.length - a).toNat+1<K->Ev (λi=>dU (m i) j (H s T a b k q)) (λr=>St s T b k (a+1) 0 r.2/\ij r.1) (PP (b+s.length))
 Ä:∀ {j:Bool},P4 s T b K 1 (λn=>fN n j)
 list:P4 s T b K 1 iY
 block:∀ {m:Nat->Nat} {a:Int} {k:Bool} {q:Option ak} {j:Bool},bN m->0<=a->a<T.length->QS q->64*(T.length - a).toNat<K->Ev (λi=>eY (m i) j (H s T a b k q)) (λr=>St s T b k a 0 r.2.2/\r.1.length<=70000/\(∀ d,d∈r.1->g d)/\r.2.1.length<=70000/\∀ x,x∈r.2.1->x.length<=65536) (PP (b+s.length))
 args:∀ {m:Nat->Nat} {a:Int} {k:Bool} {q:Option ak},bN m->0<=a->a<T.length->QS q->64*(T.length - a).toNat+1<K->Ev (λi=>iX (m i) (H s T a b k q)) (λr=>St s T b k a 0 r.2/\r.1.length<=70000/\∀ x,x∈r.1->ij x) (PP (b+s.length))
 item:P4 s T b K 14 eB
 field:∀ {m:Nat->Nat} {a:Int} {k:Bool} {q:Option ak} {j:Bool} {d:aK} {t:aB},bN m->0<=a->a<T.length->QS q->g d->T[a.toNat]?=some t->t.an≠0->t.an≠7->64*(T.length - a).toNat+14<K->Ev (λi=>iq (m i) j (H s T a b k q) d) (λr=>St s T b k a 0 r.1/\g r.2) (PP (b+s.length))
 pattern:∀ {m:Nat->Nat} {a:Int} {k:Bool} {q:Option ak} {j:Bool} {d:aK},bN m->0<=a->a<T.length->QS q->g d->RU T a->64*(T.length - a).toNat+14<K->Ev (λi=>fZ (m i) j (H s T a b k q) d) (λr=>St s T b k a 0 r.1/\g r.2) (PP (b+s.length))
 Wn:∀ {m:Nat->Nat} {a:Int} {k:Bool} {q:Option ak} {j:Bool} {d:aK},bN m->0<=a->a<T.length->QS q->g d->64*(T.length - a).toNat+14<K->Ev (λi=>fY (m i) j (H s T a b k q) d) (λr=>St s T b k a 0 r.1/\g r.2) (PP (b+s.length))
 decl:∀ {m:Nat->Nat} {a:Int} {k:Bool} {q:Option ak} {j:Bool} {t:aB},bN m->0<=a->a<T.length->QS q->T[a.toNat]?=some t->t.an≠0->t.an≠7->64*(T.length - a).toNat+17<K->Ev (λi=>fe (m i) j (H s T a b k q)) (λr=>St s T b k a 0 r.2/\g r.1) (PP (b+s.length))
 decls:∀ {m:Nat->Nat} {a:Int} {k:Bool} {q:Option ak} {j:Bool},bN m->0<=a->a<T.length->QS q->64*(T.length - a).toNat+18<K->Ev (λi=>iJ (m i) j (H s T a b k q)) (λr=>St s T b k a 0 r.2.2/\r.1.length<=70000/\(∀ d,d∈r.1->g d)/\r.2.1.length<=70000/\∀ x,x∈r.2.1->x.length<=65536) (PP (b+s.length))
variable {K:Nat} {m:Nat->Nat}
def aa8 (hC:PC s T b) (ih:PG s T b K):P4 s T b (K+1) 13 (λn=>aW n j):=by
 intro m a k q hm h0 h1 hq hK;refine bV (F:=λn=>aW n j (H s T a b k q)) hm λm hm=>?_;show Ev (λi=>iK (m i) (R (m i)) j (H s T a b k q)) _ _;unfold iK Cz oz jU tG;have hl:=hC.pJ;dsimp only;refine bD (λv=>St s T b k a 0 v.1) (λv hv=>?_) (λjj hj=>?_)
 ·obtain ⟨p,w⟩:=v;obtain ⟨a1,q1,hp,h2,h3,hq1⟩:=hv;dsimp only at hp;subst hp;dsimp only;refine bD (λv=>St s T b k a 0 v.1/\ij v.2) (λv hv=>?_) (λjj hj=>?_)
  ·obtain ⟨p,e⟩:=v;obtain ⟨⟨a2,q2,hp,h4,h5,Gs⟩,he⟩:=hv;dsimp only at hp he;subst hp;dsimp only;refine bD (λv=>St s T b k a 0 v) (λv hv=>?_) (λjj hj=>?_)
   ·obtain ⟨a3,q3,rfl,h6,h7,Ds⟩:=hv;dsimp only;refine bD (λv=>St s T b k a 0 v) (λv hv=>?_) (λjj hj=>?_)
    ·obtain ⟨a4,q4,rfl,h8,h9,PA⟩:=hv;refine vo hm hC aD aD λa5 t v yM LB _ _ _ Og Ji=>?_;dsimp only;refine Cp hm Og Ji he λx hx=>?_;dsimp only;refine bR hm (λ(x:D×List ak)=>St s T b k a 0 x.1/\1<=x.2.length/\(x.2.length:Int)<=x.1.bB+1/\∀ e,e∈x.2->ij e) (λx=>(T.length - x.1.bB).toNat) ⟨⟨_,q4,rfl,aD,aD,PA⟩,bm,rI,DY⟩ ?_;rintro ⟨p,l⟩ ⟨⟨a6,q6,hp,S7,P5,P6⟩,S8,IQ,X1⟩ next hn;dsimp only at hp S8 IQ X1;subst hp;dsimp only at hn IQ ⊢;refine uc hm hC aD aD (λa7 t Wo OO _ _ _ _=>?_) (λa7 t Wo OO _ _ _ _=>?_)
     ·dsimp only;refine ba (lY (ih.alt hm aD OO P6 aD) λe a8 q8 S9 Mp hq8 he8=>?_);dsimp only;refine aF (hn _ ⟨⟨a8,q8,rfl,aD,Mp,hq8⟩,bm,rI,λz hz=>?_⟩ eZ);rcases bL.1 hz with w|w
      ·exact X1 z w
      simp at w;subst w;exact he8
     dsimp only;refine aH (W λx hx=>aj ⟨⟨a7,q6,rfl,aD,aD,P6⟩,.of aD bm X1⟩)
    refine mo hm hC aD aD λa4 t h8 h9 _ _ _=>?_;dsimp only;refine sG λr _ _=>df acw (λ_=>hj _ ⟨a4,q3,rfl,aD,aD,Ds⟩)
   refine df (λ_=>?_) (λ_=>hj _ ⟨a2,q2,rfl,h4,h5,Gs⟩);refine mo hm hC aD aD λa4 t h8 h9 _ _ _=>?_;dsimp only;exact sG λr _ _=>df (λ_=>aj ⟨⟨a4,q2,rfl,by omega,by omega,Gs⟩,he⟩) (λ_=>hj _ ⟨a4,q2,rfl,by omega,by omega,Gs⟩)
  refine ay acm acm
 refine ay (λ_=>?_) (λ_=>hj _ ⟨a,q,rfl,aD,aD,hq⟩);refine mo hm hC h0 h1 λa4 t h8 h9 _ _ _=>?_;dsimp only;exact sG λr _ _=>hj _ ⟨a4,q,rfl,by omega,by omega,hq⟩
def afx (hC:PC s T b) (ih:PG s T b K):P4 s T b (K+1) 12 (λn=>c8 n j):=by
 intro m a k q hm h0 h1 hq hK;refine bV (F:=λn=>c8 n j (H s T a b k q)) hm λm hm=>?_;show Ev (λi=>fb (m i) (R (m i)) j (H s T a b k q)) _ _;unfold fb;have hl:=hC.pJ;dsimp only;refine ay (λ_=>?_) (λ_=>?_)
 ·refine vo hm hC h0 h1 λa2 t v h2 h3 _ _ _ _ _=>?_;dsimp only;refine uc hm hC aD h3 (λa3 t h4 h5 _ _ _ _=>?_) (λa3 t h4 h5 _ _ _ _=>?_)
  ·dsimp only;exact ba (lY (ih.Mo hm aD h5 hq aD) λe a4 q4 h6 h7 PA he=>aj ⟨A3,.one dN he⟩)
  dsimp only;exact aH (lY (ih.Mo hm aD h5 hq aD) λe a4 q4 h6 h7 PA he=>aj ⟨A3,he⟩)
 exact lY (ih.Mo hm aD h1 hq aD) λe a4 q4 h6 h7 PA he=>aj ⟨A3,he⟩
def aa9 (hC:PC s T b) (ih:PG s T b K):P4 s T b (K+1) 11 (λn=>da n j):=by
 intro m a k q hm h0 h1 hq hK;refine bV (F:=λn=>da n j (H s T a b k q)) hm λm hm=>?_;show Ev (λi=>fG (m i) (R (m i)) j (H s T a b k q)) _ _;unfold fG uD;refine lY (ih.bin hm h0 h1 hq aD aD aD) λe a2 q2 h2 h3 Gs he=>?_;dsimp only;refine bR hm (λ(x:D×ak)=>St s T b k a 0 x.1/\ij x.2) (λx=>(T.length - x.1.bB).toNat) Zl ?_;rintro ⟨p,e⟩ ⟨⟨a3,q3,hp,h4,h5,Ds⟩,he⟩ next hn;dsimp only at hp he;subst hp;dsimp only at hn ⊢;refine uc hm hC aD aD (λa4 t h6 h7 _ _ _ _=>?_) (λa4 t h6 h7 _ _ _ _=>?_)
 ·dsimp only;exact ba (lY (ih.bin hm aD h7 Ds aD aD aD) λe2 a5 q5 h8 h9 hq5 he5=>hn _ ⟨⟨a5,q5,rfl,aD,h9,hq5⟩,.two he he5⟩ eZ)
 exact aH (aj ⟨⟨a4,q3,rfl,by omega,by omega,Ds⟩,he⟩)
variable {l:Int}
def OP:Ev (λ_=>qh l) (λr=>r.length<=100) dt:=by
 unfold qh
 (repeat' (with_reducible first|refine aF ?_|refine W (λ_ _=>?_)|apply ba|apply aH|refine dH (λ_=>?_) (λ_=>?_)|(apply cW;try dsimp only)))
 all_goals exact aj bm
def afy (hC:PC s T b) (ih:PG s T b K) (hm:bN m) (h0:0<=a) (h1:a<T.length) (hq:QS q) (GD:0<=l) (hl5:l<=5) (hK:64*(T.length - a).toNat+(10 - l).toNat<K+1) :
  Ev (λi=>dA (m i) l j (H s T a b k q)) (λr=>St s T b k a 0 r.2/\ij r.1) (PP (b+s.length)):=by
 refine bV (F:=λn=>dA n l j (H s T a b k q)) hm λm hm=>?_
 show Ev (λi=>gz (m i) (R (m i)) l j (H s T a b k q)) _ _
 unfold gz uD jg
 have hl:=hC.pJ
 refine aS (λ_=>lY (ih.unary hm h0 h1 hq aD) λe a4 q4 h6 h7 PA he=>aj ⟨A3,he⟩) (λ_=>?_)
 refine aF (lY (ih.bin hm h0 h1 hq aD aD aD) λe a2 q2 h2 h3 Gs he=>?_)
 dsimp only
 refine bR hm (λ(x:D×ak)=>St s T b k a 0 x.1/\ij x.2) (λx=>(T.length - x.1.bB).toNat) Zl ?_
 rintro ⟨p,e⟩ ⟨⟨a3,q3,hp,h4,h5,Ds⟩,he⟩ next hn
 dsimp only at hp he;subst hp;dsimp only at hn ⊢
 refine mo hm hC aD aD λa4 t h6 h7 ht h8 _=>?_
 dsimp only
 refine dJ OP λops hops=>Hb hm aD λr hr=>ay (λyG=>?_) (λ_=>aj ⟨⟨a4,q3,rfl,aD,aD,Ds⟩,he⟩)
 have hk5:=hr yG
 have I1:=hC.next aD ht aD
 refine vo hm hC aD h7 λa5 t5 v h9 yM _ LB _ Og Ji=>?_
 have e5:=LB t ht h8
 subst e5
 dsimp only
 refine Cp hm Og Ji he λx hx=>?_
 dsimp only
 refine mo hm hC aD h7 λa6 t6 S7 P5 _ _ Wo=>?_
 have e6:=Wo t ht h8
 subst e6
 dsimp only
 refine aF (aF (lY (ih.bin hm aD I1 Ds aD aD aD) λe2 a7 q7 OO S9 hq7 he7=>hn _ ⟨⟨a7,q7,rfl,aD,S9,hq7⟩,.two hx he7⟩ eZ))
def Å (hC:PC s T b) (ih:PG s T b K):P4 s T b (K+1) 4 (λn=>ei n j):=by
 intro m a k q hm h0 h1 hq hK;refine bV (F:=λn=>ei n j (H s T a b k q)) hm λm hm=>?_;show Ev (λi=>gW (m i) (R (m i)) j (H s T a b k q)) _ _;unfold gW uD;have hl:=hC.pJ;dsimp only;refine ay (λ_=>lY (ih.post hm h0 h1 hq aD) λe a4 q4 h6 h7 PA he=>aj ⟨A3,he⟩) (λ_=>?_);refine mo hm hC h0 h1 λa2 t h2 h3 ht h4 _=>?_;dsimp only;refine vo hm hC aD h3 λa5 t5 v h9 yM _ LB _ Og Ji=>?_;have e5:=LB t ht h4;subst e5;dsimp only;refine bD (λv=>v≠16/\t.an=5) (λw hw=>?_) (λjj hj=>?_)
 ·have I1:=hC.next aD ht aD;exact aF (lY (ih.unary hm aD I1 hq aD) λe a4 q4 h6 h7 PA he=>aj ⟨A3,.one hw.1 he⟩)
 refine Hb hm bm λr hr=>ay (λyG=>hj _ ⟨dN,hr yG⟩) (λ_=>?_);refine Hb hm bm λr hr=>ay (λyG=>hj _ ⟨dN,hr yG⟩) (λ_=>?_);exact lY (ih.post hm aD h3 hq aD) λe a4 q4 h6 h7 PA he=>aj ⟨A3,he⟩
def Æ (hC:PC s T b) (ih:PG s T b K) (hm:bN m) (h0:0<=a) (h1:a<T.length) (hq:QS q) (hK:64*(T.length - a).toNat+13<K) {e:ak} (he:ij e) :
  Ev (λi=>fT (m i) true (H s T a b k q) e) (λr=>St s T b k a 1 r.1/\ij r.2) (PP (b+s.length)):=by
 refine bV (F:=λn=>fT n true (H s T a b k q) e) hm λm hm=>?_
 show Ev (λi=>lH (m i) (R (m i)) true (H s T a b k q) e) _ _
 unfold lH
 dsimp only
 refine lY (k:=true) (a:=a) (d:=1) (P:=ij) ?_ λx a' q' h2 h3 h4 h5=>aj UI
 refine bV (F:=λn=>jq n e (H s T a b true q)) hm λm hm=>?_
 show Ev (λi=>lE (m i) (R (m i)) e (H s T a b true q)) _ _
 unfold lE uD
 refine lY (ih.expr hm h0 h1 hq hK) λx a2 q2 h2 h3 h4 h5=>?_
 dsimp only
 exact Ag hm hC aD aD aD λa3 t h6 h7 _ _ _=>aj ⟨⟨a3,q2,rfl,by omega,h7,h4⟩,.two he h5⟩
def aa_ (hC:PC s T b) (ih:PG s T b K):P4 s T b (K+1) 3 (λn=>eG n j):=by
 intro m a k q hm h0 h1 hq hK;refine bV (F:=λn=>eG n j (H s T a b k q)) hm λm hm=>?_;show Ev (λi=>ic (m i) (R (m i)) j (H s T a b k q)) _ _;unfold ic uD;have hl:=hC.pJ;refine lY (ih.RY hm h0 h1 hq aD) λe a2 q2 h2 h3 Gs he=>?_;dsimp only;refine bR hm (λ(x:D×ak)=>St s T b k a 0 x.1/\ij x.2) (λx=>(T.length - x.1.bB).toNat) Zl ?_;rintro ⟨p,e⟩ ⟨⟨a3,q3,hp,h4,h5,Ds⟩,he⟩ next hn;dsimp only at hp he;subst hp;dsimp only at hn ⊢;refine mo hm hC aD aD λa4 t h6 h7 ht h8 _=>?_;dsimp only;refine vo hm hC aD h7 λa5 t5 v h9 yM _ LB _ Og Ji=>?_;have e5:=LB t ht h8;subst e5;dsimp only;refine sG λr hr _=>ay (λyG=>?_) (λ_=>?_)
 ·have hk5:=(hr yG).1;have I1:=hC.next aD ht aD;refine Cp hm Og Ji he λx hx=>?_;dsimp only;refine aF (mo hm hC aD I1 λa6 t6 S7 P5 ht6 _ _=>?_);dsimp only;refine bD (λv=>v=H s T a6 b k q3/\t6.an≠0) (λv hv=>?_) (λjj hj=>?_)
  ·obtain ⟨rfl,Wo⟩:=hv;have hnx6:=hC.next aD ht6 Wo;exact aF (hn _ ⟨⟨a6+1,q3,rfl,aD,aD,Ds⟩,.one dN hx⟩ eZ)
  exact KZ hm λr hr=>df (λ_=>tv hm hC aD P5 aD) (λyG=>hj _ ⟨rfl,by have:=hr yG;omega⟩)
 refine sG λr hr _=>ay (λyG=>?_) (λ_=>aj ⟨⟨a5,q3,rfl,aD,aD,Ds⟩,he⟩);have hk5:=(hr yG).1;have I1:=hC.next aD ht aD;refine Cp hm Og Ji he λx hx=>?_;dsimp only;refine aF (FQ (Æ hC ih hm aD I1 Ds aD hx) λx a6 q6 S7 P5 P6 hx6=>?_);dsimp only;exact aF (hn _ ⟨⟨a6+1,q6,rfl,aD,aD,P6⟩,hx6⟩ eZ)
end
section
variable {s:ByS} {T:List aB} {K:Nat} {m:Nat->Nat}
def aba (hC:PC s T b) (ih:PG s T b K):P4 s T b (K+1) 2 (λn=>eU n j):=by
 intro m a k q hm h0 h1 hq hK;refine bV (F:=λn=>eU n j (H s T a b k q)) hm λm hm=>?_;show Ev (λi=>fU (m i) (R (m i)) j (H s T a b k q)) _ _;unfold fU jg tG;have hl:=hC.pJ;dsimp only;cases q with
 | some e=>exact ba (Ev.some rfl (aj ⟨⟨a,none,rfl,by omega,by omega,.none⟩,hq e rfl⟩))
 | none=>
  refine aH ?_
  refine mo hm hC h0 h1 λa2 t h2 h3 ht h4 _=>?_
  dsimp only
  refine vo hm hC aD h3 λa5 t5 v h9 yM ht5 LB hv Og Ji=>?_
  have e5:=LB t ht h4
  subst e5
  rw[ht] at ht5;cases ht5
  dsimp only
  refine bD (λv=>v.1=H s T a5 b k none/\ij v.2/\t.an≠0) (λw hw=>?_) (λjj hj=>?_)
  ·obtain ⟨p,e⟩:=w;obtain ⟨hp,he,hk⟩:=hw;dsimp only at hp he;subst hp;dsimp only;have I1:=hC.next aD ht hk;exact aF (aj ⟨⟨a5+1,none,rfl,by omega,by omega,.none⟩,he⟩)
  ·refine cd (λhk=>?_) (λ_=>?_)
   ·exact lY (ih.named hm aD h3 .none ht hk aD) λe a4 q4 h6 h7 PA he=>aj ⟨A3,he⟩
   refine cd (λhk=>?_) (λ_=>?_)
   ·exact dJ (ED hm) λy _=>hj _ ⟨rfl,.leaf dN,by omega⟩
   refine cd (λhk=>hj _ ⟨rfl,.leaf dN,aD⟩) (λ_=>?_);refine cd (λhk=>?_) (λ_=>?_)
   ·rw[hv];refine ai (ih.K0 hm aD h3 ht hk aD) λy hy=>?_;exact hj _ ⟨hy.1,hy.2,by omega⟩
   refine sG λr hr _=>ay (λyG=>hj _ ⟨rfl,.leaf dN,by have:=(hr yG).1;omega⟩) (λ_=>?_);refine sG λr hr _=>ay (λyG=>hj _ ⟨rfl,.leaf dN,by have:=(hr yG).1;omega⟩) (λ_=>?_);refine sG λr hr _=>ay (λyG=>?_) (λ_=>?_)
   ·exact lY (ih.parens hm aD h3 .none aD) λe a4 q4 h6 h7 PA he=>aj ⟨A3,he⟩
   refine sG λr hr _=>ay (λyG=>?_) (λ_=>?_)
   ·exact lY (ih.Ä hm aD h3 .none aD) λe a4 q4 h6 h7 PA he=>aj ⟨A3,he⟩
   refine sG λr hr _=>ay (λyG=>?_) (λ_=>?_)
   ·exact lY (ih.list hm aD h3 .none aD) λe a4 q4 h6 h7 PA he=>aj ⟨A3,he⟩
   exact tv hm hC aD h3 aD
def Ç (hC:PC s T b) (ih:PG s T b K) (hm:bN m) (h0:0<=a) (h1:a<T.length) (hq:QS q) (ht:T[a.toNat]?=some t) (hk:t.an=1) (hK:64*(T.length - a).toNat+1<K+1) :
  Ev (λi=>iu (m i) (H s T a b k q)) (λr=>St s T b k a 0 r.2/\ij r.1) (PP (b+s.length)):=by
 refine bV (F:=λn=>iu n (H s T a b k q)) hm λm hm=>?_
 show Ev (λi=>kp (m i) (R (m i)) (H s T a b k q)) _ _
 unfold kp jg
 have hl:=hC.pJ
 have I1:=hC.next aD ht aD
 refine mo hm hC h0 h1 λa2 t2 h2 h3 ht2 h4 e2=>?_
 have e2:=e2 t ht JQ
 subst e2
 rw[ht] at ht2;cases ht2
 dsimp only
 refine vo hm hC aD h3 λa5 t5 v h9 yM ht5 LB hv Og Ji=>?_
 have e5:=LB t ht h4
 subst e5
 dsimp only
 refine bD (λv=>v.an≠16) (λw hw=>?_) (λjj hj=>?_)
 ·exact aF (aj ⟨⟨a5+1,q,rfl,by omega,by omega,hq⟩,.leaf hw⟩)
 ·refine cd W6 (λ_=>?_)
  refine bD (λ_=>True) (λw _=>?_) (λj2 xI=>?_)
  ·refine ay (λ_=>cd W6 W6) (λ_=>?_)
   refine bD (λ_=>True) (λw _=>?_) (λj2 xI=>?_)
   ·refine ay W6 (λ_=>?_)
    refine Jn hm hC h0 h3 aD λa6 x S7 P5=>?_
    dsimp only
    refine mo hm hC aD P5 λa7 t7 Wo OO _ _ _=>?_
    dsimp only
    refine sG λr _ _=>ay (λ_=>?_) (λ_=>aj ⟨⟨a7,q,rfl,aD,aD,hq⟩,.leaf dN⟩)
    exact lY (P:=λl:List ak=>l.length<=70000/\∀ x,x∈l->ij x) (ih.args hm aD OO hq aD) λe a4 q4 h6 h7 PA he=>aj ⟨A3,.of he.1 bm he.2⟩
   ·refine cd (λ_=>xI _ trivial) (λ_=>cd (λ_=>xI _ trivial) (λ_=>cd (λ_=>xI _ trivial) (λ_=>xI _ trivial)))
  ·exact cd (λ_=>xI _ trivial) (λ_=>xI _ trivial)
def K1 (s:ByS) (b:Int):Prop:=∀ {m:Nat->Nat} {x:ByS} {f:Int},bN m->x.length<s.length->0<=f->f+x.length<=b+s.length->Ev (λi=>nL (m i) x f) (λr=>ij r.1) dt
def X2 (hC:PC s T b) (hX:K1 s b) (hm:bN m) (h0:0<=a) (h1:a<T.length) (ht:T[a.toNat]?=some t) (hk:t.an=4) :
  Ev (λi=>fo (m i) t (b+t.cG) (H s T a b k q)) (λr=>r.2=H s T a b k q/\ij r.1) (PP (b+s.length)):=by
 refine bV (F:=λn=>fo n t (b+t.cG) (H s T a b k q)) hm λm hm=>?_
 show Ev (λi=>jM (m i) (R (m i)) t (b+t.cG) (H s T a b k q)) _ _
 unfold jM oz jU tG
 have hbs:=hC.bs
 have hb0:=hC.b0
 obtain ⟨g0,g1,g2,g3,g4,_⟩:=hC.tok ht
 have g4:=g4 hk
 refine dJ (yF hm aD) λy hy=>?_
 refine bR hm (λ(x:D×ak×Int)=>x.1=H s T a b k q/\0<=x.2.2/\x.2.2<=y.1.length/\x.2.1.bF.length<=x.2.2/\x.2.1.an=5/\∀ e,e∈x.2.1.bF->ij e) (λx=>(y.1.length - x.2.2).toNat) ⟨rfl,bm,bm,by simp[TS],rfl,by simp[TS]⟩ ?_
 rintro ⟨p,e,i⟩ ⟨hp,h2,h3,h4,h5,h6⟩ next hn
 dsimp only at hp h2 h3 h4 h5 h6 hn ⊢
 subst hp
 have hyl:=hy.1
 refine aS (λgR=>?_) (λ_=>aj ⟨rfl,.of aD aD h6⟩)
 refine W λx hx=>?_
 obtain ⟨x0,x1,x2⟩:=hy.2 x (aP hx)
 refine aF (aF (df (λ_=>?_) (λhc=>?_)))
 ·refine aF (aF (hn _ ⟨rfl,eZ,eZ,MD,h5,λz hz=>?_⟩ eZ))
  rcases bL.1 hz with w|w
  ·exact h6 z w
  ·simp at w;subst w;exact .leaf dN
 ·have x2:=x2 hc
  refine dJ (hX hm (x:=x.bJ) (f:=b+t.cG+1+x.cG) aD aD aD) λz hz=>?_
  refine df (λ_=>Jm aD aD) (λ_=>?_)
  refine aF (aF (hn _ ⟨rfl,eZ,eZ,MD,h5,λz2 KX=>?_⟩ eZ))
  rcases bL.1 KX with w|w
  ·exact h6 z2 w
  ·simp at w;subst w;exact hz
def X3 (hC:PC s T b) (ih:PG s T b K) (hm:bN m) (h0:0<=a) (h1:a<T.length) (hq:QS q) (hK:64*(T.length - a).toNat+1<K+1) :
  Ev (λi=>dU (m i) j (H s T a b k q)) (λr=>St s T b k (a+1) 0 r.2/\ij r.1) (PP (b+s.length)):=by
 refine bV (F:=λn=>dU n j (H s T a b k q)) hm λm hm=>?_
 show Ev (λi=>jN (m i) (R (m i)) j (H s T a b k q)) _ _
 unfold jN
 have hl:=hC.pJ
 refine sv hm hC h0 h1 aD λa2 t h2 h3 _ _ _ _=>?_
 refine FQ (s:=s) (T:=T) (b:=b) (k:=k) (a:=a+1) (d:=1) (P:=λx:Bool×ak=>ij x.2) ?_ λx a3 q3 h4 h5 Ds he=>?_
 ·refine bV (F:=λn=>hU n true (H s T a2 b k q) j (ak.mk 0 [] 0 [] [] [] [] [] 0)) hm λm hm=>?_
  show Ev (λi=>lG (m i) (R (m i)) true (H s T a2 b k q) j (ak.mk 0 [] 0 [] [] [] [] [] 0)) _ _
  unfold lG
  dsimp only
  refine ai (Q:=λr=>St s T b true (a+1) 1 r.2.2/\ij r.2.1) ?_ λr hr=>?_
  ·refine bV (F:=λn=>jK n j (ak.mk 0 [] 0 [] [] [] [] [] 0) (H s T a2 b true q)) hm λm hm=>?_
   show Ev (λi=>mn (m i) (R (m i)) j (ak.mk 0 [] 0 [] [] [] [] [] 0) (H s T a2 b true q)) _ _
   unfold mn
   refine lY (ih.expr hm aD h3 hq aD) λx a3 q3 h4 h5 Ds he=>?_
   exact ahX
  ·obtain ⟨x,e,p⟩:=r
   exact acG
 ·exact ŝ
def È (hC:PC s T b) (ih:PG s T b K) (hm:bN m) (h0:0<=a) (h1:a<T.length) (hq:QS q) (hK:64*(T.length - a).toNat<K+1) :
  Ev (λi=>eY (m i) j (H s T a b k q)) (λr=>St s T b k a 0 r.2.2/\r.1.length<=70000/\(∀ d,d∈r.1->g d)/\r.2.1.length<=70000/\∀ x,x∈r.2.1->x.length<=65536) (PP (b+s.length)):=by
 refine bV (F:=λn=>eY n j (H s T a b k q)) hm λm hm=>?_
 show Ev (λi=>km (m i) (R (m i)) j (H s T a b k q)) _ _
 unfold km jg oz
 have hl:=hC.pJ
 refine sv hm hC h0 h1 aD λa2 t h2 h3 _ _ _ _=>?_
 refine FQ (s:=s) (T:=T) (b:=b) (k:=k) (a:=a+1) (d:=1) (P:=λr:Bool×List aK×List ByS=>r.2.1.length<=70000/\(∀ d,d∈r.2.1->g d)/\r.2.2.length<=70000/\∀ x,x∈r.2.2->x.length<=65536) ?_ λx a3 q3 h4 h5 Ds he=>?_
 ·refine bV (F:=λn=>jr n false (H s T a2 b k q) j [] []) hm λm hm=>?_
  show Ev (λi=>lF (m i) (R (m i)) false (H s T a2 b k q) j [] []) _ _
  unfold lF
  dsimp only
  refine ai (Q:=λr=>St s T b false (a+1) 1 r.2.2.2/\r.2.1.length<=70000/\(∀ d,d∈r.2.1->g d)/\r.2.2.1.length<=70000/\∀ x,x∈r.2.2.1->x.length<=65536) ?_ λr hr=>?_
  ·refine bV (F:=λn=>kl n j [] [] (H s T a2 b false q)) hm λm hm=>?_
   show Ev (λi=>mO (m i) (R (m i)) j [] [] (H s T a2 b false q)) _ _
   unfold mO
   refine ai (ih.decls hm aD h3 hq aD) λr hr=>?_
   obtain ⟨x,e,p⟩:=r
   obtain ⟨⟨a3,q3,hp,h4,h5,Ds⟩,he⟩:=hr
   dsimp only at hp he;subst hp
   exact ahX
  ·obtain ⟨x,y,e,p⟩:=r
   exact acG
 ·exact ŝ
def X4 (hC:PC s T b) (ih:PG s T b K):P4 s T b (K+1) 1 (λn=>fN n j):=by
 intro m a k q hm h0 h1 hq hK;refine bV (F:=λn=>fN n j (H s T a b k q)) hm λm hm=>?_;show Ev (λi=>jL (m i) (R (m i)) j (H s T a b k q)) _ _;unfold jL;refine vo hm hC h0 h1 λa2 t v h2 h3 _ _ _ _ _=>?_;dsimp only;refine bD (λv=>v.an≠16) (λw hw=>?_) (λjj hj=>?_)
 ·refine ai (ih.block hm aD h3 hq aD) λr hr=>?_;obtain ⟨x,e,p⟩:=r;obtain ⟨⟨a3,q3,hp,h4,h5,Ds⟩,he1,SJ,he3,he4⟩:=hr;dsimp only at hp he1 SJ he3 he4;subst hp;exact aj ⟨⟨a3,q3,rfl,by omega,h5,Ds⟩,.mk bm he1 he3 he4 (λq=>aw q hw) bm SJ⟩
 exact ay W6 W6
def abb (hC:PC s T b) (ih:PG s T b K) (hm:bN m) (h0:0<=a) (h1:a<T.length) (hq:QS q) (hK:64*(T.length - a).toNat+1<K+1) :
  Ev (λi=>iX (m i) (H s T a b k q)) (λr=>St s T b k a 0 r.2/\r.1.length<=70000/\∀ x,x∈r.1->ij x) (PP (b+s.length)):=by
 refine bV (F:=λn=>iX n (H s T a b k q)) hm λm hm=>?_
 show Ev (λi=>kW (m i) (R (m i)) (H s T a b k q)) _ _
 unfold kW oz
 have hl:=hC.pJ
 refine sv hm hC h0 h1 aD λa2 t h2 h3 _ _ _ _=>?_
 refine FQ (s:=s) (T:=T) (b:=b) (k:=k) (a:=a+1) (d:=1) (P:=λr:List ak=>r.length<=70000/\∀ x,x∈r->ij x) ?_ λx a3 q3 h4 h5 Ds he=>?_
 ·refine bV (F:=λn=>ia n true (H s T a2 b k q) []) hm λm hm=>?_
  show Ev (λi=>lJ (m i) (R (m i)) true (H s T a2 b k q) []) _ _
  unfold lJ
  dsimp only
  refine lY (k:=true) (a:=a+1) (d:=1) (P:=λr:List ak=>r.length<=70000/\∀ x,x∈r->ij x) ?_ λx a' q' h2 h3 h4 h5=>aj UI
  refine bV (F:=λn=>kU n [] (H s T a2 b true q)) hm λm hm=>?_
  show Ev (λi=>gy (m i) (R (m i)) [] (H s T a2 b true q)) _ _
  unfold gy YE jU
  refine mo hm hC aD h3 λa3 t3 h4 h5 _ _ _=>?_
  dsimp only
  refine sG λr _ _=>df (λ_=>?_) (λ_=>?_)
  ·refine lY (ih.expr hm aD h5 hq aD) λx a4 q4 h6 h7 PA he=>?_
   dsimp only
   refine aF ?_
   refine bR hm (λ(x:List ak×D)=>St s T b true (a+1) 0 x.2/\(x.1.length:Int)<=x.2.bB+1/\∀ e,e∈x.1->ij e) (λx=>(T.length - x.2.bB).toNat) ⟨A3,rI,Dh⟩ ?_
   rintro ⟨l,p⟩ ⟨⟨a6,q6,hp,S7,P5,P6⟩,IQ,X1⟩ next hn
   dsimp only at hp IQ X1;subst hp;dsimp only at hn IQ ⊢
   refine uc hm hC aD aD (λa7 t Wo OO _ _ _ _=>?_) (λa7 t Wo OO _ _ _ _=>?_)
   ·dsimp only
    refine ba (lY (ih.expr hm aD OO P6 aD) λe a8 q8 S9 Mp hq8 he8=>?_)
    dsimp only
    refine aF (hn _ ⟨⟨a8,q8,rfl,aD,Mp,hq8⟩,rI,λz hz=>?_⟩ eZ)
    rcases bL.1 hz with w|w
    ·exact X1 z w
    ·simp at w;subst w;exact he8
   ·dsimp only
    refine aH (Ag hm hC aD aD aD λa8 t S9 Mp _ _ _=>aj ⟨⟨a8,q6,rfl,aD,Mp,P6⟩,eZ,X1⟩)
  ·exact Ag hm hC aD aD aD λa8 t S9 Mp _ _ _=>aj ⟨⟨a8,q,rfl,by omega,Mp,hq⟩,by simp,by simp⟩
 ·exact ŝ
def abc (hC:PC s T b) (ih:PG s T b K):P4 s T b (K+1) 14 eB:=by
 intro m a k q hm h0 h1 hq hK;refine bV (F:=λn=>eB n (H s T a b k q)) hm λm hm=>?_;show Ev (λi=>iL (m i) (R (m i)) (H s T a b k q)) _ _;unfold iL Cz oz jU tG;refine vo hm hC h0 h1 λa2 t v h2 h3 _ _ _ _ _=>?_;dsimp only;refine mo hm hC aD h3 λa3 t3 h4 h5 _ _ _=>?_;dsimp only;refine C7 λr _ _=>df (λ_=>?_) (λ_=>?_)
 ·exact lY (ih.expr hm aD h5 hq aD) λx a4 q4 h6 h7 PA he=>aj ⟨A3,he⟩
 refine C8 hm hC aD h5 aD λa4 h6 h7=>RT hm hC aD h7 aD λa5 nm h8 h9=>?_;dsimp only;refine C8 hm hC aD h9 aD λa6 yM LB=>lY (ih.expr hm aD LB hq aD) λx a7 q7 Og Ji hq7 he=>?_;dsimp only;refine aF ?_;refine bD (λv=>St s T b k (a+1) 0 v.1/\v.2.bF.length<=2/\v.2.an=15/\∀ e,e∈v.2.bF->ij e) (λw hw=>?_) (λjj hj=>?_)
 ·obtain ⟨p,e⟩:=w;obtain ⟨⟨a8,q8,hp,S7,P5,hq8⟩,SP,Tq,hs3⟩:=hw;dsimp only at hp SP Tq hs3;subst hp;dsimp only;refine sv hm hC aD aD aD λa9 t Wo OO _ _ _ _=>lY (ih.expr hm aD OO hq8 aD) λx a10 q10 S9 Mp hq10 he10=>?_;dsimp only;refine aF (aj ⟨⟨a10,q10,rfl,aD,Mp,hq10⟩,.of rI aD λz hz=>?_⟩);rcases bL.1 hz with w|w
  ·exact hs3 z w
  simp at w;subst w;exact he10
 refine mo hm hC aD aD λa8 t8 S7 P5 _ _ _=>?_;dsimp only;refine C7 λr _ _=>ay (λ_=>?_) (λ_=>hj _ ⟨⟨a8,q7,rfl,aD,aD,hq7⟩,by simp[TS],rfl,by simpa[TS] using he⟩);refine C8 hm hC aD P5 aD λa9 Wo OO=>lY (ih.expr hm aD OO hq7 aD) λx2 a10 q10 S9 Mp hq10 he10=>?_;dsimp only;refine aF (hj _ ⟨⟨a10,q10,rfl,aD,Mp,hq10⟩,by simp[TS],rfl,?_⟩);simp only[TS];intro z hz;simp at hz;rcases hz with rfl|rfl
 ·exact he
 exact he10
def abd (hC:PC s T b) (ih:PG s T b K):P4 s T b (K+1) 1 iY:=by
 intro m a k q hm h0 h1 hq hK;refine bV (F:=λn=>iY n (H s T a b k q)) hm λm hm=>?_;show Ev (λi=>kY (m i) (R (m i)) (H s T a b k q)) _ _;unfold kY oz;have hl:=hC.pJ;refine vo hm hC h0 h1 λa1 t v h2 h3 _ _ _ _ _=>?_;dsimp only;refine sv hm hC aD h3 aD λa2 t h4 h5 _ _ _ _=>?_;refine FQ (s:=s) (T:=T) (b:=b) (k:=k) (a:=a+1) (d:=1) (P:=ij) ?_ λx a3 q3 h4 h5 Ds he=>?_
 ·refine bV (F:=λn=>hY n true (H s T a2 b k q) (ak.mk 14 [] 0 [] [] [] [] [] v)) hm λm hm=>?_;show Ev (λi=>lI (m i) (R (m i)) true (H s T a2 b k q) (ak.mk 14 [] 0 [] [] [] [] [] v)) _ _;unfold lI;dsimp only;refine lY (k:=true) (a:=a+1) (d:=1) (P:=ij) ?_ λx a' q' h2 h3 h4 h5=>aj UI;refine bV (F:=λn=>kV n (ak.mk 14 [] 0 [] [] [] [] [] v) (H s T a2 b true q)) hm λm hm=>?_;show Ev (λi=>gC (m i) (R (m i)) (ak.mk 14 [] 0 [] [] [] [] [] v) (H s T a2 b true q)) _ _;unfold gC YE jU;refine bR hm (λ(x:ak×D×Bool)=>St s T b true (a+1) 0 x.2.1/\x.1.an=14/\x.1.fS=[]/\x.1.J=[]/\(x.1.bF.length:Int)+(if x.2.2 then 1 else 0)<=x.2.1.bB+1/\∀ e,e∈x.1.bF->ij e) (λx=>2*(T.length - x.2.1.bB).toNat+(if x.2.2 then 1 else 0)) ⟨⟨a2,q,rfl,aD,aD,hq⟩,rfl,rfl,rfl,MD,by simp[TS]⟩ ?_;rintro ⟨e,p,f⟩ ⟨⟨a6,q6,hp,S7,P5,P6⟩,hk,hd,ht,IQ,X1⟩ next hn;dsimp only at hp hk hd ht IQ X1;subst hp;dsimp only at hn IQ ⊢;refine mo hm hC aD aD λa7 t7 Wo OO _ _ _=>?_;dsimp only;refine sG λr _ _=>df (λ_=>?_) (λ_=>?_)
  ·refine bD (λp=>∃ a8,p=H s T a8 b true q6/\a6<=a8/\a8<T.length/\(f=false->a6<a8)) (λw hw=>?_) (λjj hj=>?_)
   ·obtain ⟨a8,rfl,S9,Mp,h20⟩:=hw;have hf1:(e.bF.length:Int)<=a8:=by
     cases f with
     | true=>simp at IQ;omega
     | false=>have:=h20 rfl;simp at IQ;omega
    have hf2:∀ x:Int,a8<=x->2*(T.length - x).toNat+0<2*(T.length - a6).toNat+(if f=true then 1 else 0):=by
     intro x hx;cases f with
     | true=>simp;omega
     | false=>have:=h20 rfl;simp;omega
    refine vo hm hC aD Mp λa9 t v h21 h22 _ _ _ _ _=>?_;dsimp only;refine uc hm hC aD aD (λa10 t h23 h24 _ _ _ _=>?_) (λa10 t h23 h24 _ _ _ _=>?_)
    ·dsimp only;refine ba ?_;refine bD (λv=>St s T b true (a+1) 0 v.1/\ij v.2) (λw hw=>?_) (λjj hj=>?_)
     ·obtain ⟨p,x⟩:=w;obtain ⟨⟨a11,q11,hp,h25,h26,hq11⟩,hx⟩:=hw;dsimp only at hp hx;subst hp;dsimp only;refine aF (Ag hm hC aD aD aD λa12 t h27 h28 _ _ _=>aj ⟨⟨a12,q11,rfl,aD,h28,hq11⟩,?_⟩);dsimp only;rw[hd,ht];refine .of rI aD λz hz=>?_;rcases bL.1 hz with w|w
      ·exact X1 z w
      simp at w;subst w;exact hx
     refine mo hm hC aD aD λa11 t11 h25 h26 _ _ _=>?_;dsimp only;refine sG λr _ _=>df (λ_=>?_) (λ_=>hj _ ⟨⟨a11,q6,rfl,aD,aD,P6⟩,.leaf dN⟩);exact lY (ih.expr hm aD h26 P6 aD) λx a12 q12 h27 h28 hq12 he12=>hj _ ⟨⟨a12,q12,rfl,by omega,h28,hq12⟩,he12⟩
    dsimp only;refine aH (lY (ih.item hm aD h24 P6 aD) λx a12 q12 h27 h28 hq12 he12=>?_);dsimp only;refine aF (hn _ ⟨⟨a12,q12,rfl,aD,h28,hq12⟩,hk,hd,ht,MD,λz hz=>?_⟩ (by have:=hf2 a12 aD;simpa using this));rcases bL.1 hz with w|w
    ·exact X1 z w
    simp at w;subst w;exact he12
   refine df (λhf=>?_) (λhf=>hj _ ⟨a7,rfl,Wo,OO,λh=>by rw[hf] at h;cases h⟩);exact sv hm hC aD OO aD λa8 t S9 Mp _ _ _ _=>hj _ ⟨a8,rfl,by omega,Mp,λ_=>by omega⟩
  refine Ag hm hC aD aD aD λa8 t S9 Mp _ _ _=>aj ⟨⟨a8,q6,rfl,aD,Mp,P6⟩,?_⟩;dsimp only;cases e with
  | mk k0 t0 n0 x0 y0 s0 d0 tl0 p0=>
   simp only[ak.an,ak.fS,ak.J,ak.bF] at hk hd ht IQ X1
   subst hd ht
   refine .of ?_ aD X1
   have:(s0.length:Int)<=a6+1:=by
    cases f with
    | true=>simp at IQ;omega
    | false=>simp at IQ;omega
   omega
 exact ŝ
end
section
structure DWk (d:aK):Prop where
 l2:d.jf.length<=70000
 l3:d.J.length<=70000
 l4:∀ x,x∈d.J->x.length<=65536
 l5:d.oO.length<=70000
 l6:∀ x,x∈d.oO->x.length<=65536
 l7:d.iG.length<=65536
 d:∀ x,x∈d.jf->g x
variable {d:aK}
def g.w (h:g d):DWk d:=⟨h.l2,h.l3,h.l4,h.l5,h.l6,h.l7,h.d⟩
variable {k p:Int} {lb a b:ByS} {pos:Int}
def DWk.one {x:ak} (h:DWk d) (hx:ij x):g (aK.mk k p lb a b [x] d.jf d.J d.oO d.iG pos):=
 .mk bm h.l2 h.l3 h.l4 h.l5 h.l6 h.l7 Gq DY h.d
def g.new {l:List ak} {body:List aK} {tail:List ByS} (h1:l.length<=70000) (h2:body.length<=70000) (h3:tail.length<=70000) (h4:∀ x,x∈tail->x.length<=65536) (h8:k=1\/k=2\/k=3->1<=l.length) (hs:∀ x,x∈l->ij x) (hd:∀ x,x∈body->g x):g (aK.mk k p lb a b l body tail [] [] pos):=
 .mk h1 h2 h3 h4 bm bm bm h8 hs hd
section
variable {s:ByS} {T:List aB} {b:Int} {K:Nat} {m:Nat->Nat} {a:Int} {k:Bool}
def É (hC:PC s T b) (ih:PG s T b K) (hm:bN m) (h0:0<=a) (h1:a<T.length) (hq:QS q) (hd:g d) (ht:T[a.toNat]?=some t) (hk:t.an≠0) (ON:t.an≠7) (hK:64*(T.length - a).toNat+14<K+1) :
  Ev (λi=>iq (m i) j (H s T a b k q) d) (λr=>St s T b k a 0 r.1/\g r.2) (PP (b+s.length)):=by
 refine bV (F:=λn=>iq n j (H s T a b k q) d) hm λm hm=>?_
 show Ev (λi=>ko (m i) (R (m i)) j (H s T a b k q) d) _ _
 unfold ko
 have hl:=hC.pJ
 have I1:=hC.next h0 ht hk
 have hw:=hd.w
 refine mo hm hC h0 h1 λa2 t2 h2 h3 ht2 h4 e2=>?_
 have e2:=e2 t ht (λ_=>ON)
 subst e2
 dsimp only
 refine aF ?_
 refine bD (λv=>St s T b k (a2+1) 0 v.1/\DWk v.2) (λw hw=>?_) (λjj hj=>?_)
 ·obtain ⟨p,e⟩:=w
  obtain ⟨⟨a3,q3,hp,h5,h6,Ds⟩,he⟩:=hw
  dsimp only at hp he;subst hp;dsimp only
  refine sv hm hC aD aD aD λa4 t h7 h8 _ _ _ _=>lY (ih.expr hm aD h8 Ds aD) λx a5 q5 h9 yM hq5 hx=>?_
  exact aj ⟨U8,he.one hx⟩
 ·refine uc hm hC aD I1 (λa4 t h7 h8 _ _ _ _=>?_) (λa4 t h7 h8 _ _ _ _=>?_)
  ·exact ba (hj _ ⟨⟨a4,q,rfl,by omega,by omega,hq⟩,hw.l2,hw.l3,hw.l4,hw.l5,hw.l6,hw.l7,hw.d⟩)
  ·dsimp only
   refine aH ?_
   refine uc hm hC aD h8 (λa5 t h9 yM _ _ _ _=>?_) (λa5 t h9 yM _ _ _ _=>?_)
   ·exact ba aco
   ·exact aH aco
def TW (hC:PC s T b) (ih:PG s T b K) (hm:bN m) (h0:0<=a) (h1:a<T.length) (hq:QS q) (hd:g d) (hp:RU T a) (hK:64*(T.length - a).toNat+14<K+1) :
  Ev (λi=>fZ (m i) j (H s T a b k q) d) (λr=>St s T b k a 0 r.1/\g r.2) (PP (b+s.length)):=by
 refine bV (F:=λn=>fZ n j (H s T a b k q) d) hm λm hm=>?_
 show Ev (λi=>js (m i) (R (m i)) j (H s T a b k q) d) _ _
 unfold js jg
 have hl:=hC.pJ
 have hw:=hd.w
 obtain ⟨t,u,p1,p2,p3,p4,p5,p6⟩:=hp
 refine sv hm hC h0 h1 aD λa2 t2 h2 h3 _ _ _ e2=>?_
 have e2:=e2 t p1 JQ
 subst e2
 refine FQ (d:=1) (P:=DWk) ((H8 hm hC aD JF hq p3 p4 p5 (λh=>by obtain ⟨w,w1,w2⟩:=p6 h;exact ⟨w,by rw[show a+1+1=a+2 by omega];exact w1,w2⟩)).oB λr hr=>⟨hr.1,?_⟩) λx a3 q3 h4 h5 Ds hxw=>?_
 ·rcases hr.2 with h|⟨l,h⟩
  ·rw[h];exact ⟨hw.l2,hw.l3,hw.l4,hw.l5,hw.l6,hw.l7,hw.d⟩
  ·rw[h];exact ⟨hw.l2,hw.l3,hw.l4,hw.l5,hw.l6,hw.l7,hw.d⟩
 dsimp only
 refine aF (sv hm hC aD aD aD λa4 t h7 h8 _ _ _ _=>lY (ih.expr hm aD h8 Ds aD) λy a5 q5 h9 yM hq5 hy=>?_)
 exact aj ⟨U8,hxw.one hy⟩
def TY (hC:PC s T b) (ih:PG s T b K) (hm:bN m) (h0:0<=a) (h1:a<T.length) (hq:QS q) (hd:g d) (hK:64*(T.length - a).toNat+14<K+1) :
  Ev (λi=>fY (m i) j (H s T a b k q) d) (λr=>St s T b k a 0 r.1/\g r.2) (PP (b+s.length)):=by
 refine bV (F:=λn=>fY n j (H s T a b k q) d) hm λm hm=>?_
 show Ev (λi=>kI (m i) (R (m i)) j (H s T a b k q) d) _ _
 unfold kI
 have hl:=hC.pJ
 have hw:=hd.w
 refine lY (ih.parens hm h0 h1 hq aD) λe a2 q2 h2 h3 Gs he=>?_
 dsimp only
 refine mo hm hC aD aD λa3 t h4 h5 ht h6 _=>?_
 dsimp only
 refine sG λr hr _=>ay (λyG=>?_) (λ_=>?_)
 ·have hk5:=(hr yG).1
  have I1:=hC.next aD ht aD
  refine vo hm hC aD h5 λa5 t5 v h9 yM _ LB _ Og Ji=>?_
  have e5:=LB t ht h6
  subst e5
  dsimp only
  refine Cp hm Og Ji he λx hx=>?_
  dsimp only
  refine aF (lY (ih.expr hm aD I1 Gs aD) λy a5 q5 h9 yM hq5 hy=>?_)
  exact aj ⟨U8,.mk bm hw.l2 hw.l3 hw.l4 hw.l5 hw.l6 hw.l7 Gq (by simp;exact ⟨hx,hy⟩) hw.d⟩
 ·refine lY (ih.expr (q:=some e) hm aD h5 (λx hx=>by cases hx;exact he) aD) λy a5 q5 h9 yM hq5 hy=>?_
  exact aj ⟨U8,hw.one hy⟩
def abe (hC:PC s T b) (ih:PG s T b K) (hm:bN m) (h0:0<=a) (h1:a<T.length) (hq:QS q) (ht:T[a.toNat]?=some t) (hk:t.an≠0) (ON:t.an≠7) (hK:64*(T.length - a).toNat+17<K+1) :
  Ev (λi=>fe (m i) j (H s T a b k q)) (λr=>St s T b k a 0 r.2/\g r.1) (PP (b+s.length)):=by
 refine bV (F:=λn=>fe n j (H s T a b k q)) hm λm hm=>?_
 show Ev (λi=>kX (m i) (R (m i)) j (H s T a b k q)) _ _
 unfold kX
 have hl:=hC.pJ
 have I1:=hC.next h0 ht hk
 refine mo hm hC h0 h1 λa2 t2 h2 h3 ht2 h4 e2=>?_
 have e2:=e2 t ht (λ_=>ON)
 subst e2
 rw[ht] at ht2;cases ht2
 dsimp only
 refine vo hm hC aD h3 λa5 t5 v h9 yM _ LB _ Og Ji=>?_
 have e5:=LB t ht h4
 subst e5
 dsimp only
 refine xA hC aD h3 aD aD λu _=>?_
 dsimp only
 have hd0:g (aK.mk 0 0 [] [] [] [] [] [] [] [] v):=.new bm bm bm bm bm bm bm
 refine bD (λw=>St s T b k a5 0 w.1/\g w.2) (λw hw=>aj ⟨hw.1,hw.2⟩) (λjj hj=>?_)
 refine bD (λ_=>True) (λw _=>?_) (λj2 xI=>?_)
 ·refine ay (λ_=>?_) (λ_=>?_)
  ·exact FQ (ih.field hm aD h3 hq hd0 ht hk ON aD) λx a6 q6 S7 P5 P6 hx=>hj _ ⟨⟨a6,q6,rfl,S7,P5,P6⟩,hx⟩
  refine OM hm hC aD h3 λa6 r S7 P5 e6 hp=>?_
  have e6:=e6 t ht h4
  subst e6
  dsimp only
  refine ay (λhr=>?_) (λ_=>?_)
  ·exact FQ (ih.pattern hm aD h3 hq hd0 (hp hr) aD) λx a6 q6 S7 P5 P6 hx=>hj _ ⟨⟨a6,q6,rfl,by omega,P5,P6⟩,hx⟩
  refine C7 λr _ _=>ay (λ_=>?_) (λ_=>?_)
  ·refine bD (λp=>p=H s T a6 b k q) (λp hp=>?_) (λj3 hj3=>?_)
   ·subst hp
    dsimp only
    refine aF (Jn hm hC aD I1 aD λa7 x Wo OO=>?_)
    dsimp only
    refine sv hm hC aD OO aD λa8 t8 S9 Mp _ _ _ _=>lY (ih.expr hm aD Mp hq aD) λx a9 q9 h20 h21 hq9 hx=>?_
    exact hj _ acD
   ·exact acv
  refine sG λr _ _=>ay (λ_=>?_) (λ_=>?_)
  ·refine bD (λp=>p=H s T a6 b k q) (λp hp=>?_) (λj3 hj3=>?_)
   ·subst hp
    dsimp only
    exact aF (hj _ ⟨⟨a6+1,q,rfl,by omega,by omega,hq⟩,.new bm bm bm bm bm bm bm⟩)
   ·exact acv
  refine C7 λr _ _=>ay (λ_=>?_) (λ_=>?_)
  ·refine aF (lY (ih.expr hm aD I1 hq aD) λx a9 q9 h20 h21 hq9 hx=>?_)
   exact ahn
  refine C7 λr _ _=>ay (λ_=>?_) (λ_=>?_)
  ·refine aF (RT hm hC aD I1 aD λa7 nm Wo OO=>?_)
   dsimp only
   refine C8 hm hC aD OO aD λa8 S9 Mp=>lY (ih.expr hm aD Mp hq aD) λx a9 q9 h20 h21 hq9 hx=>?_
   exact ahn
  refine sG λr _ _=>ay (λ_=>?_) (λ_=>?_)
  ·exact FQ (ih.Wn hm aD h3 hq hd0 aD) λx a6 q6 S7 P5 P6 hx=>hj _ ⟨⟨a6,q6,rfl,by omega,P5,P6⟩,hx⟩
  ·exact lY (ih.expr hm aD h3 hq aD) λx a9 q9 h20 h21 hq9 hx=>hj _ acD
 ·refine KZ hm λr _=>ay (λ_=>Hb hm bm λr _=>xI _ trivial) (λ_=>xI _ trivial)
end
end
section
variable {s:ByS} {T:List aB} {K:Nat} {m:Nat->Nat}
def Ê (hC:PC s T b) (hm:bN m) (h0:0<=a) (h1:a<T.length) (hq:QS q) {lead:List ByS} (S8:(lead.length:Int)<=a+1) (IQ:∀ x,x∈lead->x.length<=65536)
  (Hd:∀ {m:Nat->Nat} {a':Int} {q:Option ak} {t:aB},bN m->a<=a'->a'<T.length->QS q->T[a'.toNat]?=some t->t.an≠0->t.an≠7->Ev (λi=>fe (m i) j (H s T a' b k q)) (λr=>St s T b k a' 0 r.2/\g r.1) (PP (b+s.length))) :
  Ev (λi=>iv (m i) lead j (H s T a b k q)) (λr=>St s T b k a 0 r.2.2/\r.1.length<=70000/\(∀ d,d∈r.1->g d)/\r.2.1.length<=70000/\∀ x,x∈r.2.1->x.length<=65536) (PP (b+s.length)):=by
 unfold iv oz jU tG
 have hl:=hC.pJ
 refine bR hm (λ(x:D×(List ByS)×(List aK)×Int×Bool)=>St s T b k a 0 x.1/\(x.2.1.length:Int)<=x.1.bB+1/\(∀ z,z∈x.2.1->z.length<=65536)/\(x.2.2.1.length:Int)<=x.1.bB+(if x.2.2.2.2 then 0 else 1)/\(∀ d,d∈x.2.2.1->g d)/\x.2.2.2.1<=x.1.bB/\(0<x.2.2.2.1->1<=x.2.2.1.length))
  (λx=>2*(T.length - x.1.bB).toNat+(if x.2.2.2.2 then 1 else 0)) ⟨⟨a,q,rfl,aD,aD,hq⟩,eZ,IQ,rI,bm,eZ,bm⟩ ?_
 rintro ⟨p,lead,out,e,sep⟩ ⟨⟨a1,q1,hp,h2,h3,hq1⟩,i1,i2,i3,i4,i5,i6⟩ next hn
 dsimp only at hp i1 i2 i3 i4 i5 i6;subst hp;dsimp only at hn i1 i3 i5 ⊢
 have ho3:out.length<=70000:=by cases sep<;>simp at i3<;>omega
 refine aa7 hm hC aD aD λa2 t r h4 h5 ht hr h7=>?_
 dsimp only
 refine df (λhrf=>?_) (λ_=>aj ⟨⟨a2,q1,rfl,aD,aD,hq1⟩,ho3,i4,eZ,i2⟩)
 have F2:=hr hrf
 have I1:=hC.next aD ht F2
 have htt:=(hC.tok ht).2.2.2.1
 refine mo hm hC aD h5 λa3 t3 h8 h9 ht3 yM e3=>?_
 have e3:=e3 t ht h7
 subst e3
 rw[ht] at ht3;cases ht3
 dsimp only
 refine bD (λv=>v=false->t.an≠7) (λv hv=>?_) (λj1 hj1=>?_)
 ·refine ay (λ_=>?_) (λhvf=>?_)
  ·refine aF (hn _ ⟨ZA,eZ,i2,?_,i4,eZ,i6⟩ ?_)
   ·dsimp only;cases sep<;>simp at i3 ⊢<;>omega
   ·dsimp only;cases sep<;>simp<;>omega
  have ON:=hv hvf
  refine bD (λv=>v.1=H s T a3 b k q1/\(v.2=true->0<e)) (λv hv=>?_) (λj2 xI=>?_)
  ·obtain ⟨p,w⟩:=v
   obtain ⟨hp,hw⟩:=hv
   dsimp only at hp hw;subst hp;dsimp only
   refine ay (λhwt=>?_) (λ_=>?_)
   ·have ho:=i6 (hw hwt)
    have ho2:(out.length:Int)<=65540:=by cases sep<;>simp at i3<;>omega
    refine aF (W λx hx=>?_)
    have hxd:=i4 x (aP hx)
    refine aF (hn _ ⟨ZA,eZ,i2,?_,λd hd=>?_,eZ,λ_=>by simpa using ho⟩ ?_)
    ·dsimp only;cases sep<;>simp at i3 ⊢<;>omega
    ·dsimp only at hd
     rcases pR hd with w|w
     ·exact i4 d w
     ·subst w;exact aca
    ·dsimp only;cases sep<;>simp<;>omega
   ·refine bD (λv=>v.1=H s T a3 b k q1) (λv hv=>?_) (λj3 hj3=>?_)
    ·obtain ⟨p,w⟩:=v
     dsimp only at hv;subst hv;dsimp only
     refine ay (λ_=>?_) (λ_=>?_)
     ·refine aF (aF (hn _ ⟨ZA,rI,λz hz=>?_,?_,i4,eZ,i6⟩ ?_))
      ·rcases bL.1 hz with w|w
       ·exact i2 z w
       ·simp at w;subst w;exact htt
      ·dsimp only;cases sep<;>simp at i3 ⊢<;>omega
      ·dsimp only;cases sep<;>simp<;>omega
     ·refine bD (λv=>v=false->sep=true) (λv hv=>?_) (λj4 hj4=>?_)
      ·refine ay acw (λhvf=>?_)
       have hsep:=hv hvf
       subst hsep
       simp at i3
       refine lY (Hd hm aD h9 hq1 ht F2 ON) λd a4 q4 LB Og PA hd=>?_
       dsimp only
       refine aF (hn _ ⟨⟨a4,q4,rfl,aD,Og,PA⟩,rI,bm,rI,λz hz=>?_,eZ,λ_=>by simp⟩ rI)
       exact ahP
      ·refine cd (λ_=>hj4 _ bm) (λ_=>hj4 _ bm)
    ·refine cd (λ_=>?_) (λ_=>hj3 _ rfl)
     exact dJ (I0 hm hC aD h9) λr hr=>hj3 _ hr
  ·refine cd (λ_=>aS (λhe=>?_) (λ_=>xI _ JG)) (λ_=>xI _ JG)
   exact dJ (H6 hm hC aD h9 aD aD) λr hr=>xI _ ⟨hr,λ_=>by omega⟩
 ·refine cd (λ_=>hj1 _ bm) (λON=>sG λr _ _=>hj1 _ λ_=>ON)
def Ë (hC:PC s T b) (hX:K1 s b):∀ K,PG s T b K:=by
 intro K
 induction K with
 | zero=>
  constructor
  all_goals (intros;(try intro _ _ _ _ _ _ _ _ _);exact aw ‹_<0› Gn)
 | succ K ih=>
  exact {
   expr:=λhm h0 h1 hq hK=>aa8 hC ih hm h0 h1 hq hK
   alt:=λhm h0 h1 hq hK=>afx hC ih hm h0 h1 hq hK
   Mo:=λhm h0 h1 hq hK=>aa9 hC ih hm h0 h1 hq hK
   bin:=λhm h0 h1 hq GD hl5 hK=>afy hC ih hm h0 h1 hq GD hl5 hK
   unary:=λhm h0 h1 hq hK=>Å hC ih hm h0 h1 hq hK
   post:=λhm h0 h1 hq hK=>aa_ hC ih hm h0 h1 hq hK
   RY:=λhm h0 h1 hq hK=>aba hC ih hm h0 h1 hq hK
   named:=λhm h0 h1 hq ht hk hK=>Ç hC ih hm h0 h1 hq ht hk hK
   K0:=λhm h0 h1 ht hk _=>X2 hC hX hm h0 h1 ht hk
   parens:=λhm h0 h1 hq hK=>X3 hC ih hm h0 h1 hq hK
   Ä:=λhm h0 h1 hq hK=>X4 hC ih hm h0 h1 hq hK
   list:=λhm h0 h1 hq hK=>abd hC ih hm h0 h1 hq hK
   block:=λhm h0 h1 hq hK=>È hC ih hm h0 h1 hq hK
   args:=λhm h0 h1 hq hK=>abb hC ih hm h0 h1 hq hK
   item:=λhm h0 h1 hq hK=>abc hC ih hm h0 h1 hq hK
   field:=λhm h0 h1 hq hd ht hk ON hK=>É hC ih hm h0 h1 hq hd ht hk ON hK
   pattern:=λhm h0 h1 hq hd hp hK=>TW hC ih hm h0 h1 hq hd hp hK
   Wn:=λhm h0 h1 hq hd hK=>TY hC ih hm h0 h1 hq hd hK
   decl:=λhm h0 h1 hq ht hk ON hK=>abe hC ih hm h0 h1 hq ht hk ON hK
   decls:=λ{m a k q j} hm h0 h1 hq hK=>by
    refine bV (F:=λn=>iJ n j (H s T a b k q)) hm λm hm=>?_;exact Ê (lead:=[]) hC hm h0 h1 hq rI bm λhm2 ha h2 Gs ht hk ON=>ih.decl hm2 aD h2 Gs ht hk ON aD }
end
def OQ {m:Nat->Nat} (hm:bN m) {l:List aB} (hl:l.length<=70000):Ev (λi=>fM (m i) l) (λ_=>True) dt:=by
 unfold fM;refine ai (Q:=λ_=>True) ?_ λy _=>aj trivial;unfold jo;refine bR hm (λ(x:Int)=>0<=x/\x<=l.length) (λx=>(l.length - x).toNat) aD ?_;intro x hx next hn;refine aS (λ_=>?_) pL;refine W λt _=>bI (by unfold uI;rfl) ?_;refine ay pL U6
def abf:∀ (N:Nat) {m:Nat->Nat} {x:ByS} {f:Int},bN m->x.length<N->0<=f->f+x.length<=65536->Ev (λi=>nL (m i) x f) (λr=>ij r.1) dt:=by
 intro N
 induction N with
 | zero=>intro m x f _ h;exact aw h Gn
 | succ N ih=>
  intro m x f hm hN h0 h1
  refine bV (F:=λn=>nL n x f) hm λm hm=>?_
  show Ev (λi=>sZ (m i) (R (m i)) x f) _ _
  unfold sZ
  refine ai (BM hm) λy hy=>?_
  refine kP (λ_=>aj (.leaf dN)) (λhe=>?_)
  have hT:=(hy.2.2 he).2
  have hC:PC x y.1 f:=⟨hT,h0,h1⟩
  have hX:K1 x f:=λhm2 gR h2 h3=>ih hm2 aD h2 aD
  have hl:=hC.pJ
  have hp:=hC.pos
  refine ai (OQ hm aD) λz _=>?_
  refine ay (λ_=>aj (.leaf dN)) (λ_=>?_)
  refine Ev.κ (R':=PP (f+x.length)) ?_ ?_
  ·refine lY (s:=x) (T:=y.1) (b:=f) (k:=true) (a:=0) (d:=0) (P:=ij) ((Ë hC hX _).expr hm JF aD .none ND) λe a2 q2 h2 h3 Gs he=>?_;dsimp only;exact mo hm hC aD aD λa3 t h4 h5 _ _ _=>aj he
  ·rintro p ⟨v,rfl,_,_⟩;refine Ev.HU ?_;unfold wg;exact aj (.leaf dN)
def TZ {s:ByS} {b:Int} (h1:b+s.length<=65536):K1 s b:=λhm h h2 h3=>abf _ hm ND h2 aD
section
section
variable {m:Nat->Nat}
variable {l:List Bool}
def Mq (hm:bN m) {x:Bool} (hl:l.length<=70000):Ev (λi=>mP (m i) l x) (λ_=>True) dt:=by
 unfold mP;refine ai (Q:=λ_=>True) ?_ λy _=>aj trivial;unfold rz;refine bR hm (λ(x:Int)=>0<=x/\x<=l.length) (λx=>(l.length - x).toNat) aD ?_;intro x hx next hn;refine aS (λ_=>?_) pL;refine W λt _=>ay pL U6
def EO (hm:bN m) (hl:l.length<=70000):Ev (λi=>aQ (m i) l p) (λ_=>True) dt:=by
 unfold aQ;refine ay pL (λ_=>ai (Mq hm hl) λy _=>aj trivial)
def Xd (hm:bN m) {l:ma}:Ev (λi=>qb (m i) l) (λ_=>True) dt:=by
 unfold qb;refine ai Th λy _=>ay (λ_=>ai Th λy _=>ay pL pL) pL
def EF (hm:bN m) {l:List ByS} (hl:l.length<=70000) (hs:∀ x,x∈l->x.length<=65536):Ev (λi=>ls (m i) l) (λ_=>True) dt:=by
 unfold ls k8;refine ai (Q:=λ_=>True) ?_ λy _=>aj trivial;refine ai (Q:=λ_=>True) ?_ λy _=>aj trivial;unfold mR;refine bR hm (λ(x:Int)=>0<=x/\x<=l.length) (λx=>(l.length - x).toNat) aD ?_;intro x hx next hn;refine aS (λ_=>?_) pL;refine W λt ht=>?_;have:=hs t (aP ht);refine ai (Q:=λ_=>True) ?_ λy _=>ay pL U6;unfold sf;exact ai (D1 aD) λy _=>aj trivial
def Qc (hm:bN m) {a b:ByS} (hb:b.length<=60000):Ev (λi=>jZ (m i) a b) (λ_=>True) dt:=by
 unfold jZ;refine ay (λ_=>?_) pL;exact ai (KP bm aD) λy hy=>ai (qP hm aD) λz _=>aj trivial
def Vd {l:ma}:Ev (λ_=>vE l) (λ_=>True) dt:=aj trivial
def OR (hm:bN m):Ev (λi=>iZ (m i) e p) (λ_=>True) dt:=by
 unfold iZ uD;refine ai Th λy _=>ai DZ λy _=>?_;refine ay (λ_=>ai Vd λy _=>ai DZ λy _=>aj trivial) (λ_=>?_);refine ay YZ (λ_=>?_);refine bD (λ_=>True) (λv _=>ay YZ YZ) (λj hj=>?_);exact Ř
def abg (hm:bN m):Ev (λi=>lR (m i) e p) (λ_=>True) dt:=by
 unfold lR;have M:∀ {l:List Bool},l.length<=70000->Ev (λi=>ag (aQ (m i) l p) λy=>.ok y) (λ_=>True) dt:=λh=>ai (EO hm h) λy _=>aj trivial;refine bD (λ_=>True) (λv _=>?_) (λj hj=>?_)
 ·refine ay pL (λ_=>ay Td (λ_=>?_));refine bD (λ_=>True) (λv _=>?_) (λj hj=>?_)
  ·refine ay Td (λ_=>?_);refine bD (λ_=>True) (λv _=>?_) (λj hj=>?_)
   ·refine ay Td (λ_=>ay U7 (λ_=>ay Td U7))
   exact Ř
  exact Ř
 exact Ř
def abh (hm:bN m):Ev (λi=>lS (m i) e p) (λ_=>True) dt:=by
 unfold lS;have M:∀ {l:List Bool},l.length<=70000->Ev (λi=>ag (aQ (m i) l p) λy=>.ok y) (λ_=>True) dt:=λh=>ai (EO hm h) λy _=>aj trivial;refine bD (λ_=>True) (λv _=>?_) (λj hj=>?_)
 ·refine ay pL (λ_=>?_);refine ay ő (λ_=>?_);refine ay ő (λ_=>?_);refine ay ő (λ_=>?_);refine ay ő (λ_=>?_);refine ay (λ_=>ai Th λy _=>M bm) Td
 exact Ř
def afz (hm:bN m) (he:ij e) {bB:cm}:Ev (λi=>mE (m i) e bB p) (λ_=>True) dt:=by
 unfold mE jg;have M:∀ {l:List Bool} {p:V},l.length<=70000->Ev (λi=>ag (aQ (m i) l p) λy=>.ok y) (λ_=>True) dt:=λh=>ai (EO hm h) λy _=>aj trivial;have h2:=he.l2;have h3:=he.l3;refine bD (λ_=>True) (λv _=>?_) (λj hj=>?_)
 ·refine ai (abg hm) λy _=>ai (abh hm) λy _=>?_;refine bD (λ_=>True) (λv _=>?_) (λj hj=>ay (λ_=>hj _ trivial) (λ_=>hj _ trivial));refine bD (λ_=>True) (λv _=>?_) (λj hj=>?_)
  ·refine bD (λ_=>True) (λv _=>?_) (λj hj=>?_)
   ·refine bD (λ_=>True) (λv _=>?_) (λj hj=>?_)
    ·refine bD (λ_=>True) (λv _=>?_) (λj hj=>?_)
     ·exact ay U7 U7
     exact ay (λ_=>ay P8 P8) (λ_=>ay P8 P8)
    exact ahC
   refine ay (λ_=>ai (OR hm) λy _=>aj trivial) (λ_=>?_);refine bD (λ_=>True) (λv _=>?_) (λj2 xI=>ay (λ_=>xI _ trivial) (λ_=>xI _ trivial));refine ay (λ_=>ay P8 P8) (λ_=>?_);exact ay (λ_=>ai AN λy _=>ai DZ λy _=>hj _ trivial) P8
  refine ay (λ_=>ai (EF hm h3 he.l4) λy _=>ai DZ λy _=>hj _ trivial) (λ_=>?_);refine aF (ai (EF hm h3 he.l4) λy _=>ai DZ λy _=>hj _ trivial)
 exact ay P8 P8
end
structure SG (N:Nat):Prop where
 e:∀ {m:Nat->Nat} {x:ak} {bB:cm} {p:V},bN m->ij x->2*SizeOf.sizeOf x<N->Ev (λi=>bS (m i) x bB p) (λ_=>True) dt
 d:∀ {m:Nat->Nat} {x:aK} {t:Bool} {l:Int} {p:V},bN m->g x->2*SizeOf.sizeOf x<N->Ev (λi=>gm (m i) x t l p) (λ_=>True) dt
variable {m:Nat->Nat}
def No {N:Nat} (ih:SG N) (hm:bN m) {l:List aK} {t:Bool} {lv:Int} (hl:l.length<=70000) (hs:∀ x,x∈l->g x/\2*SizeOf.sizeOf x<N):Ev (λi=>fq (m i) l t lv p) (λ_=>True) dt:=by
 refine bV (F:=λn=>fq n l t lv p) hm λm hm=>?_;show Ev (λi=>jO (m i) (cI (m i)) l t lv p) _ _;unfold jO;refine bR hm (λ(x:V×Int)=>0<=x.2/\x.2<=l.length) (λx=>(l.length - x.2).toNat) bm ?_;intro x hx next hn;refine aS (λ_=>?_) pL;refine W λd hd=>?_;have:=hs d (aP hd);exact ai (ih.d hm this.1 this.2) λy _=>aF (hn _ eZ eZ)
def afA:∀ N,SG N:=by
 intro N
 induction N with
 | zero=>exact ⟨λ_ _ h=>aw h Gn,λ_ _ h=>aw h Gn⟩
 | succ N ih=>
  refine ⟨?_,?_⟩
  ·intro m x bB p hm he hN;have hls:=he.l1;have hld:=he.l2;refine bV (F:=λn=>bS n x bB p) hm λm hm=>?_;show Ev (λi=>kq (m i) (cI (m i)) x bB p) _ _;unfold kq;refine bD (λ_=>True) (λv _=>?_) ace;refine ai (afz hm he) λy _=>?_;refine bR hm (λ(w:V×Int)=>0<=w.2/\w.2<=x.bF.length) (λw=>(x.bF.length - w.2).toNat) bm ?_;intro w hw next hn;refine aS (λ_=>?_) (λ_=>?_)
   ·refine bD (λ_=>True) (λv _=>aF (hn _ eZ eZ)) (λj hj=>?_);refine W λz hz=>?_;have hzm:=aP hz;have MT:=Qd hzm;have hE:∀ {bB:cm} {p:V},Ev (λi=>bS (m i) z bB p) (λ_=>True) dt:=ih.e hm (he.s z hzm) aD;have hB:∀ {bB:cm} {p:V},Ev (λi=>ag ((cI (m i)).bS z bB p) λy=>j i y) (λ_=>True) dt:=ai hE λy _=>hj _ trivial;have hG:Ev (λi=>aG.br (x.an==14) (aG.br (x.U==0) (.ok p) (.ok p)) (.ok p)) (λ_=>True) dt:=ay (λ_=>ay pL pL) pL;refine ay (λ_=>ay adR adR)
     adR
   exact ai (No ih hm hld λd hd=>⟨he.d d hd,by have:=Y1 hd;omega⟩) λy _=>aj trivial
  ·intro m x t l p hm he hN;have hls:=he.l1;have hlb:=he.l2;have gR:=he.l3;refine bV (F:=λn=>gm n x t l p) hm λm hm=>?_;show Ev (λi=>je (m i) (cI (m i)) x t l p) _ _;unfold je uD;refine bD (λ_=>True) (λv _=>?_) ace;refine bD (λ_=>True) (λv _=>?_) (λj hj=>cd (λ_=>hj _ trivial) (λ_=>hj _ trivial));refine bD (λ_=>True) (λv _=>?_) (λj hj=>aS P8 P8);refine bD (λ_=>True) (λv _=>?_) (λj hj=>?_)
   ·refine bD (λ_=>True) (λv _=>?_) (λj hj=>?_)
    ·refine bD (λ_=>True) (λv _=>?_) (λj hj=>?_)
     ·refine bD (λ_=>True) (λv _=>?_) (λj hj=>?_)
      ·refine bD (λ_=>True) (λv _=>?_) (λj hj=>ay (λ_=>hj _ trivial) (λ_=>ay (λ_=>hj _ trivial) (λ_=>hj _ trivial)));refine ai DZ λy _=>?_;refine bD (λ_=>True) (λv _=>?_) (λj hj=>ay (λ_=>hj _ trivial) (λ_=>ay (λ_=>hj _ trivial) (λ_=>ay (λ_=>hj _ trivial) (λ_=>hj _ trivial))));refine bR hm (λ(w:V×Int)=>0<=w.2/\w.2<=x.bF.length) (λw=>(x.bF.length - w.2).toNat) bm ?_;intro w hw next hn;refine aS (λ_=>?_) (λ_=>?_)
       ·refine W λz hz=>?_;have hzm:=aP hz;have MT:=ab1 hzm;have hB:∀ {bB:cm} {p:V},Ev (λi=>ag ((cI (m i)).bS z bB p) λy=>aG.gd (cD (w.2+1)) (next i (y,w.2+1))) (λ_=>True) dt:=
         ai (ih.e hm (he.s z hzm) aD) λy _=>aF (hn _ eZ eZ)
        exact ay (λ_=>ay (λ_=>hB) (λ_=>hB)) (λ_=>hB)
       exact ai (No ih hm hlb λd hd=>⟨he.d d hd,by have:=afw hd;omega⟩) λy _=>aj trivial
      exact ahC
     refine ay (λ_=>hj _ trivial) (λ_=>ay (λ_=>ai (wJ hm) λy _=>ai DZ λy _=>hj _ trivial) (λ_=>?_));refine ay (λ_=>ai Th λy _=>ai DZ λy _=>hj _ trivial) (λ_=>?_);exact ay P8 P8
    exact ay (λ_=>aS P8 P8) P8
   refine ai (EF hm he.l5 he.l6) λy _=>ai (EF hm gR he.l4) λy _=>ai (EF hm bm (by simpa using he.l7)) λy _=>?_;exact ay P8 (λ_=>aF (ai DZ λy _=>hj _ trivial))
def Ì:Ev (λ_=>kZ p) (λ_=>True) dt:=by
 unfold kZ;exact ay pL (λ_=>ay pL pL)
def OS (hm:bN m) (he:ij e):Ev (λi=>n8 (m i) e) (λ_=>True) dt:=by
 unfold n8;exact ai ((afA _).e hm he ND) λy _=>ai Ì λy _=>aj trivial
end
section
variable {m:Nat->Nat}
def X5:ak:=ak.mk 0 [] 0 [] [] [] [] [] 0
variable {s:ByS}
def K2 (hm:bN m):Ev (λi=>tJ (m i) s) (λr=>0<=r.2.At/\r.2.At<=s.length/\(r.2.dX=0->r.2.At=0/\ij r.1)/\(r.2.dX≠0->r.1=X5)) dt:=by
 unfold tJ;refine ai (BM hm) λy hy=>?_;refine kP ag3 (λhe=>?_);have hT:=(hy.2.2 he).2;have hC:PC s y.1 0:=⟨hT,bm,by have:=hT.big;omega⟩;have hX:K1 s 0:=TZ hC.bs;have hp:=hC.pos;have hl:=hC.pJ;refine Ev.κ (R':=PP (0+s.length)) ?_ ?_
 ·refine lY (s:=s) (T:=y.1) (b:=0) (k:=false) (a:=0) (d:=0) (P:=ij) ((Ë hC hX _).expr hm JF aD .none ND) λe a2 q2 h2 h3 Gs he=>?_;dsimp only;refine bD (λv=>∃ a',v=H s y.1 a' 0 false q2/\0<=a'/\a'<y.1.length) (λv hv=>?_) (λj hj=>?_)
  ·obtain ⟨a3,rfl,h4,h5⟩:=hv;refine bD (λ_=>True) (λv _=>?_) (λj hj=>?_)
   ·refine dJ (OS hm he) λz _=>?_;refine ay (λ_=>aj ⟨bm,bm,bm,λ_=>rfl⟩) (λ_=>aj ⟨bm,bm,λ_=>⟨rfl,he⟩,bm⟩)
   refine mo hm hC h4 h5 λa4 t h6 h7 _ _ _=>?_;dsimp only;exact kP ag8 (λ_=>hj _ trivial)
  refine mo hm hC aD aD λa4 t h6 h7 ht _ _=>?_;dsimp only;refine cd (λhk=>?_) (λ_=>hj _ ⟨a4,rfl,aD,h7⟩);have I1:=hC.next aD ht aD;exact aF (hj _ ⟨a4+1,rfl,by omega,I1⟩)
 rintro p ⟨v,rfl,h1,h2⟩;refine Ev.HU ?_;unfold rp p9;exact aj ⟨h1,rI,bm,λ_=>rfl⟩
end
end Go.Abs
namespace Go.Abs
variable {r r' u u' o s c:ByS} {p:Nat->UInt8->Bool} {i n a b:Nat}
def run (p:Nat->UInt8->Bool):Nat->ByS->Nat
 | _,[]=>0
 | i,b::u=>if p i b then 1+run p (i+1) u else 0
def BN:∀ {u:ByS} {i:Nat},run p i u<=u.length
 | [],_=>by simp[run]
 | b::u,i=>by
  simp only[run];split
  ·have:=BN (u:=u) (i:=i+1);simp;omega
  simp
def BO:∀ {u:ByS} {i j:Nat},j<run p i u->∃ b,u[j]?=some b/\p (i+j) b=true
 | [],_,_,h=>by simp[run] at h
 | b::u,i,j,h=>by
  simp only[run] at h;split at h
  ·rename_i hb;cases j with
   | zero=>exact ⟨b,rfl,hb⟩
   | succ j=>
    obtain ⟨c,h1,h2⟩:=BO (u:=u) (i:=i+1) (j:=j) aD
    exact ⟨c,Fz,by rw[<- h2];congr 1;omega⟩
  omega
def yH:∀ {u:ByS} {i:Nat} {b:UInt8},u[run p i u]?=some b->p (i+run p i u) b=false
 | [],_,_,h=>by simp at h
 | c::u,i,b,h=>by
  simp only[run] at h ⊢;split at h
  ·rename_i hb;rw[aL hb];rw[show 1+run p (i+1) u=run p (i+1) u+1 by omega] at h ⊢;have:=yH (u:=u) (i:=i+1) (b:=b) jk;rw[<- this];congr 1;omega
  rename_i hb;rw[aC hb];simp at h;subst h;simpa using hb
def run_eq (h1:∀ j,j<n->∃ b,u[j]?=some b/\p (i+j) b=true) (h2:∀ b,u[n]?=some b->p (i+n) b=false):run p i u=n:=by
 rcases Nat.lt_trichotomy (run p i u) n with h|h|h
 ·obtain ⟨b,h3,h4⟩:=h1 _ h;rw[yH h3] at h4;cases h4
 ·exact h
 obtain ⟨b,h3,h4⟩:=BO h;rw[h2 b h3] at h4;cases h4
def Bk (o:Option UInt8):Prop:=o=none\/o=some 32\/o=some 9\/o=some 10
def LA (r r':ByS):Prop:=∀ j:Nat,(∀ i:Nat,i<j->r'[i]?=r[i]?/\¬ Bk r'[i]?)->r'[j]?=r[j]?\/Bk r'[j]?
def RZ {j:Nat} (h:j<c.length):(c++r')[j]?=(c++r)[j]?:=by
 rw[fE h,fE h]
def Nq:(c++r)[c.length]?=r[0]?:=by rw[ga aD];simp
def Í:(c++r)[c.length+1]?=r[1]?:=by rw[ga aD];simp
def LA.run (h:LA r r') (hp:∀ i,p i 32=false/\p i 9=false/\p i 10=false) (hc:run p i (c++r)<=c.length):run p i (c++r')=run p i (c++r):=by
 refine run_eq (λj hj=>?_) λb hb=>?_
 ·obtain ⟨b,h1,h2⟩:=BO hj;exact ⟨b,by rw[RZ (r:=r) aD];exact h1,h2⟩
 rcases fA (Go.Abs.run p i (c++r)) c.length with q|q
 ·rw[RZ (r:=r) q] at hb;exact yH hb
 have e:Go.Abs.run p i (c++r)=c.length:=by omega
 rw[e,Nq] at hb;rw[e];rcases h 0 Zb with q|q|q|q|q
 ·rw[q] at hb;have:=yH (p:=p) (u:=c++r) (i:=i) (b:=b) (by rw[e,Nq];exact hb);rwa [e] at this
 ·rw[q] at hb;cases hb
 ·rw[q] at hb;cases hb;exact (hp _).1
 ·rw[q] at hb;cases hb;exact (hp _).2.1
 rw[q] at hb;cases hb;exact (hp _).2.2
def Mr (b:UInt8):Bool:=(decide (97<=b)&&decide (b<=122))||(decide (65<=b)&&decide (b<=90))||b==95
def xF (b:UInt8):Bool:=decide (48<=b)&&decide (b<=57)
def pW (i:Nat) (b:UInt8):Bool:=Mr b||(decide (0<i)&&xF b)||(decide (i=0)&&b==35)
def pD (_:Nat) (b:UInt8):Bool:=xF b
def pC (_:Nat) (b:UInt8):Bool:=b !=10
def Î (i:Nat):pD i 32=false/\pD i 9=false/\pD i 10=false:=⟨show xF 32=false by decide,show xF 9=false by decide,show xF 10=false by decide⟩
def qe (u:ByS):Nat:=
 if run pW 0 u=1/\(u[0]?=some 35\/u[0]?=some 95) then 0 else run pW 0 u
def zI (u:ByS) (a:Nat):Bool:=u[a]?==some 46&&(match u[a+1]? with|some d=>xF d|none=>false)
def EG (u:ByS):Nat:=
 if zI u (run pD 0 u)=true then run pD 0 u+1+run pD 0 (u.drop (run pD 0 u+1)) else run pD 0 u
def pK:ByS->Option (Nat×Bool)
 | []=>none
 | [b]=>if b=34 then some (1,false) else none
 | b::d::u=>if b=34 then some (1,false) else if b=92 then (pK u).map λx=>(x.1+2,x.2||d==40) else (pK (d::u)).map λx=>(x.1+1,x.2)
def ops:List ByS:=[[95,124,95],[46,46,46],[61,61],[33,61],[60,61],[62,61],[61,126],[33,126],[38,38],[124,124],[95],[40],[41],[91],[93],[123],[125],[58],[44],[46],[63],[33],[42],[38],[124],[61],[60],[62],[43],[45],[47],[37]]
def K3 (u:ByS):ByS:=(ops.find? λo=>o.isPrefixOf u).getD []
def ext (u:ByS):Option (Nat×Nat):=
 if [47,47].isPrefixOf u=true then some (6,run pC 0 u) else
 if 0<qe u then some (1,qe u) else
 match u with
 | []=>none
 | c::w=>if xF c=true then some (2,EG u) else if c=34 then (pK w).map λx=>(3,x.1+1) else if K3 u=[] then none else some (5,(K3 u).length)
def R1:qe u<=run pW 0 u:=by unfold qe;split<;>omega
def Ï (h:LA r r') (ha:a<=c.length) (hd:a+1<c.length\/zI (c++r) a=false):zI (c++r') a=zI (c++r) a:=by
 by_cases q:a+1<c.length
 ·unfold zI;rw[RZ (r:=r) aD,RZ (r:=r) q]
 have hd:zI (c++r) a=false:=hd.resolve_left q;rw[hd];cases e:zI (c++r') a with
 | false=>rfl
 | true=>
  exfalso
  have e2:=e
  unfold zI at e hd
  simp only[bk,cn] at e
  obtain ⟨e1,e3⟩:=e
  by_cases q2:a<c.length
  ·have e4:a+1=c.length:=by omega
   rw[RZ (r:=r) q2] at e1;rw[e1,e4,Nq] at hd;rw[e4,Nq] at e3;rcases h 0 Zb with w|w|w|w|w
   ·rw[w] at e3;simp[e3] at hd
   ·rw[w] at e3;cases e3
   all_goals (rw[w] at e3;revert e3;decide)
  ·have e4:a=c.length:=by omega
   subst e4;rw[Nq] at e1;rw[Í] at e3;have w0:r'[0]?=r[0]?:=by
    rcases h 0 Zb with w|w|w|w|w
    ·exact w
    all_goals (rw[w] at e1;cases e1)
   rw[Nq,Í,<- w0,e1] at hd;rcases h 1 (λi hi=>by
    obtain rfl:i=0:=by omega
    exact ⟨w0,by rw[e1];simp[Bk]⟩) with w|w|w|w|w
   ·rw[w] at e3;simp[e3] at hd
   ·rw[w] at e3;cases e3
   all_goals (rw[w] at e3;revert e3;decide)
def afB (h:LA r r') (hc:EG (c++r)=c.length):EG (c++r')=c.length:=by
 unfold EG at hc ⊢;split at hc
 ·rename_i hd;have e1:=h.run (p:=pD) (i:=0) (c:=c) Î aD;have e2:=Ï h (c:=c) (a:=run pD 0 (c++r)) aD (by
   have:(c++r)[run pD 0 (c++r)+1]?≠none:=by
    intro q;unfold zI at hd;rw[q] at hd;simp at hd
   by_cases w:run pD 0 (c++r)+1<c.length
   ·exact .inl w
   exfalso;have e3:run pD 0 ((c++r).drop (run pD 0 (c++r)+1))=0:=by omega
   have GW:(match (c++r)[run pD 0 (c++r)+1]? with|some d=>xF d|none=>false)=true:=by
    unfold zI at hd;simp only[bk] at hd;exact hd.2
   cases e4:(c++r)[run pD 0 (c++r)+1]? with
   | none=>exact this e4
   | some d=>
    rw[e4] at GW
    have:=yH (p:=pD) (i:=0) (u:=(c++r).drop (run pD 0 (c++r)+1)) (b:=d) (by rw[e3,dz];exact e4)
    simp[pD,GW] at this)
  rw[e1,aL (e2.trans hd)];generalize ha:run pD 0 (c++r)=a at hc;rw[nN aD] at hc ⊢;have:=h.run (p:=pD) (i:=0) (c:=c.drop (a+1)) Î rI;omega
 rename_i hd;have e1:=h.run (p:=pD) (i:=0) (c:=c) Î aD;have e2:=Ï h (c:=c) (a:=run pD 0 (c++r)) aD (.inr (by simpa using hd));rw[e1,e2,aC hd,hc]
def T0:∀ {u:ByS} {x:Nat×Bool},pK u=some x->x.1<=u.length
 | [],_,h=>by cases h
 | [b],x,h=>by
  simp only[pK] at h;split at h
  ·cases h;simp
  cases h
 | b::d::u,x,h=>by
  simp only[pK] at h;split at h
  ·cases h;simp
  split at h
  ·cases e:pK u with
   | none=>rw[e] at h;cases h
   | some y=>rw[e] at h;cases h;have:=T0 e;simp;omega
  cases e:pK (d::u) with
  | none=>rw[e] at h;cases h
  | some y=>rw[e] at h;cases h;have:=T0 e;simp at this ⊢;omega
def abi {x:Nat×Bool} (h:pK u=some x):0<x.1:=by
 match u,h with
 | [],h=>cases h
 | [b],h=>
  simp only[pK] at h
  split at h
  ·cases h;simp
  ·cases h
 | b::d::u,h=>
  simp only[pK] at h
  split at h
  ·cases h;simp
  split at h
  ·cases e:pK u with
   | none=>rw[e] at h;cases h
   | some y=>rw[e] at h;cases h;simp
  ·cases e:pK (d::u) with
   | none=>rw[e] at h;cases h
   | some y=>rw[e] at h;cases h;simp
def OT:∀ {o u:ByS},o.isPrefixOf u=true↔∀ i,i<o.length->u[i]?=o[i]?
 | [],u=>by simp
 | a::o,[]=>by
  simp only[List.isPrefixOf,fm,false_iff];intro h;have:=h 0 bm;simp at this
 | a::o,b::u=>by
  rw[List.isPrefixOf_cons_cons,bk,OT];constructor
  ·rintro ⟨h1,h2⟩ i hi;cases i with
   | zero=>simp at h1;simp[h1]
   | succ i=>simpa using h2 i FA
  intro h;refine ⟨by have:=h 0 bm;simp at this;simp[this],λi hi=>by simpa using h (i+1) FA⟩
def isB (b:UInt8):Prop:=b=32\/b=9\/b=13\/b=10
end Go.Abs
namespace Go.Abs
open aG
variable {α β γ δ:Type} {s u x:ByS} {n:Nat} {a v j a' en ea:Int} {t:aB} {b:UInt8} {p:Prop} {k:Bool} {q:Option ak}
section
def qV:∀ (p s:ByS),p.isPrefixOf s=(s.take p.length==p)
 | [],s=>by simp
 | a::p,[]=>by simp
 | a::p,b::s=>by
  rw[List.isPrefixOf_cons_cons,qV p s];simp only[jI,nQ];rw[cV];simp;exact λ_=>⟨λh=>h.symm,λh=>h.symm⟩
def zJ (s p:ByS):strings_HasPrefix s p=.ok (p.isPrefixOf s):=by
 unfold strings_HasPrefix stringslite_HasPrefix;rw[qV];by_cases h:p.length<=s.length
 ·have e:decide ((s.length:Int)>=(p.length:Int))=true:=by simp;omega
  rw[e];simp only[aG.br,aG.gd];rw[aL ⟨aD,aD⟩];simp[ag,sd]
 have e:decide ((s.length:Int)>=(p.length:Int))=false:=by simp;omega
 rw[e];simp only[aG.br,ag];congr 1;symm;apply beq_eq_false_iff_ne.2;intro q;have:=iy List.length q;simp at this;omega
variable {a:UInt8}
def adl:a<=b↔(a.toNat:Int)<=(b.toNat:Int):=by rw[UInt8.le_iff_toNat_le];omega
def Wp:a=b↔(a.toNat:Int)=(b.toNat:Int):=by
 constructor
 ·rintro rfl;rfl
 intro h;exact qX.1 aD
def T1 (b:UInt8):Mr b=(decide (97<=(b.toNat:Int)/\(b.toNat:Int)<=122)||decide (65<=(b.toNat:Int)/\(b.toNat:Int)<=90)||decide ((b.toNat:Int)=95)):=by
 unfold Mr;rw[cV];simp only[l8,bk,decide_eq_true_eq,cn,adl,Wp];exact Iff.rfl
def OU (b:UInt8):xF b=decide (48<=(b.toNat:Int)/\(b.toNat:Int)<=57):=by
 unfold xF;rw[cV];simp only[bk,decide_eq_true_eq,adl];exact Iff.rfl
def Cq (b:UInt8):k9 (b.toNat:Int)=.ok (xF b):=by
 rw[OU];unfold k9;by_cases h1:(48:Int)<=b.toNat<;>simp[h1,aG.br]
def OV (b:UInt8):Bool:=Mr b&&b !=95
def K4 (b:UInt8):ly (b.toNat:Int)=.ok (OV b):=by
 have e:OV b=(decide (97<=(b.toNat:Int)/\(b.toNat:Int)<=122)||decide (65<=(b.toNat:Int)/\(b.toNat:Int)<=90)):=by
  unfold OV;rw[T1,cV];simp only[bk,l8,decide_eq_true_eq,bne_iff_ne,ne_eq,Wp];rw[show ((95:UInt8).toNat:Int)=95 from rfl];omega
 rw[e];unfold ly;by_cases h1:(97:Int)<=b.toNat<;>by_cases h2:(b.toNat:Int)<=122<;>by_cases h3:(65:Int)<=b.toNat<;>simp[h1,h2,h3,aG.br]<;>omega
def Ð (b:UInt8):AH (b.toNat:Int)=.ok (Mr b||xF b):=by
 unfold AH;rw[K4,Cq];have:Mr b=(OV b||b==95):=by
  unfold OV;cases e:b==95 with
  | false=>simp[bne,e]
  | true=>rw[cn.1 e];rfl
 rw[this,show ((b.toNat:Int)==95)=(b==95) by rw[cV,cn,cn,Wp];exact Iff.rfl];cases OV b<;>cases xF b<;>simp[ag,aG.br]
section
variable {Q:α->Prop} {R:sT->Prop} {m:Nat->Nat} {a:Int}
def R2 {v:Int} (h0:0<=a) (hv:a<=v):(s.drop a.toNat)[(v - a).toNat]?=s[v.toNat]?:=by
 rw[dz,show a.toNat+(v - a).toNat=v.toNat by omega]
def Jo {p:Nat->UInt8->Bool} {i:Nat} (h0:0<=a) (h1:a<=s.length):a+run p i (s.drop a.toNat)<=s.length:=by
 have:=BN (p:=p) (u:=s.drop a.toNat) (i:=i);simp at this;omega
def OW {F:UInt8->aG Bool} {p:UInt8->Bool} (hF:∀ b,F b=.ok (p b)) (hm:bN m) (h0:0<=a) (ha:a<=s.length) (hs:s.length<=65536) {j:Nat->Int->aG α} (hj:Ev (λi=>j i (a+run (λ_=>p) 0 (s.drop a.toNat))) Q R) :
  Ev (λi=>aG.iter (λnext (v:Int)=>aG.br (decide (v<(List.length s:Int))) (aG.el s v λb=>ag (F b) λy=>aG.br y (aG.gd (cD (v+1)) (next (v+1))) (j i v)) (j i v)) (m i) a) Q R:=by
 have hl:=Jo (p:=λ_=>p) (i:=0) h0 ha
 refine bR hm (λv=>a<=v/\v<=a+run (λ_=>p) 0 (s.drop a.toNat)) (λv=>(s.length - v).toNat) ⟨aD,aD⟩ ?_
 intro v hv next hn
 have JV:∀ x,s[v.toNat]?=some x->p x=decide (v<a+run (λ_=>p) 0 (s.drop a.toNat)):=by
  intro x hx
  rw[<- R2 h0 hv.1] at hx
  by_cases q:v<a+run (λ_=>p) 0 (s.drop a.toNat)
  ·obtain ⟨b,h1,h2⟩:=BO (p:=λ_=>p) (u:=s.drop a.toNat) (i:=0) (j:=(v - a).toNat) aD
   rw[hx] at h1;cases h1
   rw[h2,aV q]
  ·have e:v - a=run (λ_=>p) 0 (s.drop a.toNat):=by omega
   rw[e] at hx
   have:=yH (p:=λ_=>p) (u:=s.drop a.toNat) (i:=0) (b:=x) DY
   rw[this,bA q]
 refine aS (λgR=>gL aD gR λx hx=>?_) (λFf=>?_)
 ·have:=JV x hx
  refine bI (hF x) (ay (λh=>?_) (λh=>?_))
  ·rw[h] at this
   have:=bg this.symm
   exact Qw
  ·rw[h] at this
   have:=aU this.symm
   rw[show v=a+run (λ_=>p) 0 (s.drop a.toNat) by omega]
   exact hj
 ·rw[show v=a+run (λ_=>p) 0 (s.drop a.toNat) by omega]
  exact hj
def mz (k:Int) (c:UInt8) (hc:(c.toNat:Int)=k):((b.toNat:Int)==k)=(b==c):=by
 subst hc;rw[cV,cn,cn,Wp]
def Ñ:pD=λ_=>xF:=rfl
def OY (u:ByS):Nat:=if run pD 0 u=0 then 0 else EG u
def abj:OY u<=u.length:=by
 unfold OY;split
 ·omega
 unfold EG;split
 ·rename_i h;have h2:=BN (p:=pD) (u:=u.drop (run pD 0 u+1)) (i:=0);unfold zI at h;simp only[bk,cn] at h;have:=(ao.1 h.1).1;simp at h2;omega
 exact BN
def Dp (hm:bN m) (h0:0<=a) (ha:a<=s.length) (hs:s.length<=65536):Ev (λi=>wv (m i) s a) (λr=>r=a+OY (s.drop a.toNat)) dt:=by
 unfold wv;have hl:=Jo (p:=pD) (i:=0) h0 ha;refine bD (λv=>v=a+run pD 0 (s.drop a.toNat)) (λv hv=>?_) (λj hj=>OW (p:=xF) Cq hm h0 ha hs (hj _ rfl));refine bD (λz=>z=(decide (run pD 0 (s.drop a.toNat)≠0)&&zI (s.drop a.toNat) (run pD 0 (s.drop a.toNat)))) (λz hz=>?_) (λj hj=>?_)
 ·refine ay (λh=>?_) (λh=>?_)
  ·rw[h] at hz;simp only[Bool.true_eq,bk,decide_eq_true_eq] at hz;have hd:=hz.2;unfold zI at hd;simp only[bk,cn] at hd;have:=(ao.1 hd.1).1;simp at this;refine aF (OW (p:=xF) Cq hm aD aD hs (aj ?_));unfold OY EG;rw[aC hz.1,aL hz.2,j8,hv,show (a+(run pD 0 (s.drop a.toNat):Int)+1).toNat=a.toNat+(run pD 0 (s.drop a.toNat)+1) by omega];rw[Ñ];omega
  rw[h] at hz;refine aj ?_;unfold OY EG;split
  ·omega
  rename_i h2;simp only[ne_eq,h2,not_false_eq_true,decide_true,pa] at hz;rw[aC (by rw[<- hz];simp),hv]
 subst hv;refine aS (λh=>?_) (λh=>hj _ ?_)
 ·have uv:run pD 0 (s.drop a.toNat)≠0:=by omega
  have hd:∀ (z:Bool),z=zI (s.drop a.toNat) (run pD 0 (s.drop a.toNat))->z=(decide (run pD 0 (s.drop a.toNat)≠0)&&zI (s.drop a.toNat) (run pD 0 (s.drop a.toNat))):=by
   intro z hz;rw[hz];simp[uv]
  have g0:(s.drop a.toNat)[run pD 0 (s.drop a.toNat)]?=s[(a+(run pD 0 (s.drop a.toNat):Int)).toNat]?:=by
   rw[dz];congr 1;omega
  have g1:(s.drop a.toNat)[run pD 0 (s.drop a.toNat)+1]?=s[(a+(run pD 0 (s.drop a.toNat):Int)+1).toNat]?:=by
   rw[dz];congr 1;omega
  refine aF (aS (λh2=>?_) (λh2=>hj _ (hd _ ?_)))
  ·refine W λx hx=>ay (λh3=>?_) (λh3=>hj _ (hd _ ?_))
   ·refine aF (gL aD h2 λy hy=>bI (Cq y) (hj _ (hd _ ?_)));rw[mz 46 46 rfl] at h3;unfold zI;rw[g0,g1,hx,hy,cn.1 h3];simp
   rw[mz 46 46 rfl] at h3;unfold zI;rw[g0,hx];have:(some x==some (46:UInt8))=false:=h3;rw[this];rfl
  unfold zI;rw[g1,gY (l:=s) aD];simp
 have:run pD 0 (s.drop a.toNat)=0:=by omega
 simp[this]
def ak8 (i:Nat):pW (i+1)=λb=>Mr b||xF b:=by funext b;simp[pW]
def ai2:∀ {i:Nat},run pW (i+1) u=run (λ_ b=>Mr b||xF b) 0 u:=by
 have key:∀ (u:ByS) (i j:Nat),run pW (i+1) u=run (λ_ b=>Mr b||xF b) j u:=by
  intro u
  induction u with
  | nil=>intros;rfl
  | cons b u ih=>intro i j;simp only[run,ak8,ih (i+1) (j+1)]
 exact λ{i}=>key u i 0
def K5 (hm:bN m) (h0:0<=a) (ha:a<s.length) (hs:s.length<=65536):Ev (λi=>x8 (m i) s a) (λr=>r=a+qe (s.drop a.toNat)) dt:=by
 unfold x8;obtain ⟨x,hx⟩:∃ x,s[a.toNat]?=some x:=⟨_,aA aD⟩;have hu:s.drop a.toNat=x::s.drop (a+1).toNat:=by
  rw[ao] at hx;obtain ⟨q1,q2⟩:=hx;rw[cb q1,q2,show (a+1).toNat=a.toNat+1 by omega]
 refine aF (bD (λv=>v=a+1+run (λ_ b=>Mr b||xF b) 0 (s.drop (a+1).toNat)) (λv hv=>?_) (λj hj=>?_))
 ·have hw:run pW 0 (s.drop a.toNat)=if pW 0 x=true then 1+run (λ_ b=>Mr b||xF b) 0 (s.drop (a+1).toNat) else 0:=by
   rw[hu];simp only[run,ai2]
  have hh:(s.drop a.toNat)[0]?=some x:=by rw[hu];rfl
  have hp:pW 0 x=(Mr x||x==35):=by simp[pW]
  have hlL:Mr x=(OV x||x==95):=by
   unfold OV;cases e:x==95 with
   | false=>simp[bne,e]
   | true=>rw[cn.1 e];rfl
  refine cR h0 hx (bI (K4 x) (ay (λh=>aj ?_) (λh=>?_)))
  ·have h95:x≠95:=by unfold OV at h;simp at h;exact h.2
   have XH:x≠35:=by rintro rfl;revert h;decide
   unfold qe;rw[hh,aC (by simp[h95,XH]),hw,hp,hlL,h,aL bm];omega
  refine cR h0 hx (ay (λh2=>?_) (λh2=>cR h0 hx (ay (λh3=>?_) (λh3=>aj ?_))))
  ·rw[mz 95 95 rfl,cn] at h2;have Gf:run pW 0 (s.drop a.toNat)=1+run (λ_ b=>Mr b||xF b) 0 (s.drop (a+1).toNat):=by rw[hw,hp,h2,aL dN]
   refine aF (aS (λh4=>aj ?_) (λh4=>aj ?_))
   ·unfold qe;rw[aC aD,Gf];omega
   unfold qe;rw[aL ⟨aD,.inr (by rw[hh,h2])⟩];simp
  ·rw[mz 35 35 rfl,cn] at h3;have Gf:run pW 0 (s.drop a.toNat)=1+run (λ_ b=>Mr b||xF b) 0 (s.drop (a+1).toNat):=by rw[hw,hp,h3,aL dN]
   refine aF (aS (λh4=>aj ?_) (λh4=>aj ?_))
   ·unfold qe;rw[aC aD,Gf];omega
   unfold qe;rw[aL ⟨aD,.inl (by rw[hh,h3])⟩];simp
  rw[mz 95 95 rfl] at h2;rw[mz 35 35 rfl] at h3;have Gf:run pW 0 (s.drop a.toNat)=0:=by rw[hw,hp,hlL,h,h2,h3];rfl
  unfold qe;rw[aC aD,Gf];simp
 exact OW (p:=λb=>Mr b||xF b) Ð hm aD aD hs (hj _ rfl)
def Wq {f:ByS->Bool} {v:Nat}:∀ {l:List ByS} {o:ByS},(∀ i p,i<v->l[i]?=some p->f p=false)->l[v]?=some o->f o=true->l.find? f=some o:=by
 induction v with
 | zero=>
  intro l o _ ho hf
  cases l with
  | nil=>cases ho
  | cons p l=>simp at ho;subst ho;simp[List.find?,hf]
 | succ v ih=>
  intro l o h ho hf
  cases l with
  | nil=>cases ho
  | cons p l=>
   have:=h 0 p aD rfl
   simp only[List.find?,this]
   exact ih (λi q hi hq=>h (i+1) q aD (by simpa using hq)) (by simpa using ho) hf
def OZ {o:ByS} (h0:0<=a):(sub s a (a+(o.length:Int))==o)=o.isPrefixOf (s.drop a.toNat):=by
 rw[qV];simp only[sub];rw[show (a+(o.length:Int)).toNat - a.toNat=o.length by omega]
def Hc (hm:bN m) (h0:0<=a) (ha:a<=s.length) (hs:s.length<=65536):Ev (λi=>tL (m i) s a) (λr=>r=K3 (s.drop a.toNat)) dt:=by
 unfold tL jg;refine bI (a:=ops) rfl ?_;have hol:∀ o∈ops,o.length<=3:=by decide
 have e32:ops.length=32:=rfl;refine bR hm (λ(v:Int)=>0<=v/\v<=ops.length/\∀ (i:Nat) p,(i:Int)<v->ops[i]?=some p->p.isPrefixOf (s.drop a.toNat)=false) (λv=>(ops.length - v).toNat) ⟨aD,aD,λi p h=>by omega⟩ ?_;intro v hv next hn;have I1:∀ x,ops[v.toNat]?=some x->x.isPrefixOf (s.drop a.toNat)=false->Ev (λi=>aG.gd (cD (v+1)) (next i (v+1))) (λr=>r=K3 (s.drop a.toNat)) dt:=by
  intro x hx hp;have:=(ao.1 hx).1;refine aF (hn _ ⟨aD,aD,λi p hi TD=>?_⟩ aD);by_cases q:(i:Int)<v
  ·exact hv.2.2 i p q TD
  rw[show i=v.toNat by omega,hx] at TD;cases TD;exact hp
 refine aS (λh=>?_) (λh=>aj ?_)
 ·refine aF (gL hv.1 h λx hx=>?_);have Wm:=hol x (aP hx);refine aS (λh2=>?_) (λh2=>I1 x hx ?_)
  ·refine cR hv.1 hx (aF (dB ⟨h0,aD,aD⟩ (cR hv.1 hx (ay (λh3=>?_) (λh3=>?_)))))
   ·refine cR hv.1 hx (aj ?_);rw[OZ h0] at h3;unfold K3;rw[Wq (v:=v.toNat) (λi p hi hp=>hv.2.2 i p aD hp) hx h3];rfl
   rw[OZ h0] at h3;exact I1 x hx h3
  cases e:x.isPrefixOf (s.drop a.toNat) with
  | false=>rfl
  | true=>
   rw[qV,cn] at e
   have:=iy List.length e
   simp at this;omega
 unfold K3;rw[kN.2 λp hp=>?_]
 ·rfl
 obtain ⟨i,hi⟩:=oR.1 hp;have:=(ao.1 hi).1;rw[hv.2.2 i p aD hi];simp
def Gg (s:ByS) (c:Bool) (i:Int):Int×Bool:=match pK (s.drop i.toNat) with|some x=>(i+x.1 - 1,c||x.2)|none=>(-1,false)
def Ws:pK (34::u)=some (1,false):=by cases u<;>simp[pK]
def Wt {d:UInt8}:pK (92::d::u)=(pK u).map λx=>(x.1+2,x.2||d==40):=by simp[pK]
def Wu (h1:b≠34) (h2:b≠92):pK (b::u)=(pK u).map λx=>(x.1+1,x.2):=by
 cases u with
 | nil=>simp[pK,h1]
 | cons d u=>simp[pK,h1,h2]
def O0 (hm:bN m) (h0:0<=a) (ha:a<s.length) (hs:s.length<=65536):Ev (λi=>zZ (m i) s a) (λr=>r=Gg s false (a+1)) dt:=by
 unfold zZ;refine aF ?_;refine bR hm (λ(v:Bool×Int)=>a<v.2/\v.2<=s.length+1/\Gg s v.1 v.2=Gg s false (a+1)) (λv=>(s.length+1 - v.2).toNat) ⟨rI,rI,rfl⟩ ?_;rintro ⟨c,v⟩ ⟨h1,h2,h3⟩ next hn;dsimp only at h1 h2 h3 hn ⊢;refine aS (λh=>?_) (λh=>aj ?_)
 ·refine bD (λ(w:Bool×Int)=>v<=w.2/\w.2<=s.length/\Gg s w.1 (w.2+1)=Gg s false (a+1)) (λw hw=>?_) (λj hj=>?_)
  ·exact aF (hn _ ⟨eZ,eZ,hw.2.2⟩ eZ)
  refine gL aD h λx hx=>?_;have hu:s.drop v.toNat=x::s.drop (v+1).toNat:=by
   exact ahK
  refine ay (λh4=>aj ?_) (λh4=>cR aD hx (ay (λh5=>?_) (λh5=>?_)))
  ·rw[mz 34 34 rfl,cn] at h4;subst h4;rw[<- h3];unfold Gg;rw[hu,Ws];simp
  ·rw[mz 92 92 rfl,cn] at h5;subst h5;have hE:∀ d,s[(v+1).toNat]?=some d->Gg s (c||d==40) (v+1+1)=Gg s false (a+1):=by
    intro d hd;have GW:=hd;rw[ao] at GW;obtain ⟨q1,q2⟩:=GW;rw[<- h3];unfold Gg;rw[hu,cb q1,q2,Wt,show (v+1+1).toNat=(v+1).toNat+1 by omega];cases pK (s.drop ((v+1).toNat+1)) with
    | none=>rfl
    | some y=>simp[Bool.or_comm,Bool.or_left_comm];omega
   have hN:¬ v+1<s.length->∀ c,Gg s c (v+1+1)=Gg s false (a+1):=by
    intro q c';rw[<- h3];unfold Gg;rw[hu,dR aD,dR aD];simp[pK]
   refine aF (ay (λhc=>?_) (λhc=>aS (λh6=>?_) (λh6=>?_)))
   ·refine hj _ ⟨eZ,eZ,?_⟩;dsimp only;by_cases q:v+1<s.length
    ·obtain ⟨d,hd⟩:∃ d,s[(v+1).toNat]?=some d:=⟨_,aA aD⟩;have:=hE d hd;rw[hc] at this;simpa using this
    exact hN q _
   ·refine gL aD h6 λd hd=>hj _ ⟨eZ,eZ,?_⟩;have:=hE d hd;rw[hc] at this;dsimp only;rw[mz 40 40 rfl];simpa using this
   exact hj _ ⟨eZ,eZ,hN h6 _⟩
  rw[mz 34 34 rfl] at h4;rw[mz 92 92 rfl] at h5;refine hj _ ⟨eZ,eZ,?_⟩;dsimp only;rw[<- h3];unfold Gg;rw[hu,Wu (by simpa using h4) MQ];cases pK (s.drop (v+1).toNat) with
  | none=>rfl
  | some y=>simp;omega
 rw[<- h3];unfold Gg;rw[dR aD];simp[pK]
end
end
def Tk {α:Type} (x:aG α) (a:α):Prop:=x=.stuck\/x=.ok a
section
variable {X:Type} {a:α}
def Tk.ok:Tk (.ok a) a:=.inr rfl
def kJ:=@Tk.ok
def Tk.of {b:α} (h:b=a):Tk (.ok b) a:=.inr (by rw[h])
def iw:=@Tk.of
def Tk.ι {x:aG β} {c:β} {f:β->aG α} (h:x=.ok c) (hf:Tk (f c) a):Tk (ag x f) a:=by subst h;exact hf
def nG:=@Tk.ι
variable {x:aG α}
def Tk.br {b:Bool} {y:aG α} (ht:b=true->Tk x a) (hf:b=false->Tk y a):Tk (aG.br b x y) a:=by
 cases b with
 | true=>exact ht rfl
 | false=>exact hf rfl
def cA:=@Tk.br
def Tk.gd {p:Prop} [Decidable p] (h:p->Tk x a):Tk (aG.gd p x) a:=by
 unfold aG.gd;split
 ·exact h ‹_›
 exact .inl rfl
def dY:=@Tk.gd
def Tk.el {l:List X} {v:Int} {K:X->aG α} (h:∀ x,0<=v->l[v.toNat]?=some x->Tk (K x) a):Tk (aG.el l v K) a:=by
 unfold aG.el;split
 ·split
  ·exact Ql
  exact .inl rfl
 exact .inl rfl
def kD:=@Tk.el
def Tk.jn {j:X->aG α} {p:(X->aG α)->aG α} (J:X->Prop) (hj:∀ v,J v->Tk (j v) a) (hp:∀ j:X->aG α,(∀ v,J v->Tk (j v) a)->Tk (p j) a):Tk (aG.jn j p) a:=hp j hj
def rE:=@Tk.jn
def Tk.iter {body:(X->aG α)->X->aG α} (I:X->Prop) (hb:∀ x,I x->∀ next:X->aG α,(∀ y,I y->Tk (next y) a)->Tk (body next x) a):∀ (n:Nat) {x:X},I x->Tk (aG.iter body n x) a
 | 0,_,_=>.inl rfl
 | n+1,x,h=>hb x h _ λ_ q=>Tk.iter I hb n q
def oW:=@Tk.iter
end
def Nr (b:UInt8):ry (b.toNat:Int)=.ok (Mr b):=by
 rw[T1];unfold ry;by_cases h1:(97:Int)<=b.toNat<;>by_cases h2:(b.toNat:Int)<=122<;>by_cases h3:(65:Int)<=b.toNat<;>by_cases h4:(b.toNat:Int)<=90<;>by_cases h5:(b.toNat:Int)=95<;>first|omega|simp[h1,h2,h3,h4,h5,aG.br,aG.jn]
def AO (b:UInt8):oH (b.toNat:Int)=.ok (xF b):=by
 rw[OU];unfold oH;by_cases h1:(48:Int)<=b.toNat<;>simp[h1,aG.br]
section
variable {m:Nat}
def Wv {F:UInt8->aG Bool} {p:UInt8->Bool} (hF:∀ b,F b=.ok (p b)) {j:Int->aG α} {a:α} {v0:Int} (h0:0<=v0) (hv:v0<=u.length) (hj:Tk (j (v0+run (λ_=>p) 0 (u.drop v0.toNat))) a) :
  Tk (aG.iter (λnext (v:Int)=>aG.br (decide (v<(List.length u:Int))) (aG.el u v λb=>ag (F b) λy=>aG.br y (aG.gd (cD (v+1)) (next (v+1))) (j v)) (j v)) m v0) a:=by
 have hl:=Jo (p:=λ_=>p) (i:=0) h0 hv
 refine oW (λv=>v0<=v/\v<=v0+run (λ_=>p) 0 (u.drop v0.toNat)) (λv hv2 next hn=>?_) m ⟨aD,aD⟩
 have JV:∀ x,u[v.toNat]?=some x->p x=decide (v<v0+run (λ_=>p) 0 (u.drop v0.toNat)):=by
  intro x hx
  rw[<- R2 h0 hv2.1] at hx
  by_cases q:v<v0+run (λ_=>p) 0 (u.drop v0.toNat)
  ·obtain ⟨b,h1,h2⟩:=BO (p:=λ_=>p) (u:=u.drop v0.toNat) (i:=0) (j:=(v - v0).toNat) aD
   rw[hx] at h1;cases h1
   rw[h2,aV q]
  ·have e:v - v0=run (λ_=>p) 0 (u.drop v0.toNat):=by omega
   rw[e] at hx
   have:=yH (p:=λ_=>p) (u:=u.drop v0.toNat) (i:=0) (b:=x) DY
   rw[this,bA q]
 refine cA (λgR=>kD λx _ hx=>nG (hF x) (cA (λh=>dY λ_=>hn _ ?_) (λh=>?_))) (λFf=>?_)
 ·rw[JV x hx] at h
  have:=bg h
  omega
 ·rw[JV x hx] at h
  have:=aU h
  rw[show v=v0+run (λ_=>p) 0 (u.drop v0.toNat) by omega];exact hj
 ·have:=aU Ff
  rw[show v=v0+run (λ_=>p) 0 (u.drop v0.toNat) by omega];exact hj
def X6:Tk (sN m u) (EG u:Int):=by
 unfold sN;have hl:=BN (p:=pD) (i:=0) (u:=u);refine rE (λv=>v=run pD 0 u) (λv hv=>?_) (λj hj=>Wv (p:=xF) AO E6 aD (hj _ (by simp[Ñ])));subst hv;refine rE (λz=>z=zI u (run pD 0 u)) (λz hz=>?_) (λj hj=>dY λ_=>?_)
 ·refine cA (λh=>dY λ_=>?_) (λh=>?_)
  ·rw[h] at hz;have hd:=hz.symm;unfold zI at hd;simp only[bk,cn] at hd;have:=(ao.1 hd.1).1;refine Wv (p:=xF) AO aD aD (iw ?_);unfold EG;rw[aL hz.symm,show ((run pD 0 u:Int)+1).toNat=run pD 0 u+1 by omega,Ñ];omega
  rw[h] at hz;refine iw ?_;unfold EG;rw[aC (by rw[<- hz];simp)]
 have g0:((run pD 0 u:Int)).toNat=run pD 0 u:=by omega
 have g1:((run pD 0 u:Int)+1).toNat=run pD 0 u+1:=by omega
 refine cA (λh2=>kD λx _ hx=>cA (λh3=>dY λ_=>kD λy _ hy=>nG (AO y) (hj _ ?_)) (λh3=>hj _ ?_)) (λh2=>hj _ ?_)
 ·rw[g0] at hx;rw[g1] at hy;rw[mz 46 46 rfl] at h3;unfold zI;rw[hx,hy,cn.1 h3];simp
 ·rw[g0] at hx;rw[mz 46 46 rfl] at h3;unfold zI;rw[hx];have:(some x==some (46:UInt8))=false:=h3;rw[this];rfl
 have:=aU h2;unfold zI;rw[gY (l:=u) (i:=run pD 0 u+1) aD];simp
def Ww:Tk (vl m u) (qe u:Int):=by
 unfold vl;refine rE (λv=>v=run pW 0 u) (λv hv=>?_) (λj hj=>?_)
 ·subst hv;refine cA (λh=>?_) (λh=>iw ?_)
  ·have h1:run pW 0 u=1:=by have:=cn.1 h;omega
   obtain ⟨b,hb,hp⟩:=BO (p:=pW) (u:=u) (i:=0) (j:=0) aD;have hp:(Mr b||b==35)=true:=by simpa[pW] using hp
   refine kD λx _ hx=>nG (Nr x) (cA (λh2=>iw ?_) (λh2=>kD λy _ hy=>cA (λh3=>iw ?_) (λh3=>iw ?_)))
   ·have hx:u[0]?=some x:=hx;rw[hb] at hx;cases hx;simp at h2;rw[h2] at hp;have XH:b=35:=by simpa using hp
    unfold qe;rw[aL ⟨h1,.inl (by rw[hb,XH])⟩];rfl
   ·have hy:u[0]?=some y:=hy;rw[mz 95 95 rfl,cn] at h3;unfold qe;rw[aL ⟨h1,.inr (by rw[hy,h3])⟩];rfl
   have hx:u[0]?=some x:=hx;have hy:u[0]?=some y:=hy;rw[hx] at hy;cases hy;rw[mz 95 95 rfl,beq_eq_false_iff_ne] at h3;simp at h2;have XH:x≠35:=by rintro rfl;revert h2;decide
   unfold qe;rw[aC (by rw[hx];simp[XH,h3])]
  have h1:run pW 0 u≠1:=by have:=beq_eq_false_iff_ne.1 h;omega
  unfold qe;rw[aC (λq=>h1 q.1)]
 have hl:=BN (p:=pW) (i:=0) (u:=u);refine oW (λ(v:Int)=>0<=v/\v<=run pW 0 u) (λv hv next hn=>?_) m ⟨aD,aD⟩;have JV:∀ x,u[v.toNat]?=some x->(Mr x||(decide (0<v)&&xF x)||(decide (v=0)&&x==35))=decide (v<run pW 0 u):=by
  intro x hx;have e:(Mr x||(decide (0<v)&&xF x)||(decide (v=0)&&x==35))=pW v.toNat x:=by
   unfold pW;rw[show decide (0<v)=decide (0<v.toNat) from decide_eq_decide.2 aD,show decide (v=0)=decide (v.toNat=0) from decide_eq_decide.2 aD]
  rw[e];by_cases q:v<run pW 0 u
  ·obtain ⟨b,h1,h2⟩:=BO (p:=pW) (u:=u) (i:=0) (j:=v.toNat) aD;rw[hx] at h1;cases h1;rw[aV q,<- h2];congr 1;omega
  have e:v.toNat=run pW 0 u:=by omega
  rw[e] at hx ⊢;have:=yH (p:=pW) (u:=u) (i:=0) (b:=x) hx;rw[bA q,<- this];congr 1;omega
 have fin:¬ v<run pW 0 u->Tk (j v) (qe u:Int):=λq=>by rw[show v=run pW 0 u by omega];exact hj _ rfl
 refine rE (λ_=>v<run pW 0 u) (λ_ hq=>dY λ_=>hn _ aD) (λj2 xI=>?_);refine cA (λgR=>kD λx _ hx=>nG (Nr x) ?_) (λh=>fin ML);have JV:=JV x hx;refine cA (λhL=>xI () (bg (by rw[<- JV,hL];rfl))) (λhL=>?_);rw[hL,ll] at JV;have XH:v=0->Tk (aG.el u v λb=>aG.br ((b.toNat:Int)==35) (j2 ()) (j v)) (qe u:Int):=λh0=>by
  refine kD λy _ hy=>?_;rw[hx] at hy;cases hy;rw[mz 35 35 rfl];have JV:(x==35)=decide (v<run pW 0 u):=by simpa[h0] using JV
  refine cA (λh=>xI () (bg (by rw[<- JV,h]))) (λh=>fin (aU (by rw[<- JV,h])))
 refine cA (λh=>kD λy _ hy=>nG (AO y) ?_) (λh=>?_)
 ·rw[hx] at hy;cases hy;have hv0:=bg h;have hv0:(0:Int)<v:=hv0;have uv:v≠0:=by omega
  have JV:xF x=decide (v<run pW 0 u):=by simpa[hv0,uv] using JV
  refine cA (λh2=>xI () (bg (by rw[<- JV,h2]))) (λh2=>?_);have e0:(v==0)=false:=by simp[uv]
  rw[e0];exact fin (aU (by rw[<- JV,h2]))
 have hv0:¬ 0<v:=aU h;have e:v=0:=by omega
 have e0:(v==0)=true:=by simp[e]
 rw[e0];exact XH e
def Gi (u:ByS) (c:Bool) (i:Int):Int×Bool:=match pK (u.drop i.toNat) with|some x=>(i+x.1,c||x.2)|none=>(0,false)
def T2:Tk (rP m u) (Gi u false 1):=by
 unfold rP;refine oW (λ(v:Bool×Int)=>0<v.2/\Gi u v.1 v.2=Gi u false 1) (λv hv next hn=>?_) m ⟨dN,rfl⟩;obtain ⟨c,v⟩:=v;obtain ⟨h1,h3⟩:=hv;dsimp only at h1 h3 ⊢;refine cA (λh=>?_) (λh=>iw ?_)
 ·refine rE (λ(w:Bool×Int)=>v<=w.2/\Gi u w.1 (w.2+1)=Gi u false 1) (λw hw=>dY λ_=>hn _ ⟨eZ,hw.2⟩) (λj hj=>?_);refine kD λx _ hx=>?_;have hu:u.drop v.toNat=x::u.drop (v+1).toNat:=by
   exact ahK
  rw[mz 34 34 rfl];refine cA (λh4=>dY λ_=>iw ?_) (λh4=>kD λy _ hy=>?_)
  ·rw[cn] at h4;subst h4;rw[<- h3];unfold Gi;rw[hu,Ws];simp
  rw[hx] at hy;cases hy;rw[mz 92 92 rfl];refine cA (λh5=>?_) (λh5=>?_)
  ·rw[cn] at h5;subst h5;have hE:∀ d,u[(v+1).toNat]?=some d->Gi u (c||d==40) (v+1+1)=Gi u false 1:=by
    intro d hd;have GW:=hd;rw[ao] at GW;obtain ⟨q1,q2⟩:=GW;rw[<- h3];unfold Gi;rw[hu,cb q1,q2,Wt,show (v+1+1).toNat=(v+1).toNat+1 by omega];cases pK (u.drop ((v+1).toNat+1)) with
    | none=>rfl
    | some y=>simp[Bool.or_comm,Bool.or_left_comm];omega
   have hN:¬ v+1<u.length->∀ c,Gi u c (v+1+1)=Gi u false 1:=by
    intro q c';rw[<- h3];unfold Gi;rw[hu,dR aD,dR aD];simp[pK]
   refine cA (λhc=>dY λ_=>hj _ ⟨eZ,?_⟩) (λhc=>dY λ_=>cA (λh6=>dY λ_=>kD λd _ hd=>dY λ_=>hj _ ⟨eZ,?_⟩) (λh6=>dY λ_=>hj _ ⟨eZ,hN (aU h6) _⟩))
   ·dsimp only;by_cases q:v+1<u.length
    ·obtain ⟨d,hd⟩:∃ d,u[(v+1).toNat]?=some d:=⟨_,aA aD⟩;have:=hE d hd;rw[hc] at this;simpa using this
    exact hN q _
   have:=hE d hd;rw[hc] at this;dsimp only;rw[mz 40 40 rfl];simpa using this
  refine hj _ ⟨eZ,?_⟩;dsimp only;rw[<- h3];unfold Gi;rw[hu,Wu (by simpa using h4) MQ];cases pK (u.drop (v+1).toNat) with
  | none=>rfl
  | some y=>simp;omega
 have:=aU h;rw[<- h3];unfold Gi;rw[dR aD];simp[pK]
def grp:List (List ByS):=[[[95,124,95],[46,46,46]],[[61,61],[33,61],[60,61],[62,61],[61,126],[33,126],[38,38],[124,124]],[[95],[40],[41],[91],[93],[123],[125],[58],[44],[46],[63],[33],[42],[38],[124],[61],[60],[62],[43],[45],[47],[37]]]
def R3:Tk (qt m u) (K3 u):=by
 unfold qt;have hN:∀ {g:List ByS} {i:Nat},i<3->grp[i]?=some g->(∀ (k:Nat) h,k<i->grp[k]?=some h->h.find? (λo=>o.isPrefixOf u)=none)->∀ o,g.find? (λo=>o.isPrefixOf u)=some o->o=K3 u:=by
  intro g i hi hg hb o ho;have key:K3 u=(ops.find? λo=>o.isPrefixOf u).getD []:=rfl;have e:ops=[[95,124,95],[46,46,46]]++([[61,61],[33,61],[60,61],[62,61],[61,126],[33,126],[38,38],[124,124]]++[[95],[40],[41],[91],[93],[123],[125],[58],[44],[46],[63],[33],[42],[38],[124],[61],[60],[62],[43],[45],[47],[37]]):=rfl;rw[key,e,rX,rX];rcases (show i=0\/i=1\/i=2 by omega) with q|q|q<;>subst q<;>(simp only[grp,qL,nO] at hg;cases hg)
  ·rw[ho];rfl
  ·rw[hb 0 _ dN rfl,ho];rfl
  rw[hb 0 _ dN rfl,hb 1 _ dN rfl,ho];rfl
 refine oW (λ(v:Int)=>0<=v/\v<=3/\∀ (k:Nat) h,(k:Int)<v->grp[k]?=some h->h.find? (λo=>o.isPrefixOf u)=none) (λv hv next hn=>?_) m ⟨dN,dN,λk h q=>by omega⟩;obtain ⟨h1,h2,h3⟩:=hv;refine cA (λh=>kD λp _ hp=>?_) (λh=>iw ?_)
 ·have gR:v<3:=bg h;obtain ⟨g,hg,hs⟩:∃ g,grp[v.toNat]?=some g/\yx [32] (p.length+1) p=g:=by
   rcases (show v.toNat=0\/v.toNat=1\/v.toNat=2 by omega) with q|q|q<;>rw[q] at hp ⊢<;>cases hp<;>exact ⟨_,rfl,rfl⟩
  have hsp:strings_Split p [32]=.stuck\/strings_Split p [32]=.ok g:=by
   unfold strings_Split aG.gd;split
   ·right;rw[<- hs]
   exact .inl rfl
  rcases hsp with q|q
  ·rw[q];exact .inl rfl
  rw[q];refine oW (λ(w:Int)=>0<=w/\∀ (i:Nat) o,(i:Int)<w->g[i]?=some o->o.isPrefixOf u=false) (λw hw Nl IN=>?_) m ⟨dN,λi o q=>by omega⟩;refine cA (λ_=>kD λo _ ho=>nG (zJ u o) (cA (λh5=>iw ?_) (λh5=>dY λ_=>IN _ ⟨aD,λi o2 hi ho2=>?_⟩))) (λh4=>dY λ_=>hn _ ⟨aD,aD,λk h hk hh=>?_⟩)
  ·exact hN (i:=v.toNat) aD hg (λk h hk hh=>h3 k h aD hh) o (Wq (v:=w.toNat) (λi p hi TD=>hw.2 i p aD TD) ho h5)
  ·by_cases q:(i:Int)<w
   ·exact hw.2 i o2 q ho2
   rw[show i=w.toNat by omega,ho] at ho2;cases ho2;exact h5
  by_cases q:(k:Int)<v
  ·exact h3 k h q hh
  rw[show k=v.toNat by omega,hg] at hh;cases hh;rw[kN];intro o ho;obtain ⟨i,hi⟩:=oR.1 ho;have hil:=(ao.1 hi).1;have h4:=aU h4;rw[hw.2 i o aD hi];simp
 have Ff:¬ v<3:=aU h;have e:ops=[[95,124,95],[46,46,46]]++([[61,61],[33,61],[60,61],[62,61],[61,126],[33,126],[38,38],[124,124]]++[[95],[40],[41],[91],[93],[123],[125],[58],[44],[46],[63],[33],[42],[38],[124],[61],[60],[62],[43],[45],[47],[37]]):=rfl;unfold K3;rw[e,rX,rX,h3 0 _ aD rfl,h3 1 _ aD rfl,h3 2 _ aD rfl];rfl
end
def LK {α β:Type} (x:aG α) (F:Nat->aG β) (V:α->β->Prop) (W:sT->β->Prop):Prop:=(∀ a,x=.ok a->Ev F (V a) dt)/\∀ p,x=.qH p->Ev F (W p) dt
section
variable {X Y:Type} {x y:aG α} {F G:Nat->aG β} {V V':α->β->Prop} {W W':sT->β->Prop}
def LK.nil:LK (.stuck:aG α) F V W:=⟨λ_ e=>(by cases e),λ_ e=>(by cases e)⟩
def dc:=@LK.nil
def LK.ok {a:α} {b:β} (h:V a b):LK (.ok a) (λ_=>.ok b) V W:=⟨λ_ e=>by cases e;exact aj h,λ_ e=>by cases e⟩
def bZ:=@LK.ok
def LK.qH {p:sT} (h:Ev F (W p) dt):LK (.qH p:aG α) F V W:=⟨λ_ e=>(by cases e),λ_ e=>by cases e;exact h⟩
def sw:=@LK.qH
def LK.mono (h:LK x F V' W') (hv:∀ a b,V' a b->V a b) (hw:∀ p b,W' p b->W p b):LK x F V W:=⟨λa e=>(h.1 a e).oB (hv a),λp e=>(h.2 p e).oB (hw p)⟩
variable {f:γ->aG α} {K:Nat->δ->aG β}
def LK.bind {x:aG γ} {G:Nat->aG δ} {U:γ->δ->Prop} {W0:sT->δ->Prop} (h:LK x G U W0) (hk:∀ a b,U a b->LK (f a) (λi=>K i b) V W) (hw:∀ p b,W0 p b->Ev (λi=>K i b) (W p) dt) :
  LK (ag x f) (λi=>ag (G i) (K i)) V W:=by
 cases x with
 | stuck=>exact dc
 | qH p=>exact sw ((h.2 p rfl).gZ (hw p))
 | ok c=>
  have h1:=h.1 c rfl
  exact ⟨λa e=>h1.gZ λb hb=>(hk c b hb).1 a e,λp e=>h1.gZ λb hb=>(hk c b hb).2 p e⟩
def cq:=@LK.bind
variable {c:γ}
def LK.tk {x:aG γ} (h:Tk x c) (hk:LK (f c) F V W):LK (ag x f) F V W:=by
 rcases h with rfl|rfl
 ·exact dc
 exact hk
def gU:=@LK.tk
def LK.bc {x:aG γ} (h:x=.ok c) (hk:LK (f c) F V W):LK (ag x f) F V W:=gU (.inr h) hk
def nH:=@LK.bc
variable {b:Bool}
def LK.brL (ht:b=true->LK x F V W) (hf:b=false->LK y F V W):LK (aG.br b x y) F V W:=by
 cases b with
 | true=>exact ht rfl
 | false=>exact hf rfl
def aI:=@LK.brL
def LK.brR (ht:b=true->LK x F V W) (hf:b=false->LK x G V W):LK x (λi=>aG.br b (F i) (G i)) V W:=by
 cases b with
 | true=>exact ht rfl
 | false=>exact hf rfl
def aJ:=@LK.brR
def LK.gdL [Decidable p] (h:p->LK x F V W):LK (aG.gd p x) F V W:=by
 unfold aG.gd;split
 ·exact h ‹_›
 exact dc
def bK:=@LK.gdL
def LK.gdR [Decidable p] (hp:p) (h:LK x F V W):LK x (λi=>aG.gd p (F i)) V W:=⟨λa e=>(h.1 a e).gd hp,λq e=>(h.2 q e).gd hp⟩
def bW:=@LK.gdR
variable {l:List X}
def LK.elL {K:X->aG α} (h:∀ z,0<=j->l[j.toNat]?=some z->LK (K z) F V W):LK (aG.el l j K) F V W:=by
 unfold aG.el;split
 ·split
  ·exact Ql
  exact dc
 exact dc
def jc:=@LK.elL
def LK.elR {K:Nat->X->aG β} {z:X} (h0:0<=j) (hz:l[j.toNat]?=some z) (h:LK x (λi=>K i z) V W):LK x (λi=>aG.el l j (K i)) V W:=⟨λa e=>(h.1 a e).elx h0 hz,λq e=>(h.2 q e).elx h0 hz⟩
def eI:=@LK.elR
def LK.ev {G:Nat->aG δ} {b:δ} (h:Ev G (λr=>r=b) dt) (hk:LK x (λi=>K i b) V W):LK x (λi=>ag (G i) (K i)) V W:=⟨λa e=>h.gZ λ_ q=>by subst q;exact hk.1 a e,λp e=>h.gZ λ_ q=>by subst q;exact hk.2 p e⟩
def bn:=@LK.ev
def LK.evQ {G:Nat->aG δ} {Q:δ->Prop} (h:Ev G Q dt) (hk:∀ b,Q b->LK x (λi=>K i b) V W):LK x (λi=>ag (G i) (K i)) V W:=⟨λa e=>h.gZ λb q=>(hk b q).1 a e,λp e=>h.gZ λb q=>(hk b q).2 p e⟩
def wK:=@LK.evQ
def LK.jnL {j:X->aG α} {p:(X->aG α)->aG α} (h:LK (p j) F V W):LK (aG.jn j p) F V W:=h
def fP:=@LK.jnL
def LK.jnR {j:Nat->X->aG β} {p:Nat->(X->aG β)->aG β} (h:LK x (λi=>p i (j i)) V W):LK x (λi=>aG.jn (j i) (p i)) V W:=h
def mr:=@LK.jnR
variable {body:Nat->(Y->aG β)->Y->aG β} {m:Nat->Nat} {w:Y}
def Ev.H9 {Q:β->Prop} {R:sT->Prop} (hm:bN m) (h:Ev (λi=>body i (aG.iter (body i) (m i - 1)) w) Q R):Ev (λi=>aG.iter (body i) (m i) w) Q R:=by
 obtain ⟨r,h1,N,hN⟩:=h;exact ahH
def kh:=@Ev.H9
def LK.H9 (hm:bN m) (h:LK x (λi=>body i (aG.iter (body i) (m i - 1)) w) V W):LK x (λi=>aG.iter (body i) (m i) w) V W:=⟨λa e=>kh hm (h.1 a e),λp e=>kh hm (h.2 p e)⟩
def LK.iter (I:X->Y->Prop) {body:(X->aG α)->X->aG α} {wL:Nat->(Y->aG β)->Y->aG β}
  (hb:∀ v w,I v w->∀ (next:X->aG α) (next':Nat->Y->aG β),(∀ v w,I v w->LK (next v) (λi=>next' i w) V W)->LK (body next v) (λi=>wL i (next' i) w) V W) :
  ∀ (n:Nat) {m:Nat->Nat},bN m->∀ v w,I v w->LK (aG.iter body n v) (λi=>aG.iter (wL i) (m i) w) V W
 | 0,_,_,_,_,_=>dc
 | n+1,_,hm,v,w,hI=>LK.H9 hm (hb v w hI _ _ λv w h=>LK.iter I hb n hm.pred v w h)
def ud:=@LK.iter
end
def oL (b:Int) (t:aB):aB:=aB.mk t.an t.bJ (t.cG+b) (t.oZ+b)
abbrev X7:=ah.mk
structure Nx (T:List aB) (k:Bool) (a a':Int) (t:aB):Prop where
 a0:0<=a
 le:a<=a'
 tk:T[a'.toNat]?=some t
 k7:k=true->t.an≠7
 st:k=false->a'=a
 bt:∀ (j:Nat) u,a<=j->(j:Int)<a'->T[j]?=some u->u.an=7
section
variable {T:List aB} {b:Int} {m:Nat->Nat}
def Nx.self (h:Nx T k a a' t):Nx T k a' a' t:=⟨by have:=h.a0;have:=h.le;omega,aD,h.tk,h.k7,λ_=>rfl,λ_ _ _ _=>by omega⟩
def Nx.lt (h:Nx T k a a' t):a'<T.length:=by
 have:=(ao.1 h.tk).1;have:=h.a0;have:=h.le;omega
def Nx.ge (h:Nx T k a a' t):0<=a':=by have:=h.a0;have:=h.le;omega
def Nx.DP (hC:PC s T b) (h:Nx T k a a' t) (h0:t.an≠0):a'+1<T.length:=hC.next h.ge h.tk h0
def pZ (hC:PC s T b) (k:Bool) (h0:0<=a) (h1:a<T.length):∃ a' t,Nx T k a a' t:=by
 obtain ⟨d,hd⟩:∃ d:Nat,(T.length:Int) - a<=d:=⟨(T.length - a).toNat,aD⟩
 induction d generalizing a with
 | zero=>omega
 | succ d ih=>
  obtain ⟨t,ht⟩:∃ t,T[a.toNat]?=some t:=⟨_,aA aD⟩
  by_cases hk:k=true/\t.an=7
  ·have hn:=hC.next h0 ht aD;obtain ⟨a',u,h⟩:=ih (a:=a+1) aD hn aD;refine ⟨a',u,h0,by have:=h.le;omega,h.tk,h.k7,λq=>(by rw[hk.1] at q;cases q),λj v hj xI hv=>?_⟩;by_cases e:(j:Int)=a
   ·have:a.toNat=j:=by omega
    rw[this,hv] at ht;cases ht;exact hk.2
   exact h.bt j v aD xI hv
  ·exact ag9
def xi (h:Nx T k a a' t):Tk (bq n (H s T a b k q)) (t,H s T a' b k q):=by
 unfold bq jg;have J:∀ v:D,v=H s T a' b k q->Tk (aG.el v.M v.bB λx6=>.ok (x6,D.mk v.bM v.M v.bB b v.skip v.Z)) (t,H s T a' b k q):=by
  rintro _ rfl;refine kD λx _ hx=>?_;rw[show x=t by simpa[h.tk] using hx.symm];exact kJ
 refine rE (λv=>v=H s T a' b k q) J λj hj=>?_;refine oW (λv=>∃ c,v=H s T c b k q/\a<=c/\c<=a') ?_ n ⟨a,rfl,aD,h.le⟩;rintro _ ⟨c,rfl,h1,h2⟩ next hn;dsimp only;refine cA (λhk=>kD λx h0 hx=>cA (λh7=>dY λ_=>hn _ ⟨c+1,rfl,aD,?_⟩) (λh7=>hj _ ?_)) (λhk=>hj _ ?_)
 ·by_cases e:c=a'
  ·subst e;rw[h.tk] at hx;cases hx;exact aw Qx (h.k7 hk)
  omega
 ·by_cases e:c=a'
  ·subst e;rfl
  exact aw (h.bt c.toNat x aD aD hx) Qx
 rw[h.st hk] at h2 ⊢;rw[show c=a by omega]
def kF (hm:bN m) (hC:PC s T b) (h:Nx T k a a' t):Ev (λi=>aY (m i) (X7 s b (T.map (oL b)) a k en ea)) (λr=>r=(oL b t,X7 s b (T.map (oL b)) a' k en ea)) dt:=by
 unfold aY jg;have hl:=hC.pJ;have gR:=h.lt;refine bD (λv=>v=X7 s b (T.map (oL b)) a' k en ea) (λv hv=>?_) (λj hj=>?_)
 ·subst hv;exact cR h.ge (by rw[eX,h.tk];rfl) uY
 refine bR hm (λv=>∃ c,v=X7 s b (T.map (oL b)) c k en ea/\a<=c/\c<=a') (λv=>(a' - v.bB).toNat) ⟨a,rfl,aD,h.le⟩ ?_;rintro _ ⟨c,rfl,h1,h2⟩ next hn;dsimp only;have h0:=h.a0;refine ay (λhk=>?_) (λhk=>hj _ ?_)
 ·obtain ⟨u,hu⟩:∃ u,T[c.toNat]?=some u:=⟨_,aA aD⟩;refine cR aD (x:=oL b u) (by rw[eX,hu];rfl) ?_;by_cases e:c=a'
  ·subst e;rw[h.tk] at hu;cases hu;refine ay (λh7=>aw (by simpa[oL] using h7) (h.k7 hk)) (λ_=>hj _ rfl)
  have h7:=h.bt c.toNat u aD aD hu;refine ay (λ_=>aF (hn _ ⟨c+1,rfl,aD,aD⟩ eZ)) (λq=>aw q (by simp[oL,h7]))
 rw[h.st hk] at h2 ⊢;rw[show c=a by omega]
end
def LO {α β:Type} (x:aG α) (F:Nat->aG β) (V:α->β->Prop):Prop:=∀ a,x=.ok a->Ev F (V a) dt
section
variable {X Y:Type} {x y:aG α} {F G:Nat->aG β} {V V':α->β->Prop} {W:sT->β->Prop}
variable {b c:Bool}
def LK.br2 (h:c=b) (ht:b=true->LK x F V W) (hf:b=false->LK y G V W):LK (aG.br b x y) (λi=>aG.br c (F i) (G i)) V W:=by
 subst h;cases c with
 | true=>exact ht rfl
 | false=>exact hf rfl
def dx:=@LK.br2
def LO.nil:LO (.stuck:aG α) F V:=λ_ e=>by cases e
def LO.qH {p:sT}:LO (.qH p:aG α) F V:=λ_ e=>by cases e
variable {a:α}
def LO.ok {b:β} (h:V a b):LO (.ok a) (λ_=>.ok b) V:=λ_ e=>by cases e;exact aj h
def LO.bind {x:aG γ} {G:Nat->aG δ} {U:γ->δ->Prop} {f:γ->aG α} {K:Nat->δ->aG β} (h:LO x G U) (hk:∀ a b,U a b->LO (f a) (λi=>K i b) V):LO (ag x f) (λi=>ag (G i) (K i)) V:=by
 cases x with
 | stuck=>exact LO.nil
 | qH p=>exact LO.qH
 | ok c=>exact λa e=>(h c rfl).gZ λb hb=>hk c b hb a e
def LO.br2 (h:c=b) (ht:b=true->LO x F V) (hf:b=false->LO y G V):LO (aG.br b x y) (λi=>aG.br c (F i) (G i)) V:=by
 subst h;cases c with
 | true=>exact ht rfl
 | false=>exact hf rfl
def LO.gdL [Decidable p] (h:p->LO x F V):LO (aG.gd p x) F V:=by
 unfold aG.gd;split
 ·exact h ‹_›
 exact LO.nil
def LO.gdR [Decidable p] (hp:p) (h:LO x F V):LO x (λi=>aG.gd p (F i)) V:=λa e=>(h a e).gd hp
variable {l:List X}
def LO.elL {K:X->aG α} (h:∀ z,0<=j->l[j.toNat]?=some z->LO (K z) F V):LO (aG.el l j K) F V:=by
 unfold aG.el;split
 ·split
  ·exact Ql
  exact LO.nil
 exact LO.nil
def LO.elR {K:Nat->X->aG β} {z:X} (h0:0<=j) (hz:l[j.toNat]?=some z) (h:LO x (λi=>K i z) V):LO x (λi=>aG.el l j (K i)) V:=λa e=>(h a e).elx h0 hz
def LO.iter (I:X->Y->Prop) {body:(X->aG α)->X->aG α} {wL:Nat->(Y->aG β)->Y->aG β}
  (hb:∀ v w,I v w->∀ (next:X->aG α) (next':Nat->Y->aG β),(∀ v w,I v w->LO (next v) (λi=>next' i w) V)->LO (body next v) (λi=>wL i (next' i) w) V) :
  ∀ (n:Nat) {m:Nat->Nat},bN m->∀ v w,I v w->LO (aG.iter body n v) (λi=>aG.iter (wL i) (m i) w) V
 | 0,_,_,_,_,_=>LO.nil
 | n+1,_,hm,v,w,hI=>λa e=>kh hm (hb v w hI _ _ (λv w h=>LO.iter I hb n hm.pred v w h) a e)
end
def PF (v:Int):sT:=⟨71,[.sc (.int .i64 v)]⟩
def zU {α β:Type} {a:α} {f:α->aG β}:ag (.ok a) f=f a:=rfl
def Jp (d:aK):ss d=.ok (d.an==1||(d.an==2||d.an==3)):=by
 unfold ss;cases (d.an==1)<;>cases (d.an==2)<;>rfl
section
variable {p:D}
def R4:∀ (n:Nat) {m:Nat->Nat} {e:ak},bN m->LK (cB n e v p) (λi=>kg (m i) e) (λr c=>c=false/\p=r.2) (λq c=>q=PF v/\c=true)
 | 0,_,_,_=>dc
 | n+1,m,e,hm=>by
  refine LK.mono (V':=λr c=>c=false/\p=r.2) (W':=λq c=>q=PF v/\c=true) ⟨λa ha=>bV (F:=λk=>kg k e) hm λm hm=>?_,λa ha=>bV (F:=λk=>kg k e) hm λm hm=>?_⟩ (λ_ _ h=>h) (λ_ _ h=>h);all_goals
   have key:LK (gw n (e7 n) e v p) (λi=>rS (m i) (n9 (m i)) e) (λr c=>c=false/\p=r.2) (λq c=>q=PF v/\c=true):=by
    unfold gw rS uD oz jU;have ih:∀ x:ak,LK ((e7 n).cB x v p) (λi=>(n9 (m i)).kg x) (λr c=>c=false/\p=r.2) (λq c=>q=PF v/\c=true):=λx=>R4 n hm;refine dx rfl (λ_=>jc λx h0 hx=>jc λy h1 hy=>eI h0 hx (cq (ih x) ?_ ?_)) λ_=>?_
    ·rintro ⟨x2,_⟩ _ ⟨rfl,rfl⟩;refine eI h1 hy (cq (ih y) ?_ ?_)
     ·rintro ⟨y2,_⟩ _ ⟨rfl,rfl⟩;exact bZ uA
     rintro q _ ⟨rfl,rfl⟩;exact aj uA
    ·rintro q _ ⟨rfl,rfl⟩;exact aj uA
    by_cases Ji:e.an=13
    ·simp only[Ji,qS,bne_self_eq_false];refine ud (λv w=>p=v.1/\v.2.2=w) ?_ n hm _ _ uA;rintro ⟨_,l,w⟩ _ ⟨rfl,rfl⟩ next next' hn;refine dx rfl (λ_=>jc λd h0 hd=>eI h0 hd ?_) λ_=>bZ uA;refine fP ?_;simp only[Jp,zU];by_cases h4:d.an=4
     ·simp only[h4,aG.jn,aG.br,qS];exact sw (aj uA)
     by_cases h8:d.an=8
     ·simp only[h8,aG.jn,aG.br,qS];exact sw (aj uA)
     have h4':(d.an==4)=false:=by simpa using h4
     have h8':(d.an==8)=false:=by simpa using h8
     by_cases hc:(d.an==1||(d.an==2||d.an==3))=true
     ·have hs:LK (aG.el d.bF 0 λx50=>ag ((e7 n).cB x50 v p) λy54=>aG.gd (ob 184 l.length (List.length [(y54.2,(aK.mk d.an d.cS d.jb d.B d.bE [y54.1] d.jf d.J d.oO d.iG d.cG)).2])) (aG.gd (cD (w+1)) (next (y54.2,l++[(aK.mk d.an d.cS d.jb d.B d.bE [y54.1] d.jf d.J d.oO d.iG d.cG)],w+1)))) (λi=>aG.el d.bF 0 λx42=>ag ((n9 (m i)).kg x42) λy46=>aG.br y46 (aG.ok true) (aG.gd (cD (w+1)) (next' i (w+1)))) (λr c=>c=false/\p=r.2) (λq c=>q=PF v/\c=true):=by
       refine jc λx h0 hx=>eI h0 hx (cq (ih x) ?_ ?_)
       ·rintro ⟨x2,_⟩ _ ⟨rfl,rfl⟩;exact bK λ_=>bK λh=>bW h (hn _ _ uA)
       rintro q _ ⟨rfl,rfl⟩;exact aj uA
      rw[h4',h8',hc];by_cases h1:d.an=1
      ·simpa only [h1,aG.jn,aG.br,qS] using hs
      by_cases h2:d.an=2
      ·simpa only [h2,aG.jn,aG.br,qS,show ((2:Int)==1)=false from rfl] using hs
      have h3:d.an=3:=by simpa[h1,h2] using hc
      simpa only [h3,aG.jn,aG.br,qS,show ((3:Int)==1)=false from rfl,show ((3:Int)==2)=false from rfl] using hs
     have Pz:=hc;simp only[l8,not_or,vd] at Pz;rw[h4',h8',Pz.1,Pz.2.1,Pz.2.2];simp only[aG.jn,aG.br,Bool.or_false];exact bK λ_=>bK λh=>bW h (hn _ _ uA)
    have h13':(e.an==13)=false:=by simpa using Ji
    simp only[h13',bne,r8];exact bZ uA
  ·exact key.1 a ha
  exact key.2 a ha
end
def Ev.both {α:Type} {F:Nat->aG α} {Q Q':α->Prop} (h:Ev F Q dt) (h':Ev F Q' dt):Ev F (λa=>Q a/\Q' a) dt:=by
 obtain ⟨a,h1,N,hN⟩:=h.get;obtain ⟨c,h2,M,hM⟩:=h'.get;have e:=hM (N+M) aD;rw[hN (N+M) aD] at e;cases e;exact nU (r:=.ok a) hN ⟨h1,h2⟩
def R5:∀ (n:Nat) {m:Nat->Nat} {e:ak} {p:D},bN m->LO (cB n e v p) (λi=>jD (m i) e) (λr y=>y=r.1)
 | 0,_,_,_,_=>LO.nil
 | n+1,m,e,p,hm=>λa ha=>bV (F:=λk=>jD k e) hm λm hm=>by
  have key:LO (gw n (e7 n) e v p) (λi=>ov (m i) (lA (m i)) e) (λr y=>y=r.1):=by
   unfold gw ov uD oz jU;have ih:∀ x:ak,∀ q,LO ((e7 n).cB x v q) (λi=>(lA (m i)).jD x) (λr y=>y=r.1):=λx q=>R5 n hm;refine LO.br2 rfl (λ_=>LO.elL λx h0 hx=>LO.elL λy h1 hy=>LO.elR h0 hx (LO.elR h1 hy (LO.bind (ih x p) ?_))) λ_=>?_
   ·rintro ⟨x2,q⟩ _ rfl;refine LO.bind (ih y q) ?_;rintro ⟨y2,_⟩ _ rfl;exact LO.ok rfl
   by_cases Ji:e.an=13
   ·simp only[Ji,qS,bne_self_eq_false];refine LO.iter (λv w=>w=v.2) ?_ n hm _ _ rfl;rintro ⟨p,l,w⟩ _ rfl next next' hn;refine LO.br2 rfl (λ_=>LO.elL λd h0 hd=>LO.elR h0 hd ?_) λ_=>LO.ok rfl;refine λa ha=>?_;simp only[Jp,zU];simp only[aG.jn] at ha;by_cases h4:d.an=4
    ·simp only[h4,aG.br,qS] at ha;cases ha
    by_cases h8:d.an=8
    ·simp only[h8,aG.br,qS] at ha;cases ha
    have h4':(d.an==4)=false:=by simpa using h4
    have h8':(d.an==8)=false:=by simpa using h8
    rw[h4',h8'] at ha;by_cases hc:(d.an==1||(d.an==2||d.an==3))=true
    ·have hs:LO (aG.el d.bF 0 λx50=>ag ((e7 n).cB x50 v p) λy54=>aG.gd (ob 184 l.length (List.length [(y54.2,(aK.mk d.an d.cS d.jb d.B d.bE [y54.1] d.jf d.J d.oO d.iG d.cG)).2])) (aG.gd (cD (w+1)) (next (y54.2,l++[(aK.mk d.an d.cS d.jb d.B d.bE [y54.1] d.jf d.J d.oO d.iG d.cG)],w+1)))) (λi=>aG.el d.bF 0 λx41=>ag ((lA (m i)).jD x41) λy45=>aG.gd (ob 184 l.length (List.length [(aK.mk d.an d.cS d.jb d.B d.bE [y45] d.jf d.J d.oO d.iG d.cG)])) (aG.gd (cD (w+1)) (next' i (l++[(aK.mk d.an d.cS d.jb d.B d.bE [y45] d.jf d.J d.oO d.iG d.cG)],w+1)))) (λr y=>y=r.1):=by
      refine LO.elL λx h0 hx=>LO.elR h0 hx (LO.bind (ih x p) ?_);rintro ⟨x2,q⟩ _ rfl;exact LO.gdL λh1=>LO.gdL λh=>LO.gdR h1 (LO.gdR h (hn _ _ rfl))
     rw[hc];refine hs a ?_;by_cases h1:d.an=1
     ·simpa only [h1,aG.br,qS] using ha
     by_cases h2:d.an=2
     ·simpa only [h2,aG.br,qS,show ((2:Int)==1)=false from rfl] using ha
     have h3:d.an=3:=by simpa[h1,h2] using hc
     simpa only [h3,aG.br,qS,show ((3:Int)==1)=false from rfl,show ((3:Int)==2)=false from rfl] using ha
    have Pz:=hc;simp only[l8,not_or,vd] at Pz;rw[Pz.1,Pz.2.1,Pz.2.2] at ha ⊢;exact (LO.gdL λh1=>LO.gdL λh=>LO.gdR h1 (LO.gdR h (hn _ _ rfl)):LO (aG.gd (ob 184 l.length (List.length [((p,d):D×aK).2])) (aG.gd (cD (w+1)) (next (p,l++[d],w+1)))) _ _) a ha
   have h13':(e.an==13)=false:=by simpa using Ji
   simp only[h13',bne,r8];exact LO.ok rfl
  exact key a ha
def Ò:∀ (N:Nat) {m:Nat->Nat} {e:ak},bN m->SizeOf.sizeOf e<N->ij e->Ev (λi=>kg (m i) e) (λ_=>True) dt:=by
 intro N
 induction N with
 | zero=>intro m e _ h;exact aw h Gn
 | succ N ih=>
  intro m e hm hN he
  refine bV (F:=λn=>kg n e) hm λm hm=>?_
  show Ev (λi=>rS (m i) (n9 (m i)) e) _ _
  unfold rS
  refine cd (λhk=>?_) (λ_=>?_)
  ·have h2:=he.kd hk;refine W λx hx=>ai adM λ_ _=>ay pL λ_=>?_;exact W λx hx=>ai adM λ_ _=>aj trivial
  ·refine ay pL (λ_=>?_);have hl:=he.l2;refine bR hm (λ(x:Int)=>0<=x/\x<=e.fS.length) (λx=>(e.fS.length - x).toNat) ⟨bm,bm⟩ ?_;rintro x ⟨Hm,uz⟩ next hn;refine aS (λgR=>?_) pL;refine W λd hd=>ay pL λ_=>ay pL λ_=>?_;have hd:=aP hd;have DO:=he.d _ hd;have hn':Ev (λi=>aG.gd (cD (x+1)) (next i (x+1))) (λ_=>True) dt:=aF (hn _ ⟨aD,aD⟩ aD);refine bI (Jp d) (ay (λhc=>?_) λ_=>hn');have:=DO.kd (by simpa using hc);refine W λy hy=>?_;have hy:=aP hy;exact ai Y0 λ_ _=>ay pL λ_=>hn'
def R6:∀ (N:Nat) {m:Nat->Nat} {e:ak},bN m->SizeOf.sizeOf e<N->ij e->Ev (λi=>jD (m i) e) ij dt:=by
 intro N
 induction N with
 | zero=>intro m e _ h;exact aw h Gn
 | succ N ih=>
  intro m e hm hN he
  refine bV (F:=λn=>jD n e) hm λm hm=>?_
  show Ev (λi=>ov (m i) (lA (m i)) e) _ _
  unfold ov uD oz jU
  refine cd (λhk=>?_) (λ_=>?_)
  ·have h2:=he.kd hk;refine W λx hx=>W λy hy=>ai adM λx2 uz=>ai (ih hm (by have:=Qd (aP hy);omega) (he.s _ (aP hy))) λy2 KV=>?_;exact aj (.mk bm he.l2 he.l3 he.l4 Gq (by simp;exact ⟨uz,KV⟩) he.d)
  ·refine ay (λ_=>aj he) (λ_=>?_);have hl:=he.l2;refine bR hm (λ(x:List aK×Int)=>0<=x.2/\x.2<=e.fS.length/\x.1.length=x.2/\∀ d,d∈x.1->g d) (λx=>(e.fS.length - x.2).toNat) ⟨bm,bm,bm,bm⟩ ?_;rintro x ⟨uz,Wm,hx4,TK⟩ next hn;refine aS (λgR=>?_) (λ_=>aj (.mk he.l1 aD he.l3 he.l4 bm he.s TK));refine W λd hd=>?_;have hd:=aP hd;have DO:=he.d _ hd;have hn':∀ w,g w->Ev (λi=>aG.gd (ob 184 x.1.length (List.length [w])) (aG.gd (cD (x.2+1)) (next i (x.1++[w],x.2+1)))) ij dt:=λw hw=>aF (aF (hn _ ⟨eZ,eZ,rI,λz hz=>by
    rcases bL.1 hz with q|q
    ·exact TK z q
    simp at q;subst q;exact hw⟩ eZ))
   refine bI (Jp d) (ay (λhc=>?_) λ_=>hn' d DO);have:=DO.kd (by simpa using hc);refine W λy hy=>?_;have hy:=aP hy;exact ai Y0 λy2 KV=>hn' _ (.mk bm DO.l2 DO.l3 DO.l4 DO.l5 DO.l6 DO.l7 Gq (by simpa using KV) DO.d)
def PO {α:Type} (V:α->Prop) (x:aG α):Prop:=∀ a,x=.ok a->V a
section
variable {X:Type} {V V':α->Prop} {W:β->Prop}
def PO.ok {a:α} (h:V a):PO V (.ok a):=λ_ e=>by cases e;exact h
def bH:=@PO.ok
variable {p:sT} {x:aG α}
def PO.nil:PO V .stuck:=λ_ e=>by cases e
def AP:=@PO.nil
def PO.mono (h:PO V' x) (hv:∀ a,V' a->V a):PO V x:=λa e=>hv a (h a e)
variable {f:β->aG α}
def PO.bind {x:aG β} (h:PO W x) (hk:∀ a,W a->PO V (f a)):PO V (ag x f):=by
 intro a e;cases x with
 | stuck=>cases e
 | qH p=>cases e
 | ok b=>exact hk b (h b rfl) a e
def aE:=@PO.bind
def PO.any {x:aG β} (hk:∀ a,x=.ok a->PO V (f a)):PO V (ag x f):=aE (W:=λa=>x=.ok a) (λ_ e=>e) hk
def dE:=@PO.any
def PO.br {b:Bool} {y:aG α} (ht:b=true->PO V x) (hf:b=false->PO V y):PO V (aG.br b x y):=by
 cases b with
 | true=>exact ht rfl
 | false=>exact hf rfl
def A:=@PO.br
def PO.gd {p:Prop} [Decidable p] (h:p->PO V x):PO V (aG.gd p x):=by
 unfold aG.gd;split
 ·exact h ‹_›
 exact AP
def b8:=@PO.gd
variable {K:X->aG α}
def PO.el {l:List X} {j:Int} (h:∀ x,0<=j->l[j.toNat]?=some x->PO V (K x)):PO V (aG.el l j K):=by
 unfold aG.el;split
 ·split
  ·exact Ql
  exact AP
 exact AP
def P:=@PO.el
variable {j:X->aG α}
def PO.jn (J:X->Prop) {p:(X->aG α)->aG α} (hj:∀ v,J v->PO V (j v)) (hp:∀ j:X->aG α,(∀ v,J v->PO V (j v))->PO V (p j)):PO V (aG.jn j p):=hp j hj
def jR:=@PO.jn
def PO.iter (I:X->Prop) {body:(X->aG α)->X->aG α} {n:Nat} {x:X} (h0:I x) (hb:∀ (next:X->aG α) v,(∀ v,I v->PO V (next v))->I v->PO V (body next v)):PO V (aG.iter body n x):=by
 induction n generalizing x with
 | zero=>exact AP
 | succ n ih=>exact hb _ x (λv hv=>ih hv) h0
def ig:=@PO.iter
end
def zN (b:UInt8):Prop:=97<=b.toNat/\b.toNat<=122\/65<=b.toNat/\b.toNat<=90
abbrev BP:List ByS:=[[110,117,108,108],[116,114,117,101],[102,97,108,115,101],[98,111,111,108],[105,110,116],[110,117,109,98,101,114],[115,116,114,105,110,103],[108,101,116],[105,102],[102,111,114],[105,110],[112,97,99,107,97,103,101],[105,109,112,111,114,116]]
def wM (s:ByS):Prop:=s.length<=32/\s ∉ BP/\∃ c r,(s=c::r\/s=35::c::r\/s=95::c::r)/\zN c/\∀ x,x∈c::r->zN x\/x=95\/48<=x.toNat/\x.toNat<=57
def Gj:PO (λy=>y=true↔zN b) (nC (b.toNat:Int)):=by
 unfold nC zN;refine A (λh=>A (λq=>bH ?_) λq=>A (λr=>bH ?_) λr=>bH ?_) λh=>A (λr=>bH ?_) λr=>bH ?_<;>simp at *<;>omega
def C9:PO (λy=>y=true↔zN b) (ly (b.toNat:Int)):=Gj
def R7 {l:List ByS}:PO (λy=>y=true↔s∈l) (slices_Contains_string n l s):=by
 unfold slices_Contains_string;refine aE (W:=λy=>0<=y↔s∈l) ?_ λy hy=>bH (by simpa using hy);unfold slices_Index_string;refine ig (λ(v:Int)=>0<=v/\v<=l.length/\s ∉ l.take v.toNat) ⟨aD,aD,bm⟩ λnext v hn hv=>A (λ_=>P λx _ hx=>A (λq=>bH ?_) λq=>b8 λ_=>hn _ ?_) (λq=>bH ?_)
 ·simp at q;subst q;exact ⟨λ_=>aP hx,λ_=>hv.1⟩
 ·have hl:v.toNat<l.length:=(ao.1 hx).1;refine ⟨aD,aD,?_⟩;have e:(v+1).toNat=v.toNat+1:=by omega
  rw[e,pn,hx];simp at q ⊢;exact ⟨λw=>hv.2.2 w,q⟩
 have:v.toNat=l.length:=by simp at q;omega
 have h:=hv.2.2;rw[this,ql] at h;exact ⟨λw=>by omega,λw=>aw w h⟩
def X8 {t:ByS} {V:Bool->Prop} (ht:(∀ x,x∈t->zN x\/x=95\/48<=x.toNat/\x.toNat<=57)->V true) (hf:(∃ x,x∈t/\¬(zN x\/x=95\/48<=x.toNat/\x.toNat<=57))->V false) {m:Nat} :
  PO V (iter (λT3 (v26:Int)=>br (decide (v26<(List.length t:Int))) (el t v26 λb35=>ag (nC (b35.toNat:Int)) λy39=>br (!y39) (el t v26 λb41=>br ((b41.toNat:Int) !=95) (el t v26 λb46=>br (decide ((b46.toNat:Int)<48)) (.ok (false)) (el t v26 λb52=>br (decide ((b52.toNat:Int)>57)) (.ok (false)) (gd (cD (v26+1)) (T3 (v26+1))))) (gd (cD (v26+1)) (T3 (v26+1)))) (gd (cD (v26+1)) (T3 (v26+1)))) (.ok (true))) m (0)):=by
 refine ig (λ(v:Int)=>0<=v/\v<=t.length/\∀ x,x∈t.take v.toNat->zN x\/x=95\/48<=x.toNat/\x.toNat<=57) ⟨aD,aD,bm⟩ λnext v hn hv=>A (λ_=>P λx _ hx=>?_) (λq=>bH (ht ?_))
 ·have hl:v.toNat<t.length:=(ao.1 hx).1
  have e:(v+1).toNat=v.toNat+1:=by omega
  have go:(zN x\/x=95\/48<=x.toNat/\x.toNat<=57)->PO V (gd (cD (v+1)) (next (v+1))):=λhg=>b8 λ_=>hn _ ⟨aD,aD,λy hy=>by
   rw[e,pn,hx] at hy
   simp at hy
   rcases hy with hy|rfl
   ·exact hv.2.2 y hy
   ·exact hg⟩
  refine aE Gj λy hy=>A (λq=>?_) λq=>go (.inl (hy.1 FZ))
  have IG:¬zN x:=λw=>by rw[hy.2 w] at q;cases q
  refine P λx' _ tn=>?_
  rw[hx] at tn;cases tn
  refine A (λq2=>P λx' _ tn=>?_) λq2=>go (.inr (.inl ?_))
  ·rw[hx] at tn;cases tn
   have uv:x≠95:=λw=>by subst w;simp at q2
   refine A (λq3=>bH (hf ⟨x,aP hx,?_⟩)) λq3=>P λx' _ tn=>?_
   ·simp at q3;rintro (w|w|w)
    ·exact IG w
    ·exact uv w
    ·omega
   ·rw[hx] at tn;cases tn
    refine A (λq4=>bH (hf ⟨x,aP hx,?_⟩)) λq4=>go (.inr (.inr ?_))
    ·simp at q4;rintro (w|w|w)
     ·exact IG w
     ·exact uv w
     ·omega
    ·simp at q3 q4;omega
  ·simp at q2
   exact acC
 ·have:v.toNat=t.length:=by simp at q;omega
  have h:=hv.2.2
  rwa [this,ql] at h
def IdV (s v:ByS):Prop:=s=35::v\/s=95::v\/v=s/\s.head?≠some 35/\s.head?≠some 95
abbrev IdR (v:ByS):Prop:=∃ c r,v=c::r/\zN c/\∀ x,x∈v->zN x\/x=95\/48<=x.toNat/\x.toNat<=57
def ak_:¬zN 35:=by unfold zN;decide
def ala:¬zN 95:=by unfold zN;decide
def Ó {v:ByS} (h1:s.length<=32) (h2:s ∉ BP) (hv:IdV s v):IdR v↔wM s:=by
 constructor
 ·rintro ⟨c,r,rfl,hc,hr⟩;refine ⟨h1,h2,c,r,?_,hc,hr⟩;rcases hv with e|e|e
  ·exact .inr (.inl e)
  ·exact .inr (.inr e)
  exact .inl e.1.symm
 rintro ⟨_,_,c,r,e,hc,hr⟩;refine ⟨c,r,?_⟩;rcases hv with q|q|q
 ·rcases e with e|e|e
  ·rw[q] at e;cases e;exact aw hc ak_
  ·rw[q] at e;cases e;exact Zg
  rw[q] at e;cases e
 ·rcases e with e|e|e
  ·rw[q] at e;cases e;exact aw hc ala
  ·rw[q] at e;cases e
  rw[q] at e;cases e;exact Zg
 rcases e with e|e|e
 ·rw[q.1,e];exact Zg
 ·rw[e] at q;exact aw rfl q.2.1
 rw[e] at q;exact aw rfl q.2.2
def K6:PO (λy=>y=true↔wM s) (dT n s):=by
 unfold dT;refine A (λh=>bH ⟨λq=>DQ,λq=>by have:=q.1;simp at h;omega⟩) λh=>aE R7 λy hy=>A (λh2=>bH ⟨λq=>DQ,λq=>aw (hy.1 h2) q.2.1⟩) λh2=>?_;have hn:s ∉ BP:=λw=>by rw[hy.2 w] at h2;cases h2
 have hl:s.length<=32:=by simp at h;omega
 refine jR (IdV s) (λv hv=>?_) λj hj=>?_
 ·have key:=Ó hl hn hv;have no:¬IdR v->PO (λy=>y=true↔wM s) (.ok false):=λw=>bH ⟨λq=>DQ,λq=>aw (key.2 q) w⟩;refine A (λh3=>no ?_) λh3=>P λb _ hb=>?_
  ·rintro ⟨c,r,rfl,_⟩;simp at h3;omega
  cases v with
  | nil=>cases hb
  | cons c r=>
   have hbc:c=b:=jy hb
   subst hbc
   refine aE Gj λy hy=>A (λq=>no ?_) λq=>?_
   ·rintro ⟨c',r',e,hc,_⟩;cases e;rw[hy.2 hc] at q;cases q
   ·have hc:zN c:=hy.1 FZ;refine X8 (λw=>⟨λ_=>key.1 ⟨c,r,rfl,hc,w⟩,λ_=>rfl⟩) λ⟨x,hx,w⟩=>⟨λq=>DQ,λq=>?_⟩;obtain ⟨c',r',e,_,hr⟩:=key.2 q;exact aw (hr x hx) w
 refine A (λh3=>P λb _ hb=>?_) λh3=>hj _ ?_
 ·cases s with
  | nil=>cases hb
  | cons a t=>
   have hba:a=b:=jy hb
   subst hba
   refine A (λq=>b8 λ_=>hj _ (.inl ?_)) λq=>P λb _ hb=>?_
   ·exact acQ
   ·have hba:a=b:=jy hb;subst hba;refine A (λq2=>b8 λ_=>hj _ (.inr (.inl ?_))) λq2=>hj _ (.inr (.inr ⟨rfl,?_,?_⟩))
    ·exact acP
    ·intro w;cases w;simp at q
    intro w;cases w;simp at q2
 cases s with
 | nil=>exact .inr (.inr ⟨rfl,by simp,by simp⟩)
 | cons a t=>simp at h3
def O1 (h:wM s):PO (λy=>y=true) (fu n s):=by
 have hs:=h.2.2;obtain ⟨c,r,e,hc,hr⟩:=hs;have hp:1<=s.length:=by rcases e with rfl|rfl|rfl<;>simp
 unfold fu vG;refine A (λq=>by simp at q;omega) λ_=>A (λq=>by have:=h.1;simp at q;omega) λ_=>?_;show PO _ (iter _ n 0);refine ig (λ_=>True) trivial λnext v hn _=>A (λ_=>P λx _ hx=>A (λq=>?_) λ_=>b8 λ_=>hn _ trivial) λ_=>?_
 ·simp at q;subst q;exact aw (aP hx) h.2.1
 have key:∀ v:Int,0<=v->s.drop v.toNat=c::r->PO (λy=>y=true) (br (decide (v>=(List.length s:Int))) (.ok (false)) (el s v λb35=>ag (ly (b35.toNat:Int)) λy39=>br (!y39) (.ok (false)) (iter (λT4 (v44:Int)=>br (decide (v44<(List.length s:Int))) (el s v44 λb52=>ag (ly (b52.toNat:Int)) λy56=>br (!y56) (el s v44 λb58=>ag (k9 (b58.toNat:Int)) λy62=>br (!y62) (el s v44 λb64=>br ((b64.toNat:Int) !=95) (.ok (false)) (gd (cD (v44+1)) (T4 (v44+1)))) (gd (cD (v44+1)) (T4 (v44+1)))) (gd (cD (v44+1)) (T4 (v44+1)))) (.ok (true))) n (v)))):=by
  intro v h0 hd;refine A (λq=>?_) λ_=>P λb _ hb=>aE C9 λy hy=>A (λq=>?_) λ_=>?_
  ·simp at q;rw[dR aD] at hd;cases hd
  ·have:s[v.toNat]?=some c:=by rw[<- List.head?_drop,hd];rfl
   rw[hb] at this;cases this;rw[hy.2 hc] at q;cases q
  refine ig (λw=>v<=w) JF λnext w hn hw=>A (λ_=>P λx _ hx=>?_) λ_=>bH rfl;have hm:x∈c::r:=by
   rw[<- hd];have:(s.drop v.toNat)[w.toNat - v.toNat]?=some x:=by rw[dz,<- hx];congr 1;omega
   exact aP this
  have go:PO (λy=>y=true) (gd (cD (w+1)) (next (w+1))):=b8 λ_=>hn _ aD;refine aE C9 λy hy=>A (λq=>P λx' _ tn=>?_) λ_=>go;rw[hx] at tn;cases tn;have:¬zN x:=λw=>by rw[hy.2 w] at q;cases q
  unfold k9;rcases hr x hm with w|w|w
  ·exact aw w this
  ·subst w;refine dE λy _=>A (λ_=>P λx' _ tn=>?_) λ_=>go;rw[hx] at tn;cases tn;exact A JD λ_=>go
  refine aE (W:=λy=>y=true) (A (λ_=>bH rI) λq=>by simp at q;omega) λy hy=>A (λq=>by rw[hy] at q;cases q) λ_=>go
 refine jR (λv=>0<=v/\s.drop v.toNat=c::r) (λv hv=>key v hv.1 hv.2) λj hj=>P λb _ hb=>A (λq=>hj _ ⟨aD,?_⟩) λq=>P λb' _ xH=>A (λq2=>hj _ ⟨aD,?_⟩) λq2=>hj _ ⟨aD,?_⟩
 ·rcases e with rfl|rfl|rfl
  ·cases hb;simp at q;exact aw (show zN c from hc) (by unfold zN;omega)
  ·rfl
  cases hb;simp at q
 ·rw[hb] at xH;cases xH;rcases e with rfl|rfl|rfl
  ·cases hb;simp at q2;exact aw (show zN c from hc) (by unfold zN;omega)
  ·rfl
  rfl
 rw[hb] at xH;cases xH;rcases e with rfl|rfl|rfl
 ·rfl
 ·cases hb;simp at q
 cases hb;simp at q2
section
def Ev.po {α:Type} {F:Nat->aG α} {Q V:α->Prop} {R:sT->Prop} (h:Ev F Q R) (hp:∀ i,PO V (F i)):Ev F (λa=>Q a/\V a) R:=by
 obtain ⟨r,h1,N,hN⟩:=h;refine ⟨r,?_,N,hN⟩;cases r with
 | stuck=>exact h1
 | qH p=>exact h1
 | ok a=>exact ⟨h1,hp N a (hN N JN)⟩
def Ms:PO (λy=>y=true->wM s) (fu n s):=by
 have no:PO (λy=>y=true->wM s) (.ok false):=bH dC;unfold fu vG;refine A (λ_=>no) λh1=>A (λ_=>no) λh2=>?_;have hl:s.length<=32:=by simp at h2;omega
 show PO _ (iter _ n 0);refine ig (λ(v:Int)=>0<=v/\v<=BP.length/\s ∉ BP.take v.toNat) ⟨aD,dN,bm⟩ λnext v hn hv=>A (λq=>P λx _ hx=>A (λ_=>no) λq=>b8 λ_=>hn _ ?_) λq=>?_
 ·have hl:v.toNat<BP.length:=(ao.1 hx).1;refine ⟨aD,aD,?_⟩;have e:(v+1).toNat=v.toNat+1:=by omega
  have tn:BP[v.toNat]?=some x:=hx;rw[e,pn,tn];simp at q ⊢;exact ⟨λw=>hv.2.2 w,q⟩
 have hn:s ∉ BP:=by
  have hq:¬ (v<(List.length BP:Int)):=aU q;have:v.toNat=BP.length:=by omega
  have h:=hv.2.2;rwa [this,ql] at h
 refine jR (λv=>0<=v/\IdV s (s.drop v.toNat)) (λv hv=>?_) λj hj=>?_
 ·have key:=Ó hl hn hv.2;refine A (λ_=>no) λh3=>P λb _ hb=>aE C9 λy hy=>A (λ_=>no) λq=>?_;have xH:(s.drop v.toNat)[0]?=some b:=by rw[dz];simpa using hb
  obtain ⟨r,hr⟩:∃ r,s.drop v.toNat=b::r:=by
   cases hd:s.drop v.toNat with
   | nil=>rw[hd] at xH;cases xH
   | cons c r=>rw[hd] at xH;cases xH;exact ⟨r,rfl⟩
  refine ig (λ(w:Int)=>v<=w/\∀ x,x∈(s.drop v.toNat).take (w - v).toNat->zN x\/x=95\/48<=x.toNat/\x.toNat<=57) ⟨aD,bm⟩ λnext w hn hw=>A (λq2=>P λx _ hx=>?_) λq2=>bH λ_=>key.1 ⟨b,r,hr,hy.1 FZ,?_⟩
  ·have go:(zN x\/x=95\/48<=x.toNat/\x.toNat<=57)->PO (λy=>y=true->wM s) (gd (cD (w+1)) (next (w+1))):=λhg=>b8 λ_=>hn _ ⟨aD,λy hy=>by
    have e:(w+1 - v).toNat=(w - v).toNat+1:=by omega
    rw[e,pn,dz,show v.toNat+(w - v).toNat=w.toNat by omega,hx] at hy;simp at hy;rcases hy with hy|rfl
    ·exact hw.2 y (by simpa using hy)
    exact hg⟩
   refine aE C9 λy hy=>A (λq3=>P λx' _ tn=>?_) λq3=>go (.inl (hy.1 (by simpa using q3)));rw[hx] at tn;cases tn;unfold k9;have dig:PO (λy=>y=true->48<=x.toNat/\x.toNat<=57) (br (decide ((x.toNat:Int)>=48)) (.ok ((decide ((x.toNat:Int)<=57)))) (.ok (false))):=A (λa=>bH λb=>by simp at a b;omega) λ_=>bH dC;refine aE dig λz hz=>A (λq4=>P λx' _ tn=>?_) λq4=>go (.inr (.inr (hz (by simpa using q4))));rw[hx] at tn;cases tn;refine A (λ_=>no) λq5=>go (.inr (.inl ?_));simp at q5;exact acC
  have q2:¬ (w<(s.length:Int)):=aU q2;have h:=hw.2;rwa [dI rI] at h
 refine P λb _ hb=>?_;cases s with
 | nil=>cases hb
 | cons a t=>
  have hba:a=b:=jy hb
  subst hba
  refine A (λq=>hj _ ⟨dN,.inl ?_⟩) λq=>P λb _ hb=>?_
  ·exact acQ
  ·have hba:a=b:=jy hb;subst hba;refine A (λq2=>hj _ ⟨dN,.inr (.inl ?_)⟩) λq2=>hj _ ⟨dN,.inr (.inr ⟨rfl,?_,?_⟩)⟩
   ·exact acP
   ·intro w;cases w;simp at q
   intro w;cases w;simp at q2
variable {m:Nat->Nat}
def zO (hm:bN m):Ev (λi=>fu (m i) s) (λy=>y=true↔wM s) dt:=by
 refine (Ev.po (Q:=λ_=>True) (V:=λy=>y=true↔wM s) ?_ λi y hy=>⟨λq=>Ms y hy q,λq=>O1 q y hy⟩).oB λ_ h=>h.2;have L:∀ {c:Int},Ev (λ_:Nat=>ly c) (λ_=>True) dt:=by
  intro c;unfold ly;(repeat' (with_reducible first|refine aF ?_|refine W (λ_ _=>?_)|apply ba|apply aH|refine dH (λ_=>?_) (λ_=>?_)|(apply cW;try dsimp only)));all_goals exact aj trivial
 have D:∀ {c:Int},Ev (λ_:Nat=>k9 c) (λ_=>True) dt:=by
  intro c;unfold k9;(repeat' (with_reducible first|refine aF ?_|refine W (λ_ _=>?_)|apply ba|apply aH|refine dH (λ_=>?_) (λ_=>?_)|(apply cW;try dsimp only)));all_goals exact aj trivial
 unfold fu vG;refine ay pL λhp=>ay pL λhl=>?_;have hp:1<=s.length:=by simp at hp;omega
 have hl:s.length<=32:=by simp at hl;omega
 refine bR (X:=Int) hm (λ(v:Int)=>0<=v/\v<=13) (λv=>(13 - v).toNat) ⟨dN,dN⟩ ?_;intro v hv next hn;refine ay (λq=>?_) λ_=>?_
 ·have q:v<13:=by simpa using q
  exact gL hv.1 q λx hx=>ay pL λ_=>aF (hn _ ⟨by omega,by omega⟩ aD)
 refine bD (λv=>0<=v/\v<=1) (λv hv=>ay pL λq=>?_) λj hj=>gL dN aD λx _=>ay (λ_=>hj _ ⟨dN,dN⟩) λ_=>gL dN aD λx _=>ay (λ_=>hj _ ⟨dN,dN⟩) λ_=>hj _ ⟨dN,dN⟩;have q:v<s.length:=by simpa using q
 refine gL hv.1 q λx _=>ai L λ_ _=>ay pL λ_=>?_;refine bR hm (λ(w:Int)=>0<=w/\w<=s.length) (λw=>(s.length - w).toNat) ⟨aD,aD⟩ ?_;intro w hw Nl IN;refine ay (λq2=>?_) λ_=>aj trivial;have q2:w<s.length:=by simpa using q2
 have go:Ev (λi=>gd (cD (w+1)) (Nl i (w+1))) (λ_=>True) dt:=aF (IN _ ⟨aD,aD⟩ aD);refine gL hw.1 q2 λx _=>ai L λ_ _=>ay (λ_=>gL hw.1 q2 λx _=>ai D λ_ _=>ay (λ_=>gL hw.1 q2 λx _=>ay pL λ_=>go) λ_=>go) λ_=>go
def T5 (hm:bN m) {y:Bool} (h:dT n s=.ok y):Ev (λi=>fu (m i) s) (λz=>z=y) dt:=by
 have h1:=K6 (n:=n) (s:=s) y h;refine (zO hm).oB λz hz=>?_;rw[cV];exact hz.trans h1.symm
end
section
def Np {α:Type} (x:aG α):Prop:=∀ p,x≠.qH p
section
variable {X:Type} {x y:aG α}
def Np.ok {a:α}:Np (.ok a):=λ_ e=>by cases e
def Da:=@Np.ok
def Np.nil:Np (.stuck:aG α):=λ_ e=>by cases e
def vO:=@Np.nil
def Np.bind {x:aG β} {f:β->aG α} (h:Np x) (hf:∀ a,Np (f a)):Np (ag x f):=by
 cases x with
 | stuck=>exact vO
 | qH p=>exact aw rfl (h p)
 | ok a=>exact hf a
def Np.br {b:Bool} (h:Np x) (h':Np y):Np (aG.br b x y):=by cases b<;>assumption
def Bq:=@Np.br
def Np.gd {p:Prop} [Decidable p] (h:Np x):Np (aG.gd p x):=by
 unfold aG.gd;split
 ·exact h
 exact vO
def rF:=@Np.gd
def Np.el {l:List X} {j:Int} {K:X->aG α} (h:∀ z,Np (K z)):Np (aG.el l j K):=by
 unfold aG.el;split
 ·split
  ·exact h _
  exact vO
 exact vO
def Np.jn {j:X->aG α} {p:(X->aG α)->aG α} (h:Np (p j)):Np (aG.jn j p):=h
def Np.iter {body:(X->aG α)->X->aG α} (hb:∀ (next:X->aG α) v,(∀ v,Np (next v))->Np (body next v)):∀ (n:Nat) (v:X),Np (aG.iter body n v)
 | 0,_=>vO
 | n+1,v=>hb _ v λv=>Np.iter hb n v
def z8:=@Np.iter
def LK.np {γ:Type} {x:aG γ} {f:γ->aG α} {F:Nat->aG β} {V:α->β->Prop} {W:sT->β->Prop} (h:Np x) (hk:∀ a,x=.ok a->LK (f a) F V W):LK (ag x f) F V W:=by
 cases x with
 | stuck=>exact dc
 | qH p=>exact aw rfl (h p)
 | ok a=>exact hk a rfl
def Db:=@LK.np
end
variable {y:ah}
def Br {l:List ByS}:Np (slices_Contains_string n l x):=by
 unfold slices_Contains_string slices_Index_string
 (repeat' (with_reducible first|exact Da|exact vO|exact hn _|exact h0|exact Br|exact AQ|refine Np.bind ?_ λ_=>?_|refine Bq ?_ ?_|refine rF ?_|refine Np.el λ_=>?_|(refine Np.jn ?_;dsimp only)|refine z8 (λ_ _ hn=>?_) _ _))
def AQ {s:ByS}:Np (dT n s):=by
 have h0:∀ {c:Int},Np (nC c):=by
  intro c;unfold nC;(repeat' (with_reducible first|exact Da|exact vO|exact hn _|exact h0|exact Br|exact AQ|refine Np.bind ?_ λ_=>?_|refine Bq ?_ ?_|refine rF ?_|refine Np.el λ_=>?_|(refine Np.jn ?_;dsimp only)|refine z8 (λ_ _ hn=>?_) _ _))
 unfold dT
 (repeat' (with_reducible first|exact Da|exact vO|exact hn _|exact h0|exact Br|exact AQ|refine Np.bind ?_ λ_=>?_|refine Bq ?_ ?_|refine rF ?_|refine Np.el λ_=>?_|(refine Np.jn ?_;dsimp only)|refine z8 (λ_ _ hn=>?_) _ _))
def kx (t:aB) (x:ByS):Bool:=t.an==5&&t.bJ==x
def E1 (t:aB) (x:ByS):Bool:=t.an==1&&t.bJ==x
def Gk (t:aB) (x:ByS):eg t x=.ok (kx t x):=by
 unfold eg kx;cases t.an==5<;>rfl
def K7 (t:aB) (x:ByS):kc t x=.ok (E1 t x):=by
 unfold kc E1;cases t.an==1<;>rfl
def R8 (b:Int) (t:aB) (x:ByS):cg (oL b t) x=.ok (kx t x):=by
 unfold cg kx oL;cases t.an==5<;>rfl
def K8 (b:Int) (t:aB) (x:ByS):kt (oL b t) x=.ok (E1 t x):=by
 unfold kt E1 oL;cases t.an==1<;>rfl
def lC (h:kx t x=true):t.an=5/\t.bJ=x:=by simpa[kx] using h
def Gx (h:E1 t x=true):t.an=1/\t.bJ=x:=by simpa[E1] using h
abbrev RX (s:ByS) (T:List aB) (b a:Int) (k:Bool):ah:=X7 s b (T.map (oL b)) a k 0 0
abbrev RF (s:ByS) (T:List aB) (b a:Int) (k:Bool) (v:Int):ah:=X7 s b (T.map (oL b)) a k 8 v
def FS (s:ByS) (T:List aB) (b v:Int) (x:ah):Prop:=∃ a k,x=RF s T b a k v/\0<=a/\a<T.length
section
variable {T:List aB} {b:Int} {V:α->β->Prop} {W:sT->β->Prop} {F:Nat->aG β} {m:Nat->Nat} {k0:Bool}
def Nx.fs (h:Nx T k a a' t):FS s T b v (RF s T b a' k v):=⟨a',k,rfl,h.ge,h.lt⟩
def Iz (h:Nx T k a a' t):Tk (cY n (H s T a b k q)) (t.cG+b,H s T a' b k q):=by
 unfold cY jg;rcases xi (n:=n) (s:=s) (b:=b) (q:=q) h with e|e
 ·rw[e];exact .inl rfl
 rw[e,zU];exact dY λ_=>iw (by rw[Int.add_comm])
variable {f:D->aG α} {K:Nat->ah->aG β}
def LK.uf (h:Nx T k a a' t) (hw:Ev F (W (PF (t.cG+b))) dt):LK (ag (bY n (H s T a b k q)) f) F V W:=by
 unfold bY;rcases Iz (n:=n) (s:=s) (b:=b) (q:=q) h with e|e
 ·rw[e];exact dc
 rw[e,zU];exact sw hw
def nI:=@LK.uf
def LK.fail {p:D} (hw:Ev F (W (PF v)) dt):LK (ag (jJ v p) f) F V W:=sw hw
def LK.accept (h:Nx T k a a' t) {f:Bool×D->aG α} (ht:kx t x=true->LK (f (true,H s T (a'+1) b k q)) F V W) (hf:kx t x=false->LK (f (false,H s T a' b k q)) F V W):LK (ag (di n x (H s T a b k q)) f) F V W:=by
 unfold di;rcases xi (n:=n) (s:=s) (b:=b) (q:=q) h with e|e
 ·rw[e];exact dc
 rw[e,zU];dsimp only;rw[Gk,zU];cases hi:kx t x with
 | true=>
  by_cases hg:cD (a'+1)
  ·simp only[iC,aG.br,aG.gd,hg,if_true,zU];exact ht hi
  ·simp only[iC,aG.br,aG.gd,hg,if_false];exact dc
 | false=>exact hf hi
def rG:=@LK.accept
def LK.tok (h:Nx T k a a' t) {f:aB×D->aG α} (hk:LK (f (t,H s T a' b k q)) F V W):LK (ag (bq n (H s T a b k q)) f) F V W:=gU (xi h) hk
def gQ:=@LK.tok
def LK.pos (h:Nx T k a a' t) {f:Int×D->aG α} (hk:LK (f (t.cG+b,H s T a' b k q)) F V W):LK (ag (cY n (H s T a b k q)) f) F V W:=gU (Iz h) hk
def rH:=@LK.pos
def LK.op {f:Bool->aG α} (hk:LK (f (kx t x)) F V W):LK (ag (eg t x) f) F V W:=nH (Gk t x) hk
def lB:=@LK.op
def LK.word {f:Bool->aG α} (hk:LK (f (E1 t x)) F V W):LK (ag (kc t x) f) F V W:=nH (K7 t x) hk
def s5:=@LK.word
def qK (hm:bN m) (hC:PC s T b) (h:Nx T k a a' t) (h0:t.an≠0):Ev (λi=>bu (m i) (X7 s b (T.map (oL b)) a k en ea)) (λr=>r=(oL b t,X7 s b (T.map (oL b)) (a'+1) k en ea)) dt:=by
 unfold bu jg;have:=hC.pJ;have hn:=h.DP hC h0;have:=h.ge;refine ai MG ?_;rintro _ rfl;exact aF (aS (λ_=>aF uY) λq=>aw (by simpa using hn) q)
def yI (hm:bN m) (hC:PC s T b) (h:FS s T b v y):Ev (λi=>bu (m i) y) (λr=>FS s T b v r.2) dt:=by
 obtain ⟨a,k,rfl,h0,h1⟩:=h;obtain ⟨a',t,h⟩:=pZ hC k h0 h1;unfold bu jg;have:=hC.pJ;have:=h.lt;have:=h.ge;refine ai MG ?_;rintro _ rfl;exact aF (aS (λq=>aF (aj ⟨a'+1,k,rfl,by omega,by simpa using q⟩)) λq=>aj h.fs)
def Aa (hm:bN m) (hC:PC s T b) (h:FS s T b v y):Ev (λi=>aY (m i) y) (λr=>FS s T b v r.2) dt:=by
 obtain ⟨a,k,rfl,h0,h1⟩:=h;obtain ⟨a',t,h⟩:=pZ hC k h0 h1;exact (kF hm hC h).oB λr e=>by subst e;exact h.fs
def Ab (h:FS s T b v y) {w:Int}:bO w y=.ok y:=by
 obtain ⟨a,k,rfl,_⟩:=h;rfl
def AU (h:FS s T b v y):cL y=.ok (false,y):=by
 obtain ⟨a,k,rfl,_⟩:=h;rfl
def UC (t:aB) (x:ByS):Ev (λ_=>cg t x) (λ_=>True) dt:=by
 unfold cg;exact ay pL λ_=>aj trivial
def Wx (t:aB) (x:ByS):Ev (λ_=>kt t x) (λ_=>True) dt:=by
 unfold kt;exact ay pL λ_=>aj trivial
def Wy (hm:bN m) (t:aB):Ev (λi=>oa (m i) t) (λ_=>True) dt:=by
 unfold oa;exact ay (λ_=>ai (zO hm) λ_ _=>aj trivial) λ_=>aj trivial
def Jv (hm:bN m) (hC:PC s T b) (h:FS s T b v y):Ev (λi=>cF (m i) x y) (FS s T b v) dt:=by
 unfold cF;exact ai Gy λr hr=>ai DV λ_ _=>ay Zd λ_=>ai (yI hm hC hr) λr hr=>aj hr
def MC (hm:bN m) (hC:PC s T b) (h:FS s T b v y):Ev (λi=>iN (m i) x y) (FS s T b v) dt:=by
 unfold iN;exact ai Gy λr hr=>ai (Wx _ _) λ_ _=>ay Zd λ_=>ai (yI hm hC hr) λr hr=>aj hr
def Ô (hm:bN m) (hC:PC s T b) (h:FS s T b v y):Ev (λi=>iO (m i) y) (λr=>FS s T b v r.2) dt:=by
 unfold iO;exact ai Gy λr hr=>ai (Wy hm _) λ_ _=>ay Zd λ_=>ai (yI hm hC hr) λr hr=>aj hr
def xn (hm:bN m) (hC:PC s T b) (h:FS s T b v y):Ev (λi=>ca (m i) x k0 y) (FS s T b v) dt:=by
 unfold ca;refine ai (Jv hm hC h) ?_;rintro _ ⟨a,k,rfl,h⟩;exact aj ⟨a,k0,rfl,h⟩
def Õ (hm:bN m) (hC:PC s T b) (h:FS s T b v y):Ev (λi=>eH (m i) y) (λr=>FS s T b v r.2) dt:=by
 unfold eH;refine ai (yI hm hC h) ?_;rintro ⟨_,_⟩ ⟨a,k,rfl,h⟩;exact aj ⟨a,true,rfl,h⟩
def JU (hm:bN m) (h:FS s T b v y) {e:ak} (he:ij e):Ev (λi=>eo (m i) e t y) (λr=>FS s T b v r.2/\ij r.1) dt:=by
 unfold eo;exact ai (Ò _ hm ND he) λ_ _=>ay (λ_=>bI (Ab h) (aj ⟨h,.leaf dN⟩)) λ_=>ai (R6 _ hm ND he) λ_ hp=>aj ⟨h,hp⟩
def Ns (hm:bN m) (hC:PC s T b) (h:Nx T k a a' t) (ht:kx t x=true):Ev (λi=>cF (m i) x (RX s T b a k)) (λr=>r=RX s T b (a'+1) k) dt:=by
 unfold cF;refine ai MG ?_;rintro _ rfl;refine bI (R8 b t x) ?_;rw[ht];exact aH (ai (qK hm hC h.self Xa) λr e=>by subst e;exact aj rfl)
def Ö (hm:bN m) (hC:PC s T b) (h:Nx T k a a' t) (ht:kx t x=false):Ev (λi=>cF (m i) x (RX s T b a k)) (λr=>r=RF s T b a' k (t.cG+b)) dt:=by
 unfold cF;refine ai MG ?_;rintro _ rfl;refine bI (R8 b t x) ?_;rw[ht];exact ba uY
def LK.expect (hm:bN m) (hC:PC s T b) (h:Nx T k a a' t) (hk:kx t x=true->LK (f (H s T (a'+1) b k q)) (λi=>K i (RX s T b (a'+1) k)) V W) (hw:∀ v r,FS s T b v r->Ev (λi=>K i r) (W (PF v)) dt):LK (ag (cT n x (H s T a b k q)) f) (λi=>ag (cF (m i) x (RX s T b a k)) (K i)) V W:=by
 refine cq (U:=λp y=>kx t x=true/\p=H s T (a'+1) b k q/\y=RX s T b (a'+1) k) (W0:=λp y=>∃ v,p=PF v/\FS s T b v y) ?_ ?_ ?_
 ·unfold cT;refine rG h (λht=>?_) λht=>?_
  ·have e:=Ns hm hC h ht;exact ⟨λa ha=>e.oB λr er=>⟨ht,by cases ha;rfl,er⟩,λp hp=>by cases hp⟩
  have e:=Ö hm hC h ht;exact nI h.self (e.oB λr er=>⟨_,rfl,by subst er;exact h.fs⟩)
 ·rintro _ _ ⟨ht,rfl,rfl⟩;exact hk ht
 rintro _ y ⟨v,rfl,hy⟩;exact hw v y hy
def LK.closing (hm:bN m) (hC:PC s T b) (h:Nx T k a a' t) (hk:kx t x=true->LK (f (H s T a' b k q)) (λi=>K i (RX s T b (a'+1) k0)) V W) (hw:∀ v r,FS s T b v r->Ev (λi=>K i r) (W (PF v)) dt):LK (ag (cz n x (H s T a b k q)) f) (λi=>ag (ca (m i) x k0 (RX s T b a k)) (K i)) V W:=by
 refine cq (U:=λp y=>kx t x=true/\p=H s T a' b k q/\y=RX s T b (a'+1) k0) (W0:=λp y=>∃ v,p=PF v/\FS s T b v y) ?_ ?_ ?_
 ·unfold cz ca;refine gQ h (lB ?_);cases ht:kx t x with
  | true=>
   refine bn (Ns hm hC h ht) ?_
   exact bZ JH
  | false=>
   refine bn (Ö hm hC h ht) ?_
   exact nI h.self (aj ⟨_,rfl,⟨a',k0,rfl,h.ge,h.lt⟩⟩)
 ·rintro _ _ ⟨ht,rfl,rfl⟩;exact hk ht
 rintro _ y ⟨v,rfl,hy⟩;exact hw v y hy
def LK.keyword (hm:bN m) (hC:PC s T b) (h:Nx T k a a' t) (hk:E1 t x=true->LK (f (H s T (a'+1) b k q)) (λi=>K i (RX s T b (a'+1) k)) V W) (hw:∀ v r,FS s T b v r->Ev (λi=>K i r) (W (PF v)) dt):LK (ag (dW n x (H s T a b k q)) f) (λi=>ag (iN (m i) x (RX s T b a k)) (K i)) V W:=by
 refine cq (U:=λp y=>E1 t x=true/\p=H s T (a'+1) b k q/\y=RX s T b (a'+1) k) (W0:=λp y=>∃ v,p=PF v/\FS s T b v y) ?_ ?_ ?_
 ·unfold dW iN;refine gQ h (s5 (bn MG ?_));dsimp only;rw[K8];refine bn uY ?_;cases ht:E1 t x with
  | true=>exact bK λ_=>bn (qK hm hC h.self (by have:=(Gx ht).1;omega)) (bZ JH)
  | false=>exact nI h.self (aj ⟨_,rfl,h.fs⟩)
 ·rintro _ _ ⟨ht,rfl,rfl⟩;exact hk ht
 rintro _ y ⟨v,rfl,hy⟩;exact hw v y hy
def He (hm:bN m) {y:Bool} (hk:t.an=1) (h:dT n t.bJ=.ok y):Ev (λi=>oa (m i) (oL b t)) (λz=>z=y) dt:=by
 unfold oa;have h1:((oL b t).an==1)=true:=by simpa[oL] using hk
 rw[h1];exact ba (ai (T5 hm h) λz hz=>aj hz)
def Wz (hk:t.an≠1):oa n (oL b t)=.ok false:=by
 unfold oa;have h1:((oL b t).an==1)=false:=by simpa[oL] using hk
 rw[h1];rfl
def LK.name (hm:bN m) (hC:PC s T b) (h:Nx T k a a' t) {f:ByS×D->aG α} {K:Nat->ByS×ah->aG β} (hk:t.an=1->wM t.bJ->LK (f (t.bJ,H s T (a'+1) b k q)) (λi=>K i (t.bJ,RX s T b (a'+1) k)) V W)
  (hw:∀ v r,FS s T b v r.2->Ev (λi=>K i r) (W (PF v)) dt):LK (ag (eN n (H s T a b k q)) f) (λi=>ag (iO (m i) (RX s T b a k)) (K i)) V W:=by
 refine cq (U:=λp y=>(t.an=1/\wM t.bJ)/\p=(t.bJ,H s T (a'+1) b k q)/\y=(t.bJ,RX s T b (a'+1) k)) (W0:=λp y=>∃ v,p=PF v/\FS s T b v y.2) ?_ ?_ ?_
 ·unfold eN iO
  refine gQ h (fP (bn MG ?_))
  dsimp only
  by_cases h1:t.an=1
  ·refine aI (λq=>aw h1 FZ) λ_=>?_
   refine Db AQ λy hy=>bn (He hm h1 hy) ?_
   have hid:=K6 y hy
   cases y with
   | true=>exact bK λ_=>bn (qK hm hC h.self aD) (bZ ⟨⟨h1,hid.1 rfl⟩,rfl,rfl⟩)
   | false=>exact nI h.self (aj ⟨_,rfl,h.fs⟩)
  ·refine bn (G:=λi=>oa (m i) (oL b t)) (b:=false) (nU (r:=.ok false) (N:=0) (λi _=>Wz h1) rfl) ?_
   exact aI (λ_=>nI h.self (aj ⟨_,rfl,h.fs⟩)) λq=>aw FZ h1
 ·rintro _ _ ⟨ht,rfl,rfl⟩
  exact hk ht.1 ht.2
 ·rintro _ y ⟨v,rfl,hy⟩
  exact hw v y hy
end
end
end Go.Abs
