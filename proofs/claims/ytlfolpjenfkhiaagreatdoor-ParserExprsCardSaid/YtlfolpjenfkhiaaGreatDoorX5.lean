/- PROVED: lemmas of the proof of: configlanglaw26.ParserExprs returns true for every input. CONDITIONS: as each lemma states. -/
import Derived.Test.YtlfolpjenfkhiaaGreatDoorX4
set_option linter.all false
namespace Go.Abs
open Go.Proofs aG
set_option maxRecDepth 100000
set_option maxHeartbeats 2000000
structure bo where
 nL:ByS->Int->aG (ak×Bool)
 c8:Bool->D->aG (ak×D)
 iX:D->aG ((List ak)×D)
 kU:(List ak)->D->aG ((List ak)×D)
 dA:Int->Bool->D->aG (ak×D)
 eY:Bool->D->aG ((List aK)×(List ByS)×D)
 kl:Bool->(List aK)->(List ByS)->D->aG (Bool×(List aK)×(List ByS)×D)
 fN:Bool->D->aG (ak×D)
 da:Bool->D->aG (ak×D)
 fe:Bool->D->aG (aK×D)
 iJ:Bool->D->aG ((List aK)×(List ByS)×D)
 fY:Bool->D->aK->aG (D×aK)
 aW:Bool->D->aG (ak×D)
 iq:Bool->D->aK->aG (D×aK)
 fo:aB->Int->D->aG (ak×D)
 eB:D->aG (ak×D)
 iY:D->aG (ak×D)
 kV:ak->D->aG (ak×D)
 iu:D->aG (ak×D)
 dU:Bool->D->aG (ak×D)
 jK:Bool->ak->D->aG (Bool×ak×D)
 fZ:Bool->D->aK->aG (D×aK)
 eG:Bool->D->aG (ak×D)
 jq:ak->D->aG (ak×D)
 eU:Bool->D->aG (ak×D)
 ei:Bool->D->aG (ak×D)
 jr:Bool->D->Bool->(List aK)->(List ByS)->aG (D×Bool×(List aK)×(List ByS))
 hU:Bool->D->Bool->ak->aG (D×Bool×ak)
 fT:Bool->D->ak->aG (D×ak)
 hY:Bool->D->ak->aG (D×ak)
 ia:Bool->D->(List ak)->aG (D×(List ak))
def sZ (n:Nat) (e:bo) (b:ByS) (g:Int):aG (ak×Bool):=
 ag (pc n b) λa=>br (a.2.dX !=0) (.ok (ak.mk 0 [] 0 [] [] [] [] [] 0,false)) (ag (fM n a.1) λj=>br j (.ok (ak.mk 0 [] 0 [] [] [] [] [] 0,false)) (Ar (ag (e.aW false (D.mk b a.1 0 g true none)) λc=>ag (bq n c.2) λi=>.ok (c.1,(i.1.an==0))) (λf=>HU 71 f λh=>ag (wg h) λd=>.ok (d.1,d.2))))
def fb (n:Nat) (a:bo) (d:Bool) (b:D):aG (ak×D):=
 br (Option.isNone (Option.map ak.C b.Z)) (ag (cY n b) λh=>ag (di n [42] h.2) λc=>br c.1 (ag (a.da false c.2) λe=>.ok (ak.mk 18 [] 0 [] [] [e.1] [] [] h.1,e.2)) (ag (a.da d c.2) λf=>.ok (f.1,f.2))) (ag (a.da d b) λg=>.ok (g.1,g.2))
def kW (n:Nat) (b:bo) (c:D):aG ((List ak)×D):=
 ag (cT n [40] c) λd=>oz [[6,103,0,26592,9,38]] (ag (b.ia true d []) λa=>gd (cD (a.1.bB+1)) (oz [[11,103,0]] (.ok (a.2,D.mk a.1.bM a.1.M (a.1.bB+1) a.1.base a.1.skip a.1.Z))))
def gy (n:Nat) (f:bo) (c:(List ak)) (d:D):aG ((List ak)×D):=
 ag (bq n d) λa=>ag (eg a.1 [41]) λl=>br (!l) (YE [0,1,3,4,2,5,6] 7 8 (ag (f.aW false (D.mk a.2.bM a.2.M a.2.bB d.base a.2.skip a.2.Z)) λh=>gd (ob 144 c.length (List.length [ak.mk 0 [] 0 [] [] [] [] [] 0])) (jU [[24,1,0]] (jU [[2,111,3],[0,1],[0,1,2]] (dG [0,1] [0] (λ_=>[]) (λb=>[(1,.box [.arr 3 b.1.length]),(2,.box (F b.2)),(3,.arr 38 9 (ak.Cs b.1))]) (λi (b:(List ak)×D)=>ag (di n [44] b.2) λe=>br e.1 (YE [0,1,3,4,2,5,6] 7 8 (ag (f.aW false e.2) λg=>gd (ob 144 b.1.length (List.length [ak.mk 0 [] 0 [] [] [] [] [] 0])) (jU [[24,1,0]] (jU [[2,120,3],[0,1],[0,1,2]] (i (b.1++[g.1],g.2)))))) (ag (cz n [41] e.2) λj=>.ok (b.1,j))) n (c++[h.1],h.2)))))) (ag (cz n [41] (D.mk a.2.bM a.2.M a.2.bB d.base a.2.skip a.2.Z)) λk=>.ok (c,k))
def gz (n:Nat) (f:bo) (d:Int) (g:Bool) (h:D):aG (ak×D):=
 br (decide (d>4)) (ag (f.ei g h) λk=>.ok (k.1,k.2)) (gd (cD (d+1)) (ag (f.dA (d+1) g h) λl=>dG [0,1,2,6,7] [106] (λ_=>[]) (λb=>[(0,.box (F b.1)),(107,.box (Q b.2))]) (λm (b:D×ak)=>ag (bq n b.1) λa=>ag (qh d) λo=>ag (nB n a.1 o) λp=>br p (jg 6 (ag (cY n (D.mk a.2.bM a.2.M a.2.bB b.1.base a.2.skip a.2.Z)) λi=>ag (cB n b.2 i.1 i.2) λe=>ag (bq n e.2) λc=>gd (cD (c.2.bB+1)) (uD [0,1,2,3,4,7,8,5,6,9,10] (gd (cD (d+1)) (ag (f.dA (d+1) false (D.mk c.2.bM c.2.M (c.2.bB+1) e.2.base c.2.skip c.2.Z)) λj=>m (j.2,ak.mk 20 c.1.bJ 0 [] [] [e.1,j.1] [] [] e.1.cG)))))) (.ok (b.2,D.mk a.2.bM a.2.M a.2.bB b.1.base a.2.skip a.2.Z))) n (l.2,l.1)))
def km (n:Nat) (b:bo) (c:Bool) (d:D):aG ((List aK)×(List ByS)×D):=
 ag (cT n [123] d) λe=>oz [[7,106]] (oz [[7,107]] (ag (b.jr false e c [] []) λa=>gd (cD (a.1.bB+1)) (jg 4 (.ok (a.2.2.1,a.2.2.2,D.mk a.1.bM a.1.M (a.1.bB+1) a.1.base a.1.skip a.1.Z)))))
def mO (n:Nat) (c:bo) (b:Bool) (f:(List aK)) (g:(List ByS)) (d:D):aG (Bool×(List aK)×(List ByS)×D):=
 ag (c.iJ b d) λa=>ag (cz n [125] a.2.2) λe=>.ok (b,a.1,a.2.1,e)
def jL (n:Nat) (f:bo) (e:Bool) (g:D):aG (ak×D):=
 ag (cY n g) λb=>gV 0 [0,1,4,5] [0,104] (λ_=>[]) (λa=>[(105,.box [I a.an,eu a.bJ,I a.U,eu a.B,eu a.bE,.pv (.sl (List.length ([]:List ak)) (ak.Cs [])),.pv (.sl (List.length ([]:List aK)) (aK.Cs [])),.pv (.sl (List.length ([]:List ByS)) (hO [])),I a.cG])]) (λ(a:ak)=>ag (f.eY e b.2) λc=>.ok (ak.mk a.an a.bJ a.U a.B a.bE [] c.1 c.2.1 a.cG,c.2.2)) λd=>br e (d ((ak.mk 13 [] 0 [] [] [] [] [] b.1))) (d ((ak.mk 22 [] 0 [] [] [] [] [] b.1)))
def fG (n:Nat) (c:bo) (d:Bool) (h:D):aG (ak×D):=
 ag (c.dA 0 d h) λf=>dG [0,1,4,5] [104] (λ_=>[]) (λa=>[(0,.box (F a.1)),(105,.box (Q a.2))]) (λg (a:D×ak)=>ag (di n [38] a.1) λb=>br b.1 (uD [0,1,2,5,6,3,4,7,8] (ag (c.dA 0 d b.2) λe=>g (e.2,ak.mk 16 [] 0 [] [] [a.2,e.1] [] [] a.2.cG))) (.ok (a.2,b.2))) n (f.2,f.1)
def kX (n:Nat) (c:bo) (h:Bool) (s:D):aG (aK×D):=
 ag (bq n s) λb=>ag (cY n (D.mk b.2.bM b.2.M b.2.bB s.base b.2.skip b.2.Z)) λf=>ag (cX 1 f.2) λo=>gV 0 [0,1,4,6] [104] (λ_=>[]) (λi=>[(0,.box (F i.1)),(106,.box (qo i.2))]) (λ(i:D×aK)=>.ok (i.2,i.1)) λg=>gV 0 [0,1,4,5,6] [0,104,105,106] (λj=>[(21,Bo j)]) (λ_=>[]) (λ(j:Bool)=>br j (ag (c.iq h o.2 (aK.mk 0 0 [] [] [] [] [] [] [] [] f.1)) λt=>g (t.1,t.2)) (ag (fw n o.2) λa=>br a.1 (ag (c.fZ h a.2 (aK.mk 0 0 [] [] [] [] [] [] [] [] f.1)) λu=>g (u.1,u.2)) (ag (kc b.1 [108,101,116]) λb0=>br b0 (gV 0 [0,1,4,6] [104,106] (λ_=>[]) (λd=>[(0,.box (F d))]) (λ(d:D)=>gd (cD (d.bB+1)) (ag (eN n (D.mk d.bM d.M (d.bB+1) d.base d.skip d.Z)) λv=>ag (cT n [61] v.2) λc0=>ag (c.aW true c0) λw=>g (w.2,aK.mk 4 0 v.1 [] [] [w.1] [] [] [] [] f.1))) λq=>br (!h) (ag (bY n a.2) λd0=>q d0) (q a.2)) (ag (eg b.1 [46,46,46]) λe0=>br e0 (gV 0 [0,1,4,6] [104,106] (λ_=>[]) (λe=>[(0,.box (F e))]) (λ(e:D)=>gd (cD (e.bB+1)) (g (D.mk e.bM e.M (e.bB+1) e.base e.skip e.Z,aK.mk 8 0 [] [] [] [] [] [] [] [] f.1))) λr=>br (!h) (ag (bY n a.2) λf0=>r f0) (r a.2)) (ag (kc b.1 [105,102]) λg0=>br g0 (gd (cD (a.2.bB+1)) (ag (c.aW false (D.mk a.2.bM a.2.M (a.2.bB+1) a.2.base a.2.skip a.2.Z)) λx=>ag (c.eY false x.2) λk=>g (k.2.2,aK.mk 5 0 [] [] [] [x.1] k.1 k.2.1 [] [] f.1))) (ag (kc b.1 [102,111,114]) λh0=>br h0 (gd (cD (a.2.bB+1)) (ag (ke n (D.mk a.2.bM a.2.M (a.2.bB+1) a.2.base a.2.skip a.2.Z)) λl=>ag (dW n [105,110] l.2) λi0=>ag (c.aW false i0) λy=>ag (c.eY false y.2) λm=>g (m.2.2,aK.mk 6 0 [] l.1.x0 l.1.x1 [y.1] m.1 m.2.1 [] [] f.1))) (ag (eg b.1 [40]) λj0=>br j0 (ag (c.fY h a.2 (aK.mk 0 0 [] [] [] [] [] [] [] [] f.1)) λz=>g (z.1,z.2)) (ag (c.aW h a.2) λa0=>g (a0.2,aK.mk 3 0 [] [] [] [a0.1] [] [] [] [] f.1))))))))) λp=>ag (oF n b.1) λk0=>br k0 (ag (nB n o.1 [58,32,63,32,33]) λl0=>p l0) (p false)
def rQ (n:Nat) (r:bo) (s:Bool) (t:D):aG ((List aK)×(List ByS)×D):=
 jU [[3,1,10001,1,9]] (jU [[4,8,10008,11,43]] (dG [0,2] [] (λa=>[(1,.arr 10001 a.2.1.length),(8,.arr 10008 a.2.2.1.length),(9,I a.2.2.2.1),(10,Bo a.2.2.2.2)]) (λa=>[(0,.box (F a.1)),(10001,.app 9 1 (hO a.2.1)),(10008,.arr 43 11 (aK.Cs a.2.2.1))]) (λh (a:D×(List ByS)×(List aK)×Int×Bool)=>ag (kS n a.1) λg=>br (!g.1) (ag (bq n g.2) λb=>gV 0 [0,1,2,8,9,10,11] [0,111,10001,10008] (λj=>[(31,Bo j)]) (λ_=>[]) (λ(j:Bool)=>br j (gd (cD (b.2.bB+1)) (h (D.mk b.2.bM b.2.M (b.2.bB+1) g.2.base b.2.skip b.2.Z,a.2.1,a.2.2.1,a.2.2.2.1,true))) (gV 0 [0,1,2,8,9,10,11] [111,10001,10008] (λd=>[(46,Bo d.2)]) (λd=>[(0,.box (F d.1))]) (λ(d:D×Bool)=>br d.2 (gd (cD ((a.2.2.1.length:Int) - 1)) (el a.2.2.1 ((a.2.2.1.length:Int) - 1) λf=>jU [[17,8]] (gd (cD (d.1.bB+1)) (h (D.mk d.1.bM d.1.M (d.1.bB+1) d.1.base d.1.skip d.1.Z,a.2.1,List.set a.2.2.1 ((a.2.2.1.length:Int) - 1).toNat (aK.mk f.an f.cS f.jb f.B f.bE f.bF f.jf f.J f.oO b.1.bJ f.cG),a.2.2.2.1,a.2.2.2.2))))) (gV 0 [0,1,2,8,9,10,11] [111,10001,10008] (λe=>[(74,Bo e.2)]) (λe=>[(0,.box (F e.1))]) (λ(e:D×Bool)=>br e.2 (gd (ob 16 a.2.1.length (List.length [b.1.bJ])) (jU [[1,186,10001],[0,1,2,8,9,10],[10008,0]] (gd (cD (e.1.bB+1)) (h (D.mk e.1.bM e.1.M (e.1.bB+1) e.1.base e.1.skip e.1.Z,a.2.1++[b.1.bJ],a.2.2.1,a.2.2.2.1,a.2.2.2.2))))) (gV 0 [0,1,2,8,9,10] [0,10001,10008] (λk=>[(94,Bo k)]) (λ_=>[]) (λ(k:Bool)=>br k (ag (bY n e.1) λu=>h (u,a.2.1,a.2.2.1,a.2.2.2.1,a.2.2.2.2)) (ag (r.fe s e.1) λc=>oz [[22,21]] (gd (ob 184 a.2.2.1.length (List.length [aK.mk c.1.an c.1.cS c.1.jb c.1.B c.1.bE c.1.bF c.1.jf c.1.J a.2.1 c.1.iG c.1.cG])) (jU [[2,126,10008],[0,1,2,8],[0]] (jU [[3,1,10001,1,9]] (h (c.2,[],a.2.2.1++[aK.mk c.1.an c.1.cS c.1.jb c.1.B c.1.bE c.1.bF c.1.jf c.1.J a.2.1 c.1.iG c.1.cG],c.2.bB,false))))))) λo=>br (b.1.an==6) (o true) (o ((!a.2.2.2.2))))) λm=>br (b.1.an==6) (ag (im n d.1) λp=>m (p.2,p.1)) (m (d.1,false)))) λi=>br (b.1.an==6) (br (decide (a.2.2.2.1>0)) (ag (iH n a.2.2.2.1 (D.mk b.2.bM b.2.M b.2.bB g.2.base b.2.skip b.2.Z)) λq=>i (q.2,q.1)) (i (D.mk b.2.bM b.2.M b.2.bB g.2.base b.2.skip b.2.Z,false))) (i (D.mk b.2.bM b.2.M b.2.bB g.2.base b.2.skip b.2.Z,false)))) λl=>br (b.1.an==7) (l true) (ag (eg b.1 [44]) λv=>l v)) (oz [[22,105]] (tG [[12,6]] (.ok (a.2.2.1,a.2.1,g.2))))) n (t,[],[],(-1),true)))
def kI (n:Nat) (e:bo) (f:Bool) (j:D) (a:aK):aG (D×aK):=
 ag (e.dU f j) λd=>ag (bq n d.2) λb=>ag (eg b.1 [58]) λk=>br k (ag (cY n (D.mk b.2.bM b.2.M b.2.bB d.2.base b.2.skip b.2.Z)) λi=>ag (cB n d.1 i.1 i.2) λc=>gd (cD (c.2.bB+1)) (ag (e.aW false (D.mk c.2.bM c.2.M (c.2.bB+1) c.2.base c.2.skip c.2.Z)) λg=>.ok (g.2,aK.mk 7 a.cS a.jb a.B a.bE [c.1,g.1] a.jf a.J a.oO a.iG a.cG))) (ag (e.aW f (D.mk b.2.bM b.2.M b.2.bB d.2.base b.2.skip (some d.1))) λh=>.ok (h.2,aK.mk 3 a.cS a.jb a.B a.bE [h.1] a.jf a.J a.oO a.iG a.cG))
def iK (n:Nat) (k:bo) (f:Bool) (i:D):aG (ak×D):=
 jnF 1 (λe=>[(0,.ptr 0 0),(1,Bo f),(4,.ptr 104 0),(5,Bo e.2)]) (λe=>[(0,.box (F e.1)),(104,.box oE)]) (λ(e:D×Bool)=>jnF 0 (λa=>[(0,.ptr 0 0),(1,Bo f),(4,.ptr 104 0),(5,Bo e.2),(6,.ptr 106 0)]) (λa=>[(0,.box (F a.1)),(104,.box oE),(106,.box (Q a.2))]) (λ(a:D×ak)=>jnF 0 (λg=>[(0,.ptr 0 0),(1,Bo f),(4,.ptr 104 0),(6,.ptr 106 0)]) (λg=>[(0,.box (F g)),(104,.box oE),(106,.box (Q a.2))]) (λ(g:D)=>jnF 0 (λj=>[(0,.ptr 0 0),(1,Bo f),(4,.ptr 104 0),(6,.ptr 106 0)]) (λj=>[(0,.box (F j)),(104,.box oE),(106,.box (Q a.2))]) (λ(j:D)=>Cz 7 (ag (cY n j) λs=>ag (cB n a.2 s.1 s.2) λt=>oz [[20,45]] (jU [[1,145,10007],[0,1,4,7],[0,104]] (Ni (λd=>[(0,.ptr 0 0),(1,Bo f),(4,.ptr 104 0),(7,.arr 10007 d.2.length)]) (λd=>[(0,.box (F d.1)),(104,.box oE),(10007,.app 38 9 (ak.Cs d.2))]) (λw (d:D×(List ak))=>ag (di n [124] d.1) λl=>br l.1 (ag (k.c8 false l.2) λm=>gd (ob 144 d.2.length (List.length [m.1])) (jU [[1,152,10007],[0,1,4,7],[0,104]] (w (m.2,d.2++[m.1])))) (oz [[22,53]] (oz [[22,54]] (el d.2 0 λx=>tG [[7,104]] (.ok (ak.mk 17 [] 0 [] [] d.2 [] [] x.cG,l.2)))))) n (t.2,[t.1]))))) λo=>ag (bq n g) λb=>ag (eg b.1 [124]) λy=>br (!y) (ag (bY n (D.mk b.2.bM b.2.M b.2.bB g.base b.2.skip b.2.Z)) λz=>o z) (o ((D.mk b.2.bM b.2.M b.2.bB g.base b.2.skip b.2.Z)))) λr=>br (!e.2) (ag (bq n a.1) λc=>ag (eg c.1 [124]) λa0=>br (!a0) (.ok (a.2,D.mk c.2.bM c.2.M c.2.bB a.1.base c.2.skip c.2.Z)) (r ((D.mk c.2.bM c.2.M c.2.bB a.1.base c.2.skip c.2.Z)))) (r a.1)) λq=>br f (ag (k.c8 (!e.2) e.1) λu=>q (u.2,u.1)) (ag (k.c8 false e.1) λv=>q (v.2,v.1))) λp=>br (Option.isNone (Option.map ak.C i.Z)) (ag (bq n i) λh=>ag (eg h.1 [42]) λb0=>p (D.mk h.2.bM h.2.M h.2.bB i.base h.2.skip h.2.Z,b0)) (p (i,false))
def ko (n:Nat) (i:bo) (j:Bool) (g:D) (a:aK):aG (D×aK):=
 ag (bq n g) λc=>gd (cD (c.2.bB+1)) (gV 1 [0,1,2] [] (λ_=>[]) (λb=>[(0,.box (F b.1)),(1,.box (qo b.2))]) (λ(b:D×aK)=>ag (cT n [58] b.1) λk=>ag (i.aW j k) λh=>.ok (h.2,aK.mk b.2.an b.2.cS b.2.jb b.2.B b.2.bE [h.1] b.2.jf b.2.J b.2.oO b.2.iG b.2.cG)) λd=>ag (di n [63] (D.mk c.2.bM c.2.M (c.2.bB+1) g.base c.2.skip c.2.Z)) λe=>br e.1 (d (e.2,aK.mk 1 3 c.1.bJ a.B a.bE a.bF a.jf a.J a.oO a.iG a.cG)) (ag (di n [33] e.2) λf=>br f.1 (d (f.2,aK.mk 1 2 c.1.bJ a.B a.bE a.bF a.jf a.J a.oO a.iG a.cG)) (d (f.2,aK.mk 1 1 c.1.bJ a.B a.bE a.bF a.jf a.J a.oO a.iG a.cG))))
def jM (n:Nat) (g:bo) (h:aB) (c:Int) (i:D):aG (ak×D):=
 ag (pT n h.bJ) λf=>jU [[6,109,5,26981,9,38]] (dG [0,1,2,6,9,23,24] [106] (λa=>[(25,I a.2.2)]) (λa=>[(0,.box (F a.1)),(109,.box [I a.2.1.an,eu a.2.1.bJ,I a.2.1.U,eu a.2.1.B,eu a.2.1.bE,.arr 26981 a.2.1.bF.length,nSl,nSl,I a.2.1.cG]),(26981,.arr 38 9 (ak.Cs a.2.1.bF))]) (λe (a:D×ak×Int)=>br (decide (a.2.2<f.1.length)) (el f.1 a.2.2 λb=>gd (cD (c+1)) (gd (cD ((c+1)+b.cG)) (br (!b.Code) (gd (ob 144 a.2.1.bF.length (List.length [ak.mk 4 b.bJ 0 [] [] [] [] [] ((c+1)+b.cG)])) (jU [[2,144,26981],[0,1,2,6,9,11,12,23,24,25],[0,106,109,111]] (gd (cD (a.2.2+1)) (e (a.1,ak.mk a.2.1.an a.2.1.bJ a.2.1.U a.2.1.B a.2.1.bE (a.2.1.bF++[ak.mk 4 b.bJ 0 [] [] [] [] [] ((c+1)+b.cG)]) [] [] a.2.1.cG,a.2.2+1))))) (ag (g.nL b.bJ ((c+1)+b.cG)) λd=>br (!d.2) (ag (jJ c a.1) λj=>gd (ob 144 a.2.1.bF.length (List.length [d.1])) (jU [[2,162,26981],[0,1,2,6,9,23,24,25],[0,106,109]] (gd (cD (a.2.2+1)) (e (j,ak.mk a.2.1.an a.2.1.bJ a.2.1.U a.2.1.B a.2.1.bE (a.2.1.bF++[d.1]) [] [] a.2.1.cG,a.2.2+1))))) (gd (ob 144 a.2.1.bF.length (List.length [d.1])) (jU [[2,162,26981],[0,1,2,6,9,23,24,25],[0,106,109]] (gd (cD (a.2.2+1)) (e (a.1,ak.mk a.2.1.an a.2.1.bJ a.2.1.U a.2.1.B a.2.1.bE (a.2.1.bF++[d.1]) [] [] a.2.1.cG,a.2.2+1))))))))) (oz [[11,109,5]] (tG [[7,106]] (.ok (ak.mk a.2.1.an a.2.1.bJ a.2.1.U a.2.1.B a.2.1.bE a.2.1.bF [] [] a.2.1.cG,a.1))))) n (i,ak.mk 5 [] 0 [] [] [] [] [] c,0))
def iL (n:Nat) (g:bo) (l:D):aG (ak×D):=
 ag (cY n l) λf=>ag (bq n f.2) λc=>ag (kc c.1 [102,111,114]) λs=>br (!s) (ag (g.aW false (D.mk c.2.bM c.2.M c.2.bB f.2.base c.2.skip c.2.Z)) λk=>.ok (k.1,k.2)) (ag (dW n [102,111,114] (D.mk c.2.bM c.2.M c.2.bB f.2.base c.2.skip c.2.Z)) λm=>ag (ke n m) λe=>ag (dW n [105,110] e.2) λo=>jU [[6,104,5,26661,9,38]] (Cz 8 (ag (g.aW false o) λd=>gd (ob 144 (List.length ([]:List ak)) (List.length [d.1])) (jU [[2,126,26661],[0,2,4],[0,102,104]] (gV 0 [0,2,4] [102] (λ_=>[]) (λa=>[(0,.box (F a.1)),(104,.box [I a.2.an,eu a.2.bJ,I a.2.U,eu a.2.B,eu a.2.bE,.arr 26661 a.2.bF.length,nSl,nSl,I a.2.cG]),(26661,.arr 38 9 (ak.Cs a.2.bF))]) (λ(a:D×ak)=>ag (cT n [58] a.1) λp=>Cz 8 (ag (g.aW false p) λh=>gd (ob 144 a.2.bF.length (List.length [h.1])) (jU [[2,147,26661],[0,2,4],[0,102,104]] (oz [[11,104,5]] (tG [[7,102]] (.ok (ak.mk a.2.an a.2.bJ a.2.U a.2.B a.2.bE (a.2.bF++[h.1]) [] [] a.2.cG,h.2))))))) λj=>ag (bq n d.2) λb=>ag (kc b.1 [105,102]) λq=>br q (ag (dW n [105,102] (D.mk b.2.bM b.2.M b.2.bB d.2.base b.2.skip b.2.Z)) λr=>Cz 8 (ag (g.aW false r) λi=>gd (ob 144 (List.length ([]++[d.1])) (List.length [i.1])) (jU [[2,138,26661],[0,2,4],[0,102,104]] (j (i.2,ak.mk 15 [] 0 e.1.x0 e.1.x1 (([]++[d.1])++[i.1]) [] [] f.1))))) (j (D.mk b.2.bM b.2.M b.2.bB d.2.base b.2.skip b.2.Z,ak.mk 15 [] 0 e.1.x0 e.1.x1 ([]++[d.1]) [] [] f.1)))))))
def kY (n:Nat) (c:bo) (d:D):aG (ak×D):=
 ag (cY n d) λb=>ag (cT n [91] b.2) λe=>oz [[6,103,5,26597,9,38]] (oz [[7,103]] (ag (c.hY true e (ak.mk 14 [] 0 [] [] [] [] [] b.1)) λa=>gd (cD (a.1.bB+1)) (oz [[11,103,5]] (.ok (a.2,D.mk a.1.bM a.1.M (a.1.bB+1) a.1.base a.1.skip a.1.Z)))))
def gC (n:Nat) (g:bo) (o:ak) (p:D):aG (ak×D):=
 dG [0,1] [0] (λa=>[(2,Bo a.2.2)]) (λa=>[(1,.box [I a.1.an,eu a.1.bJ,I a.1.U,eu a.1.B,eu a.1.bE,.arr 3 a.1.bF.length,ac8 a.1.fS,Av a.1.J,I a.1.cG]),(2,.box (F a.2.1)),(3,.arr 38 9 (ak.Cs a.1.bF))]) (λm (a:ak×D×Bool)=>ag (bq n a.2.1) λb=>ag (eg b.1 [93]) λu=>br (!u) (gV 1 [0,1] [0,1,3] (λ_=>[]) (λf=>[(2,.box (F f))]) (λ(f:D)=>ag (cY n f) λj=>ag (di n [46,46,46] j.2) λe=>br e.1 (gV 2 [0,1,4] [0,1,3] (λ_=>[]) (λd=>[(2,.box (F d.1)),(104,.box (Q d.2))]) (λ(d:D×ak)=>YE [0,1,2,3,4,5,6,8] 7 9 (gd (ob 144 a.1.bF.length (List.length [ak.mk 0 [] 0 [] [] [] [] [] 0])) (jU [[24,1,5]] (jU [[2,131,3],[0,1],[0,1,2]] (ag (cz n [93] d.1) λq=>.ok (ak.mk a.1.an a.1.bJ 1 a.1.B a.1.bE (a.1.bF++[d.2]) a.1.fS a.1.J a.1.cG,q)))))) λi=>ag (bq n e.2) λc=>ag (eg c.1 [93]) λr=>br (!r) (ag (g.aW false (D.mk c.2.bM c.2.M c.2.bB e.2.base c.2.skip c.2.Z)) λk=>i (k.2,k.1)) (jU [[8,104,5]] (jU [[8,104,6]] (jU [[8,104,7]] (i (D.mk c.2.bM c.2.M c.2.bB e.2.base c.2.skip c.2.Z,ak.mk 6 [] 0 [] [] [] [] [] j.1)))))) (YE [0,1,2,4,5,3,6,7,9] 8 10 (ag (g.eB e.2) λl=>gd (ob 144 a.1.bF.length (List.length [ak.mk 0 [] 0 [] [] [] [] [] 0])) (jU [[24,1,5]] (jU [[2,140,3],[0,1],[0,1,2]] (m (ak.mk a.1.an a.1.bJ a.1.U a.1.B a.1.bE (a.1.bF++[l.1]) a.1.fS a.1.J a.1.cG,l.2,false))))))) λh=>br (!a.2.2) (ag (cT n [44] (D.mk b.2.bM b.2.M b.2.bB a.2.1.base b.2.skip b.2.Z)) λs=>h s) (h ((D.mk b.2.bM b.2.M b.2.bB a.2.1.base b.2.skip b.2.Z)))) (ag (cz n [93] (D.mk b.2.bM b.2.M b.2.bB a.2.1.base b.2.skip b.2.Z)) λt=>.ok (a.1,t))) n (o,p,true)
def kp (n:Nat) (m:bo) (k:D):aG (ak×D):=
 ag (bq n k) λa=>ag (cY n (D.mk a.2.bM a.2.M a.2.bB k.base a.2.skip a.2.Z)) λb=>gV 1 [0,2,5] [0,102] (λ_=>[]) (λc=>[(105,.box [I c.an,eu c.bJ,I c.U,eu c.B,eu c.bE,.pv (.sl (List.length ([]:List ak)) (ak.Cs [])),.pv (.sl (List.length ([]:List aK)) (aK.Cs [])),.pv (.sl (List.length ([]:List ByS)) (hO [])),I c.cG])]) (λ(c:ak)=>gd (cD (b.2.bB+1)) (.ok (ak.mk c.an c.bJ c.U c.B c.bE [] [] [] c.cG,D.mk b.2.bM b.2.M (b.2.bB+1) b.2.base b.2.skip b.2.Z))) λg=>br (a.1.bJ==([110,117,108,108]:ByS)) (g ((ak.mk 1 [] 0 [] [] [] [] [] b.1))) (gV 0 [0,2,3,5,13] [0,102,103,105] (λh=>[(29,Bo h)]) (λ_=>[]) (λ(h:Bool)=>br h (br (a.1.bJ==([116,114,117,101]:ByS)) (g ((ak.mk 2 [] 1 [] [] [] [] [] b.1))) (g ((ak.mk 2 [] 0 [] [] [] [] [] b.1)))) (gV 0 [0,2,3,5] [0,102,103,105] (λi=>[(37,Bo i)]) (λ_=>[]) (λ(i:Bool)=>br i (jg 6 (g ((ak.mk 8 a.1.bJ 0 [] [] [] [] [] b.1)))) (ag (eN n b.2) λe=>ag (bq n e.2) λd=>ag (eg d.1 [40]) λo=>br o (ag (m.iX (D.mk d.2.bM d.2.M d.2.bB e.2.base d.2.skip d.2.Z)) λl=>.ok (ak.mk 21 e.1 0 [] [] l.1 [] [] b.1,l.2)) (.ok (ak.mk 10 e.1 0 [] [] [] [] [] b.1,D.mk d.2.bM d.2.M d.2.bB e.2.base d.2.skip d.2.Z)))) λf=>br (a.1.bJ==([98,111,111,108]:ByS)) (f ((a.1.bJ==([98,111,111,108]:ByS)))) (br (a.1.bJ==([105,110,116]:ByS)) (f ((a.1.bJ==([105,110,116]:ByS)))) (br (a.1.bJ==([110,117,109,98,101,114]:ByS)) (f ((a.1.bJ==([110,117,109,98,101,114]:ByS)))) (f ((a.1.bJ==([115,116,114,105,110,103]:ByS)))))))) λj=>br (a.1.bJ==([116,114,117,101]:ByS)) (j ((a.1.bJ==([116,114,117,101]:ByS)))) (j ((a.1.bJ==([102,97,108,115,101]:ByS)))))
def jN (n:Nat) (b:bo) (c:Bool) (d:D):aG (ak×D):=
 ag (cT n [40] d) λe=>ag (b.hU true e c (ak.mk 0 [] 0 [] [] [] [] [] 0)) λa=>gd (cD (a.1.bB+1)) (.ok (a.2.2,D.mk a.1.bM a.1.M (a.1.bB+1) a.1.base a.1.skip a.1.Z))
def mn (n:Nat) (c:bo) (a:Bool) (f:ak) (d:D):aG (Bool×ak×D):=
 ag (c.aW a d) λb=>ag (cz n [41] b.2) λe=>.ok (a,b.1,e)
def js (n:Nat) (d:bo) (e:Bool) (f:D) (b:aK):aG (D×aK):=
 jg 8 (ag (cT n [91] f) λh=>ag (mN n true h (aK.mk 2 b.cS ([46,42]:ByS) b.B b.bE b.bF b.jf b.J b.oO b.iG b.cG)) λa=>gd (cD (a.1.bB+1)) (ag (cT n [58] (D.mk a.1.bM a.1.M (a.1.bB+1) a.1.base a.1.skip a.1.Z)) λg=>jg 8 (ag (d.aW e g) λc=>.ok (c.2,aK.mk a.2.an a.2.cS a.2.jb a.2.B a.2.bE [c.1] a.2.jf a.2.J a.2.oO a.2.iG a.2.cG))))
def ic (n:Nat) (i:bo) (m:Bool) (o:D):aG (ak×D):=
 ag (i.eU m o) λl=>dG [0,1,2,4,5] [102,104] (λ_=>[]) (λd=>[(0,.box (F d.1)),(105,.box (Q d.2))]) (λk (d:D×ak)=>uD [0,2,4,1,3,5,6] (ag (bq n d.1) λg=>ag (cY n (D.mk g.2.bM g.2.M g.2.bB d.1.base g.2.skip g.2.Z)) λh=>ag (eg g.1 [46]) λp=>br p (ag (cB n d.2 h.1 h.2) λb=>gd (cD (b.2.bB+1)) (ag (bq n (D.mk b.2.bM b.2.M (b.2.bB+1) b.2.base b.2.skip b.2.Z)) λa=>gV 0 [0,1,2,4,5,8] [102,104,105,108] (λ_=>[]) (λc=>[(0,.box (F c))]) (λ(c:D)=>gd (cD (c.bB+1)) (k (D.mk c.bM c.M (c.bB+1) c.base c.skip c.Z,ak.mk 11 a.1.bJ 0 [] [] [b.1] [] [] b.1.cG))) λj=>ag (oF n a.1) λq=>br (!q) (ag (bY n (D.mk a.2.bM a.2.M a.2.bB b.2.base a.2.skip a.2.Z)) λr=>j r) (j ((D.mk a.2.bM a.2.M a.2.bB b.2.base a.2.skip a.2.Z))))) (ag (eg g.1 [91]) λs=>br s (ag (cB n d.2 h.1 h.2) λe=>gd (cD (e.2.bB+1)) (ag (i.fT true (D.mk e.2.bM e.2.M (e.2.bB+1) e.2.base e.2.skip e.2.Z) e.1) λf=>gd (cD (f.1.bB+1)) (k (D.mk f.1.bM f.1.M (f.1.bB+1) f.1.base f.1.skip f.1.Z,f.2)))) (.ok (d.2,h.2))))) n (l.2,l.1)
def lE (n:Nat) (c:bo) (a:ak) (d:D):aG (ak×D):=
 uD [0,1,4,5,2,3,6,7] (ag (c.aW false d) λb=>ag (cz n [93] b.2) λe=>.ok (ak.mk 12 [] 0 [] [] [a,b.1] [] [] a.cG,e))
def fU (n:Nat) (f:bo) (g:Bool) (d:D):aG (ak×D):=
 br (Option.isSome (Option.map ak.C d.Z)) (some? d.Z λm=>tG [[7,0]] (.ok (m,D.mk d.bM d.M d.bB d.base d.skip none))) (ag (bq n d) λa=>ag (cY n (D.mk a.2.bM a.2.M a.2.bB d.base a.2.skip a.2.Z)) λb=>gV 1 [0,1,4,8] [104] (λ_=>[]) (λc=>[(0,.box (F c.1)),(108,.box (Q c.2))]) (λ(c:D×ak)=>gd (cD (c.1.bB+1)) (.ok (c.2,D.mk c.1.bM c.1.M (c.1.bB+1) c.1.base c.1.skip c.1.Z))) λe=>br (a.1.an==1) (ag (f.iu b.2) λh=>.ok (h.1,h.2)) (br (a.1.an==2) (ag (mK n a.1.bJ) λo=>e (b.2,ak.mk 3 [] o.1 [] [] [] [] [] b.1)) (br (a.1.an==3) (jg 6 (e (b.2,ak.mk 4 a.1.bJ 0 [] [] [] [] [] b.1))) (br (a.1.an==4) (ag (f.fo a.1 b.1 b.2) λi=>e (i.2,i.1)) (ag (eg a.1 [95]) λp=>br p (e (b.2,ak.mk 6 [] 0 [] [] [] [] [] b.1)) (ag (eg a.1 [95,124,95]) λq=>br q (e (b.2,ak.mk 7 [] 0 [] [] [] [] [] b.1)) (ag (eg a.1 [40]) λr=>br r (ag (f.dU g b.2) λj=>.ok (j.1,j.2)) (ag (eg a.1 [123]) λs=>br s (ag (f.fN g b.2) λk=>.ok (k.1,k.2)) (ag (eg a.1 [91]) λt=>br t (ag (f.iY b.2) λl=>.ok (l.1,l.2)) (ag (bY n b.2) λu=>e (u,ak.mk 0 [] 0 [] [] [] [] [] b.1)))))))))))
def gW (n:Nat) (d:bo) (g:Bool) (c:D):aG (ak×D):=
 br (Option.isSome (Option.map ak.C c.Z)) (ag (d.eG g c) λj=>.ok (j.1,j.2)) (ag (bq n c) λb=>ag (cY n (D.mk b.2.bM b.2.M b.2.bB c.base b.2.skip b.2.Z)) λa=>gV 1 [0,1,4,5,6] [0,104,105] (λe=>[(7,I e)]) (λ_=>[]) (λ(e:Int)=>gd (cD (a.2.bB+1)) (uD [0,1,2,3,6,4,5,7,8] (ag (d.ei false (D.mk a.2.bM a.2.M (a.2.bB+1) a.2.base a.2.skip a.2.Z)) λh=>.ok (ak.mk e b.1.bJ 0 [] [] [h.1] [] [] a.1,h.2)))) λf=>ag (nB n b.1 [45,32,33]) λk=>br k (f 19) (ag (nB n b.1 [60,32,60,61,32,62,32,62,61,32,33,61,32,61,126,32,33,126]) λl=>br l (f 9) (ag (d.eG g a.2) λi=>.ok (i.1,i.2))))
def lF (n:Nat) (c:bo) (d:Bool) (b:D) (e:Bool) (f:(List aK)) (g:(List ByS)):aG (D×Bool×(List aK)×(List ByS)):=
 ag (c.kl e f g (D.mk b.bM b.M b.bB b.base d b.Z)) λa=>.ok (D.mk a.2.2.2.bM a.2.2.2.M a.2.2.2.bB a.2.2.2.base b.skip a.2.2.2.Z,a.1,a.2.1,a.2.2.1)
def lG (n:Nat) (c:bo) (d:Bool) (b:D) (e:Bool) (f:ak):aG (D×Bool×ak):=
 ag (c.jK e f (D.mk b.bM b.M b.bB b.base d b.Z)) λa=>.ok (D.mk a.2.2.bM a.2.2.M a.2.2.bB a.2.2.base b.skip a.2.2.Z,a.1,a.2.1)
def lH (n:Nat) (c:bo) (d:Bool) (a:D) (e:ak):aG (D×ak):=
 ag (c.jq e (D.mk a.bM a.M a.bB a.base d a.Z)) λb=>.ok (D.mk b.2.bM b.2.M b.2.bB b.2.base a.skip b.2.Z,b.1)
def lI (n:Nat) (c:bo) (d:Bool) (a:D) (e:ak):aG (D×ak):=
 ag (c.kV e (D.mk a.bM a.M a.bB a.base d a.Z)) λb=>.ok (D.mk b.2.bM b.2.M b.2.bB b.2.base a.skip b.2.Z,b.1)
def lJ (n:Nat) (c:bo) (d:Bool) (a:D) (e:(List ak)):aG (D×(List ak)):=
 ag (c.kU e (D.mk a.bM a.M a.bB a.base d a.Z)) λb=>.ok (D.mk b.2.bM b.2.M b.2.bB b.2.base a.skip b.2.Z,b.1)
def R:Nat->bo
 | 0=>⟨λ_ _=>.stuck,λ_ _=>.stuck,λ_=>.stuck,λ_ _=>.stuck,λ_ _ _=>.stuck,λ_ _=>.stuck,λ_ _ _ _=>.stuck,λ_ _=>.stuck,λ_ _=>.stuck,λ_ _=>.stuck,λ_ _=>.stuck,λ_ _ _=>.stuck,λ_ _=>.stuck,λ_ _ _=>.stuck,λ_ _ _=>.stuck,λ_=>.stuck,λ_=>.stuck,λ_ _=>.stuck,λ_=>.stuck,λ_ _=>.stuck,λ_ _ _=>.stuck,λ_ _ _=>.stuck,λ_ _=>.stuck,λ_ _=>.stuck,λ_ _=>.stuck,λ_ _=>.stuck,λ_ _ _ _ _=>.stuck,λ_ _ _ _=>.stuck,λ_ _ _=>.stuck,λ_ _ _=>.stuck,λ_ _ _=>.stuck⟩
 | n+1=>⟨sZ n (R n),fb n (R n),kW n (R n),gy n (R n),gz n (R n),km n (R n),mO n (R n),jL n (R n),fG n (R n),kX n (R n),rQ n (R n),kI n (R n),iK n (R n),ko n (R n),jM n (R n),iL n (R n),kY n (R n),gC n (R n),kp n (R n),jN n (R n),mn n (R n),js n (R n),ic n (R n),lE n (R n),fU n (R n),gW n (R n),lF n (R n),lG n (R n),lH n (R n),lI n (R n),lJ n (R n)⟩
abbrev nL (n:Nat):=(R n).nL
abbrev c8 (n:Nat):=(R n).c8
abbrev iX (n:Nat):=(R n).iX
abbrev kU (n:Nat):=(R n).kU
abbrev dA (n:Nat):=(R n).dA
abbrev eY (n:Nat):=(R n).eY
abbrev kl (n:Nat):=(R n).kl
abbrev fN (n:Nat):=(R n).fN
abbrev da (n:Nat):=(R n).da
abbrev fe (n:Nat):=(R n).fe
abbrev iJ (n:Nat):=(R n).iJ
abbrev fY (n:Nat):=(R n).fY
abbrev aW (n:Nat):=(R n).aW
abbrev iq (n:Nat):=(R n).iq
abbrev fo (n:Nat):=(R n).fo
abbrev eB (n:Nat):=(R n).eB
abbrev iY (n:Nat):=(R n).iY
abbrev kV (n:Nat):=(R n).kV
abbrev iu (n:Nat):=(R n).iu
abbrev dU (n:Nat):=(R n).dU
abbrev jK (n:Nat):=(R n).jK
abbrev fZ (n:Nat):=(R n).fZ
abbrev eG (n:Nat):=(R n).eG
abbrev jq (n:Nat):=(R n).jq
abbrev eU (n:Nat):=(R n).eU
abbrev ei (n:Nat):=(R n).ei
abbrev jr (n:Nat):=(R n).jr
abbrev hU (n:Nat):=(R n).hU
abbrev fT (n:Nat):=(R n).fT
abbrev hY (n:Nat):=(R n).hY
abbrev ia (n:Nat):=(R n).ia
abbrev FK (f:ByS->Int->aG (ak×Bool)):Prop:=∀ p0 p1,CT Pq 291 [eu p0,I p1] [] (f p0 p1) (λx=>.lM [.agg (Q x.1),Bo x.2]) (λ_=>[])
abbrev tf (f:Bool->D->aG (ak×D)):Prop:=∀ p0 p1,CT Pq 64 [.ptr 0 0,Bo p0] [.box (F p1)] (f p0 p1) (λx=>.agg (Q x.1)) (λx=>[.box (F x.2)])
abbrev xW (f:D->aG ((List ak)×D)):Prop:=∀ p0,CT Pq 290 [.ptr 0 0] [.box (F p0)] (f p0) (λx=>.pv (.sl x.1.length (ak.Cs x.1))) (λx=>[.box (F x.2)])
abbrev wh (f:(List ak)->D->aG ((List ak)×D)):Prop:=∀ p0 p1,CT Pq 306 [.ptr 0 0,.ptr 1 0] [.box [.ptr 2 0],.box [.arr 3 p0.length],.box (F p1),.arr 38 9 (ak.Cs p0)] (f p0 p1) (λ_=>.lM []) (λx=>[.box [.ptr 2 0],.box [.arr 3 x.1.length],.box (F x.2),.arr 38 9 (ak.Cs x.1)])
abbrev wi (f:Int->Bool->D->aG (ak×D)):Prop:=∀ p0 p1 p2,CT Pq 163 [.ptr 0 0,I p0,Bo p1] [.box (F p2)] (f p0 p1 p2) (λx=>.agg (Q x.1)) (λx=>[.box (F x.2)])
abbrev w7 (f:Bool->D->aG ((List aK)×(List ByS)×D)):Prop:=∀ p0 p1,CT Pq 137 [.ptr 0 0,Bo p0] [.box (F p1)] (f p0 p1) (λx=>.lM [.pv (.sl x.1.length (aK.Cs x.1)),.pv (.sl x.2.1.length (hO x.2.1))]) (λx=>[.box (F x.2.2)])
abbrev vz (f:Bool->(List aK)->(List ByS)->D->aG (Bool×(List aK)×(List ByS)×D)):Prop:=∀ p0 p1 p2 p3,CT Pq 187 [.ptr 0 0,.ptr 1 0,.ptr 2 0,.ptr 3 0] [.box [.ptr 4 0],.box [Bo p0],.box [.pv (.sl p1.length (aK.Cs p1))],.box [.pv (.sl p2.length (hO p2))],.box (F p3)] (f p0 p1 p2 p3) (λ_=>.lM []) (λx=>[.box [.ptr 4 0],.box [Bo x.1],.box [.pv (.sl x.2.1.length (aK.Cs x.2.1))],.box [.pv (.sl x.2.2.1.length (hO x.2.2.1))],.box (F x.2.2.2)])
abbrev wj (f:Bool->D->aG (ak×D)):Prop:=∀ p0 p1,CT Pq 271 [.ptr 0 0,Bo p0] [.box (F p1)] (f p0 p1) (λx=>.agg (Q x.1)) (λx=>[.box (F x.2)])
abbrev tg (f:Bool->D->aG (ak×D)):Prop:=∀ p0 p1,CT Pq 111 [.ptr 0 0,Bo p0] [.box (F p1)] (f p0 p1) (λx=>.agg (Q x.1)) (λx=>[.box (F x.2)])
abbrev xX (f:Bool->D->aG (aK×D)):Prop:=∀ p0 p1,CT Pq 88 [.ptr 0 0,Bo p0] [.box (F p1)] (f p0 p1) (λx=>.agg (qo x.1)) (λx=>[.box (F x.2)])
abbrev uJ (f:Bool->D->aG ((List aK)×(List ByS)×D)):Prop:=∀ p0 p1,CT Pq 42 [.ptr 0 0,nSl,Bo p0] [.box (F p1)] (f p0 p1) (λx=>.lM [.pv (.sl x.1.length (aK.Cs x.1)),.pv (.sl x.2.1.length (hO x.2.1))]) (λx=>[.box (F x.2.2)])
abbrev vA (f:Bool->D->aK->aG (D×aK)):Prop:=∀ p0 p1 p2,CT Pq 140 [.ptr 0 0,.ptr 1 0,Bo p0] [.box (F p1),.box (qo p2)] (f p0 p1 p2) (λ_=>.lM []) (λx=>[.box (F x.1),.box (qo x.2)])
abbrev xY (f:Bool->D->aG (ak×D)):Prop:=∀ p0 p1,CT Pq 24 [.ptr 0 0,Bo p0] [.box (F p1)] (f p0 p1) (λx=>.agg (Q x.1)) (λx=>[.box (F x.2)])
abbrev w8 (f:Bool->D->aK->aG (D×aK)):Prop:=∀ p0 p1 p2,CT Pq 133 [.ptr 0 0,.ptr 1 0,Bo p0] [.box (F p1),.box (qo p2)] (f p0 p1 p2) (λ_=>.lM []) (λx=>[.box (F x.1),.box (qo x.2)])
abbrev wm (f:aB->Int->D->aG (ak×D)):Prop:=∀ p0 p1 p2,CT Pq 270 [.ptr 0 0,.agg (na p0),I p1] [.box (F p2)] (f p0 p1 p2) (λx=>.agg (Q x.1)) (λx=>[.box (F x.2)])
abbrev xZ (f:D->aG (ak×D)):Prop:=∀ p0,CT Pq 293 [.ptr 0 0] [.box (F p0)] (f p0) (λx=>.agg (Q x.1)) (λx=>[.box (F x.2)])
abbrev x5 (f:D->aG (ak×D)):Prop:=∀ p0,CT Pq 272 [.ptr 0 0] [.box (F p0)] (f p0) (λx=>.agg (Q x.1)) (λx=>[.box (F x.2)])
abbrev wo (f:ak->D->aG (ak×D)):Prop:=∀ p0 p1,CT Pq 292 [.ptr 0 0,.ptr 1 0] [.box [.ptr 2 0],.box [I p0.an,eu p0.bJ,I p0.U,eu p0.B,eu p0.bE,.arr 3 p0.bF.length,.pv (.sl p0.fS.length (aK.Cs p0.fS)),.pv (.sl p0.J.length (hO p0.J)),I p0.cG],.box (F p1),.arr 38 9 (ak.Cs p0.bF)] (f p0 p1) (λ_=>.lM []) (λx=>[.box [.ptr 2 0],.box [I x.1.an,eu x.1.bJ,I x.1.U,eu x.1.B,eu x.1.bE,.arr 3 x.1.bF.length,.pv (.sl x.1.fS.length (aK.Cs x.1.fS)),.pv (.sl x.1.J.length (hO x.1.J)),I x.1.cG],.box (F x.2),.arr 38 9 (ak.Cs x.1.bF)])
abbrev w9 (f:D->aG (ak×D)):Prop:=∀ p0,CT Pq 269 [.ptr 0 0] [.box (F p0)] (f p0) (λx=>.agg (Q x.1)) (λx=>[.box (F x.2)])
abbrev wq (f:Bool->D->aG (ak×D)):Prop:=∀ p0 p1,CT Pq 188 [.ptr 0 0,Bo p0] [.box (F p1)] (f p0 p1) (λx=>.agg (Q x.1)) (λx=>[.box (F x.2)])
abbrev uK (f:Bool->ak->D->aG (Bool×ak×D)):Prop:=∀ p0 p1 p2,CT Pq 225 [.ptr 0 0,.ptr 1 0,.ptr 2 0] [.box [.ptr 3 0],.box [Bo p0],.box (Q p1),.box (F p2)] (f p0 p1 p2) (λ_=>.lM []) (λx=>[.box [.ptr 3 0],.box [Bo x.1],.box (Q x.2.1),.box (F x.2.2)])
abbrev vB (f:Bool->D->aK->aG (D×aK)):Prop:=∀ p0 p1 p2,CT Pq 135 [.ptr 0 0,.ptr 1 0,Bo p0] [.box (F p1),.box (qo p2)] (f p0 p1 p2) (λ_=>.lM []) (λx=>[.box (F x.1),.box (qo x.2)])
abbrev vC (f:Bool->D->aG (ak×D)):Prop:=∀ p0 p1,CT Pq 236 [.ptr 0 0,Bo p0] [.box (F p1)] (f p0 p1) (λx=>.agg (Q x.1)) (λx=>[.box (F x.2)])
abbrev uh (f:ak->D->aG (ak×D)):Prop:=∀ p0 p1,CT Pq 258 [.ptr 0 0,.ptr 1 0] [.box (Q p0),.box [.ptr 2 0],.box (F p1)] (f p0 p1) (λ_=>.lM []) (λx=>[.box (Q x.1),.box [.ptr 2 0],.box (F x.2)])
abbrev vD (f:Bool->D->aG (ak×D)):Prop:=∀ p0 p1,CT Pq 257 [.ptr 0 0,Bo p0] [.box (F p1)] (f p0 p1) (λx=>.agg (Q x.1)) (λx=>[.box (F x.2)])
abbrev xa (f:Bool->D->aG (ak×D)):Prop:=∀ p0 p1,CT Pq 206 [.ptr 0 0,Bo p0] [.box (F p1)] (f p0 p1) (λx=>.agg (Q x.1)) (λx=>[.box (F x.2)])
abbrev ui (f:Bool->D->Bool->(List aK)->(List ByS)->aG (D×Bool×(List aK)×(List ByS))):Prop:=∀ p0 p1 p2 p3 p4,CT Pq 184 [.ptr 0 0,Bo p0,.fn 187 [] [.ptr 1 0,.ptr 2 0,.ptr 3 0,.ptr 4 0]] [.box (F p1),.box [.ptr 0 0],.box [Bo p2],.box [.pv (.sl p3.length (aK.Cs p3))],.box [.pv (.sl p4.length (hO p4))]] (f p0 p1 p2 p3 p4) (λ_=>.lM []) (λx=>[.box (F x.1),.box [.ptr 0 0],.box [Bo x.2.1],.box [.pv (.sl x.2.2.1.length (aK.Cs x.2.2.1))],.box [.pv (.sl x.2.2.2.length (hO x.2.2.2))]])
abbrev uj (f:Bool->D->Bool->ak->aG (D×Bool×ak)):Prop:=∀ p0 p1 p2 p3,CT Pq 184 [.ptr 0 0,Bo p0,.fn 225 [] [.ptr 1 0,.ptr 2 0,.ptr 3 0]] [.box (F p1),.box [.ptr 0 0],.box [Bo p2],.box (Q p3)] (f p0 p1 p2 p3) (λ_=>.lM []) (λx=>[.box (F x.1),.box [.ptr 0 0],.box [Bo x.2.1],.box (Q x.2.2)])
abbrev uk (f:Bool->D->ak->aG (D×ak)):Prop:=∀ p0 p1 p2,CT Pq 184 [.ptr 0 0,Bo p0,.fn 258 [] [.ptr 1 0,.ptr 2 0]] [.box (F p1),.box (Q p2),.box [.ptr 0 0]] (f p0 p1 p2) (λ_=>.lM []) (λx=>[.box (F x.1),.box (Q x.2),.box [.ptr 0 0]])
abbrev um (f:Bool->D->ak->aG (D×ak)):Prop:=∀ p0 p1 p2,CT Pq 184 [.ptr 0 0,Bo p0,.fn 292 [] [.ptr 1 0,.ptr 2 0]] [.box (F p1),.box [.ptr 0 0],.box [I p2.an,eu p2.bJ,I p2.U,eu p2.B,eu p2.bE,.arr 3 p2.bF.length,.pv (.sl p2.fS.length (aK.Cs p2.fS)),.pv (.sl p2.J.length (hO p2.J)),I p2.cG],.arr 38 9 (ak.Cs p2.bF)] (f p0 p1 p2) (λ_=>.lM []) (λx=>[.box (F x.1),.box [.ptr 0 0],.box [I x.2.an,eu x.2.bJ,I x.2.U,eu x.2.B,eu x.2.bE,.arr 3 x.2.bF.length,.pv (.sl x.2.fS.length (aK.Cs x.2.fS)),.pv (.sl x.2.J.length (hO x.2.J)),I x.2.cG],.arr 38 9 (ak.Cs x.2.bF)])
abbrev uo (f:Bool->D->(List ak)->aG (D×(List ak))):Prop:=∀ p0 p1 p2,CT Pq 184 [.ptr 0 0,Bo p0,.fn 306 [] [.ptr 1 0,.ptr 2 0]] [.box (F p1),.box [.ptr 0 0],.box [.arr 3 p2.length],.arr 38 9 (ak.Cs p2)] (f p0 p1 p2) (λ_=>.lM []) (λx=>[.box (F x.1),.box [.ptr 0 0],.box [.arr 3 x.2.length],.arr 38 9 (ak.Cs x.2)])
class be (T:bo):Prop where
 nL:FK T.nL
 c8:tf T.c8
 iX:xW T.iX
 kU:wh T.kU
 dA:wi T.dA
 eY:w7 T.eY
 kl:vz T.kl
 fN:wj T.fN
 da:tg T.da
 fe:xX T.fe
 iJ:uJ T.iJ
 fY:vA T.fY
 aW:xY T.aW
 iq:w8 T.iq
 fo:wm T.fo
 eB:xZ T.eB
 iY:x5 T.iY
 kV:wo T.kV
 iu:w9 T.iu
 dU:wq T.dU
 jK:uK T.jK
 fZ:vB T.fZ
 eG:vC T.eG
 jq:uh T.jq
 eU:vD T.eU
 ei:xa T.ei
 jr:ui T.jr
 hU:uj T.hU
 fT:uk T.fT
 hY:um T.hY
 ia:uo T.ia
attribute [instance] be.nL be.c8 be.iX be.kU be.dA be.eY be.kl be.fN be.da be.fe be.iJ be.fY be.aW be.iq be.fo be.eB be.iY be.kV be.iu be.dU be.jK be.fZ be.eG be.jq be.eU be.ei be.jr be.hU be.fT be.hY be.ia
theorem KH (n:Nat) (T:bo) [hT:be T]:FK (sZ n T):=λp0 p1=>by
 refine EZ Tryz.func291 O O λr h hr E hE=>?_;refine bz λ_ Hn=>bp (gH 104 (hE _ O) O4 O ?_);refine gH 105 (hE _ O) O4 O ?_;refine zQ Hn (bz λ_ Ot=>bp (zm O (GY hr h [] Tryz.call12 (CU n p0) ⟨O,O,O,O,O,O,trivial⟩ O (λ_=>O3) (λ_=>O2) (λ_ _ _ hd hp=>Jk (P:=Pq) (fn:=Tryz.f291) hd hp) (λy3 h=>?_))));refine zm O (zx O (zx O (gH 107 (hE _ O) O4 O ?_)));refine za O (zs O (zQ Ot (bz λ_ RE=>bp (za O (zQ RE (bz λ_ XP=>bz λ_ hK6=>bp (zf O (zl O (zc O (zm O (zb (y3.2.dX !=0) (λhb7=>?_) λhb7=>?_)))))))))))
 ·refine z1 hb7 h λh=>zH 3 O hb7 (zy hb7 O (zQ hK6 (GB O (λhc=>?_) (λhc=>?_))))
  ·refine bz λ_ XS=>bp (et E9 O ?_);refine zs O (zs O (zQ XS (nA (CH 104 O O) ?_)));exact agJ
  exact MJ
 refine z2 hb7 h λh=>zG hb7 O yK (zG hb7 O yK (Z8 hb7 O2 hr h [] Tryz.call308 (wW n y3.1) ⟨O,O,O,O,O,O,trivial⟩ O (λ_=>O3) (λ_=>O2) (λ_ _ _ hd hp=>Jk (P:=Pq) (fn:=Tryz.f291) hd hp) (λy9 h=>?_)));refine zw hb7 O (zQ hK6 (zB O h (λ_ h=>?_) λ_ h=>?_))
 ·refine bz λ_ TQ=>bp (et E9 O ?_);refine zs O (zs O (zQ TQ (nA (CH 104 O O) ?_)));exact agJ
 refine lZ (XP _ _ (bz λ_ L3=>bp (zm O (zm O (zm O (et E9 O ?_))))));refine HL 128 (hE _ O) O7 O ?_;refine za O (zQ L3 (bz λ_ Ov=>bp (et (Kp O O) O ?_)));refine Oh O ?_;have hrO:=hr;obtain ⟨r,hr,h,hc⟩:=Jj hr h;refine zQ Ov (bz λ_ L4=>bp (zm O (lD (CH 128 O O) ?_)));refine BD hr h [128] Tryz.call24 (hT.aW false (D.mk p0 y3.1 0 p1 true none)) ⟨O,O,O,O,O,O,trivial⟩ O O (λ_=>O3) (λ_=>O2) O (λp hp=>?_) (λy15 h=>?_)
 ·obtain ⟨v,rfl,hc⟩:=NI hrO (I5 hc hp);obtain ⟨JT,Gz,_⟩:=BA hrO hc;repeat (first|refine I6 ?_|refine GA ?_)
  refine CG (n:=Tryz.f291.ntmps) [104,105] Tryz.call309 (Fm v) JT O ⟨O,O,O,O⟩ (λ_=>O2) (λx hx=>?_);exact zS (.inl O) _ (.cons (tq O O O) (.cons (Jy O O) .nil)) (Gz x hx).symm (gT _) trivial
 refine zs O (zQ L4 (bz λ_ XV=>sb [0,1,2,3,4,5,6] O (by kernel_rfl) (zD O Ih O ?_)));refine zD O yK O (ae0 O (w4 O) hr h [128] Tryz.call25 (rY n y15.2) ⟨O,O,O,O,O,O,trivial⟩ O O (λ_=>O3) (λ_=>O2) (Eu n y15.2) (λy17 h=>⟨pF ⟨trivial,⟨⟨⟨_,O,nh _⟩,trivial⟩,trivial⟩⟩,?_⟩));refine zD O (Oc O O) O ?_;refine zD O F1 O (sa O O8 O (λe5 he=>⟨ky O,?_⟩));subst he;refine sa O O8 O (λe6 he=>⟨ky O,?_⟩);subst he;refine An (XV _ _ (rK (vg (n:=Tryz.f291.ntmps) (.inl O) [104,105] Tryz.call309 (Dw [.box (Q y15.1),.box [Bo (y17.1.an==0)]]) ⟨O,O,O,O⟩ O O ?_)));exact zS (.inl O) _ (.cons (tq O O O) (.cons (Jy O O) .nil)) (UB hc h.symm) (gT _) trivial
theorem yA (n:Nat) (T:bo) [hT:be T]:tf (fb n T):=λp0 p1=>by unfold fb;exact zz 1 Tryz.func64
theorem Dx (n:Nat) (T:bo) [hT:be T]:xW (kW n T):=λp0=>by unfold kW;exact zz 0 Tryz.func290
theorem Cc (n:Nat) (T:bo) [hT:be T]:wh (gy n T):=λp0 p1=>by unfold gy;exact zz 0 Tryz.func306
theorem Cd (n:Nat) (T:bo) [hT:be T]:wi (gz n T):=λp0 p1 p2=>by unfold gz;exact zz 1 Tryz.func163
theorem CV (n:Nat) (T:bo) [hT:be T]:w7 (km n T):=λp0 p1=>by unfold km;exact zz 1 Tryz.func137
theorem BF (n:Nat) (T:bo) [hT:be T]:vz (mO n T):=λp0 p1 p2 p3=>by unfold mO;exact zz 0 Tryz.func187
theorem Ce (n:Nat) (T:bo) [hT:be T]:wj (jL n T):=λp0 p1=>by unfold jL;exact zz 1 Tryz.func271
theorem yB (n:Nat) (T:bo) [hT:be T]:tg (fG n T):=λp0 p1=>by unfold fG;exact zz 1 Tryz.func111
theorem Dy (n:Nat) (T:bo) [hT:be T]:xX (kX n T):=λp0 p1=>by unfold kX;exact zz 1 Tryz.func88
theorem AW (n:Nat) (T:bo) [hT:be T]:uJ (rQ n T):=λp0 p1=>by unfold rQ;exact zz 0 Tryz.func42
theorem BG (n:Nat) (T:bo) [hT:be T]:vA (kI n T):=λp0 p1 p2=>by
 refine zC Tryz.func140 O λr hp h hr E hE=>bz λ_ Hn=>bp (zm O (zm O (zk hp hr h [0] Tryz.call188 (hT.dU p0 p1) O (λ_=>rfl) λy2 h=>gH 106 (hE _ O) O4 O ?_)));refine zs O (zQ Hn (bz λ_ hK3=>bz λ_ RE=>bp (zm O (zk hp hr h [0] Tryz.call25 (rY n y2.2) O (λ_=>rfl) λy5 h=>zk hp hr h [] Tryz.call63 (RB y5.1 ([58]:ByS)) O (λ_=>rfl) λy6 h=>zQ RE (zB O h (λ_ h=>?_) λ_ h=>?_)))))
 ·refine bz λ_ XS=>sb [0,1,2,3,4,5] O (by kernel_rfl) (zD O yK O (zD O Ih O ?_));refine zD O yK O (Ko O (w4 O) hr h [0] Tryz.call66 (Fj n (D.mk y5.2.bM y5.2.M y5.2.bB y2.2.base y5.2.skip y5.2.Z)) ⟨O,O,O,O,O,O,trivial⟩ O O (λ_=>O3) (λ_=>O2) hp (λy9 h=>⟨pF ⟨trivial,⟨⟨⟨_,O,nh _⟩,trivial⟩,⟨trivial,trivial⟩⟩⟩,?_⟩));refine Ko O (w4 O) hr h [0] Tryz.call65 ((pb n).cB y2.1 y9.1 y9.2) ⟨O,O,O,O,O,O,trivial⟩ O O (λ_=>O3) (λ_=>O2) hp (λy10 h=>⟨ky O,?_⟩);refine sa O O8 O (λe5 he=>⟨ky O,?_⟩);subst he;refine An (XS _ _ (bz λ_ TQ=>bp (zm O (zn O (zf O (zl O (zd hr h λhg12 h=>zo hg12 O (zn O (zf O (zs O (zQ TQ (bz λ_ Ov=>sb [0,1,2,3,4,5,6,7,8,9,10,11] O (by kernel_rfl) (zD O yK O (zD O yK O (zD O Ih O ?_)))))))))))))));refine zD O yK O (Ko O (w4 O) hr h [0] Tryz.call24 (hT.aW false (D.mk y10.2.bM y10.2.M (y10.2.bB+1) y10.2.base y10.2.skip y10.2.Z)) ⟨O,O,O,O,O,O,trivial⟩ O O (λ_=>O3) (λ_=>O2) hp (λy14 h=>⟨pF ⟨trivial,⟨⟨⟨_,O,nh _⟩,trivial⟩,⟨trivial,⟨trivial,trivial⟩⟩⟩⟩,?_⟩));refine Of [y10.1,y14.1] oh O (w4 O) O2 O2 ?_;refine zD O (Kj O) O (zD O (Ef O) O (sa O O8 O (λe8 he=>⟨ky O,?_⟩)));subst he;refine zD O (Kj O) O (zD O (Ef O) O (sa O O8 O (λe11 he=>⟨ky O,?_⟩)));subst he;exact An (Ov _ _ (rK (zX .nil h O)))
 refine lZ (hK3 _ _ (bz λ_ hK15=>bp (zm O (zn O (zf O (lD (aeS (d:=6) (ps:=ak.C y2.1) O O (hE _ O)) ?_))))));refine zs O (zQ hK15 (bp (zm O (zm O (zm O (zm O (zk hp hr h [0] Tryz.call24 (hT.aW p0 (D.mk y5.2.bM y5.2.M y5.2.bB y2.2.base y5.2.skip (some y2.1))) O (λ_=>rfl) λy16 h=>Kq [y16.1] oh O2 O ?_)))))));exact zn O (zf O (zs O (zn O (zf O (zs O (rJ (zY .nil h O)))))))
theorem Dz (n:Nat) (T:bo) [hT:be T]:xY (iK n T):=λp0 p1=>by unfold iK;exact zz 0 Tryz.func24
theorem CW (n:Nat) (T:bo) [hT:be T]:w8 (ko n T):=λp0 p1 p2=>by unfold ko;exact zz 0 Tryz.func133
theorem Cf (n:Nat) (T:bo) [hT:be T]:wm (jM n T):=λp0 p1 p2=>by unfold jM;exact zz 2 Tryz.func270
theorem DA (n:Nat) (T:bo) [hT:be T]:xZ (iL n T):=λp0=>by unfold iL;exact zz 0 Tryz.func293
theorem DH (n:Nat) (T:bo) [hT:be T]:x5 (kY n T):=λp0=>by unfold kY;exact zz 0 Tryz.func272
theorem Cg (n:Nat) (T:bo) [hT:be T]:wo (gC n T):=λp0 p1=>by unfold gC;exact zz 0 Tryz.func292
theorem CX (n:Nat) (T:bo) [hT:be T]:w9 (kp n T):=λp0=>by unfold kp;exact zz 1 Tryz.func269
theorem Ch (n:Nat) (T:bo) [hT:be T]:wq (jN n T):=λp0 p1=>by unfold jN;exact zz 1 Tryz.func188
theorem AX (n:Nat) (T:bo) [hT:be T]:uK (mn n T):=λp0 p1 p2=>by unfold mn;exact zz 0 Tryz.func225
theorem BH (n:Nat) (T:bo) [hT:be T]:vB (js n T):=λp0 p1 p2=>by unfold js;exact zz 0 Tryz.func135
theorem BI (n:Nat) (T:bo) [hT:be T]:vC (ic n T):=λp0 p1=>by unfold ic;exact zz 1 Tryz.func236
theorem Aw (n:Nat) (T:bo) [hT:be T]:uh (lE n T):=λp0 p1=>by unfold lE;exact zz 1 Tryz.func258
theorem BJ (n:Nat) (T:bo) [hT:be T]:vD (fU n T):=λp0 p1=>by unfold fU;exact zz 1 Tryz.func257
theorem CY (n:Nat) (T:bo) [hT:be T]:xa (gW n T):=λp0 p1=>by unfold gW;exact zz 1 Tryz.func206
theorem Ax (n:Nat) (T:bo) [hT:be T]:ui (lF n T):=λp0 p1 p2 p3 p4=>by unfold lF;exact MF
theorem Ay (n:Nat) (T:bo) [hT:be T]:uj (lG n T):=λp0 p1 p2 p3=>by unfold lG;exact MF
theorem Az (n:Nat) (T:bo) [hT:be T]:uk (lH n T):=λp0 p1 p2=>by unfold lH;exact MF
theorem AA (n:Nat) (T:bo) [hT:be T]:um (lI n T):=λp0 p1 p2=>by unfold lI;exact MF
theorem AB (n:Nat) (T:bo) [hT:be T]:uo (lJ n T):=λp0 p1 p2=>by unfold lJ;exact MF
theorem uw:∀ n,be (R n)
 | 0=>by constructor<;>(repeat intro)<;>exact rh
 | n+1=>have:=uw n;⟨KH n _,yA n _,Dx n _,Cc n _,Cd n _,CV n _,BF n _,Ce n _,yB n _,Dy n _,AW n _,BG n _,Dz n _,CW n _,Cf n _,DA n _,DH n _,Cg n _,CX n _,Ch n _,AX n _,BH n _,BI n _,Aw n _,BJ n _,CY n _,Ax n _,Ay n _,Az n _,AA n _,AB n _⟩
attribute [instance] uw
def kZ (a:V):aG (Int×V):=
 br a.uf (.ok (11,a)) (br a.deep (.ok (9,a)) (.ok (0,a)))
instance OB (p0:V):CT Pq 47 [.ptr 0 0] [.box (bX p0)] (kZ p0) (λx=>I x.1) (λx=>[.box (bX x.2)]):=by unfold kZ;exact zz 0 Tryz.func47
def rz (n:Nat) (b:(List Bool)) (d:Bool):aG (Int):=
 dG [0,1,7] [] (λa=>[(8,I a)]) (λ_=>[]) (λc (a:Int)=>br (decide (a<b.length)) (el b a λe=>br (d==e) (.ok a) (gd (cD (a+1)) (c (a+1)))) (.ok ((-1)))) n 0
instance SZ (n:Nat) (p0:(List Bool)) (p1:Bool):CT Pq 141 [.pv (.sl p0.length (HX p0)),Bo p1] [] (rz n p0 p1) (λx=>I x) (λ_=>[]):=by unfold rz;exact zz 0 Tryz.func141
def mP (n:Nat) (a:(List Bool)) (b:Bool):aG (Bool):=
 ag (rz n a b) λc=>.ok ((decide (c>=0)))
instance OC (n:Nat) (p0:(List Bool)) (p1:Bool):CT Pq 89 [.pv (.sl p0.length (HX p0)),Bo p1] [] (mP n p0 p1) (λx=>Bo x) (λ_=>[]):=by unfold mP;exact zz 0 Tryz.func89
def aQ (n:Nat) (b:(List Bool)) (a:V):aG (V):=
 br a.uf (.ok ((V.mk true a.deep))) (ag (mP n b false) λc=>.ok ((V.mk c a.deep)))
instance PT (n:Nat) (p0:(List Bool)) (p1:V):CT Pq 43 [.ptr 0 0,.pv (.sl p0.length (HX p0))] [.box (bX p1)] (aQ n p0 p1) (λ_=>.lM []) (λx=>[.box (bX x)]):=by unfold aQ;exact zz 0 Tryz.func43
def qb (n:Nat) (a:ma):aG (Bool):=
 ag (dT n a.x0) λb=>br b (ag (dT n a.x1) λc=>br c (.ok ((a.x0 !=a.x1))) (.ok false)) (.ok false)
instance YJ (n:Nat) (p0:ma):CT Pq 145 [.agg [eu p0.x0,eu p0.x1]] [] (qb n p0) (λx=>Bo x) (λ_=>[]):=by unfold qb;exact zz 0 Tryz.func145
def sf (a:ByS):aG (Bool):=
 ag (strings_Contains a ([10]:ByS)) λb=>.ok b
instance XW (p0:ByS):CT Pq 93 [eu p0] [] (sf p0) (λx=>Bo x) (λ_=>[]):=by unfold sf;exact zz 0 Tryz.func93
def mR (n:Nat) (b:(List ByS)):aG (Int):=
 dG [0,1,7] [] (λa=>[(8,I a)]) (λ_=>[]) (λc (a:Int)=>br (decide (a<b.length)) (el b a λd=>ag (sf d) λe=>br e (.ok a) (gd (cD (a+1)) (c (a+1)))) (.ok ((-1)))) n 0
instance LF (n:Nat) (p0:(List ByS)):CT Pq 143 [Av p0,.fn 93 [] []] [] (mR n p0) (λx=>I x) (λ_=>[]):=by unfold mR;exact zz 0 Tryz.func143
def k8 (n:Nat) (a:(List ByS)):aG (Bool):=
 ag (mR n a) λb=>.ok ((decide (b>=0)))
instance IU (n:Nat) (p0:(List ByS)):CT Pq 92 [Av p0,.fn 93 [] []] [] (k8 n p0) (λx=>Bo x) (λ_=>[]):=by unfold k8;exact zz 0 Tryz.func92
def ls (n:Nat) (a:(List ByS)):aG (Bool):=
 ag (k8 n a) λb=>.ok ((!b))
instance Τ (n:Nat) (p0:(List ByS)):CT Pq 45 [Av p0] [] (ls n p0) (λx=>Bo x) (λ_=>[]):=by unfold ls;exact zz 0 Tryz.func45
def vE (a:ma):aG (Bool):=
 .ok (((a.x0==[])&&(a.x1==[])))
instance ĳ (p0:ma):CT Pq 146 [.agg [eu p0.x0,eu p0.x1]] [] (vE p0) (λx=>Bo x) (λ_=>[]):=by unfold vE;exact zz 0 Tryz.func146
def iZ (n:Nat) (a:ak) (e:V):aG (V):=
 ag (dT n a.bJ) λi=>ag (aQ n [i] e) λc=>br (a.B==([]:ByS)) (uD [0,1,2,4,5,6,7,8,9,10,3,11,12] (ag (vE (ma.mk a.B a.bE)) λj=>ag (aQ n [j,(a.U==0),((a.bF.length:Int)==0)] c) λk=>.ok k)) (br (a.B==([108,101,116]:ByS)) (ag (aQ n [((a.bF.length:Int)==1),(a.bE==([]:ByS)),(decide (a.U>=0))] c) λf=>.ok f) (gV 0 [0,1,3] [0,103] (λd=>[(47,Bo d)]) (λ_=>[]) (λ(d:Bool)=>br d (ag (aQ n [((a.bF.length:Int)==0),(a.bE==([]:ByS)),(decide (a.U>=0))] c) λg=>.ok g) (ag (aQ n [false] c) λh=>.ok h)) λb=>br (a.B==([102,105,101,108,100]:ByS)) (b ((a.B==([102,105,101,108,100]:ByS)))) (br (a.B==([108,111,111,112]:ByS)) (b ((a.B==([108,111,111,112]:ByS)))) (br (a.B==([112,97,99,107,97,103,101]:ByS)) (b ((a.B==([112,97,99,107,97,103,101]:ByS)))) (b ((a.B==([117,110,107,110,111,119,110]:ByS))))))))
instance KI (n:Nat) (p0:ak) (p1:V):CT Pq 166 [.ptr 0 0,.agg (Q p0)] [.box (bX p1)] (iZ n p0 p1) (λ_=>.lM []) (λx=>[.box (bX x)]):=by unfold iZ;exact zz 0 Tryz.func166
def lR (n:Nat) (a:ak) (b:V):aG (V):=
 gV 3 [0,1,3,4,9] [0,103] (λg=>[(15,Bo g)]) (λ_=>[]) (λ(g:Bool)=>br g (.ok b) (br (a.an==5) (ag (aQ n [(decide ((a.bF.length:Int)>=1))] b) λi=>.ok i) (gV 0 [0,1,3,4,9] [0,103] (λe=>[(25,Bo e)]) (λ_=>[]) (λ(e:Bool)=>br e (ag (aQ n [((a.bF.length:Int)==1)] b) λj=>.ok j) (gV 0 [0,1,3,4,9] [0,103] (λf=>[(35,Bo f)]) (λ_=>[]) (λ(f:Bool)=>br f (ag (aQ n [((a.bF.length:Int)==2)] b) λk=>.ok k) (br (a.an==15) (br ((a.bF.length:Int)==2) (ag (aQ n [true] b) λl=>.ok l) (ag (aQ n [((a.bF.length:Int)==3)] b) λm=>.ok m)) (br (a.an==17) (ag (aQ n [(decide ((a.bF.length:Int)>=2))] b) λo=>.ok o) (br (a.an==14) (ag (aQ n [(decide ((a.bF.length:Int)>=(Xx .i64 a.U 1)))] b) λp=>.ok p) (ag (aQ n [((a.bF.length:Int)==0)] b) λq=>.ok q))))) λd=>br (a.an==12) (d ((a.an==12))) (br (a.an==16) (d ((a.an==16))) (d ((a.an==20)))))) λc=>br (a.an==9) (c ((a.an==9))) (br (a.an==11) (c ((a.an==11))) (br (a.an==18) (c ((a.an==18))) (c ((a.an==19)))))))) λh=>br (a.an==10) (h ((a.an==10))) (h ((a.an==21)))
instance PU (n:Nat) (p0:ak) (p1:V):CT Pq 164 [.ptr 0 0,.agg (Q p0)] [.box (bX p1)] (lR n p0 p1) (λ_=>.lM []) (λx=>[.box (bX x)]):=by unfold lR;exact zz 0 Tryz.func164
def jZ (n:Nat) (a:ByS) (b:ByS):aG (Bool):=
 br (a !=([]:ByS)) (ag (strings_Split b ([32]:ByS)) λc=>ag (slices_Contains_string n c a) λd=>.ok d) (.ok false)
instance Wb (n:Nat) (p0:ByS) (p1:ByS):CT Pq 208 [eu p0,eu p1] [] (jZ n p0 p1) (λx=>Bo x) (λ_=>[]):=by unfold jZ;exact zz 0 Tryz.func208
def lS (n:Nat) (a:ak) (b:V):aG (V):=
 gV 2 [0,1,3,5] [0,103] (λd=>[(12,Bo d)]) (λ_=>[]) (λ(d:Bool)=>br d (.ok b) (br (a.an==8) (ag (jZ n a.bJ [110,117,108,108,32,98,111,111,108,32,105,110,116,32,110,117,109,98,101,114,32,115,116,114,105,110,103]) λp=>ag (aQ n [p] b) λe=>.ok e) (br (a.an==9) (ag (jZ n a.bJ [60,32,60,61,32,62,32,62,61,32,33,61,32,61,126,32,33,126]) λf=>ag (aQ n [f] b) λg=>.ok g) (br (a.an==19) (ag (jZ n a.bJ [45,32,33]) λh=>ag (aQ n [h] b) λi=>.ok i) (br (a.an==20) (ag (jZ n a.bJ [43,32,45,32,42,32,47,32,37,32,61,61,32,33,61,32,60,32,60,61,32,62,32,62,61,32,38,38,32,124,124]) λj=>ag (aQ n [j] b) λk=>.ok k) (br (a.an==21) (ag (dT n a.bJ) λl=>ag (aQ n [l] b) λm=>.ok m) (ag (aQ n [(a.bJ==([]:ByS))] b) λo=>.ok o))))))) λc=>br (a.an==10) (c ((a.an==10))) (br (a.an==4) (c ((a.an==4))) (c ((a.an==11))))
instance PW (n:Nat) (p0:ak) (p1:V):CT Pq 165 [.ptr 0 0,.agg (Q p0)] [.box (bX p1)] (lS n p0 p1) (λ_=>.lM []) (λx=>[.box (bX x)]):=by unfold lS;exact zz 0 Tryz.func165
def mE (n:Nat) (a:ak) (c:cm) (r:V):aG (V):=
 gV 1 [0,1,2,4,5] [104,105] (λ_=>[]) (λi=>[(0,.box (bX i))]) (λ(i:V)=>ag (lR n a i) λk0=>ag (lS n a k0) λs=>gV 0 [0,1,2,4,5] [0,104,105] (λk=>[(6,Bo k)]) (λ_=>[]) (λ(k:Bool)=>gV 0 [0,1,2,4,5] [104,105] (λ_=>[]) (λb=>[(0,.box (bX b))]) (λ(b:V)=>gV 0 [0,1,2,4,5] [104,105] (λ_=>[]) (λh=>[(0,.box (bX h))]) (λ(h:V)=>gV 0 [0,1,2,4,5] [104,105] (λ_=>[]) (λd=>[(0,.box (bX d))]) (λ(d:V)=>gV 0 [0,1,2,4,5] [104,105] (λ_=>[]) (λe=>[(0,.box (bX e))]) (λ(e:V)=>br c.xP (br (!c.xP) (ag (aQ n [true,true] e) λt=>.ok t) (ag (aQ n [true,(a.an !=22)] e) λu=>.ok u)) (br (!c.xP) (ag (aQ n [(a.an !=13),true] e) λv=>.ok v) (ag (aQ n [(a.an !=13),(a.an !=22)] e) λw=>.ok w))) λg=>br c.TF (br c.El (ag (aQ n [true,true] d) λx=>g x) (ag (aQ n [true,(a.an !=15)] d) λy=>g y)) (br c.El (ag (aQ n [(a.an !=18),true] d) λz=>g z) (ag (aQ n [(a.an !=18),(a.an !=15)] d) λa0=>g a0))) λo=>br (a.an==15) (ag (qb n (ma.mk a.B a.bE)) λb0=>ag (aQ n [b0] h) λc0=>o c0) (ag (vE (ma.mk a.B a.bE)) λd0=>ag (aQ n [d0] h) λe0=>o e0)) λf=>br (a.an==10) (ag (iZ n a b) λf0=>.ok f0) (gV 0 [0,1,2,4,5,50] [0,104,105] (λj=>[(62,Bo j)]) (λ_=>[]) (λ(j:Bool)=>br j (br (a.U==0) (ag (aQ n [true] b) λg0=>f g0) (ag (aQ n [(a.U==1)] b) λh0=>f h0)) (br (a.an==3) (jg 9 (ag (mc a.U) λi0=>ag (aQ n [(decide (a.U>=0)),i0] b) λj0=>f j0)) (ag (aQ n [(a.U==0)] b) λl0=>f l0))) λq=>br (a.an==2) (q ((a.an==2))) (q ((a.an==14))))) λm=>jg 17 (br k (ag (ls n a.J) λm0=>ag (aQ n [true,m0] s) λn0=>m n0) (gd (cD ((a.fS.length:Int)+(a.J.length:Int))) (ag (ls n a.J) λo0=>ag (aQ n [(((a.fS.length:Int)+(a.J.length:Int))==0),o0] s) λp0=>m p0)))) λl=>br (a.an==13) (l true) (l ((a.an==22)))) λp=>br (decide (a.an>=1)) (ag (aQ n [(decide (a.an<=22))] r) λq0=>p q0) (ag (aQ n [false] r) λr0=>p r0)
instance RL (n:Nat) (p0:ak) (p1:cm) (p2:V):CT Pq 112 [.ptr 0 0,.agg (Q p0),.agg (Bh p1)] [.box (bX p2)] (mE n p0 p1 p2) (λ_=>.lM []) (λx=>[.box (bX x)]):=by unfold mE;exact zz 0 Tryz.func112
end Go.Abs
