/- PROVED: lemmas for ParserFiles. CONDITIONS: as stated. -/
import Derived.Test.YtlfolpjenfkhiaaGreatDoorW4
set_option linter.all false
namespace Go.Abs
open Go.Proofs Go.Proofs.Tryz aI
set_option maxRecDepth 100000
set_option maxHeartbeats 2000000
section
variable (n:Nat)
structure bo where
 oo:ByS->Int->aI (ak×Bool)
 de:Bool->D->aI (ak×D)
 jt:D->aI ((List ak)×D)
 lD:(List ak)->D->aI ((List ak)×D)
 dE:Int->Bool->D->aI (ak×D)
 fk:Bool->D->aI ((List aK)×(List ByS)×D)
 kP:Bool->(List aK)->(List ByS)->D->aI (Bool×(List aK)×(List ByS)×D)
 gj:Bool->D->aI (ak×D)
 df:Bool->D->aI (ak×D)
 fy:Bool->D->aI (aK×D)
 iW:Bool->D->aI ((List aK)×(List ByS)×D)
 gE:Bool->D->aK->aI (D×aK)
 aZ:Bool->D->aI (ak×D)
 iL:Bool->D->aK->aI (D×aK)
 fG:aC->Int->D->aI (ak×D)
 eI:D->aI (ak×D)
 ju:D->aI (ak×D)
 lE:ak->D->aI (ak×D)
 iM:D->aI (ak×D)
 eg:Bool->D->aI (ak×D)
 ka:Bool->ak->D->aI (Bool×ak×D)
 gG:Bool->D->aK->aI (D×aK)
 eQ:Bool->D->aI (ak×D)
 jK:ak->D->aI (ak×D)
 fe:Bool->D->aI (ak×D)
 eD:Bool->D->aI (ak×D)
 jL:Bool->D->Bool->(List aK)->(List ByS)->aI (D×Bool×(List aK)×(List ByS))
 iE:Bool->D->Bool->ak->aI (D×Bool×ak)
 gx:Bool->D->ak->aI (D×ak)
 iF:Bool->D->ak->aI (D×ak)
 iG:Bool->D->(List ak)->aI (D×(List ak))
def tG (e:bo) (b:ByS) (g:Int):aI (ak×Bool):=
 ag (pX n b) λa=>br (a.2.eU !=0) (.ok (ak.mk 0 [] 0 [] [] [] [] [] 0,false)) (ag (gi n a.1) λj=>br j (.ok (ak.mk 0 [] 0 [] [] [] [] [] 0,false)) (AX (ag (e.aZ false (D.mk b a.1 0 g true none)) λc=>ag (bq n c.2) λi=>.ok (c.1,(i.1.aq==0))) (λf=>Ih 71 f λh=>ag (wK h) λd=>.ok (d.1,d.2))))
def fq (a:bo) (d:Bool) (b:D):aI (ak×D):=
 br (Option.isNone (Option.map ak.C b.iO)) (ag (dc n b) λh=>ag (dq n [42] h.2) λc=>br c.1 (ag (a.df false c.2) λe=>.ok (eS 18 [] [e.1] h.1,e.2)) (ag (a.df d c.2) λf=>.ok (f.1,f.2))) (ag (a.df d b) λg=>.ok (g.1,g.2))
def lF (b:bo) (c:D):aI ((List ak)×D):=
 ag (cW n [40] c) λd=>oj [[6,103,0,26592,9,38]] (ag (b.iG true d []) λa=>gd (cD (a.1.bO+1)) (oj [[11,103,0]] (.ok (a.2,pM a.1 a.1))))
def gX (f:bo) (c:(List ak)) (d:D):aI ((List ak)×D):=
 ag (bq n d) λa=>ag (ez a.1 [41]) λl=>br (!l) (YV [0,1,3,4,2,5,6] 7 8 (ag (f.aZ false (pB a.2 d)) λh=>gd (nP 144 c.length (List.length [eS 0 [] [] 0])) (jk [[24,1,0]] (jk [[2,111,3],[0,1],[0,1,2]] (dz [0,1] [0] (λ_=>[]) (λb=>[(1,.box [.arr 3 b.1.length]),(2,.box (F b.2)),(3,.arr 38 9 (ak.Cs b.1))]) (λi (b:(List ak)×D)=>ag (dq n [44] b.2) λe=>br e.1 (YV [0,1,3,4,2,5,6] 7 8 (ag (f.aZ false e.2) λg=>gd (nP 144 b.1.length (List.length [eS 0 [] [] 0])) (jk [[24,1,0]] (jk [[2,120,3],[0,1],[0,1,2]] (i (b.1++[g.1],g.2)))))) (ag (cC n [41] e.2) λj=>.ok (b.1,j))) n (c++[h.1],h.2)))))) (ag (cC n [41] (pB a.2 d)) λk=>.ok (c,k))
def gY (f:bo) (d:Int) (g:Bool) (h:D):aI (ak×D):=
 br (decide (d>4)) (ag (f.eD g h) λk=>.ok (k.1,k.2)) (gd (cD (d+1)) (ag (f.dE (d+1) g h) λl=>dz [0,1,2,6,7] [106] (λ_=>[]) (λb=>[(0,.box (F b.1)),(107,.box (Q b.2))]) (λm (b:D×ak)=>ag (bq n b.1) λa=>ag (qL d) λo=>ag (nZ n a.1 o) λp=>br p (ji 6 (ag (dc n (pB a.2 b.1)) λi=>ag (cE n b.2 i.1 i.2) λe=>ag (bq n e.2) λc=>gd (cD (c.2.bO+1)) (vi [0,1,2,3,4,7,8,5,6,9,10] (gd (cD (d+1)) (ag (f.dE (d+1) false (pM c.2 e.2)) λj=>m (j.2,eS 20 c.1.bM [e.1,j.1] e.1.cN)))))) (.ok (b.2,pB a.2 b.1))) n (l.2,l.1)))
def kQ (b:bo) (c:Bool) (d:D):aI ((List aK)×(List ByS)×D):=
 ag (cW n [123] d) λe=>oj [[7,106]] (oj [[7,107]] (ag (b.jL false e c [] []) λa=>gd (cD (a.1.bO+1)) (ji 4 (.ok (a.2.2.1,a.2.2.2,pM a.1 a.1)))))
def nB (c:bo) (b:Bool) (f:(List aK)) (g:(List ByS)) (d:D):aI (Bool×(List aK)×(List ByS)×D):=
 ag (c.iW b d) λa=>ag (cC n [125] a.2.2) λe=>.ok (b,a.1,a.2.1,e)
def kc (f:bo) (e:Bool) (g:D):aI (ak×D):=
 ag (dc n g) λb=>iu 0 [0,1,4,5] [0,104] (λ_=>[]) (λa=>[(105,.box [I a.aq,eu a.bM,I a.U,eu a.B,eu a.bT,.pv (.sl (List.length ([]:List ak)) (ak.Cs [])),.pv (.sl (List.length ([]:List aK)) (aK.Cs [])),.pv (.sl (List.length ([]:List ByS)) (gh [])),I a.cN])]) (λ(a:ak)=>ag (f.fk e b.2) λc=>.ok (ak.mk a.aq a.bM a.U a.B a.bT [] c.1 c.2.1 a.cN,c.2.2)) λd=>br e (d ((eS 13 [] [] b.1))) (d ((eS 22 [] [] b.1)))
def fT (c:bo) (d:Bool) (h:D):aI (ak×D):=
 ag (c.dE 0 d h) λf=>dz [0,1,4,5] [104] (λ_=>[]) (λa=>[(0,.box (F a.1)),(105,.box (Q a.2))]) (λg (a:D×ak)=>ag (dq n [38] a.1) λb=>br b.1 (vi [0,1,2,5,6,3,4,7,8] (ag (c.dE 0 d b.2) λe=>g (e.2,eS 16 [] [a.2,e.1] a.2.cN))) (.ok (a.2,b.2))) n (f.2,f.1)
def lG (c:bo) (h:Bool) (s:D):aI (aK×D):=
 ag (bq n s) λb=>ag (dc n (pB b.2 s)) λf=>ag (c8 1 f.2) λo=>iu 0 [0,1,4,6] [104] (λ_=>[]) (λi=>[(0,.box (F i.1)),(106,.box (rD i.2))]) (λ(i:D×aK)=>.ok (i.2,i.1)) λg=>iu 0 [0,1,4,5,6] [0,104,105,106] (λj=>[(21,Bo j)]) (λ_=>[]) (λ(j:Bool)=>br j (ag (c.iL h o.2 (dZ 0 f.1)) λt=>g (t.1,t.2)) (ag (fL n o.2) λa=>br a.1 (ag (c.gG h a.2 (dZ 0 f.1)) λu=>g (u.1,u.2)) (ag (kK b.1 [108,101,116]) λb0=>br b0 (iu 0 [0,1,4,6] [104,106] (λ_=>[]) (λd=>[(0,.box (F d))]) (λ(d:D)=>gd (cD (d.bO+1)) (ag (fw n (pM d d)) λv=>ag (cW n [61] v.2) λc0=>ag (c.aZ true c0) λw=>g (w.2,aK.mk 4 0 v.1 [] [] [w.1] [] [] [] [] f.1))) λq=>br (!h) (ag (ca n a.2) λd0=>q d0) (q a.2)) (ag (ez b.1 [46,46,46]) λe0=>br e0 (iu 0 [0,1,4,6] [104,106] (λ_=>[]) (λe=>[(0,.box (F e))]) (λ(e:D)=>gd (cD (e.bO+1)) (g (pM e e,dZ 8 f.1))) λr=>br (!h) (ag (ca n a.2) λf0=>r f0) (r a.2)) (ag (kK b.1 [105,102]) λg0=>br g0 (gd (cD (a.2.bO+1)) (ag (c.aZ false (pM a.2 a.2)) λx=>ag (c.fk false x.2) λk=>g (k.2.2,aK.mk 5 0 [] [] [] [x.1] k.1 k.2.1 [] [] f.1))) (ag (kK b.1 [102,111,114]) λh0=>br h0 (gd (cD (a.2.bO+1)) (ag (kL n (pM a.2 a.2)) λl=>ag (ei n [105,110] l.2) λi0=>ag (c.aZ false i0) λy=>ag (c.fk false y.2) λm=>g (m.2.2,aK.mk 6 0 [] l.1.x0 l.1.x1 [y.1] m.1 m.2.1 [] [] f.1))) (ag (ez b.1 [40]) λj0=>br j0 (ag (c.gE h a.2 (dZ 0 f.1)) λz=>g (z.1,z.2)) (ag (c.aZ h a.2) λa0=>g (a0.2,aK.mk 3 0 [] [] [] [a0.1] [] [] [] [] f.1))))))))) λp=>ag (o9 n b.1) λk0=>br k0 (ag (nZ n o.1 [58,32,63,32,33]) λl0=>p l0) (p false)
def sr (r:bo) (s:Bool) (t:D):aI ((List aK)×(List ByS)×D):=
 jk [[3,1,10001,1,9]] (jk [[4,8,10008,11,43]] (dz [0,2] [] (λa=>[(1,.arr 10001 a.2.1.length),(8,.arr 10008 a.2.2.1.length),(9,I a.2.2.2.1),(10,Bo a.2.2.2.2)]) (λa=>[(0,.box (F a.1)),(10001,.app 9 1 (gh a.2.1)),(10008,.arr 43 11 (aK.Cs a.2.2.1))]) (λh (a:D×(List ByS)×(List aK)×Int×Bool)=>ag (lB n a.1) λg=>br (!g.1) (ag (bq n g.2) λb=>iu 0 [0,1,2,8,9,10,11] [0,111,10001,10008] (λj=>[(31,Bo j)]) (λ_=>[]) (λ(j:Bool)=>br j (gd (cD (b.2.bO+1)) (h (pM b.2 g.2,a.2.1,a.2.2.1,a.2.2.2.1,true))) (iu 0 [0,1,2,8,9,10,11] [111,10001,10008] (λd=>[(46,Bo d.2)]) (λd=>[(0,.box (F d.1))]) (λ(d:D×Bool)=>br d.2 (gd (cD ((a.2.2.1.length:Int) - 1)) (el a.2.2.1 ((a.2.2.1.length:Int) - 1) λf=>jk [[17,8]] (gd (cD (d.1.bO+1)) (h (pM d.1 d.1,a.2.1,List.set a.2.2.1 ((a.2.2.1.length:Int) - 1).toNat (dT f b.1.bM),a.2.2.2.1,a.2.2.2.2))))) (iu 0 [0,1,2,8,9,10,11] [111,10001,10008] (λe=>[(74,Bo e.2)]) (λe=>[(0,.box (F e.1))]) (λ(e:D×Bool)=>br e.2 (gd (nP 16 a.2.1.length (List.length [b.1.bM])) (jk [[1,186,10001],[0,1,2,8,9,10],[10008,0]] (gd (cD (e.1.bO+1)) (h (pM e.1 e.1,a.2.1++[b.1.bM],a.2.2.1,a.2.2.2.1,a.2.2.2.2))))) (iu 0 [0,1,2,8,9,10] [0,10001,10008] (λk=>[(94,Bo k)]) (λ_=>[]) (λ(k:Bool)=>br k (ag (ca n e.1) λu=>h (u,a.2.1,a.2.2.1,a.2.2.2.1,a.2.2.2.2)) (ag (r.fy s e.1) λc=>oj [[22,21]] (gd (nP 184 a.2.2.1.length (List.length [dL c.1 a.2.1])) (jk [[2,126,10008],[0,1,2,8],[0]] (jk [[3,1,10001,1,9]] (h (c.2,[],a.2.2.1++[dL c.1 a.2.1],c.2.bO,false))))))) λo=>br (b.1.aq==6) (o true) (o ((!a.2.2.2.2))))) λm=>br (b.1.aq==6) (ag (iK n d.1) λp=>m (p.2,p.1)) (m (d.1,false)))) λi=>br (b.1.aq==6) (br (decide (a.2.2.2.1>0)) (ag (iV n a.2.2.2.1 (pB b.2 g.2)) λq=>i (q.2,q.1)) (i (pB b.2 g.2,false))) (i (pB b.2 g.2,false)))) λl=>br (b.1.aq==7) (l true) (ag (ez b.1 [44]) λv=>l v)) (oj [[22,105]] (s6 [[12,6]] (.ok (a.2.2.1,a.2.1,g.2))))) n (t,[],[],(-1),true)))
def lh (e:bo) (f:Bool) (j:D) (a:aK):aI (D×aK):=
 ag (e.eg f j) λd=>ag (bq n d.2) λb=>ag (ez b.1 [58]) λk=>br k (ag (dc n (D.mk b.2.cP b.2.oh b.2.bO d.2.base b.2.skip b.2.iO)) λi=>ag (cE n d.1 i.1 i.2) λc=>gd (cD (c.2.bO+1)) (ag (e.aZ false (D.mk c.2.cP c.2.oh (c.2.bO+1) c.2.base c.2.skip c.2.iO)) λg=>.ok (g.2,aK.mk 7 a.eo a.ni a.B a.bT [c.1,g.1] a.lZ a.J a.so a.lR a.cN))) (ag (e.aZ f (D.mk b.2.cP b.2.oh b.2.bO d.2.base b.2.skip (some d.1))) λh=>.ok (h.2,aK.mk 3 a.eo a.ni a.B a.bT [h.1] a.lZ a.J a.so a.lR a.cN))
def iX (k:bo) (f:Bool) (i:D):aI (ak×D):=
 jnF 1 (λe=>[(0,.ptr 0 0),(1,Bo f),(4,.ptr 104 0),(5,Bo e.2)]) (λe=>[(0,.box (F e.1)),(104,.box oE)]) (λ(e:D×Bool)=>jnF 0 (λa=>[(0,.ptr 0 0),(1,Bo f),(4,.ptr 104 0),(5,Bo e.2),(6,.ptr 106 0)]) (λa=>[(0,.box (F a.1)),(104,.box oE),(106,.box (Q a.2))]) (λ(a:D×ak)=>jnF 0 (λg=>[(0,.ptr 0 0),(1,Bo f),(4,.ptr 104 0),(6,.ptr 106 0)]) (λg=>[(0,.box (F g)),(104,.box oE),(106,.box (Q a.2))]) (λ(g:D)=>jnF 0 (λj=>[(0,.ptr 0 0),(1,Bo f),(4,.ptr 104 0),(6,.ptr 106 0)]) (λj=>[(0,.box (F j)),(104,.box oE),(106,.box (Q a.2))]) (λ(j:D)=>Bn 7 (ag (dc n j) λs=>ag (cE n a.2 s.1 s.2) λt=>oj [[20,45]] (jk [[1,145,10007],[0,1,4,7],[0,104]] (NN (λd=>[(0,.ptr 0 0),(1,Bo f),(4,.ptr 104 0),(7,.arr 10007 d.2.length)]) (λd=>[(0,.box (F d.1)),(104,.box oE),(10007,.app 38 9 (ak.Cs d.2))]) (λw (d:D×(List ak))=>ag (dq n [124] d.1) λl=>br l.1 (ag (k.de false l.2) λm=>gd (nP 144 d.2.length (List.length [m.1])) (jk [[1,152,10007],[0,1,4,7],[0,104]] (w (m.2,d.2++[m.1])))) (oj [[22,53]] (oj [[22,54]] (el d.2 0 λx=>s6 [[7,104]] (.ok (eS 17 [] d.2 x.cN,l.2)))))) n (t.2,[t.1]))))) λo=>ag (bq n g) λb=>ag (ez b.1 [124]) λy=>br (!y) (ag (ca n (pB b.2 g)) λz=>o z) (o ((pB b.2 g)))) λr=>br (!e.2) (ag (bq n a.1) λc=>ag (ez c.1 [124]) λa0=>br (!a0) (.ok (a.2,pB c.2 a.1)) (r ((pB c.2 a.1)))) (r a.1)) λq=>br f (ag (k.de (!e.2) e.1) λu=>q (u.2,u.1)) (ag (k.de false e.1) λv=>q (v.2,v.1))) λp=>br (Option.isNone (Option.map ak.C i.iO)) (ag (bq n i) λh=>ag (ez h.1 [42]) λb0=>p (pB h.2 i,b0)) (p (i,false))
def kR (i:bo) (j:Bool) (g:D) (a:aK):aI (D×aK):=
 ag (bq n g) λc=>gd (cD (c.2.bO+1)) (iu 1 [0,1,2] [] (λ_=>[]) (λb=>[(0,.box (F b.1)),(1,.box (rD b.2))]) (λ(b:D×aK)=>ag (cW n [58] b.1) λk=>ag (i.aZ j k) λh=>.ok (h.2,dS b.2 b.2.aq [h.1])) λd=>ag (dq n [63] (pM c.2 g)) λe=>br e.1 (d (e.2,aK.mk 1 3 c.1.bM a.B a.bT a.bK a.lZ a.J a.so a.lR a.cN)) (ag (dq n [33] e.2) λf=>br f.1 (d (f.2,aK.mk 1 2 c.1.bM a.B a.bT a.bK a.lZ a.J a.so a.lR a.cN)) (d (f.2,aK.mk 1 1 c.1.bM a.B a.bT a.bK a.lZ a.J a.so a.lR a.cN))))
def ke (g:bo) (h:aC) (c:Int) (i:D):aI (ak×D):=
 ag (qw n h.bM) λf=>jk [[6,109,5,26981,9,38]] (dz [0,1,2,6,9,23,24] [106] (λa=>[(25,I a.2.2)]) (λa=>[(0,.box (F a.1)),(109,.box [I a.2.1.aq,eu a.2.1.bM,I a.2.1.U,eu a.2.1.B,eu a.2.1.bT,.arr 26981 a.2.1.bK.length,nSl,nSl,I a.2.1.cN]),(26981,.arr 38 9 (ak.Cs a.2.1.bK))]) (λe (a:D×ak×Int)=>br (decide (a.2.2<f.1.length)) (el f.1 a.2.2 λb=>gd (cD (c+1)) (gd (cD ((c+1)+b.cN)) (br (!b.Code) (gd (nP 144 a.2.1.bK.length (List.length [eS 4 b.bM [] ((c+1)+b.cN)])) (jk [[2,144,26981],[0,1,2,6,9,11,12,23,24,25],[0,106,109,111]] (gd (cD (a.2.2+1)) (e (a.1,eA a.2.1 (a.2.1.bK++[eS 4 b.bM [] ((c+1)+b.cN)]),a.2.2+1))))) (ag (g.oo b.bM ((c+1)+b.cN)) λd=>br (!d.2) (ag (j8 c a.1) λj=>gd (nP 144 a.2.1.bK.length (List.length [d.1])) (jk [[2,162,26981],[0,1,2,6,9,23,24,25],[0,106,109]] (gd (cD (a.2.2+1)) (e (j,eA a.2.1 (a.2.1.bK++[d.1]),a.2.2+1))))) (gd (nP 144 a.2.1.bK.length (List.length [d.1])) (jk [[2,162,26981],[0,1,2,6,9,23,24,25],[0,106,109]] (gd (cD (a.2.2+1)) (e (a.1,eA a.2.1 (a.2.1.bK++[d.1]),a.2.2+1))))))))) (oj [[11,109,5]] (s6 [[7,106]] (.ok (eA a.2.1 a.2.1.bK,a.1))))) n (i,eS 5 [] [] c,0))
def iY (g:bo) (l:D):aI (ak×D):=
 ag (dc n l) λf=>ag (bq n f.2) λc=>ag (kK c.1 [102,111,114]) λs=>br (!s) (ag (g.aZ false (pB c.2 f.2)) λk=>.ok (k.1,k.2)) (ag (ei n [102,111,114] (pB c.2 f.2)) λm=>ag (kL n m) λe=>ag (ei n [105,110] e.2) λo=>jk [[6,104,5,26661,9,38]] (Bn 8 (ag (g.aZ false o) λd=>gd (nP 144 (List.length ([]:List ak)) (List.length [d.1])) (jk [[2,126,26661],[0,2,4],[0,102,104]] (iu 0 [0,2,4] [102] (λ_=>[]) (λa=>[(0,.box (F a.1)),(104,.box [I a.2.aq,eu a.2.bM,I a.2.U,eu a.2.B,eu a.2.bT,.arr 26661 a.2.bK.length,nSl,nSl,I a.2.cN]),(26661,.arr 38 9 (ak.Cs a.2.bK))]) (λ(a:D×ak)=>ag (cW n [58] a.1) λp=>Bn 8 (ag (g.aZ false p) λh=>gd (nP 144 a.2.bK.length (List.length [h.1])) (jk [[2,147,26661],[0,2,4],[0,102,104]] (oj [[11,104,5]] (s6 [[7,102]] (.ok (eA a.2 (a.2.bK++[h.1]),h.2))))))) λj=>ag (bq n d.2) λb=>ag (kK b.1 [105,102]) λq=>br q (ag (ei n [105,102] (pB b.2 d.2)) λr=>Bn 8 (ag (g.aZ false r) λi=>gd (nP 144 (List.length ([]++[d.1])) (List.length [i.1])) (jk [[2,138,26661],[0,2,4],[0,102,104]] (j (i.2,ak.mk 15 [] 0 e.1.x0 e.1.x1 (([]++[d.1])++[i.1]) [] [] f.1))))) (j (pB b.2 d.2,ak.mk 15 [] 0 e.1.x0 e.1.x1 ([]++[d.1]) [] [] f.1)))))))
def lH (c:bo) (d:D):aI (ak×D):=
 ag (dc n d) λb=>ag (cW n [91] b.2) λe=>oj [[6,103,5,26597,9,38]] (oj [[7,103]] (ag (c.iF true e (eS 14 [] [] b.1)) λa=>gd (cD (a.1.bO+1)) (oj [[11,103,5]] (.ok (a.2,pM a.1 a.1)))))
def gZ (g:bo) (o:ak) (p:D):aI (ak×D):=
 dz [0,1] [0] (λa=>[(2,Bo a.2.2)]) (λa=>[(1,.box [I a.1.aq,eu a.1.bM,I a.1.U,eu a.1.B,eu a.1.bT,.arr 3 a.1.bK.length,Μ a.1.fi,yi a.1.J,I a.1.cN]),(2,.box (F a.2.1)),(3,.arr 38 9 (ak.Cs a.1.bK))]) (λm (a:ak×D×Bool)=>ag (bq n a.2.1) λb=>ag (ez b.1 [93]) λu=>br (!u) (iu 1 [0,1] [0,1,3] (λ_=>[]) (λf=>[(2,.box (F f))]) (λ(f:D)=>ag (dc n f) λj=>ag (dq n [46,46,46] j.2) λe=>br e.1 (iu 2 [0,1,4] [0,1,3] (λ_=>[]) (λd=>[(2,.box (F d.1)),(104,.box (Q d.2))]) (λ(d:D×ak)=>YV [0,1,2,3,4,5,6,8] 7 9 (gd (nP 144 a.1.bK.length (List.length [eS 0 [] [] 0])) (jk [[24,1,5]] (jk [[2,131,3],[0,1],[0,1,2]] (ag (cC n [93] d.1) λq=>.ok (ak.mk a.1.aq a.1.bM 1 a.1.B a.1.bT (a.1.bK++[d.2]) a.1.fi a.1.J a.1.cN,q)))))) λi=>ag (bq n e.2) λc=>ag (ez c.1 [93]) λr=>br (!r) (ag (g.aZ false (pB c.2 e.2)) λk=>i (k.2,k.1)) (jk [[8,104,5]] (jk [[8,104,6]] (jk [[8,104,7]] (i (pB c.2 e.2,eS 6 [] [] j.1)))))) (YV [0,1,2,4,5,3,6,7,9] 8 10 (ag (g.eI e.2) λl=>gd (nP 144 a.1.bK.length (List.length [eS 0 [] [] 0])) (jk [[24,1,5]] (jk [[2,140,3],[0,1],[0,1,2]] (m (ak.mk a.1.aq a.1.bM a.1.U a.1.B a.1.bT (a.1.bK++[l.1]) a.1.fi a.1.J a.1.cN,l.2,false))))))) λh=>br (!a.2.2) (ag (cW n [44] (pB b.2 a.2.1)) λs=>h s) (h ((pB b.2 a.2.1)))) (ag (cC n [93] (pB b.2 a.2.1)) λt=>.ok (a.1,t))) n (o,p,true)
def kS (m:bo) (k:D):aI (ak×D):=
 ag (bq n k) λa=>ag (dc n (pB a.2 k)) λb=>iu 1 [0,2,5] [0,102] (λ_=>[]) (λc=>[(105,.box [I c.aq,eu c.bM,I c.U,eu c.B,eu c.bT,.pv (.sl (List.length ([]:List ak)) (ak.Cs [])),.pv (.sl (List.length ([]:List aK)) (aK.Cs [])),.pv (.sl (List.length ([]:List ByS)) (gh [])),I c.cN])]) (λ(c:ak)=>gd (cD (b.2.bO+1)) (.ok (eA c [],pM b.2 b.2))) λg=>br (a.1.bM==([110,117,108,108]:ByS)) (g ((eS 1 [] [] b.1))) (iu 0 [0,2,3,5,13] [0,102,103,105] (λh=>[(29,Bo h)]) (λ_=>[]) (λ(h:Bool)=>br h (br (a.1.bM==([116,114,117,101]:ByS)) (g ((ak.mk 2 [] 1 [] [] [] [] [] b.1))) (g ((eS 2 [] [] b.1)))) (iu 0 [0,2,3,5] [0,102,103,105] (λi=>[(37,Bo i)]) (λ_=>[]) (λ(i:Bool)=>br i (ji 6 (g ((eS 8 a.1.bM [] b.1)))) (ag (fw n b.2) λe=>ag (bq n e.2) λd=>ag (ez d.1 [40]) λo=>br o (ag (m.jt (pB d.2 e.2)) λl=>.ok (eS 21 e.1 l.1 b.1,l.2)) (.ok (eS 10 e.1 [] b.1,pB d.2 e.2)))) λf=>br (a.1.bM==([98,111,111,108]:ByS)) (f ((a.1.bM==([98,111,111,108]:ByS)))) (br (a.1.bM==([105,110,116]:ByS)) (f ((a.1.bM==([105,110,116]:ByS)))) (br (a.1.bM==([110,117,109,98,101,114]:ByS)) (f ((a.1.bM==([110,117,109,98,101,114]:ByS)))) (f ((a.1.bM==([115,116,114,105,110,103]:ByS)))))))) λj=>br (a.1.bM==([116,114,117,101]:ByS)) (j ((a.1.bM==([116,114,117,101]:ByS)))) (j ((a.1.bM==([102,97,108,115,101]:ByS)))))
def kf (b:bo) (c:Bool) (d:D):aI (ak×D):=
 ag (cW n [40] d) λe=>ag (b.iE true e c (eS 0 [] [] 0)) λa=>gd (cD (a.1.bO+1)) (.ok (a.2.2,pM a.1 a.1))
def mN (c:bo) (a:Bool) (f:ak) (d:D):aI (Bool×ak×D):=
 ag (c.aZ a d) λb=>ag (cC n [41] b.2) λe=>.ok (a,b.1,e)
def jM (d:bo) (e:Bool) (f:D) (b:aK):aI (D×aK):=
 ji 8 (ag (cW n [91] f) λh=>ag (nt n true h (aK.mk 2 b.eo ([46,42]:ByS) b.B b.bT b.bK b.lZ b.J b.so b.lR b.cN)) λa=>gd (cD (a.1.bO+1)) (ag (cW n [58] (pM a.1 a.1)) λg=>ji 8 (ag (d.aZ e g) λc=>.ok (c.2,dS a.2 a.2.aq [c.1]))))
def iH (i:bo) (m:Bool) (o:D):aI (ak×D):=
 ag (i.fe m o) λl=>dz [0,1,2,4,5] [102,104] (λ_=>[]) (λd=>[(0,.box (F d.1)),(105,.box (Q d.2))]) (λk (d:D×ak)=>vi [0,2,4,1,3,5,6] (ag (bq n d.1) λg=>ag (dc n (pB g.2 d.1)) λh=>ag (ez g.1 [46]) λp=>br p (ag (cE n d.2 h.1 h.2) λb=>gd (cD (b.2.bO+1)) (ag (bq n (pM b.2 b.2)) λa=>iu 0 [0,1,2,4,5,8] [102,104,105,108] (λ_=>[]) (λc=>[(0,.box (F c))]) (λ(c:D)=>gd (cD (c.bO+1)) (k (pM c c,eS 11 a.1.bM [b.1] b.1.cN))) λj=>ag (o9 n a.1) λq=>br (!q) (ag (ca n (pB a.2 b.2)) λr=>j r) (j ((pB a.2 b.2))))) (ag (ez g.1 [91]) λs=>br s (ag (cE n d.2 h.1 h.2) λe=>gd (cD (e.2.bO+1)) (ag (i.gx true (pM e.2 e.2) e.1) λf=>gd (cD (f.1.bO+1)) (k (pM f.1 f.1,f.2)))) (.ok (d.2,h.2))))) n (l.2,l.1)
def l8 (c:bo) (a:ak) (d:D):aI (ak×D):=
 vi [0,1,4,5,2,3,6,7] (ag (c.aZ false d) λb=>ag (cC n [93] b.2) λe=>.ok (eS 12 [] [a,b.1] a.cN,e))
def gy (f:bo) (g:Bool) (d:D):aI (ak×D):=
 br (Option.isSome (Option.map ak.C d.iO)) (some? d.iO λm=>s6 [[7,0]] (.ok (m,D.mk d.cP d.oh d.bO d.base d.skip none))) (ag (bq n d) λa=>ag (dc n (pB a.2 d)) λb=>iu 1 [0,1,4,8] [104] (λ_=>[]) (λc=>[(0,.box (F c.1)),(108,.box (Q c.2))]) (λ(c:D×ak)=>gd (cD (c.1.bO+1)) (.ok (c.2,pM c.1 c.1))) λe=>br (a.1.aq==1) (ag (f.iM b.2) λh=>.ok (h.1,h.2)) (br (a.1.aq==2) (ag (nj n a.1.bM) λo=>e (b.2,ak.mk 3 [] o.1 [] [] [] [] [] b.1)) (br (a.1.aq==3) (ji 6 (e (b.2,eS 4 a.1.bM [] b.1))) (br (a.1.aq==4) (ag (f.fG a.1 b.1 b.2) λi=>e (i.2,i.1)) (ag (ez a.1 [95]) λp=>br p (e (b.2,eS 6 [] [] b.1)) (ag (ez a.1 [95,124,95]) λq=>br q (e (b.2,eS 7 [] [] b.1)) (ag (ez a.1 [40]) λr=>br r (ag (f.eg g b.2) λj=>.ok (j.1,j.2)) (ag (ez a.1 [123]) λs=>br s (ag (f.gj g b.2) λk=>.ok (k.1,k.2)) (ag (ez a.1 [91]) λt=>br t (ag (f.ju b.2) λl=>.ok (l.1,l.2)) (ag (ca n b.2) λu=>e (u,eS 0 [] [] b.1)))))))))))
def iB (d:bo) (g:Bool) (c:D):aI (ak×D):=
 br (Option.isSome (Option.map ak.C c.iO)) (ag (d.eQ g c) λj=>.ok (j.1,j.2)) (ag (bq n c) λb=>ag (dc n (pB b.2 c)) λa=>iu 1 [0,1,4,5,6] [0,104,105] (λe=>[(7,I e)]) (λ_=>[]) (λ(e:Int)=>gd (cD (a.2.bO+1)) (vi [0,1,2,3,6,4,5,7,8] (ag (d.eD false (pM a.2 a.2)) λh=>.ok (eS e b.1.bM [h.1] a.1,h.2)))) λf=>ag (nZ n b.1 [45,32,33]) λk=>br k (f 19) (ag (nZ n b.1 [60,32,60,61,32,62,32,62,61,32,33,61,32,61,126,32,33,126]) λl=>br l (f 9) (ag (d.eQ g a.2) λi=>.ok (i.1,i.2))))
def l9 (n:Nat) (c:bo) (d:Bool) (b:D) (e:Bool) (f:(List aK)) (g:(List ByS)):aI (D×Bool×(List aK)×(List ByS)):=
 ag (c.kP e f g (pK b b d)) λa=>.ok (pK a.2.2.2 a.2.2.2 b.skip,a.1,a.2.1,a.2.2.1)
def ma (n:Nat) (c:bo) (d:Bool) (b:D) (e:Bool) (f:ak):aI (D×Bool×ak):=
 ag (c.ka e f (pK b b d)) λa=>.ok (pK a.2.2 a.2.2 b.skip,a.1,a.2.1)
def mc (n:Nat) (c:bo) (d:Bool) (a:D) (e:ak):aI (D×ak):=
 ag (c.jK e (pK a a d)) λb=>.ok (pK b.2 b.2 a.skip,b.1)
def me (n:Nat) (c:bo) (d:Bool) (a:D) (e:ak):aI (D×ak):=
 ag (c.lE e (pK a a d)) λb=>.ok (pK b.2 b.2 a.skip,b.1)
def mf (n:Nat) (c:bo) (d:Bool) (a:D) (e:(List ak)):aI (D×(List ak)):=
 ag (c.lD e (pK a a d)) λb=>.ok (pK b.2 b.2 a.skip,b.1)
def R:Nat->bo
 | 0=>⟨λ_ _=>.stuck,λ_ _=>.stuck,λ_=>.stuck,λ_ _=>.stuck,λ_ _ _=>.stuck,λ_ _=>.stuck,λ_ _ _ _=>.stuck,λ_ _=>.stuck,λ_ _=>.stuck,λ_ _=>.stuck,λ_ _=>.stuck,λ_ _ _=>.stuck,λ_ _=>.stuck,λ_ _ _=>.stuck,λ_ _ _=>.stuck,λ_=>.stuck,λ_=>.stuck,λ_ _=>.stuck,λ_=>.stuck,λ_ _=>.stuck,λ_ _ _=>.stuck,λ_ _ _=>.stuck,λ_ _=>.stuck,λ_ _=>.stuck,λ_ _=>.stuck,λ_ _=>.stuck,λ_ _ _ _ _=>.stuck,λ_ _ _ _=>.stuck,λ_ _ _=>.stuck,λ_ _ _=>.stuck,λ_ _ _=>.stuck⟩
 | n+1=>⟨tG n (R n),fq n (R n),lF n (R n),gX n (R n),gY n (R n),kQ n (R n),nB n (R n),kc n (R n),fT n (R n),lG n (R n),sr n (R n),lh n (R n),iX n (R n),kR n (R n),ke n (R n),iY n (R n),lH n (R n),gZ n (R n),kS n (R n),kf n (R n),mN n (R n),jM n (R n),iH n (R n),l8 n (R n),gy n (R n),iB n (R n),l9 n (R n),ma n (R n),mc n (R n),me n (R n),mf n (R n)⟩
abbrev oo:=(R n).oo
abbrev de:=(R n).de
abbrev jt:=(R n).jt
abbrev lD:=(R n).lD
abbrev dE:=(R n).dE
abbrev fk:=(R n).fk
abbrev kP:=(R n).kP
abbrev gj:=(R n).gj
abbrev df:=(R n).df
abbrev fy:=(R n).fy
abbrev iW:=(R n).iW
abbrev gE:=(R n).gE
abbrev aZ:=(R n).aZ
abbrev iL:=(R n).iL
abbrev fG:=(R n).fG
abbrev eI:=(R n).eI
abbrev ju:=(R n).ju
abbrev lE:=(R n).lE
abbrev iM:=(R n).iM
abbrev eg:=(R n).eg
abbrev ka:=(R n).ka
abbrev gG:=(R n).gG
abbrev eQ:=(R n).eQ
abbrev jK:=(R n).jK
abbrev fe:=(R n).fe
abbrev eD:=(R n).eD
abbrev jL:=(R n).jL
abbrev iE:=(R n).iE
abbrev gx:=(R n).gx
abbrev iF:=(R n).iF
abbrev iG:=(R n).iG
abbrev F9 (f:ByS->Int->aI (ak×Bool)):Prop:=∀ p0 p1,CT Pq 291 [eu p0,I p1] [] (f p0 p1) (λx=>.mE [.agg (Q x.1),Bo x.2]) (λ_=>[])
abbrev tP (f:Bool->D->aI (ak×D)):Prop:=∀ p0 p1,CT Pq 64 [.ptr 0 0,Bo p0] [.box (F p1)] (f p0 p1) (λx=>.agg (Q x.1)) (λx=>[.box (F x.2)])
abbrev yp (f:D->aI ((List ak)×D)):Prop:=∀ p0,CT Pq 290 [.ptr 0 0] [.box (F p0)] (f p0) (λx=>.pv (.sl x.1.length (ak.Cs x.1))) (λx=>[.box (F x.2)])
abbrev wL (f:(List ak)->D->aI ((List ak)×D)):Prop:=∀ p0 p1,CT Pq 306 [.ptr 0 0,.ptr 1 0] [.box [.ptr 2 0],.box [.arr 3 p0.length],.box (F p1),.arr 38 9 (ak.Cs p0)] (f p0 p1) (λ_=>.mE []) (λx=>[.box [.ptr 2 0],.box [.arr 3 x.1.length],.box (F x.2),.arr 38 9 (ak.Cs x.1)])
abbrev wM (f:Int->Bool->D->aI (ak×D)):Prop:=∀ p0 p1 p2,CT Pq 163 [.ptr 0 0,I p0,Bo p1] [.box (F p2)] (f p0 p1 p2) (λx=>.agg (Q x.1)) (λx=>[.box (F x.2)])
abbrev xw (f:Bool->D->aI ((List aK)×(List ByS)×D)):Prop:=∀ p0 p1,CT Pq 137 [.ptr 0 0,Bo p0] [.box (F p1)] (f p0 p1) (λx=>.mE [.pv (.sl x.1.length (aK.Cs x.1)),.pv (.sl x.2.1.length (gh x.2.1))]) (λx=>[.box (F x.2.2)])
abbrev vY (f:Bool->(List aK)->(List ByS)->D->aI (Bool×(List aK)×(List ByS)×D)):Prop:=∀ p0 p1 p2 p3,CT Pq 187 [.ptr 0 0,.ptr 1 0,.ptr 2 0,.ptr 3 0] [.box [.ptr 4 0],.box [Bo p0],.box [.pv (.sl p1.length (aK.Cs p1))],.box [.pv (.sl p2.length (gh p2))],.box (F p3)] (f p0 p1 p2 p3) (λ_=>.mE []) (λx=>[.box [.ptr 4 0],.box [Bo x.1],.box [.pv (.sl x.2.1.length (aK.Cs x.2.1))],.box [.pv (.sl x.2.2.1.length (gh x.2.2.1))],.box (F x.2.2.2)])
abbrev wN (f:Bool->D->aI (ak×D)):Prop:=∀ p0 p1,CT Pq 271 [.ptr 0 0,Bo p0] [.box (F p1)] (f p0 p1) (λx=>.agg (Q x.1)) (λx=>[.box (F x.2)])
abbrev tQ (f:Bool->D->aI (ak×D)):Prop:=∀ p0 p1,CT Pq 111 [.ptr 0 0,Bo p0] [.box (F p1)] (f p0 p1) (λx=>.agg (Q x.1)) (λx=>[.box (F x.2)])
abbrev yq (f:Bool->D->aI (aK×D)):Prop:=∀ p0 p1,CT Pq 88 [.ptr 0 0,Bo p0] [.box (F p1)] (f p0 p1) (λx=>.agg (rD x.1)) (λx=>[.box (F x.2)])
abbrev vo (f:Bool->D->aI ((List aK)×(List ByS)×D)):Prop:=∀ p0 p1,CT Pq 42 [.ptr 0 0,nSl,Bo p0] [.box (F p1)] (f p0 p1) (λx=>.mE [.pv (.sl x.1.length (aK.Cs x.1)),.pv (.sl x.2.1.length (gh x.2.1))]) (λx=>[.box (F x.2.2)])
abbrev vZ (f:Bool->D->aK->aI (D×aK)):Prop:=∀ p0 p1 p2,CT Pq 140 [.ptr 0 0,.ptr 1 0,Bo p0] [.box (F p1),.box (rD p2)] (f p0 p1 p2) (λ_=>.mE []) (λx=>[.box (F x.1),.box (rD x.2)])
abbrev yr (f:Bool->D->aI (ak×D)):Prop:=∀ p0 p1,CT Pq 24 [.ptr 0 0,Bo p0] [.box (F p1)] (f p0 p1) (λx=>.agg (Q x.1)) (λx=>[.box (F x.2)])
abbrev xx (f:Bool->D->aK->aI (D×aK)):Prop:=∀ p0 p1 p2,CT Pq 133 [.ptr 0 0,.ptr 1 0,Bo p0] [.box (F p1),.box (rD p2)] (f p0 p1 p2) (λ_=>.mE []) (λx=>[.box (F x.1),.box (rD x.2)])
abbrev wO (f:aC->Int->D->aI (ak×D)):Prop:=∀ p0 p1 p2,CT Pq 270 [.ptr 0 0,.agg (nL p0),I p1] [.box (F p2)] (f p0 p1 p2) (λx=>.agg (Q x.1)) (λx=>[.box (F x.2)])
abbrev yu (f:D->aI (ak×D)):Prop:=∀ p0,CT Pq 293 [.ptr 0 0] [.box (F p0)] (f p0) (λx=>.agg (Q x.1)) (λx=>[.box (F x.2)])
abbrev yv (f:D->aI (ak×D)):Prop:=∀ p0,CT Pq 272 [.ptr 0 0] [.box (F p0)] (f p0) (λx=>.agg (Q x.1)) (λx=>[.box (F x.2)])
abbrev wP (f:ak->D->aI (ak×D)):Prop:=∀ p0 p1,CT Pq 292 [.ptr 0 0,.ptr 1 0] [.box [.ptr 2 0],.box [I p0.aq,eu p0.bM,I p0.U,eu p0.B,eu p0.bT,.arr 3 p0.bK.length,.pv (.sl p0.fi.length (aK.Cs p0.fi)),.pv (.sl p0.J.length (gh p0.J)),I p0.cN],.box (F p1),.arr 38 9 (ak.Cs p0.bK)] (f p0 p1) (λ_=>.mE []) (λx=>[.box [.ptr 2 0],.box [I x.1.aq,eu x.1.bM,I x.1.U,eu x.1.B,eu x.1.bT,.arr 3 x.1.bK.length,.pv (.sl x.1.fi.length (aK.Cs x.1.fi)),.pv (.sl x.1.J.length (gh x.1.J)),I x.1.cN],.box (F x.2),.arr 38 9 (ak.Cs x.1.bK)])
abbrev xy (f:D->aI (ak×D)):Prop:=∀ p0,CT Pq 269 [.ptr 0 0] [.box (F p0)] (f p0) (λx=>.agg (Q x.1)) (λx=>[.box (F x.2)])
abbrev wQ (f:Bool->D->aI (ak×D)):Prop:=∀ p0 p1,CT Pq 188 [.ptr 0 0,Bo p0] [.box (F p1)] (f p0 p1) (λx=>.agg (Q x.1)) (λx=>[.box (F x.2)])
abbrev vq (f:Bool->ak->D->aI (Bool×ak×D)):Prop:=∀ p0 p1 p2,CT Pq 225 [.ptr 0 0,.ptr 1 0,.ptr 2 0] [.box [.ptr 3 0],.box [Bo p0],.box (Q p1),.box (F p2)] (f p0 p1 p2) (λ_=>.mE []) (λx=>[.box [.ptr 3 0],.box [Bo x.1],.box (Q x.2.1),.box (F x.2.2)])
abbrev wa (f:Bool->D->aK->aI (D×aK)):Prop:=∀ p0 p1 p2,CT Pq 135 [.ptr 0 0,.ptr 1 0,Bo p0] [.box (F p1),.box (rD p2)] (f p0 p1 p2) (λ_=>.mE []) (λx=>[.box (F x.1),.box (rD x.2)])
abbrev wb (f:Bool->D->aI (ak×D)):Prop:=∀ p0 p1,CT Pq 236 [.ptr 0 0,Bo p0] [.box (F p1)] (f p0 p1) (λx=>.agg (Q x.1)) (λx=>[.box (F x.2)])
abbrev uQ (f:ak->D->aI (ak×D)):Prop:=∀ p0 p1,CT Pq 258 [.ptr 0 0,.ptr 1 0] [.box (Q p0),.box [.ptr 2 0],.box (F p1)] (f p0 p1) (λ_=>.mE []) (λx=>[.box (Q x.1),.box [.ptr 2 0],.box (F x.2)])
abbrev wc (f:Bool->D->aI (ak×D)):Prop:=∀ p0 p1,CT Pq 257 [.ptr 0 0,Bo p0] [.box (F p1)] (f p0 p1) (λx=>.agg (Q x.1)) (λx=>[.box (F x.2)])
abbrev xz (f:Bool->D->aI (ak×D)):Prop:=∀ p0 p1,CT Pq 206 [.ptr 0 0,Bo p0] [.box (F p1)] (f p0 p1) (λx=>.agg (Q x.1)) (λx=>[.box (F x.2)])
abbrev uR (f:Bool->D->Bool->(List aK)->(List ByS)->aI (D×Bool×(List aK)×(List ByS))):Prop:=∀ p0 p1 p2 p3 p4,CT Pq 184 [.ptr 0 0,Bo p0,.fn 187 [] [.ptr 1 0,.ptr 2 0,.ptr 3 0,.ptr 4 0]] [.box (F p1),.box [.ptr 0 0],.box [Bo p2],.box [.pv (.sl p3.length (aK.Cs p3))],.box [.pv (.sl p4.length (gh p4))]] (f p0 p1 p2 p3 p4) (λ_=>.mE []) (λx=>[.box (F x.1),.box [.ptr 0 0],.box [Bo x.2.1],.box [.pv (.sl x.2.2.1.length (aK.Cs x.2.2.1))],.box [.pv (.sl x.2.2.2.length (gh x.2.2.2))]])
abbrev uS (f:Bool->D->Bool->ak->aI (D×Bool×ak)):Prop:=∀ p0 p1 p2 p3,CT Pq 184 [.ptr 0 0,Bo p0,.fn 225 [] [.ptr 1 0,.ptr 2 0,.ptr 3 0]] [.box (F p1),.box [.ptr 0 0],.box [Bo p2],.box (Q p3)] (f p0 p1 p2 p3) (λ_=>.mE []) (λx=>[.box (F x.1),.box [.ptr 0 0],.box [Bo x.2.1],.box (Q x.2.2)])
abbrev uT (f:Bool->D->ak->aI (D×ak)):Prop:=∀ p0 p1 p2,CT Pq 184 [.ptr 0 0,Bo p0,.fn 258 [] [.ptr 1 0,.ptr 2 0]] [.box (F p1),.box (Q p2),.box [.ptr 0 0]] (f p0 p1 p2) (λ_=>.mE []) (λx=>[.box (F x.1),.box (Q x.2),.box [.ptr 0 0]])
abbrev uU (f:Bool->D->ak->aI (D×ak)):Prop:=∀ p0 p1 p2,CT Pq 184 [.ptr 0 0,Bo p0,.fn 292 [] [.ptr 1 0,.ptr 2 0]] [.box (F p1),.box [.ptr 0 0],.box [I p2.aq,eu p2.bM,I p2.U,eu p2.B,eu p2.bT,.arr 3 p2.bK.length,.pv (.sl p2.fi.length (aK.Cs p2.fi)),.pv (.sl p2.J.length (gh p2.J)),I p2.cN],.arr 38 9 (ak.Cs p2.bK)] (f p0 p1 p2) (λ_=>.mE []) (λx=>[.box (F x.1),.box [.ptr 0 0],.box [I x.2.aq,eu x.2.bM,I x.2.U,eu x.2.B,eu x.2.bT,.arr 3 x.2.bK.length,.pv (.sl x.2.fi.length (aK.Cs x.2.fi)),.pv (.sl x.2.J.length (gh x.2.J)),I x.2.cN],.arr 38 9 (ak.Cs x.2.bK)])
abbrev uV (f:Bool->D->(List ak)->aI (D×(List ak))):Prop:=∀ p0 p1 p2,CT Pq 184 [.ptr 0 0,Bo p0,.fn 306 [] [.ptr 1 0,.ptr 2 0]] [.box (F p1),.box [.ptr 0 0],.box [.arr 3 p2.length],.arr 38 9 (ak.Cs p2)] (f p0 p1 p2) (λ_=>.mE []) (λx=>[.box (F x.1),.box [.ptr 0 0],.box [.arr 3 x.2.length],.arr 38 9 (ak.Cs x.2)])
class be (T:bo):Prop where
 oo:F9 T.oo
 de:tP T.de
 jt:yp T.jt
 lD:wL T.lD
 dE:wM T.dE
 fk:xw T.fk
 kP:vY T.kP
 gj:wN T.gj
 df:tQ T.df
 fy:yq T.fy
 iW:vo T.iW
 gE:vZ T.gE
 aZ:yr T.aZ
 iL:xx T.iL
 fG:wO T.fG
 eI:yu T.eI
 ju:yv T.ju
 lE:wP T.lE
 iM:xy T.iM
 eg:wQ T.eg
 ka:vq T.ka
 gG:wa T.gG
 eQ:wb T.eQ
 jK:uQ T.jK
 fe:wc T.fe
 eD:xz T.eD
 jL:uR T.jL
 iE:uS T.iE
 gx:uT T.gx
 iF:uU T.iF
 iG:uV T.iG
attribute [instance] be.oo be.de be.jt be.lD be.dE be.fk be.kP be.gj be.df be.fy be.iW be.gE be.aZ be.iL be.fG be.eI be.ju be.lE be.iM be.eg be.ka be.gG be.eQ be.jK be.fe be.eD be.jL be.iE be.gx be.iF be.iG
theorem Lb (T:bo) [hT:be T]:F9 (tG n T):=λp0 p1=>by
 refine Fo func291 O O λr h hr E hE=>?_;refine bE λ_ IH=>bB (lY 104 (hE _ O) O4 O ?_);refine lY 105 (hE _ O) O4 O ?_;refine zQ IH (bE λ_ R4=>bB (zm O (Hi hr h [] call12 (Dm n p0) ⟨O,O,O,O,O,O,trivial⟩ O (λ_=>O3) (λ_=>O2) (λ_ _ _ hd hp=>JJ (P:=Pq) (fn:=Tryz.f291) hd hp) (λy3 h=>?_))));refine zm O (zx O (zx O (lY 107 (hE _ O) O4 O ?_)));refine za O (zs O (zQ R4 (bE λ_ T8=>bB (za O (zQ T8 (bE λ_ X9=>bE λ_ hK6=>bB (zf O (zl O (zc O (zm O (zb (y3.2.eU !=0) (λhb7=>?_) λhb7=>?_)))))))))))
 ·refine z1 hb7 h λh=>zH 3 O hb7 (zy hb7 O (zQ hK6 (GZ O (λhc=>?_) (λhc=>?_))))
  ·refine bE λ_ hK8=>bB (fg Fz O ?_);refine zs O (zs O (zQ hK8 (nY (Dc 104 O O) ?_)));exact ahd
  exact Na
 refine z2 hb7 h λh=>zG hb7 O zS (zG hb7 O zS (N' hb7 O2 hr h [] call308 (xm n y3.1) ⟨O,O,O,O,O,O,trivial⟩ O (λ_=>O3) (λ_=>O2) (λ_ _ _ hd hp=>JJ (P:=Pq) (fn:=Tryz.f291) hd hp) (λy9 h=>?_)));refine zw hb7 O (zQ hK6 (zB O h (λ_ h=>?_) λ_ h=>?_))
 ·refine bE λ_ Ub=>bB (fg Fz O ?_);refine zs O (zs O (zQ Ub (nY (Dc 104 O O) ?_)));exact ahd
 refine mR (X9 _ _ (bE λ_ R5=>bB (zm O (zm O (zm O (fg Fz O ?_))))));refine H7 128 (hE _ O) O7 O ?_;refine za O (zQ R5 (bE λ_ OW=>bB (fg (KS O O) O ?_)));refine ON O ?_;have hrO:=hr;obtain ⟨r,hr,h,hc⟩:=JI hr h;refine zQ OW (bE λ_ Mz=>bB (zm O (lX (Dc 128 O O) ?_)));refine B8 hr h [128] call24 (hT.aZ false (D.mk p0 y3.1 0 p1 true none)) ⟨O,O,O,O,O,O,trivial⟩ O O (λ_=>O3) (λ_=>O2) O (λp hp=>?_) (λy15 h=>?_)
 ·obtain ⟨v,rfl,hc⟩:=Of hrO (Ju hc hp);obtain ⟨Kk,GX,_⟩:=B5 hrO hc;repeat (first|refine Jv ?_|refine GY ?_)
  refine Db (n:=Tryz.f291.ntmps) [104,105] call309 (FK v) Kk O ⟨O,O,O,O⟩ (λ_=>O2) (λx hx=>?_);exact Ax (.inl O) _ (.cons (tX O O O) (.cons (JX O O) .nil)) (GX x hx).symm (iz _) trivial
 refine zs O (zQ Mz (bE λ_ Yc=>sH [0,1,2,3,4,5,6] O (by kernel_rfl) (zD O Ke O ?_)));refine zD O zS O (aft O (xr O) hr h [128] call25 (sA n y15.2) ⟨O,O,O,O,O,O,trivial⟩ O O (λ_=>O3) (λ_=>O2) (EU n y15.2) (λy17 h=>⟨qg ⟨trivial,⟨⟨⟨_,O,nR _⟩,trivial⟩,trivial⟩⟩,?_⟩));refine zD O (OK O O) O ?_;refine zD O (Q8 O O O) O (sG O O8 O (λe5 he=>⟨kW O,?_⟩));subst he;refine sG O O8 O (λe6 he=>⟨kW O,?_⟩);subst he;refine AS (Yc _ _ (tc (vM (n:=Tryz.f291.ntmps) (.inl O) [104,105] call309 (D8 [.box (Q y15.1),.box [Bo (y17.1.aq==0)]]) ⟨O,O,O,O⟩ O O ?_)));exact Ax (.inl O) _ (.cons (tX O O O) (.cons (JX O O) .nil)) (UU hc h.symm) (iz _) trivial
theorem zq (T:bo) [hT:be T]:tP (fq n T):=λp0 p1=>by unfold fq eS;exact zz 1 func64
theorem D9 (T:bo) [hT:be T]:yp (lF n T):=λp0=>by unfold lF pM;exact zz 0 func290
theorem CM (T:bo) [hT:be T]:wL (gX n T):=λp0 p1=>by unfold gX pB eS;exact zz 0 func306
theorem CN (T:bo) [hT:be T]:wM (gY n T):=λp0 p1 p2=>by unfold gY pB pM eS;exact zz 1 func163
theorem Dp (T:bo) [hT:be T]:xw (kQ n T):=λp0 p1=>by unfold kQ pM;exact zz 1 func137
theorem Cc (T:bo) [hT:be T]:vY (nB n T):=λp0 p1 p2 p3=>by unfold nB;exact zz 0 func187
theorem CO (T:bo) [hT:be T]:wN (kc n T):=λp0 p1=>by unfold kc eS;exact zz 1 func271
theorem zE (T:bo) [hT:be T]:tQ (fT n T):=λp0 p1=>by unfold fT eS;exact zz 1 func111
theorem Ea (T:bo) [hT:be T]:yq (lG n T):=λp0 p1=>by unfold lG pB dZ pM;exact zz 1 func88
theorem Br (T:bo) [hT:be T]:vo (sr n T):=λp0 p1=>by unfold sr pM dT dL pB;exact zz 0 func42
theorem Cd (T:bo) [hT:be T]:vZ (lh n T):=λp0 p1 p2=>by
 refine zC func140 O λr hp h hr E hE=>bE λ_ IH=>bB (zm O (zm O (zk hp hr h [0] call188 (hT.eg p0 p1) O (λ_=>rfl) λy2 h=>lY 106 (hE _ O) O4 O ?_)));refine zs O (zQ IH (bE λ_ hK3=>bE λ_ T8=>bB (zm O (zk hp hr h [0] call25 (sA n y2.2) O (λ_=>rfl) λy5 h=>zk hp hr h [] call63 (R2 y5.1 ([58]:ByS)) O (λ_=>rfl) λy6 h=>zQ T8 (zB O h (λ_ h=>?_) λ_ h=>?_)))))
 ·refine bE λ_ hK8=>sH [0,1,2,3,4,5] O (by kernel_rfl) (zD O zS O (zD O Ke O ?_));refine zD O zS O (KQ O (xr O) hr h [0] call66 (FI n (D.mk y5.2.cP y5.2.oh y5.2.bO y2.2.base y5.2.skip y5.2.iO)) ⟨O,O,O,O,O,O,trivial⟩ O O (λ_=>O3) (λ_=>O2) hp (λy9 h=>⟨qg ⟨trivial,⟨⟨⟨_,O,nR _⟩,trivial⟩,⟨trivial,trivial⟩⟩⟩,?_⟩));refine KQ O (xr O) hr h [0] call65 ((pV n).cE y2.1 y9.1 y9.2) ⟨O,O,O,O,O,O,trivial⟩ O O (λ_=>O3) (λ_=>O2) hp (λy10 h=>⟨kW O,?_⟩);refine sG O O8 O (λe5 he=>⟨kW O,?_⟩);subst he;refine AS (hK8 _ _ (bE λ_ Ub=>bB (zm O (zn O (zf O (zl O (zd hr h λhg12 h=>zo hg12 O (zn O (zf O (zs O (zQ Ub (bE λ_ OW=>sH [0,1,2,3,4,5,6,7,8,9,10,11] O (by kernel_rfl) (zD O zS O (zD O zS O (zD O Ke O ?_)))))))))))))));refine zD O zS O (KQ O (xr O) hr h [0] call24 (hT.aZ false (D.mk y10.2.cP y10.2.oh (y10.2.bO+1) y10.2.base y10.2.skip y10.2.iO)) ⟨O,O,O,O,O,O,trivial⟩ O O (λ_=>O3) (λ_=>O2) hp (λy14 h=>⟨qg ⟨trivial,⟨⟨⟨_,O,nR _⟩,trivial⟩,⟨trivial,⟨trivial,trivial⟩⟩⟩⟩,?_⟩));refine OM [y10.1,y14.1] ak.ui O (xr O) O2 O2 ?_;refine zD O (KJ O) O (zD O (E' O) O (sG O O8 O (λe8 he=>⟨kW O,?_⟩)));subst he;refine zD O (KJ O) O (zD O (E' O) O (sG O O8 O (λe11 he=>⟨kW O,?_⟩)));subst he;exact AS (OW _ _ (tc (zX .nil h O)))
 refine mR (hK3 _ _ (bE λ_ hK15=>bB (zm O (zn O (zf O (lX (afl (d:=6) (ps:=ak.C y2.1) O O (hE _ O)) ?_))))));refine zs O (zQ hK15 (bB (zm O (zm O (zm O (zm O (zk hp hr h [0] call24 (hT.aZ p0 (D.mk y5.2.cP y5.2.oh y5.2.bO y2.2.base y5.2.skip (some y2.1))) O (λ_=>rfl) λy16 h=>KT [y16.1] ak.ui O2 O ?_)))))));exact zn O (zf O (zs O (zn O (zf O (zs O (tH (zY .nil h O)))))))
theorem Eb (T:bo) [hT:be T]:yr (iX n T):=λp0 p1=>by unfold iX eS pB;exact zz 0 func24
theorem Dq (T:bo) [hT:be T]:xx (kR n T):=λp0 p1 p2=>by unfold kR dS pM;exact zz 0 func133
theorem CP (T:bo) [hT:be T]:wO (ke n T):=λp0 p1 p2=>by unfold ke eS eA;exact zz 2 func270
theorem Ec (T:bo) [hT:be T]:yu (iY n T):=λp0=>by unfold iY pB eA;exact zz 0 func293
theorem Ee (T:bo) [hT:be T]:yv (lH n T):=λp0=>by unfold lH eS pM;exact zz 0 func272
theorem CQ (T:bo) [hT:be T]:wP (gZ n T):=λp0 p1=>by unfold gZ eS pB;exact zz 0 func292
theorem Dr (T:bo) [hT:be T]:xy (kS n T):=λp0=>by unfold kS pB eA pM eS;exact zz 1 func269
theorem CR (T:bo) [hT:be T]:wQ (kf n T):=λp0 p1=>by unfold kf eS pM;exact zz 1 func188
theorem Bs (T:bo) [hT:be T]:vq (mN n T):=λp0 p1 p2=>by unfold mN;exact zz 0 func225
theorem Ce (T:bo) [hT:be T]:wa (jM n T):=λp0 p1 p2=>by unfold jM pM dS;exact zz 0 func135
theorem Cf (T:bo) [hT:be T]:wb (iH n T):=λp0 p1=>by unfold iH pB pM eS;exact zz 1 func236
theorem A0 (T:bo) [hT:be T]:uQ (l8 n T):=λp0 p1=>by unfold l8 eS;exact zz 1 func258
theorem Cg (T:bo) [hT:be T]:wc (gy n T):=λp0 p1=>by unfold gy pB pM eS;exact zz 1 func257
theorem Ds (T:bo) [hT:be T]:xz (iB n T):=λp0 p1=>by unfold iB pB pM eS;exact zz 1 func206
theorem A1 (T:bo) [hT:be T]:uR (l9 n T):=λp0 p1 p2 p3 p4=>by unfold l9 pK;exact zz 0 func184
theorem A2 (T:bo) [hT:be T]:uS (ma n T):=λp0 p1 p2 p3=>by unfold ma pK;exact zz 0 func184
theorem A3 (T:bo) [hT:be T]:uT (mc n T):=λp0 p1 p2=>by unfold mc pK;exact zz 0 func184
theorem A4 (T:bo) [hT:be T]:uU (me n T):=λp0 p1 p2=>by unfold me pK;exact zz 0 func184
theorem A5 (T:bo) [hT:be T]:uV (mf n T):=λp0 p1 p2=>by unfold mf pK;exact zz 0 func184
theorem uZ:∀ n,be (R n)
 | 0=>by constructor<;>(repeat intro)<;>exact rU
 | n+1=>have:=uZ n;⟨Lb n _,zq n _,D9 n _,CM n _,CN n _,Dp n _,Cc n _,CO n _,zE n _,Ea n _,Br n _,Cd n _,Eb n _,Dq n _,CP n _,Ec n _,Ee n _,CQ n _,Dr n _,CR n _,Bs n _,Ce n _,Cf n _,A0 n _,Cg n _,Ds n _,A1 n _,A2 n _,A3 n _,A4 n _,A5 n _⟩
attribute [instance] uZ
end
section
variable (n:Nat)
structure gz where
 gP:aK->Bool->Int->Y->aI (Y)
 fH:(List aK)->Bool->Int->Y->aI (Y)
 bS:ak->cu->Y->aI (Y)
def jA (g:gz) (a:aK) (p:Bool) (e:Int) (a0:Y):aI (Y):=
 iu 1 [0,1,2,3,5] [105] (λ_=>[]) (λj=>[(0,.box (cq j))]) (λ(j:Y)=>iu 0 [0,1,2,3,5] [0,105] (λt=>[(8,Bo t)]) (λ_=>[]) (λ(t:Bool)=>iu 0 [0,1,2,3,5,8] [105] (λ_=>[]) (λk=>[(0,.box (cq k))]) (λ(k:Y)=>iu 0 [0,1,2,3,5] [105] (λ_=>[]) (λf=>[(0,.box (cq f))]) (λ(f:Y)=>iu 0 [0,1,2,3,5] [105] (λ_=>[]) (λc=>[(0,.box (cq c))]) (λ(c:Y)=>iu 0 [0,1,2,3,5] [105] (λ_=>[]) (λi=>[(0,.box (cq i))]) (λ(i:Y)=>iu 0 [0,1,2,3,5] [105] (λ_=>[]) (λq=>[(0,.box (cq q))]) (λ(q:Y)=>iu 1 [0,1,2,3,5] [0,105] (λr=>[(11,I r)]) (λ_=>[]) (λ(r:Int)=>ag (aP n [((a.bK.length:Int)==r)] q) λf0=>iu 0 [0,1,2,3,5] [0,105] (λs=>[(12,Bo s)]) (λ_=>[]) (λ(s:Bool)=>dz [0,1,2,3,5,12,171,172] [105] (λb=>[(173,I b.2)]) (λb=>[(0,.box (cq b.1))]) (λo (b:Y×Int)=>br (decide (b.2<a.bK.length)) (el a.bK b.2 λu=>br p (br s (ag (g.bS u (cu.mk (b.2==0) false false (IntKind.wrap .i64 (e+1))) b.1) λg0=>gd (cD (b.2+1)) (o (g0,b.2+1))) (ag (g.bS u (cu.mk false false false (IntKind.wrap .i64 (e+1))) b.1) λh0=>gd (cD (b.2+1)) (o (h0,b.2+1)))) (ag (g.bS u (cu.mk false false false (IntKind.wrap .i64 (e+1))) b.1) λi0=>gd (cD (b.2+1)) (o (i0,b.2+1)))) (ag (g.fH a.lZ false (IntKind.wrap .i64 (e+1)) b.1) λj0=>.ok j0)) n (f0,0)) λh=>br (a.aq==1) (h true) (br (a.aq==2) (h true) (br (a.aq==3) (h true) (h ((a.aq==4)))))) λm=>br (a.aq==7) (m 2) (br (a.aq==8) (m 0) (m 1))) λw=>br (a.aq==6) (ag (qD n (mz.mk a.B a.bT)) λk0=>ag (aP n [k0] i) λl0=>w l0) (ag (we (mz.mk a.B a.bT)) λm0=>ag (aP n [m0] i) λn0=>w n0)) λd=>br (a.aq==1) (d c) (br (a.aq==2) (ag (pa n a.ni) λo0=>ag (aP n [(o0.2.eU==0)] c) λp0=>d p0) (br (a.aq==4) (ag (dO n a.ni) λq0=>ag (aP n [p,q0] c) λr0=>d r0) (br p (ag (aP n [(a.ni==([]:ByS)),true] c) λs0=>d s0) (ag (aP n [(a.ni==([]:ByS)),(a.aq !=8)] c) λt0=>d t0))))) λl=>br (a.aq==1) (br (decide (a.eo>=1)) (ag (aP n [(decide (a.eo<=3))] f) λu0=>l u0) (ag (aP n [false] f) λv0=>l v0)) (ag (aP n [(a.eo==0)] f) λw0=>l w0)) λv=>vi [0,1,2,4,5,7,8,9,11,3,6,10,12,13,14,15,16,17,18,19,20,21,22,23] (ag (kg n a.so) λb0=>ag (kg n a.J) λc0=>ag (kg n [a.lR]) λd0=>br t (ag (aP n [b0,c0,d0,true] k) λx0=>v x0) (gd (cD ((a.lZ.length:Int)+(a.J.length:Int))) (ag (aP n [b0,c0,d0,(((a.lZ.length:Int)+(a.J.length:Int))==0)] k) λy0=>v y0)))) λz=>br (decide (a.aq>=1)) (ag (aP n [(decide (a.aq<=8))] j) λz0=>z z0) (ag (aP n [false] j) λe0=>z e0)) λy=>br (a.aq==5) (y true) (y ((a.aq==6)))) λx=>br (decide (e>16)) (x ((Y.mk a0.uO true))) (x a0)
def kh (c:gz) (b:(List aK)) (e:Bool) (f:Int) (g:Y):aI (Y):=
 dz [0,1,2,3,10,11] [] (λa=>[(12,I a.2)]) (λa=>[(0,.box (cq a.1))]) (λd (a:Y×Int)=>br (decide (a.2<b.length)) (el b a.2 λh=>ag (c.gP h e f a.1) λi=>gd (cD (a.2+1)) (d (i,a.2+1))) (.ok a.1)) n (g,0)
def kT (d:gz) (a:ak) (c:cu) (j:Y):aI (Y):=
 iu 1 [0,1,2,4,5] [104,105] (λ_=>[]) (λh=>[(0,.box (cq h))]) (λ(h:Y)=>ag (qX n a c h) λw=>dz [0,1,2,4,5,19,20] [104,105] (λb=>[(21,I b.2)]) (λb=>[(0,.box (cq b.1))]) (λk (b:Y×Int)=>br (decide (b.2<a.bK.length)) (iu 0 [0,1,2,4,5,19,20,21] [104,105] (λ_=>[]) (λg=>[(0,.box (cq g))]) (λ(g:Y)=>gd (cD (b.2+1)) (k (g,b.2+1))) λe=>el a.bK b.2 λf=>br (a.aq==16) (br c.yh (br (a.aq==14) (br (a.U==0) (ag (d.bS f (cu.mk true (a.aq==17) true (IntKind.wrap .i64 (c.level+1))) b.1) λl=>e l) (gd (cD (b.2+1)) (ag (d.bS f (cu.mk true (a.aq==17) (decide ((b.2+1)<(a.bK.length:Int))) (IntKind.wrap .i64 (c.level+1))) b.1) λm=>e m))) (ag (d.bS f (cu.mk true (a.aq==17) false (IntKind.wrap .i64 (c.level+1))) b.1) λo=>e o)) (br (a.aq==14) (br (a.U==0) (ag (d.bS f (cu.mk (a.aq==10) (a.aq==17) true (IntKind.wrap .i64 (c.level+1))) b.1) λp=>e p) (gd (cD (b.2+1)) (ag (d.bS f (cu.mk (a.aq==10) (a.aq==17) (decide ((b.2+1)<(a.bK.length:Int))) (IntKind.wrap .i64 (c.level+1))) b.1) λq=>e q))) (ag (d.bS f (cu.mk (a.aq==10) (a.aq==17) false (IntKind.wrap .i64 (c.level+1))) b.1) λr=>e r))) (br (a.aq==14) (br (a.U==0) (ag (d.bS f (cu.mk (a.aq==10) (a.aq==17) true (IntKind.wrap .i64 (c.level+1))) b.1) λs=>e s) (gd (cD (b.2+1)) (ag (d.bS f (cu.mk (a.aq==10) (a.aq==17) (decide ((b.2+1)<(a.bK.length:Int))) (IntKind.wrap .i64 (c.level+1))) b.1) λt=>e t))) (ag (d.bS f (cu.mk (a.aq==10) (a.aq==17) false (IntKind.wrap .i64 (c.level+1))) b.1) λu=>e u))) (ag (d.fH a.fi (a.aq==13) (IntKind.wrap .i64 (c.level+1)) b.1) λv=>.ok v)) n (w,0)) λi=>br (decide (c.level>16)) (i ((Y.mk j.uO true))) (i j)
def cK:Nat->gz
 | 0=>⟨λ_ _ _ _=>.stuck,λ_ _ _ _=>.stuck,λ_ _ _=>.stuck⟩
 | n+1=>⟨jA n (cK n),kh n (cK n),kT n (cK n)⟩
abbrev gP:=(cK n).gP
abbrev fH:=(cK n).fH
abbrev bS:=(cK n).bS
abbrev xA (f:aK->Bool->Int->Y->aI (Y)):Prop:=∀ p0 p1 p2 p3,CT Pq 94 [.ptr 0 0,.agg (rD p0),Bo p1,I p2] [.box (cq p3)] (f p0 p1 p2 p3) (λ_=>.mE []) (λx=>[.box (cq x)])
abbrev wR (f:(List aK)->Bool->Int->Y->aI (Y)):Prop:=∀ p0 p1 p2 p3,CT Pq 46 [.ptr 0 0,.pv (.sl p0.length (aK.Cs p0)),Bo p1,I p2] [.box (cq p3)] (f p0 p1 p2 p3) (λ_=>.mE []) (λx=>[.box (cq x)])
abbrev xB (f:ak->cu->Y->aI (Y)):Prop:=∀ p0 p1 p2,CT Pq 69 [.ptr 0 0,.agg (Q p0),.agg (Hl p1)] [.box (cq p2)] (f p0 p1 p2) (λ_=>.mE []) (λx=>[.box (cq x)])
class iR (T:gz):Prop where
 gP:xA T.gP
 fH:wR T.fH
 bS:xB T.bS
attribute [instance] iR.gP iR.fH iR.bS
theorem Dt (T:gz) [hT:iR T]:xA (jA n T):=λp0 p1 p2 p3=>by unfold jA;exact zz 0 func94
theorem CS (T:gz) [hT:iR T]:wR (kh n T):=λp0 p1 p2 p3=>by unfold kh;exact zz 0 func46
theorem Du (T:gz) [hT:iR T]:xB (kT n T):=λp0 p1 p2=>by unfold kT;exact zz 0 func69
theorem tR:∀ n,iR (cK n)
 | 0=>by constructor<;>(repeat intro)<;>exact rU
 | n+1=>have:=tR n;⟨Dt n _,CS n _,Du n _⟩
attribute [instance] tR
def xS (a:ak):aI (Int):=
 ag (bS n a (cu.mk true false false 1) (Y.mk false false)) λb=>ag (lI b) λc=>.ok c.1
instance Gy (p0:ak):CT Pq 27 [.agg (Q p0)] [] (xS n p0) (λx=>I x) (λ_=>[]):=by unfold xS;exact zz 0 func27
def IY (g:ByS):aI (ak×dH):=
 ag (pX n g) λd=>br (d.2.eU !=0) (.ok (ak.mk 0 [] 0 [] [] [] [] [] 0,d.2)) (AX (ag (aZ n true (D.mk g d.1 0 0 false none)) λc=>jn (λ(h:D)=>jn (λ(m:Unit)=>ag (xS n c.1) λl=>br (l==9) (.ok (ak.mk 0 [] 0 [] [] [] [] [] 0,dH.mk 9 0)) (.ok (c.1,dH.mk 0 0))) λf=>ag (bq n h) λb=>br (b.1.aq !=0) (ag (ca n (D.mk b.2.cP b.2.oh b.2.bO h.base b.2.skip b.2.iO)) λo=>f ()) (f ())) λe=>ag (bq n c.2) λa=>br (a.1.aq==7) (gd (cD (a.2.bO+1)) (e ((D.mk a.2.cP a.2.oh (a.2.bO+1) c.2.base a.2.skip a.2.iO)))) (e ((D.mk a.2.cP a.2.oh a.2.bO c.2.base a.2.skip a.2.iO)))) (λj=>Ih 71 j λk=>ag (BN k) λi=>.ok (i.1,i.2)))
instance ń (p0:ByS):CT Pq 9 [eu p0] [] (IY n p0) (λx=>.mE [.agg (Q x.1),.agg [I x.2.eU,I x.2.At]]) (λ_=>[]):=by
 refine Fo func9 O O λr h hr E hE=>?_;refine bE λ_ IH=>bB (lY 102 (hE _ O) O4 O ?_);refine lY 103 (hE _ O) O4 O ?_;refine zQ IH (bE λ_ R4=>bB (zm O (Hi hr h [] call12 (Dm n p0) ⟨O,O,O,O,O,O,trivial⟩ O (λ_=>O3) (λ_=>O2) (λ_ _ _ hd hp=>JJ (P:=Pq) (fn:=Tryz.f9) hd hp) (λy3 h=>?_))));refine zm O (zx O (zx O (za O (zs O (zQ R4 (bE λ_ T8=>bE λ_ X9=>bB (zf O (zl O (zc O (zQ X9 (zB O h (λ_ h=>?_) λ_ h=>?_)))))))))))
 ·refine bE λ_ hK7=>sH [0,1,2,3] O (by kernel_rfl) (zD O Fz O ?_);refine zD O Ke O ?_;refine sG O O8 O (λe2 he=>⟨qg ⟨⟨⟨_,O,nR _⟩,trivial⟩,⟨trivial,trivial⟩⟩,?_⟩);subst he;refine sG O O8 O (λe3 he=>⟨kW O,?_⟩);subst he;refine AS (hK7 _ _ (nY (Dc 102 O O) ?_));exact tc (Js (n:=Tryz.f9.ntmps) (.inl O) aea)
 refine mR (T8 _ _ (bE λ_ hK8=>bB (fg (KS O O) O ?_)));refine ON O ?_;have hrO:=hr;obtain ⟨r,hr,h,hc⟩:=JI hr h;refine zQ hK8 (bE λ_ hK9=>bB (zm O (zm O (fg Fz O ?_))));refine H7 120 (hE _ O) O7 O ?_;refine za O (zQ hK9 (bE λ_ Ua=>bB (zm O (lX (Dc 120 O O) ?_))));refine B8 hr h [120] call24 ((uZ n).aZ true (D.mk p0 y3.1 0 0 false none)) ⟨O,O,O,O,O,O,trivial⟩ O O (λ_=>O3) (λ_=>O2) O (λp hp=>?_) (λy11 h=>?_)
 ·exact yC1
 refine zs O (zQ Ua (zM h (λ(v12:D)=>[(0,eu p0),(2,.ptr 102 0),(3,.ptr 103 0),(5,.ptr 120 0)]) (λ(v12:D)=>[(102,.box (Q y11.1)),(103,.box [I y3.2.eU,I y3.2.At]),(120,.box (F v12))]) (λv12 h=>?_) λ_ _ Mz h=>?_))
 ·refine zM h (λ(Wx:Unit)=>[(0,eu p0),(2,.ptr 102 0),(3,.ptr 103 0)]) (λ(Wx:Unit)=>[(102,.box (Q y11.1)),(103,.box [I y3.2.eU,I y3.2.At])]) (λWx h=>?_) λ_ _ MA h=>?_
  ·refine bE λ_ T9=>bE λ_ hK19=>bB (zA O ?_);refine B8 hr h [] call27 (Gy n y11.1) ⟨O,O,O,O,O,O,trivial⟩ O O (λ_=>O3) (λ_=>O2) O (λp hp=>?_) (λy20 h=>?_)
   ·exact yC1
   refine zc O (zQ hK19 (zB O h (λ_ h=>?_) λ_ h=>?_))
   ·refine bE λ_ hK22=>bB (fg Fz O ?_);refine fg Fx O ?_;refine zs O (zs O (zQ hK22 (nY (Dc 102 O O) ?_)));refine tc (vM (n:=Tryz.f9.ntmps) (.inl O) [102,103] call23 (xu [.box [I 0,eu [],I 0,eu [],eu [],.pv (.sl (List.length ([]:List ak)) (ak.Cs [])),.pv (.sl (List.length ([]:List aK)) (aK.Cs [])),.pv (.sl (List.length ([]:List ByS)) (gh [])),I 0],.box [I 9,I 0]]) ⟨O,O,O,O⟩ O O ?_);exact Xm
   refine mR (T9 _ _ (bE λ_ hK23=>bB (zA O ?_)));refine fg Fx O ?_;refine zs O (zs O (zQ hK23 (tc (vM (n:=Tryz.f9.ntmps) (.inl O) [102,103] call23 (xu [.box (Q y11.1),.box [I 0,I 0]]) ⟨O,O,O,O⟩ O O ?_))));exact Xm
  refine bE λ_ hK25=>bB (zm O (B8 hr h [120] call25 (sA n v12) ⟨O,O,O,O,O,O,trivial⟩ O O (λ_=>O3) (λ_=>O2) O (λp hp=>?_) (λy26 h=>?_)))
  ·exact yC1
  refine fg (OK O O) O ?_;refine zc O (zQ hK25 (zB O h (λ_ h=>?_) λ_ h=>?_))
  ·refine bB (zm O (B8 hr h [120] call26 (D5 n (D.mk y26.2.cP y26.2.oh y26.2.bO v12.base y26.2.skip y26.2.iO)) ⟨O,O,O,O,O,O,trivial⟩ O O (λ_=>O3) (λ_=>O2) O (λp hp=>?_) (λy28 h=>?_)))
   ·exact yC1
   exact tH (MA _ _ _ h O)
  exact mR (MA _ _ _ h O)
 refine bE λ_ hK31=>bB (zm O (B8 hr h [120] call25 (sA n y11.2) ⟨O,O,O,O,O,O,trivial⟩ O O (λ_=>O3) (λ_=>O2) O (λp hp=>?_) (λy32 h=>?_)))
 ·exact yC1
 refine fg (OK O O) O ?_;refine zc O (zQ hK31 (zB O h (λ_ h=>?_) λ_ h=>?_))
 ·exact bB (zm O (zn O (zf O (zl O (zd hr h λhg34 h=>zo hg34 O (zn O (zf O (zs O (tH (Mz _ _ _ h O))))))))))
 exact mR (Mz _ _ _ h O)
def r8 (a:Int):aI (fX×dH):=
 ag (qC (si.mk a)) λb=>.ok (fX.mk [] [] [] [],b)
def FC (v:Int):XM Pq 13 [.ptr 0 0,.ptr 1 0] [.box [.any,.any,.any,.any],.box [.any,.any]] (some (.iface 71 (.agg #[.int .i64 v]))) (r8 v) (λx=>[.box (zj x.1),.box [I x.2.eU,I x.2.At]]):=by
 refine yf (m:=some (.iface 71 (.agg #[.int .i64 v]))) (mv:=.vV 71 (.agg [I v])) (λg=>.vV 71 (.agg (.cons (.pv (.sc _)) .nil))) func13 O O O λr h hr E hE=>?_;exact yC7
def xC (es:List cV):XM Pq 13 [.ptr 0 0,.ptr 1 0] es none (aI.ok ()) (λ_=>es):=by
 refine yf (m:=none) (mv:=Sc .nilIface) (λg=>.pv (.sc _)) func13 O O O λr h hr E hE=>?_;exact yC6
def iZ (h:D):aI ((List ByS)×D):=
 jk [[3,3,10003,1,9]] (dz [0] [] (λa=>[(3,.arr 10003 a.2.length)]) (λa=>[(0,.box (F a.1)),(10003,.app 9 1 (gh a.2))]) (λg (a:D×(List ByS))=>ag (bq n a.1) λb=>br (b.1.aq==6) (iu 0 [0,3] [10003] (λ_=>[]) (λd=>[(0,.box (F d))]) (λ(d:D)=>ag (bq n d) λc=>gd (nP 16 a.2.length (List.length [c.1.bM])) (jk [[1,118,10003],[0,3],[0]] (gd (cD (c.2.bO+1)) (g (pM c.2 d,a.2++[c.1.bM]))))) λf=>ag (iK n (pB b.2 a.1)) λe=>br (!e.1) (ag (ca n e.2) λi=>f i) (f e.2)) (s6 [[1,10003,1],[0,2],[0]] (.ok (a.2,pB b.2 a.1)))) n (h,[]))
instance MD (p0:D):CT Pq 37 [.ptr 0 0] [.box (F p0),.app 9 1 (gh [])] (iZ n p0) (λx=>.arr 1 x.1.length) (λx=>[.box (F x.2),.app 9 1 (gh x.1)]):=by unfold iZ pM pB;exact zz 0 func37
def rE (h:D):aI ((List ByS)×D):=
 jk [[3,3,10003,1,9]] (dz [0] [] (λa=>[(3,.arr 10003 a.2.length)]) (λa=>[(0,.box (F a.1)),(10003,.app 9 1 (gh a.2))]) (λg (a:D×(List ByS))=>ag (bq n a.1) λb=>br (b.1.aq==6) (iu 0 [0,3] [10003] (λ_=>[]) (λd=>[(0,.box (F d))]) (λ(d:D)=>ag (bq n d) λc=>gd (nP 16 a.2.length (List.length [c.1.bM])) (jk [[1,118,10003],[0,3],[0]] (gd (cD (c.2.bO+1)) (g (pM c.2 d,a.2++[c.1.bM]))))) λf=>ag (iK n (pB b.2 a.1)) λe=>br (!e.1) (ag (ca n e.2) λi=>f i) (f e.2)) (oj [[22,26]] (.ok (a.2,pB b.2 a.1)))) n (h,[]))
instance JK (p0:D):CT Pq 37 [.ptr 0 0] [.box (F p0)] (rE n p0) (λx=>yi x.1) (λx=>[.box (F x.2)]):=by unfold rE pM pB;exact zz 0 func37
def iN (r:(List ByS)) (s:Bool) (t:D):aI ((List aK)×(List ByS)×D):=
 jk [[4,8,10008,11,43]] (jk [[1,1,10001],[0,1,2,8,9,10],[0,10008]] (dz [0,2] [] (λa=>[(1,.arr 10001 a.2.1.length),(8,.arr 10008 a.2.2.1.length),(9,I a.2.2.2.1),(10,Bo a.2.2.2.2)]) (λa=>[(0,.box (F a.1)),(10001,.app 9 1 (gh a.2.1)),(10008,.arr 43 11 (aK.Cs a.2.2.1))]) (λh (a:D×(List ByS)×(List aK)×Int×Bool)=>ag (lB n a.1) λg=>br (!g.1) (ag (bq n g.2) λb=>iu 0 [0,1,2,8,9,10,11] [0,111,10001,10008] (λj=>[(31,Bo j)]) (λ_=>[]) (λ(j:Bool)=>br j (gd (cD (b.2.bO+1)) (h (pM b.2 g.2,a.2.1,a.2.2.1,a.2.2.2.1,true))) (iu 0 [0,1,2,8,9,10,11] [111,10001,10008] (λd=>[(46,Bo d.2)]) (λd=>[(0,.box (F d.1))]) (λ(d:D×Bool)=>br d.2 (gd (cD ((a.2.2.1.length:Int) - 1)) (el a.2.2.1 ((a.2.2.1.length:Int) - 1) λf=>jk [[17,8]] (gd (cD (d.1.bO+1)) (h (pM d.1 d.1,a.2.1,List.set a.2.2.1 ((a.2.2.1.length:Int) - 1).toNat (dT f b.1.bM),a.2.2.2.1,a.2.2.2.2))))) (iu 0 [0,1,2,8,9,10,11] [111,10001,10008] (λe=>[(74,Bo e.2)]) (λe=>[(0,.box (F e.1))]) (λ(e:D×Bool)=>br e.2 (gd (nP 16 a.2.1.length (List.length [b.1.bM])) (jk [[1,186,10001],[0,1,2,8,9,10],[10008,0]] (gd (cD (e.1.bO+1)) (h (pM e.1 e.1,a.2.1++[b.1.bM],a.2.2.1,a.2.2.2.1,a.2.2.2.2))))) (iu 0 [0,1,2,8,9,10] [0,10001,10008] (λk=>[(94,Bo k)]) (λ_=>[]) (λ(k:Bool)=>br k (ag (ca n e.1) λu=>h (u,a.2.1,a.2.2.1,a.2.2.2.1,a.2.2.2.2)) (ag (fy n s e.1) λc=>oj [[22,21]] (gd (nP 184 a.2.2.1.length (List.length [dL c.1 a.2.1])) (jk [[2,126,10008],[0,1,2,8],[0]] (jk [[3,1,10001,1,9]] (h (c.2,[],a.2.2.1++[dL c.1 a.2.1],c.2.bO,false))))))) λo=>br (b.1.aq==6) (o true) (o ((!a.2.2.2.2))))) λm=>br (b.1.aq==6) (ag (iK n d.1) λp=>m (p.2,p.1)) (m (d.1,false)))) λi=>br (b.1.aq==6) (br (decide (a.2.2.2.1>0)) (ag (iV n a.2.2.2.1 (pB b.2 g.2)) λq=>i (q.2,q.1)) (i (pB b.2 g.2,false))) (i (pB b.2 g.2,false)))) λl=>br (b.1.aq==7) (l true) (ag (ez b.1 [44]) λv=>l v)) (oj [[22,105]] (s6 [[12,6]] (s6 [[19,1,1,9],[0,1,2,6,7],[0]] (.ok (a.2.2.1,a.2.1,g.2)))))) n (t,r,[],(-1),true)))
instance Qf (p0:(List ByS)) (p1:Bool) (p2:D):CT Pq 42 [.ptr 0 0,.arr 1 p0.length,Bo p1] [.box (F p2),.app 9 1 (gh p0)] (iN n p0 p1 p2) (λx=>.mE [Μ x.1,yi x.2.1]) (λx=>[.box (F x.2.2),.app 9 1 (gh [])]):=by unfold iN pM dT dL pB;exact zz 0 func42
def lj (d:D):aI (D):=
 iu 0 [0] [] (λ_=>[]) (λc=>[(0,.box (F c))]) (λ(c:D)=>gd (cD (c.bO+1)) (.ok ((pM c c)))) λe=>ag (bq n d) λa=>br (a.1.aq !=7) (ag (bq n (pB a.2 d)) λb=>ag (ez b.1 [44]) λg=>br (!g) (ag (ca n (pB b.2 d)) λf=>e f) (e ((pB b.2 d)))) (e ((pB a.2 d)))
instance aa (p0:D):CT Pq 40 [.ptr 0 0] [.box (F p0)] (lj n p0) (λ_=>.mE []) (λx=>[.box (F x)]):=by unfold lj pM pB;exact zz 0 func40
end
end Go.Abs
