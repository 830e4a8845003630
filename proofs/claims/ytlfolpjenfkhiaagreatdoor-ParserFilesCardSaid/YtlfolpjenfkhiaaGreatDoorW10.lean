/- PROVED: lemmas for ParserFiles. CONDITIONS: as stated. -/
import Derived.Test.YtlfolpjenfkhiaaGreatDoorW9
import Derived.Test.YtlfolpjenfkhiaaGreatDoorW5
set_option linter.all false
namespace Go.Abs
open Go.Proofs Go.Proofs.Tryz aI
set_option maxRecDepth 100000
set_option maxHeartbeats 2000000
section
variable (n:Nat)
def ga (l:D):aI (dF×D):=
 ag (dc n l) λd=>gd (cD (d.2.bO+1)) (iu 1 [0,2,3] [102] (λ_=>[]) (λc=>[(0,.box (F c.1)),(103,.box [eu c.2.Name,eu c.2.Path,I c.2.cN])]) (λ(c:D×dF)=>ag (bq n c.1) λa=>iu 0 [0,2,3,4] [102,103,104] (λ_=>[]) (λg=>[(0,.box (F g))]) (λ(g:D)=>iu 1 [0,2,3] [102] (λ_=>[]) (λb=>[(0,.box (F b.1)),(103,.box [eu b.2.Name,eu b.2.Path,I b.2.cN])]) (λ(b:D×dF)=>gd (cD (b.1.bO+1)) (ag (lj n (pM b.1 b.1)) λm=>.ok (b.2,m))) λh=>br (c.2.Name==([]:ByS)) (ji 9 (ag (strings_LastIndex a.1.bM ([47]:ByS)) λf=>gd (cD (f+1)) (gd ((0:Int)<=(f+1)/\(f+1)<=(a.1.bM.length:Int)) (ag (dO n (gL a.1.bM (f+1))) λo=>br (!o) (ag (ca n g) λp=>h (p,dF.mk (gL a.1.bM (f+1)) a.1.bM c.2.cN)) (h (g,dF.mk (gL a.1.bM (f+1)) a.1.bM c.2.cN)))))) (h (g,dF.mk c.2.Name a.1.bM c.2.cN))) λi=>br (a.1.aq !=3) (ag (ca n (pB a.2 c.1)) λq=>i q) (i ((pB a.2 c.1)))) λj=>ag (bq n (pM d.2 d.2)) λe=>br (e.1.aq==1) (ag (fw n (pB e.2 d.2)) λk=>j (k.2,dF.mk k.1 [] d.1)) (j (pB e.2 d.2,dF.mk [] [] d.1)))
instance ME (p0:D):CT Pq 41 [.ptr 0 0] [.box (F p0)] (ga n p0) (λx=>.agg [eu x.1.Name,eu x.1.Path,I x.1.cN]) (λx=>[.box (F x.2)]):=by unfold ga pM pB;exact zz 0 func41
def jw (q:D):aI (fX×D):=
 oj [[15,3106,1,9]] (ag (iZ n q) λh=>jk [[1,3106,10004],[0,2,3,4],[0,102,103]] (iu 0 [0,2,3] [102] (λf=>[(4,.arr 10004 f.2.2.length)]) (λf=>[(0,.box (F f.1)),(103,.box [eu f.2.1.jD,nSl,nSl,nSl]),(10004,.app 9 1 (gh f.2.2))]) (λ(f:D×fX×(List ByS))=>iu 0 [0,2,3,4] [102,10004] (λ_=>[]) (λe=>[(0,.box (F e.1)),(103,.box [eu e.2.jD,.arr 26593 e.2.eB.length,nSl,nSl]),(26593,.app 58 3 (dF.Cs e.2.eB))]) (λ(e:D×fX)=>ghK [0,2,3,58] (ag (iN n f.2.2 true e.1) λg=>ag (bq n g.2.2) λd=>br (d.1.aq !=0) (ag (ca n (pB d.2 g.2.2)) λs=>oj [[13,103,1]] (.ok (fX.mk e.2.jD e.2.eB g.1 g.2.1,s))) (oj [[13,103,1]] (.ok (fX.mk e.2.jD e.2.eB g.1 g.2.1,pB d.2 g.2.2))))) λm=>jk [[5,103,1,26593,3,58]] (dz [0,2,3,4] [102,10004] (λ_=>[]) (λb=>[(0,.box (F b.1)),(103,.box [eu b.2.jD,.arr 26593 b.2.eB.length,nSl,nSl]),(26593,.app 58 3 (dF.Cs b.2.eB))]) (λo (b:D×fX)=>ji 24 (ag (bq n b.1) λa=>ag (kK a.1 [105,109,112,111,114,116]) λt=>br t (oj [[22,31]] (br ((b.2.eB.length:Int)==0) (Bn 8 (ag (ga n (pB a.2 b.1)) λi=>gd (nP 40 b.2.eB.length (List.length [i.1])) (jk [[1,155,26593],[0,2,3,4],[10004,0,102,103]] (o (i.2,fX.mk b.2.jD (b.2.eB++[i.1]) [] []))))) (gd (cD (a.2.bO - 1)) (el a.2.oh (a.2.bO - 1) λr=>br (r.aq !=6) (Bn 8 (ag (ga n (pB a.2 b.1)) λj=>gd (nP 40 b.2.eB.length (List.length [j.1])) (jk [[1,155,26593],[0,2,3,4],[10004,0,102,103]] (o (j.2,fX.mk b.2.jD (b.2.eB++[j.1]) [] []))))) (m (pB a.2 b.1,fX.mk b.2.jD b.2.eB [] [])))))) (m (pB a.2 b.1,fX.mk b.2.jD b.2.eB [] [])))) n (f.1,fX.mk f.2.1.jD [] [] []))) λl=>ag (bq n h.2) λc=>ag (kK c.1 [112,97,99,107,97,103,101]) λu=>br u (gd (cD (c.2.bO+1)) (ag (fw n (pM c.2 h.2)) λp=>ag (lj n p.2) λv=>ag (rE n v) λk=>gd (nP 16 h.1.length k.1.length) (jk [[1,125,10004],[0,2,3,4],[0,102,103]] (l (k.2,fX.mk p.1 [] [] [],h.1++k.1))))) (l (pB c.2 h.2,fX.mk [] [] [] [],h.1))))
instance EW (p0:D):CT Pq 15 [.ptr 0 0] [.box (F p0)] (jw n p0) (λx=>.agg (zj x.1)) (λx=>[.box (F x.2)]):=by unfold jw pB pM;exact zz 0 func15
def r9 (b:fX):aI (Int):=
 iu 2 [0,1,3] [101] (λ_=>[]) (λc=>[(107,.box (cq c))]) (λ(c:Y)=>dz [0,1,3,23,24] [101] (λa=>[(25,I a.2)]) (λa=>[(107,.box (cq a.1))]) (λe (a:Y×Int)=>br (decide (a.2<b.eB.length)) (el b.eB a.2 λf=>ag (dO n f.Name) λg=>ag (aP n [g] a.1) λh=>gd (cD (a.2+1)) (e (h,a.2+1))) (ag (fH n b.fi true 1 a.1) λi=>ag (lI i) λj=>.ok j.1)) n (c,0)) λd=>vi [0,1,2,3,4,5,6,9,10,7,8,11,12,13] (br (b.jD==([]:ByS)) (ag (kg n b.J) λk=>ag (aP n [true,k] (Y.mk false false)) λl=>d l) (ag (dO n b.jD) λm=>ag (kg n b.J) λo=>ag (aP n [m,o] (Y.mk false false)) λp=>d p))
instance Ld (p0:fX):CT Pq 16 [.agg (zj p0)] [] (r9 n p0) (λx=>I x) (λ_=>[]):=by unfold r9;exact zz 0 func16
def qE (b:ByS):aI (fX×dH):=
 ag (pX n b) λa=>br (a.2.eU !=0) (.ok (fX.mk [] [] [] [],a.2)) (AX (ag (jw n (D.mk b a.1 0 0 false none)) λc=>ag (r9 n c.1) λg=>br (g==9) (.ok (fX.mk [] [] [] [],dH.mk 9 0)) (.ok (c.1,dH.mk 0 0))) (λe=>Ih 71 e λf=>ag (r8 f) λd=>.ok (d.1,d.2)))
instance Ņ (p0:ByS):CT Pq 6 [eu p0] [] (qE n p0) (λx=>.mE [.agg (zj x.1),.agg [I x.2.eU,I x.2.At]]) (λ_=>[]):=by
 refine Fo func6 O O λr h hr E hE=>?_;refine bE λ_ IH=>bB (lY 102 (hE _ O) O4 O ?_);refine lY 103 (hE _ O) O4 O ?_;refine zQ IH (bE λ_ R4=>bB (zm O (Hi hr h [] call12 (Dm n p0) ⟨O,O,O,O,O,O,trivial⟩ O (λ_=>O3) (λ_=>O2) (λ_ _ _ hd hp=>JJ (P:=Pq) (fn:=Tryz.f6) hd hp) (λy3 h=>?_))));refine zm O (zx O (zx O (za O (zs O (zQ R4 (bE λ_ T8=>bE λ_ X9=>bB (zf O (zl O (zc O (zQ X9 (zB O h (λ_ h=>?_) λ_ h=>?_)))))))))))
 ·refine bE λ_ hK7=>sH [0,1,2,3] O (by kernel_rfl) (zD O Fz O ?_);refine zD O Ke O ?_;refine sG O O8 O (λe2 he=>⟨qg ⟨⟨⟨_,O,nR _⟩,trivial⟩,⟨trivial,trivial⟩⟩,?_⟩);subst he;refine sG O O8 O (λe3 he=>⟨kW O,?_⟩);subst he;refine AS (hK7 _ _ (nY (Dc 102 O O) ?_));exact tc (Js (n:=Tryz.f6.ntmps) (.inl O) aea)
 refine mR (T8 _ _ (bE λ_ hK8=>bB (fg (KS O O) O ?_)));refine ON O ?_;have hrO:=hr;obtain ⟨r,hr,h,hc⟩:=JI hr h;refine zQ hK8 (bE λ_ hK9=>bB (zm O (zm O (fg Fz O ?_))));refine H7 121 (hE _ O) O7 O ?_;refine za O (zQ hK9 (bE λ_ Ua=>bB (zm O (fg (KS O O) O ?_))));refine za O (zQ Ua (bE λ_ Ub=>bB (zm O (lX (Dc 121 O O) ?_))));refine B8 hr h [121] call15 (EW n (D.mk p0 y3.1 0 0 false none)) ⟨O,O,O,O,O,O,trivial⟩ O O (λ_=>O3) (λ_=>O2) O (λp hp=>?_) (λy12 h=>?_)
 ·exact ahN
 refine zs O (zQ Ub (bE λ_ OW=>bE λ_ Mz=>bB (zA O ?_)));refine B8 hr h [] call16 (Ld n y12.1) ⟨O,O,O,O,O,O,trivial⟩ O O (λ_=>O3) (λ_=>O2) O (λp hp=>?_) (λy15 h=>?_)
 ·exact ahN
 refine zc O (zQ Mz (zB O h (λ_ h=>?_) λ_ h=>?_))
 ·refine bE λ_ MA=>bB (fg Fz O ?_);refine fg Fx O ?_;refine zs O (zs O (zQ MA (nY (Dc 102 O O) ?_)));refine tc (vM (n:=Tryz.f6.ntmps) (.inl O) [102,103] call13 (xC [.box [eu [],.pv (.sl (List.length ([]:List dF)) (dF.Cs [])),.pv (.sl (List.length ([]:List aK)) (aK.Cs [])),.pv (.sl (List.length ([]:List ByS)) (gh []))],.box [I 9,I 0]]) ⟨O,O,O,O⟩ O O ?_);exact Xm
 refine mR (OW _ _ (bE λ_ T9=>bB (zA O ?_)));refine fg Fx O ?_;refine zs O (zs O (zQ T9 (tc (vM (n:=Tryz.f6.ntmps) (.inl O) [102,103] call13 (xC [.box (zj y12.1),.box [I 0,I 0]]) ⟨O,O,O,O⟩ O O ?_))));exact Xm
def yw:aI (Bool):=
 ag (qE n [97,58,32,49,44,32,98,58,32,97,32,38,32,105,110,116]) λc=>ag (IY n [42,49]) λf=>ag (qE n [97,58,32,42,49]) λg=>ag (qE n [120,58,32,123,121,58,32,122,125]) λd=>ag (qE n [120,58,32,49,32,124,32,123,121,58,32,122,125]) λb=>iu 1 [1,4,6,7,9] [101,104,106,107,109] (λe=>[(100,Bo e)]) (λ_=>[]) (λ(e:Bool)=>br e (.ok false) (br ((f.2.eU==8)&&(f.2.At==2)) (br ((g.2.eU==8)&&(g.2.At==5)) (el c.1.fi 1 λh=>el h.bK 0 λi=>br (i.aq==16) (el d.1.fi 0 λj=>el j.bK 0 λk=>br (k.aq==13) (el b.1.fi 0 λl=>el l.bK 0 λm=>el m.bK 1 λo=>.ok ((o.aq==22))) (.ok false)) (.ok false)) (.ok false)) (.ok false))) λa=>br (c.2.eU !=0) (a true) (br (d.2.eU !=0) (a true) (br (b.2.eU !=0) (a true) (br ((c.1.fi.length:Int) !=2) (a true) (br ((d.1.fi.length:Int) !=1) (a true) (br ((b.1.fi.length:Int) !=1) (a true) (el c.1.fi 1 λp=>br ((p.bK.length:Int) !=1) (a true) (el d.1.fi 0 λq=>br ((q.bK.length:Int) !=1) (a true) (el b.1.fi 0 λr=>br ((r.bK.length:Int) !=1) (a true) (el b.1.fi 0 λs=>el s.bK 0 λt=>a (((t.bK.length:Int) !=2)))))))))))
instance ņ:CT Pq 5 [] [] (yw n) (λx=>Bo x) (λ_=>[]):=by unfold yw;exact zz 0 func5
end
section
variable (n:Nat)
def et (r:Bool) (s:(List ByS)) (h:ByS) (t:ah):aI ((List aK)×(List ByS)×ah):=
 jk [[4,10,10010,11,43]] (jk [[1,1,10002],[0,1,2,3,10,11,12],[0,10010]] (dz [0,1,3] [] (λa=>[(2,.arr 10002 a.2.1.length),(10,.arr 10010 a.2.2.1.length),(11,Bo a.2.2.2.1),(12,I a.2.2.2.2)]) (λa=>[(0,.box (K a.1)),(10002,.app 9 1 (gh a.2.1)),(10010,.arr 43 11 (aK.Cs a.2.2.1))]) (λf (a:ah×(List ByS)×(List aK)×Bool×Int)=>ag (cG a.1) λk=>br k.1 (ag (aS n k.2) λc=>iu 0 [0,1,2,3,10,11,12,13] [0,113,10002,10010] (λi=>[(41,Bo i)]) (λ_=>[]) (λ(i:Bool)=>br i (ag (P n c.2) λv=>f (v.2,a.2.1,a.2.2.1,true,a.2.2.2.2)) (iu 0 [0,1,2,3,10,11,12,13] [113,10002,10010] (λd=>[(51,Bo d.2)]) (λd=>[(0,.box (K d.1))]) (λ(d:ah×Bool)=>br d.2 (ag (P n d.1) λw=>gd (nP 16 a.2.1.length (List.length [c.1.bM])) (jk [[1,165,10002],[0,1,2,3,10,11,12],[10010,0]] (f (w.2,a.2.1++[c.1.bM],a.2.2.1,a.2.2.2.1,a.2.2.2.2)))) (br (c.1.aq==6) (br ((a.2.2.1.length:Int)==0) (ag (bJ c.1.cN d.1) λx=>f (x,a.2.1,a.2.2.1,a.2.2.2.1,a.2.2.2.2)) (ag (kZ n a.2.2.2.2 c.1.cN d.1) λm=>br m.1 (ag (bJ c.1.cN m.2) λy=>f (y,a.2.1,a.2.2.1,a.2.2.2.1,a.2.2.2.2)) (ag (P n m.2) λz=>gd (cD ((a.2.2.1.length:Int) - 1)) (el a.2.2.1 ((a.2.2.1.length:Int) - 1) λe=>jk [[17,10]] (f (z.2,a.2.1,List.set a.2.2.1 ((a.2.2.1.length:Int) - 1).toNat (dT e c.1.bM),a.2.2.2.1,a.2.2.2.2)))))) (iu 0 [0,1,2,3,10,11,12,13] [0,113,10002,10010] (λj=>[(94,Bo j)]) (λ_=>[]) (λ(j:Bool)=>br j (oj [[22,112]] (s6 [[12,8]] (s6 [[19,1,1,9],[0,1,2,3,8,9],[0]] (.ok (a.2.2.1,a.2.1,d.1))))) (br (!a.2.2.2.1) (ag (bJ c.1.cN d.1) λa0=>f (a0,a.2.1,a.2.2.1,a.2.2.2.1,a.2.2.2.2)) (ag (cd n r d.1) λb=>oj [[22,22]] (gd (nP 184 a.2.2.1.length (List.length [dL b.1 a.2.1])) (jk [[2,127,10010],[0,1,2,3,10],[0]] (Bn 14 (gd (cD (b.2.bO - 1)) (el b.2.l (if b.2.bO - 1>0 then b.2.bO - 1 else 0) λu=>jk [[3,2,10002,1,9]] (f (b.2,[],a.2.2.1++[dL b.1 a.2.1],false,u.pO)))))))))) λg=>br (c.1.aq==0) (br (h==([]:ByS)) (g true) (br (h !=([]:ByS)) (ag (ch c.1 h) λb0=>g b0) (g false))) (br (h !=([]:ByS)) (ag (ch c.1 h) λc0=>g c0) (g false))))) λp=>br (c.1.aq==6) (ag (kI n c.2) λq=>p (q.2,q.1)) (p (c.2,false)))) λo=>br (c.1.aq==7) (o true) (ag (ch c.1 [44]) λd0=>o d0)) (s6 [[9,8]] (s6 [[9,9]] (s6 [[19,1,1,9],[0,1,2,3,8,9],[0]] (.ok ([],[],k.2)))))) n (t,s,[],true,0)))
instance JL (p0:Bool) (p1:(List ByS)) (p2:ByS) (p3:ah):CT Pq 55 [.ptr 0 0,Bo p0,.arr 1 p1.length,eu p2] [.box (K p3),.app 9 1 (gh p1)] (et n p0 p1 p2 p3) (λx=>.mE [Μ x.1,yi x.2.1]) (λx=>[.box (K x.2.2),.app 9 1 (gh [])]):=by unfold et dT dL;exact zz 1 func55
def eW (b:ah):aI (ah):=
 ag (aS n b) λa=>ag (ch a.1 [44]) λe=>br (!e) (br (a.1.aq !=7) (ag (bJ a.1.cN a.2) λf=>.ok f) (ag (P n a.2) λc=>.ok c.2)) (ag (P n a.2) λd=>.ok d.2)
instance MJ (p0:ah):CT Pq 53 [.ptr 0 0] [.box (K p0)] (eW n p0) (λ_=>.mE []) (λx=>[.box (K x)]):=by unfold eW;exact zz 0 func53
def xU (b:ByS):aI (ByS):=
 gd (cD ((b.length:Int) - 1)) (dz [0] [] (λa=>[(3,I a)]) (λ_=>[]) (λd (a:Int)=>br (decide (a>=0)) (el b a λc=>br ((c.toNat:Int)==47) (gd (cD (a+1)) (gd ((0:Int)<=(a+1)/\(a+1)<=(b.length:Int)) (.ok (gL b (a+1))))) (gd (cD (a - 1)) (d (a - 1)))) (.ok b)) n ((b.length:Int) - 1))
instance abp (p0:ByS):CT Pq 104 [eu p0] [] (xU n p0) (λx=>eu x) (λ_=>[]):=by unfold xU;exact zz 0 func104
def jW (j:ah):aI (dF×ah):=
 ag (P n j) λd=>iu 0 [0,2,3] [102] (λ_=>[]) (λa=>[(0,.box (K a.1)),(103,.box [eu a.2.Name,eu a.2.Path,I a.2.cN])]) (λ(a:ah×dF)=>ag (aS n a.1) λb=>br (b.1.aq !=3) (ag (bJ b.1.cN b.2) λk=>.ok (a.2,k)) (ag (P n b.2) λh=>iu 1 [0,2,3,4] [0,102,104] (λ_=>[]) (λc=>[(103,.box [eu c.Name,eu c.Path,I c.cN])]) (λ(c:dF)=>ag (eJ n c.Name) λl=>br (!l) (ag (bJ b.1.cN h.2) λm=>ag (eW n m) λo=>.ok (c,o)) (ag (eW n h.2) λp=>.ok (c,p))) λf=>br (a.2.Name==([]:ByS)) (ag (xU n b.1.bM) λq=>f ((dF.mk q b.1.bM a.2.cN))) (f ((dF.mk a.2.Name b.1.bM a.2.cN))))) λg=>ag (aS n d.2) λe=>br (e.1.aq !=3) (ag (fU n e.2) λi=>g (i.2,dF.mk i.1 [] d.1.cN)) (g (e.2,dF.mk [] [] d.1.cN))
instance Pa (p0:ah):CT Pq 54 [.ptr 0 0] [.box (K p0)] (jW n p0) (λx=>.agg [eu x.1.Name,eu x.1.Path,I x.1.cN]) (λx=>[.box (K x.2)]):=by unfold jW;exact zz 1 func54
def mD (r:ah):aI (fX×ah):=
 oj [[15,3110,1,9]] (ag (iD n r) λe=>jk [[1,3110,10004],[0,2,3,4],[0,102,103]] (iu 0 [0,2,3] [102] (λc=>[(4,.arr 10004 c.2.2.length)]) (λc=>[(0,.box (K c.1)),(103,.box [eu c.2.1.jD,nSl,nSl,nSl]),(10004,.app 9 1 (gh c.2.2))]) (λ(c:ah×fX×(List ByS))=>ag (cG c.1) λp=>iu 0 [0,2,3] [102] (λb=>[(4,.arr 10004 b.2.2.length)]) (λb=>[(0,.box (K b.1)),(103,.box [eu b.2.1.jD,.arr 26593 b.2.1.eB.length,nSl,nSl]),(10004,.app 9 1 (gh b.2.2)),(26593,.app 58 3 (dF.Cs b.2.1.eB))]) (λ(b:ah×fX×(List ByS))=>ghK [0,2,3,53] (ag (et n true b.2.2 [] b.1) λg=>oj [[13,103,1]] (.ok (fX.mk b.2.1.jD b.2.1.eB g.1 g.2.1,g.2.2)))) λf=>jk [[5,103,1,26593,3,58]] (dz [0,2,3] [102] (λa=>[(4,.arr 10004 a.2.2.1.length),(5,Bo a.2.2.2)]) (λa=>[(0,.box (K a.1)),(103,.box [eu a.2.1.jD,.arr 26593 a.2.1.eB.length,nSl,nSl]),(10004,.app 9 1 (gh a.2.2.1)),(26593,.app 58 3 (dF.Cs a.2.1.eB))]) (λq (a:ah×fX×(List ByS)×Bool)=>br a.2.2.2 (ag (cG a.1) λh=>br h.1 (ag (aS n h.2) λi=>ag (jO i.1 [105,109,112,111,114,116]) λs=>br s (Bn 8 (ag (jW n i.2) λj=>gd (nP 40 a.2.1.eB.length (List.length [j.1])) (jk [[1,142,26593],[0,2,3,4],[10004,0,102,103]] (ag (jx n j.2) λd=>gd (nP 16 a.2.2.1.length d.1.length) (jk [[1,148,10004],[0,2,3,4,6],[0,102,103,26593]] (q (d.2,fX.mk a.2.1.jD (a.2.1.eB++[j.1]) [] [],a.2.2.1++d.1,((d.1.length:Int)==0)))))))) (f (i.2,fX.mk a.2.1.jD a.2.1.eB [] [],a.2.2.1))) (f (h.2,fX.mk a.2.1.jD a.2.1.eB [] [],a.2.2.1))) (f (a.1,fX.mk a.2.1.jD a.2.1.eB [] [],a.2.2.1))) n (p.2,fX.mk c.2.1.jD [] [] [],c.2.2,p.1))) λm=>ag (aS n e.2) λk=>ag (jO k.1 [112,97,99,107,97,103,101]) λt=>br t (ag (P n k.2) λu=>ag (fU n u.2) λo=>ag (eW n o.2) λv=>ag (jx n v) λl=>gd (nP 16 e.1.length l.1.length) (jk [[1,124,10004],[0,2,3,4],[0,102,103]] (m (l.2,fX.mk o.1 [] [] [],e.1++l.1)))) (m (k.2,fX.mk [] [] [] [],e.1))))
instance Tt (p0:ah):CT Pq 18 [.ptr 0 0] [.box (K p0)] (mD n p0) (λx=>.agg (zj x.1)) (λx=>[.box (K x.2)]):=by unfold mD;exact zz 0 func18
def Bf (d:ByS):aI (fX×dH):=
 ag (tp n d) λc=>br (c.2.eU !=0) (ji 4 (s6 [[7,102]] (.ok (fX.mk [] [] [] [],c.2)))) (ag (mD n (ah.mk d 0 c.1 0 false 0 0)) λa=>ag (cG a.2) λb=>br (!b.1) (ji 7 (s6 [[7,102]] (.ok (fX.mk [] [] [] [],dH.mk b.2.jF b.2.td)))) (ag (yD n a.1) λe=>br (e==9) (s6 [[7,102]] (.ok (fX.mk [] [] [] [],dH.mk 9 0))) (.ok (a.1,dH.mk 0 0))))
instance abq (p0:ByS):CT Pq 7 [eu p0] [] (Bf n p0) (λx=>.mE [.agg (zj x.1),.agg [I x.2.eU,I x.2.At]]) (λ_=>[]):=by unfold Bf;exact zz 0 func7
def pJ (a:ByS):aI (Bool):=
 br (decide ((a.length:Int)>400)) (ag (yw 64) λf=>.ok f) (ag (qE n a) λc=>ag (Bf n a) λb=>br ((c.2.eU==b.2.eU)&&(c.2.At==b.2.At)) (ag (uI n c.1 b.1) λd=>br d (ag (yw 64) λe=>.ok e) (.ok false)) (.ok false))
instance FQ (p0:ByS):CT Pq 3 [eu p0] [] (pJ n p0) (λx=>Bo x) (λ_=>[]):=by unfold pJ;exact zz 0 func3
end
end Go.Abs
namespace Go.Abs
open aI
variable {a b c n:Int} {k j:Bool} {q:Option ak} {t:aC} {x:ByS} {α:Type} {p:Y}
section
abbrev di:sX->Prop:=λ_=>False
variable {m:Nat->Nat} {l:List ByS} {s:ByS}
def Dy (hm:bL m) (hl:l.length<=1099511627776):Ev (λi=>slices_Index_string (m i) l s) (λ_=>True) di:=by
 unfold slices_Index_string;refine bN hm (λ(v:Int)=>0<=v/\v<=l.length) (λv=>(l.length - v).toNat) aB ?_;intro v hv next hn
 (repeat' (with_reducible first|intro _|refine aH ?_|refine W ?_|apply aY|apply aG|apply dK|(apply cT;try dsimp only)))
 all_goals first|exact aj trivial|exact hn _ zR zR
def rF (hm:bL m) (hl:l.length<=1099511627776):Ev (λi=>slices_Contains_string (m i) l s) (λ_=>True) di:=by
 unfold slices_Contains_string;exact ai (Dy hm hl) λ_ _=>aj trivial
def DQ:Ev (λ_=>n7 c) (λ_=>True) di:=by
 unfold n7;exact yC4
def JY (hm:bL m):Ev (λi=>dO (m i) s) (λ_=>True) di:=by
 unfold dO;refine aR qn (λh=>?_);refine ai (rF hm bn) λy _=>?_;refine aw qn (λ_=>?_);refine bz (λv=>v.length<=32) (λv hv=>?_) (λj hj=>?_)
 ·(repeat' (with_reducible first|intro _|refine aH ?_|refine W ?_|apply aY|apply aG|apply dK|(apply cT;try dsimp only)))
  ·exact Bz
  refine ai DQ λy _=>?_
  (repeat' (with_reducible first|intro _|refine aH ?_|refine W ?_|apply aY|apply aG|apply dK|(apply cT;try dsimp only)))
  ·exact Bz
  refine bN hm (λ(x:Int)=>0<=x/\x<=v.length) (λx=>(v.length - x).toNat) aB ?_;intro x hx next hn
  (repeat' (with_reducible first|intro _|refine aH ?_|refine W ?_|apply aY|apply aG|apply dK|(apply cT;try dsimp only)))
  ·refine ai DQ λy _=>?_
   (repeat' (with_reducible first|intro _|refine aH ?_|refine W ?_|apply aY|apply aG|apply dK|(apply cT;try dsimp only)))
   all_goals first|exact aj trivial|exact hn _ zR zR
  exact Bz
 (repeat' (with_reducible first|intro _|refine aH ?_|refine W ?_|apply aY|apply aG|apply dK|(apply cT;try dsimp only)))
 all_goals refine hj _ ?_
 all_goals first|omega|(have:=uH (c:=s) (i:=1) aB aB;omega)
def Bg:Ev (λ_=>mB c) (λr=>r=true->-1000000000000000<=c/\c<=1000000000000000) di:=by
 unfold mB
 (repeat' (with_reducible first|intro _|refine aH ?_|refine W ?_|apply aY|apply aG|apply dK|(apply cT;try dsimp only)))
 all_goals first|exact aj qI|exact aj bn
def MK:Ev (λ_=>vO c) (λr=>0<=r/\r<18446744073709551616) di:=by
 unfold vO
 (repeat' (with_reducible first|intro _|refine aH ?_|refine W ?_|apply aY|apply aG|apply dK|(apply cT;try dsimp only)))
 all_goals exact aj (wrap_u64 _)
def Ge {a:Int} (h:0<=a/\a<18446744073709551616):Ev (λ_=>oN a 10) (λr=>1<=r.length/\r.length<=20) di:=by
 unfold oN;refine dy ⟨rfl,h.1,h.2⟩ (aj ⟨Η 19 _,Ru 20 _⟩)
def ML (hm:bL m):Ev (λi=>vP (m i) c) (λ_=>True) di:=by
 unfold vP;refine ai Bg λy _=>?_;refine cZ qn (λ_=>?_);refine ai MK λy _=>?_;refine aH (ai (Ge (wrap_u64 _)) λy hy=>?_);refine bz (λv=>v.length<=30) (λv hv=>?_) (λj hj=>?_)
 ·refine aH (ai (Ge (wrap_u64 _)) λy hy=>?_);refine aH ?_;refine bz (λv=>v.length<=30) (λv hv=>?_) (λj hj=>?_)
  ·exact yC4
  refine bN hm (λx=>x.length<=30) (λx=>x.length) ?_ ?_
  ·have:=uH (c:=y) (i:=1) aB aB;omega
  intro x hx next hn
  (repeat' (with_reducible first|intro _|refine aH ?_|refine W ?_|apply aY|apply aG|apply dK|(apply cT;try dsimp only)))
  ·have:=NJ (c:=x) (j:=x.length - 1) aB aB;exact hn _ aB aB
  ·exact hj _ aB
  exact hj _ aB
 (repeat' (with_reducible first|intro _|refine aH ?_|refine W ?_|apply aY|apply aG|apply dK|(apply cT;try dsimp only)))
 all_goals exact hj _ zR
def E1 (hm:bL m):Ev (λi=>nj (m i) s) (λ_=>True) di:=by
 unfold nj ji;refine aR qn (λh=>?_);refine bz (λv=>v.1.length<=20/\v.2.length<=20) (λv hv=>?_) (λj hj=>?_)
 ·refine bN hm (λx=>x.length<=20) (λx=>20 - x.length) hv.2 ?_;intro x hx next hn
  (repeat' (with_reducible first|intro _|refine aH ?_|refine W ?_|apply aY|apply aG|apply dK|(apply cT;try dsimp only)))
  ·exact ū
  ·exact Bz
  refine dA (Q:=λ_=>True) ?_ λy _=>?_
  ·unfold uG;exact aH Bz
  refine aw qn (λ_=>?_);refine ai Bg λy _=>?_;refine cZ qn (λ_=>?_);refine ai (ML hm) λy _=>?_;refine aw qn qn
 refine bN hm (λ(x:Int)=>0<=x/\x<=s.length) (λx=>(s.length - x).toNat) aB ?_;intro x hx next hn
 (repeat' (with_reducible first|intro _|refine aH ?_|refine W ?_|apply aY|apply aG|apply dK|(apply cT;try dsimp only)))
 ·have h1:=K0 (c:=s) (j:=x);have h2:=uH (c:=s) (i:=x+1) aB aB;exact hj _ eX
 ·exact ū
 exact hj _ (by dsimp only;simp;omega)
end
section
variable {s:ByS} {m:Nat->Nat}
def Dz {p:ByS}:Ev (λ_=>strings_HasPrefix s p) (λr=>r=true->p.length<=s.length) di:=by
 unfold strings_HasPrefix stringslite_HasPrefix;refine ai (Q:=λr=>r=true->p.length<=s.length) ?_ λ_ h=>aj h
 (repeat' (with_reducible first|intro _|refine aH ?_|refine W ?_|apply aY|apply aG|apply dK|(apply cT;try dsimp only)))
 ·exact aj GV
 exact M9
variable {a b:ByS}
def Lk (h:1<=b.length) (ha:a.length<4294967281):Ev (λ_=>strings_Split a b) (λr=>r.length<=a.length+2) di:=by
 unfold strings_Split;exact dy ⟨h,ha⟩ (aj (K1 _ _ _))
def Et (ha:a.length<4294967281):Ev (λ_=>strings_Contains a b) (λ_=>True) di:=by
 unfold strings_Contains;exact dy ha Bz
def ux:Ev (λ_=>pf c) (λr=>r=decide (48<=c/\c<=57)) di:=by
 unfold pf
 (repeat' (with_reducible first|intro _|refine aH ?_|refine W ?_|apply aY|apply aG|apply dK|(apply cT;try dsimp only)))
 ·exact aj qI
 exact aj qI
def DU:Ev (λ_=>r6 c) (λ_=>True) di:=by
 unfold r6;exact yC4
def Jm (hm:bL m) (hs:s.length<=65536) :
  Ev (λi=>tn (m i) s) (λr=>0<=r/\r<=s.length/\∀ b:UInt8,s[0]?=some b->48<=(b.toNat:Int)->(b.toNat:Int)<=57->1<=r) di:=by
 unfold tn
 refine bz (λv=>0<=v/\v<=s.length/\∀ b:UInt8,s[0]?=some b->48<=(b.toNat:Int)->(b.toNat:Int)<=57->1<=v) (λv hv=>?_) (λj hj=>?_)
 ·refine bz (λb=>b=true->v+1<=s.length) (λb hb=>?_) (λj hj=>?_)
  ·refine aw (λh=>?_) (λ_=>aj hv)
   have:=hb h
   refine aH ?_
   refine bN hm (λ(x:Int)=>v+1<=x/\x<=s.length) (λx=>(s.length - x).toNat) aB ?_
   intro x hx next hn
   (repeat' (with_reducible first|intro _|refine aH ?_|refine W ?_|apply aY|apply aG|apply dK|(apply cT;try dsimp only)))
   ·refine ai ux λy _=>?_
    (repeat' (with_reducible first|intro _|refine aH ?_|refine W ?_|apply aY|apply aG|apply dK|(apply cT;try dsimp only)))
    ·exact ū
    ·exact aj ⟨by omega,by omega,λ_ _ _ _=>by omega⟩
   ·exact aj ⟨by omega,by omega,λ_ _ _ _=>by omega⟩
  ·(repeat' (with_reducible first|intro _|refine aH ?_|refine W ?_|apply aY|apply aG|apply dK|(apply cT;try dsimp only)))
   ·refine ai ux λy _=>?_
    exact hj _ GV
   all_goals exact hj _ bn
 ·refine bN hm (λ(x:Int)=>0<=x/\x<=s.length) (λx=>(s.length - x).toNat) aB ?_
  intro x hx next hn
  refine aR (λh=>?_) (λh=>?_)
  ·refine W (λb hb=>?_)
   refine ai ux λy hy=>?_
   refine aw (λ_=>?_) (λh2=>?_)
   ·(repeat' (with_reducible first|intro _|refine aH ?_|refine W ?_|apply aY|apply aG|apply dK|(apply cT;try dsimp only)))
    exact hn _ zR zR
   ·refine hj _ ⟨hx.1,hx.2,λb' x8 h3 h4=>?_⟩
    obtain q|q:=o6 x 1
    ·have:x=0:=by omega
     subst this
     simp only[Int.toNat_zero] at hb
     rw[hb] at x8;cases x8
     rw[hy] at h2
     exact ao ⟨h3,h4⟩ (aW h2)
    ·exact q
  ·refine hj _ ⟨hx.1,hx.2,λb' x8 _ _=>?_⟩
   have:=(an.1 x8).1
   omega
def Hs (hm:bL m):Ev (λi=>qU (m i) s) (λr=>r.length<=s.length) di:=by
 unfold qU;refine bN hm (λ(x:Int)=>0<=x/\x<=3) (λx=>(3 - x).toNat) aB ?_;intro x hx next hn;refine aR (λh=>?_) (λh=>aj bn);simp only[j6,List.length_nil] at h;refine gm aB qI (λa ha=>?_);have hal:a.length<=60:=by
  have hm:=aQ ha;simp only[cb,cO,cn,or_false] at hm;obtain rfl|rfl|rfl:=hm<;>simp
 refine ai (Lk bn aB) λl hl=>?_;refine bN hm (λ(z:Int)=>0<=z/\z<=l.length) (λz=>(l.length - z).toNat) aB ?_;intro z hz NT Jg
 (repeat' (with_reducible first|intro _|refine aH ?_|refine W ?_|apply aY|apply aG|apply dK|(apply cT;try dsimp only)))
 ·refine ai Dz λy hy=>?_;refine aw (λh=>aj (hy h)) (λ_=>?_)
  (repeat' (with_reducible first|intro _|refine aH ?_|refine W ?_|apply aY|apply aG|apply dK|(apply cT;try dsimp only)))
  exact Jg _ zR zR
 exact ū
def MM (hm:bL m) (hs:s.length<=65536):Ev (λi=>vR (m i) s) (λr=>0<=r/\r<=s.length) di:=by
 unfold vR;refine bz (λv=>0<=v/\v<=s.length) (λv hv=>?_) (λj hj=>?_)
 ·refine b8 (λh=>?_) (λ_=>aj hv);refine W (λb _=>?_);refine ai DU λy _=>?_
  (repeat' (with_reducible first|intro _|refine aH ?_|refine W ?_|apply aY|apply aG|apply dK|(apply cT;try dsimp only)))
  all_goals exact aj aB
 refine bN hm (λ(x:Int)=>0<=x/\x<=s.length) (λx=>(s.length - x).toNat) aB ?_;intro x hx next hn;refine bz (λ_=>x<s.length) (λ_ h=>?_) (λj2 x9=>?_)
 ·(repeat' (with_reducible first|intro _|refine aH ?_|refine W ?_|apply aY|apply aG|apply dK|(apply cT;try dsimp only)))
  exact hn _ zR zR
 refine aR (λh=>?_) (λ_=>hj _ hx);refine W (λb _=>?_);refine ai DU λy _=>?_;refine aw (λ_=>x9 _ h) (λ_=>?_)
 (repeat' (with_reducible first|intro _|refine aH ?_|refine W ?_|apply aY|apply aG|apply dK|(apply cT;try dsimp only)))
 ·refine ai ux λy _=>?_
  (repeat' (with_reducible first|intro _|refine aH ?_|refine W ?_|apply aY|apply aG|apply dK|(apply cT;try dsimp only)))
  all_goals first|exact x9 _ h|exact hj _ hx
 all_goals first|exact x9 _ h|exact hj _ hx
def Iq (hm:bL m) (hs:s.length<=65536):Ev (λi=>sq (m i) s) (λr=>r.1=0\/2<=r.1/\r.1<=s.length) di:=by
 unfold sq;refine bN hm (λx=>1<=x.2/\x.2<=65540) (λx=>(65540 - x.2).toNat) bn ?_;intro x hx next hn;refine aR (λh=>?_) (λ_=>aj bn);refine bz (λv=>x.2<=v.2/\v.2<=s.length+1) (λv hv=>?_) (λj hj=>?_)
 ·refine aH (hn _ eX eX)
 (repeat' (with_reducible first|intro _|refine aH ?_|refine W ?_|apply aY|apply aG|apply dK|(apply cT;try dsimp only)))
 all_goals first|exact aj (.inr ⟨zR,zR⟩)|exact hj _ eX
def Jn (hm:bL m) (hs:s.length<=70000):Ev (λi=>lC (m i) s 16 8) (λr=>r.2=0\/r.2=1\/r.2=2) di:=by
 unfold lC;refine aw U6 (λ_=>?_);refine bz (λv=>v=(s,16)) (λv hv=>?_) (λj9 hj9=>?_)
 ·subst hv;dsimp only;refine bz (λv=>v=8) (λv hv=>?_) (λj12 hj12=>?_)
  ·subst hv;refine bz (λ_=>True) (λv _=>?_) (λj hj=>?_)
   ·refine dy (wrap_u64 _).1 ?_;have hl:(ofBytes s).length<=70000:=by simpa[ofBytes] using hs
    refine bN hm (λ(x:Bool×Int×Int)=>x.1=false/\0<=x.2.2/\x.2.2<=(ofBytes s).length) (λx=>((ofBytes s).length - x.2.2).toNat) bn ?_;intro x hx next hn;refine aR (λiy=>?_) (λ_=>aw (λh=>by rw[hx.1] at h;cases h) (λ_=>aj (.inl rfl)));refine W λc _=>?_;refine bz (λ_=>True) (λv _=>?_) (λWE hj38=>?_)
    ·refine aw U6 (λ_=>aw (λ_=>aj (.inr (.inl rfl))) (λ_=>aw (λ_=>aj (.inr (.inl rfl))) (λ_=>aw (λ_=>aj (.inr (.inl rfl))) (λ_=>?_))));exact aH (hn _ ⟨hx.1,eX,eX⟩ eX)
    refine bz (λv=>v=false) (λv hv=>?_) (λj58 hj58=>?_)
    ·subst hv;refine aG ?_;refine bz (λ_=>True) (λv _=>?_) (λj64 hj64=>aw (λ_=>hj64 _ trivial) (λ_=>hj64 _ trivial));refine aw (λ_=>hj38 _ trivial) (λ_=>bC rfl (aw (λ_=>bC rfl (aw (λ_=>bC rfl (hj38 _ trivial)) U6)) U6))
    exact aw (λ_=>hj58 _ rfl) (λ_=>hj58 _ rfl)
   exact aw TC (λ_=>aw (λ_=>hj _ trivial) TC)
  exact aw TC (λ_=>aw TC (λ_=>aw TC (λ_=>hj12 _ rfl)))
 refine bz (λv=>v=true) (λv hv=>?_) (λj99 hj99=>?_)
 ·subst hv;exact aY (hj9 _ rfl)
 exact aw (λ_=>hj99 _ bn) TC
def Pb (hm:bL m) (hs:s.length<=70000):Ev (λi=>pH (m i) s 16 8) (λ_=>True) di:=by
 unfold pH;refine ai (Jn hm hs) λy hy=>jI (λh=>?_) qn;refine bC (a:=true) ?_ Bz;unfold vB;simp only[aI.gd];rw[aL ⟨aB,aB⟩]
def Ht (hm:bL m) (hs:s.length<=70000):Ev (λi=>qV (m i) s) (λr=>0<=r.2/\r.2<=s.length) di:=by
 unfold qV;refine aR (λ_=>aj bn) (λh=>?_);refine W (λb _=>?_);refine bz (λ_=>True) (λv _=>?_) (λj hj=>?_)
 ·(repeat' (with_reducible first|intro _|refine aH ?_|refine W ?_|apply aY|apply aG|apply dK|(apply cT;try dsimp only)))
  all_goals first|exact aj eX|skip
  refine ai (Pb hm (by have:=Ff (c:=s) (i:=2) (j:=4) aB aB aB;omega)) λy _=>?_
  (repeat' (with_reducible first|intro _|refine aH ?_|refine W ?_|apply aY|apply aG|apply dK|(apply cT;try dsimp only)))
  all_goals exact aj eX
 exact Ū
def CY (hm:bL m) :
  Ev (λi=>nS (m i) s) (λr=>r.1.length<=s.length/\∀ c:UInt8,s[1]?=some c->c.toNat≠34->r.2.eU=0->1<=r.1.length) di:=by
 unfold nS oj jk
 refine aR Xo (λh=>?_)
 refine b8 Xo (λh=>?_)
 refine W (λb _=>?_)
 refine jI Xo (λh=>?_)
 refine bN hm (λ(x:List Int×Int)=>1<=x.2/\x.2<=s.length/\x.1.length<=x.2/\(x.2=1\/1<=x.1.length)) (λx=>(s.length - x.2).toNat) qI ?_
 intro x hx next hn
 refine aR Xo (λh=>?_)
 refine W (λb hb=>?_)
 refine b8 (λh34=>?_) (λh34=>?_)
 ·refine aH (aR (λ_=>aH (aj ⟨bn,λ_ _ _ h=>by simp at h⟩)) (λ_=>?_))
  refine aj ⟨by simp[jQ];omega,λc hc PX _=>?_⟩
  obtain q|q:=hx.2.2.2
  ·rw[q] at hb
   simp only[Int.toNat_one] at hb
   rw[hb] at hc;cases hc
   omega
  ·simpa[jQ] using q
 ·refine W (λb2 _=>?_)
  refine b8 (λ_=>?_) (λ_=>?_)
  ·refine aH ?_
   have hl:=uH (c:=s) (i:=x.2) aB aB
   refine ai (Ht hm aB) λy hy=>?_
   refine b8 Xo (λh0=>?_)
   exact ahY
  ·refine bz (λ_=>True) (λv _=>?_) (λj hj=>?_)
   ·refine aw Xo (λ_=>?_)
    exact ahY
   ·exact Ū
end
section
variable {m:Nat->Nat} {s:ByS} {x:eG}
def MN (hm:bL m) (hs:s.length<=65536):Ev (λi=>vQ (m i) s) (λr=>r.2=true->r.1.length+2<=s.length) di:=by
 unfold vQ;refine bN hm (λ(x:Int×Int)=>0<=x.2/\x.2<=s.length/\x.1<=x.2/\ -x.2<=x.1) (λx=>(s.length - x.2).toNat) bn ?_;intro x hx next hn
 (repeat' (with_reducible first|intro _|refine aH ?_|refine W ?_|apply aY|apply aG|apply dK|(apply cT;try dsimp only)))
 ·exact hn _ eX eX
 ·have:=Ff (c:=s) (i:=1) (j:=x.2) aB aB aB;exact aj λ_=>by dsimp only;omega
 ·exact hn _ eX eX
 ·exact hn _ eX eX
 exact M9
def Jo (hm:bL m) (hs:s.length<=65536) (h0:s[0]?=some 92):Ev (λi=>rZ (m i) s) (λr=>r.2=0\/2<=r.2/\r.2<=s.length) di:=by
 unfold rZ;refine bz (λv=>2<=v) (λv hv=>?_) (λj hj=>?_)
 ·refine aR (λ_=>aj (.inl rfl)) (λh=>?_);refine aH ?_;have hl:=NJ (c:=s) (j:=v) aB aB;refine aH (aH ?_);refine ai (CY hm) λy hy=>?_;refine jI (λ_=>aj (.inl rfl)) (λhe=>?_);have h1:([34]++sI s v++[34])[1]?=some (92:UInt8):=by
   cases s with
   | nil=>simp at h0
   | cons a s=>
    simp at h0;subst h0
    have:v.toNat=(v.toNat - 1)+1:=by omega
    simp[sI];rw[this];simp
  have:=hy.2 _ h1 dN he;refine W λb _=>aj (.inr ⟨hv,eX⟩)
 refine ai Dz λy _=>?_;exact ah5
def Ue (n:Nat) (x:bQ):Prop:=0<=x.cN/\x.cN<=n/\(x.Code=true->x.cN+x.bM.length<n)
def BS {t:List Int} {out:List bQ} {f:Int} (ho:out.length<=70000) :
  Ev (λ_=>qW t out f) (λr=>r.1=[]/\r.2.2=f/\((t=[]/\r.2.1=out)\/(1<=t.length/\∃ x:bQ,r.2.1=out++[x]/\x.Code=false/\x.cN=f))) di:=by
 unfold qW
 (repeat' (with_reducible first|intro _|refine aH ?_|refine W ?_|apply aY|apply aG|apply dK|(apply cT;try dsimp only)))
 ·exact aj ⟨rfl,rfl,.inr ⟨by omega,_,rfl,rfl,rfl⟩⟩
 ·exact aj ⟨rfl,rfl,.inl ⟨fh aB,rfl⟩⟩
def zN (hm:bL m) (hs:s.length<=65536):Ev (λi=>qw (m i) s) (λr=>r.1.length<=s.length/\∀ x,x∈r.1->Ue s.length x) di:=by
 unfold qw;refine bN hm (λ(x:List bQ×List Int×Int×Int)=>0<=x.2.2.2/\x.2.2.2<=s.length/\0<=x.2.2.1/\x.2.2.1<=s.length/\(x.1.length:Int)+min 1 x.2.1.length<=x.2.2.2/\(x.2.1.length:Int)<=x.2.2.2/\∀ p,p∈x.1->Ue s.length p)
  (λx=>(s.length - x.2.2.2).toNat) bn ?_
 rintro ⟨out,t,f,i⟩ ⟨h1,h2,h3,h4,h5,h6,h7⟩ next hn;dsimp only at h1 h2 h3 h4 h5 h6 h7 hn ⊢;refine aR (λhi=>?_) (λhi=>?_)
 ·refine bz (λv=>0<=v/\v<=s.length) (λv hv=>?_) (λj hj=>?_)
  ·refine aH (ai Dz λy hy=>?_);refine aw (λhp=>?_) (λ_=>?_)
   ·refine aH (aH ?_);have hl:=uH (c:=s) (i:=i+1) aB aB;refine ai (MN hm aB) λc hc=>?_;refine cZ Zi (λhct=>?_);have PX:=hc hct;refine ai (BS aB) λr hr=>?_;obtain ⟨r1,r2,r3⟩:=hr;have hr4:(r.2.1.length:Int)<=i/\∀ p,p∈r.2.1->Ue s.length p:=by
     obtain ⟨a,b⟩|⟨a,x,b,c1,c2⟩:=r3
     ·rw[b];subst a;exact ⟨by simp at h5;omega,h7⟩
     rw[b];refine ⟨qI,λp hp=>?_⟩;exact ais
    (repeat' (with_reducible first|intro _|refine aH ?_|refine W ?_|apply aY|apply aG|apply dK|(apply cT;try dsimp only)))
    refine hn _ ⟨eX,eX,eX,eX,by rw[r1];simp;omega,by rw[r1];simp;omega,λp hp=>?_⟩ eX;obtain q|q:=bH.1 hp
    ·exact hr4.2 p q
    simp at q;subst q;exact ⟨eX,eX,λ_=>by dsimp only;omega⟩
   refine W (λb hb=>?_);refine b8 (λDV=>?_) (λ_=>?_)
   ·refine aH ?_;have hl:=uH (c:=s) (i:=i) aB aB;have h0:(gL s i)[0]?=some (92:UInt8):=by
     simp only[gL,dD,Nat.add_zero,hb];congr 1;apply rP.1;show b.toNat=92;omega
    refine ai (Jo hm aB h0) λe he=>?_;refine b8 Zi (λuB=>?_);exact ahW
   refine bz (λ_=>True) (λw _=>?_) (λj2 x9=>?_)
   ·refine aw Zi (λ_=>?_);exact ahW
   exact ah6
  exact ah5
 refine ai (BS aB) λr hr=>?_;obtain ⟨r1,r2,r3⟩:=hr;refine aj ?_;obtain ⟨a,b⟩|⟨a,x,b,c1,c2⟩:=r3
 ·dsimp only;rw[b];exact ⟨by omega,h7⟩
 dsimp only;rw[b];refine ⟨qI,λp hp=>?_⟩;exact ais
structure ajz (a:Int) (t:aC):Prop where
 p0:0<=t.cN
 pe:t.cN<t.pO
 e:t.pO<=a
 k:t.aq≠0
 ip:t.aq=4->(t.bM.length:Int)+2<=t.pO - t.cN
 tl:t.bM.length<=65536
structure IZ (a:Int) (l:List aC):Prop where
 len:(l.length:Int)<=a
 ok:∀ t,t∈l->ajz a t
 sorted:l.Pairwise λt u=>t.pO<=u.cN
variable {l:List aC}
def IZ.snoc (h:IZ a l) {t:aC} (h1:t.cN=a) (h2:a<t.pO) (h0:0<=a) (hk:t.aq≠0) (hi:t.aq=4->(t.bM.length:Int)+2<=t.pO - t.cN) (hl:t.bM.length<=65536):IZ t.pO (l++[t]):=by
 refine ⟨by have:=h.len;simp;omega,λu hu=>?_,?_⟩
 ·obtain q|q:=bH.1 hu
  ·obtain ⟨a1,a2,a3,a4,a5,a6⟩:=h.ok u q;exact ⟨a1,a2,by omega,a4,a5,a6⟩
  simp at q;subst q;exact ⟨by omega,by omega,by omega,hk,hi,hl⟩
 refine List.pairwise_append.2 ⟨h.sorted,bn,λu hu v hv=>?_⟩;simp at hv;subst hv;have:=(h.ok u hu).e;omega
def IZ.mono {b:Int} (h:IZ a l) (hab:a<=b):IZ b l:=
 ⟨by have:=h.len;omega,λt ht=>let q:=h.ok t ht;⟨q.p0,q.pe,by have:=q.e;omega,q.k,q.ip,q.tl⟩,h.sorted⟩
structure Sb (s:ByS) (x:eG):Prop where
 cP:x.cP=s
 Mh:0<=x.bO
 NU:x.bO<=s.length
 out:IZ x.bO x.out
variable {k:Int} {t:ByS}
def yH (h0:0<=x.bO) (h1:x.bO<=70000) (hn:0<=n) (Jg:n<=70000) (ho:x.out.length<=70000) (ht:t.length<=70000) :
  Ev (λ_=>e9 k t n x) (λr=>r.cP=x.cP/\r.bO=x.bO+n/\r.out=x.out++[aC.mk k t x.bO (x.bO+n)]) di:=by
 unfold e9 Bn jk
 refine aH (aH (aH (b8 (λ_=>aj J8) (λ_=>?_))))
 refine bz (λ_=>True) (λv _=>?_) (λj hj=>?_)
 ·refine aw (λ_=>aj J8) (λ_=>?_)
  refine b8 (λ_=>?_) (λ_=>aj J8)
  (repeat' (with_reducible first|intro _|refine aH ?_|refine W ?_|apply aY|apply aG|apply dK|(apply cT;try dsimp only)))
  exact ai (Et bn) λy _=>aj J8
 ·exact Ū
def Sb.add (hs:s.length<=65536) (h:Sb s x) (hn:1<=n) (Jg:x.bO+n<=s.length) (ht:t.length<=65536) (hk:k≠0) (hi:k=4->(t.length:Int)+2<=n) :
  Ev (λ_=>e9 k t n x) (λr=>Sb s r/\x.bO<r.bO) di:=by
 have hl:=h.out.len
 have h0:=h.Mh
 have h1:=h.NU
 refine (yH (k:=k) (t:=t) h0 aB aB aB aB aB).qh λr hr=>?_
 refine ⟨⟨by rw[hr.1];exact h.cP,by omega,by omega,?_⟩,by omega⟩
 rw[hr.2.1,hr.2.2]
 have:=h.out.snoc (t:=aC.mk k t x.bO (x.bO+n)) rfl eX h0 hk (λq=>by have:=hi q;dsimp only;omega) ht
 exact this
def E2 (hm:bL m) (hs:s.length<=65536) (h:Sb s x) :
  Ev (λi=>n8 (m i) x) (λr=>Sb s r.2/\(r.1=true->x.bO<r.2.bO)) di:=by
 have hl:=h.out.len
 have h0:=h.Mh
 have h1:=h.NU
 have ht:=h.cP
 unfold n8 ji
 simp only[ht]
 refine aH ?_
 have hq:=uH (c:=s) (i:=x.bO) aB aB
 refine ai (Iq hm aB) λy hy=>?_
 refine b8 Qw (λuB=>?_)
 refine aH (aH ?_)
 have GK:=Ff (c:=s) (i:=x.bO) (j:=x.bO+y.1) aB aB aB
 refine aw (λ_=>?_) (λ_=>?_)
 ·refine aH (aH ?_)
  have D3:=Ff (c:=sub s x.bO (x.bO+y.1)) (i:=1) (j:=y.1 - 1) aB aB aB
  refine ai (zN hm aB) λz _=>?_
  refine jI Qw (λ_=>?_)
  refine aH (aH ?_)
  refine ai (h.add hs aB aB aB dN GV) λr hr=>aj ⟨hr.1,λ_=>hr.2⟩
 ·refine ai (CY hm) λz hz=>?_
  refine jI Qw (λ_=>?_)
  refine ai (h.add hs aB aB aB dN J3) λr hr=>aj ⟨hr.1,λ_=>hr.2⟩
def WG:∀ (s p:ByS) (i:Nat),wq s p=some i->i<=s.length
 | [],p,i,h=>by
  unfold wq at h;split at h
  ·cases h;simp
  cases h
 | b::l,p,i,h=>by
  unfold wq at h;split at h
  ·cases h;simp
  cases q:wq l p with
  | none=>rw[q] at h;cases h
  | some k=>rw[q] at h;cases h;have:=WG l p k q;simp;omega
variable {p:ByS}
def Yh (h:(sI s p.length==p)=true):∃ r,s=p++r:=by
 have:=cg.1 h;simp only[sI,sx] at this;exact ⟨s.drop p.length,by conv=>lhs;rw[<- nb p.length s,this]⟩
def MO:Ev (λ_=>strings_HasPrefix s p) (λr=>r=true->∃ q,s=p++q) di:=by
 unfold strings_HasPrefix stringslite_HasPrefix;refine ai (Q:=λr=>r=true->∃ q,s=p++q) ?_ λ_ h=>aj h
 (repeat' (with_reducible first|intro _|refine aH ?_|refine W ?_|apply aY|apply aG|apply dK|(apply cT;try dsimp only)))
 ·exact aj (λh=>Yh h)
 exact M9
def Ej (hm:bL m) (hs:s.length<=65536) (h:Sb s x) (iy:x.bO<s.length) :
  Ev (λi=>mZ (m i) x) (λr=>Sb s r.2/\(r.1=true->x.bO<r.2.bO)) di:=by
 have hl:=h.out.len
 have h0:=h.Mh
 have h1:=h.NU
 have ht:=h.cP
 unfold mZ ji
 simp only[ht]
 refine aH ?_
 have hq:=uH (c:=s) (i:=x.bO) aB aB
 refine ai MO λy hy=>?_
 refine aw (λhp=>?_) (λ_=>?_)
 ·obtain ⟨r,hr⟩:=hy hp
  rw[hr] at hq ⊢
  refine dA (Q:=λc=>2<=c.1.length/\c.1.length<=([47,47]++r:ByS).length) ?_ λc hc=>?_
  ·unfold strings_Cut
   refine aH (aj ?_)
   split
   ·rename_i i hi
    have:=WG _ _ _ hi
    refine ⟨?_,qI⟩
    have h2:2<=i:=by
     cases q:wq r [10] with
     | none=>simp[wq,q] at hi
     | some k=>simp[wq,q] at hi;omega
    simp at this ⊢;omega
   ·simp
  ·refine aH ?_
   have:=uH (c:=c.1) (i:=2) aB aB
   refine ai (h.add hs aB aB aB dN J3) λr hr=>aj ⟨hr.1,λ_=>hr.2⟩
 ·refine ai (MM hm aB) λy hy=>?_
  refine aR (λhp=>?_) (λ_=>?_)
  ·refine aH ?_
   have:=K0 (c:=gL s x.bO) (j:=y)
   refine ai (h.add hs aB aB aB dN J3) λr hr=>aj ⟨hr.1,λ_=>hr.2⟩
  ·refine W (λb hb=>?_)
   refine ai ux λd hd=>?_
   refine aw (λhdt=>?_) (λ_=>?_)
   ·rw[hd] at hdt
    have hdd:=bh hdt
    refine ai (Jm hm aB) λy hy=>?_
    have Qk:=hy.2.2 b hb hdd.1 hdd.2
    refine aH ?_
    have:=K0 (c:=gL s x.bO) (j:=y)
    refine ai (E1 hm) λz _=>?_
    refine jI Qw (λ_=>?_)
    refine aH ?_
    refine ai (h.add hs aB aB aB dN J3) λr hr=>aj ⟨hr.1,λ_=>hr.2⟩
   ·refine b8 (λ_=>?_) (λ_=>?_)
    ·exact ai (E2 hm hs h) λr hr=>aj hr
    ·refine ai (Hs hm) λy hy=>?_
     refine b8 Qw (λuB=>?_)
     have:1<=y.length:=by
      cases y with
      | nil=>exact ao rfl uB
      | cons=>simp
     refine ai (h.add hs aB aB aB dN J3) λr hr=>aj ⟨hr.1,λ_=>hr.2⟩
structure afZ (s:ByS) (oh:List aC):Prop where
 big:s.length<=65536
 is:∃ l,oh=l++[aC.mk 0 [] s.length s.length]/\IZ s.length l
def Cj (hm:bL m):Ev (λi=>pX (m i) s) (λr=>0<=r.2.At/\r.2.At<=s.length/\(r.2.eU=0->r.2.At=0/\afZ s r.1)) di:=by
 unfold pX ji oj jk s6;refine aR (λ_=>aj ⟨bn,bn,bn⟩) (λh=>?_);refine bN hm (λ(x:eG)=>Sb s x) (λx=>(s.length - x.bO).toNat) ⟨rfl,bn,bn,bn,bn,bn⟩ ?_;intro x hx next hn;have hl:=hx.out.len;have h0:=hx.Mh;have h1:=hx.NU;refine aR (λiy=>?_) (λFE=>?_)
 ·refine W (λb hb=>?_);refine bz (λ_=>True) (λv _=>?_) (λj hj=>?_)
  ·refine aH (hn _ ⟨hx.cP,eX,eX,hx.out.mono eX⟩ eX)
  refine b8 (λ_=>?_) (λ_=>?_)
  ·refine aw (λ_=>?_) (λ_=>hj _ trivial);refine ai (hx.add aB aB aB bn dN J3) λr hr=>?_;exact hn _ ⟨hr.1.cP,hr.1.Mh,hr.1.NU,hr.1.out⟩ (by have:=hr.1.NU;dsimp only;omega)
  (repeat' (with_reducible first|intro _|refine aH ?_|refine W ?_|apply aY|apply aG|apply dK|(apply cT;try dsimp only)))
  all_goals first|exact hj _ trivial|skip
  refine ai (Ej hm aB hx iy) λr hr=>?_;refine cZ (λ_=>aj ⟨hr.1.Mh,hr.1.NU,bn⟩) (λhb=>hn _ hr.1 (by have:=hr.1.NU;have:=hr.2 hb;omega))
 have:x.bO=s.length:=by omega
 refine ai (yH aB aB aB aB aB bn) λr hr=>?_;refine aj ⟨bn,bn,λ_=>⟨rfl,aB,x.out,?_,this▸hx.out⟩⟩;rw[hr.2.2,this];simp
end
section
def wrap_i64 {x:Int} (h0:-9223372036854775808<=x) (h1:x<=9223372036854775807):IntKind.wrap .i64 x=x:=by
 have:IntKind.wrap .i64 x=if x % 18446744073709551616>=9223372036854775808 then x % 18446744073709551616 - 18446744073709551616 else x % 18446744073709551616:=by
  simp[IntKind.wrap,IntKind.bits,IntKind.signed]
 rw[this];split<;>omega
def WH {v:Int} (h0:0<=v) (h1:v<256):0<=IntKind.wrap .i64 (Int.tdiv v 64)/\IntKind.wrap .i64 (Int.tdiv v 64)<4:=by
 have:Int.tdiv v 64=v / 64:=kx h0;rw[this,wrap_i64 aB aB];omega
variable {m:Nat->Nat} {p:L} {s:ByS}
def Mm (hm:bL m):Ev (λi=>iQ (m i) a b) (λ_=>True) di:=by
 unfold iQ ji tB;refine bN hm (λ(x:eT×Int)=>0<=x.2/\x.2<=256) (λx=>(256 - x.2).toNat) bn ?_;intro x hx next hn;refine aR (λh=>?_) qn;have hw:=WH hx.1 h;have ht:0<=Int.tmod x.2 64:=Int.tmod_nonneg _ hx.1;refine bz (λ_=>True) (λv _=>?_) (λj hj=>?_)
 ·refine aw (λ_=>?_) (λ_=>?_)
  ·refine aH (dy hw (aH (dy ht (dy hw (aH ?_)))));exact hn _ eX eX
  refine aH ?_;exact hn _ eX eX
 exact Ū
def Mp (hm:bL m) {a b:eT}:Ev (λi=>kO (m i) a b) (λ_=>True) di:=by
 unfold kO ji tB;exact ahM
def Ll (hm:bL m) {a:eT}:Ev (λi=>s8 (m i) a) (λ_=>True) di:=by
 unfold s8 tB;exact ahM
inductive MP:bu->Prop where
 | mk {k a b c d:Int} {l:List bu} (h:l.length<=70000) (hs:∀ x,x∈l->MP x):MP (bu.mk k a b c d l)
variable {k:Int}
def MP.leaf {d:Int}:MP (bu.mk k a b c d []):=.mk bn bn
def Lm (hm:bL m):Ev (λi=>uj (m i) c) (λ_=>True) di:=by
 unfold uj;refine ai JW λ_ _=>?_
 (repeat' (with_reducible first|intro _|refine aH ?_|refine W ?_|apply aY|apply aG|apply dK|(apply cT;try dsimp only)))
 ·exact Bz
 ·refine ai JW λ_ _=>ai JW λ_ _=>ai Ka λ_ _=>ai Ka λ_ _=>ai JW λ_ _=>ai Ka λ_ _=>aj trivial
 ·refine ai JW λ_ _=>ai JW λ_ _=>ai Ka λ_ _=>ai JW λ_ _=>ai Ka λ_ _=>aj trivial
 exact Bz
def G4 (hm:bL m):Ev (λi=>tF (m i) c) MP di:=by
 unfold tF rG;exact ai JW λ_ _=>aj .leaf
def RP:sX->Prop:=λp=>∃ v:Int,p=⟨188,[.sc (.int .i64 v)]⟩
def ahq {α:Type} {K:Nat->L->aI α} {Q:α->Prop}:Ev (λi=>ag (eP a p) (K i)) Q RP:=by
 unfold eP;exact Ev.ry ⟨a,rfl⟩
structure RI (s:ByS) (p:L):Prop where
 cP:p.cP=s
 Mh:0<=p.bO
 NU:p.bO<=s.length
def lr (h:RI s p):Ev (λ_=>dt p) (λr=>r.2=p/\(r.1≠0->p.bO<s.length)) di:=by
 have h0:=h.Mh;have ht:=h.cP;unfold dt ji;rw[ht]
 (repeat' (with_reducible first|intro _|refine aH ?_|refine W ?_|apply aY|apply aG|apply dK|(apply cT;try dsimp only)))
 ·exact aj ⟨rfl,λ_=>by omega⟩
 exact aj ⟨rfl,λh=>ao rfl h⟩
def Ln:Ev (λ_=>s7 c) (λr=>r.2=true->c≠0) di:=by
 unfold s7;refine bz (λv=>v=true->c≠0) (λv hv=>?_) (λj hj=>?_)
 ·refine aw (λh=>aj λ_=>hv h) (λ_=>?_);refine bz (λv=>v=true->c≠0) (λv hv=>?_) (λj hj=>?_)
  ·refine aw (λh=>aj λ_=>hv h) (λ_=>?_)
   (repeat' (with_reducible first|intro _|refine aH ?_|refine W ?_|apply aY|apply aG|apply dK|(apply cT;try dsimp only)))
   ·exact aj λ_=>by omega
   all_goals exact M9
  exact ah4
 exact ah4
def Aq (hm:bL m) (hs:s.length<=70000) (h:RI s p) (iy:p.bO<s.length) :
  Ev (λi=>jq (m i) c p) (λr=>RI s r.2/\p.bO<r.2.bO) RP:=by
 have h0:=h.Mh
 unfold jq nA
 refine bN hm (λ(x:L×Int×Int)=>RI s x.1/\x.1.bO<s.length/\p.bO<=x.1.bO/\0<=x.2.2/\x.2.2<=2) (λx=>(2 - x.2.2).toNat) ⟨h,iy,bn,bn,bn⟩ ?_
 rintro x ⟨h1,h2,h3,h4,h5⟩ next hn
 have h6:=h1.Mh
 refine aR (λhi=>?_) (λhi=>?_)
 ·refine aH (aH ?_)
  have hR:RI s (L.mk x.1.cP (x.1.bO+1)):=⟨h1.cP,eX,eX⟩
  refine dA Vh λy hy=>?_
  refine dA Ln λd hd=>?_
  refine aH ?_
  refine bz (λv=>v=false->d.2=true) (λv hv=>?_) (λj hj=>?_)
  ·refine aw FU (λhf=>?_)
   have:=hy.2 (hd (hv hf))
   rw[hy.1]
   refine aH (hn _ ⟨hR,this,?_,?_,?_⟩ ?_)
   all_goals (dsimp only at *;omega)
  ·refine cZ (λ_=>hj _ bn) (λHg=>?_)
   (repeat' (with_reducible first|intro _|refine aH ?_|refine W ?_|apply aY|apply aG|apply dK|(apply cT;try dsimp only)))
   all_goals exact hj _ (λ_=>Hg)
 ·refine aH (aj ⟨⟨h1.cP,?_,?_⟩,?_⟩)
  all_goals (dsimp only;omega)
def vW (hm:bL m) (hs:s.length<=70000) (h:RI s p) (iy:p.bO<s.length) :
  Ev (λi=>ia (m i) c p) (λr=>RI s r.2/\p.bO<r.2.bO) RP:=by
 have h0:=h.Mh
 unfold ia ji nA
 rw[h.cP]
 refine aH ?_
 have hR:RI s (L.mk s (p.bO+1)):=IF
 refine dA Vh λy hy=>?_
 rw[hy.1];dsimp only
 refine bz (λv=>v.1=(L.mk s (p.bO+1))/\p.bO+1<s.length) (λv hv=>?_) (λj hj=>?_)
 ·refine bz (λv=>v=(L.mk s (p.bO+1))) (λv2 hv2=>?_) (λj hj=>?_)
  ·subst hv2
   refine aH (aj ⟨⟨rfl,?_,?_⟩,?_⟩)
   all_goals (dsimp only;omega)
  ·exact aR FU (λ_=>hj _ hv.1)
 ·refine aR FU (λLo=>?_)
  have hlt3:p.bO+1<s.length:=by omega
  (repeat' (with_reducible first|intro _|refine aH ?_|refine W ?_|apply aY|apply aG|apply dK|(apply cT;try dsimp only)))
  ·refine (ai (Aq hm hs hR eX) λz hz=>aj ⟨hz.1,?_⟩)
   have:=hz.2;dsimp only at *;omega
  ·exact hj _ ⟨rfl,hlt3⟩
  ·exact hj _ ⟨rfl,hlt3⟩
  ·exact hj _ ⟨rfl,hlt3⟩
  ·refine dA (Q:=λ_=>True) Bz λz _=>?_
   exact aR FU (λ_=>hj _ ⟨rfl,hlt3⟩)
def yI (hm:bL m) (hs:s.length<=70000) (h:RI s p) :
  Ev (λi=>iq (m i) c p) (λr=>RI s r.2/\p.bO<r.2.bO) RP:=by
 have h0:=h.Mh
 have h1:=h.NU
 unfold iq ji nA
 refine dA (lr h) λy hy=>?_
 rw[hy.1]
 refine bz (λv=>v=p/\p.bO<s.length) (λv hv=>?_) (λj hj=>?_)
 ·rw[hv.1]
  refine aH (aj ⟨⟨h.cP,?_,?_⟩,?_⟩)
  all_goals (dsimp only;omega)
 ·rw[h.cP]
  refine aR FU (λLo=>?_)
  have iy:p.bO<s.length:=by omega
  refine b8 (λ_=>?_) (λ_=>?_)
  ·exact ai (vW hm hs h iy) λz hz=>aj hz
  ·refine bz (λ_=>True) (λv _=>?_) (λj2 x9=>?_)
   ·exact aw FU (λ_=>hj _ ⟨rfl,iy⟩)
   ·(repeat' (with_reducible first|intro _|refine aH ?_|refine W ?_|apply aY|apply aG|apply dK|(apply cT;try dsimp only)))
    ·exact x9 _ trivial
    ·exact x9 _ trivial
    ·exact x9 _ trivial
    ·exact acG
def FT (hm:bL m) (hs:s.length<=70000) (h:RI s p) (iy:p.bO<s.length) :
  Ev (λi=>sJ (m i) p) (λr=>RI s r.2/\p.bO<r.2.bO/\MP r.1) RP:=by
 have h0:=h.Mh
 unfold sJ ji rK rG nA
 refine aH ?_
 have hR:RI s (L.mk p.cP (p.bO+1)):=⟨h.cP,eX,eX⟩
 refine dA Vh λy hy=>?_
 rw[hy.1];dsimp only
 have Lp:=hy.2;dsimp only at Lp
 refine bz (λv=>RI s v/\p.bO<v.bO) (λv hv=>?_) (λj hj=>?_)
 ·refine bz (λw=>RI s w.1/\p.bO<w.1.bO/\(w.2=true->w.1.bO<s.length)) (λw hw=>?_) (λj hj=>?_)
  ·have P1:=hw.1.Mh
   have hw1:=hw.1.NU
   refine aw (λhb=>?_) (λ_=>?_)
   ·have:=hw.2.2 hb
    refine aH (aj ⟨⟨hw.1.cP,?_,?_⟩,?_,.leaf⟩)
    all_goals (dsimp only;omega)
   ·refine bN hm (λ(x:L×eT×Bool)=>RI s x.1/\p.bO<x.1.bO) (λx=>(s.length - x.1.bO).toNat) ⟨hw.1,hw.2.1⟩ ?_
    rintro x ⟨HF,ve⟩ next hn
    have hx0:=HF.Mh
    have WI:=HF.NU
    refine bz (λv=>v=x.1) (λv hv=>?_) (λj hj=>?_)
    ·subst hv
     refine ai (yI hm hs HF) λz hz=>?_
     have hz0:=hz.1.Mh
     have hz1:=hz.1.NU
     have Lq:=hz.2
     refine dA (lr hz.1) λz2 Lq=>?_
     rw[Lq.1]
     refine b8 (λhq=>?_) (λ_=>?_)
     ·have:=Lq.2 aB
      have Mw:RI s (L.mk z.2.cP (z.2.bO+1)):=⟨hz.1.cP,eX,eX⟩
      refine aH (ai (yI hm hs Mw) λz3 hz3=>?_)
      have hz4:=hz3.1.NU
      have hz5:=hz3.2;dsimp only at hz5
      refine dA JW λ_ _=>dA Ka λ_ _=>hn _ ⟨hz3.1,?_⟩ ?_
      all_goals (dsimp only;omega)
     ·refine dA JW λ_ _=>dA Ka λ_ _=>hn _ ⟨hz.1,?_⟩ ?_
      all_goals (dsimp only;omega)
    ·refine aw (λ_=>hj _ rfl) (λ_=>?_)
     refine dA Qy λz2 Lq=>?_
     rw[Lq.1]
     refine jI (λ_=>hj _ rfl) (λhq=>?_)
     have:=Lq.2 aB
     refine aH ?_
     (repeat' (with_reducible first|intro _|refine aH ?_|refine W ?_|apply aY|apply aG|apply dK|(apply cT;try dsimp only)))
     ·refine dA (Ll hm) λ_ _=>aj ⟨⟨HF.cP,?_,?_⟩,?_,.leaf⟩
      all_goals (dsimp only;omega)
     ·refine aj ⟨⟨HF.cP,?_,?_⟩,?_,.leaf⟩
      all_goals (dsimp only;omega)
  ·refine cZ (λ_=>?_) (λ_=>hj _ ⟨hv.1,hv.2,bn⟩)
   refine dA (lr hv.1) λz2 Lq=>?_
   rw[Lq.1]
   refine hj _ ⟨hv.1,hv.2,λhq=>Lq.2 ?_⟩
   have:=cg.1 hq
   omega
 ·refine b8 (λhq=>?_) (λ_=>hj _ ⟨hR,eX⟩)
  have:=Lp aB
  refine aH (hj _ ⟨⟨h.cP,?_,?_⟩,?_⟩)
  all_goals (dsimp only;omega)
def Mr {l:List bu} (h:l.length<=70000) (hs:∀ x,x∈l->MP x):Ev (λ_=>qT k l) MP di:=by
 unfold qT rK;refine b8 (λ_=>?_) (λ_=>aj (.mk h hs));exact W λx hx=>aj (hs x (aQ hx))
structure RG (s:ByS) (k:Nat):Prop where
 alt:∀ {m:Nat->Nat} {p:L},bL m->RI s p->8*(s.length - p.bO).toNat+6<k->Ev (λi=>ep (m i) p) (λr=>RI s r.2/\p.bO<r.2.bO/\MP r.1) RP
 Ï:∀ {m:Nat->Nat} {p:L},bL m->RI s p->8*(s.length - p.bO).toNat+5<k->Ev (λi=>eH (m i) p) (λr=>RI s r.2/\p.bO<r.2.bO/\MP r.1) RP
 Sd:∀ {m:Nat->Nat} {p:L} {l:List bu},bL m->RI s p->8*(s.length - p.bO).toNat+4<k->l.length<=70000->(∀ x,x∈l->MP x)->
  Ev (λi=>dV (m i) l p) (λr=>RI s r.2/\p.bO<r.2.bO/\r.1.length=l.length+1/\∀ x,x∈r.1->MP x) RP
 piece:∀ {m:Nat->Nat} {p:L},bL m->RI s p->8*(s.length - p.bO).toNat+3<k->Ev (λi=>js (m i) p) (λr=>RI s r.2/\p.bO<r.2.bO/\MP r.1) RP
 atom:∀ {m:Nat->Nat} {p:L},bL m->RI s p->8*(s.length - p.bO).toNat+2<k->Ev (λi=>jR (m i) p) (λr=>RI s r.2/\p.bO<r.2.bO/\MP r.1) RP
 group:∀ {m:Nat->Nat} {p:L},bL m->RI s p->p.bO<s.length->8*(s.length - p.bO).toNat+1<k->Ev (λi=>jr (m i) p) (λr=>RI s r.2/\p.bO<r.2.bO/\MP r.1) RP
def af0 (hs:s.length<=60000):∀ k,RG s k:=by
 intro k
 induction k with
 | zero=>exact ⟨λ_ _ h=>ao h GL,λ_ _ h=>ao h GL,λ_ _ h=>ao h GL,λ_ _ h=>ao h GL,λ_ _ h=>ao h GL,λ_ _ _ h=>ao h GL⟩
 | succ k ih=>
  refine ⟨?_,?_,?_,?_,?_,?_⟩
  ·intro m p hm h hk;have h0:=h.Mh;refine bX (F:=λn=>ep n p) hm λm hm=>?_;show Ev (λi=>gW (m i) (bI (m i)) p) _ _;unfold gW oj jk nA;refine ai (ih.Ï hm h aB) λy hy=>?_;refine bN hm (λ(x:L×List bu)=>RI s x.1/\p.bO<x.1.bO/\x.2.length<=x.1.bO/\∀ z,z∈x.2->MP z) (λx=>(s.length - x.1.bO).toNat) ⟨hy.1,hy.2.1,qI,by simpa using hy.2.2⟩ ?_;rintro x ⟨HF,ve,WI,hx4⟩ next hn;have T3:=HF.NU;refine dA Qy λz hz=>?_;rw[hz.1];refine b8 (λhq=>?_) (λ_=>?_)
   ·have:=hz.2 aB;have hR:RI s (L.mk x.1.cP (x.1.bO+1)):=⟨HF.cP,eX,eX⟩;refine aH (ai (ih.Ï hm hR eX) λw hw=>?_);have hw1:=hw.2.1;dsimp only at hw1;have GA:=hw.1.NU;refine aH (hn _ ⟨hw.1,eX,qI,λz hz=>?_⟩ eX);obtain q|q:=bH.1 hz
    ·exact hx4 z q
    simp at q;subst q;exact hw.2.2
   exact Ű
  ·intro m p hm h hk;have h0:=h.Mh;refine bX (F:=λn=>eH n p) hm λm hm=>?_;show Ev (λi=>gI (m i) (bI (m i)) p) _ _;unfold gI ji oj;refine ai (ih.Sd (l:=[]) hm h aB bn bn) λy hy=>?_;have hy3:=hy.2.2.1;refine bN hm (λ(x:L×List bu)=>RI s x.1/\p.bO<x.1.bO/\x.2.length<=x.1.bO/\∀ z,z∈x.2->MP z) (λx=>(s.length - x.1.bO).toNat) ⟨hy.1,hy.2.1,by simp at hy3;dsimp only;omega,hy.2.2.2⟩ ?_;rintro x ⟨HF,ve,WI,hx4⟩ next hn;have T3:=HF.NU;refine aR (λiy=>?_) (λ_=>?_)
   ·refine dA Qy λz hz=>?_;rw[hz.1];refine jI (λ_=>?_) (λ_=>?_)
    ·refine dA Qy λz hz=>?_;rw[hz.1];refine jI (λ_=>?_) (λ_=>?_)
     ·rw[HF.cP] at iy;refine ai (ih.Sd hm HF aB aB hx4) λw hw=>?_;have hw1:=hw.2.1;have GA:=hw.1.NU;have hw3:=hw.2.2.1;exact hn _ ⟨hw.1,eX,eX,hw.2.2.2⟩ eX
     exact Ű
    exact Ű
   exact Ű
  ·intro m p l hm h hk hl hls;refine bX (F:=λn=>dV n l p) hm λm hm=>?_;show Ev (λi=>fV (m i) (bI (m i)) l p) _ _;unfold fV YV jk rK;refine ai (ih.piece hm h aB) λy hy=>?_;refine aH (aj ⟨hy.1,hy.2.1,bn,λz hz=>?_⟩);obtain q|q:=bH.1 hz
   ·exact hls z q
   simp at q;subst q;exact hy.2.2
  ·intro m p hm h hk;refine bX (F:=λn=>js n p) hm λm hm=>?_;show Ev (λi=>lA (m i) (bI (m i)) p) _ _;unfold lA rK nA;refine ai (ih.atom hm h aB) λy hy=>?_;refine bN hm (λ(x:L×bu)=>RI s x.1/\p.bO<x.1.bO/\MP x.2) (λx=>(s.length - x.1.bO).toNat) ⟨hy.1,hy.2.1,hy.2.2⟩ ?_;rintro x ⟨HF,ve,WI⟩ next hn;have hx0:=HF.Mh;have T3:=HF.NU;refine bz (λv=>v.1=x.1/\x.1.bO<s.length/\MP v.2) (λv hv=>?_) (λj hj=>?_)
   ·rw[hv.1];have:=hv.2.1;refine aH (hn _ ⟨⟨HF.cP,?_,?_⟩,?_,hv.2.2⟩ ?_);all_goals (dsimp only;omega)
   refine dA Qy λz hz=>?_;rw[hz.1];have Tb:MP (bu.mk 5 0 0 0 0 [x.2]):=.mk bn (by simpa using WI);refine b8 (λhq=>hj _ ⟨rfl,hz.2 aB,Tb⟩) (λ_=>?_);refine b8 (λhq=>hj _ ⟨rfl,hz.2 aB,.mk bn ?_⟩) (λ_=>?_)
   ·intro w hw;simp at hw;obtain rfl|rfl:=hw
    ·exact WI
    exact Tb
   refine b8 (λhq=>hj _ ⟨rfl,hz.2 aB,.mk bn ?_⟩) (λ_=>aj ⟨HF,ve,WI⟩);intro w hw;simp at hw;obtain rfl|rfl:=hw
   ·exact WI
   exact .leaf
  ·intro m p hm h hk;have h0:=h.Mh;have h1:=h.NU;refine bX (F:=λn=>jR n p) hm λm hm=>?_;show Ev (λi=>mi (m i) (bI (m i)) p) _ _;unfold mi vi ji rG nA;refine dA (lr h) λy hy=>?_;rw[hy.1];refine bz (λv=>v=p/\p.bO<s.length) (λv hv=>?_) (λj hj=>?_)
   ·rw[hv.1];refine aH (dA (G4 hm) λz hz=>aj ⟨⟨h.cP,?_,?_⟩,?_,hz⟩);all_goals (dsimp only;omega)
   rw[h.cP];refine aR FU (λLo=>?_);have iy:p.bO<s.length:=by omega
   refine b8 (λ_=>?_) (λ_=>?_)
   ·exact ai (ih.group hm h iy aB) λz hz=>aj hz
   refine b8 (λ_=>?_) (λ_=>?_)
   ·exact ai (FT hm aB h iy) λz hz=>aj hz
   refine b8 (λ_=>?_) (λ_=>?_)
   ·refine aH (dA JW λz _=>aj ⟨⟨rfl,?_,?_⟩,?_,.leaf⟩);all_goals (dsimp only;omega)
   refine b8 (λ_=>?_) (λ_=>?_)
   ·refine aH (aR (λ_=>?_) (λ_=>?_))
    ·refine aH (W (λb _=>?_));refine dA (Lm hm) λz _=>?_;refine aw (λ_=>?_) (λ_=>?_)
     ·refine aH (aj ⟨⟨rfl,?_,?_⟩,?_,.leaf⟩);all_goals (dsimp only;omega)
     exact aiu
    exact aiu
   refine bz (λ_=>True) (λv _=>?_) (λj2 x9=>?_)
   ·exact aw FU (λ_=>hj _ ⟨rfl,iy⟩)
   (repeat' (with_reducible first|intro _|refine aH ?_|refine W ?_|apply aY|apply aG|apply dK|(apply cT;try dsimp only)))
   ·exact x9 _ trivial
   ·exact x9 _ trivial
   exact acG
  ·intro m p hm h iy hk;have h0:=h.Mh;refine bX (F:=λn=>jr n p) hm λm hm=>?_;show Ev (λi=>ly (m i) (bI (m i)) p) _ _;unfold ly rK nA;refine aH ?_;have hR:RI s (L.mk p.cP (p.bO+1)):=⟨h.cP,eX,eX⟩;refine dA Vh λy hy=>?_;rw[hy.1];dsimp only;have Lp:=hy.2;dsimp only at Lp;refine b8 (λhq=>?_) (λ_=>?_)
   ·have:=Lp aB;refine aH (aj ⟨⟨h.cP,?_,?_⟩,?_,.leaf⟩);all_goals (dsimp only;omega)
   refine ai (ih.alt hm hR eX) λz hz=>?_;have hz0:=hz.1.Mh;have hz1:=hz.2.1;dsimp only at hz1;refine bz (λv=>v=z.2/\z.2.bO<s.length) (λv hv=>?_) (λj hj=>?_)
   ·rw[hv.1];refine aH (aj ⟨⟨hz.1.cP,?_,?_⟩,?_,hz.2.2⟩);all_goals (dsimp only;omega)
   refine dA (lr hz.1) λw hw=>?_;rw[hw.1];exact jI FU (λhq=>hj _ ⟨rfl,hw.2 aB⟩)
def Lr:∀ (d:Nat) {m:Nat->Nat} {r:bu} {l:Int},bL m->MP r->0<=l->(17 - l).toNat<=d->Ev (λi=>nq (m i) r l) (λ_=>True) di:=by
 intro d
 induction d with
 | zero=>
  intro m r l hm _ h0 hd
  refine bX (F:=λn=>nq n r l) hm λm hm=>?_
  show Ev (λi=>oX (m i) (oP (m i)) r l) _ _
  unfold oX
  exact aR qn GV
 | succ d ih=>
  intro m r l hm hr h0 hd
  refine bX (F:=λn=>nq n r l) hm λm hm=>?_
  show Ev (λi=>oX (m i) (oP (m i)) r l) _ _
  unfold oX
  cases hr with
  | @mk k a b c d' xo hl hs=>
   refine aR qn (λ_=>?_)
   refine bz (λ_=>True) (λv _=>?_) (λj hj=>?_)
   ·refine bz (λ_=>True) (λv _=>?_) (λj hj=>?_)
    ·refine bN hm (λ(x:Int)=>0<=x/\x<=xo.length) (λx=>(xo.length - x).toNat) aB ?_;intro x hx next hn;show Ev (λi=>aI.br (decide (x<(xo.length:Int))) (aI.el xo x _) _) _ _;refine aR (λh=>?_) qn;refine W (λz hz=>?_);refine aH (ai (ih hm (hs z (aQ hz)) aB aB) λw _=>?_)
     (repeat' (with_reducible first|intro _|refine aH ?_|refine W ?_|apply aY|apply aG|apply dK|(apply cT;try dsimp only)))
     ·exact Bz
     exact hn _ aB aB
    exact ah3
   ·exact ah3
def xa (hm:bL m):Ev (λi=>pa (m i) s) (λ_=>True) di:=by
 unfold pa;refine aR qn (λ_=>?_);refine Ev.Β (R':=RP) ?_ ?_
 ·refine ai ((af0 (s:=s) aB (8*(s.length - 0:Int).toNat+7)).alt hm ⟨rfl,bn,bn⟩ bn) λy hy=>?_;refine bz (λ_=>True) (λv _=>?_) (λj hj=>?_)
  ·unfold yl;refine dA (rL (Lr 17 hm hy.2.2 aB bn) (λ_ q=>q) λz _=>aj trivial) λz (_:True)=>?_;exact yC4
  exact aR FU (λ_=>hj _ trivial)
 rintro p ⟨v,rfl⟩;refine Ev.Ih ?_;unfold rY;exact Bz
end
structure PC (s:ByS) (T:List aC) (b:Int):Prop where
 oh:afZ s T
 b0:0<=b
 bs:b+s.length<=65536
def PP (c:Int):sX->Prop:=λp=>∃ v:Int,p=⟨71,[.sc (.int .i64 v)]⟩/\0<=v/\v<=c
abbrev H:=D.mk
section
variable {s:ByS} {T:List aC}
def PC.len (h:PC s T b):(T.length:Int)<=s.length+1:=by
 obtain ⟨l,rfl,h1⟩:=h.oh.is;have:=h1.len;simp;omega
def PC.pos (h:PC s T b):1<=T.length:=by
 obtain ⟨l,rfl,h1⟩:=h.oh.is;simp
def PC.oF (h:PC s T b):(T.length:Int)<=65537:=by
 have:=h.len;have:=h.bs;have:=h.b0;omega
variable {i:Nat}
def PC.tok (h:PC s T b) (ht:T[i]?=some t):0<=t.cN/\t.cN<=t.pO/\t.pO<=s.length/\t.bM.length<=65536/\(t.aq=4->(t.bM.length:Int)+2<=t.pO - t.cN)/\(t.aq≠0->i+1<T.length/\t.cN<t.pO):=by
 obtain ⟨l,rfl,h1⟩:=h.oh.is;obtain q|q:=fN i l.length
 ·rw[fR q] at ht;have:=h1.ok t (aQ ht);exact ⟨this.p0,by have:=this.pe;omega,this.e,this.tl,this.ip,λ_=>⟨qI,this.pe⟩⟩
 rw[gH q] at ht;have hi:i - l.length=0:=by
  have:=(an.1 ht).1;simp at this;omega
 rw[hi] at ht;simp at ht;subst ht;exact ⟨by simp,by simp,by simp,by simp,λq=>by simp at q,λq=>ao rfl q⟩
def PC.next (h:PC s T b) {a:Int} (h0:0<=a) (ht:T[a.toNat]?=some t) (hk:t.aq≠0):a+1<T.length:=by
 have:=((h.tok ht).2.2.2.2.2 hk).1;omega
def PC.sorted (h:PC s T b) {j:Nat} (hij:i<j) {u:aC} (ht:T[i]?=some t) (hu:T[j]?=some u):t.pO<=u.cN:=by
 obtain ⟨l,rfl,h1⟩:=h.oh.is;have hj:=(an.1 hu).1;simp at hj;have hi:i<l.length:=by omega
 rw[fR hi] at ht;obtain q|q:=fN j l.length
 ·rw[fR q] at hu;obtain ⟨hi',e1⟩:=an.1 ht;obtain ⟨zT,e2⟩:=an.1 hu;rw[<- e1,<- e2];exact List.pairwise_iff_getElem.1 h1.sorted i j hi' zT hij
 rw[gH q] at hu;have hi:j - l.length=0:=by omega
 rw[hi] at hu;simp at hu;subst hu;exact (h1.ok t (aQ ht)).e
end
section
variable {s:ByS} {T:List aC} {Q:α->Prop} {R:sX->Prop} {m:Nat->Nat}
variable {K:Nat->D->aI α}
def sU {K:Nat->Bool->aI α} (hk:∀ r,(r=true->t.aq=5/\t.bM=x)->(r=false->¬ (t.aq=5/\t.bM=x))->Ev (λi=>K i r) Q R):Ev (λi=>ag (ez t x) (K i)) Q R:=by
 refine rL (Q:=λr=>(r=true->t.aq=5/\t.bM=x)/\(r=false->¬ (t.aq=5/\t.bM=x))) (R':=di) ?_ (λ_ q=>q.elim) λr hr=>hk r hr.1 hr.2;unfold ez;refine b8 acZ (λh=>aj ⟨λq=>by simp at q,λ_ w=>h w.1⟩)
def Ar {K:Nat->Bool->aI α} (hk:∀ r,(r=true->t.aq=1/\t.bM=x)->(r=false->¬ (t.aq=1/\t.bM=x))->Ev (λi=>K i r) Q R):Ev (λi=>ag (kK t x) (K i)) Q R:=by
 refine rL (Q:=λr=>(r=true->t.aq=1/\t.bM=x)/\(r=false->¬ (t.aq=1/\t.bM=x))) (R':=di) ?_ (λ_ q=>q.elim) λr hr=>hk r hr.1 hr.2;unfold kK;refine b8 acZ (λh=>aj ⟨λq=>by simp at q,λ_ w=>h w.1⟩)
def Hu (hm:bL m) (hx:x.length<=60000) {K:Nat->Bool->aI α} (hk:∀ r,(r=true->t.aq=5)->Ev (λi=>K i r) Q R):Ev (λi=>ag (nZ (m i) t x) (K i)) Q R:=by
 refine rL (Q:=λr=>r=true->t.aq=5) (R':=di) ?_ (λ_ q=>q.elim) λr hr=>hk r hr;unfold nZ vi;refine b8 (λh=>?_) (λ_=>aj bn);refine ai (Lk bn aB) λy hy=>ai (rF hm aB) λz _=>aj λ_=>h
def Ls (hm:bL m) {K:Nat->Bool->aI α} (hk:∀ r,(r=true->t.aq=3\/t.aq=1)->Ev (λi=>K i r) Q R):Ev (λi=>ag (o9 (m i) t) (K i)) Q R:=by
 refine rL (Q:=λr=>r=true->t.aq=3\/t.aq=1) (R':=di) ?_ (λ_ q=>q.elim) λr hr=>hk r hr;unfold o9;refine b8 (λh=>aj λ_=>.inl h) (λ_=>b8 (λh=>?_) (λ_=>aj bn));exact ai Mn λz _=>aj λ_=>.inr h
def MQ (hm:bL m) (hC:PC s T b) (h0:0<=a) (h1:a<T.length) :
  Ev (λi=>bq (m i) (H s T a b k q)) (λr=>∃ a' t,r=(t,H s T a' b k q)/\a<=a'/\a'<T.length/\T[a'.toNat]?=some t/\(k=true->t.aq≠7)/\∀ u,T[a.toNat]?=some u->(k=true->u.aq≠7)->a'=a) di:=by
 unfold bq ji pB pM
 have hl:=hC.oF
 refine bz (λv=>∃ a',v=H s T a' b k q/\a<=a'/\a'<T.length/\(k=true->∀ t,T[a'.toNat]?=some t->t.aq≠7)/\∀ u,T[a.toNat]?=some u->(k=true->u.aq≠7)->a'=a) (λv hv=>?_) (λj hj=>?_)
 ·obtain ⟨a',rfl,h2,h3,h4,h5⟩:=hv
  exact gm eX eX λt ht=>aj ⟨a',t,rfl,h2,h3,ht,λhk=>h4 hk t ht,h5⟩
 ·refine bN hm (λ(x:D)=>∃ a',x=H s T a' b k q/\a<=a'/\a'<T.length/\∀ u,T[a.toNat]?=some u->(k=true->u.aq≠7)->a'=a) (λx=>(T.length - x.bO).toNat) ⟨a,rfl,aB,h1,λ_ _ _=>rfl⟩ ?_
  rintro x ⟨a',rfl,h2,h3,h5⟩ next hn
  dsimp only
  refine aw (λFc=>?_) (λhk=>hj _ ⟨a',rfl,h2,h3,(λh=>by rw[hk] at h;cases h),h5⟩)
  refine W λt ht=>?_
  refine b8 (λh7=>?_) (λh7=>hj _ ⟨a',rfl,h2,h3,λ_ u hu=>by rw[ht] at hu;cases hu;exact h7,h5⟩)
  have:=hC.next aB ht aB
  refine aH (hn _ ⟨a'+1,rfl,aB,aB,λu hu hk=>?_⟩ eX)
  have:=h5 u hu hk
  subst this
  rw[ht] at hu;cases hu
  exact ao h7 (hk ‹k=true›)
def kl (hm:bL m) (hC:PC s T b) (h0:0<=a) (h1:a<T.length) {K:Nat->aC×D->aI α}
  (hk:∀ a' t,a<=a'->a'<T.length->T[a'.toNat]?=some t->(k=true->t.aq≠7)->(∀ u,T[a.toNat]?=some u->(k=true->u.aq≠7)->a'=a)->Ev (λi=>K i (t,H s T a' b k q)) Q R) :
  Ev (λi=>ag (bq (m i) (H s T a b k q)) (K i)) Q R:=by
 refine dA (MQ hm hC h0 h1) λr hr=>?_
 obtain ⟨a',t,rfl,h⟩:=hr
 exact hk a' t h.1 h.2.1 h.2.2.1 h.2.2.2.1 h.2.2.2.2
def u9 (hm:bL m) (hC:PC s T b) (h0:0<=a) (h1:a<T.length) {K:Nat->Int×D->aI α}
  (hk:∀ a' t v,a<=a'->a'<T.length->T[a'.toNat]?=some t->(∀ u,T[a.toNat]?=some u->(k=true->u.aq≠7)->a'=a)->v=b+t.cN->0<=v->v<=b+s.length->Ev (λi=>K i (v,H s T a' b k q)) Q R) :
  Ev (λi=>ag (dc (m i) (H s T a b k q)) (K i)) Q R:=by
 refine rL (Q:=λr=>∃ a' t v,r=(v,H s T a' b k q)/\a<=a'/\a'<T.length/\T[a'.toNat]?=some t/\(∀ u,T[a.toNat]?=some u->(k=true->u.aq≠7)->a'=a)/\v=b+t.cN/\0<=v/\v<=b+s.length) (R':=di) ?_ (λ_ q=>q.elim) λr hr=>?_
 ·unfold dc ji pB
  refine kl hm hC h0 h1 λa' t h2 h3 h4 h5 h6=>?_
  have:=hC.tok h4
  have:=hC.b0
  have:=hC.bs
  exact aH (aj ⟨a',t,_,rfl,h2,h3,h4,h6,rfl,eX,eX⟩)
 ·obtain ⟨a',t,v,rfl,h2,h3,h4,h5,h6,h7,h8⟩:=hr
  exact hk a' t v h2 h3 h4 h5 h6 h7 h8
def JM {v:Int} {p:D} (h0:0<=v) (h1:v<=c):Ev (λi=>ag (j8 v p) (K i)) Q (PP c):=by
 unfold j8;exact Ev.ry ⟨v,rfl,h0,h1⟩
def tv (hm:bL m) (hC:PC s T b) (h0:0<=a) (h1:a<T.length) (hc:b+s.length<=c):Ev (λi=>ag (ca (m i) (H s T a b k q)) (K i)) Q (PP c):=by
 refine ai (Q:=λ_=>False) ?_ λr hr=>hr.elim;unfold ca;refine u9 hm hC h0 h1 λa' t v _ _ _ _ _ h2 h3=>?_;exact JM h2 aB
def uK (hm:bL m) (hC:PC s T b) (h0:0<=a) (h1:a<T.length) {K:Nat->Bool×D->aI α} (ht:∀ a' t,a<a'->a'<T.length->T[(a' - 1).toNat]?=some t->t.aq=5->t.bM=x->(∀ u,T[a.toNat]?=some u->(k=true->u.aq≠7)->a'=a+1)->Ev (λi=>K i (true,H s T a' b k q)) Q R) (hf:∀ a' t,a<=a'->a'<T.length->T[a'.toNat]?=some t->(k=true->t.aq≠7)->¬ (t.aq=5/\t.bM=x)->(∀ u,T[a.toNat]?=some u->(k=true->u.aq≠7)->a'=a)->Ev (λi=>K i (false,H s T a' b k q)) Q R) :
  Ev (λi=>ag (dq (m i) x (H s T a b k q)) (K i)) Q R:=by
 refine rL (Q:=λr=>(∃ a' t,r=(true,H s T a' b k q)/\a<a'/\a'<T.length/\T[(a' - 1).toNat]?=some t/\t.aq=5/\t.bM=x/\(∀ u,T[a.toNat]?=some u->(k=true->u.aq≠7)->a'=a+1))\/
  (∃ a' t,r=(false,H s T a' b k q)/\a<=a'/\a'<T.length/\T[a'.toNat]?=some t/\(k=true->t.aq≠7)/\¬ (t.aq=5/\t.bM=x)/\(∀ u,T[a.toNat]?=some u->(k=true->u.aq≠7)->a'=a))) (R':=di) ?_ (λ_ q=>q.elim) λr hr=>?_
 ·unfold dq pB pM
  have:=hC.oF
  refine kl hm hC h0 h1 λa' t h2 h3 h4 h5 h6=>?_
  dsimp only
  refine sU λr xp HJ=>?_
  refine cZ (λh=>aj (.inr ⟨a',t,rfl,h2,h3,h4,h5,HJ h,h6⟩)) (λh=>?_)
  obtain ⟨q1,q2⟩:=xp h
  have:=hC.next aB h4 aB
  exact aH (aj (.inl ⟨a'+1,t,rfl,by omega,by omega,by simpa using h4,q1,q2,λu hu hk=>by rw[h6 u hu hk]⟩))
 ·obtain ⟨a',t,rfl,h2,h3,h4,h5,h6,h7⟩|⟨a',t,rfl,h2,h3,h4,h5,h6,h7⟩:=hr
  ·exact ht a' t h2 h3 h4 h5 h6 h7
  ·exact hf a' t h2 h3 h4 h5 h6 h7
def sV (hm:bL m) (hC:PC s T b) (h0:0<=a) (h1:a<T.length) (hc:b+s.length<=c) (ht:∀ a' t,a<a'->a'<T.length->T[(a' - 1).toNat]?=some t->t.aq=5->t.bM=x->(∀ u,T[a.toNat]?=some u->(k=true->u.aq≠7)->a'=a+1)->Ev (λi=>K i (H s T a' b k q)) Q (PP c)) :
  Ev (λi=>ag (cW (m i) x (H s T a b k q)) (K i)) Q (PP c):=by
 refine ai (Q:=λr=>(∃ a' t,r=(H s T a' b k q)/\a<a'/\a'<T.length/\T[(a' - 1).toNat]?=some t/\t.aq=5/\t.bM=x/\(∀ u,T[a.toNat]?=some u->(k=true->u.aq≠7)->a'=a+1))) ?_ λr hr=>?_
 ·unfold cW
  refine uK hm hC h0 h1 (λa' t h2 h3 h4 h5 h6 h7=>aj ⟨a',t,rfl,h2,h3,h4,h5,h6,h7⟩) (λa' t h2 h3 h4 h5 h6 h7=>?_)
  exact tv hm hC aB aB hc
 ·obtain ⟨a',t,rfl,h2,h3,h4,h5,h6,h7⟩:=hr
  exact ht a' t h2 h3 h4 h5 h6 h7
def AL (hm:bL m) (hC:PC s T b) (h0:0<=a) (h1:a<T.length) (hc:b+s.length<=c) (ht:∀ a' t,a<=a'->a'+1<T.length->T[a'.toNat]?=some t->t.aq=5->t.bM=x->Ev (λi=>K i (H s T a' b k q)) Q (PP c)) :
  Ev (λi=>ag (cC (m i) x (H s T a b k q)) (K i)) Q (PP c):=by
 refine ai (Q:=λr=>(∃ a' t,r=(H s T a' b k q)/\a<=a'/\a'+1<T.length/\T[a'.toNat]?=some t/\t.aq=5/\t.bM=x)) ?_ λr hr=>?_
 ·unfold cC pB
  refine kl hm hC h0 h1 λa' t h2 h3 h4 h5 h6=>?_
  dsimp only
  refine sU λr xp HJ=>?_
  refine cZ (λh=>tv hm hC aB aB hc) (λh=>?_)
  obtain ⟨q1,q2⟩:=xp h
  exact aj ⟨a',t,rfl,h2,hC.next aB h4 aB,h4,q1,q2⟩
 ·obtain ⟨a',t,rfl,h⟩:=hr
  exact ht a' t h.1 h.2.1 h.2.2.1 h.2.2.2.1 h.2.2.2.2
def DA (hm:bL m) (hC:PC s T b) (h0:0<=a) (h1:a<T.length) (hc:b+s.length<=c) (ht:∀ a',a<a'->a'<T.length->Ev (λi=>K i (H s T a' b k q)) Q (PP c)):Ev (λi=>ag (ei (m i) x (H s T a b k q)) (K i)) Q (PP c):=by
 refine ai (Q:=λr=>(∃ a',r=(H s T a' b k q)/\a<a'/\a'<T.length)) ?_ λr hr=>?_
 ·unfold ei pB pM;have:=hC.oF;refine kl hm hC h0 h1 λa' t h2 h3 h4 h5 h6=>?_;dsimp only;refine Ar λr xp HJ=>?_;refine cZ (λh=>tv hm hC aB aB hc) (λh=>?_);obtain ⟨q1,q2⟩:=xp h;have:=hC.next aB h4 aB;exact aH (aj ⟨a'+1,rfl,by omega,by omega⟩)
 obtain ⟨a',rfl,h⟩:=hr;exact ht a' h.1 h.2
def Fq (hm:bL m) (hC:PC s T b) (h0:0<=a) (h1:a<T.length) (hc:b+s.length<=c) {K:Nat->ByS×D->aI α} (ht:∀ a' x,a<a'->a'<T.length->Ev (λi=>K i (x,H s T a' b k q)) Q (PP c)):Ev (λi=>ag (fw (m i) (H s T a b k q)) (K i)) Q (PP c):=by
 refine ai (Q:=λr=>(∃ a' x,r=(x,H s T a' b k q)/\a<a'/\a'<T.length)) ?_ λr hr=>?_
 ·unfold fw pB pM;have:=hC.oF;refine kl hm hC h0 h1 λa' t h2 h3 h4 h5 h6=>?_;dsimp only;refine bz (λv=>v=H s T a' b k q/\t.aq=1) (λv hv=>?_) (λj hj=>?_)
  ·obtain ⟨rfl,h7⟩:=hv;have:=hC.next aB h4 aB;exact aH (aj ⟨a'+1,_,rfl,by omega,by omega⟩)
  refine jI (λ_=>tv hm hC aB aB hc) (λh1=>?_);refine dA Mn λz _=>?_;exact cZ (λ_=>tv hm hC aB aB hc) (λ_=>hj _ ⟨rfl,h1⟩)
 obtain ⟨a',x,rfl,h⟩:=hr;exact ht a' x h.1 h.2
def Se (hm:bL m) (hC:PC s T b) (h0:0<=a) (h1:a<T.length) (hc:b+s.length<=c) {K:Nat->mz×D->aI α} (ht:∀ a' x,a<a'->a'<T.length->Ev (λi=>K i (x,H s T a' b k q)) Q (PP c)):Ev (λi=>ag (kL (m i) (H s T a b k q)) (K i)) Q (PP c):=by
 refine ai (Q:=λr=>(∃ a' x,r=(x,H s T a' b k q)/\a<a'/\a'<T.length)) ?_ λr hr=>?_
 ·unfold kL;refine Fq hm hC h0 h1 hc λa1 x1 h2 h3=>sV hm hC aB aB hc λa2 t h4 h5 _ _ _ _=>u9 hm hC aB aB λa3 t3 v h6 h7 _ _ _ h8 h9=>Fq hm hC aB aB hc λa4 x4 xd IW=>?_;exact b8 (λ_=>JM h8 aB) (λ_=>aj ⟨a4,_,rfl,by omega,by omega⟩)
 obtain ⟨a',x,rfl,h⟩:=hr;exact ht a' x h.1 h.2
def xV {n:Int} (hC:PC s T b) (h0:0<=a) (h1:a<T.length) (hn:0<=n) (Jg:n<=70000) {K:Nat->aC×D->aI α}
  (hk:∀ t,(t.aq≠0->T[(a+n).toNat]?=some t/\a+n+1<T.length)->Ev (λi=>K i (t,H s T a b k q)) Q R):Ev (λi=>ag (c8 n (H s T a b k q)) (K i)) Q R:=by
 refine rL (Q:=λr=>∃ t,r=(t,H s T a b k q)/\(t.aq≠0->T[(a+n).toNat]?=some t/\a+n+1<T.length)) (R':=di) ?_ (λ_ q=>q.elim) λr hr=>?_
 ·unfold c8 ji
  have:=hC.oF
  dsimp only
  refine aH (aH (gm U9 U9 λt ht=>aj ⟨t,rfl,λhk=>?_⟩))
  have h2:=((hC.tok ht).2.2.2.2.2 hk).1
  have:¬ ((T.length:Int) - 1<a+n):=λh=>by rw[aL h] at h2;omega
  rw[aE this] at ht h2
  exact ⟨ht,by omega⟩
 ·obtain ⟨t,rfl,h⟩:=hr
  exact hk t h
def DY (hm:bL m) (hC:PC s T b) (h0:0<=a) (h1:a<T.length):Ev (λi=>iK (m i) (H s T a b k q)) (λr=>r.2=H s T a b k q) di:=by
 have hl:=hC.oF;unfold iK ji;dsimp only;refine aH ?_;refine bN hm (λ(x:Int)=>-1<=x/\x<a) (λx=>(x+1).toNat) aB ?_;intro x hx next hn;refine aR (λh=>?_) Vr;refine W λt ht=>?_;refine jI (λ_=>?_) Vt;refine g aB ht (W λu hu=>?_);exact ah0
def Ir (hm:bL m) (hC:PC s T b) (h0:0<=a) (h1:a<T.length) {e:Int} (he:1<=e) (S6:e<=a):Ev (λi=>iV (m i) e (H s T a b k q)) (λr=>r.2=H s T a b k q) di:=by
 have hl:=hC.oF;unfold iV ji;dsimp only;refine bN hm (λ(x:Int)=>e<=x/\x<=a) (λx=>(a - x).toNat) aB ?_;intro x hx next hn;refine aR (λh=>?_) (λ_=>?_)
 ·refine W λt ht=>sU λr _ _=>cZ Vr (λ_=>?_);exact Kh
 refine aH (W λt ht=>W λu hu=>?_);exact ah0
def abr (hm:bL m) (hC:PC s T b) (h0:0<=a) (h1:a<T.length) {K:Nat->Bool×D->aI α}
  (hk:∀ a' t r,a<=a'->a'<T.length->T[a'.toNat]?=some t->(r=false->t.aq≠0)->(k=true->t.aq≠7)->Ev (λi=>K i (r,H s T a' b k q)) Q R):Ev (λi=>ag (lB (m i) (H s T a b k q)) (K i)) Q R:=by
 refine rL (Q:=λr=>∃ a' t x,r=(x,H s T a' b k q)/\a<=a'/\a'<T.length/\T[a'.toNat]?=some t/\(x=false->t.aq≠0)/\(k=true->t.aq≠7)) (R':=di) ?_ (λ_ q=>q.elim) λr hr=>?_
 ·unfold lB pB
  refine kl hm hC h0 h1 λa1 t1 h2 h3 h4 h5 _=>?_
  dsimp only
  refine b8 (λ_=>aj ⟨a1,t1,_,rfl,h2,h3,h4,bn,h5⟩) (λuB=>?_)
  refine kl hm hC aB h3 λa2 t2 h6 h7 h8 h9 xd=>sU λr _ _=>aj ⟨a2,t2,r,rfl,aB,aB,h8,λ_=>?_,h9⟩
  have:=xd t1 h4 h5
  subst this
  rw[h4] at h8;cases h8;exact uB
 ·obtain ⟨a',t,x,rfl,h⟩:=hr
  exact hk a' t x h.1 h.2.1 h.2.2.1 h.2.2.2.1 h.2.2.2.2
end
section
mutual
inductive jd:ak->Prop where
 | mk {k:Int} {t:ByS} {n:Int} {a b:ByS} {xo:List ak} {decls:List aK} {tail:List ByS} {pos:Int} (h1:xo.length<=70000) (h2:decls.length<=70000) (h3:tail.length<=70000)
  (h4:∀ x,x∈tail->x.length<=65536) (h5:k=16->2<=xo.length) (hs:∀ x,x∈xo->jd x) (hd:∀ x,x∈decls->V x):jd (ak.mk k t n a b xo decls tail pos)
inductive V:aK->Prop where
 | mk {k p:Int} {lb a b:ByS} {xo:List ak} {body:List aK} {tail lead:List ByS} {trail:ByS} {pos:Int} (h1:xo.length<=70000) (h2:body.length<=70000) (h3:tail.length<=70000)
  (h4:∀ x,x∈tail->x.length<=65536) (h5:lead.length<=70000) (h6:∀ x,x∈lead->x.length<=65536) (h7:trail.length<=65536) (h8:k=1\/k=2\/k=3->1<=xo.length)
  (hs:∀ x,x∈xo->jd x) (hd:∀ x,x∈body->V x):V (aK.mk k p lb a b xo body tail lead trail pos)
end
def jd.l1 {e:ak} (h:jd e):e.bK.length<=70000:=by cases h;assumption
def jd.l2 {e:ak} (h:jd e):e.fi.length<=70000:=by cases h;assumption
def jd.l3 {e:ak} (h:jd e):e.J.length<=70000:=by cases h;assumption
def jd.l4 {e:ak} (h:jd e):∀ x,x∈e.J->x.length<=65536:=by cases h;assumption
def jd.kd {e:ak} (h:jd e):e.aq=16->2<=e.bK.length:=by cases h;assumption
def jd.s {e:ak} (h:jd e):∀ x,x∈e.bK->jd x:=by cases h;assumption
def jd.d {e:ak} (h:jd e):∀ x,x∈e.fi->V x:=by cases h;assumption
variable {e:aK} {k:Int} {t:ByS} {a b:ByS} {pos:Int}
def V.l1 (h:V e):e.bK.length<=70000:=by cases h;assumption
def V.l2 (h:V e):e.lZ.length<=70000:=by cases h;assumption
def V.l3 (h:V e):e.J.length<=70000:=by cases h;assumption
def V.l4 (h:V e):∀ x,x∈e.J->x.length<=65536:=by cases h;assumption
def V.l5 (h:V e):e.so.length<=70000:=by cases h;assumption
def V.l6 (h:V e):∀ x,x∈e.so->x.length<=65536:=by cases h;assumption
def V.l7 (h:V e):e.lR.length<=65536:=by cases h;assumption
def V.kd (h:V e):e.aq=1\/e.aq=2\/e.aq=3->1<=e.bK.length:=by cases h;assumption
def V.s (h:V e):∀ x,x∈e.bK->jd x:=by cases h;assumption
def V.d (h:V e):∀ x,x∈e.lZ->V x:=by cases h;assumption
def TS {l:List ak} {d:List aK} {tl:List ByS} {p:Int}:(ak.mk k t n a b l d tl p).bK=l:=rfl
def jd.of {xo:List ak} (h1:xo.length<=70000) (h5:k=16->2<=xo.length) (hs:∀ x,x∈xo->jd x):jd (ak.mk k t n a b xo [] [] pos):=
 .mk h1 bn bn bn h5 hs bn
def jd.leaf (h5:k≠16):jd (ak.mk k t n a b [] [] [] pos):=.of bn (λq=>ao q h5) bn
variable {x:ak}
def jd.one (h5:k≠16) (hx:jd x):jd (ak.mk k t n a b [x] [] [] pos):=.of bn (λq=>ao q h5) Es
def jd.two {y:ak} (hx:jd x) (hy:jd y):jd (ak.mk k t n a b [x,y] [] [] pos):=.of bn GO (by simp;exact ⟨hx,hy⟩)
def Qt {e:ak} (h:x∈e.bK):SizeOf.sizeOf x<SizeOf.sizeOf e:=by
 cases e;have:=ng h;simp only[ak.bK] at this;simp;omega
def Zd {e:ak} {x:aK} (h:x∈e.fi):SizeOf.sizeOf x<SizeOf.sizeOf e:=by
 cases e;have:=ng h;simp only[ak.fi] at this;simp;omega
def acr (h:x∈e.bK):SizeOf.sizeOf x<SizeOf.sizeOf e:=by
 cases e;have:=ng h;simp only[aK.bK] at this;simp;omega
def af1 {x:aK} (h:x∈e.lZ):SizeOf.sizeOf x<SizeOf.sizeOf e:=by
 cases e;have:=ng h;simp only[aK.lZ] at this;simp;omega
variable {v:Int} {p:D}
def Is {c:Int} (h0:0<=v) (h1:v<=c):∀ (N:Nat) {m:Nat->Nat} {e:ak},bL m->SizeOf.sizeOf e<N->jd e->Ev (λi=>cE (m i) e v p) (λr=>r.2=p/\jd r.1) (PP c):=by
 intro N
 induction N with
 | zero=>intro m e _ h;exact ao h GL
 | succ N ih=>
  intro m e hm hN he
  refine bX (F:=λn=>cE n e v p) hm λm hm=>?_
  show Ev (λi=>gV (m i) (fm (m i)) e v p) _ _
  unfold gV vi oj jk dS
  refine b8 (λhk=>?_) (λ_=>?_)
  ·have h2:=he.kd hk;refine W λx hx=>W λy hy=>?_;have hx:=aQ hx;have hy:=aQ hy;refine ai (ih hm (by have:=Qt hx;omega) (he.s _ hx)) λx2 ve=>?_;rw[ve.1];refine ai (ih hm (by have:=Qt hy;omega) (he.s _ hy)) λy2 Lp=>?_;exact aj ⟨Lp.1,.mk bn he.l2 he.l3 he.l4 GO (by simp;exact ⟨ve.2,Lp.2⟩) he.d⟩
  ·refine b8 (λ_=>?_) (λ_=>aj ⟨rfl,he⟩);have hl:=he.l2;refine bN hm (λ(x:D×List aK×Int)=>x.1=p/\0<=x.2.2/\x.2.2<=e.fi.length/\x.2.1.length=x.2.2/\∀ d,d∈x.2.1->V d) (λx=>(e.fi.length - x.2.2).toNat) ⟨rfl,bn,bn,bn,bn⟩ ?_;rintro x ⟨HF,ve,WI,hx4,T3⟩ next hn;refine aR (λiy=>?_) (λ_=>aj ⟨HF,.mk he.l1 aB he.l3 he.l4 bn he.s T3⟩);refine W λd hd=>?_;have hd:=aQ hd;have Ek:=he.d _ hd;refine bz (λw=>w.1=p/\V w.2) (λw hw=>?_) (λj hj=>?_)
   ·refine aH (aH (hn _ ⟨hw.1,eX,eX,qI,λz hz=>?_⟩ eX));obtain q|q:=bH.1 hz
    ·exact T3 z q
    simp at q;subst q;exact hw.2
   refine bz (λ_=>True) (λw _=>?_) (λj2 x9=>?_)
   ·refine aw (λ_=>JM h0 h1) (λ_=>?_);refine bz (λw=>w=true->d.aq=1\/d.aq=2\/d.aq=3) (λw hw=>?_) (λj2 x9=>?_)
    ·refine aw (λGA=>?_) (λ_=>hj _ ⟨HF,Ek⟩);have:=Ek.kd (hw GA);refine W λy hy=>?_;have hy:=aQ hy;rw[HF];refine ai ael λy2 Lp=>?_;exact hj _ ⟨Lp.1,.mk bn Ek.l2 Ek.l3 Ek.l4 Ek.l5 Ek.l6 Ek.l7 GO (by simpa using Lp.2) Ek.d⟩
    refine b8 (λh=>x9 _ λ_=>.inl h) (λ_=>b8 (λh=>x9 _ λ_=>.inr (.inl h)) (λ_=>x9 _ λh=>.inr (.inr jg)))
   exact ah6
section
variable {s:ByS} {T:List aC} {b:Int} {X:Type} {Q:α->Prop} {R:sX->Prop} {m:Nat->Nat} {a:Int} {k:Bool}
def QS (q:Option ak):Prop:=∀ e,q=some e->jd e
def QS.none:QS none:=λ_ h=>by cases h
def St (s:ByS) (T:List aC) (b:Int) (k:Bool) (a d:Int) (p:D):Prop:=∃ a' q',p=H s T a' b k q'/\a<=a'/\a'+d<T.length/\QS q'
variable {d:Int} {P:X->Prop}
def mI {F:Nat->aI (X×D)} {K:Nat->X×D->aI α} (h:Ev F (λr=>St s T b k a d r.2/\P r.1) (PP c)) (hk:∀ x a' q',a<=a'->a'+d<T.length->QS q'->P x->Ev (λi=>K i (x,H s T a' b k q')) Q (PP c)):Ev (λi=>ag (F i) (K i)) Q (PP c):=by
 refine ai h λr hr=>?_;obtain ⟨x,p⟩:=r;exact adn
def Gf {F:Nat->aI (D×X)} {K:Nat->D×X->aI α} (h:Ev F (λr=>St s T b k a d r.1/\P r.2) (PP c)) (hk:∀ x a' q',a<=a'->a'+d<T.length->QS q'->P x->Ev (λi=>K i (H s T a' b k q',x)) Q (PP c)):Ev (λi=>ag (F i) (K i)) Q (PP c):=by
 refine ai h λr hr=>?_;obtain ⟨p,x⟩:=r;exact adn
def CZ (hm:bL m) (h0:0<=v) (h1:v<=c) {e:ak} (he:jd e) {K:Nat->ak×D->aI α} (hk:∀ x,jd x->Ev (λi=>K i (x,p)) Q (PP c)) :
  Ev (λi=>ag (cE (m i) e v p) (K i)) Q (PP c):=by
 refine ai (Is h0 h1 _ hm Qu he) λr hr=>?_
 obtain ⟨x,p'⟩:=r
 obtain ⟨h1,h2⟩:=hr
 dsimp only at h1
 subst h1
 exact hk x h2
def Sf (T:List aC) (a:Int):Prop:=∃ t u,T[a.toNat]?=some t/\t.aq=5/\T[(a+1).toNat]?=some u/\u.aq≠0/\u.aq≠7/\(u.aq=5->∃ w,T[(a+2).toNat]?=some w/\w.aq=3)
def Pc (hm:bL m) (hC:PC s T b) (h0:0<=a) (h1:a<T.length) {K:Nat->Bool×D->aI α}
  (hk:∀ a' r,a<=a'->a'<T.length->(∀ u,T[a.toNat]?=some u->(k=true->u.aq≠7)->a'=a)->(r=true->Sf T a')->Ev (λi=>K i (r,H s T a' b k q)) Q R):Ev (λi=>ag (fL (m i) (H s T a b k q)) (K i)) Q R:=by
 refine rL (Q:=λr=>∃ a' x,r=(x,H s T a' b k q)/\a<=a'/\a'<T.length/\(∀ u,T[a.toNat]?=some u->(k=true->u.aq≠7)->a'=a)/\(x=true->Sf T a')) (R':=di) ?_ (λ_ q=>q.elim) λr hr=>?_
 ·unfold fL pB
  have hl:=hC.oF
  refine kl hm hC h0 h1 λa' t h2 h3 h4 h5 h6=>?_
  dsimp only
  refine sU λr xp HJ=>cZ ũ (λhr=>?_)
  obtain ⟨g1,g2⟩:=xp hr
  refine bz (λv=>v.1=H s T a' b k q/\2<=v.2/\v.2<=3/\Sf T a') (λv hv=>?_) (λj hj=>?_)
  ·refine bN hm (λ(x:D×Int)=>x.1=H s T a' b k q/\2<=x.2/\x.2<=T.length+3) (λx=>(T.length+4 - x.2).toNat) ⟨hv.1,hv.2.1,eX⟩ ?_
   rintro x ⟨HF,ve,WI⟩ next hn
   rw[HF]
   refine xV hC aB h3 aB aB λu hu=>?_
   dsimp only
   refine b8 (λh7=>?_) (λ_=>?_)
   ·have:=(hu aB).2
    exact aH (hn _ IF eX)
   ·refine xV hC aB h3 aB aB λu hu=>?_
    dsimp only
    refine sU λr _ _=>aw (λ_=>?_) ũ
    refine aH (xV hC aB h3 aB aB λu hu=>?_)
    dsimp only
    exact sU λr _ _=>aj ⟨a',_,rfl,h2,h3,h6,λ_=>hv.2.2.2⟩
  ·refine xV hC aB h3 aB aB λu hu=>?_
   dsimp only
   refine Ar λr xp HJ=>cZ (λ_=>?_) (λhr=>?_)
   ·refine xV hC aB h3 aB aB λu hu=>?_
    dsimp only
    refine sU λr xp HJ=>cZ ũ (λhr=>?_)
    obtain ⟨q1,q2⟩:=xp hr
    refine xV hC aB h3 aB aB λw hw=>?_
    dsimp only
    refine jI ũ (λh3=>?_)
    exact hj _ ⟨rfl,by simp,by simp,t,u,h4,g1,(hu aB).1,by omega,by omega,λ_=>⟨w,(hw aB).1,h3⟩⟩
   ·obtain ⟨q1,q2⟩:=xp hr
    exact hj _ ⟨rfl,by simp,by simp,t,u,h4,g1,(hu aB).1,by omega,by omega,λ_=>by omega⟩
 ·obtain ⟨a',x,rfl,h⟩:=hr
  exact hk a' x h.1 h.2.1 h.2.2.1 h.2.2.2
def It (hm:bL m) (hC:PC s T b) (h0:0<=a) (hc:b+s.length<=c) (hq:QS q) {u:aC} (hu:T[a.toNat]?=some u) (Fc:u.aq≠0) (MR:u.aq≠7) (hw:u.aq=5->∃ w,T[(a+1).toNat]?=some w/\w.aq=3) {d:aK} :
  Ev (λi=>nt (m i) true (H s T a b k q) d) (λr=>St s T b k a 1 r.1/\(r.2=d\/∃ l,r.2=aK.mk d.aq d.eo l d.B d.bT d.bK d.lZ d.J d.so d.lR d.cN)) (PP c):=by
 have hl:=hC.oF
 have h1:a<T.length:=by have:=(an.1 hu).1;omega
 unfold nt pK
 refine Gf (b:=b) (T:=T) (s:=s) (k:=true) (a:=a) (d:=1) (P:=λx=>x=d\/∃ l,x=aK.mk d.aq d.eo l d.B d.bT d.bK d.lZ d.J d.so d.lR d.cN) ?_ λx a' q' h2 h3 h4 h5=>aj U2
 unfold nr ji pB pM
 dsimp only
 refine bz (λv=>(∃ a',v.1=H s T a' b true q/\a<=a'/\a'+1<T.length)/\(v.2=d\/∃ l,v.2=aK.mk d.aq d.eo l d.B d.bT d.bK d.lZ d.J d.so d.lR d.cN)) (λv hv=>?_) (λj hj=>?_)
 ·obtain ⟨⟨a',hv1,hv2,hv3⟩,hv4⟩:=hv
  rw[hv1]
  refine aH (AL hm hC eX eX hc λa2 t h2 h3 h4 h5 _=>aj ⟨⟨a2,q,rfl,by dsimp only at h2;omega,h3,hq⟩,hv4⟩)
 ·refine uK hm hC h0 h1 (λa' t h2 h3 h4 h5 h6 h7=>?_) (λa' t h2 h3 h4 h5 h6 h7=>?_)
  ·dsimp only
   have ha:=h7 u hu (λ_=>MR)
   subst ha
   have:u=t:=by
    have e:a+1 - 1=a:=by omega
    rw[e,hu] at h4;cases h4;rfl
   subst this
   obtain ⟨w,hw1,GA⟩:=hw h5
   refine aY ?_
   refine kl hm hC aB h3 λa2 t2 h8 h9 xd IW JH=>?_
   dsimp only
   have ha2:=JH w hw1 GV
   subst ha2
   have HK:=hC.next aB hw1 aB
   refine dA (xa hm) λy _=>?_
   refine jI (λ_=>tv hm hC aB h9 hc) (λ_=>hj _ ⟨⟨_,rfl,aB,aB⟩,.inr ⟨_,rfl⟩⟩)
  ·dsimp only
   have ha:=h7 u hu (λ_=>MR)
   subst ha
   have HK:=hC.next aB hu Fc
   exact aG (hj _ ⟨⟨_,rfl,by omega,by omega⟩,.inl rfl⟩)
end
end
section
variable {s:ByS} {T:List aC}
def Ql (s:ByS) (T:List aC) (b:Int) (K c:Nat) (F:Nat->D->aI (ak×D)):Prop:=∀ {m:Nat->Nat} {a:Int} {k:Bool} {q:Option ak},bL m->0<=a->a<T.length->QS q->64*(T.length - a).toNat+c<K->Ev (λi=>F (m i) (H s T a b k q)) (λr=>St s T b k a 0 r.2/\jd r.1) (PP (b+s.length))
structure PG (s:ByS) (T:List aC) (b:Int) (K:Nat):Prop where
 expr:∀ {j:Bool},Ql s T b K 13 (λn=>aZ n j)
 alt:∀ {j:Bool},Ql s T b K 12 (λn=>de n j)
 MS:∀ {j:Bool},Ql s T b K 11 (λn=>df n j)
 bin:∀ {m:Nat->Nat} {a l:Int} {k:Bool} {q:Option ak} {j:Bool},bL m->0<=a->a<T.length->QS q->0<=l->l<=5->64*(T.length - a).toNat+(10 - l).toNat<K->Ev (λi=>dE (m i) l j (H s T a b k q)) (λr=>St s T b k a 0 r.2/\jd r.1) (PP (b+s.length))
 unary:∀ {j:Bool},Ql s T b K 4 (λn=>eD n j)
 post:∀ {j:Bool},Ql s T b K 3 (λn=>eQ n j)
 Sg:∀ {j:Bool},Ql s T b K 2 (λn=>fe n j)
 named:∀ {m:Nat->Nat} {a:Int} {k:Bool} {q:Option ak} {t:aC},bL m->0<=a->a<T.length->QS q->T[a.toNat]?=some t->t.aq=1->64*(T.length - a).toNat+1<K->Ev (λi=>iM (m i) (H s T a b k q)) (λr=>St s T b k a 0 r.2/\jd r.1) (PP (b+s.length))
 Lt:∀ {m:Nat->Nat} {a:Int} {k:Bool} {q:Option ak} {t:aC},bL m->0<=a->a<T.length->T[a.toNat]?=some t->t.aq=4->64*(T.length - a).toNat+1<K->Ev (λi=>fG (m i) t (b+t.cN) (H s T a b k q)) (λr=>r.2=H s T a b k q/\jd r.1) (PP (b+s.length))
 parens:∀ {m:Nat->Nat} {a:Int} {k:Bool} {q:Option ak} {j:Bool},bL m->0<=a->a<T.length->QS q->64*(T.length - a).toNat+1<K->Ev (λi=>eg (m i) j (H s T a b k q)) (λr=>St s T b k (a+1) 0 r.2/\jd r.1) (PP (b+s.length))
 Ð:∀ {j:Bool},Ql s T b K 1 (λn=>gj n j)
 list:Ql s T b K 1 ju
 block:∀ {m:Nat->Nat} {a:Int} {k:Bool} {q:Option ak} {j:Bool},bL m->0<=a->a<T.length->QS q->64*(T.length - a).toNat<K->Ev (λi=>fk (m i) j (H s T a b k q)) (λr=>St s T b k a 0 r.2.2/\r.1.length<=70000/\(∀ d,d∈r.1->V d)/\r.2.1.length<=70000/\∀ x,x∈r.2.1->x.length<=65536) (PP (b+s.length))
 args:∀ {m:Nat->Nat} {a:Int} {k:Bool} {q:Option ak},bL m->0<=a->a<T.length->QS q->64*(T.length - a).toNat+1<K->Ev (λi=>jt (m i) (H s T a b k q)) (λr=>St s T b k a 0 r.2/\r.1.length<=70000/\∀ x,x∈r.1->jd x) (PP (b+s.length))
 item:Ql s T b K 14 eI
 field:∀ {m:Nat->Nat} {a:Int} {k:Bool} {q:Option ak} {j:Bool} {d:aK} {t:aC},bL m->0<=a->a<T.length->QS q->V d->T[a.toNat]?=some t->t.aq≠0->t.aq≠7->64*(T.length - a).toNat+14<K->Ev (λi=>iL (m i) j (H s T a b k q) d) (λr=>St s T b k a 0 r.1/\V r.2) (PP (b+s.length))
 pattern:∀ {m:Nat->Nat} {a:Int} {k:Bool} {q:Option ak} {j:Bool} {d:aK},bL m->0<=a->a<T.length->QS q->V d->Sf T a->64*(T.length - a).toNat+14<K->Ev (λi=>gG (m i) j (H s T a b k q) d) (λr=>St s T b k a 0 r.1/\V r.2) (PP (b+s.length))
 WJ:∀ {m:Nat->Nat} {a:Int} {k:Bool} {q:Option ak} {j:Bool} {d:aK},bL m->0<=a->a<T.length->QS q->V d->64*(T.length - a).toNat+14<K->Ev (λi=>gE (m i) j (H s T a b k q) d) (λr=>St s T b k a 0 r.1/\V r.2) (PP (b+s.length))
 decl:∀ {m:Nat->Nat} {a:Int} {k:Bool} {q:Option ak} {j:Bool} {t:aC},bL m->0<=a->a<T.length->QS q->T[a.toNat]?=some t->t.aq≠0->t.aq≠7->64*(T.length - a).toNat+17<K->Ev (λi=>fy (m i) j (H s T a b k q)) (λr=>St s T b k a 0 r.2/\V r.1) (PP (b+s.length))
 decls:∀ {m:Nat->Nat} {a:Int} {k:Bool} {q:Option ak} {j:Bool},bL m->0<=a->a<T.length->QS q->64*(T.length - a).toNat+18<K->Ev (λi=>iW (m i) j (H s T a b k q)) (λr=>St s T b k a 0 r.2.2/\r.1.length<=70000/\(∀ d,d∈r.1->V d)/\r.2.1.length<=70000/\∀ x,x∈r.2.1->x.length<=65536) (PP (b+s.length))
variable {K:Nat} {m:Nat->Nat}
def abt (hC:PC s T b) (ih:PG s T b K):Ql s T b (K+1) 13 (λn=>aZ n j):=by
 intro m a k q hm h0 h1 hq hK;refine bX (F:=λn=>aZ n j (H s T a b k q)) hm λm hm=>?_;show Ev (λi=>iX (m i) (R (m i)) j (H s T a b k q)) _ _;unfold iX Bn oj jk s6 pB eS;have hl:=hC.oF;dsimp only;refine bz (λv=>St s T b k a 0 v.1) (λv hv=>?_) (λjj hj=>?_)
 ·obtain ⟨p,w⟩:=v;obtain ⟨a1,q1,hp,h2,h3,hq1⟩:=hv;dsimp only at hp;subst hp;dsimp only;refine bz (λv=>St s T b k a 0 v.1/\jd v.2) (λv hv=>?_) (λjj hj=>?_)
  ·obtain ⟨p,e⟩:=v;obtain ⟨⟨a2,q2,hp,h4,h5,GK⟩,he⟩:=hv;dsimp only at hp he;subst hp;dsimp only;refine bz (λv=>St s T b k a 0 v) (λv hv=>?_) (λjj hj=>?_)
   ·obtain ⟨a3,q3,rfl,h6,h7,D3⟩:=hv;dsimp only;refine bz (λv=>St s T b k a 0 v) (λv hv=>?_) (λjj hj=>?_)
    ·obtain ⟨a4,q4,rfl,h8,h9,Oc⟩:=hv;refine u9 hm hC aB aB λa5 t v xd IW _ _ _ JH If=>?_;dsimp only;refine CZ hm JH If he λx hx=>?_;dsimp only;refine bN hm (λ(x:D×List ak)=>St s T b k a 0 x.1/\1<=x.2.length/\(x.2.length:Int)<=x.1.bO+1/\∀ e,e∈x.2->jd e) (λx=>(T.length - x.1.bO).toNat) ⟨⟨_,q4,rfl,aB,aB,Oc⟩,bn,qI,Es⟩ ?_;rintro ⟨p,l⟩ ⟨⟨a6,q6,hp,Lu,Kp,Qm⟩,Tu,Ji,Yi⟩ next hn;dsimp only at hp Tu Ji Yi;subst hp;dsimp only at hn Ji ⊢;refine uK hm hC aB aB (λa7 t L9 NW _ _ _ _=>?_) (λa7 t L9 NW _ _ _ _=>?_)
     ·dsimp only;refine aY (mI (ih.alt hm aB NW Qm aB) λe a8 q8 Qn Mi hq8 he8=>?_);dsimp only;refine aH (hn _ ⟨⟨a8,q8,rfl,aB,Mi,hq8⟩,bn,qI,λz hz=>?_⟩ eX);obtain w|w:=bH.1 hz
      ·exact Yi z w
      simp at w;subst w;exact he8
     dsimp only;refine aG (W λx hx=>aj ⟨⟨a7,q6,rfl,aB,aB,Qm⟩,.of aB bn Yi⟩)
    refine kl hm hC aB aB λa4 t h8 h9 _ _ _=>?_;dsimp only;refine sU λr _ _=>cZ ZK (λ_=>hj _ ⟨a4,q3,rfl,aB,aB,D3⟩)
   refine cZ (λ_=>?_) (λ_=>hj _ ⟨a2,q2,rfl,h4,h5,GK⟩);refine kl hm hC aB aB λa4 t h8 h9 _ _ _=>?_;dsimp only;exact sU λr _ _=>cZ (λ_=>aj ⟨⟨a4,q2,rfl,by omega,by omega,GK⟩,he⟩) (λ_=>hj _ ⟨a4,q2,rfl,by omega,by omega,GK⟩)
  refine aw acO acO
 refine aw (λ_=>?_) (λ_=>hj _ ⟨a,q,rfl,aB,aB,hq⟩);refine kl hm hC h0 h1 λa4 t h8 h9 _ _ _=>?_;dsimp only;exact sU λr _ _=>hj _ ⟨a4,q,rfl,by omega,by omega,hq⟩
def af3 (hC:PC s T b) (ih:PG s T b K):Ql s T b (K+1) 12 (λn=>de n j):=by
 intro m a k q hm h0 h1 hq hK;refine bX (F:=λn=>de n j (H s T a b k q)) hm λm hm=>?_;show Ev (λi=>fq (m i) (R (m i)) j (H s T a b k q)) _ _;unfold fq eS;have hl:=hC.oF;dsimp only;refine aw (λ_=>?_) (λ_=>?_)
 ·refine u9 hm hC h0 h1 λa2 t v h2 h3 _ _ _ _ _=>?_;dsimp only;refine uK hm hC aB h3 (λa3 t h4 h5 _ _ _ _=>?_) (λa3 t h4 h5 _ _ _ _=>?_)
  ·dsimp only;exact aY (mI (ih.MS hm aB h5 hq aB) λe a4 q4 h6 h7 Oc he=>aj ⟨By,.one dN he⟩)
  dsimp only;exact aG (mI (ih.MS hm aB h5 hq aB) λe a4 q4 h6 h7 Oc he=>aj ⟨By,he⟩)
 exact mI (ih.MS hm aB h1 hq aB) λe a4 q4 h6 h7 Oc he=>aj ⟨By,he⟩
def abu (hC:PC s T b) (ih:PG s T b K):Ql s T b (K+1) 11 (λn=>df n j):=by
 intro m a k q hm h0 h1 hq hK;refine bX (F:=λn=>df n j (H s T a b k q)) hm λm hm=>?_;show Ev (λi=>fT (m i) (R (m i)) j (H s T a b k q)) _ _;unfold fT vi eS;refine mI (ih.bin hm h0 h1 hq aB aB aB) λe a2 q2 h2 h3 GK he=>?_;dsimp only;refine bN hm (λ(x:D×ak)=>St s T b k a 0 x.1/\jd x.2) (λx=>(T.length - x.1.bO).toNat) Zv ?_;rintro ⟨p,e⟩ ⟨⟨a3,q3,hp,h4,h5,D3⟩,he⟩ next hn;dsimp only at hp he;subst hp;dsimp only at hn ⊢;refine uK hm hC aB aB (λa4 t h6 h7 _ _ _ _=>?_) (λa4 t h6 h7 _ _ _ _=>?_)
 ·dsimp only;exact aY (mI (ih.bin hm aB h7 D3 aB aB aB) λe2 a5 q5 h8 h9 hq5 he5=>hn _ ⟨⟨a5,q5,rfl,aB,h9,hq5⟩,.two he he5⟩ eX)
 exact aG (aj ⟨⟨a4,q3,rfl,by omega,by omega,D3⟩,he⟩)
variable {l:Int}
def Pd:Ev (λ_=>qL l) (λr=>r.length<=100) di:=by
 unfold qL
 (repeat' (with_reducible first|intro _|refine aH ?_|refine W ?_|apply aY|apply aG|apply dK|(apply cT;try dsimp only)))
 all_goals exact M9
def af4 (hC:PC s T b) (ih:PG s T b K) (hm:bL m) (h0:0<=a) (h1:a<T.length) (hq:QS q) (G2:0<=l) (hl5:l<=5) (hK:64*(T.length - a).toNat+(10 - l).toNat<K+1) :
  Ev (λi=>dE (m i) l j (H s T a b k q)) (λr=>St s T b k a 0 r.2/\jd r.1) (PP (b+s.length)):=by
 refine bX (F:=λn=>dE n l j (H s T a b k q)) hm λm hm=>?_
 show Ev (λi=>gY (m i) (R (m i)) l j (H s T a b k q)) _ _
 unfold gY vi ji pB pM eS
 have hl:=hC.oF
 refine aR (λ_=>mI (ih.unary hm h0 h1 hq aB) λe a4 q4 h6 h7 Oc he=>aj ⟨By,he⟩) (λ_=>?_)
 refine aH (mI (ih.bin hm h0 h1 hq aB aB aB) λe a2 q2 h2 h3 GK he=>?_)
 dsimp only
 refine bN hm (λ(x:D×ak)=>St s T b k a 0 x.1/\jd x.2) (λx=>(T.length - x.1.bO).toNat) Zv ?_
 rintro ⟨p,e⟩ ⟨⟨a3,q3,hp,h4,h5,D3⟩,he⟩ next hn
 dsimp only at hp he;subst hp;dsimp only at hn ⊢
 refine kl hm hC aB aB λa4 t h6 h7 ht h8 _=>?_
 dsimp only
 refine dA Pd λops hops=>Hu hm aB λr hr=>aw (λxp=>?_) (λ_=>aj ⟨⟨a4,q3,rfl,aB,aB,D3⟩,he⟩)
 have hk5:=hr xp
 have HK:=hC.next aB ht aB
 refine u9 hm hC aB h7 λa5 t5 v h9 xd _ IW _ JH If=>?_
 have e5:=IW t ht h8
 subst e5
 dsimp only
 refine CZ hm JH If he λx hx=>?_
 dsimp only
 refine kl hm hC aB h7 λa6 t6 Lu Kp _ _ L9=>?_
 have e6:=L9 t ht h8
 subst e6
 dsimp only
 refine aH (aH (mI (ih.bin hm aB HK D3 aB aB aB) λe2 a7 q7 NW Qn hq7 he7=>hn _ ⟨⟨a7,q7,rfl,aB,Qn,hq7⟩,.two hx he7⟩ eX))
def Ñ (hC:PC s T b) (ih:PG s T b K):Ql s T b (K+1) 4 (λn=>eD n j):=by
 intro m a k q hm h0 h1 hq hK;refine bX (F:=λn=>eD n j (H s T a b k q)) hm λm hm=>?_;show Ev (λi=>iB (m i) (R (m i)) j (H s T a b k q)) _ _;unfold iB vi pB pM eS;have hl:=hC.oF;dsimp only;refine aw (λ_=>mI (ih.post hm h0 h1 hq aB) λe a4 q4 h6 h7 Oc he=>aj ⟨By,he⟩) (λ_=>?_);refine kl hm hC h0 h1 λa2 t h2 h3 ht h4 _=>?_;dsimp only;refine u9 hm hC aB h3 λa5 t5 v h9 xd _ IW _ JH If=>?_;have e5:=IW t ht h4;subst e5;dsimp only;refine bz (λv=>v≠16/\t.aq=5) (λw hw=>?_) (λjj hj=>?_)
 ·have HK:=hC.next aB ht aB;exact aH (mI (ih.unary hm aB HK hq aB) λe a4 q4 h6 h7 Oc he=>aj ⟨By,.one hw.1 he⟩)
 refine Hu hm bn λr hr=>aw (λxp=>hj _ ⟨dN,hr xp⟩) (λ_=>?_);refine Hu hm bn λr hr=>aw (λxp=>hj _ ⟨dN,hr xp⟩) (λ_=>?_);exact mI (ih.post hm aB h3 hq aB) λe a4 q4 h6 h7 Oc he=>aj ⟨By,he⟩
def Ò (hC:PC s T b) (ih:PG s T b K) (hm:bL m) (h0:0<=a) (h1:a<T.length) (hq:QS q) (hK:64*(T.length - a).toNat+13<K) {e:ak} (he:jd e) :
  Ev (λi=>gx (m i) true (H s T a b k q) e) (λr=>St s T b k a 1 r.1/\jd r.2) (PP (b+s.length)):=by
 refine bX (F:=λn=>gx n true (H s T a b k q) e) hm λm hm=>?_
 show Ev (λi=>mc (m i) (R (m i)) true (H s T a b k q) e) _ _
 unfold mc pK
 dsimp only
 refine mI (k:=true) (a:=a) (d:=1) (P:=jd) ?_ λx a' q' h2 h3 h4 h5=>aj U2
 refine bX (F:=λn=>jK n e (H s T a b true q)) hm λm hm=>?_
 show Ev (λi=>l8 (m i) (R (m i)) e (H s T a b true q)) _ _
 unfold l8 vi eS
 refine mI (ih.expr hm h0 h1 hq hK) λx a2 q2 h2 h3 h4 h5=>?_
 dsimp only
 exact AL hm hC aB aB aB λa3 t h6 h7 _ _ _=>aj ⟨⟨a3,q2,rfl,by omega,h7,h4⟩,.two he h5⟩
def abv (hC:PC s T b) (ih:PG s T b K):Ql s T b (K+1) 3 (λn=>eQ n j):=by
 intro m a k q hm h0 h1 hq hK;refine bX (F:=λn=>eQ n j (H s T a b k q)) hm λm hm=>?_;show Ev (λi=>iH (m i) (R (m i)) j (H s T a b k q)) _ _;unfold iH vi pB pM eS;have hl:=hC.oF;refine mI (ih.Sg hm h0 h1 hq aB) λe a2 q2 h2 h3 GK he=>?_;dsimp only;refine bN hm (λ(x:D×ak)=>St s T b k a 0 x.1/\jd x.2) (λx=>(T.length - x.1.bO).toNat) Zv ?_;rintro ⟨p,e⟩ ⟨⟨a3,q3,hp,h4,h5,D3⟩,he⟩ next hn;dsimp only at hp he;subst hp;dsimp only at hn ⊢;refine kl hm hC aB aB λa4 t h6 h7 ht h8 _=>?_;dsimp only;refine u9 hm hC aB h7 λa5 t5 v h9 xd _ IW _ JH If=>?_;have e5:=IW t ht h8;subst e5;dsimp only;refine sU λr hr _=>aw (λxp=>?_) (λ_=>?_)
 ·have hk5:=(hr xp).1;have HK:=hC.next aB ht aB;refine CZ hm JH If he λx hx=>?_;dsimp only;refine aH (kl hm hC aB HK λa6 t6 Lu Kp ht6 _ _=>?_);dsimp only;refine bz (λv=>v=H s T a6 b k q3/\t6.aq≠0) (λv hv=>?_) (λjj hj=>?_)
  ·obtain ⟨rfl,L9⟩:=hv;have hnx6:=hC.next aB ht6 L9;exact aH (hn _ ⟨⟨a6+1,q3,rfl,aB,aB,D3⟩,.one dN hx⟩ eX)
  exact Ls hm λr hr=>cZ (λ_=>tv hm hC aB Kp aB) (λxp=>hj _ ⟨rfl,by have:=hr xp;omega⟩)
 refine sU λr hr _=>aw (λxp=>?_) (λ_=>aj ⟨⟨a5,q3,rfl,aB,aB,D3⟩,he⟩);have hk5:=(hr xp).1;have HK:=hC.next aB ht aB;refine CZ hm JH If he λx hx=>?_;dsimp only;refine aH (Gf (Ò hC ih hm aB HK D3 aB hx) λx a6 q6 Lu Kp Qm hx6=>?_);dsimp only;exact aH (hn _ ⟨⟨a6+1,q6,rfl,aB,aB,Qm⟩,hx6⟩ eX)
end
section
variable {s:ByS} {T:List aC} {K:Nat} {m:Nat->Nat}
def abw (hC:PC s T b) (ih:PG s T b K):Ql s T b (K+1) 2 (λn=>fe n j):=by
 intro m a k q hm h0 h1 hq hK;refine bX (F:=λn=>fe n j (H s T a b k q)) hm λm hm=>?_;show Ev (λi=>gy (m i) (R (m i)) j (H s T a b k q)) _ _;unfold gy ji s6 pB pM eS;have hl:=hC.oF;dsimp only;cases q with
 | some e=>exact aY (Ev.some rfl (aj ⟨⟨a,none,rfl,by omega,by omega,.none⟩,hq e rfl⟩))
 | none=>
  refine aG ?_
  refine kl hm hC h0 h1 λa2 t h2 h3 ht h4 _=>?_
  dsimp only
  refine u9 hm hC aB h3 λa5 t5 v h9 xd ht5 IW hv JH If=>?_
  have e5:=IW t ht h4
  subst e5
  rw[ht] at ht5;cases ht5
  dsimp only
  refine bz (λv=>v.1=H s T a5 b k none/\jd v.2/\t.aq≠0) (λw hw=>?_) (λjj hj=>?_)
  ·obtain ⟨p,e⟩:=w;obtain ⟨hp,he,hk⟩:=hw;dsimp only at hp he;subst hp;dsimp only;have HK:=hC.next aB ht hk;exact aH (aj ⟨⟨a5+1,none,rfl,by omega,by omega,.none⟩,he⟩)
  ·refine b8 (λhk=>?_) (λ_=>?_)
   ·exact mI (ih.named hm aB h3 .none ht hk aB) λe a4 q4 h6 h7 Oc he=>aj ⟨By,he⟩
   refine b8 (λhk=>?_) (λ_=>?_)
   ·exact dA (E1 hm) λy _=>hj _ ⟨rfl,.leaf dN,by omega⟩
   refine b8 (λhk=>hj _ ⟨rfl,.leaf dN,aB⟩) (λ_=>?_);refine b8 (λhk=>?_) (λ_=>?_)
   ·rw[hv];refine ai (ih.Lt hm aB h3 ht hk aB) λy hy=>?_;exact hj _ ⟨hy.1,hy.2,by omega⟩
   refine sU λr hr _=>aw (λxp=>hj _ ⟨rfl,.leaf dN,by have:=(hr xp).1;omega⟩) (λ_=>?_);refine sU λr hr _=>aw (λxp=>hj _ ⟨rfl,.leaf dN,by have:=(hr xp).1;omega⟩) (λ_=>?_);refine sU λr hr _=>aw (λxp=>?_) (λ_=>?_)
   ·exact mI (ih.parens hm aB h3 .none aB) λe a4 q4 h6 h7 Oc he=>aj ⟨By,he⟩
   refine sU λr hr _=>aw (λxp=>?_) (λ_=>?_)
   ·exact mI (ih.Ð hm aB h3 .none aB) λe a4 q4 h6 h7 Oc he=>aj ⟨By,he⟩
   refine sU λr hr _=>aw (λxp=>?_) (λ_=>?_)
   ·exact mI (ih.list hm aB h3 .none aB) λe a4 q4 h6 h7 Oc he=>aj ⟨By,he⟩
   exact tv hm hC aB h3 aB
def Ó (hC:PC s T b) (ih:PG s T b K) (hm:bL m) (h0:0<=a) (h1:a<T.length) (hq:QS q) (ht:T[a.toNat]?=some t) (hk:t.aq=1) (hK:64*(T.length - a).toNat+1<K+1) :
  Ev (λi=>iM (m i) (H s T a b k q)) (λr=>St s T b k a 0 r.2/\jd r.1) (PP (b+s.length)):=by
 refine bX (F:=λn=>iM n (H s T a b k q)) hm λm hm=>?_
 show Ev (λi=>kS (m i) (R (m i)) (H s T a b k q)) _ _
 unfold kS ji pB pM eA eS
 have hl:=hC.oF
 have HK:=hC.next aB ht aB
 refine kl hm hC h0 h1 λa2 t2 h2 h3 ht2 h4 e2=>?_
 have e2:=e2 t ht GV
 subst e2
 rw[ht] at ht2;cases ht2
 dsimp only
 refine u9 hm hC aB h3 λa5 t5 v h9 xd ht5 IW hv JH If=>?_
 have e5:=IW t ht h4
 subst e5
 dsimp only
 refine bz (λv=>v.aq≠16) (λw hw=>?_) (λjj hj=>?_)
 ·exact aH (aj ⟨⟨a5+1,q,rfl,by omega,by omega,hq⟩,.leaf hw⟩)
 ·refine b8 Xq (λ_=>?_)
  refine bz (λ_=>True) (λw _=>?_) (λj2 x9=>?_)
  ·refine aw (λ_=>b8 Xq Xq) (λ_=>?_)
   refine bz (λ_=>True) (λw _=>?_) (λj2 x9=>?_)
   ·refine aw Xq (λ_=>?_)
    refine Fq hm hC h0 h3 aB λa6 x Lu Kp=>?_
    dsimp only
    refine kl hm hC aB Kp λa7 t7 L9 NW _ _ _=>?_
    dsimp only
    refine sU λr _ _=>aw (λ_=>?_) (λ_=>aj ⟨⟨a7,q,rfl,aB,aB,hq⟩,.leaf dN⟩)
    exact mI (P:=λl:List ak=>l.length<=70000/\∀ x,x∈l->jd x) (ih.args hm aB NW hq aB) λe a4 q4 h6 h7 Oc he=>aj ⟨By,.of he.1 bn he.2⟩
   ·refine b8 (λ_=>x9 _ trivial) (λ_=>b8 (λ_=>x9 _ trivial) (λ_=>b8 (λ_=>x9 _ trivial) (λ_=>x9 _ trivial)))
  ·exact b8 (λ_=>x9 _ trivial) (λ_=>x9 _ trivial)
def Iu (s:ByS) (b:Int):Prop:=∀ {m:Nat->Nat} {x:ByS} {f:Int},bL m->x.length<s.length->0<=f->f+x.length<=b+s.length->Ev (λi=>oo (m i) x f) (λr=>jd r.1) di
def Yj (hC:PC s T b) (hX:Iu s b) (hm:bL m) (h0:0<=a) (h1:a<T.length) (ht:T[a.toNat]?=some t) (hk:t.aq=4) :
  Ev (λi=>fG (m i) t (b+t.cN) (H s T a b k q)) (λr=>r.2=H s T a b k q/\jd r.1) (PP (b+s.length)):=by
 refine bX (F:=λn=>fG n t (b+t.cN) (H s T a b k q)) hm λm hm=>?_
 show Ev (λi=>ke (m i) (R (m i)) t (b+t.cN) (H s T a b k q)) _ _
 unfold ke oj jk s6 eA eS
 have hbs:=hC.bs
 have hb0:=hC.b0
 obtain ⟨g0,g1,g2,g3,g4,_⟩:=hC.tok ht
 have g4:=g4 hk
 refine dA (zN hm aB) λy hy=>?_
 refine bN hm (λ(x:D×ak×Int)=>x.1=H s T a b k q/\0<=x.2.2/\x.2.2<=y.1.length/\x.2.1.bK.length<=x.2.2/\x.2.1.aq=5/\∀ e,e∈x.2.1.bK->jd e) (λx=>(y.1.length - x.2.2).toNat) ⟨rfl,bn,bn,by simp[TS],rfl,by simp[TS]⟩ ?_
 rintro ⟨p,e,i⟩ ⟨hp,h2,h3,h4,h5,h6⟩ next hn
 dsimp only at hp h2 h3 h4 h5 h6 hn ⊢
 subst hp
 have hyl:=hy.1
 refine aR (λiy=>?_) (λ_=>aj ⟨rfl,.of aB aB h6⟩)
 refine W λx hx=>?_
 obtain ⟨x0,x1,x2⟩:=hy.2 x (aQ hx)
 refine aH (aH (cZ (λ_=>?_) (λhc=>?_)))
 ·refine aH (aH (hn _ ⟨rfl,eX,eX,M4,h5,λz hz=>?_⟩ eX))
  obtain w|w:=bH.1 hz
  ·exact h6 z w
  ·simp at w;subst w;exact .leaf dN
 ·have x2:=x2 hc
  refine dA (hX hm (x:=x.bM) (f:=b+t.cN+1+x.cN) aB aB aB) λz hz=>?_
  refine cZ (λ_=>JM aB aB) (λ_=>?_)
  refine aH (aH (hn _ ⟨rfl,eX,eX,M4,h5,λz2 Lq=>?_⟩ eX))
  obtain w|w:=bH.1 Lq
  ·exact h6 z2 w
  ·simp at w;subst w;exact hz
def Yk (hC:PC s T b) (ih:PG s T b K) (hm:bL m) (h0:0<=a) (h1:a<T.length) (hq:QS q) (hK:64*(T.length - a).toNat+1<K+1) :
  Ev (λi=>eg (m i) j (H s T a b k q)) (λr=>St s T b k (a+1) 0 r.2/\jd r.1) (PP (b+s.length)):=by
 refine bX (F:=λn=>eg n j (H s T a b k q)) hm λm hm=>?_
 show Ev (λi=>kf (m i) (R (m i)) j (H s T a b k q)) _ _
 unfold kf pM eS
 have hl:=hC.oF
 refine sV hm hC h0 h1 aB λa2 t h2 h3 _ _ _ _=>?_
 refine Gf (s:=s) (T:=T) (b:=b) (k:=k) (a:=a+1) (d:=1) (P:=λx:Bool×ak=>jd x.2) ?_ λx a3 q3 h4 h5 D3 he=>?_
 ·refine bX (F:=λn=>iE n true (H s T a2 b k q) j (ak.mk 0 [] 0 [] [] [] [] [] 0)) hm λm hm=>?_
  show Ev (λi=>ma (m i) (R (m i)) true (H s T a2 b k q) j (ak.mk 0 [] 0 [] [] [] [] [] 0)) _ _
  unfold ma pK
  dsimp only
  refine ai (Q:=λr=>St s T b true (a+1) 1 r.2.2/\jd r.2.1) ?_ λr hr=>?_
  ·refine bX (F:=λn=>ka n j (ak.mk 0 [] 0 [] [] [] [] [] 0) (H s T a2 b true q)) hm λm hm=>?_
   show Ev (λi=>mN (m i) (R (m i)) j (ak.mk 0 [] 0 [] [] [] [] [] 0) (H s T a2 b true q)) _ _
   unfold mN
   refine mI (ih.expr hm aB h3 hq aB) λx a3 q3 h4 h5 D3 he=>?_
   exact aiv
  ·obtain ⟨x,e,p⟩:=r
   exact ac6
 ·exact ů
def Ô (hC:PC s T b) (ih:PG s T b K) (hm:bL m) (h0:0<=a) (h1:a<T.length) (hq:QS q) (hK:64*(T.length - a).toNat<K+1) :
  Ev (λi=>fk (m i) j (H s T a b k q)) (λr=>St s T b k a 0 r.2.2/\r.1.length<=70000/\(∀ d,d∈r.1->V d)/\r.2.1.length<=70000/\∀ x,x∈r.2.1->x.length<=65536) (PP (b+s.length)):=by
 refine bX (F:=λn=>fk n j (H s T a b k q)) hm λm hm=>?_
 show Ev (λi=>kQ (m i) (R (m i)) j (H s T a b k q)) _ _
 unfold kQ ji oj pM
 have hl:=hC.oF
 refine sV hm hC h0 h1 aB λa2 t h2 h3 _ _ _ _=>?_
 refine Gf (s:=s) (T:=T) (b:=b) (k:=k) (a:=a+1) (d:=1) (P:=λr:Bool×List aK×List ByS=>r.2.1.length<=70000/\(∀ d,d∈r.2.1->V d)/\r.2.2.length<=70000/\∀ x,x∈r.2.2->x.length<=65536) ?_ λx a3 q3 h4 h5 D3 he=>?_
 ·refine bX (F:=λn=>jL n false (H s T a2 b k q) j [] []) hm λm hm=>?_
  show Ev (λi=>l9 (m i) (R (m i)) false (H s T a2 b k q) j [] []) _ _
  unfold l9 pK
  dsimp only
  refine ai (Q:=λr=>St s T b false (a+1) 1 r.2.2.2/\r.2.1.length<=70000/\(∀ d,d∈r.2.1->V d)/\r.2.2.1.length<=70000/\∀ x,x∈r.2.2.1->x.length<=65536) ?_ λr hr=>?_
  ·refine bX (F:=λn=>kP n j [] [] (H s T a2 b false q)) hm λm hm=>?_
   show Ev (λi=>nB (m i) (R (m i)) j [] [] (H s T a2 b false q)) _ _
   unfold nB
   refine ai (ih.decls hm aB h3 hq aB) λr hr=>?_
   obtain ⟨x,e,p⟩:=r
   obtain ⟨⟨a3,q3,hp,h4,h5,D3⟩,he⟩:=hr
   dsimp only at hp he;subst hp
   exact aiv
  ·obtain ⟨x,y,e,p⟩:=r
   exact ac6
 ·exact ů
def Yl (hC:PC s T b) (ih:PG s T b K):Ql s T b (K+1) 1 (λn=>gj n j):=by
 intro m a k q hm h0 h1 hq hK;refine bX (F:=λn=>gj n j (H s T a b k q)) hm λm hm=>?_;show Ev (λi=>kc (m i) (R (m i)) j (H s T a b k q)) _ _;unfold kc eS;refine u9 hm hC h0 h1 λa2 t v h2 h3 _ _ _ _ _=>?_;dsimp only;refine bz (λv=>v.aq≠16) (λw hw=>?_) (λjj hj=>?_)
 ·refine ai (ih.block hm aB h3 hq aB) λr hr=>?_;obtain ⟨x,e,p⟩:=r;obtain ⟨⟨a3,q3,hp,h4,h5,D3⟩,he1,S6,he3,he4⟩:=hr;dsimp only at hp he1 S6 he3 he4;subst hp;exact aj ⟨⟨a3,q3,rfl,by omega,h5,D3⟩,.mk bn he1 he3 he4 (λq=>ao q hw) bn S6⟩
 exact aw Xq Xq
def abx (hC:PC s T b) (ih:PG s T b K) (hm:bL m) (h0:0<=a) (h1:a<T.length) (hq:QS q) (hK:64*(T.length - a).toNat+1<K+1) :
  Ev (λi=>jt (m i) (H s T a b k q)) (λr=>St s T b k a 0 r.2/\r.1.length<=70000/\∀ x,x∈r.1->jd x) (PP (b+s.length)):=by
 refine bX (F:=λn=>jt n (H s T a b k q)) hm λm hm=>?_
 show Ev (λi=>lF (m i) (R (m i)) (H s T a b k q)) _ _
 unfold lF oj pM
 have hl:=hC.oF
 refine sV hm hC h0 h1 aB λa2 t h2 h3 _ _ _ _=>?_
 refine Gf (s:=s) (T:=T) (b:=b) (k:=k) (a:=a+1) (d:=1) (P:=λr:List ak=>r.length<=70000/\∀ x,x∈r->jd x) ?_ λx a3 q3 h4 h5 D3 he=>?_
 ·refine bX (F:=λn=>iG n true (H s T a2 b k q) []) hm λm hm=>?_
  show Ev (λi=>mf (m i) (R (m i)) true (H s T a2 b k q) []) _ _
  unfold mf pK
  dsimp only
  refine mI (k:=true) (a:=a+1) (d:=1) (P:=λr:List ak=>r.length<=70000/\∀ x,x∈r->jd x) ?_ λx a' q' h2 h3 h4 h5=>aj U2
  refine bX (F:=λn=>lD n [] (H s T a2 b true q)) hm λm hm=>?_
  show Ev (λi=>gX (m i) (R (m i)) [] (H s T a2 b true q)) _ _
  unfold gX YV jk pB eS
  refine kl hm hC aB h3 λa3 t3 h4 h5 _ _ _=>?_
  dsimp only
  refine sU λr _ _=>cZ (λ_=>?_) (λ_=>?_)
  ·refine mI (ih.expr hm aB h5 hq aB) λx a4 q4 h6 h7 Oc he=>?_
   dsimp only
   refine aH ?_
   refine bN hm (λ(x:List ak×D)=>St s T b true (a+1) 0 x.2/\(x.1.length:Int)<=x.2.bO+1/\∀ e,e∈x.1->jd e) (λx=>(T.length - x.2.bO).toNat) ⟨By,qI,DN⟩ ?_
   rintro ⟨l,p⟩ ⟨⟨a6,q6,hp,Lu,Kp,Qm⟩,Ji,Yi⟩ next hn
   dsimp only at hp Ji Yi;subst hp;dsimp only at hn Ji ⊢
   refine uK hm hC aB aB (λa7 t L9 NW _ _ _ _=>?_) (λa7 t L9 NW _ _ _ _=>?_)
   ·dsimp only
    refine aY (mI (ih.expr hm aB NW Qm aB) λe a8 q8 Qn Mi hq8 he8=>?_)
    dsimp only
    refine aH (hn _ ⟨⟨a8,q8,rfl,aB,Mi,hq8⟩,qI,λz hz=>?_⟩ eX)
    obtain w|w:=bH.1 hz
    ·exact Yi z w
    ·simp at w;subst w;exact he8
   ·dsimp only
    refine aG (AL hm hC aB aB aB λa8 t Qn Mi _ _ _=>aj ⟨⟨a8,q6,rfl,aB,Mi,Qm⟩,eX,Yi⟩)
  ·exact AL hm hC aB aB aB λa8 t Qn Mi _ _ _=>aj ⟨⟨a8,q,rfl,by omega,Mi,hq⟩,by simp,by simp⟩
 ·exact ů
def aby (hC:PC s T b) (ih:PG s T b K):Ql s T b (K+1) 14 eI:=by
 intro m a k q hm h0 h1 hq hK;refine bX (F:=λn=>eI n (H s T a b k q)) hm λm hm=>?_;show Ev (λi=>iY (m i) (R (m i)) (H s T a b k q)) _ _;unfold iY Bn oj jk s6 pB eA;refine u9 hm hC h0 h1 λa2 t v h2 h3 _ _ _ _ _=>?_;dsimp only;refine kl hm hC aB h3 λa3 t3 h4 h5 _ _ _=>?_;dsimp only;refine Ar λr _ _=>cZ (λ_=>?_) (λ_=>?_)
 ·exact mI (ih.expr hm aB h5 hq aB) λx a4 q4 h6 h7 Oc he=>aj ⟨By,he⟩
 refine DA hm hC aB h5 aB λa4 h6 h7=>Se hm hC aB h7 aB λa5 nm h8 h9=>?_;dsimp only;refine DA hm hC aB h9 aB λa6 xd IW=>mI (ih.expr hm aB IW hq aB) λx a7 q7 JH If hq7 he=>?_;dsimp only;refine aH ?_;refine bz (λv=>St s T b k (a+1) 0 v.1/\v.2.bK.length<=2/\v.2.aq=15/\∀ e,e∈v.2.bK->jd e) (λw hw=>?_) (λjj hj=>?_)
 ·obtain ⟨p,e⟩:=w;obtain ⟨⟨a8,q8,hp,Lu,Kp,hq8⟩,Tb,TH,hs3⟩:=hw;dsimp only at hp Tb TH hs3;subst hp;dsimp only;refine sV hm hC aB aB aB λa9 t L9 NW _ _ _ _=>mI (ih.expr hm aB NW hq8 aB) λx a10 q10 Qn Mi hq10 he10=>?_;dsimp only;refine aH (aj ⟨⟨a10,q10,rfl,aB,Mi,hq10⟩,.of qI aB λz hz=>?_⟩);obtain w|w:=bH.1 hz
  ·exact hs3 z w
  simp at w;subst w;exact he10
 refine kl hm hC aB aB λa8 t8 Lu Kp _ _ _=>?_;dsimp only;refine Ar λr _ _=>aw (λ_=>?_) (λ_=>hj _ ⟨⟨a8,q7,rfl,aB,aB,hq7⟩,by simp[TS],rfl,by simpa[TS] using he⟩);refine DA hm hC aB Kp aB λa9 L9 NW=>mI (ih.expr hm aB NW hq7 aB) λx2 a10 q10 Qn Mi hq10 he10=>?_;dsimp only;refine aH (hj _ ⟨⟨a10,q10,rfl,aB,Mi,hq10⟩,by simp[TS],rfl,?_⟩);simp only[TS];intro z hz;simp at hz;obtain rfl|rfl:=hz
 ·exact he
 exact he10
def abz (hC:PC s T b) (ih:PG s T b K):Ql s T b (K+1) 1 ju:=by
 intro m a k q hm h0 h1 hq hK;refine bX (F:=λn=>ju n (H s T a b k q)) hm λm hm=>?_;show Ev (λi=>lH (m i) (R (m i)) (H s T a b k q)) _ _;unfold lH oj pM eS;have hl:=hC.oF;refine u9 hm hC h0 h1 λa1 t v h2 h3 _ _ _ _ _=>?_;dsimp only;refine sV hm hC aB h3 aB λa2 t h4 h5 _ _ _ _=>?_;refine Gf (s:=s) (T:=T) (b:=b) (k:=k) (a:=a+1) (d:=1) (P:=jd) ?_ λx a3 q3 h4 h5 D3 he=>?_
 ·refine bX (F:=λn=>iF n true (H s T a2 b k q) (ak.mk 14 [] 0 [] [] [] [] [] v)) hm λm hm=>?_;show Ev (λi=>me (m i) (R (m i)) true (H s T a2 b k q) (ak.mk 14 [] 0 [] [] [] [] [] v)) _ _;unfold me pK;dsimp only;refine mI (k:=true) (a:=a+1) (d:=1) (P:=jd) ?_ λx a' q' h2 h3 h4 h5=>aj U2;refine bX (F:=λn=>lE n (ak.mk 14 [] 0 [] [] [] [] [] v) (H s T a2 b true q)) hm λm hm=>?_;show Ev (λi=>gZ (m i) (R (m i)) (ak.mk 14 [] 0 [] [] [] [] [] v) (H s T a2 b true q)) _ _;unfold gZ YV jk pB eS;refine bN hm (λ(x:ak×D×Bool)=>St s T b true (a+1) 0 x.2.1/\x.1.aq=14/\x.1.fi=[]/\x.1.J=[]/\(x.1.bK.length:Int)+(if x.2.2 then 1 else 0)<=x.2.1.bO+1/\∀ e,e∈x.1.bK->jd e) (λx=>2*(T.length - x.2.1.bO).toNat+(if x.2.2 then 1 else 0)) ⟨⟨a2,q,rfl,aB,aB,hq⟩,rfl,rfl,rfl,M4,by simp[TS]⟩ ?_;rintro ⟨e,p,f⟩ ⟨⟨a6,q6,hp,Lu,Kp,Qm⟩,hk,hd,ht,Ji,Yi⟩ next hn;dsimp only at hp hk hd ht Ji Yi;subst hp;dsimp only at hn Ji ⊢;refine kl hm hC aB aB λa7 t7 L9 NW _ _ _=>?_;dsimp only;refine sU λr _ _=>cZ (λ_=>?_) (λ_=>?_)
  ·refine bz (λp=>∃ a8,p=H s T a8 b true q6/\a6<=a8/\a8<T.length/\(f=false->a6<a8)) (λw hw=>?_) (λjj hj=>?_)
   ·obtain ⟨a8,rfl,Qn,Mi,Yg⟩:=hw;have hf1:(e.bK.length:Int)<=a8:=by
     cases f with
     | true=>simp at Ji;omega
     | false=>have:=Yg rfl;simp at Ji;omega
    have hf2:∀ x:Int,a8<=x->2*(T.length - x).toNat+0<2*(T.length - a6).toNat+(if f=true then 1 else 0):=by
     intro x hx;cases f with
     | true=>simp;omega
     | false=>have:=Yg rfl;simp;omega
    refine u9 hm hC aB Mi λa9 t v h21 h22 _ _ _ _ _=>?_;dsimp only;refine uK hm hC aB aB (λa10 t h23 h24 _ _ _ _=>?_) (λa10 t h23 h24 _ _ _ _=>?_)
    ·dsimp only;refine aY ?_;refine bz (λv=>St s T b true (a+1) 0 v.1/\jd v.2) (λw hw=>?_) (λjj hj=>?_)
     ·obtain ⟨p,x⟩:=w;obtain ⟨⟨a11,q11,hp,h25,h26,hq11⟩,hx⟩:=hw;dsimp only at hp hx;subst hp;dsimp only;refine aH (AL hm hC aB aB aB λa12 t h27 h28 _ _ _=>aj ⟨⟨a12,q11,rfl,aB,h28,hq11⟩,?_⟩);dsimp only;rw[hd,ht];refine .of qI aB λz hz=>?_;obtain w|w:=bH.1 hz
      ·exact Yi z w
      simp at w;subst w;exact hx
     refine kl hm hC aB aB λa11 t11 h25 h26 _ _ _=>?_;dsimp only;refine sU λr _ _=>cZ (λ_=>?_) (λ_=>hj _ ⟨⟨a11,q6,rfl,aB,aB,Qm⟩,.leaf dN⟩);exact mI (ih.expr hm aB h26 Qm aB) λx a12 q12 h27 h28 hq12 he12=>hj _ ⟨⟨a12,q12,rfl,by omega,h28,hq12⟩,he12⟩
    dsimp only;refine aG (mI (ih.item hm aB h24 Qm aB) λx a12 q12 h27 h28 hq12 he12=>?_);dsimp only;refine aH (hn _ ⟨⟨a12,q12,rfl,aB,h28,hq12⟩,hk,hd,ht,M4,λz hz=>?_⟩ (by have:=hf2 a12 aB;simpa using this));obtain w|w:=bH.1 hz
    ·exact Yi z w
    simp at w;subst w;exact he12
   refine cZ (λhf=>?_) (λhf=>hj _ ⟨a7,rfl,L9,NW,λh=>by rw[hf] at h;cases h⟩);exact sV hm hC aB NW aB λa8 t Qn Mi _ _ _ _=>hj _ ⟨a8,rfl,by omega,Mi,λ_=>by omega⟩
  refine AL hm hC aB aB aB λa8 t Qn Mi _ _ _=>aj ⟨⟨a8,q6,rfl,aB,Mi,Qm⟩,?_⟩;dsimp only;cases e with
  | mk k0 t0 n0 x0 y0 s0 d0 tl0 p0=>
   simp only[ak.aq,ak.fi,ak.J,ak.bK] at hk hd ht Ji Yi
   subst hd ht
   refine .of ?_ aB Yi
   have:(s0.length:Int)<=a6+1:=by
    cases f with
    | true=>simp at Ji;omega
    | false=>simp at Ji;omega
   omega
 exact ů
end
section
structure DWk (d:aK):Prop where
 l2:d.lZ.length<=70000
 l3:d.J.length<=70000
 l4:∀ x,x∈d.J->x.length<=65536
 l5:d.so.length<=70000
 l6:∀ x,x∈d.so->x.length<=65536
 l7:d.lR.length<=65536
 d:∀ x,x∈d.lZ->V x
variable {d:aK}
def V.w (h:V d):DWk d:=⟨h.l2,h.l3,h.l4,h.l5,h.l6,h.l7,h.d⟩
variable {k p:Int} {lb a b:ByS} {pos:Int}
def DWk.one {x:ak} (h:DWk d) (hx:jd x):V (aK.mk k p lb a b [x] d.lZ d.J d.so d.lR pos):=
 .mk bn h.l2 h.l3 h.l4 h.l5 h.l6 h.l7 GO Es h.d
def V.new {l:List ak} {body:List aK} {tail:List ByS} (h1:l.length<=70000) (h2:body.length<=70000) (h3:tail.length<=70000) (h4:∀ x,x∈tail->x.length<=65536) (h8:k=1\/k=2\/k=3->1<=l.length) (hs:∀ x,x∈l->jd x) (hd:∀ x,x∈body->V x):V (aK.mk k p lb a b l body tail [] [] pos):=
 .mk h1 h2 h3 h4 bn bn bn h8 hs hd
section
variable {s:ByS} {T:List aC} {b:Int} {K:Nat} {m:Nat->Nat} {a:Int} {k:Bool}
def Õ (hC:PC s T b) (ih:PG s T b K) (hm:bL m) (h0:0<=a) (h1:a<T.length) (hq:QS q) (hd:V d) (ht:T[a.toNat]?=some t) (hk:t.aq≠0) (MR:t.aq≠7) (hK:64*(T.length - a).toNat+14<K+1) :
  Ev (λi=>iL (m i) j (H s T a b k q) d) (λr=>St s T b k a 0 r.1/\V r.2) (PP (b+s.length)):=by
 refine bX (F:=λn=>iL n j (H s T a b k q) d) hm λm hm=>?_
 show Ev (λi=>kR (m i) (R (m i)) j (H s T a b k q) d) _ _
 unfold kR pM dS
 have hl:=hC.oF
 have HK:=hC.next h0 ht hk
 have hw:=hd.w
 refine kl hm hC h0 h1 λa2 t2 h2 h3 ht2 h4 e2=>?_
 have e2:=e2 t ht (λ_=>MR)
 subst e2
 dsimp only
 refine aH ?_
 refine bz (λv=>St s T b k (a2+1) 0 v.1/\DWk v.2) (λw hw=>?_) (λjj hj=>?_)
 ·obtain ⟨p,e⟩:=w
  obtain ⟨⟨a3,q3,hp,h5,h6,D3⟩,he⟩:=hw
  dsimp only at hp he;subst hp;dsimp only
  refine sV hm hC aB aB aB λa4 t h7 h8 _ _ _ _=>mI (ih.expr hm aB h8 D3 aB) λx a5 q5 h9 xd hq5 hx=>?_
  exact aj ⟨Vq,he.one hx⟩
 ·refine uK hm hC aB HK (λa4 t h7 h8 _ _ _ _=>?_) (λa4 t h7 h8 _ _ _ _=>?_)
  ·exact aY (hj _ ⟨⟨a4,q,rfl,by omega,by omega,hq⟩,hw.l2,hw.l3,hw.l4,hw.l5,hw.l6,hw.l7,hw.d⟩)
  ·dsimp only
   refine aG ?_
   refine uK hm hC aB h8 (λa5 t h9 xd _ _ _ _=>?_) (λa5 t h9 xd _ _ _ _=>?_)
   ·exact aY acQ
   ·exact aG acQ
def Uf (hC:PC s T b) (ih:PG s T b K) (hm:bL m) (h0:0<=a) (h1:a<T.length) (hq:QS q) (hd:V d) (hp:Sf T a) (hK:64*(T.length - a).toNat+14<K+1) :
  Ev (λi=>gG (m i) j (H s T a b k q) d) (λr=>St s T b k a 0 r.1/\V r.2) (PP (b+s.length)):=by
 refine bX (F:=λn=>gG n j (H s T a b k q) d) hm λm hm=>?_
 show Ev (λi=>jM (m i) (R (m i)) j (H s T a b k q) d) _ _
 unfold jM ji pM dS
 have hl:=hC.oF
 have hw:=hd.w
 obtain ⟨t,u,p1,p2,p3,p4,p5,p6⟩:=hp
 refine sV hm hC h0 h1 aB λa2 t2 h2 h3 _ _ _ e2=>?_
 have e2:=e2 t p1 GV
 subst e2
 refine Gf (d:=1) (P:=DWk) ((It hm hC aB J5 hq p3 p4 p5 (λh=>by obtain ⟨w,w1,w2⟩:=p6 h;exact ⟨w,by rw[show a+1+1=a+2 by omega];exact w1,w2⟩)).qh λr hr=>⟨hr.1,?_⟩) λx a3 q3 h4 h5 D3 hxw=>?_
 ·obtain h|⟨l,h⟩:=hr.2
  ·rw[h];exact ⟨hw.l2,hw.l3,hw.l4,hw.l5,hw.l6,hw.l7,hw.d⟩
  ·rw[h];exact ⟨hw.l2,hw.l3,hw.l4,hw.l5,hw.l6,hw.l7,hw.d⟩
 dsimp only
 refine aH (sV hm hC aB aB aB λa4 t h7 h8 _ _ _ _=>mI (ih.expr hm aB h8 D3 aB) λy a5 q5 h9 xd hq5 hy=>?_)
 exact aj ⟨Vq,hxw.one hy⟩
def Ug (hC:PC s T b) (ih:PG s T b K) (hm:bL m) (h0:0<=a) (h1:a<T.length) (hq:QS q) (hd:V d) (hK:64*(T.length - a).toNat+14<K+1) :
  Ev (λi=>gE (m i) j (H s T a b k q) d) (λr=>St s T b k a 0 r.1/\V r.2) (PP (b+s.length)):=by
 refine bX (F:=λn=>gE n j (H s T a b k q) d) hm λm hm=>?_
 show Ev (λi=>lh (m i) (R (m i)) j (H s T a b k q) d) _ _
 unfold lh
 have hl:=hC.oF
 have hw:=hd.w
 refine mI (ih.parens hm h0 h1 hq aB) λe a2 q2 h2 h3 GK he=>?_
 dsimp only
 refine kl hm hC aB aB λa3 t h4 h5 ht h6 _=>?_
 dsimp only
 refine sU λr hr _=>aw (λxp=>?_) (λ_=>?_)
 ·have hk5:=(hr xp).1
  have HK:=hC.next aB ht aB
  refine u9 hm hC aB h5 λa5 t5 v h9 xd _ IW _ JH If=>?_
  have e5:=IW t ht h6
  subst e5
  dsimp only
  refine CZ hm JH If he λx hx=>?_
  dsimp only
  refine aH (mI (ih.expr hm aB HK GK aB) λy a5 q5 h9 xd hq5 hy=>?_)
  exact aj ⟨Vq,.mk bn hw.l2 hw.l3 hw.l4 hw.l5 hw.l6 hw.l7 GO (by simp;exact ⟨hx,hy⟩) hw.d⟩
 ·refine mI (ih.expr (q:=some e) hm aB h5 (λx hx=>by cases hx;exact he) aB) λy a5 q5 h9 xd hq5 hy=>?_
  exact aj ⟨Vq,hw.one hy⟩
def abA (hC:PC s T b) (ih:PG s T b K) (hm:bL m) (h0:0<=a) (h1:a<T.length) (hq:QS q) (ht:T[a.toNat]?=some t) (hk:t.aq≠0) (MR:t.aq≠7) (hK:64*(T.length - a).toNat+17<K+1) :
  Ev (λi=>fy (m i) j (H s T a b k q)) (λr=>St s T b k a 0 r.2/\V r.1) (PP (b+s.length)):=by
 refine bX (F:=λn=>fy n j (H s T a b k q)) hm λm hm=>?_
 show Ev (λi=>lG (m i) (R (m i)) j (H s T a b k q)) _ _
 unfold lG pB pM dZ
 have hl:=hC.oF
 have HK:=hC.next h0 ht hk
 refine kl hm hC h0 h1 λa2 t2 h2 h3 ht2 h4 e2=>?_
 have e2:=e2 t ht (λ_=>MR)
 subst e2
 rw[ht] at ht2;cases ht2
 dsimp only
 refine u9 hm hC aB h3 λa5 t5 v h9 xd _ IW _ JH If=>?_
 have e5:=IW t ht h4
 subst e5
 dsimp only
 refine xV hC aB h3 aB aB λu _=>?_
 dsimp only
 have hd0:V (aK.mk 0 0 [] [] [] [] [] [] [] [] v):=.new bn bn bn bn bn bn bn
 refine bz (λw=>St s T b k a5 0 w.1/\V w.2) (λw hw=>aj ⟨hw.1,hw.2⟩) (λjj hj=>?_)
 refine bz (λ_=>True) (λw _=>?_) (λj2 x9=>?_)
 ·refine aw (λ_=>?_) (λ_=>?_)
  ·exact Gf (ih.field hm aB h3 hq hd0 ht hk MR aB) λx a6 q6 Lu Kp Qm hx=>hj _ ⟨⟨a6,q6,rfl,Lu,Kp,Qm⟩,hx⟩
  refine Pc hm hC aB h3 λa6 r Lu Kp e6 hp=>?_
  have e6:=e6 t ht h4
  subst e6
  dsimp only
  refine aw (λhr=>?_) (λ_=>?_)
  ·exact Gf (ih.pattern hm aB h3 hq hd0 (hp hr) aB) λx a6 q6 Lu Kp Qm hx=>hj _ ⟨⟨a6,q6,rfl,by omega,Kp,Qm⟩,hx⟩
  refine Ar λr _ _=>aw (λ_=>?_) (λ_=>?_)
  ·refine bz (λp=>p=H s T a6 b k q) (λp hp=>?_) (λj3 hj3=>?_)
   ·subst hp
    dsimp only
    refine aH (Fq hm hC aB HK aB λa7 x L9 NW=>?_)
    dsimp only
    refine sV hm hC aB NW aB λa8 t8 Qn Mi _ _ _ _=>mI (ih.expr hm aB Mi hq aB) λx a9 q9 Yg h21 hq9 hx=>?_
    exact hj _ ac2
   ·exact acV
  refine sU λr _ _=>aw (λ_=>?_) (λ_=>?_)
  ·refine bz (λp=>p=H s T a6 b k q) (λp hp=>?_) (λj3 hj3=>?_)
   ·subst hp
    dsimp only
    exact aH (hj _ ⟨⟨a6+1,q,rfl,by omega,by omega,hq⟩,.new bn bn bn bn bn bn bn⟩)
   ·exact acV
  refine Ar λr _ _=>aw (λ_=>?_) (λ_=>?_)
  ·refine aH (mI (ih.expr hm aB HK hq aB) λx a9 q9 Yg h21 hq9 hx=>?_)
   exact ahV
  refine Ar λr _ _=>aw (λ_=>?_) (λ_=>?_)
  ·refine aH (Se hm hC aB HK aB λa7 nm L9 NW=>?_)
   dsimp only
   refine DA hm hC aB NW aB λa8 Qn Mi=>mI (ih.expr hm aB Mi hq aB) λx a9 q9 Yg h21 hq9 hx=>?_
   exact ahV
  refine sU λr _ _=>aw (λ_=>?_) (λ_=>?_)
  ·exact Gf (ih.WJ hm aB h3 hq hd0 aB) λx a6 q6 Lu Kp Qm hx=>hj _ ⟨⟨a6,q6,rfl,by omega,Kp,Qm⟩,hx⟩
  ·exact mI (ih.expr hm aB h3 hq aB) λx a9 q9 Yg h21 hq9 hx=>hj _ ac2
 ·refine Ls hm λr _=>aw (λ_=>Hu hm bn λr _=>x9 _ trivial) (λ_=>x9 _ trivial)
end
end
section
variable {s:ByS} {T:List aC} {K:Nat} {m:Nat->Nat}
def Sh (hC:PC s T b) (hm:bL m) (h0:0<=a) (h1:a<T.length) (hq:QS q) {lead:List ByS} (Tu:(lead.length:Int)<=a+1) (Ji:∀ x,x∈lead->x.length<=65536)
  (Hd:∀ {m:Nat->Nat} {a':Int} {q:Option ak} {t:aC},bL m->a<=a'->a'<T.length->QS q->T[a'.toNat]?=some t->t.aq≠0->t.aq≠7->Ev (λi=>fy (m i) j (H s T a' b k q)) (λr=>St s T b k a' 0 r.2/\V r.1) (PP (b+s.length))) :
  Ev (λi=>iN (m i) lead j (H s T a b k q)) (λr=>St s T b k a 0 r.2.2/\r.1.length<=70000/\(∀ d,d∈r.1->V d)/\r.2.1.length<=70000/\∀ x,x∈r.2.1->x.length<=65536) (PP (b+s.length)):=by
 unfold iN oj jk s6 pB pM dL dT
 have hl:=hC.oF
 refine bN hm (λ(x:D×(List ByS)×(List aK)×Int×Bool)=>St s T b k a 0 x.1/\(x.2.1.length:Int)<=x.1.bO+1/\(∀ z,z∈x.2.1->z.length<=65536)/\(x.2.2.1.length:Int)<=x.1.bO+(if x.2.2.2.2 then 0 else 1)/\(∀ d,d∈x.2.2.1->V d)/\x.2.2.2.1<=x.1.bO/\(0<x.2.2.2.1->1<=x.2.2.1.length))
  (λx=>2*(T.length - x.1.bO).toNat+(if x.2.2.2.2 then 1 else 0)) ⟨⟨a,q,rfl,aB,aB,hq⟩,eX,Ji,qI,bn,eX,bn⟩ ?_
 rintro ⟨p,lead,out,e,sep⟩ ⟨⟨a1,q1,hp,h2,h3,hq1⟩,i1,i2,i3,i4,i5,i6⟩ next hn
 dsimp only at hp i1 i2 i3 i4 i5 i6;subst hp;dsimp only at hn i1 i3 i5 ⊢
 have ho3:out.length<=70000:=by cases sep<;>simp at i3<;>omega
 refine abr hm hC aB aB λa2 t r h4 h5 ht hr h7=>?_
 dsimp only
 refine cZ (λhrf=>?_) (λ_=>aj ⟨⟨a2,q1,rfl,aB,aB,hq1⟩,ho3,i4,eX,i2⟩)
 have Fc:=hr hrf
 have HK:=hC.next aB ht Fc
 have htt:=(hC.tok ht).2.2.2.1
 refine kl hm hC aB h5 λa3 t3 h8 h9 Uh xd e3=>?_
 have e3:=e3 t ht h7
 subst e3
 rw[ht] at Uh;cases Uh
 dsimp only
 refine bz (λv=>v=false->t.aq≠7) (λv hv=>?_) (λj1 hj1=>?_)
 ·refine aw (λ_=>?_) (λhvf=>?_)
  ·refine aH (hn _ ⟨ZL,eX,i2,?_,i4,eX,i6⟩ ?_)
   ·dsimp only;cases sep<;>simp at i3 ⊢<;>omega
   ·dsimp only;cases sep<;>simp<;>omega
  have MR:=hv hvf
  refine bz (λv=>v.1=H s T a3 b k q1/\(v.2=true->0<e)) (λv hv=>?_) (λj2 x9=>?_)
  ·obtain ⟨p,w⟩:=v
   obtain ⟨hp,hw⟩:=hv
   dsimp only at hp hw;subst hp;dsimp only
   refine aw (λhwt=>?_) (λ_=>?_)
   ·have ho:=i6 (hw hwt)
    have ho2:(out.length:Int)<=65540:=by cases sep<;>simp at i3<;>omega
    refine aH (W λx hx=>?_)
    have hxd:=i4 x (aQ hx)
    refine aH (hn _ ⟨ZL,eX,i2,?_,λd hd=>?_,eX,λ_=>by simpa using ho⟩ ?_)
    ·dsimp only;cases sep<;>simp at i3 ⊢<;>omega
    ·dsimp only at hd
     obtain w|w:=qu hd
     ·exact i4 d w
     ·subst w;exact acD
    ·dsimp only;cases sep<;>simp<;>omega
   ·refine bz (λv=>v.1=H s T a3 b k q1) (λv hv=>?_) (λj3 hj3=>?_)
    ·obtain ⟨p,w⟩:=v
     dsimp only at hv;subst hv;dsimp only
     refine aw (λ_=>?_) (λ_=>?_)
     ·refine aH (aH (hn _ ⟨ZL,qI,λz hz=>?_,?_,i4,eX,i6⟩ ?_))
      ·obtain w|w:=bH.1 hz
       ·exact i2 z w
       ·simp at w;subst w;exact htt
      ·dsimp only;cases sep<;>simp at i3 ⊢<;>omega
      ·dsimp only;cases sep<;>simp<;>omega
     ·refine bz (λv=>v=false->sep=true) (λv hv=>?_) (λj4 hj4=>?_)
      ·refine aw ZK (λhvf=>?_)
       have hsep:=hv hvf
       subst hsep
       simp at i3
       refine mI (Hd hm aB h9 hq1 ht Fc MR) λd a4 q4 IW JH Oc hd=>?_
       dsimp only
       refine aH (hn _ ⟨⟨a4,q4,rfl,aB,JH,Oc⟩,qI,bn,qI,λz hz=>?_,eX,λ_=>by simp⟩ qI)
       exact ain
      ·refine b8 (λ_=>hj4 _ bn) (λ_=>hj4 _ bn)
    ·refine b8 (λ_=>?_) (λ_=>hj3 _ rfl)
     exact dA (DY hm hC aB h9) λr hr=>hj3 _ hr
  ·refine b8 (λ_=>aR (λhe=>?_) (λ_=>x9 _ J7)) (λ_=>x9 _ J7)
   exact dA (Ir hm hC aB h9 aB aB) λr hr=>x9 _ ⟨hr,λ_=>by omega⟩
 ·refine b8 (λ_=>hj1 _ bn) (λMR=>sU λr _ _=>hj1 _ λ_=>MR)
def Ö (hC:PC s T b) (hX:Iu s b):∀ K,PG s T b K:=by
 intro K
 induction K with
 | zero=>
  constructor
  all_goals (intros;(try intro _ _ _ _ _ _ _ _ _);exact ao ‹_<0› GL)
 | succ K ih=>
  exact {
   expr:=λhm h0 h1 hq hK=>abt hC ih hm h0 h1 hq hK
   alt:=λhm h0 h1 hq hK=>af3 hC ih hm h0 h1 hq hK
   MS:=λhm h0 h1 hq hK=>abu hC ih hm h0 h1 hq hK
   bin:=λhm h0 h1 hq G2 hl5 hK=>af4 hC ih hm h0 h1 hq G2 hl5 hK
   unary:=λhm h0 h1 hq hK=>Ñ hC ih hm h0 h1 hq hK
   post:=λhm h0 h1 hq hK=>abv hC ih hm h0 h1 hq hK
   Sg:=λhm h0 h1 hq hK=>abw hC ih hm h0 h1 hq hK
   named:=λhm h0 h1 hq ht hk hK=>Ó hC ih hm h0 h1 hq ht hk hK
   Lt:=λhm h0 h1 ht hk _=>Yj hC hX hm h0 h1 ht hk
   parens:=λhm h0 h1 hq hK=>Yk hC ih hm h0 h1 hq hK
   Ð:=λhm h0 h1 hq hK=>Yl hC ih hm h0 h1 hq hK
   list:=λhm h0 h1 hq hK=>abz hC ih hm h0 h1 hq hK
   block:=λhm h0 h1 hq hK=>Ô hC ih hm h0 h1 hq hK
   args:=λhm h0 h1 hq hK=>abx hC ih hm h0 h1 hq hK
   item:=λhm h0 h1 hq hK=>aby hC ih hm h0 h1 hq hK
   field:=λhm h0 h1 hq hd ht hk MR hK=>Õ hC ih hm h0 h1 hq hd ht hk MR hK
   pattern:=λhm h0 h1 hq hd hp hK=>Uf hC ih hm h0 h1 hq hd hp hK
   WJ:=λhm h0 h1 hq hd hK=>Ug hC ih hm h0 h1 hq hd hK
   decl:=λhm h0 h1 hq ht hk MR hK=>abA hC ih hm h0 h1 hq ht hk MR hK
   decls:=λ{m a k q j} hm h0 h1 hq hK=>by
    refine bX (F:=λn=>iW n j (H s T a b k q)) hm λm hm=>?_;exact Sh (lead:=[]) hC hm h0 h1 hq qI bn λhm2 ha h2 GK ht hk MR=>ih.decl hm2 aB h2 GK ht hk MR aB }
end
def Pe {m:Nat->Nat} (hm:bL m) {l:List aC} (hl:l.length<=70000):Ev (λi=>gi (m i) l) (λ_=>True) di:=by
 unfold gi;refine ai (Q:=λ_=>True) ?_ λy _=>aj trivial;unfold jJ;refine bN hm (λ(x:Int)=>0<=x/\x<=l.length) (λx=>(l.length - x).toNat) aB ?_;intro x hx next hn;refine aR (λ_=>?_) qn;refine W λt _=>bC (by unfold vn;rfl) ?_;refine aw qn Vt
def abB:∀ (N:Nat) {m:Nat->Nat} {x:ByS} {f:Int},bL m->x.length<N->0<=f->f+x.length<=65536->Ev (λi=>oo (m i) x f) (λr=>jd r.1) di:=by
 intro N
 induction N with
 | zero=>intro m x f _ h;exact ao h GL
 | succ N ih=>
  intro m x f hm hN h0 h1
  refine bX (F:=λn=>oo n x f) hm λm hm=>?_
  show Ev (λi=>tG (m i) (R (m i)) x f) _ _
  unfold tG
  refine ai (Cj hm) λy hy=>?_
  refine jI (λ_=>aj (.leaf dN)) (λhe=>?_)
  have hT:=(hy.2.2 he).2
  have hC:PC x y.1 f:=⟨hT,h0,h1⟩
  have hX:Iu x f:=λhm2 iy h2 h3=>ih hm2 aB h2 aB
  have hl:=hC.oF
  have hp:=hC.pos
  refine ai (Pe hm aB) λz _=>?_
  refine aw (λ_=>aj (.leaf dN)) (λ_=>?_)
  refine Ev.Β (R':=PP (f+x.length)) ?_ ?_
  ·refine mI (s:=x) (T:=y.1) (b:=f) (k:=true) (a:=0) (d:=0) (P:=jd) ((Ö hC hX _).expr hm J5 aB .none Qu) λe a2 q2 h2 h3 GK he=>?_;dsimp only;exact kl hm hC aB aB λa3 t h4 h5 _ _ _=>aj he
  ·rintro p ⟨v,rfl,_,_⟩;refine Ev.Ih ?_;unfold wK;exact aj (.leaf dN)
def Ui {s:ByS} {b:Int} (h1:b+s.length<=65536):Iu s b:=λhm h h2 h3=>abB _ hm Qu h2 aB
section
section
variable {m:Nat->Nat}
variable {l:List Bool}
def MT (hm:bL m) {x:Bool} (hl:l.length<=70000):Ev (λi=>nC (m i) l x) (λ_=>True) di:=by
 unfold nC;refine ai (Q:=λ_=>True) ?_ λy _=>aj trivial;unfold r7;refine bN hm (λ(x:Int)=>0<=x/\x<=l.length) (λx=>(l.length - x).toNat) aB ?_;intro x hx next hn;refine aR (λ_=>?_) qn;refine W λt _=>aw qn Vt
def Fb (hm:bL m) (hl:l.length<=70000):Ev (λi=>aP (m i) l p) (λ_=>True) di:=by
 unfold aP;refine aw qn (λ_=>ai (MT hm hl) λy _=>aj trivial)
def Xv (hm:bL m) {l:mz}:Ev (λi=>qD (m i) l) (λ_=>True) di:=by
 unfold qD;refine ai Mn λy _=>aw (λ_=>ai Mn λy _=>aw qn qn) qn
def Bh (hm:bL m) {l:List ByS} (hl:l.length<=70000) (hs:∀ x,x∈l->x.length<=65536):Ev (λi=>kg (m i) l) (λ_=>True) di:=by
 unfold kg lJ;refine ai (Q:=λ_=>True) ?_ λy _=>aj trivial;refine ai (Q:=λ_=>True) ?_ λy _=>aj trivial;unfold nD;refine bN hm (λ(x:Int)=>0<=x/\x<=l.length) (λx=>(l.length - x).toNat) aB ?_;intro x hx next hn;refine aR (λ_=>?_) qn;refine W λt ht=>?_;have:=hs t (aQ ht);refine ai (Q:=λ_=>True) ?_ λy _=>aw qn Vt;unfold sL;exact ai (Et aB) λy _=>aj trivial
def Qs (hm:bL m) {a b:ByS} (hb:b.length<=60000):Ev (λi=>kz (m i) a b) (λ_=>True) di:=by
 unfold kz;refine aw (λ_=>?_) qn;exact ai (Lk bn aB) λy hy=>ai (rF hm aB) λz _=>aj trivial
def Vw {l:mz}:Ev (λ_=>we l) (λ_=>True) di:=aj trivial
variable {e:ak}
def Pf (hm:bL m):Ev (λi=>jv (m i) e p) (λ_=>True) di:=by
 unfold jv vi;refine ai Mn λy _=>ai BB λy _=>?_;refine aw (λ_=>ai Vw λy _=>ai BB λy _=>aj trivial) (λ_=>?_);refine aw aek (λ_=>?_);refine bz (λ_=>True) (λv _=>aw aek aek) (λj hj=>?_);exact Ū
def abC (hm:bL m):Ev (λi=>mj (m i) e p) (λ_=>True) di:=by
 unfold mj;have M:∀ {l:List Bool},l.length<=70000->Ev (λi=>ag (aP (m i) l p) λy=>.ok y) (λ_=>True) di:=λh=>ai (Fb hm h) λy _=>aj trivial;refine bz (λ_=>True) (λv _=>?_) (λj hj=>?_)
 ·refine aw qn (λ_=>aw Ty (λ_=>?_));refine bz (λ_=>True) (λv _=>?_) (λj hj=>?_)
  ·refine aw Ty (λ_=>?_);refine bz (λ_=>True) (λv _=>?_) (λj hj=>?_)
   ·refine aw Ty (λ_=>aw Vp (λ_=>aw Ty Vp))
   exact Ū
  exact Ū
 exact Ū
def abD (hm:bL m):Ev (λi=>ml (m i) e p) (λ_=>True) di:=by
 unfold ml;have M:∀ {l:List Bool},l.length<=70000->Ev (λi=>ag (aP (m i) l p) λy=>.ok y) (λ_=>True) di:=λh=>ai (Fb hm h) λy _=>aj trivial;refine bz (λ_=>True) (λv _=>?_) (λj hj=>?_)
 ·refine aw qn (λ_=>?_);refine aw Ť (λ_=>?_);refine aw Ť (λ_=>?_);refine aw Ť (λ_=>?_);refine aw Ť (λ_=>?_);refine aw (λ_=>ai Mn λy _=>M bn) Ty
 exact Ū
def af5 (hm:bL m) (he:jd e) {bO:cu}:Ev (λi=>qX (m i) e bO p) (λ_=>True) di:=by
 unfold qX ji;have M:∀ {l:List Bool} {p:Y},l.length<=70000->Ev (λi=>ag (aP (m i) l p) λy=>.ok y) (λ_=>True) di:=λh=>ai (Fb hm h) λy _=>aj trivial;have h2:=he.l2;have h3:=he.l3;refine bz (λ_=>True) (λv _=>?_) (λj hj=>?_)
 ·refine ai (abC hm) λy _=>ai (abD hm) λy _=>?_;refine bz (λ_=>True) (λv _=>?_) (λj hj=>aw (λ_=>hj _ trivial) (λ_=>hj _ trivial));refine bz (λ_=>True) (λv _=>?_) (λj hj=>?_)
  ·refine bz (λ_=>True) (λv _=>?_) (λj hj=>?_)
   ·refine bz (λ_=>True) (λv _=>?_) (λj hj=>?_)
    ·refine bz (λ_=>True) (λv _=>?_) (λj hj=>?_)
     ·exact aw Vp Vp
     exact aw (λ_=>aw Qp Qp) (λ_=>aw Qp Qp)
    exact ah_
   refine aw (λ_=>ai (Pf hm) λy _=>aj trivial) (λ_=>?_);refine bz (λ_=>True) (λv _=>?_) (λj2 x9=>aw (λ_=>x9 _ trivial) (λ_=>x9 _ trivial));refine aw (λ_=>aw Qp Qp) (λ_=>?_);exact aw (λ_=>ai Bg λy _=>ai BB λy _=>hj _ trivial) Qp
  refine aw (λ_=>ai (Bh hm h3 he.l4) λy _=>ai BB λy _=>hj _ trivial) (λ_=>?_);refine aH (ai (Bh hm h3 he.l4) λy _=>ai BB λy _=>hj _ trivial)
 exact aw Qp Qp
end
structure SG (N:Nat):Prop where
 e:∀ {m:Nat->Nat} {x:ak} {bO:cu} {p:Y},bL m->jd x->2*SizeOf.sizeOf x<N->Ev (λi=>bS (m i) x bO p) (λ_=>True) di
 d:∀ {m:Nat->Nat} {x:aK} {t:Bool} {l:Int} {p:Y},bL m->V x->2*SizeOf.sizeOf x<N->Ev (λi=>gP (m i) x t l p) (λ_=>True) di
variable {m:Nat->Nat}
def Iv {N:Nat} (ih:SG N) (hm:bL m) {l:List aK} {t:Bool} {lv:Int} (hl:l.length<=70000) (hs:∀ x,x∈l->V x/\2*SizeOf.sizeOf x<N):Ev (λi=>fH (m i) l t lv p) (λ_=>True) di:=by
 refine bX (F:=λn=>fH n l t lv p) hm λm hm=>?_;show Ev (λi=>kh (m i) (cK (m i)) l t lv p) _ _;unfold kh;refine bN hm (λ(x:Y×Int)=>0<=x.2/\x.2<=l.length) (λx=>(l.length - x.2).toNat) bn ?_;intro x hx next hn;refine aR (λ_=>?_) qn;refine W λd hd=>?_;have:=hs d (aQ hd);exact ai (ih.d hm this.1 this.2) λy _=>aH (hn _ eX eX)
def af6:∀ N,SG N:=by
 intro N
 induction N with
 | zero=>exact ⟨λ_ _ h=>ao h GL,λ_ _ h=>ao h GL⟩
 | succ N ih=>
  refine ⟨?_,?_⟩
  ·intro m x bO p hm he hN;have hls:=he.l1;have hld:=he.l2;refine bX (F:=λn=>bS n x bO p) hm λm hm=>?_;show Ev (λi=>kT (m i) (cK (m i)) x bO p) _ _;unfold kT;refine bz (λ_=>True) (λv _=>?_) acH;refine ai (af5 hm he) λy _=>?_;refine bN hm (λ(w:Y×Int)=>0<=w.2/\w.2<=x.bK.length) (λw=>(x.bK.length - w.2).toNat) bn ?_;intro w hw next hn;refine aR (λ_=>?_) (λ_=>?_)
   ·refine bz (λ_=>True) (λv _=>aH (hn _ eX eX)) (λj hj=>?_);refine W λz hz=>?_;have hzm:=aQ hz;have Ma:=Qt hzm;have hE:∀ {bO:cu} {p:Y},Ev (λi=>bS (m i) z bO p) (λ_=>True) di:=ih.e hm (he.s z hzm) aB;have hB:∀ {bO:cu} {p:Y},Ev (λi=>ag ((cK (m i)).bS z bO p) λy=>j i y) (λ_=>True) di:=ai hE λy _=>hj _ trivial;have hG:Ev (λi=>aI.br (x.aq==14) (aI.br (x.U==0) (.ok p) (.ok p)) (.ok p)) (λ_=>True) di:=aw (λ_=>aw qn qn) qn;refine aw (λ_=>aw aeh aeh)
     aeh
   exact ai (Iv ih hm hld λd hd=>⟨he.d d hd,by have:=Zd hd;omega⟩) λy _=>aj trivial
  ·intro m x t l p hm he hN;have hls:=he.l1;have hlb:=he.l2;have iy:=he.l3;refine bX (F:=λn=>gP n x t l p) hm λm hm=>?_;show Ev (λi=>jA (m i) (cK (m i)) x t l p) _ _;unfold jA vi;refine bz (λ_=>True) (λv _=>?_) acH;refine bz (λ_=>True) (λv _=>?_) (λj hj=>b8 (λ_=>hj _ trivial) (λ_=>hj _ trivial));refine bz (λ_=>True) (λv _=>?_) (λj hj=>aR Qp Qp);refine bz (λ_=>True) (λv _=>?_) (λj hj=>?_)
   ·refine bz (λ_=>True) (λv _=>?_) (λj hj=>?_)
    ·refine bz (λ_=>True) (λv _=>?_) (λj hj=>?_)
     ·refine bz (λ_=>True) (λv _=>?_) (λj hj=>?_)
      ·refine bz (λ_=>True) (λv _=>?_) (λj hj=>aw (λ_=>hj _ trivial) (λ_=>aw (λ_=>hj _ trivial) (λ_=>hj _ trivial)));refine ai BB λy _=>?_;refine bz (λ_=>True) (λv _=>?_) (λj hj=>aw (λ_=>hj _ trivial) (λ_=>aw (λ_=>hj _ trivial) (λ_=>aw (λ_=>hj _ trivial) (λ_=>hj _ trivial))));refine bN hm (λ(w:Y×Int)=>0<=w.2/\w.2<=x.bK.length) (λw=>(x.bK.length - w.2).toNat) bn ?_;intro w hw next hn;refine aR (λ_=>?_) (λ_=>?_)
       ·refine W λz hz=>?_;have hzm:=aQ hz;have Ma:=acr hzm;have hB:∀ {bO:cu} {p:Y},Ev (λi=>ag ((cK (m i)).bS z bO p) λy=>aI.gd (cD (w.2+1)) (next i (y,w.2+1))) (λ_=>True) di:=
         ai (ih.e hm (he.s z hzm) aB) λy _=>aH (hn _ eX eX)
        exact aw (λ_=>aw (λ_=>hB) (λ_=>hB)) (λ_=>hB)
       exact ai (Iv ih hm hlb λd hd=>⟨he.d d hd,by have:=af1 hd;omega⟩) λy _=>aj trivial
      exact ah_
     refine aw (λ_=>hj _ trivial) (λ_=>aw (λ_=>ai (xa hm) λy _=>ai BB λy _=>hj _ trivial) (λ_=>?_));refine aw (λ_=>ai Mn λy _=>ai BB λy _=>hj _ trivial) (λ_=>?_);exact aw Qp Qp
    exact aw (λ_=>aR Qp Qp) Qp
   refine ai (Bh hm he.l5 he.l6) λy _=>ai (Bh hm iy he.l4) λy _=>ai (Bh hm bn (by simpa using he.l7)) λy _=>?_;exact aw Qp (λ_=>aH (ai BB λy _=>hj _ trivial))
def Ø:Ev (λ_=>lI p) (λ_=>True) di:=by
 unfold lI;exact aw qn (λ_=>aw qn qn)
end
section
section
variable {s:ByS} {T:List aC} {m:Nat->Nat}
def I0 (hC:PC s T b) (hm:bL m) (h0:0<=a) (h1:a<T.length) (hq:QS q) :
  Ev (λi=>iZ (m i) (H s T a b k q)) (λr=>∃ a',r.2=H s T a' b k q/\a<=a'/\a'<T.length/\(r.1.length:Int)<=a' - a/\∀ x,x∈r.1->x.length<=65536) (PP (b+s.length)):=by
 unfold iZ jk s6 pB pM
 have hl:=hC.oF
 refine bN hm (λ(x:D×List ByS)=>∃ a',x.1=H s T a' b k q/\a<=a'/\a'<T.length/\(x.2.length:Int)<=a' - a/\∀ z,z∈x.2->z.length<=65536) (λx=>(T.length - x.1.bO).toNat) ⟨a,rfl,aB,h1,bn,bn⟩ ?_
 rintro ⟨p,l⟩ ⟨a1,hp,h2,h3,h4,h5⟩ next hn
 dsimp only at hp h4 h5;subst hp;dsimp only at hn ⊢
 refine kl hm hC aB h3 λa2 t h6 h7 ht h8 _=>?_
 dsimp only
 refine b8 (λhk=>?_) (λ_=>aj ⟨a2,rfl,aB,h7,eX,h5⟩)
 have HK:=hC.next aB ht aB
 have htt:=(hC.tok ht).2.2.2.1
 refine bz (λv=>v=H s T a2 b k q) (λv hv=>?_) (λj hj=>?_)
 ·subst hv
  refine kl hm hC aB h7 λa3 t3 h8 h9 Uh xd e3=>?_
  have e3:=e3 t ht GV
  subst e3
  rw[ht] at Uh;cases Uh
  dsimp only
  refine aH (aH (hn _ ⟨a3+1,rfl,aB,aB,qI,λz hz=>?_⟩ eX))
  obtain w|w:=bH.1 hz
  ·exact h5 z w
  ·simp at w;subst w;exact htt
 ·refine dA (DY hm hC aB h7) λr hr=>?_
  obtain ⟨x,p⟩:=r
  dsimp only at hr;subst hr
  exact cZ ZF (λ_=>hj _ rfl)
def Hv (hC:PC s T b) (hm:bL m) (h0:0<=a) (h1:a<T.length) :
  Ev (λi=>lj (m i) (H s T a b k q)) (λr=>∃ a',r=H s T a' b k q/\a<a'/\a'<T.length) (PP (b+s.length)):=by
 unfold lj pB pM
 have hl:=hC.oF
 refine bz (λv=>∃ a',v=H s T a' b k q/\a<=a'/\a'+1<T.length) (λv hv=>?_) (λj hj=>?_)
 ·obtain ⟨a',rfl,h2,h3⟩:=hv
  exact aH (aj ⟨a'+1,rfl,by omega,by omega⟩)
 ·refine kl hm hC h0 h1 λa2 t h6 h7 ht h8 _=>?_
  dsimp only
  refine jI (λ_=>?_) (λhk=>hj _ ⟨a2,rfl,h6,hC.next aB ht aB⟩)
  refine kl hm hC aB h7 λa3 t3 h8 h9 Uh xd e3=>?_
  dsimp only
  exact sU λr hr _=>cZ ZK (λxp=>hj _ ⟨a3,rfl,aB,hC.next aB Uh (by have:=(hr xp).1;omega)⟩)
def abE {l:ByS} {c:UInt8}:0<=Lib.lastIndex l [c]+1/\Lib.lastIndex l [c]+1<=l.length:=by
 unfold Lib.lastIndex;split
 ·rename_i h;simp at h;obtain ⟨h,_⟩|⟨i,h1,h2,_⟩:=Lib.lastOcc_spec l [c] (l.length - [c].length+1)
  ·rw[h];omega
  rw[h2];simp at h1;omega
 omega
def Si (hC:PC s T b) (hm:bL m) (h0:0<=a) (h1:a<T.length) {t:aC} (ht:T[a.toNat]?=some t) (hk:t.aq=1) :
  Ev (λi=>ga (m i) (H s T a b k q)) (λr=>∃ a',r.2=H s T a' b k q/\a<a'/\a'<T.length) (PP (b+s.length)):=by
 unfold ga ji pB pM
 have hl:=hC.oF
 have HK:=hC.next h0 ht aB
 refine u9 hm hC h0 h1 λa2 t2 v h2 h3 _ e2 _ _ _=>?_
 have e2:=e2 t ht GV
 subst e2
 dsimp only
 refine aH ?_
 refine bz (λv=>∃ a',v.1=H s T a' b k q/\a2<a'/\a'<T.length) (λv hv=>?_) (λj hj=>?_)
 ·obtain ⟨p,x⟩:=v
  obtain ⟨a3,hp,h4,h5⟩:=hv
  dsimp only at hp;subst hp;dsimp only
  refine kl hm hC aB h5 λa4 t4 h6 h7 ht4 h8 _=>?_
  dsimp only
  refine bz (λv=>v=H s T a4 b k q/\t4.aq=3) (λv hv=>?_) (λj hj=>?_)
  ·obtain ⟨rfl,hk4⟩:=hv
   have hnx4:=hC.next aB ht4 aB
   have htt:=(hC.tok ht4).2.2.2.1
   refine bz (λv=>v.1=H s T a4 b k q) (λv hv=>?_) (λj hj=>?_)
   ·obtain ⟨p,x⟩:=v
    dsimp only at hv;subst hv;dsimp only
    refine aH (ai (Hv hC hm aB hnx4) λr hr=>?_)
    obtain ⟨a5,rfl,h9,xd⟩:=hr
    exact aj ⟨a5,rfl,by omega,xd⟩
   ·refine b8 (λ_=>?_) (λ_=>hj _ rfl)
    refine dA (Q:=λ(r:Int)=>0<=r+1/\r+1<=t4.bM.length) ?_ λr hr=>?_
    ·unfold strings_LastIndex
     exact aH (aj abE)
    ·refine aH (dy hr (dA Mn λy _=>?_))
     exact cZ ZF (λ_=>hj _ rfl)
  ·exact jI ZF (λhk=>hj _ ⟨rfl,hk⟩)
 ·refine kl hm hC aB HK λa4 t4 h6 h7 ht4 h8 _=>?_
  dsimp only
  refine b8 (λ_=>?_) (λ_=>hj _ ⟨a4,rfl,aB,h7⟩)
  refine Fq hm hC aB h7 aB λa5 x h9 xd=>?_
  exact hj _ ⟨a5,rfl,by omega,xd⟩
structure Ś (f:fX):Prop where
 im:f.eB.length<=70000
 dl:f.fi.length<=70000
 ds:∀ d,d∈f.fi->V d
 tl:f.J.length<=70000
 ts:∀ x,x∈f.J->x.length<=65536
def abF (hC:PC s T b) (hX:Iu s b) (hm:bL m) (h0:0<=a) (h1:a<T.length) (hq:QS q) :
  Ev (λi=>jw (m i) (H s T a b k q)) (λr=>Ś r.1) (PP (b+s.length)):=by
 unfold jw ji Bn oj jk ghK pB pM
 have hl:=hC.oF
 refine ai (I0 hC hm h0 h1 hq) λr hr=>?_
 obtain ⟨lead,p⟩:=r
 obtain ⟨a1,hp,h2,h3,h4,h5⟩:=hr
 dsimp only at hp h4 h5;subst hp;dsimp only
 refine bz (λv=>∃ a',v.1=H s T a' b k q/\a<=a'/\a'<T.length/\(v.2.2.length:Int)<=a' - a/\∀ x,x∈v.2.2->x.length<=65536) (λv hv=>?_) (λj hj=>?_)
 ·obtain ⟨p,f,lead⟩:=v
  obtain ⟨a2,hp,h6,h7,h8,h9⟩:=hv
  dsimp only at hp h8 h9;subst hp;dsimp only
  refine bz (λv=>∃ a',v.1=H s T a' b k q/\a2<=a'/\a'<T.length/\v.2.eB.length<=70000) (λv hv=>?_) (λj hj=>?_)
  ·obtain ⟨p,f⟩:=v
   obtain ⟨a3,hp,xd,IW,JH⟩:=hv
   dsimp only at hp JH;subst hp;dsimp only
   refine ai (Sh hC hm aB IW hq aB h9 λhm2 ha h2 GK ht hk MR=>(Ö hC hX _).decl hm2 aB h2 GK ht hk MR Qu) λr hr=>?_
   obtain ⟨ds,tl,p⟩:=r
   obtain ⟨⟨a4,q4,hp,If,Lu,Oc⟩,g1,g2,g3,g4⟩:=hr
   dsimp only at hp g1 g2 g3 g4;subst hp;dsimp only
   refine kl hm hC aB aB λa5 t Kp L9 _ _ _=>?_
   dsimp only
   exact jI (λ_=>tv hm hC aB L9 aB) (λ_=>aj ⟨JH,g1,g2,g3,g4⟩)
  ·refine bN hm (λ(x:D×fX)=>∃ a',x.1=H s T a' b k q/\a2<=a'/\a'<T.length/\(x.2.eB.length:Int)<=a') (λx=>(T.length - x.1.bO).toNat) ⟨a2,rfl,aB,h7,qI⟩ ?_
   rintro ⟨p,f⟩ ⟨a3,hp,xd,IW,JH⟩ next hn
   dsimp only at hp JH;subst hp;dsimp only at hn ⊢
   refine kl hm hC aB IW λa4 t If Lu ht _ _=>?_
   dsimp only
   have hI:∀ {K:Nat->dF×D->aI (fX×D)},t.aq=1->(∀ a' x,a4<a'->a'<T.length->Ev (λi=>K i (x,H s T a' b k q)) (λr=>Ś r.1) (PP (b+s.length)))->Ev (λi=>ag (ga (m i) (H s T a4 b k q)) (K i)) (λr=>Ś r.1) (PP (b+s.length)):=by
    intro K hk hK
    refine ai (Si hC hm aB Lu ht hk) λr hr=>?_
    obtain ⟨x,p⟩:=r
    obtain ⟨a5,hp,Kp,L9⟩:=hr
    dsimp only at hp;subst hp
    exact hK a5 x Kp L9
   refine Ar λr hr _=>aw (λxp=>?_) (λ_=>hj _ ⟨a4,rfl,aB,Lu,eX⟩)
   have hk:=(hr xp).1
   refine b8 (λh0=>?_) (λh0=>?_)
   ·exact aix
   ·refine aH (W λu _=>jI (λ_=>?_) (λ_=>hj _ ⟨a4,rfl,aB,Lu,eX⟩))
    exact aix
 ·refine kl hm hC aB h3 λa4 t If Lu ht _ _=>?_
  dsimp only
  refine Ar λr hr _=>aw (λxp=>?_) (λ_=>hj _ ⟨a4,rfl,aB,Lu,eX,h5⟩)
  have hk:=(hr xp).1
  have HK:=hC.next aB ht aB
  refine aH (Fq hm hC aB HK aB λa5 x Kp L9=>?_)
  dsimp only
  refine ai (Hv hC hm aB L9) λr hr=>?_
  obtain ⟨a6,rfl,NW,Qn⟩:=hr
  refine ai (I0 hC hm aB Qn hq) λr hr=>?_
  obtain ⟨l2,p⟩:=r
  obtain ⟨a7,hp,Mi,Yg,h21,h22⟩:=hr
  dsimp only at hp h21 h22;subst hp;dsimp only
  refine aH (hj _ ⟨a7,rfl,aB,Yg,qI,λz hz=>?_⟩)
  obtain w|w:=bH.1 hz
  ·exact h5 z w
  ·exact h22 z w
end
variable {m:Nat->Nat}
def Ù (hm:bL m) {f:fX} (hf:Ś f):Ev (λi=>r9 (m i) f) (λ_=>True) di:=by
 unfold r9 vi;have hi:=hf.im;refine bz (λ_=>True) (λv _=>?_) (λj hj=>?_)
 ·refine bN hm (λ(x:Y×Int)=>0<=x.2/\x.2<=f.eB.length) (λx=>(f.eB.length - x.2).toNat) bn ?_;intro x hx next hn;refine aR (λ_=>?_) (λ_=>?_)
  ·refine W λd hd=>ai Mn λy _=>ai BB λy _=>aH (hn _ eX eX)
  exact ai (Iv (af6 (2*SizeOf.sizeOf f.fi+1)) hm hf.dl λd hd=>⟨hf.ds d hd,by have:=ng hd;omega⟩) λy _=>ai Ø λy _=>aj trivial
 refine aw (λ_=>?_) (λ_=>?_)
 ·exact ai (Bh hm hf.tl hf.ts) λy _=>ai BB λy _=>hj _ trivial
 exact ai Mn λy _=>ai (Bh hm hf.tl hf.ts) λy _=>ai BB λy _=>hj _ trivial
def af7:fX:=fX.mk [] [] [] []
variable {s:ByS}
def Lv (hm:bL m):Ev (λi=>qE (m i) s) (λr=>0<=r.2.At/\r.2.At<=s.length/\(r.2.eU=0->r.2.At=0/\Ś r.1)/\(r.2.eU≠0->r.1=af7)) di:=by
 unfold qE;refine ai (Cj hm) λy hy=>?_;refine jI ahA (λhe=>?_);have hT:=(hy.2.2 he).2;have hC:PC s y.1 0:=⟨hT,bn,acC⟩;have hX:Iu s 0:=Ui hC.bs;have hp:=hC.pos;refine Ev.Β (R':=PP (0+s.length)) ?_ ?_
 ·refine ai (abF hC hX hm J5 aB .none) λr hr=>?_;refine dA (Ù hm hr) λz _=>?_;refine aw (λ_=>aj ⟨bn,bn,bn,λ_=>rfl⟩) (λ_=>aj ⟨bn,bn,λ_=>⟨rfl,hr⟩,bn⟩)
 rintro p ⟨v,rfl,h1,h2⟩;refine Ev.Ih ?_;unfold r8 qC;exact aj ⟨h1,qI,bn,λ_=>rfl⟩
end
end Go.Abs
namespace Go.Abs
variable {r r' u u' o s c:ByS} {p:Nat->UInt8->Bool} {i n a b:Nat}
def run (p:Nat->UInt8->Bool):Nat->ByS->Nat
 | _,[]=>0
 | i,b::u=>if p i b then 1+run p (i+1) u else 0
def Ck:∀ {u:ByS} {i:Nat},run p i u<=u.length
 | [],_=>by simp[run]
 | b::u,i=>by
  simp only[run];split
  ·have:=Ck (u:=u) (i:=i+1);simp;omega
  simp
def Cm:∀ {u:ByS} {i j:Nat},j<run p i u->∃ b,u[j]?=some b/\p (i+j) b=true
 | [],_,_,h=>by simp[run] at h
 | b::u,i,j,h=>by
  simp only[run] at h;split at h
  ·rename_i hb;cases j with
   | zero=>exact ⟨b,rfl,hb⟩
   | succ j=>
    obtain ⟨c,h1,h2⟩:=Cm (u:=u) (i:=i+1) (j:=j) aB
    exact ⟨c,FY,by rw[<- h2];congr 1;omega⟩
  omega
def zO:∀ {u:ByS} {i:Nat} {b:UInt8},u[run p i u]?=some b->p (i+run p i u) b=false
 | [],_,_,h=>by simp at h
 | c::u,i,b,h=>by
  simp only[run] at h ⊢;split at h
  ·rename_i hb;rw[aL hb];rw[show 1+run p (i+1) u=run p (i+1) u+1 by omega] at h ⊢;have:=zO (u:=u) (i:=i+1) (b:=b) jg;rw[<- this];congr 1;omega
  rename_i hb;rw[aE hb];simp at h;subst h;simpa using hb
def run_eq (h1:∀ j,j<n->∃ b,u[j]?=some b/\p (i+j) b=true) (h2:∀ b,u[n]?=some b->p (i+n) b=false):run p i u=n:=by
 obtain h|h|h:=Nat.lt_trichotomy (run p i u) n
 ·obtain ⟨b,h3,h4⟩:=h1 _ h;rw[zO h3] at h4;cases h4
 ·exact h
 obtain ⟨b,h3,h4⟩:=Cm h;rw[h2 b h3] at h4;cases h4
def Bk (o:Option UInt8):Prop:=o=none\/o=some 32\/o=some 9\/o=some 10
def LA (r r':ByS):Prop:=∀ j:Nat,(∀ i:Nat,i<j->r'[i]?=r[i]?/\¬ Bk r'[i]?)->r'[j]?=r[j]?\/Bk r'[j]?
def Sj {j:Nat} (h:j<c.length):(c++r')[j]?=(c++r)[j]?:=by
 rw[fR h,fR h]
def NX:(c++r)[c.length]?=r[0]?:=by rw[gH aB];simp
def Ú:(c++r)[c.length+1]?=r[1]?:=by rw[gH aB];simp
def LA.run (h:LA r r') (hp:∀ i,p i 32=false/\p i 9=false/\p i 10=false) (hc:run p i (c++r)<=c.length):run p i (c++r')=run p i (c++r):=by
 refine run_eq (λj hj=>?_) λb hb=>?_
 ·obtain ⟨b,h1,h2⟩:=Cm hj;exact ⟨b,by rw[Sj (r:=r) aB];exact h1,h2⟩
 obtain q|q:=fN (Go.Abs.run p i (c++r)) c.length
 ·rw[Sj (r:=r) q] at hb;exact zO hb
 have e:Go.Abs.run p i (c++r)=c.length:=by omega
 rw[e,NX] at hb;rw[e];obtain q|q|q|q|q:=h 0 Zl
 ·rw[q] at hb;have:=zO (p:=p) (u:=c++r) (i:=i) (b:=b) (by rw[e,NX];exact hb);rwa [e] at this
 ·rw[q] at hb;cases hb
 ·rw[q] at hb;cases hb;exact (hp _).1
 ·rw[q] at hb;cases hb;exact (hp _).2.1
 rw[q] at hb;cases hb;exact (hp _).2.2
def MU (b:UInt8):Bool:=(decide (97<=b)&&decide (b<=122))||(decide (65<=b)&&decide (b<=90))||b==95
def xZ (b:UInt8):Bool:=decide (48<=b)&&decide (b<=57)
def pW (i:Nat) (b:UInt8):Bool:=MU b||(decide (0<i)&&xZ b)||(decide (i=0)&&b==35)
def pD (_:Nat) (b:UInt8):Bool:=xZ b
def pC (_:Nat) (b:UInt8):Bool:=b !=10
def Û (i:Nat):pD i 32=false/\pD i 9=false/\pD i 10=false:=⟨show xZ 32=false by decide,show xZ 9=false by decide,show xZ 10=false by decide⟩
def qH (u:ByS):Nat:=
 if run pW 0 u=1/\(u[0]?=some 35\/u[0]?=some 95) then 0 else run pW 0 u
def As (u:ByS) (a:Nat):Bool:=u[a]?==some 46&&(match u[a+1]? with|some d=>xZ d|none=>false)
def E3 (u:ByS):Nat:=
 if As u (run pD 0 u)=true then run pD 0 u+1+run pD 0 (u.drop (run pD 0 u+1)) else run pD 0 u
def qk:ByS->Option (Nat×Bool)
 | []=>none
 | [b]=>if b=34 then some (1,false) else none
 | b::d::u=>if b=34 then some (1,false) else if b=92 then (qk u).map λx=>(x.1+2,x.2||d==40) else (qk (d::u)).map λx=>(x.1+1,x.2)
def ops:List ByS:=[[95,124,95],[46,46,46],[61,61],[33,61],[60,61],[62,61],[61,126],[33,126],[38,38],[124,124],[95],[40],[41],[91],[93],[123],[125],[58],[44],[46],[63],[33],[42],[38],[124],[61],[60],[62],[43],[45],[47],[37]]
def Lw (u:ByS):ByS:=(ops.find? λo=>o.isPrefixOf u).getD []
def ext (u:ByS):Option (Nat×Nat):=
 if [47,47].isPrefixOf u=true then some (6,run pC 0 u) else
 if 0<qH u then some (1,qH u) else
 match u with
 | []=>none
 | c::w=>if xZ c=true then some (2,E3 u) else if c=34 then (qk w).map λx=>(3,x.1+1) else if Lw u=[] then none else some (5,(Lw u).length)
def Sl:qH u<=run pW 0 u:=by unfold qH;split<;>omega
def Ü (h:LA r r') (ha:a<=c.length) (hd:a+1<c.length\/As (c++r) a=false):As (c++r') a=As (c++r) a:=by
 by_cases q:a+1<c.length
 ·unfold As;rw[Sj (r:=r) aB,Sj (r:=r) q]
 have hd:As (c++r) a=false:=hd.resolve_left q;rw[hd];cases e:As (c++r') a with
 | false=>rfl
 | true=>
  exfalso
  have e2:=e
  unfold As at e hd
  simp only[bm,cg] at e
  obtain ⟨e1,e3⟩:=e
  by_cases q2:a<c.length
  ·have e4:a+1=c.length:=by omega
   rw[Sj (r:=r) q2] at e1;rw[e1,e4,NX] at hd;rw[e4,NX] at e3;obtain w|w|w|w|w:=h 0 Zl
   ·rw[w] at e3;simp[e3] at hd
   ·rw[w] at e3;cases e3
   all_goals (rw[w] at e3;revert e3;decide)
  ·have e4:a=c.length:=by omega
   subst e4;rw[NX] at e1;rw[Ú] at e3;have w0:r'[0]?=r[0]?:=by
    obtain w|w|w|w|w:=h 0 Zl
    ·exact w
    all_goals (rw[w] at e1;cases e1)
   rw[NX,Ú,<- w0,e1] at hd;rcases h 1 (λi hi=>by
    obtain rfl:i=0:=by omega
    exact ⟨w0,by rw[e1];simp[Bk]⟩) with w|w|w|w|w
   ·rw[w] at e3;simp[e3] at hd
   ·rw[w] at e3;cases e3
   all_goals (rw[w] at e3;revert e3;decide)
def af8 (h:LA r r') (hc:E3 (c++r)=c.length):E3 (c++r')=c.length:=by
 unfold E3 at hc ⊢;split at hc
 ·rename_i hd;have e1:=h.run (p:=pD) (i:=0) (c:=c) Û aB;have e2:=Ü h (c:=c) (a:=run pD 0 (c++r)) aB (by
   have:(c++r)[run pD 0 (c++r)+1]?≠none:=by
    intro q;unfold As at hd;rw[q] at hd;simp at hd
   by_cases w:run pD 0 (c++r)+1<c.length
   ·exact .inl w
   exfalso;have e3:run pD 0 ((c++r).drop (run pD 0 (c++r)+1))=0:=by omega
   have Hg:(match (c++r)[run pD 0 (c++r)+1]? with|some d=>xZ d|none=>false)=true:=by
    unfold As at hd;simp only[bm] at hd;exact hd.2
   cases e4:(c++r)[run pD 0 (c++r)+1]? with
   | none=>exact this e4
   | some d=>
    rw[e4] at Hg
    have:=zO (p:=pD) (i:=0) (u:=(c++r).drop (run pD 0 (c++r)+1)) (b:=d) (by rw[e3,dD];exact e4)
    simp[pD,Hg] at this)
  rw[e1,aL (e2.trans hd)];generalize ha:run pD 0 (c++r)=a at hc;rw[oz aB] at hc ⊢;have:=h.run (p:=pD) (i:=0) (c:=c.drop (a+1)) Û qI;omega
 rename_i hd;have e1:=h.run (p:=pD) (i:=0) (c:=c) Û aB;have e2:=Ü h (c:=c) (a:=run pD 0 (c++r)) aB (.inr (by simpa using hd));rw[e1,e2,aE hd,hc]
def Uj:∀ {u:ByS} {x:Nat×Bool},qk u=some x->x.1<=u.length
 | [],_,h=>by cases h
 | [b],x,h=>by
  simp only[qk] at h;split at h
  ·cases h;simp
  cases h
 | b::d::u,x,h=>by
  simp only[qk] at h;split at h
  ·cases h;simp
  split at h
  ·cases e:qk u with
   | none=>rw[e] at h;cases h
   | some y=>rw[e] at h;cases h;have:=Uj e;simp;omega
  cases e:qk (d::u) with
  | none=>rw[e] at h;cases h
  | some y=>rw[e] at h;cases h;have:=Uj e;simp at this ⊢;omega
def abG {x:Nat×Bool} (h:qk u=some x):0<x.1:=by
 match u,h with
 | [],h=>cases h
 | [b],h=>
  simp only[qk] at h
  split at h
  ·cases h;simp
  ·cases h
 | b::d::u,h=>
  simp only[qk] at h
  split at h
  ·cases h;simp
  split at h
  ·cases e:qk u with
   | none=>rw[e] at h;cases h
   | some y=>rw[e] at h;cases h;simp
  ·cases e:qk (d::u) with
   | none=>rw[e] at h;cases h
   | some y=>rw[e] at h;cases h;simp
def Ph:∀ {o u:ByS},o.isPrefixOf u=true↔∀ i,i<o.length->u[i]?=o[i]?
 | [],u=>by simp
 | a::o,[]=>by
  simp only[List.isPrefixOf,fF,false_iff];intro h;have:=h 0 bn;simp at this
 | a::o,b::u=>by
  rw[List.isPrefixOf_cons_cons,bm,Ph];constructor
  ·rintro ⟨h1,h2⟩ i hi;cases i with
   | zero=>simp at h1;simp[h1]
   | succ i=>simpa using h2 i FZ
  intro h;refine ⟨by have:=h 0 bn;simp at this;simp[this],λi hi=>by simpa using h (i+1) FZ⟩
def isB (b:UInt8):Prop:=b=32\/b=9\/b=13\/b=10
end Go.Abs
namespace Go.Abs
open aI
variable {s x u:ByS} {α β γ δ:Type} {n:Nat} {b a a' v en ea j l:Int} {t:aC} {k c k0:Bool} {q:Option ak} {p:Prop}
section
def rM:∀ (p s:ByS),p.isPrefixOf s=(s.take p.length==p)
 | [],s=>by simp
 | a::p,[]=>by simp
 | a::p,b::s=>by
  rw[List.isPrefixOf_cons_cons,rM p s];simp only[j6,oC];rw[cY];simp;exact λ_=>⟨λh=>h.symm,λh=>h.symm⟩
def Au (s p:ByS):strings_HasPrefix s p=.ok (p.isPrefixOf s):=by
 unfold strings_HasPrefix stringslite_HasPrefix;rw[rM];by_cases h:p.length<=s.length
 ·have e:decide ((s.length:Int)>=(p.length:Int))=true:=by simp;omega
  rw[e];simp only[aI.br,aI.gd];rw[aL ⟨aB,aB⟩];simp[ag,sI]
 have e:decide ((s.length:Int)>=(p.length:Int))=false:=by simp;omega
 rw[e];simp only[aI.br,ag];congr 1;symm;apply beq_eq_false_iff_ne.2;intro q;have:=iP List.length q;simp at this;omega
variable {a b:UInt8}
def adL:a<=b↔(a.toNat:Int)<=(b.toNat:Int):=by rw[UInt8.le_iff_toNat_le];omega
def WL:a=b↔(a.toNat:Int)=(b.toNat:Int):=by
 constructor
 ·rintro rfl;rfl
 intro h;exact rP.1 aB
def Uk (b:UInt8):MU b=(decide (97<=(b.toNat:Int)/\(b.toNat:Int)<=122)||decide (65<=(b.toNat:Int)/\(b.toNat:Int)<=90)||decide ((b.toNat:Int)=95)):=by
 unfold MU;rw[cY];simp only[mw,bm,decide_eq_true_eq,cg,adL,WL];exact Iff.rfl
def Pj (b:UInt8):xZ b=decide (48<=(b.toNat:Int)/\(b.toNat:Int)<=57):=by
 unfold xZ;rw[cY];simp only[bm,decide_eq_true_eq,adL];exact Iff.rfl
def C0 (b:UInt8):lK (b.toNat:Int)=.ok (xZ b):=by
 rw[Pj];unfold lK;by_cases h1:(48:Int)<=b.toNat<;>simp[h1,aI.br]
def Pm (b:UInt8):Bool:=MU b&&b !=95
def Ly (b:UInt8):lU (b.toNat:Int)=.ok (Pm b):=by
 have e:Pm b=(decide (97<=(b.toNat:Int)/\(b.toNat:Int)<=122)||decide (65<=(b.toNat:Int)/\(b.toNat:Int)<=90)):=by
  unfold Pm;rw[Uk,cY];simp only[bm,mw,decide_eq_true_eq,bne_iff_ne,ne_eq,WL];rw[show ((95:UInt8).toNat:Int)=95 from rfl];omega
 rw[e];unfold lU;by_cases h1:(97:Int)<=b.toNat<;>by_cases h2:(b.toNat:Int)<=122<;>by_cases h3:(65:Int)<=b.toNat<;>simp[h1,h2,h3,aI.br]<;>omega
def Ý (b:UInt8):Ba (b.toNat:Int)=.ok (MU b||xZ b):=by
 unfold Ba;rw[Ly,C0];have:MU b=(Pm b||b==95):=by
  unfold Pm;cases e:b==95 with
  | false=>simp[bne,e]
  | true=>rw[cg.1 e];rfl
 rw[this,show ((b.toNat:Int)==95)=(b==95) by rw[cY,cg,cg,WL];exact Iff.rfl];cases Pm b<;>cases xZ b<;>simp[ag,aI.br]
section
variable {Q:α->Prop} {R:sX->Prop} {m:Nat->Nat} {a:Int}
def Sm {v:Int} (h0:0<=a) (hv:a<=v):(s.drop a.toNat)[(v - a).toNat]?=s[v.toNat]?:=by
 rw[dD,show a.toNat+(v - a).toNat=v.toNat by omega]
def JN {p:Nat->UInt8->Bool} {i:Nat} (h0:0<=a) (h1:a<=s.length):a+run p i (s.drop a.toNat)<=s.length:=by
 have:=Ck (p:=p) (u:=s.drop a.toNat) (i:=i);simp at this;omega
def Pn {F:UInt8->aI Bool} {p:UInt8->Bool} (hF:∀ b,F b=.ok (p b)) (hm:bL m) (h0:0<=a) (ha:a<=s.length) (hs:s.length<=65536) {j:Nat->Int->aI α} (hj:Ev (λi=>j i (a+run (λ_=>p) 0 (s.drop a.toNat))) Q R) :
  Ev (λi=>aI.iter (λnext (v:Int)=>aI.br (decide (v<(List.length s:Int))) (aI.el s v λb=>ag (F b) λy=>aI.br y (aI.gd (cD (v+1)) (next (v+1))) (j i v)) (j i v)) (m i) a) Q R:=by
 have hl:=JN (p:=λ_=>p) (i:=0) h0 ha
 refine bN hm (λv=>a<=v/\v<=a+run (λ_=>p) 0 (s.drop a.toNat)) (λv=>(s.length - v).toNat) ⟨aB,aB⟩ ?_
 intro v hv next hn
 have Km:∀ x,s[v.toNat]?=some x->p x=decide (v<a+run (λ_=>p) 0 (s.drop a.toNat)):=by
  intro x hx
  rw[<- Sm h0 hv.1] at hx
  by_cases q:v<a+run (λ_=>p) 0 (s.drop a.toNat)
  ·obtain ⟨b,h1,h2⟩:=Cm (p:=λ_=>p) (u:=s.drop a.toNat) (i:=0) (j:=(v - a).toNat) aB
   rw[hx] at h1;cases h1
   rw[h2,aX q]
  ·have e:v - a=run (λ_=>p) 0 (s.drop a.toNat):=by omega
   rw[e] at hx
   have:=zO (p:=λ_=>p) (u:=s.drop a.toNat) (i:=0) (b:=x) Es
   rw[this,bw q]
 refine aR (λiy=>gm aB iy λx hx=>?_) (λFE=>?_)
 ·have:=Km x hx
  refine bC (hF x) (aw (λh=>?_) (λh=>?_))
  ·rw[h] at this
   have:=bh this.symm
   exact Kh
  ·rw[h] at this
   have:=aW this.symm
   rw[show v=a+run (λ_=>p) 0 (s.drop a.toNat) by omega]
   exact hj
 ·rw[show v=a+run (λ_=>p) 0 (s.drop a.toNat) by omega]
  exact hj
def mO (k:Int) (c:UInt8) (hc:(c.toNat:Int)=k):((b.toNat:Int)==k)=(b==c):=by
 subst hc;rw[cY,cg,cg,WL]
def Þ:pD=λ_=>xZ:=rfl
def Po (u:ByS):Nat:=if run pD 0 u=0 then 0 else E3 u
def abH:Po u<=u.length:=by
 unfold Po;split
 ·omega
 unfold E3;split
 ·rename_i h;have h2:=Ck (p:=pD) (u:=u.drop (run pD 0 u+1)) (i:=0);unfold As at h;simp only[bm,cg] at h;have:=(an.1 h.1).1;simp at h2;omega
 exact Ck
def DZ (hm:bL m) (h0:0<=a) (ha:a<=s.length) (hs:s.length<=65536):Ev (λi=>wT (m i) s a) (λr=>r=a+Po (s.drop a.toNat)) di:=by
 unfold wT;have hl:=JN (p:=pD) (i:=0) h0 ha;refine bz (λv=>v=a+run pD 0 (s.drop a.toNat)) (λv hv=>?_) (λj hj=>Pn (p:=xZ) C0 hm h0 ha hs (hj _ rfl));refine bz (λz=>z=(decide (run pD 0 (s.drop a.toNat)≠0)&&As (s.drop a.toNat) (run pD 0 (s.drop a.toNat)))) (λz hz=>?_) (λj hj=>?_)
 ·refine aw (λh=>?_) (λh=>?_)
  ·rw[h] at hz;simp only[Bool.true_eq,bm,decide_eq_true_eq] at hz;have hd:=hz.2;unfold As at hd;simp only[bm,cg] at hd;have:=(an.1 hd.1).1;simp at this;refine aH (Pn (p:=xZ) C0 hm aB aB hs (aj ?_));unfold Po E3;rw[aE hz.1,aL hz.2,kF,hv,show (a+(run pD 0 (s.drop a.toNat):Int)+1).toNat=a.toNat+(run pD 0 (s.drop a.toNat)+1) by omega];rw[Þ];omega
  rw[h] at hz;refine aj ?_;unfold Po E3;split
  ·omega
  rename_i h2;simp only[ne_eq,h2,not_false_eq_true,decide_true,pU] at hz;rw[aE (by rw[<- hz];simp),hv]
 subst hv;refine aR (λh=>?_) (λh=>hj _ ?_)
 ·have uB:run pD 0 (s.drop a.toNat)≠0:=by omega
  have hd:∀ (z:Bool),z=As (s.drop a.toNat) (run pD 0 (s.drop a.toNat))->z=(decide (run pD 0 (s.drop a.toNat)≠0)&&As (s.drop a.toNat) (run pD 0 (s.drop a.toNat))):=by
   intro z hz;rw[hz];simp[uB]
  have g0:(s.drop a.toNat)[run pD 0 (s.drop a.toNat)]?=s[(a+(run pD 0 (s.drop a.toNat):Int)).toNat]?:=by
   rw[dD];congr 1;omega
  have g1:(s.drop a.toNat)[run pD 0 (s.drop a.toNat)+1]?=s[(a+(run pD 0 (s.drop a.toNat):Int)+1).toNat]?:=by
   rw[dD];congr 1;omega
  refine aH (aR (λh2=>?_) (λh2=>hj _ (hd _ ?_)))
  ·refine W λx hx=>aw (λh3=>?_) (λh3=>hj _ (hd _ ?_))
   ·refine aH (gm aB h2 λy hy=>bC (C0 y) (hj _ (hd _ ?_)));rw[mO 46 46 rfl] at h3;unfold As;rw[g0,g1,hx,hy,cg.1 h3];simp
   rw[mO 46 46 rfl] at h3;unfold As;rw[g0,hx];have:(some x==some (46:UInt8))=false:=h3;rw[this];rfl
  unfold As;rw[g1,gv (l:=s) aB];simp
 have:run pD 0 (s.drop a.toNat)=0:=by omega
 simp[this]
def alL (i:Nat):pW (i+1)=λb=>MU b||xZ b:=by funext b;simp[pW]
def ajB:∀ {i:Nat},run pW (i+1) u=run (λ_ b=>MU b||xZ b) 0 u:=by
 have key:∀ (u:ByS) (i j:Nat),run pW (i+1) u=run (λ_ b=>MU b||xZ b) j u:=by
  intro u
  induction u with
  | nil=>intros;rfl
  | cons b u ih=>intro i j;simp only[run,alL,ih (i+1) (j+1)]
 exact λ{i}=>key u i 0
def LB (hm:bL m) (h0:0<=a) (ha:a<s.length) (hs:s.length<=65536):Ev (λi=>yy (m i) s a) (λr=>r=a+qH (s.drop a.toNat)) di:=by
 unfold yy;obtain ⟨x,hx⟩:∃ x,s[a.toNat]?=some x:=⟨_,az aB⟩;have hu:s.drop a.toNat=x::s.drop (a+1).toNat:=by
  rw[an] at hx;obtain ⟨q1,q2⟩:=hx;rw[bZ q1,q2,show (a+1).toNat=a.toNat+1 by omega]
 refine aH (bz (λv=>v=a+1+run (λ_ b=>MU b||xZ b) 0 (s.drop (a+1).toNat)) (λv hv=>?_) (λj hj=>?_))
 ·have hw:run pW 0 (s.drop a.toNat)=if pW 0 x=true then 1+run (λ_ b=>MU b||xZ b) 0 (s.drop (a+1).toNat) else 0:=by
   rw[hu];simp only[run,ajB]
  have hh:(s.drop a.toNat)[0]?=some x:=by rw[hu];rfl
  have hp:pW 0 x=(MU x||x==35):=by simp[pW]
  have hlL:MU x=(Pm x||x==95):=by
   unfold Pm;cases e:x==95 with
   | false=>simp[bne,e]
   | true=>rw[cg.1 e];rfl
  refine g h0 hx (bC (Ly x) (aw (λh=>aj ?_) (λh=>?_)))
  ·have h95:x≠95:=by unfold Pm at h;simp at h;exact h.2
   have h35:x≠35:=by rintro rfl;revert h;decide
   unfold qH;rw[hh,aE (by simp[h95,h35]),hw,hp,hlL,h,aL bn];omega
  refine g h0 hx (aw (λh2=>?_) (λh2=>g h0 hx (aw (λh3=>?_) (λh3=>aj ?_))))
  ·rw[mO 95 95 rfl,cg] at h2;have GA:run pW 0 (s.drop a.toNat)=1+run (λ_ b=>MU b||xZ b) 0 (s.drop (a+1).toNat):=by rw[hw,hp,h2,aL dN]
   refine aH (aR (λh4=>aj ?_) (λh4=>aj ?_))
   ·unfold qH;rw[aE aB,GA];omega
   unfold qH;rw[aL ⟨aB,.inr (by rw[hh,h2])⟩];simp
  ·rw[mO 35 35 rfl,cg] at h3;have GA:run pW 0 (s.drop a.toNat)=1+run (λ_ b=>MU b||xZ b) 0 (s.drop (a+1).toNat):=by rw[hw,hp,h3,aL dN]
   refine aH (aR (λh4=>aj ?_) (λh4=>aj ?_))
   ·unfold qH;rw[aE aB,GA];omega
   unfold qH;rw[aL ⟨aB,.inl (by rw[hh,h3])⟩];simp
  rw[mO 95 95 rfl] at h2;rw[mO 35 35 rfl] at h3;have GA:run pW 0 (s.drop a.toNat)=0:=by rw[hw,hp,hlL,h,h2,h3];rfl
  unfold qH;rw[aE aB,GA];simp
 exact Pn (p:=λb=>MU b||xZ b) Ý hm aB aB hs (hj _ rfl)
def WM {f:ByS->Bool} {v:Nat}:∀ {l:List ByS} {o:ByS},(∀ i p,i<v->l[i]?=some p->f p=false)->l[v]?=some o->f o=true->l.find? f=some o:=by
 induction v with
 | zero=>
  intro l o _ ho hf
  cases l with
  | nil=>cases ho
  | cons p l=>simp at ho;subst ho;simp[List.find?,hf]
 | succ v ih=>
  intro l o h ho hf
  cases l with
  | nil=>cases ho
  | cons p l=>
   have:=h 0 p aB rfl
   simp only[List.find?,this]
   exact ih (λi q hi hq=>h (i+1) q aB (by simpa using hq)) (by simpa using ho) hf
def Pp {o:ByS} (h0:0<=a):(sub s a (a+(o.length:Int))==o)=o.isPrefixOf (s.drop a.toNat):=by
 rw[rM];simp only[sub];rw[show (a+(o.length:Int)).toNat - a.toNat=o.length by omega]
def Hw (hm:bL m) (h0:0<=a) (ha:a<=s.length) (hs:s.length<=65536):Ev (λi=>uo (m i) s a) (λr=>r=Lw (s.drop a.toNat)) di:=by
 unfold uo ji;refine bC (a:=ops) rfl ?_;have hol:∀ o∈ops,o.length<=3:=by decide
 have e32:ops.length=32:=rfl;refine bN hm (λ(v:Int)=>0<=v/\v<=ops.length/\∀ (i:Nat) p,(i:Int)<v->ops[i]?=some p->p.isPrefixOf (s.drop a.toNat)=false) (λv=>(ops.length - v).toNat) ⟨aB,aB,λi p h=>by omega⟩ ?_;intro v hv next hn;have HK:∀ x,ops[v.toNat]?=some x->x.isPrefixOf (s.drop a.toNat)=false->Ev (λi=>aI.gd (cD (v+1)) (next i (v+1))) (λr=>r=Lw (s.drop a.toNat)) di:=by
  intro x hx hp;have:=(an.1 hx).1;refine aH (hn _ ⟨aB,aB,λi p hi TV=>?_⟩ aB);by_cases q:(i:Int)<v
  ·exact hv.2.2 i p q TV
  rw[show i=v.toNat by omega,hx] at TV;cases TV;exact hp
 refine aR (λh=>?_) (λh=>aj ?_)
 ·refine aH (gm hv.1 h λx hx=>?_);have WI:=hol x (aQ hx);refine aR (λh2=>?_) (λh2=>HK x hx ?_)
  ·refine g hv.1 hx (aH (dy ⟨h0,aB,aB⟩ (g hv.1 hx (aw (λh3=>?_) (λh3=>?_)))))
   ·refine g hv.1 hx (aj ?_);rw[Pp h0] at h3;unfold Lw;rw[WM (v:=v.toNat) (λi p hi hp=>hv.2.2 i p aB hp) hx h3];rfl
   rw[Pp h0] at h3;exact HK x hx h3
  cases e:x.isPrefixOf (s.drop a.toNat) with
  | false=>rfl
  | true=>
   rw[rM,cg] at e
   have:=iP List.length e
   simp at this;omega
 unfold Lw;rw[ls.2 λp hp=>?_]
 ·rfl
 obtain ⟨i,hi⟩:=pF.1 hp;have:=(an.1 hi).1;rw[hv.2.2 i p aB hi];simp
def GB (s:ByS) (c:Bool) (i:Int):Int×Bool:=match qk (s.drop i.toNat) with|some x=>(i+x.1 - 1,c||x.2)|none=>(-1,false)
def WN:qk (34::u)=some (1,false):=by cases u<;>simp[qk]
def WO {d:UInt8}:qk (92::d::u)=(qk u).map λx=>(x.1+2,x.2||d==40):=by simp[qk]
def WQ (h1:b≠34) (h2:b≠92):qk (b::u)=(qk u).map λx=>(x.1+1,x.2):=by
 cases u with
 | nil=>simp[qk,h1]
 | cons d u=>simp[qk,h1,h2]
def Pr (hm:bL m) (h0:0<=a) (ha:a<s.length) (hs:s.length<=65536):Ev (λi=>AD (m i) s a) (λr=>r=GB s false (a+1)) di:=by
 unfold AD;refine aH ?_;refine bN hm (λ(v:Bool×Int)=>a<v.2/\v.2<=s.length+1/\GB s v.1 v.2=GB s false (a+1)) (λv=>(s.length+1 - v.2).toNat) ⟨qI,qI,rfl⟩ ?_;rintro ⟨c,v⟩ ⟨h1,h2,h3⟩ next hn;dsimp only at h1 h2 h3 hn ⊢;refine aR (λh=>?_) (λh=>aj ?_)
 ·refine bz (λ(w:Bool×Int)=>v<=w.2/\w.2<=s.length/\GB s w.1 (w.2+1)=GB s false (a+1)) (λw hw=>?_) (λj hj=>?_)
  ·exact aH (hn _ ⟨eX,eX,hw.2.2⟩ eX)
  refine gm aB h λx hx=>?_;have hu:s.drop v.toNat=x::s.drop (v+1).toNat:=by
   exact aii
  refine aw (λh4=>aj ?_) (λh4=>g aB hx (aw (λh5=>?_) (λh5=>?_)))
  ·rw[mO 34 34 rfl,cg] at h4;subst h4;rw[<- h3];unfold GB;rw[hu,WN];simp
  ·rw[mO 92 92 rfl,cg] at h5;subst h5;have hE:∀ d,s[(v+1).toNat]?=some d->GB s (c||d==40) (v+1+1)=GB s false (a+1):=by
    intro d hd;have Hg:=hd;rw[an] at Hg;obtain ⟨q1,q2⟩:=Hg;rw[<- h3];unfold GB;rw[hu,bZ q1,q2,WO,show (v+1+1).toNat=(v+1).toNat+1 by omega];cases qk (s.drop ((v+1).toNat+1)) with
    | none=>rfl
    | some y=>simp[Bool.or_comm,Bool.or_left_comm];omega
   have hN:¬ v+1<s.length->∀ c,GB s c (v+1+1)=GB s false (a+1):=by
    intro q c';rw[<- h3];unfold GB;rw[hu,dY aB,dY aB];simp[qk]
   refine aH (aw (λhc=>?_) (λhc=>aR (λh6=>?_) (λh6=>?_)))
   ·refine hj _ ⟨eX,eX,?_⟩;dsimp only;by_cases q:v+1<s.length
    ·obtain ⟨d,hd⟩:∃ d,s[(v+1).toNat]?=some d:=⟨_,az aB⟩;have:=hE d hd;rw[hc] at this;simpa using this
    exact hN q _
   ·refine gm aB h6 λd hd=>hj _ ⟨eX,eX,?_⟩;have:=hE d hd;rw[hc] at this;dsimp only;rw[mO 40 40 rfl];simpa using this
   exact hj _ ⟨eX,eX,hN h6 _⟩
  rw[mO 34 34 rfl] at h4;rw[mO 92 92 rfl] at h5;refine hj _ ⟨eX,eX,?_⟩;dsimp only;rw[<- h3];unfold GB;rw[hu,WQ (by simpa using h4) Nl];cases qk (s.drop (v+1).toNat) with
  | none=>rfl
  | some y=>simp;omega
 rw[<- h3];unfold GB;rw[dY aB];simp[qk]
end
end
def Tk {α:Type} (x:aI α) (a:α):Prop:=x=.stuck\/x=.ok a
section
variable {X:Type} {a:α}
def Tk.ok:Tk (.ok a) a:=.inr rfl
def ll:=@Tk.ok
def Tk.of {b:α} (h:b=a):Tk (.ok b) a:=.inr (by rw[h])
def iA:=@Tk.of
def Tk.Α {x:aI β} {c:β} {f:β->aI α} (h:x=.ok c) (hf:Tk (f c) a):Tk (ag x f) a:=by subst h;exact hf
def ob:=@Tk.Α
variable {x:aI α}
def Tk.br {b:Bool} {y:aI α} (ht:b=true->Tk x a) (hf:b=false->Tk y a):Tk (aI.br b x y) a:=by
 cases b with
 | true=>exact ht rfl
 | false=>exact hf rfl
def cz:=@Tk.br
def Tk.gd {p:Prop} [Decidable p] (h:p->Tk x a):Tk (aI.gd p x) a:=by
 unfold aI.gd;split
 ·exact h ‹_›
 exact .inl rfl
def dW:=@Tk.gd
def Tk.el {l:List X} {v:Int} {K:X->aI α} (h:∀ x,0<=v->l[v.toNat]?=some x->Tk (K x) a):Tk (aI.el l v K) a:=by
 unfold aI.el;split
 ·split
  ·exact QC
  exact .inl rfl
 exact .inl rfl
def k8:=@Tk.el
def Tk.jn {j:X->aI α} {p:(X->aI α)->aI α} (J:X->Prop) (hj:∀ v,J v->Tk (j v) a) (hp:∀ j:X->aI α,(∀ v,J v->Tk (j v) a)->Tk (p j) a):Tk (aI.jn j p) a:=hp j hj
def rp:=@Tk.jn
def Tk.iter {body:(X->aI α)->X->aI α} (I:X->Prop) (hb:∀ x,I x->∀ next:X->aI α,(∀ y,I y->Tk (next y) a)->Tk (body next x) a):∀ (n:Nat) {x:X},I x->Tk (aI.iter body n x) a
 | 0,_,_=>.inl rfl
 | n+1,x,h=>hb x h _ λ_ q=>Tk.iter I hb n q
def oS:=@Tk.iter
end
def NY (b:UInt8):r6 (b.toNat:Int)=.ok (MU b):=by
 rw[Uk];unfold r6;by_cases h1:(97:Int)<=b.toNat<;>by_cases h2:(b.toNat:Int)<=122<;>by_cases h3:(65:Int)<=b.toNat<;>by_cases h4:(b.toNat:Int)<=90<;>by_cases h5:(b.toNat:Int)=95<;>first|omega|simp[h1,h2,h3,h4,h5,aI.br,aI.jn]
def Bi (b:UInt8):pf (b.toNat:Int)=.ok (xZ b):=by
 rw[Pj];unfold pf;by_cases h1:(48:Int)<=b.toNat<;>simp[h1,aI.br]
section
variable {m:Nat}
def WR {F:UInt8->aI Bool} {p:UInt8->Bool} (hF:∀ b,F b=.ok (p b)) {j:Int->aI α} {a:α} {v0:Int} (h0:0<=v0) (hv:v0<=u.length) (hj:Tk (j (v0+run (λ_=>p) 0 (u.drop v0.toNat))) a) :
  Tk (aI.iter (λnext (v:Int)=>aI.br (decide (v<(List.length u:Int))) (aI.el u v λb=>ag (F b) λy=>aI.br y (aI.gd (cD (v+1)) (next (v+1))) (j v)) (j v)) m v0) a:=by
 have hl:=JN (p:=λ_=>p) (i:=0) h0 hv
 refine oS (λv=>v0<=v/\v<=v0+run (λ_=>p) 0 (u.drop v0.toNat)) (λv hv2 next hn=>?_) m ⟨aB,aB⟩
 have Km:∀ x,u[v.toNat]?=some x->p x=decide (v<v0+run (λ_=>p) 0 (u.drop v0.toNat)):=by
  intro x hx
  rw[<- Sm h0 hv2.1] at hx
  by_cases q:v<v0+run (λ_=>p) 0 (u.drop v0.toNat)
  ·obtain ⟨b,h1,h2⟩:=Cm (p:=λ_=>p) (u:=u.drop v0.toNat) (i:=0) (j:=(v - v0).toNat) aB
   rw[hx] at h1;cases h1
   rw[h2,aX q]
  ·have e:v - v0=run (λ_=>p) 0 (u.drop v0.toNat):=by omega
   rw[e] at hx
   have:=zO (p:=λ_=>p) (u:=u.drop v0.toNat) (i:=0) (b:=x) Es
   rw[this,bw q]
 refine cz (λiy=>k8 λx _ hx=>ob (hF x) (cz (λh=>dW λ_=>hn _ ?_) (λh=>?_))) (λFE=>?_)
 ·rw[Km x hx] at h
  have:=bh h
  omega
 ·rw[Km x hx] at h
  have:=aW h
  rw[show v=v0+run (λ_=>p) 0 (u.drop v0.toNat) by omega];exact hj
 ·have:=aW FE
  rw[show v=v0+run (λ_=>p) 0 (u.drop v0.toNat) by omega];exact hj
def Ym:Tk (tn m u) (E3 u:Int):=by
 unfold tn;have hl:=Ck (p:=pD) (i:=0) (u:=u);refine rp (λv=>v=run pD 0 u) (λv hv=>?_) (λj hj=>WR (p:=xZ) Bi Cq aB (hj _ (by simp[Þ])));subst hv;refine rp (λz=>z=As u (run pD 0 u)) (λz hz=>?_) (λj hj=>dW λ_=>?_)
 ·refine cz (λh=>dW λ_=>?_) (λh=>?_)
  ·rw[h] at hz;have hd:=hz.symm;unfold As at hd;simp only[bm,cg] at hd;have:=(an.1 hd.1).1;refine WR (p:=xZ) Bi aB aB (iA ?_);unfold E3;rw[aL hz.symm,show ((run pD 0 u:Int)+1).toNat=run pD 0 u+1 by omega,Þ];omega
  rw[h] at hz;refine iA ?_;unfold E3;rw[aE (by rw[<- hz];simp)]
 have g0:((run pD 0 u:Int)).toNat=run pD 0 u:=by omega
 have g1:((run pD 0 u:Int)+1).toNat=run pD 0 u+1:=by omega
 refine cz (λh2=>k8 λx _ hx=>cz (λh3=>dW λ_=>k8 λy _ hy=>ob (Bi y) (hj _ ?_)) (λh3=>hj _ ?_)) (λh2=>hj _ ?_)
 ·rw[g0] at hx;rw[g1] at hy;rw[mO 46 46 rfl] at h3;unfold As;rw[hx,hy,cg.1 h3];simp
 ·rw[g0] at hx;rw[mO 46 46 rfl] at h3;unfold As;rw[hx];have:(some x==some (46:UInt8))=false:=h3;rw[this];rfl
 have:=aW h2;unfold As;rw[gv (l:=u) (i:=run pD 0 u+1) aB];simp
def WS:Tk (vR m u) (qH u:Int):=by
 unfold vR;refine rp (λv=>v=run pW 0 u) (λv hv=>?_) (λj hj=>?_)
 ·subst hv;refine cz (λh=>?_) (λh=>iA ?_)
  ·have h1:run pW 0 u=1:=by have:=cg.1 h;omega
   obtain ⟨b,hb,hp⟩:=Cm (p:=pW) (u:=u) (i:=0) (j:=0) aB;have hp:(MU b||b==35)=true:=by simpa[pW] using hp
   refine k8 λx _ hx=>ob (NY x) (cz (λh2=>iA ?_) (λh2=>k8 λy _ hy=>cz (λh3=>iA ?_) (λh3=>iA ?_)))
   ·have hx:u[0]?=some x:=hx;rw[hb] at hx;cases hx;simp at h2;rw[h2] at hp;have h35:b=35:=by simpa using hp
    unfold qH;rw[aL ⟨h1,.inl (by rw[hb,h35])⟩];rfl
   ·have hy:u[0]?=some y:=hy;rw[mO 95 95 rfl,cg] at h3;unfold qH;rw[aL ⟨h1,.inr (by rw[hy,h3])⟩];rfl
   have hx:u[0]?=some x:=hx;have hy:u[0]?=some y:=hy;rw[hx] at hy;cases hy;rw[mO 95 95 rfl,beq_eq_false_iff_ne] at h3;simp at h2;have h35:x≠35:=by rintro rfl;revert h2;decide
   unfold qH;rw[aE (by rw[hx];simp[h35,h3])]
  have h1:run pW 0 u≠1:=by have:=beq_eq_false_iff_ne.1 h;omega
  unfold qH;rw[aE (λq=>h1 q.1)]
 have hl:=Ck (p:=pW) (i:=0) (u:=u);refine oS (λ(v:Int)=>0<=v/\v<=run pW 0 u) (λv hv next hn=>?_) m ⟨aB,aB⟩;have Km:∀ x,u[v.toNat]?=some x->(MU x||(decide (0<v)&&xZ x)||(decide (v=0)&&x==35))=decide (v<run pW 0 u):=by
  intro x hx;have e:(MU x||(decide (0<v)&&xZ x)||(decide (v=0)&&x==35))=pW v.toNat x:=by
   unfold pW;rw[show decide (0<v)=decide (0<v.toNat) from decide_eq_decide.2 aB,show decide (v=0)=decide (v.toNat=0) from decide_eq_decide.2 aB]
  rw[e];by_cases q:v<run pW 0 u
  ·obtain ⟨b,h1,h2⟩:=Cm (p:=pW) (u:=u) (i:=0) (j:=v.toNat) aB;rw[hx] at h1;cases h1;rw[aX q,<- h2];congr 1;omega
  have e:v.toNat=run pW 0 u:=by omega
  rw[e] at hx ⊢;have:=zO (p:=pW) (u:=u) (i:=0) (b:=x) hx;rw[bw q,<- this];congr 1;omega
 have fin:¬ v<run pW 0 u->Tk (j v) (qH u:Int):=λq=>by rw[show v=run pW 0 u by omega];exact hj _ rfl
 refine rp (λ_=>v<run pW 0 u) (λ_ hq=>dW λ_=>hn _ aB) (λj2 x9=>?_);refine cz (λiy=>k8 λx _ hx=>ob (NY x) ?_) (λh=>fin Nd);have Km:=Km x hx;refine cz (λhL=>x9 () (bh (by rw[<- Km,hL];rfl))) (λhL=>?_);rw[hL,lP] at Km;have h35:v=0->Tk (aI.el u v λb=>aI.br ((b.toNat:Int)==35) (j2 ()) (j v)) (qH u:Int):=λh0=>by
  refine k8 λy _ hy=>?_;rw[hx] at hy;cases hy;rw[mO 35 35 rfl];have Km:(x==35)=decide (v<run pW 0 u):=by simpa[h0] using Km
  refine cz (λh=>x9 () (bh (by rw[<- Km,h]))) (λh=>fin (aW (by rw[<- Km,h])))
 refine cz (λh=>k8 λy _ hy=>ob (Bi y) ?_) (λh=>?_)
 ·rw[hx] at hy;cases hy;have hv0:=bh h;have hv0:(0:Int)<v:=hv0;have uB:v≠0:=by omega
  have Km:xZ x=decide (v<run pW 0 u):=by simpa[hv0,uB] using Km
  refine cz (λh2=>x9 () (bh (by rw[<- Km,h2]))) (λh2=>?_);have e0:(v==0)=false:=by simp[uB]
  rw[e0];exact fin (aW (by rw[<- Km,h2]))
 have hv0:¬ 0<v:=aW h;have e:v=0:=by omega
 have e0:(v==0)=true:=by simp[e]
 rw[e0];exact h35 e
def GC (u:ByS) (c:Bool) (i:Int):Int×Bool:=match qk (u.drop i.toNat) with|some x=>(i+x.1,c||x.2)|none=>(0,false)
def Ul:Tk (sq m u) (GC u false 1):=by
 unfold sq;refine oS (λ(v:Bool×Int)=>0<v.2/\GC u v.1 v.2=GC u false 1) (λv hv next hn=>?_) m ⟨dN,rfl⟩;obtain ⟨c,v⟩:=v;obtain ⟨h1,h3⟩:=hv;dsimp only at h1 h3 ⊢;refine cz (λh=>?_) (λh=>iA ?_)
 ·refine rp (λ(w:Bool×Int)=>v<=w.2/\GC u w.1 (w.2+1)=GC u false 1) (λw hw=>dW λ_=>hn _ ⟨eX,hw.2⟩) (λj hj=>?_);refine k8 λx _ hx=>?_;have hu:u.drop v.toNat=x::u.drop (v+1).toNat:=by
   exact aii
  rw[mO 34 34 rfl];refine cz (λh4=>dW λ_=>iA ?_) (λh4=>k8 λy _ hy=>?_)
  ·rw[cg] at h4;subst h4;rw[<- h3];unfold GC;rw[hu,WN];simp
  rw[hx] at hy;cases hy;rw[mO 92 92 rfl];refine cz (λh5=>?_) (λh5=>?_)
  ·rw[cg] at h5;subst h5;have hE:∀ d,u[(v+1).toNat]?=some d->GC u (c||d==40) (v+1+1)=GC u false 1:=by
    intro d hd;have Hg:=hd;rw[an] at Hg;obtain ⟨q1,q2⟩:=Hg;rw[<- h3];unfold GC;rw[hu,bZ q1,q2,WO,show (v+1+1).toNat=(v+1).toNat+1 by omega];cases qk (u.drop ((v+1).toNat+1)) with
    | none=>rfl
    | some y=>simp[Bool.or_comm,Bool.or_left_comm];omega
   have hN:¬ v+1<u.length->∀ c,GC u c (v+1+1)=GC u false 1:=by
    intro q c';rw[<- h3];unfold GC;rw[hu,dY aB,dY aB];simp[qk]
   refine cz (λhc=>dW λ_=>hj _ ⟨eX,?_⟩) (λhc=>dW λ_=>cz (λh6=>dW λ_=>k8 λd _ hd=>dW λ_=>hj _ ⟨eX,?_⟩) (λh6=>dW λ_=>hj _ ⟨eX,hN (aW h6) _⟩))
   ·dsimp only;by_cases q:v+1<u.length
    ·obtain ⟨d,hd⟩:∃ d,u[(v+1).toNat]?=some d:=⟨_,az aB⟩;have:=hE d hd;rw[hc] at this;simpa using this
    exact hN q _
   have:=hE d hd;rw[hc] at this;dsimp only;rw[mO 40 40 rfl];simpa using this
  refine hj _ ⟨eX,?_⟩;dsimp only;rw[<- h3];unfold GC;rw[hu,WQ (by simpa using h4) Nl];cases qk (u.drop (v+1).toNat) with
  | none=>rfl
  | some y=>simp;omega
 have:=aW h;rw[<- h3];unfold GC;rw[dY aB];simp[qk]
def grp:List (List ByS):=[[[95,124,95],[46,46,46]],[[61,61],[33,61],[60,61],[62,61],[61,126],[33,126],[38,38],[124,124]],[[95],[40],[41],[91],[93],[123],[125],[58],[44],[46],[63],[33],[42],[38],[124],[61],[60],[62],[43],[45],[47],[37]]]
def Sn:Tk (qU m u) (Lw u):=by
 unfold qU;have hN:∀ {g:List ByS} {i:Nat},i<3->grp[i]?=some g->(∀ (k:Nat) h,k<i->grp[k]?=some h->h.find? (λo=>o.isPrefixOf u)=none)->∀ o,g.find? (λo=>o.isPrefixOf u)=some o->o=Lw u:=by
  intro g i hi hg hb o ho;have key:Lw u=(ops.find? λo=>o.isPrefixOf u).getD []:=rfl;have e:ops=[[95,124,95],[46,46,46]]++([[61,61],[33,61],[60,61],[62,61],[61,126],[33,126],[38,38],[124,124]]++[[95],[40],[41],[91],[93],[123],[125],[58],[44],[46],[63],[33],[42],[38],[124],[61],[60],[62],[43],[45],[47],[37]]):=rfl;rw[key,e,sy,sy];obtain q|q|q:=(show i=0\/i=1\/i=2 by omega)<;>subst q<;>(simp only[grp,rA,oA] at hg;cases hg)
  ·rw[ho];rfl
  ·rw[hb 0 _ dN rfl,ho];rfl
  rw[hb 0 _ dN rfl,hb 1 _ dN rfl,ho];rfl
 refine oS (λ(v:Int)=>0<=v/\v<=3/\∀ (k:Nat) h,(k:Int)<v->grp[k]?=some h->h.find? (λo=>o.isPrefixOf u)=none) (λv hv next hn=>?_) m ⟨dN,dN,λk h q=>by omega⟩;obtain ⟨h1,h2,h3⟩:=hv;refine cz (λh=>k8 λp _ hp=>?_) (λh=>iA ?_)
 ·have iy:v<3:=bh h;obtain ⟨g,hg,hs⟩:∃ g,grp[v.toNat]?=some g/\zi [32] (p.length+1) p=g:=by
   obtain q|q|q:=(show v.toNat=0\/v.toNat=1\/v.toNat=2 by omega)<;>rw[q] at hp ⊢<;>cases hp<;>exact ⟨_,rfl,rfl⟩
  have hsp:strings_Split p [32]=.stuck\/strings_Split p [32]=.ok g:=by
   unfold strings_Split aI.gd;split
   ·right;rw[<- hs]
   exact .inl rfl
  obtain q|q:=hsp
  ·rw[q];exact .inl rfl
  rw[q];refine oS (λ(w:Int)=>0<=w/\∀ (i:Nat) o,(i:Int)<w->g[i]?=some o->o.isPrefixOf u=false) (λw hw NT Jg=>?_) m ⟨dN,λi o q=>by omega⟩;refine cz (λ_=>k8 λo _ ho=>ob (Au u o) (cz (λh5=>iA ?_) (λh5=>dW λ_=>Jg _ ⟨aB,λi o2 hi ho2=>?_⟩))) (λh4=>dW λ_=>hn _ ⟨aB,aB,λk h hk hh=>?_⟩)
  ·exact hN (i:=v.toNat) aB hg (λk h hk hh=>h3 k h aB hh) o (WM (v:=w.toNat) (λi p hi TV=>hw.2 i p aB TV) ho h5)
  ·by_cases q:(i:Int)<w
   ·exact hw.2 i o2 q ho2
   rw[show i=w.toNat by omega,ho] at ho2;cases ho2;exact h5
  by_cases q:(k:Int)<v
  ·exact h3 k h q hh
  rw[show k=v.toNat by omega,hg] at hh;cases hh;rw[ls];intro o ho;obtain ⟨i,hi⟩:=pF.1 ho;have hil:=(an.1 hi).1;have h4:=aW h4;rw[hw.2 i o aB hi];simp
 have FE:¬ v<3:=aW h;have e:ops=[[95,124,95],[46,46,46]]++([[61,61],[33,61],[60,61],[62,61],[61,126],[33,126],[38,38],[124,124]]++[[95],[40],[41],[91],[93],[123],[125],[58],[44],[46],[63],[33],[42],[38],[124],[61],[60],[62],[43],[45],[47],[37]]):=rfl;unfold Lw;rw[e,sy,sy,h3 0 _ aB rfl,h3 1 _ aB rfl,h3 2 _ aB rfl];rfl
end
def LK {α β:Type} (x:aI α) (F:Nat->aI β) (V:α->β->Prop) (W:sX->β->Prop):Prop:=(∀ a,x=.ok a->Ev F (V a) di)/\∀ p,x=.ry p->Ev F (W p) di
section
variable {X Y:Type} {x y:aI α} {F G:Nat->aI β} {V V':α->β->Prop} {W W':sX->β->Prop}
def LK.nil:LK (.stuck:aI α) F V W:=⟨λ_ e=>(by cases e),λ_ e=>(by cases e)⟩
def da:=@LK.nil
def LK.ok {a:α} {b:β} (h:V a b):LK (.ok a) (λ_=>.ok b) V W:=⟨λ_ e=>by cases e;exact aj h,λ_ e=>by cases e⟩
def b9:=@LK.ok
def LK.ry {p:sX} (h:Ev F (W p) di):LK (.ry p:aI α) F V W:=⟨λ_ e=>(by cases e),λ_ e=>by cases e;exact h⟩
def sW:=@LK.ry
def LK.mono (h:LK x F V' W') (hv:∀ a b,V' a b->V a b) (hw:∀ p b,W' p b->W p b):LK x F V W:=⟨λa e=>(h.1 a e).qh (hv a),λp e=>(h.2 p e).qh (hw p)⟩
variable {f:γ->aI α} {K:Nat->δ->aI β}
def LK.bind {x:aI γ} {G:Nat->aI δ} {U:γ->δ->Prop} {W0:sX->δ->Prop} (h:LK x G U W0) (hk:∀ a b,U a b->LK (f a) (λi=>K i b) V W) (hw:∀ p b,W0 p b->Ev (λi=>K i b) (W p) di) :
  LK (ag x f) (λi=>ag (G i) (K i)) V W:=by
 cases x with
 | stuck=>exact da
 | ry p=>exact sW ((h.2 p rfl).gw (hw p))
 | ok c=>
  have h1:=h.1 c rfl
  exact ⟨λa e=>h1.gw λb hb=>(hk c b hb).1 a e,λp e=>h1.gw λb hb=>(hk c b hb).2 p e⟩
def cm:=@LK.bind
variable {c:γ}
def LK.tk {x:aI γ} (h:Tk x c) (hk:LK (f c) F V W):LK (ag x f) F V W:=by
 obtain rfl|rfl:=h
 ·exact da
 exact hk
def gR:=@LK.tk
def LK.bc {x:aI γ} (h:x=.ok c) (hk:LK (f c) F V W):LK (ag x f) F V W:=gR (.inr h) hk
def od:=@LK.bc
variable {b:Bool}
def LK.brL (ht:b=true->LK x F V W) (hf:b=false->LK y F V W):LK (aI.br b x y) F V W:=by
 cases b with
 | true=>exact ht rfl
 | false=>exact hf rfl
def aF:=@LK.brL
def LK.brR (ht:b=true->LK x F V W) (hf:b=false->LK x G V W):LK x (λi=>aI.br b (F i) (G i)) V W:=by
 cases b with
 | true=>exact ht rfl
 | false=>exact hf rfl
def aJ:=@LK.brR
def LK.gdL [Decidable p] (h:p->LK x F V W):LK (aI.gd p x) F V W:=by
 unfold aI.gd;split
 ·exact h ‹_›
 exact da
def bG:=@LK.gdL
def LK.gdR [Decidable p] (hp:p) (h:LK x F V W):LK x (λi=>aI.gd p (F i)) V W:=⟨λa e=>(h.1 a e).gd hp,λq e=>(h.2 q e).gd hp⟩
def bV:=@LK.gdR
variable {l:List X}
def LK.elL {K:X->aI α} (h:∀ z,0<=j->l[j.toNat]?=some z->LK (K z) F V W):LK (aI.el l j K) F V W:=by
 unfold aI.el;split
 ·split
  ·exact QC
  exact da
 exact da
def je:=@LK.elL
def LK.elR {K:Nat->X->aI β} {z:X} (h0:0<=j) (hz:l[j.toNat]?=some z) (h:LK x (λi=>K i z) V W):LK x (λi=>aI.el l j (K i)) V W:=⟨λa e=>(h.1 a e).elx h0 hz,λq e=>(h.2 q e).elx h0 hz⟩
def eV:=@LK.elR
def LK.ev {G:Nat->aI δ} {b:δ} (h:Ev G (λr=>r=b) di) (hk:LK x (λi=>K i b) V W):LK x (λi=>ag (G i) (K i)) V W:=⟨λa e=>h.gw λ_ q=>by subst q;exact hk.1 a e,λp e=>h.gw λ_ q=>by subst q;exact hk.2 p e⟩
def bj:=@LK.ev
def LK.evQ {G:Nat->aI δ} {Q:δ->Prop} (h:Ev G Q di) (hk:∀ b,Q b->LK x (λi=>K i b) V W):LK x (λi=>ag (G i) (K i)) V W:=⟨λa e=>h.gw λb q=>(hk b q).1 a e,λp e=>h.gw λb q=>(hk b q).2 p e⟩
def yJ:=@LK.evQ
def LK.jnL {j:X->aI α} {p:(X->aI α)->aI α} (h:LK (p j) F V W):LK (aI.jn j p) F V W:=h
def fI:=@LK.jnL
def LK.jnR {j:Nat->X->aI β} {p:Nat->(X->aI β)->aI β} (h:LK x (λi=>p i (j i)) V W):LK x (λi=>aI.jn (j i) (p i)) V W:=h
def mP:=@LK.jnR
variable {body:Nat->(Y->aI β)->Y->aI β} {m:Nat->Nat} {w:Y}
def Ev.Iw {Q:β->Prop} {R:sX->Prop} (hm:bL m) (h:Ev (λi=>body i (aI.iter (body i) (m i - 1)) w) Q R):Ev (λi=>aI.iter (body i) (m i) w) Q R:=by
 obtain ⟨r,h1,N,hN⟩:=h;exact aie
def jX:=@Ev.Iw
def LK.Iw (hm:bL m) (h:LK x (λi=>body i (aI.iter (body i) (m i - 1)) w) V W):LK x (λi=>aI.iter (body i) (m i) w) V W:=⟨λa e=>jX hm (h.1 a e),λp e=>jX hm (h.2 p e)⟩
def LK.iter (I:X->Y->Prop) {body:(X->aI α)->X->aI α} {xb:Nat->(Y->aI β)->Y->aI β}
  (hb:∀ v w,I v w->∀ (next:X->aI α) (next':Nat->Y->aI β),(∀ v w,I v w->LK (next v) (λi=>next' i w) V W)->LK (body next v) (λi=>xb i (next' i) w) V W) :
  ∀ (n:Nat) {m:Nat->Nat},bL m->∀ v w,I v w->LK (aI.iter body n v) (λi=>aI.iter (xb i) (m i) w) V W
 | 0,_,_,_,_,_=>da
 | n+1,_,hm,v,w,hI=>LK.Iw hm (hb v w hI _ _ λv w h=>LK.iter I hb n hm.pred v w h)
def uL:=@LK.iter
end
def om (b:Int) (t:aC):aC:=aC.mk t.aq t.bM (t.cN+b) (t.pO+b)
abbrev Yn:=ah.mk
structure Nx (T:List aC) (k:Bool) (a a':Int) (t:aC):Prop where
 a0:0<=a
 le:a<=a'
 tk:T[a'.toNat]?=some t
 k7:k=true->t.aq≠7
 st:k=false->a'=a
 bt:∀ (j:Nat) u,a<=j->(j:Int)<a'->T[j]?=some u->u.aq=7
section
variable {T:List aC} {m:Nat->Nat}
def Nx.self (h:Nx T k a a' t):Nx T k a' a' t:=⟨by have:=h.a0;have:=h.le;omega,aB,h.tk,h.k7,λ_=>rfl,λ_ _ _ _=>by omega⟩
def Nx.lt (h:Nx T k a a' t):a'<T.length:=by
 have:=(an.1 h.tk).1;have:=h.a0;have:=h.le;omega
def Nx.ge (h:Nx T k a a' t):0<=a':=by have:=h.a0;have:=h.le;omega
def Nx.Cp (hC:PC s T b) (h:Nx T k a a' t) (h0:t.aq≠0):a'+1<T.length:=hC.next h.ge h.tk h0
def qA (hC:PC s T b) (k:Bool) (h0:0<=a) (h1:a<T.length):∃ a' t,Nx T k a a' t:=by
 obtain ⟨d,hd⟩:∃ d:Nat,(T.length:Int) - a<=d:=⟨(T.length - a).toNat,aB⟩
 induction d generalizing a with
 | zero=>omega
 | succ d ih=>
  obtain ⟨t,ht⟩:∃ t,T[a.toNat]?=some t:=⟨_,az aB⟩
  by_cases hk:k=true/\t.aq=7
  ·have hn:=hC.next h0 ht aB;obtain ⟨a',u,h⟩:=ih (a:=a+1) aB hn aB;refine ⟨a',u,h0,by have:=h.le;omega,h.tk,h.k7,λq=>(by rw[hk.1] at q;cases q),λj v hj x9 hv=>?_⟩;by_cases e:(j:Int)=a
   ·have:a.toNat=j:=by omega
    rw[this,hv] at ht;cases ht;exact hk.2
   exact h.bt j v aB x9 hv
  ·exact ahG
def tT (h:Nx T k a a' t):Tk (bq n (H s T a b k q)) (t,H s T a' b k q):=by
 unfold bq ji pB pM;have J:∀ v:D,v=H s T a' b k q->Tk (aI.el v.oh v.bO λx6=>.ok (x6,D.mk v.cP v.oh v.bO b v.skip v.iO)) (t,H s T a' b k q):=by
  rintro _ rfl;refine k8 λx _ hx=>?_;rw[show x=t by simpa[h.tk] using hx.symm];exact ll
 refine rp (λv=>v=H s T a' b k q) J λj hj=>?_;refine oS (λv=>∃ c,v=H s T c b k q/\a<=c/\c<=a') ?_ n ⟨a,rfl,aB,h.le⟩;rintro _ ⟨c,rfl,h1,h2⟩ next hn;dsimp only;refine cz (λhk=>k8 λx h0 hx=>cz (λh7=>dW λ_=>hn _ ⟨c+1,rfl,aB,?_⟩) (λh7=>hj _ ?_)) (λhk=>hj _ ?_)
 ·by_cases e:c=a'
  ·subst e;rw[h.tk] at hx;cases hx;exact ao QM (h.k7 hk)
  omega
 ·by_cases e:c=a'
  ·subst e;rfl
  exact ao (h.bt c.toNat x aB aB hx) QM
 rw[h.st hk] at h2 ⊢;rw[show c=a by omega]
def jl (hm:bL m) (hC:PC s T b) (h:Nx T k a a' t):Ev (λi=>aS (m i) (Yn s b (T.map (om b)) a k en ea)) (λr=>r=(om b t,Yn s b (T.map (om b)) a' k en ea)) di:=by
 unfold aS ji;have hl:=hC.oF;have iy:=h.lt;refine bz (λv=>v=Yn s b (T.map (om b)) a' k en ea) (λv hv=>?_) (λj hj=>?_)
 ·subst hv;exact g h.ge (by rw[fj,h.tk];rfl) uY
 refine bN hm (λv=>∃ c,v=Yn s b (T.map (om b)) c k en ea/\a<=c/\c<=a') (λv=>(a' - v.bO).toNat) ⟨a,rfl,aB,h.le⟩ ?_;rintro _ ⟨c,rfl,h1,h2⟩ next hn;dsimp only;have h0:=h.a0;refine aw (λhk=>?_) (λhk=>hj _ ?_)
 ·obtain ⟨u,hu⟩:∃ u,T[c.toNat]?=some u:=⟨_,az aB⟩;refine g aB (x:=om b u) (by rw[fj,hu];rfl) ?_;by_cases e:c=a'
  ·subst e;rw[h.tk] at hu;cases hu;refine aw (λh7=>ao (by simpa[om] using h7) (h.k7 hk)) (λ_=>hj _ rfl)
  have h7:=h.bt c.toNat u aB aB hu;refine aw (λ_=>aH (hn _ ⟨c+1,rfl,aB,aB⟩ eX)) (λq=>ao q (by simp[om,h7]))
 rw[h.st hk] at h2 ⊢;rw[show c=a by omega]
end
def LO {α β:Type} (x:aI α) (F:Nat->aI β) (V:α->β->Prop):Prop:=∀ a,x=.ok a->Ev F (V a) di
section
variable {X Y:Type} {x y:aI α} {F G:Nat->aI β} {V V':α->β->Prop} {W:sX->β->Prop}
variable {b:Bool}
def LK.br2 (h:c=b) (ht:b=true->LK x F V W) (hf:b=false->LK y G V W):LK (aI.br b x y) (λi=>aI.br c (F i) (G i)) V W:=by
 subst h;cases c with
 | true=>exact ht rfl
 | false=>exact hf rfl
def dG:=@LK.br2
def LO.nil:LO (.stuck:aI α) F V:=λ_ e=>by cases e
def LO.ry {p:sX}:LO (.ry p:aI α) F V:=λ_ e=>by cases e
variable {a:α}
def LO.ok {b:β} (h:V a b):LO (.ok a) (λ_=>.ok b) V:=λ_ e=>by cases e;exact aj h
def LO.bind {x:aI γ} {G:Nat->aI δ} {U:γ->δ->Prop} {f:γ->aI α} {K:Nat->δ->aI β} (h:LO x G U) (hk:∀ a b,U a b->LO (f a) (λi=>K i b) V):LO (ag x f) (λi=>ag (G i) (K i)) V:=by
 cases x with
 | stuck=>exact LO.nil
 | ry p=>exact LO.ry
 | ok c=>exact λa e=>(h c rfl).gw λb hb=>hk c b hb a e
def LO.br2 (h:c=b) (ht:b=true->LO x F V) (hf:b=false->LO y G V):LO (aI.br b x y) (λi=>aI.br c (F i) (G i)) V:=by
 subst h;cases c with
 | true=>exact ht rfl
 | false=>exact hf rfl
def LO.gdL [Decidable p] (h:p->LO x F V):LO (aI.gd p x) F V:=by
 unfold aI.gd;split
 ·exact h ‹_›
 exact LO.nil
def LO.gdR [Decidable p] (hp:p) (h:LO x F V):LO x (λi=>aI.gd p (F i)) V:=λa e=>(h a e).gd hp
variable {l:List X}
def LO.elL {K:X->aI α} (h:∀ z,0<=j->l[j.toNat]?=some z->LO (K z) F V):LO (aI.el l j K) F V:=by
 unfold aI.el;split
 ·split
  ·exact QC
  exact LO.nil
 exact LO.nil
def LO.elR {K:Nat->X->aI β} {z:X} (h0:0<=j) (hz:l[j.toNat]?=some z) (h:LO x (λi=>K i z) V):LO x (λi=>aI.el l j (K i)) V:=λa e=>(h a e).elx h0 hz
def LO.iter (I:X->Y->Prop) {body:(X->aI α)->X->aI α} {xb:Nat->(Y->aI β)->Y->aI β}
  (hb:∀ v w,I v w->∀ (next:X->aI α) (next':Nat->Y->aI β),(∀ v w,I v w->LO (next v) (λi=>next' i w) V)->LO (body next v) (λi=>xb i (next' i) w) V) :
  ∀ (n:Nat) {m:Nat->Nat},bL m->∀ v w,I v w->LO (aI.iter body n v) (λi=>aI.iter (xb i) (m i) w) V
 | 0,_,_,_,_,_=>LO.nil
 | n+1,_,hm,v,w,hI=>λa e=>jX hm (hb v w hI _ _ (λv w h=>LO.iter I hb n hm.pred v w h) a e)
end
def PF (v:Int):sX:=⟨71,[.sc (.int .i64 v)]⟩
def Aj {α β:Type} {a:α} {f:α->aI β}:ag (.ok a) f=f a:=rfl
def JO (d:aK):sS d=.ok (d.aq==1||(d.aq==2||d.aq==3)):=by
 unfold sS;cases (d.aq==1)<;>cases (d.aq==2)<;>rfl
section
variable {p:D}
def So:∀ (n:Nat) {m:Nat->Nat} {e:ak},bL m->LK (cE n e v p) (λi=>kN (m i) e) (λr c=>c=false/\p=r.2) (λq c=>q=PF v/\c=true)
 | 0,_,_,_=>da
 | n+1,m,e,hm=>by
  refine LK.mono (V':=λr c=>c=false/\p=r.2) (W':=λq c=>q=PF v/\c=true) ⟨λa ha=>bX (F:=λk=>kN k e) hm λm hm=>?_,λa ha=>bX (F:=λk=>kN k e) hm λm hm=>?_⟩ (λ_ _ h=>h) (λ_ _ h=>h);all_goals
   have key:LK (gV n (fm n) e v p) (λi=>ss (m i) (oQ (m i)) e) (λr c=>c=false/\p=r.2) (λq c=>q=PF v/\c=true):=by
    unfold gV ss vi oj jk dS;have ih:∀ x:ak,LK ((fm n).cE x v p) (λi=>(oQ (m i)).kN x) (λr c=>c=false/\p=r.2) (λq c=>q=PF v/\c=true):=λx=>So n hm;refine dG rfl (λ_=>je λx h0 hx=>je λy h1 hy=>eV h0 hx (cm (ih x) ?_ ?_)) λ_=>?_
    ·rintro ⟨x2,_⟩ _ ⟨rfl,rfl⟩;refine eV h1 hy (cm (ih y) ?_ ?_)
     ·rintro ⟨y2,_⟩ _ ⟨rfl,rfl⟩;exact b9 vf
     rintro q _ ⟨rfl,rfl⟩;exact aj vf
    ·rintro q _ ⟨rfl,rfl⟩;exact aj vf
    by_cases If:e.aq=13
    ·simp only[If,rI,bne_self_eq_false];refine uL (λv w=>p=v.1/\v.2.2=w) ?_ n hm _ _ vf;rintro ⟨_,l,w⟩ _ ⟨rfl,rfl⟩ next next' hn;refine dG rfl (λ_=>je λd h0 hd=>eV h0 hd ?_) λ_=>b9 vf;refine fI ?_;simp only[JO,Aj];by_cases h4:d.aq=4
     ·simp only[h4,aI.jn,aI.br,rI];exact sW (aj vf)
     by_cases h8:d.aq=8
     ·simp only[h8,aI.jn,aI.br,rI];exact sW (aj vf)
     have h4':(d.aq==4)=false:=by simpa using h4
     have h8':(d.aq==8)=false:=by simpa using h8
     by_cases hc:(d.aq==1||(d.aq==2||d.aq==3))=true
     ·have hs:LK (aI.el d.bK 0 λx50=>ag ((fm n).cE x50 v p) λy54=>aI.gd (nP 184 l.length (List.length [(y54.2,(aK.mk d.aq d.eo d.ni d.B d.bT [y54.1] d.lZ d.J d.so d.lR d.cN)).2])) (aI.gd (cD (w+1)) (next (y54.2,l++[(aK.mk d.aq d.eo d.ni d.B d.bT [y54.1] d.lZ d.J d.so d.lR d.cN)],w+1)))) (λi=>aI.el d.bK 0 λx42=>ag ((oQ (m i)).kN x42) λy46=>aI.br y46 (aI.ok true) (aI.gd (cD (w+1)) (next' i (w+1)))) (λr c=>c=false/\p=r.2) (λq c=>q=PF v/\c=true):=by
       refine je λx h0 hx=>eV h0 hx (cm (ih x) ?_ ?_)
       ·rintro ⟨x2,_⟩ _ ⟨rfl,rfl⟩;exact bG λ_=>bG λh=>bV h (hn _ _ vf)
       rintro q _ ⟨rfl,rfl⟩;exact aj vf
      rw[h4',h8',hc];by_cases h1:d.aq=1
      ·simpa only [h1,aI.jn,aI.br,rI] using hs
      by_cases h2:d.aq=2
      ·simpa only [h2,aI.jn,aI.br,rI,show ((2:Int)==1)=false from rfl] using hs
      have h3:d.aq=3:=by simpa[h1,h2] using hc
      simpa only [h3,aI.jn,aI.br,rI,show ((3:Int)==1)=false from rfl,show ((3:Int)==2)=false from rfl] using hs
     have PX:=hc;simp only[mw,not_or,vJ] at PX;rw[h4',h8',PX.1,PX.2.1,PX.2.2];simp only[aI.jn,aI.br,Bool.or_false];exact bG λ_=>bG λh=>bV h (hn _ _ vf)
    have h13':(e.aq==13)=false:=by simpa using If
    simp only[h13',bne,sE];exact b9 vf
  ·exact key.1 a ha
  exact key.2 a ha
end
def Ev.both {α:Type} {F:Nat->aI α} {Q Q':α->Prop} (h:Ev F Q di) (h':Ev F Q' di):Ev F (λa=>Q a/\Q' a) di:=by
 obtain ⟨a,h1,N,hN⟩:=h.get;obtain ⟨c,h2,M,hM⟩:=h'.get;have e:=hM (N+M) aB;rw[hN (N+M) aB] at e;cases e;exact oJ (r:=.ok a) hN ⟨h1,h2⟩
def Sp:∀ (n:Nat) {m:Nat->Nat} {e:ak} {p:D},bL m->LO (cE n e v p) (λi=>jV (m i) e) (λr y=>y=r.1)
 | 0,_,_,_,_=>LO.nil
 | n+1,m,e,p,hm=>λa ha=>bX (F:=λk=>jV k e) hm λm hm=>by
  have key:LO (gV n (fm n) e v p) (λi=>oY (m i) (lW (m i)) e) (λr y=>y=r.1):=by
   unfold gV oY vi oj jk dS;have ih:∀ x:ak,∀ q,LO ((fm n).cE x v q) (λi=>(lW (m i)).jV x) (λr y=>y=r.1):=λx q=>Sp n hm;refine LO.br2 rfl (λ_=>LO.elL λx h0 hx=>LO.elL λy h1 hy=>LO.elR h0 hx (LO.elR h1 hy (LO.bind (ih x p) ?_))) λ_=>?_
   ·rintro ⟨x2,q⟩ _ rfl;refine LO.bind (ih y q) ?_;rintro ⟨y2,_⟩ _ rfl;exact LO.ok rfl
   by_cases If:e.aq=13
   ·simp only[If,rI,bne_self_eq_false];refine LO.iter (λv w=>w=v.2) ?_ n hm _ _ rfl;rintro ⟨p,l,w⟩ _ rfl next next' hn;refine LO.br2 rfl (λ_=>LO.elL λd h0 hd=>LO.elR h0 hd ?_) λ_=>LO.ok rfl;refine λa ha=>?_;simp only[JO,Aj];simp only[aI.jn] at ha;by_cases h4:d.aq=4
    ·simp only[h4,aI.br,rI] at ha;cases ha
    by_cases h8:d.aq=8
    ·simp only[h8,aI.br,rI] at ha;cases ha
    have h4':(d.aq==4)=false:=by simpa using h4
    have h8':(d.aq==8)=false:=by simpa using h8
    rw[h4',h8'] at ha;by_cases hc:(d.aq==1||(d.aq==2||d.aq==3))=true
    ·have hs:LO (aI.el d.bK 0 λx50=>ag ((fm n).cE x50 v p) λy54=>aI.gd (nP 184 l.length (List.length [(y54.2,(aK.mk d.aq d.eo d.ni d.B d.bT [y54.1] d.lZ d.J d.so d.lR d.cN)).2])) (aI.gd (cD (w+1)) (next (y54.2,l++[(aK.mk d.aq d.eo d.ni d.B d.bT [y54.1] d.lZ d.J d.so d.lR d.cN)],w+1)))) (λi=>aI.el d.bK 0 λx41=>ag ((lW (m i)).jV x41) λy45=>aI.gd (nP 184 l.length (List.length [(aK.mk d.aq d.eo d.ni d.B d.bT [y45] d.lZ d.J d.so d.lR d.cN)])) (aI.gd (cD (w+1)) (next' i (l++[(aK.mk d.aq d.eo d.ni d.B d.bT [y45] d.lZ d.J d.so d.lR d.cN)],w+1)))) (λr y=>y=r.1):=by
      refine LO.elL λx h0 hx=>LO.elR h0 hx (LO.bind (ih x p) ?_);rintro ⟨x2,q⟩ _ rfl;exact LO.gdL λh1=>LO.gdL λh=>LO.gdR h1 (LO.gdR h (hn _ _ rfl))
     rw[hc];refine hs a ?_;by_cases h1:d.aq=1
     ·simpa only [h1,aI.br,rI] using ha
     by_cases h2:d.aq=2
     ·simpa only [h2,aI.br,rI,show ((2:Int)==1)=false from rfl] using ha
     have h3:d.aq=3:=by simpa[h1,h2] using hc
     simpa only [h3,aI.br,rI,show ((3:Int)==1)=false from rfl,show ((3:Int)==2)=false from rfl] using ha
    have PX:=hc;simp only[mw,not_or,vJ] at PX;rw[PX.1,PX.2.1,PX.2.2] at ha ⊢;exact (LO.gdL λh1=>LO.gdL λh=>LO.gdR h1 (LO.gdR h (hn _ _ rfl)):LO (aI.gd (nP 184 l.length (List.length [((p,d):D×aK).2])) (aI.gd (cD (w+1)) (next (p,l++[d],w+1)))) _ _) a ha
   have h13':(e.aq==13)=false:=by simpa using If
   simp only[h13',bne,sE];exact LO.ok rfl
  exact key a ha
def ß:∀ (N:Nat) {m:Nat->Nat} {e:ak},bL m->SizeOf.sizeOf e<N->jd e->Ev (λi=>kN (m i) e) (λ_=>True) di:=by
 intro N
 induction N with
 | zero=>intro m e _ h;exact ao h GL
 | succ N ih=>
  intro m e hm hN he
  refine bX (F:=λn=>kN n e) hm λm hm=>?_
  show Ev (λi=>ss (m i) (oQ (m i)) e) _ _
  unfold ss
  refine b8 (λhk=>?_) (λ_=>?_)
  ·have h2:=he.kd hk;refine W λx hx=>ai aec λ_ _=>aw qn λ_=>?_;exact W λx hx=>ai aec λ_ _=>aj trivial
  ·refine aw qn (λ_=>?_);have hl:=he.l2;refine bN hm (λ(x:Int)=>0<=x/\x<=e.fi.length) (λx=>(e.fi.length - x).toNat) ⟨bn,bn⟩ ?_;rintro x ⟨HF,ve⟩ next hn;refine aR (λiy=>?_) qn;refine W λd hd=>aw qn λ_=>aw qn λ_=>?_;have hd:=aQ hd;have Ek:=he.d _ hd;have hn':Ev (λi=>aI.gd (cD (x+1)) (next i (x+1))) (λ_=>True) di:=aH (hn _ ⟨aB,aB⟩ aB);refine bC (JO d) (aw (λhc=>?_) λ_=>hn');have:=Ek.kd (by simpa using hc);refine W λy hy=>?_;have hy:=aQ hy;exact ai ael λ_ _=>aw qn λ_=>hn'
def Sq:∀ (N:Nat) {m:Nat->Nat} {e:ak},bL m->SizeOf.sizeOf e<N->jd e->Ev (λi=>jV (m i) e) jd di:=by
 intro N
 induction N with
 | zero=>intro m e _ h;exact ao h GL
 | succ N ih=>
  intro m e hm hN he
  refine bX (F:=λn=>jV n e) hm λm hm=>?_
  show Ev (λi=>oY (m i) (lW (m i)) e) _ _
  unfold oY vi oj jk dS
  refine b8 (λhk=>?_) (λ_=>?_)
  ·have h2:=he.kd hk;refine W λx hx=>W λy hy=>ai aec λx2 ve=>ai (ih hm (by have:=Qt (aQ hy);omega) (he.s _ (aQ hy))) λy2 Lp=>?_;exact aj (.mk bn he.l2 he.l3 he.l4 GO (by simp;exact ⟨ve,Lp⟩) he.d)
  ·refine aw (λ_=>aj he) (λ_=>?_);have hl:=he.l2;refine bN hm (λ(x:List aK×Int)=>0<=x.2/\x.2<=e.fi.length/\x.1.length=x.2/\∀ d,d∈x.1->V d) (λx=>(e.fi.length - x.2).toNat) ⟨bn,bn,bn,bn⟩ ?_;rintro x ⟨ve,WI,hx4,T3⟩ next hn;refine aR (λiy=>?_) (λ_=>aj (.mk he.l1 aB he.l3 he.l4 bn he.s T3));refine W λd hd=>?_;have hd:=aQ hd;have Ek:=he.d _ hd;have hn':∀ w,V w->Ev (λi=>aI.gd (nP 184 x.1.length (List.length [w])) (aI.gd (cD (x.2+1)) (next i (x.1++[w],x.2+1)))) jd di:=λw hw=>aH (aH (hn _ ⟨eX,eX,qI,λz hz=>by
    obtain q|q:=bH.1 hz
    ·exact T3 z q
    simp at q;subst q;exact hw⟩ eX))
   refine bC (JO d) (aw (λhc=>?_) λ_=>hn' d Ek);have:=Ek.kd (by simpa using hc);refine W λy hy=>?_;have hy:=aQ hy;exact ai ael λy2 Lp=>hn' _ (.mk bn Ek.l2 Ek.l3 Ek.l4 Ek.l5 Ek.l6 Ek.l7 GO (by simpa using Lp) Ek.d)
def PO {α:Type} (V:α->Prop) (x:aI α):Prop:=∀ a,x=.ok a->V a
section
variable {X:Type} {V V':α->Prop} {W:β->Prop}
def PO.ok {a:α} (h:V a):PO V (.ok a):=λ_ e=>by cases e;exact h
def bD:=@PO.ok
variable {p:sX} {x:aI α}
def PO.nil:PO V .stuck:=λ_ e=>by cases e
def Bj:=@PO.nil
def PO.mono (h:PO V' x) (hv:∀ a,V' a->V a):PO V x:=λa e=>hv a (h a e)
variable {f:β->aI α}
def PO.bind {x:aI β} (h:PO W x) (hk:∀ a,W a->PO V (f a)):PO V (ag x f):=by
 intro a e;cases x with
 | stuck=>cases e
 | ry p=>cases e
 | ok b=>exact hk b (h b rfl) a e
def aD:=@PO.bind
def PO.any {x:aI β} (hk:∀ a,x=.ok a->PO V (f a)):PO V (ag x f):=aD (W:=λa=>x=.ok a) (λ_ e=>e) hk
def dh:=@PO.any
def PO.br {b:Bool} {y:aI α} (ht:b=true->PO V x) (hf:b=false->PO V y):PO V (aI.br b x y):=by
 cases b with
 | true=>exact ht rfl
 | false=>exact hf rfl
def A:=@PO.br
def PO.gd {p:Prop} [Decidable p] (h:p->PO V x):PO V (aI.gd p x):=by
 unfold aI.gd;split
 ·exact h ‹_›
 exact Bj
def bY:=@PO.gd
variable {K:X->aI α}
def PO.el {l:List X} {j:Int} (h:∀ x,0<=j->l[j.toNat]?=some x->PO V (K x)):PO V (aI.el l j K):=by
 unfold aI.el;split
 ·split
  ·exact QC
  exact Bj
 exact Bj
def dU:=@PO.el
variable {j:X->aI α}
def PO.jn (J:X->Prop) {p:(X->aI α)->aI α} (hj:∀ v,J v->PO V (j v)) (hp:∀ j:X->aI α,(∀ v,J v->PO V (j v))->PO V (p j)):PO V (aI.jn j p):=hp j hj
def jf:=@PO.jn
def PO.iter (I:X->Prop) {body:(X->aI α)->X->aI α} {n:Nat} {x:X} (h0:I x) (hb:∀ (next:X->aI α) v,(∀ v,I v->PO V (next v))->I v->PO V (body next v)):PO V (aI.iter body n x):=by
 induction n generalizing x with
 | zero=>exact Bj
 | succ n ih=>exact hb _ x (λv hv=>ih hv) h0
def gQ:=@PO.iter
end
def Av (b:UInt8):Prop:=97<=b.toNat/\b.toNat<=122\/65<=b.toNat/\b.toNat<=90
abbrev Cn:List ByS:=[[110,117,108,108],[116,114,117,101],[102,97,108,115,101],[98,111,111,108],[105,110,116],[110,117,109,98,101,114],[115,116,114,105,110,103],[108,101,116],[105,102],[102,111,114],[105,110],[112,97,99,107,97,103,101],[105,109,112,111,114,116]]
def tU (s:ByS):Prop:=s.length<=32/\s ∉ Cn/\∃ c r,(s=c::r\/s=35::c::r\/s=95::c::r)/\Av c/\∀ x,x∈c::r->Av x\/x=95\/48<=x.toNat/\x.toNat<=57
section
variable {b:UInt8}
def GD:PO (λy=>y=true↔Av b) (n7 (b.toNat:Int)):=by
 unfold n7 Av;refine A (λh=>A (λq=>bD ?_) λq=>A (λr=>bD ?_) λr=>bD ?_) λh=>A (λr=>bD ?_) λr=>bD ?_<;>simp at *<;>omega
def DH:PO (λy=>y=true↔Av b) (lU (b.toNat:Int)):=GD
def Sr {l:List ByS}:PO (λy=>y=true↔s∈l) (slices_Contains_string n l s):=by
 unfold slices_Contains_string;refine aD (W:=λy=>0<=y↔s∈l) ?_ λy hy=>bD (by simpa using hy);unfold slices_Index_string;refine gQ (λ(v:Int)=>0<=v/\v<=l.length/\s ∉ l.take v.toNat) ⟨aB,aB,bn⟩ λnext v hn hv=>A (λ_=>dU λx _ hx=>A (λq=>bD ?_) λq=>bY λ_=>hn _ ?_) (λq=>bD ?_)
 ·simp at q;subst q;exact ⟨λ_=>aQ hx,λ_=>hv.1⟩
 ·have hl:v.toNat<l.length:=(an.1 hx).1;refine ⟨aB,aB,?_⟩;have e:(v+1).toNat=v.toNat+1:=by omega
  rw[e,p8,hx];simp at q ⊢;exact ⟨λw=>hv.2.2 w,q⟩
 have:v.toNat=l.length:=by simp at q;omega
 have h:=hv.2.2;rw[this,qP] at h;exact ⟨λw=>by omega,λw=>ao w h⟩
def Yo {t:ByS} {V:Bool->Prop} (ht:(∀ x,x∈t->Av x\/x=95\/48<=x.toNat/\x.toNat<=57)->V true) (hf:(∃ x,x∈t/\¬(Av x\/x=95\/48<=x.toNat/\x.toNat<=57))->V false) {m:Nat} :
  PO V (iter (λUm (v26:Int)=>br (decide (v26<(List.length t:Int))) (el t v26 λb35=>ag (n7 (b35.toNat:Int)) λy39=>br (!y39) (el t v26 λb41=>br ((b41.toNat:Int) !=95) (el t v26 λb46=>br (decide ((b46.toNat:Int)<48)) (.ok (false)) (el t v26 λb52=>br (decide ((b52.toNat:Int)>57)) (.ok (false)) (gd (cD (v26+1)) (Um (v26+1))))) (gd (cD (v26+1)) (Um (v26+1)))) (gd (cD (v26+1)) (Um (v26+1)))) (.ok (true))) m (0)):=by
 refine gQ (λ(v:Int)=>0<=v/\v<=t.length/\∀ x,x∈t.take v.toNat->Av x\/x=95\/48<=x.toNat/\x.toNat<=57) ⟨aB,aB,bn⟩ λnext v hn hv=>A (λ_=>dU λx _ hx=>?_) (λq=>bD (ht ?_))
 ·have hl:v.toNat<t.length:=(an.1 hx).1
  have e:(v+1).toNat=v.toNat+1:=by omega
  have go:(Av x\/x=95\/48<=x.toNat/\x.toNat<=57)->PO V (gd (cD (v+1)) (next (v+1))):=λhg=>bY λ_=>hn _ ⟨aB,aB,λy hy=>by
   rw[e,p8,hx] at hy
   simp at hy
   obtain hy|rfl:=hy
   ·exact hv.2.2 y hy
   ·exact hg⟩
  refine aD GD λy hy=>A (λq=>?_) λq=>go (.inl (hy.1 Gn))
  have Ja:¬Av x:=λw=>by rw[hy.2 w] at q;cases q
  refine dU λx' _ tw=>?_
  rw[hx] at tw;cases tw
  refine A (λq2=>dU λx' _ tw=>?_) λq2=>go (.inr (.inl ?_))
  ·rw[hx] at tw;cases tw
   have uB:x≠95:=λw=>by subst w;simp at q2
   refine A (λq3=>bD (hf ⟨x,aQ hx,?_⟩)) λq3=>dU λx' _ tw=>?_
   ·simp at q3;rintro (w|w|w)
    ·exact Ja w
    ·exact uB w
    ·omega
   ·rw[hx] at tw;cases tw
    refine A (λq4=>bD (hf ⟨x,aQ hx,?_⟩)) λq4=>go (.inr (.inr ?_))
    ·simp at q4;rintro (w|w|w)
     ·exact Ja w
     ·exact uB w
     ·omega
    ·simp at q3 q4;omega
  ·simp at q2
   exact ac1
 ·have:v.toNat=t.length:=by simp at q;omega
  have h:=hv.2.2
  rwa [this,qP] at h
def IdV (s v:ByS):Prop:=s=35::v\/s=95::v\/v=s/\s.head?≠some 35/\s.head?≠some 95
abbrev IdR (v:ByS):Prop:=∃ c r,v=c::r/\Av c/\∀ x,x∈v->Av x\/x=95\/48<=x.toNat/\x.toNat<=57
def alN:¬Av 35:=by unfold Av;decide
def alO:¬Av 95:=by unfold Av;decide
def à {v:ByS} (h1:s.length<=32) (h2:s ∉ Cn) (hv:IdV s v):IdR v↔tU s:=by
 constructor
 ·rintro ⟨c,r,rfl,hc,hr⟩;refine ⟨h1,h2,c,r,?_,hc,hr⟩;obtain e|e|e:=hv
  ·exact .inr (.inl e)
  ·exact .inr (.inr e)
  exact .inl e.1.symm
 rintro ⟨_,_,c,r,e,hc,hr⟩;refine ⟨c,r,?_⟩;obtain q|q|q:=hv
 ·obtain e|e|e:=e
  ·rw[q] at e;cases e;exact ao hc alN
  ·rw[q] at e;cases e;exact Zq
  rw[q] at e;cases e
 ·obtain e|e|e:=e
  ·rw[q] at e;cases e;exact ao hc alO
  ·rw[q] at e;cases e
  rw[q] at e;cases e;exact Zq
 obtain e|e|e:=e
 ·rw[q.1,e];exact Zq
 ·rw[e] at q;exact ao rfl q.2.1
 rw[e] at q;exact ao rfl q.2.2
def Hx:PO (λy=>y=true↔tU s) (dO n s):=by
 unfold dO;refine A (λh=>bD ⟨λq=>El,λq=>by have:=q.1;simp at h;omega⟩) λh=>aD Sr λy hy=>A (λh2=>bD ⟨λq=>El,λq=>ao (hy.1 h2) q.2.1⟩) λh2=>?_;have hn:s ∉ Cn:=λw=>by rw[hy.2 w] at h2;cases h2
 have hl:s.length<=32:=by simp at h;omega
 refine jf (IdV s) (λv hv=>?_) λj hj=>?_
 ·have key:=à hl hn hv;have no:¬IdR v->PO (λy=>y=true↔tU s) (.ok false):=λw=>bD ⟨λq=>El,λq=>ao (key.2 q) w⟩;refine A (λh3=>no ?_) λh3=>dU λb _ hb=>?_
  ·rintro ⟨c,r,rfl,_⟩;simp at h3;omega
  cases v with
  | nil=>cases hb
  | cons c r=>
   have hbc:c=b:=jP hb
   subst hbc
   refine aD GD λy hy=>A (λq=>no ?_) λq=>?_
   ·rintro ⟨c',r',e,hc,_⟩;cases e;rw[hy.2 hc] at q;cases q
   ·have hc:Av c:=hy.1 Gn;refine Yo (λw=>⟨λ_=>key.1 ⟨c,r,rfl,hc,w⟩,λ_=>rfl⟩) λ⟨x,hx,w⟩=>⟨λq=>El,λq=>?_⟩;obtain ⟨c',r',e,_,hr⟩:=key.2 q;exact ao (hr x hx) w
 refine A (λh3=>dU λb _ hb=>?_) λh3=>hj _ ?_
 ·cases s with
  | nil=>cases hb
  | cons a t=>
   have hba:a=b:=jP hb
   subst hba
   refine A (λq=>bY λ_=>hj _ (.inl ?_)) λq=>dU λb _ hb=>?_
   ·exact adh
   ·have hba:a=b:=jP hb;subst hba;refine A (λq2=>bY λ_=>hj _ (.inr (.inl ?_))) λq2=>hj _ (.inr (.inr ⟨rfl,?_,?_⟩))
    ·exact adg
    ·intro w;cases w;simp at q
    intro w;cases w;simp at q2
 cases s with
 | nil=>exact .inr (.inr ⟨rfl,by simp,by simp⟩)
 | cons a t=>simp at h3
def Ps (h:tU s):PO (λy=>y=true) (eJ n s):=by
 have hs:=h.2.2;obtain ⟨c,r,e,hc,hr⟩:=hs;have hp:1<=s.length:=by obtain rfl|rfl|rfl:=e<;>simp
 unfold eJ wh;refine A (λq=>by simp at q;omega) λ_=>A (λq=>by have:=h.1;simp at q;omega) λ_=>?_;show PO _ (iter _ n 0);refine gQ (λ_=>True) trivial λnext v hn _=>A (λ_=>dU λx _ hx=>A (λq=>?_) λ_=>bY λ_=>hn _ trivial) λ_=>?_
 ·simp at q;subst q;exact ao (aQ hx) h.2.1
 have key:∀ v:Int,0<=v->s.drop v.toNat=c::r->PO (λy=>y=true) (br (decide (v>=(List.length s:Int))) (.ok (false)) (el s v λb35=>ag (lU (b35.toNat:Int)) λy39=>br (!y39) (.ok (false)) (iter (λUn (v44:Int)=>br (decide (v44<(List.length s:Int))) (el s v44 λb52=>ag (lU (b52.toNat:Int)) λy56=>br (!y56) (el s v44 λb58=>ag (lK (b58.toNat:Int)) λy62=>br (!y62) (el s v44 λb64=>br ((b64.toNat:Int) !=95) (.ok (false)) (gd (cD (v44+1)) (Un (v44+1)))) (gd (cD (v44+1)) (Un (v44+1)))) (gd (cD (v44+1)) (Un (v44+1)))) (.ok (true))) n (v)))):=by
  intro v h0 hd;refine A (λq=>?_) λ_=>dU λb _ hb=>aD DH λy hy=>A (λq=>?_) λ_=>?_
  ·simp at q;rw[dY aB] at hd;cases hd
  ·have:s[v.toNat]?=some c:=by rw[<- List.head?_drop,hd];rfl
   rw[hb] at this;cases this;rw[hy.2 hc] at q;cases q
  refine gQ (λw=>v<=w) J5 λnext w hn hw=>A (λ_=>dU λx _ hx=>?_) λ_=>bD rfl;have hm:x∈c::r:=by
   rw[<- hd];have:(s.drop v.toNat)[w.toNat - v.toNat]?=some x:=by rw[dD,<- hx];congr 1;omega
   exact aQ this
  have go:PO (λy=>y=true) (gd (cD (w+1)) (next (w+1))):=bY λ_=>hn _ aB;refine aD DH λy hy=>A (λq=>dU λx' _ tw=>?_) λ_=>go;rw[hx] at tw;cases tw;have:¬Av x:=λw=>by rw[hy.2 w] at q;cases q
  unfold lK;obtain w|w|w:=hr x hm
  ·exact ao w this
  ·subst w;refine dh λy _=>A (λ_=>dU λx' _ tw=>?_) λ_=>go;rw[hx] at tw;cases tw;exact A J3 λ_=>go
  refine aD (W:=λy=>y=true) (A (λ_=>bD qI) λq=>by simp at q;omega) λy hy=>A (λq=>by rw[hy] at q;cases q) λ_=>go
 refine jf (λv=>0<=v/\s.drop v.toNat=c::r) (λv hv=>key v hv.1 hv.2) λj hj=>dU λb _ hb=>A (λq=>hj _ ⟨aB,?_⟩) λq=>dU λb' _ x8=>A (λq2=>hj _ ⟨aB,?_⟩) λq2=>hj _ ⟨aB,?_⟩
 ·obtain rfl|rfl|rfl:=e
  ·cases hb;simp at q;exact ao (show Av c from hc) (by unfold Av;omega)
  ·rfl
  cases hb;simp at q
 ·rw[hb] at x8;cases x8;obtain rfl|rfl|rfl:=e
  ·cases hb;simp at q2;exact ao (show Av c from hc) (by unfold Av;omega)
  ·rfl
  rfl
 rw[hb] at x8;cases x8;obtain rfl|rfl|rfl:=e
 ·rfl
 ·cases hb;simp at q
 cases hb;simp at q2
end
section
def Ev.po {α:Type} {F:Nat->aI α} {Q V:α->Prop} {R:sX->Prop} (h:Ev F Q R) (hp:∀ i,PO V (F i)):Ev F (λa=>Q a/\V a) R:=by
 obtain ⟨r,h1,N,hN⟩:=h;refine ⟨r,?_,N,hN⟩;cases r with
 | stuck=>exact h1
 | ry p=>exact h1
 | ok a=>exact ⟨h1,hp N a (hN N J6)⟩
def MV:PO (λy=>y=true->tU s) (eJ n s):=by
 have no:PO (λy=>y=true->tU s) (.ok false):=bD du;unfold eJ wh;refine A (λ_=>no) λh1=>A (λ_=>no) λh2=>?_;have hl:s.length<=32:=by simp at h2;omega
 show PO _ (iter _ n 0);refine gQ (λ(v:Int)=>0<=v/\v<=Cn.length/\s ∉ Cn.take v.toNat) ⟨aB,dN,bn⟩ λnext v hn hv=>A (λq=>dU λx _ hx=>A (λ_=>no) λq=>bY λ_=>hn _ ?_) λq=>?_
 ·have hl:v.toNat<Cn.length:=(an.1 hx).1;refine ⟨aB,aB,?_⟩;have e:(v+1).toNat=v.toNat+1:=by omega
  have tw:Cn[v.toNat]?=some x:=hx;rw[e,p8,tw];simp at q ⊢;exact ⟨λw=>hv.2.2 w,q⟩
 have hn:s ∉ Cn:=by
  have hq:¬ (v<(List.length Cn:Int)):=aW q;have:v.toNat=Cn.length:=by omega
  have h:=hv.2.2;rwa [this,qP] at h
 refine jf (λv=>0<=v/\IdV s (s.drop v.toNat)) (λv hv=>?_) λj hj=>?_
 ·have key:=à hl hn hv.2;refine A (λ_=>no) λh3=>dU λb _ hb=>aD DH λy hy=>A (λ_=>no) λq=>?_;have x8:(s.drop v.toNat)[0]?=some b:=by rw[dD];simpa using hb
  obtain ⟨r,hr⟩:∃ r,s.drop v.toNat=b::r:=by
   cases hd:s.drop v.toNat with
   | nil=>rw[hd] at x8;cases x8
   | cons c r=>rw[hd] at x8;cases x8;exact ⟨r,rfl⟩
  refine gQ (λ(w:Int)=>v<=w/\∀ x,x∈(s.drop v.toNat).take (w - v).toNat->Av x\/x=95\/48<=x.toNat/\x.toNat<=57) ⟨aB,bn⟩ λnext w hn hw=>A (λq2=>dU λx _ hx=>?_) λq2=>bD λ_=>key.1 ⟨b,r,hr,hy.1 Gn,?_⟩
  ·have go:(Av x\/x=95\/48<=x.toNat/\x.toNat<=57)->PO (λy=>y=true->tU s) (gd (cD (w+1)) (next (w+1))):=λhg=>bY λ_=>hn _ ⟨aB,λy hy=>by
    have e:(w+1 - v).toNat=(w - v).toNat+1:=by omega
    rw[e,p8,dD,show v.toNat+(w - v).toNat=w.toNat by omega,hx] at hy;simp at hy;obtain hy|rfl:=hy
    ·exact hw.2 y (by simpa using hy)
    exact hg⟩
   refine aD DH λy hy=>A (λq3=>dU λx' _ tw=>?_) λq3=>go (.inl (hy.1 (by simpa using q3)));rw[hx] at tw;cases tw;unfold lK;have dig:PO (λy=>y=true->48<=x.toNat/\x.toNat<=57) (br (decide ((x.toNat:Int)>=48)) (.ok ((decide ((x.toNat:Int)<=57)))) (.ok (false))):=A (λa=>bD λb=>by simp at a b;omega) λ_=>bD du;refine aD dig λz hz=>A (λq4=>dU λx' _ tw=>?_) λq4=>go (.inr (.inr (hz (by simpa using q4))));rw[hx] at tw;cases tw;refine A (λ_=>no) λq5=>go (.inr (.inl ?_));simp at q5;exact ac1
  have q2:¬ (w<(s.length:Int)):=aW q2;have h:=hw.2;rwa [dM qI] at h
 refine dU λb _ hb=>?_;cases s with
 | nil=>cases hb
 | cons a t=>
  have hba:a=b:=jP hb
  subst hba
  refine A (λq=>hj _ ⟨dN,.inl ?_⟩) λq=>dU λb _ hb=>?_
  ·exact adh
  ·have hba:a=b:=jP hb;subst hba;refine A (λq2=>hj _ ⟨dN,.inr (.inl ?_)⟩) λq2=>hj _ ⟨dN,.inr (.inr ⟨rfl,?_,?_⟩)⟩
   ·exact adg
   ·intro w;cases w;simp at q
   intro w;cases w;simp at q2
variable {m:Nat->Nat}
def Ag (hm:bL m):Ev (λi=>eJ (m i) s) (λy=>y=true↔tU s) di:=by
 refine (Ev.po (Q:=λ_=>True) (V:=λy=>y=true↔tU s) ?_ λi y hy=>⟨λq=>MV y hy q,λq=>Ps q y hy⟩).qh λ_ h=>h.2;have L:∀ {c:Int},Ev (λ_:Nat=>lU c) (λ_=>True) di:=by
  intro c;unfold lU;(repeat' (with_reducible first|intro _|refine aH ?_|refine W ?_|apply aY|apply aG|apply dK|(apply cT;try dsimp only)));all_goals exact aj trivial
 have D:∀ {c:Int},Ev (λ_:Nat=>lK c) (λ_=>True) di:=by
  intro c;unfold lK;(repeat' (with_reducible first|intro _|refine aH ?_|refine W ?_|apply aY|apply aG|apply dK|(apply cT;try dsimp only)));all_goals exact aj trivial
 unfold eJ wh;refine aw qn λhp=>aw qn λhl=>?_;have hp:1<=s.length:=by simp at hp;omega
 have hl:s.length<=32:=by simp at hl;omega
 refine bN (X:=Int) hm (λ(v:Int)=>0<=v/\v<=13) (λv=>(13 - v).toNat) ⟨dN,dN⟩ ?_;intro v hv next hn;refine aw (λq=>?_) λ_=>?_
 ·have q:v<13:=by simpa using q
  exact gm hv.1 q λx hx=>aw qn λ_=>aH (hn _ ⟨by omega,by omega⟩ aB)
 refine bz (λv=>0<=v/\v<=1) (λv hv=>aw qn λq=>?_) λj hj=>gm dN aB λx _=>aw (λ_=>hj _ ⟨dN,dN⟩) λ_=>gm dN aB λx _=>aw (λ_=>hj _ ⟨dN,dN⟩) λ_=>hj _ ⟨dN,dN⟩;have q:v<s.length:=by simpa using q
 refine gm hv.1 q λx _=>ai L λ_ _=>aw qn λ_=>?_;refine bN hm (λ(w:Int)=>0<=w/\w<=s.length) (λw=>(s.length - w).toNat) ⟨aB,aB⟩ ?_;intro w hw NT Jg;refine aw (λq2=>?_) λ_=>aj trivial;have q2:w<s.length:=by simpa using q2
 have go:Ev (λi=>gd (cD (w+1)) (NT i (w+1))) (λ_=>True) di:=aH (Jg _ ⟨aB,aB⟩ aB);refine gm hw.1 q2 λx _=>ai L λ_ _=>aw (λ_=>gm hw.1 q2 λx _=>ai D λ_ _=>aw (λ_=>gm hw.1 q2 λx _=>aw qn λ_=>go) λ_=>go) λ_=>go
def Uo (hm:bL m) {y:Bool} (h:dO n s=.ok y):Ev (λi=>eJ (m i) s) (λz=>z=y) di:=by
 have h1:=Hx (n:=n) (s:=s) y h;refine (Ag hm).qh λz hz=>?_;rw[cY];exact hz.trans h1.symm
end
section
def Np {α:Type} (x:aI α):Prop:=∀ p,x≠.ry p
section
variable {X:Type} {x y:aI α}
def Np.ok {a:α}:Np (.ok a):=λ_ e=>by cases e
def DI:=@Np.ok
def Np.nil:Np (.stuck:aI α):=λ_ e=>by cases e
def wv:=@Np.nil
def Np.bind {x:aI β} {f:β->aI α} (h:Np x) (hf:∀ a,Np (f a)):Np (ag x f):=by
 cases x with
 | stuck=>exact wv
 | ry p=>exact ao rfl (h p)
 | ok a=>exact hf a
def Np.br {b:Bool} (h:Np x) (h':Np y):Np (aI.br b x y):=by cases b<;>assumption
def BT:=@Np.br
def Np.gd {p:Prop} [Decidable p] (h:Np x):Np (aI.gd p x):=by
 unfold aI.gd;split
 ·exact h
 exact wv
def sf:=@Np.gd
def Np.el {l:List X} {j:Int} {K:X->aI α} (h:∀ z,Np (K z)):Np (aI.el l j K):=by
 unfold aI.el;split
 ·split
  ·exact h _
  exact wv
 exact wv
def Np.jn {j:X->aI α} {p:(X->aI α)->aI α} (h:Np (p j)):Np (aI.jn j p):=h
def Np.iter {body:(X->aI α)->X->aI α} (hb:∀ (next:X->aI α) v,(∀ v,Np (next v))->Np (body next v)):∀ (n:Nat) (v:X),Np (aI.iter body n v)
 | 0,_=>wv
 | n+1,v=>hb _ v λv=>Np.iter hb n v
def AF:=@Np.iter
def LK.np {γ:Type} {x:aI γ} {f:γ->aI α} {F:Nat->aI β} {V:α->β->Prop} {W:sX->β->Prop} (h:Np x) (hk:∀ a,x=.ok a->LK (f a) F V W):LK (ag x f) F V W:=by
 cases x with
 | stuck=>exact da
 | ry p=>exact ao rfl (h p)
 | ok a=>exact hk a rfl
def BU:=@LK.np
end
variable {y:ah}
def BV {l:List ByS}:Np (slices_Contains_string n l x):=by
 unfold slices_Contains_string slices_Index_string
 (repeat' (with_reducible first|exact DI|exact wv|exact hn _|exact h0|exact BV|exact yK|refine Np.bind ?_ λ_=>?_|refine BT ?_ ?_|refine sf ?_|refine Np.el λ_=>?_|(refine Np.jn ?_;dsimp only)|refine AF (λ_ _ hn=>?_) _ _))
def yK {s:ByS}:Np (dO n s):=by
 have h0:∀ {c:Int},Np (n7 c):=by
  intro c;unfold n7;(repeat' (with_reducible first|exact DI|exact wv|exact hn _|exact h0|exact BV|exact yK|refine Np.bind ?_ λ_=>?_|refine BT ?_ ?_|refine sf ?_|refine Np.el λ_=>?_|(refine Np.jn ?_;dsimp only)|refine AF (λ_ _ hn=>?_) _ _))
 unfold dO
 (repeat' (with_reducible first|exact DI|exact wv|exact hn _|exact h0|exact BV|exact yK|refine Np.bind ?_ λ_=>?_|refine BT ?_ ?_|refine sf ?_|refine Np.el λ_=>?_|(refine Np.jn ?_;dsimp only)|refine AF (λ_ _ hn=>?_) _ _))
def Z (t:aC) (x:ByS):Bool:=t.aq==5&&t.bM==x
def D1 (t:aC) (x:ByS):Bool:=t.aq==1&&t.bM==x
def GH (t:aC) (x:ByS):ez t x=.ok (Z t x):=by
 unfold ez Z;cases t.aq==5<;>rfl
def LC (t:aC) (x:ByS):kK t x=.ok (D1 t x):=by
 unfold kK D1;cases t.aq==1<;>rfl
def Ss (b:Int) (t:aC) (x:ByS):ch (om b t) x=.ok (Z t x):=by
 unfold ch Z om;cases t.aq==5<;>rfl
def LD (b:Int) (t:aC) (x:ByS):jO (om b t) x=.ok (D1 t x):=by
 unfold jO D1 om;cases t.aq==1<;>rfl
def la (h:Z t x=true):t.aq=5/\t.bM=x:=by simpa[Z] using h
def Ep (h:D1 t x=true):t.aq=1/\t.bM=x:=by simpa[D1] using h
abbrev RX (s:ByS) (T:List aC) (b a:Int) (k:Bool):ah:=Yn s b (T.map (om b)) a k 0 0
abbrev RF (s:ByS) (T:List aC) (b a:Int) (k:Bool) (v:Int):ah:=Yn s b (T.map (om b)) a k 8 v
def FS (s:ByS) (T:List aC) (b v:Int) (x:ah):Prop:=∃ a k,x=RF s T b a k v/\0<=a/\a<T.length
section
variable {T:List aC} {V:α->β->Prop} {W:sX->β->Prop} {F:Nat->aI β} {m:Nat->Nat}
def Nx.fs (h:Nx T k a a' t):FS s T b v (RF s T b a' k v):=⟨a',k,rfl,h.ge,h.lt⟩
def I1 (h:Nx T k a a' t):Tk (dc n (H s T a b k q)) (t.cN+b,H s T a' b k q):=by
 unfold dc ji pB;obtain e|e:=tT (n:=n) (s:=s) (b:=b) (q:=q) h
 ·rw[e];exact .inl rfl
 rw[e,Aj];exact dW λ_=>iA (by rw[Int.add_comm])
variable {f:D->aI α} {K:Nat->ah->aI β}
def LK.uO (h:Nx T k a a' t) (hw:Ev F (W (PF (t.cN+b))) di):LK (ag (ca n (H s T a b k q)) f) F V W:=by
 unfold ca;obtain e|e:=I1 (n:=n) (s:=s) (b:=b) (q:=q) h
 ·rw[e];exact da
 rw[e,Aj];exact sW hw
def kV:=@LK.uO
def LK.fail {p:D} (hw:Ev F (W (PF v)) di):LK (ag (j8 v p) f) F V W:=sW hw
def LK.accept (h:Nx T k a a' t) {f:Bool×D->aI α} (ht:Z t x=true->LK (f (true,H s T (a'+1) b k q)) F V W) (hf:Z t x=false->LK (f (false,H s T a' b k q)) F V W):LK (ag (dq n x (H s T a b k q)) f) F V W:=by
 unfold dq pB pM;obtain e|e:=tT (n:=n) (s:=s) (b:=b) (q:=q) h
 ·rw[e];exact da
 rw[e,Aj];dsimp only;rw[GH,Aj];cases hi:Z t x with
 | true=>
  by_cases hg:cD (a'+1)
  ·simp only[iT,aI.br,aI.gd,hg,if_true,Aj];exact ht hi
  ·simp only[iT,aI.br,aI.gd,hg,if_false];exact da
 | false=>exact hf hi
def sg:=@LK.accept
def LK.tok (h:Nx T k a a' t) {f:aC×D->aI α} (hk:LK (f (t,H s T a' b k q)) F V W):LK (ag (bq n (H s T a b k q)) f) F V W:=gR (tT h) hk
def fJ:=@LK.tok
def LK.pos (h:Nx T k a a' t) {f:Int×D->aI α} (hk:LK (f (t.cN+b,H s T a' b k q)) F V W):LK (ag (dc n (H s T a b k q)) f) F V W:=gR (I1 h) hk
def rh:=@LK.pos
def LK.op {f:Bool->aI α} (hk:LK (f (Z t x)) F V W):LK (ag (ez t x) f) F V W:=od (GH t x) hk
def ln:=@LK.op
def LK.word {f:Bool->aI α} (hk:LK (f (D1 t x)) F V W):LK (ag (kK t x) f) F V W:=od (LC t x) hk
def rN:=@LK.word
def oI (hm:bL m) (hC:PC s T b) (h:Nx T k a a' t) (h0:t.aq≠0):Ev (λi=>P (m i) (Yn s b (T.map (om b)) a k en ea)) (λr=>r=(om b t,Yn s b (T.map (om b)) (a'+1) k en ea)) di:=by
 unfold P ji;have:=hC.oF;have hn:=h.Cp hC h0;have:=h.ge;refine ai M6 ?_;rintro _ rfl;exact aH (aR (λ_=>aH uY) λq=>ao (by simpa using hn) q)
def En (hm:bL m) (hC:PC s T b) (h:FS s T b v y):Ev (λi=>P (m i) y) (λr=>FS s T b v r.2) di:=by
 obtain ⟨a,k,rfl,h0,h1⟩:=h;obtain ⟨a',t,h⟩:=qA hC k h0 h1;unfold P ji;have:=hC.oF;have:=h.lt;have:=h.ge;refine ai M6 ?_;rintro _ rfl;exact aH (aR (λq=>aH (aj ⟨a'+1,k,rfl,by omega,by simpa using q⟩)) λq=>aj h.fs)
def C6 (hm:bL m) (hC:PC s T b) (h:FS s T b v y):Ev (λi=>aS (m i) y) (λr=>FS s T b v r.2) di:=by
 obtain ⟨a,k,rfl,h0,h1⟩:=h;obtain ⟨a',t,h⟩:=qA hC k h0 h1;exact (jl hm hC h).qh λr e=>by subst e;exact h.fs
def yS (h:FS s T b v y) {w:Int}:bJ w y=.ok y:=by
 obtain ⟨a,k,rfl,_⟩:=h;rfl
def yW (h:FS s T b v y):cG y=.ok (false,y):=by
 obtain ⟨a,k,rfl,_⟩:=h;rfl
def UW (t:aC) (x:ByS):Ev (λ_=>ch t x) (λ_=>True) di:=by
 unfold ch;exact aw qn λ_=>aj trivial
def WT (t:aC) (x:ByS):Ev (λ_=>jO t x) (λ_=>True) di:=by
 unfold jO;exact aw qn λ_=>aj trivial
def WU (hm:bL m) (t:aC):Ev (λi=>oR (m i) t) (λ_=>True) di:=by
 unfold oR;exact aw (λ_=>ai Vf λ_ _=>aj trivial) λ_=>aj trivial
def JU (hm:bL m) (hC:PC s T b) (h:FS s T b v y):Ev (λi=>cH (m i) x y) (FS s T b v) di:=by
 unfold cH;exact ai FX λr hr=>ai DM λ_ _=>aw UZ λ_=>ai Kc λr hr=>aj hr
def M3 (hm:bL m) (hC:PC s T b) (h:FS s T b v y):Ev (λi=>jb (m i) x y) (FS s T b v) di:=by
 unfold jb;exact ai FX λr hr=>ai (WT _ _) λ_ _=>aw UZ λ_=>ai Kc λr hr=>aj hr
def á (hm:bL m) (hC:PC s T b) (h:FS s T b v y):Ev (λi=>fU (m i) y) (λr=>FS s T b v r.2) di:=by
 unfold fU;exact ai FX λr hr=>ai (WU hm _) λ_ _=>aw UZ λ_=>ai Kc λr hr=>aj hr
def xK (hm:bL m) (hC:PC s T b) (h:FS s T b v y):Ev (λi=>cy (m i) x k0 y) (FS s T b v) di:=by
 unfold cy;refine ai (JU hm hC h) ?_;rintro _ ⟨a,k,rfl,h⟩;exact aj ⟨a,k0,rfl,h⟩
def â (hm:bL m) (hC:PC s T b) (h:FS s T b v y):Ev (λi=>eR (m i) y) (λr=>FS s T b v r.2) di:=by
 unfold eR;refine ai (En hm hC h) ?_;rintro ⟨_,_⟩ ⟨a,k,rfl,h⟩;exact aj ⟨a,true,rfl,h⟩
def Kl (hm:bL m) (h:FS s T b v y) {e:ak} (he:jd e):Ev (λi=>eE (m i) e t y) (λr=>FS s T b v r.2/\jd r.1) di:=by
 unfold eE eS;exact ai (ß _ hm Qu he) λ_ _=>aw (λ_=>bC (yS h) (aj ⟨h,.leaf dN⟩)) λ_=>ai (Sq _ hm Qu he) λ_ hp=>aj ⟨h,hp⟩
def NZ (hm:bL m) (hC:PC s T b) (h:Nx T k a a' t) (ht:Z t x=true):Ev (λi=>cH (m i) x (RX s T b a k)) (λr=>r=RX s T b (a'+1) k) di:=by
 unfold cH;refine ai M6 ?_;rintro _ rfl;refine bC (Ss b t x) ?_;rw[ht];exact aG (ai (oI hm hC h.self Xs) λr e=>by subst e;exact aj rfl)
def ã (hm:bL m) (hC:PC s T b) (h:Nx T k a a' t) (ht:Z t x=false):Ev (λi=>cH (m i) x (RX s T b a k)) (λr=>r=RF s T b a' k (t.cN+b)) di:=by
 unfold cH;refine ai M6 ?_;rintro _ rfl;refine bC (Ss b t x) ?_;rw[ht];exact aY uY
def LK.expect (hm:bL m) (hC:PC s T b) (h:Nx T k a a' t) (hk:Z t x=true->LK (f (H s T (a'+1) b k q)) (λi=>K i (RX s T b (a'+1) k)) V W) (hw:∀ v r,FS s T b v r->Ev (λi=>K i r) (W (PF v)) di):LK (ag (cW n x (H s T a b k q)) f) (λi=>ag (cH (m i) x (RX s T b a k)) (K i)) V W:=by
 refine cm (U:=λp y=>Z t x=true/\p=H s T (a'+1) b k q/\y=RX s T b (a'+1) k) (W0:=λp y=>∃ v,p=PF v/\FS s T b v y) ?_ ?_ ?_
 ·unfold cW;refine sg h (λht=>?_) λht=>?_
  ·have e:=NZ hm hC h ht;exact ⟨λa ha=>e.qh λr er=>⟨ht,by cases ha;rfl,er⟩,λp hp=>by cases hp⟩
  have e:=ã hm hC h ht;exact kV h.self (e.qh λr er=>⟨_,rfl,by subst er;exact h.fs⟩)
 ·rintro _ _ ⟨ht,rfl,rfl⟩;exact hk ht
 rintro _ y ⟨v,rfl,hy⟩;exact hw v y hy
def LK.closing (hm:bL m) (hC:PC s T b) (h:Nx T k a a' t) (hk:Z t x=true->LK (f (H s T a' b k q)) (λi=>K i (RX s T b (a'+1) k0)) V W) (hw:∀ v r,FS s T b v r->Ev (λi=>K i r) (W (PF v)) di):LK (ag (cC n x (H s T a b k q)) f) (λi=>ag (cy (m i) x k0 (RX s T b a k)) (K i)) V W:=by
 refine cm (U:=λp y=>Z t x=true/\p=H s T a' b k q/\y=RX s T b (a'+1) k0) (W0:=λp y=>∃ v,p=PF v/\FS s T b v y) ?_ ?_ ?_
 ·unfold cC cy pB;refine fJ h (ln ?_);cases ht:Z t x with
  | true=>
   refine bj (NZ hm hC h ht) ?_
   exact b9 J8
  | false=>
   refine bj (ã hm hC h ht) ?_
   exact kV h.self (aj ⟨_,rfl,⟨a',k0,rfl,h.ge,h.lt⟩⟩)
 ·rintro _ _ ⟨ht,rfl,rfl⟩;exact hk ht
 rintro _ y ⟨v,rfl,hy⟩;exact hw v y hy
def LK.keyword (hm:bL m) (hC:PC s T b) (h:Nx T k a a' t) (hk:D1 t x=true->LK (f (H s T (a'+1) b k q)) (λi=>K i (RX s T b (a'+1) k)) V W) (hw:∀ v r,FS s T b v r->Ev (λi=>K i r) (W (PF v)) di):LK (ag (ei n x (H s T a b k q)) f) (λi=>ag (jb (m i) x (RX s T b a k)) (K i)) V W:=by
 refine cm (U:=λp y=>D1 t x=true/\p=H s T (a'+1) b k q/\y=RX s T b (a'+1) k) (W0:=λp y=>∃ v,p=PF v/\FS s T b v y) ?_ ?_ ?_
 ·unfold ei jb pB pM;refine fJ h (rN (bj M6 ?_));dsimp only;rw[LD];refine bj uY ?_;cases ht:D1 t x with
  | true=>exact bG λ_=>bj (oI hm hC h.self (by have:=(Ep ht).1;omega)) (b9 J8)
  | false=>exact kV h.self (aj ⟨_,rfl,h.fs⟩)
 ·rintro _ _ ⟨ht,rfl,rfl⟩;exact hk ht
 rintro _ y ⟨v,rfl,hy⟩;exact hw v y hy
def Hy (hm:bL m) {y:Bool} (hk:t.aq=1) (h:dO n t.bM=.ok y):Ev (λi=>oR (m i) (om b t)) (λz=>z=y) di:=by
 unfold oR;have h1:((om b t).aq==1)=true:=by simpa[om] using hk
 rw[h1];exact aY (ai (Uo hm h) λz hz=>aj hz)
def WV (hk:t.aq≠1):oR n (om b t)=.ok false:=by
 unfold oR;have h1:((om b t).aq==1)=false:=by simpa[om] using hk
 rw[h1];rfl
def LK.name (hm:bL m) (hC:PC s T b) (h:Nx T k a a' t) {f:ByS×D->aI α} {K:Nat->ByS×ah->aI β} (hk:t.aq=1->tU t.bM->LK (f (t.bM,H s T (a'+1) b k q)) (λi=>K i (t.bM,RX s T b (a'+1) k)) V W)
  (hw:∀ v r,FS s T b v r.2->Ev (λi=>K i r) (W (PF v)) di):LK (ag (fw n (H s T a b k q)) f) (λi=>ag (fU (m i) (RX s T b a k)) (K i)) V W:=by
 refine cm (U:=λp y=>(t.aq=1/\tU t.bM)/\p=(t.bM,H s T (a'+1) b k q)/\y=(t.bM,RX s T b (a'+1) k)) (W0:=λp y=>∃ v,p=PF v/\FS s T b v y.2) ?_ ?_ ?_
 ·unfold fw fU pB pM
  refine fJ h (fI (bj M6 ?_))
  dsimp only
  by_cases h1:t.aq=1
  ·refine aF (λq=>ao h1 Gn) λ_=>?_
   refine BU yK λy hy=>bj (Hy hm h1 hy) ?_
   have hid:=Hx y hy
   cases y with
   | true=>exact bG λ_=>bj (oI hm hC h.self aB) (b9 ⟨⟨h1,hid.1 rfl⟩,rfl,rfl⟩)
   | false=>exact kV h.self (aj ⟨_,rfl,h.fs⟩)
  ·refine bj (G:=λi=>oR (m i) (om b t)) (b:=false) (oJ (r:=.ok false) (N:=0) (λi _=>WV h1) rfl) ?_
   exact aF (λ_=>kV h.self (aj ⟨_,rfl,h.fs⟩)) λq=>ao Gn h1
 ·rintro _ _ ⟨ht,rfl,rfl⟩
  exact hk ht.1 ht.2
 ·rintro _ y ⟨v,rfl,hy⟩
  exact hw v y hy
end
end
section
def Bt (t:aC) (l:List ByS):Bool:=t.aq==5&&l.contains t.bM
variable {l:List ByS}
def Hz (h:Bt t l=true):t.aq=5/\t.bM∈l:=by simpa[Bt] using h
def adM {x:ByS}:Bt t [x]=Z t x:=by rw[cY];simp[Bt,Z]
def opsL (c:Int):List ByS:=if c=0 then [[124,124]] else if c=1 then [[38,38]] else if c=2 then [[61,61],[33,61],[60],[60,61],[62],[62,61]] else if c=3 then [[43],[45]] else [[42],[47],[37]]
section
variable {T:List aC} {V:α->β->Prop} {W:sX->β->Prop} {F:Nat->aI β} {m:Nat->Nat}
def LK.LF (hm:bL m) (h0:0<=a) (h1:a<T.length) {e:ak} (he:jd e) {p:D} {f:ak×D->aI α} {K:Nat->ak×ah->aI β}
  (hk:∀ e',jd e'->LK (f (e',p)) (λi=>K i (e',RX s T b a k)) V W) (hw:∀ v r,FS s T b v r.2->jd r.1->Ev (λi=>K i r) (W (PF v)) di) :
  LK (ag (cE n e (t.cN+b) p) f) (λi=>ag (eE (m i) e (om b t) (RX s T b a k)) (K i)) V W:=by
 refine cm (U:=λr y=>∃ e',jd e'/\r=(e',p)/\y=(e',RX s T b a k)) (W0:=λp y=>∃ v,p=PF v/\FS s T b v y.2/\jd y.1) ?_ ?_ ?_
 ·have hl:=So (p:=p) (v:=t.cN+b) n (e:=e) hm
  unfold eE eS
  refine ⟨λr hr=>(hl.1 r hr).gw ?_,λr hr=>(hl.2 r hr).gw ?_⟩
  ·rintro _ ⟨rfl,hp⟩
   refine aG (ai (((Sp n hm) r hr).both (Sq _ hm Qu he)) ?_)
   rintro _ ⟨rfl,h2⟩
   exact aj ⟨r.1,h2,by rw[hp],rfl⟩
  ·rintro _ ⟨rfl,rfl⟩
   exact aY (aj ⟨_,rfl,⟨a,k,rfl,h0,h1⟩,.leaf dN⟩)
 ·rintro _ _ ⟨e',h2,rfl,rfl⟩
  exact hk e' h2
 ·rintro _ y ⟨v,rfl,h2,h3⟩
  exact hw v y h2 h3
def Od (hm:bL m) (hl:l.length<=1000):Ev (λi=>jU (m i) (om b t) l) (λy=>y=Bt t l) di:=by
 unfold jU ji;refine bN hm (λ(v:Int)=>0<=v/\v<=l.length/\∀ (i:Nat) z,i<v->l[i]?=some z->Z t z=false) (λv=>(l.length - v).toNat) ⟨aB,aB,λ_ _ h=>by omega⟩ ?_;rintro v ⟨h0,h1,h2⟩ next hn;refine aR (λq=>gm h0 q λz hz=>bC (Ss b t z) (aw (λh=>aj ?_) λh=>aH (hn _ ⟨aB,aB,λi y hi hy=>?_⟩ aB))) λq=>aj ?_
 ·obtain ⟨h3,h4⟩:=la h;simp[Bt,h3,h4];exact aQ hz
 ·by_cases e:(i:Int)=v
  ·have:v.toNat=i:=by omega
   rw[this,hy] at hz;cases hz;exact h
  exact h2 i y aB hy
 symm;rw[jC];intro h;obtain ⟨h3,h4⟩:=Hz h;obtain ⟨i,hi,hz⟩:=rk h4;have:=h2 i _ aB (az hi);rw[hz] at this;simp[Z,h3] at this
def Fs (hx:strings_Split x [32]=.ok l):Tk (nZ n t x) (Bt t l):=by
 unfold nZ Bt vi;cases h5:t.aq==5 with
 | false=>exact .inr rfl
 | true=>
  refine ob hx ?_
  have h:=Sr (n:=n) (s:=t.bM) (l:=l)
  have h':=BV (n:=n) (x:=t.bM) (l:=l)
  cases e:slices_Contains_string n l t.bM with
  | stuck=>exact .inl rfl
  | ry p=>exact ao e (h' p)
  | ok y=>
   refine iA ?_
   have:=h y e
   rw[cY]
   simpa using this
variable {c:Int}
def ajD (h0:0<=c) (h4:c<=4):∃ x,qL c=.ok x/\Tk (nZ n t x) (Bt t (opsL c)):=by
 have:c=0\/c=1\/c=2\/c=3\/c=4:=by omega
 obtain rfl|rfl|rfl|rfl|rfl:=this<;>exact ⟨_,rfl,Fs rfl⟩
def ajE (hm:bL m) (h0:0<=c) (h4:c<=4):Ev (λi=>ur (m i) (om b t) c) (λy=>y=Bt t (opsL c)) di:=by
 have:c=0\/c=1\/c=2\/c=3\/c=4:=by omega
 unfold ur;obtain rfl|rfl|rfl|rfl|rfl:=this
 ·exact bC (Ss b t _) (aj adM.symm)
 ·exact bC (Ss b t _) (aj adM.symm)
 ·exact ZS
 ·exact ZS
 exact ZS
def Pu (hm:bL m) {y:Bool} (h:t.aq=1->dO n t.bM=.ok y) (h':t.aq≠1->y=false):Ev (λi=>oR (m i) (om b t)) (λz=>z=y) di:=by
 by_cases h1:t.aq=1
 ·exact Hy hm h1 (h h1)
 rw[h' h1];exact oJ (r:=.ok false) (N:=0) (λi _=>WV h1) rfl
def LK.label (hm:bL m) {f:Bool->aI α} {K:Nat->Bool->aI β} (hk:∀ y,(y=true->t.aq=3\/t.aq=1)->LK (f y) (λi=>K i y) V W):LK (ag (o9 n t) f) (λi=>ag (qG (m i) (om b t)) (K i)) V W:=by
 refine cm (U:=λy z=>z=y/\(y=true->t.aq=3\/t.aq=1)) (W0:=λ_ _=>False) ?_ (λy z h=>by obtain ⟨rfl,h⟩:=h;exact hk _ h) λ_ _ h=>h.elim;unfold o9 qG;refine aF (λh3=>?_) λh3=>aF (λh1=>?_) λh1=>?_
 ·have h3':t.aq=3:=by simpa using h3
  refine bj (Pu (n:=0) (y:=false) hm (λq=>by omega) λ_=>rfl) ?_;have e:((om b t).aq==3)=true:=h3;dsimp only [aI.br];rw[e];exact b9 ⟨rfl,λ_=>.inl h3'⟩
 ·have h1':t.aq=1:=by simpa using h1
  refine BU yK λy hy=>bj (Hy hm h1' hy) ?_;cases y with
  | true=>exact b9 ⟨rfl,λ_=>.inr h1'⟩
  | false=>
   exact ac_
 have h1':t.aq≠1:=by simpa using h1
 refine bj (Pu (n:=0) (y:=false) hm (λq=>ao q h1') λ_=>rfl) ?_;exact ac_
end
end
def LK.grow {α β:Type} {x:aI α} {F:Nat->aI β} {V:α->β->Prop} {W:sX->β->Prop} {m:Nat->Nat} (hm:bL m) (h:∀ m',bL m'->LK x (λi=>F (m' i+1)) V W):LK x (λi=>F (m i)) V W:=⟨λa e=>bX (F:=F) hm λm hm=>(h m hm).1 a e,λa e=>bX (F:=F) hm λm hm=>(h m hm).2 a e⟩
def jZ:=@LK.grow
def dl (t:aC):Int:=if t.aq=5 then (if t.bM=[40]\/t.bM=[91]\/t.bM=[123] then 1 else if t.bM=[41]\/t.bM=[93]\/t.bM=[125] then -1 else 0) else 0
inductive Yp (T:List aC):Int->Int->Prop where
 | nil {a:Int}:Yp T a a
 | one {a:Int} {t:aC} (h0:0<=a) (h:T[a.toNat]?=some t) (hd:dl t=0):Yp T a (a+1)
 | app {a c d:Int} (h1:Yp T a c) (h2:Yp T c d):Yp T a d
 | pair {a c:Int} {t u:aC} (h0:0<=a) (h:T[a.toNat]?=some t) (hd:dl t=1) (hb:Yp T (a+1) c) (hu:T[c.toNat]?=some u) (Hg:dl u = -1):Yp T a (c+1)
structure Pg (T:List aC) (a a':Int):Prop where
 le:a<=a'
 lt:a'<T.length
 bal:Yp T a a'
def Lz (T:List aC) (k:Bool) (a:Int):Prop:=k=false->∃ u,T[(a - 1).toNat]?=some u/\u.aq≠7
section
variable {T:List aC} {a2:Int}
def Pg.refl (h:a<T.length):Pg T a a:=⟨dR _,h,.nil⟩
def Pg.trans (h:Pg T a a') (h':Pg T a' a2):Pg T a a2:=⟨by have:=h.le;have:=h'.le;omega,h'.lt,.app h.bal h'.bal⟩
def Nx.pg (h:Nx T k a a' t):Pg T a a':=by
 refine ⟨h.le,h.lt,?_⟩;have h0:=h.a0;have key:∀ (d:Nat) (c:Int),a<=c->c+d=a'->Yp T c a':=by
  intro d
  induction d with
  | zero=>intro c _ e;rw[show a'=c by omega];exact .nil
  | succ d ih=>
   intro c hc e
   have hl:=h.lt
   obtain ⟨u,hu⟩:∃ u,T[c.toNat]?=some u:=⟨_,az aB⟩
   refine .app (.one aB hu ?_) (ih (c+1) aB aB)
   have:=h.bt c.toNat u aB aB hu
   simp[dl,this]
 have hle:=h.le;exact key (a' - a).toNat a J5 aB
def Pg.one (hC:PC s T b) (h0:0<=a) (h:T[a.toNat]?=some t) (hk:t.aq≠0) (hd:dl t=0):Pg T a (a+1):=⟨aB,hC.next h0 h hk,.one h0 h hd⟩
def Nx.read (hC:PC s T b) (h:Nx T k a a' t) (hk:t.aq≠0) (hd:dl t=0):Pg T a (a'+1):=h.pg.trans (.one hC h.ge h.tk hk hd)
def Nx.lz (h:Nx T k a a' t) (hk:t.aq≠7):Lz T k (a'+1):=λ_=>⟨t,by rw[Int.add_sub_cancel];exact h.tk,hk⟩
def Nx.lzs (h:Nx T k a a' t) (hz:Lz T k a):Lz T k a':=λq=>by rw[h.st q];exact hz q
def GW (h:t.aq≠5):dl t=0:=by simp[dl,h]
def Cy {x:ByS} (h:Z t x=true) (hx:x≠[40]/\x≠[91]/\x≠[123]/\x≠[41]/\x≠[93]/\x≠[125]):dl t=0:=by
 obtain ⟨h1,h2⟩:=la h;simp[dl,h1,h2,hx]
end
def VX (s:ByS) (T:List aC) (b:Int) (k:Bool) (a:Int) (r:ak×D) (y:ak×ah):Prop:=∃ e a',r=(e,H s T a' b k none)/\y=(e,RX s T b a' k)/\Pg T a a'/\Lz T k a'/\jd e
def WX (s:ByS) (T:List aC) (b:Int) (p:sX) (y:ak×ah):Prop:=∃ v,p=PF v/\FS s T b v y.2/\jd y.1
def In (s:ByS) (T:List aC) (b:Int) (c:Bool) (a:Int) (k:Bool) (q:Option ak) (x:ah):Prop:=
 (q=none/\x=RX s T b a k)\/∃ e a0 t0,q=some e/\jd e/\k=false/\Lz T k a/\0<=a0/\a0<a/\x=RX s T b a0 k/\T[a0.toNat]?=some t0/\Z t0 [40]=true/\∀ {m:Nat->Nat},bL m->Ev (λi=>dQ (m i) c x) (λy=>y=(e,RX s T b a k)) di
def XF (s:ByS) (T:List aC) (b:Int) (f:Bool->D->aI (ak×D)) (g:Nat->Bool->ah->aI (ak×ah)):Prop:=
 ∀ {m:Nat->Nat} {c k:Bool} {a:Int} {q:Option ak} {x:ah},bL m->0<=a->a<T.length->In s T b c a k q x->LK (f c (H s T a b k q)) (λi=>g (m i) c x) (VX s T b k a) (WX s T b)
section
variable {T:List aC}
def In.no:In s T b c a k none (RX s T b a k):=.inl vf
def In.af9 (hC:PC s T b) {q:Option ak} {x:ah} (h0:0<=a) (h1:a<T.length) (h:In s T b c a k q x) :
  ∃ t x',(q=none->∃ a',Nx T k a a' t/\x'=RX s T b a' k)/\(q≠none->x'=x/\Z t [40]=true)/\∀ {m:Nat->Nat},bL m->Ev (λi=>aS (m i) x) (λr=>r=(om b t,x')) di:=by
 obtain ⟨rfl,rfl⟩|⟨e,a0,t0,rfl,he,rfl,hz,g0,g1,rfl,ht,ho,_⟩:=h
 ·obtain ⟨a',t,h⟩:=qA hC k h0 h1
  exact ⟨t,_,λ_=>⟨a',h,rfl⟩,λq=>ao rfl q,λhm=>jl hm hC h⟩
 ·have h:Nx T false a0 a0 t0:=⟨g0,dR _,ht,λq=>El,λ_=>rfl,λ_ _ _ _=>by omega⟩
  exact ⟨t0,_,λq=>El,λ_=>⟨rfl,ho⟩,λhm=>jl hm hC h⟩
def LG (hC:PC s T b) (ih:XF s T b (df n) cX):XF s T b (de (n+1)) cL:=by
 intro m c k a q x hm h0 h1 hI;refine jZ (F:=λi=>cL i c x) hm λm hm=>?_;show LK (fq n (R n) c (H s T a b k q)) (λi=>eK (m i) (ar (m i)) c x) _ _;unfold fq eK vi eS;have fin:∀ {v:Int} {y:ak×ah},FS s T b v y.2->jd y.1->Ev (λ_=>aI.ok (y.1,y.2)) (WX s T b (PF v)) di:=λh1 h2=>aj ⟨_,rfl,h1,h2⟩;obtain ⟨t,x',hn,hp,hpk⟩:=hI.af9 hC h0 h1;refine bj (hpk hm) (bj (oJ (r:=.ok (Z t [42])) (N:=0) (λ_ _=>Ss b t [42]) rfl) ?_);cases q with
 | none=>
  obtain ⟨a',nx,rfl⟩:=hn rfl
  refine aF (λ_=>rh nx (sg nx.self (λht=>?_) λht=>?_)) du
  ·rw[ht];refine aJ du λ_=>bj (oI hm hC nx.self Xs) ?_;refine cm (ih hm (by have:=nx.ge;omega) (nx.Cp hC Xs) .no) ?_ ?_
   ·rintro _ _ ⟨e,a2,rfl,rfl,Bl,hz,he⟩;exact b9 ⟨_,a2,rfl,rfl,(nx.read hC Xs (Cy ht dN)).trans Bl,hz,.one dN he⟩
   rintro _ y ⟨v,rfl,h1,h2⟩;exact aj ⟨v,rfl,h1,.one dN h2⟩
  ·rw[ht];refine aJ (λ_=>?_) du;refine cm (ih hm nx.ge nx.lt .no) ?_ ?_
   ·rintro _ _ ⟨e,a2,rfl,rfl,Bl,hz,he⟩;exact b9 ⟨_,a2,rfl,rfl,nx.pg.trans Bl,hz,he⟩
   rintro _ y ⟨v,rfl,h1,h2⟩;exact fin h1 h2
 | some e=>
  obtain ⟨rfl,ho⟩:=hp bn
  have ht:Z t [42]=false:=by
   obtain ⟨_,h2⟩:=la ho;simp[Z,h2]
  rw[ht]
  refine aF du λ_=>aJ (λ_=>?_) du
  refine cm (ih hm h0 h1 hI) ?_ ?_
  ·rintro _ _ ⟨e,a2,rfl,rfl,Bl,hz,he⟩;exact b9 ⟨_,a2,rfl,rfl,Bl,hz,he⟩
  ·rintro _ y ⟨v,rfl,h1,h2⟩;exact fin h1 h2
end
section
variable {X Y:Type} {V:α->β->Prop} {W:sX->β->Prop}
def px {m:Nat->Nat} (hm:bL m) {body:Nat->(Y->aI β)->Y->aI β} {w:Y} {Q:β->Prop} (h:∀ next:Nat->Y->aI β,Ev (λi=>body i (next i) w) Q di):Ev (λi=>aI.iter (body i) (m i) w) Q di:=jX hm (h _)
def LK.NN (I:X->Y->Prop) (J:sX->Y->Prop) {body:(X->aI α)->X->aI α} {xb:Nat->(Y->aI β)->Y->aI β}
  (hj:∀ p w,J p w->∀ next':Nat->Y->aI β,Ev (λi=>xb i (next' i) w) (W p) di)
  (hb:∀ v w,I v w->∀ (next:X->aI α) (next':Nat->Y->aI β),(∀ v w,I v w->LK (next v) (λi=>next' i w) V W)->(∀ p w,J p w->Ev (λi=>next' i w) (W p) di)->LK (body next v) (λi=>xb i (next' i) w) V W) :
  ∀ (n:Nat) {m:Nat->Nat},bL m->∀ v w,I v w->LK (aI.iter body n v) (λi=>aI.iter (xb i) (m i) w) V W
 | 0,_,_,_,_,_=>da
 | n+1,_,hm,v,w,hI=>LK.Iw hm (hb v w hI _ _ (λv w h=>LK.NN I J hj hb n hm.pred v w h) λp w h=>px hm.pred λnext=>hj p w h next)
def uy:=@LK.NN
end
section
variable {T:List aC} {m:Nat->Nat} {y:ah}
def abI (hm:bL m) (hC:PC s T b) (h:FS s T b v y):Ev (λi=>dI (m i) c y) (λr=>FS s T b v r.2/\jd r.1) di:=by
 refine bX (F:=λi=>dI i c y) hm λm hm=>?_;show Ev (λi=>gk (m i) (ar (m i)) c y) _ _;unfold gk vi eS;exact ai FX λr hr=>bC (yW hr) (aY (aj ⟨hr,.leaf dN⟩))
def Su (hm:bL m) (hC:PC s T b) (h0:0<=l) (hl:l<=5) (h:FS s T b v y):Ev (λi=>cI (m i) l c y) (λr=>FS s T b v r.2/\jd r.1) di:=by
 obtain ⟨d,hd⟩:∃ d:Nat,(5 - l).toNat=d:=⟨_,rfl⟩
 induction d generalizing l m with
 | zero=>
  have:l=5:=by omega
  subst this
  refine bX (F:=λi=>cI i 5 c y) hm λm hm=>?_
  show Ev (λi=>eN (m i) (ar (m i)) 5 c y) _ _
  unfold eN vi eS
  exact aY (ai (abI hm hC h) λr hr=>aj hr)
 | succ d ih=>
  refine bX (F:=λi=>cI i l c y) hm λm hm=>?_
  show Ev (λi=>eN (m i) (ar (m i)) l c y) _ _
  exact ah9
def Gg (hm:bL m) (hC:PC s T b) (h:FS s T b v y):Ev (λi=>cX (m i) c y) (λr=>FS s T b v r.2/\jd r.1) di:=by
 refine bX (F:=λi=>cX i c y) hm λm hm=>?_;show Ev (λi=>eL (m i) (ar (m i)) c y) _ _;unfold eL vi eS;exact ai (Su hm hC dN dN h) λr hr=>px hm λ_=>bC (yW hr.1) (aG (aj hr))
def Gi (hm:bL m) (hC:PC s T b) (h:FS s T b v y):Ev (λi=>cL (m i) c y) (λr=>FS s T b v r.2/\jd r.1) di:=by
 refine bX (F:=λi=>cL i c y) hm λm hm=>?_;show Ev (λi=>eK (m i) (ar (m i)) c y) _ _;unfold eK vi eS;exact ai FX λr hr=>ai DM λ_ _=>aw (λ_=>ai (Gg hm hC hr) λz hz=>aj hz) λ_=>ai Kc λr hr=>ai (Gg hm hC hr) λz hz=>aj ⟨hz.1,.one dN hz.2⟩
def oT (hm:bL m) (hC:PC s T b) (h:FS s T b v y):Ev (λi=>ax (m i) c y) (λr=>FS s T b v r.2/\jd r.1) di:=by
 refine bX (F:=λi=>ax i c y) hm λm hm=>?_;show Ev (λi=>dC (m i) (ar (m i)) c y) _ _;unfold dC ji Bn oj jk eA eS;refine ai FX λr hr=>ai DM λk _=>bz (λw=>FS s T b v w.1/\jd w.2) (λw hw=>?_) λj hj=>aw (λ_=>ai (Gi hm hC hr) λz hz=>hj _ hz) λ_=>ai (Gi hm hC hr) λz hz=>hj _ hz;exact ahO
end
section
variable {T:List aC}
def LH (hC:PC s T b) (ih:XF s T b (dE n 0) (λi=>cI i 0)):XF s T b (df (n+1)) cX:=by
 intro m c k a q x hm h0 h1 hI;refine jZ (F:=λi=>cX i c x) hm λm hm=>?_;show LK (fT n (R n) c (H s T a b k q)) (λi=>eL (m i) (ar (m i)) c x) _ _;unfold fT eL vi eS;have fin:∀ (p:sX) (w:ah×ak),(∃ v,p=PF v/\FS s T b v w.1/\jd w.2)->∀ {F:Nat->Bool×ah->aI (ak×ah)},Ev (λi=>ag (cG w.1) λy=>aI.br y.1 (F i y) (.ok (w.2,y.2))) (WX s T b p) di:=by
  exact ak3
 refine cm (ih hm h0 h1 hI) ?_ ?_
 ·rintro _ _ ⟨e,a1,rfl,rfl,Bl,hz,he⟩;refine uy (λv w=>∃ e a',v=(H s T a' b k none,e)/\w=(RX s T b a' k,e)/\Pg T a a'/\Lz T k a'/\jd e) (λp w=>∃ v,p=PF v/\FS s T b v w.1/\jd w.2) (λp w h _=>fin p w h) ?_ n hm _ _ ⟨e,a1,rfl,rfl,Bl,hz,he⟩;rintro _ _ ⟨e,a1,rfl,rfl,Bl,hz,he⟩ next next' hn hf;obtain ⟨a2,t,nx⟩:=qA hC k (a:=a1) QD Bl.lt;refine bj uY (aJ (λ_=>?_) du);refine bj Fw (bj (oJ (r:=.ok (Z t [38])) (N:=0) (λ_ _=>Ss b t [38]) rfl) ?_);refine sg nx (λht=>?_) λht=>?_
  ·have hk:=(la ht).1;rw[ht];refine aF (λ_=>aJ (λ_=>?_) du) du;refine bj Ng ?_;refine cm (ih hm (by have:=nx.ge;omega) (nx.Cp hC aB) .no) ?_ ?_
   ·rintro _ _ ⟨e2,a3,rfl,rfl,hpg2,Lq,S6⟩;exact hn _ _ ⟨_,a3,rfl,rfl,(Bl.trans (nx.read hC aB (Cy ht dN))).trans hpg2,Lq,.two he S6⟩
   rintro _ y ⟨v,rfl,h1,h2⟩;exact hf _ _ ⟨v,rfl,h1,.two he h2⟩
  rw[ht];exact akN
 exact ak6
def Yq (hC:PC s T b) (G2:0<=l) (hl:l<=5) (hu:l=5->XF s T b (eD n) dI) (ih:l<5->XF s T b (dE n (l+1)) (λi=>cI i (l+1))) :
  XF s T b (dE (n+1) l) (λi=>cI i l):=by
 intro m c k a q x hm h0 h1 hI
 refine jZ (F:=λi=>cI i l c x) hm λm hm=>?_
 show LK (gY n (R n) l c (H s T a b k q)) (λi=>eN (m i) (ar (m i)) l c x) _ _
 unfold gY eN vi ji pB pM eS
 have fin:∀ (p:sX) (w:ah×ak),(∃ v,p=PF v/\FS s T b v w.1/\jd w.2)->∀ {F:Nat->Bool×ah->aI (ak×ah)},Ev (λi=>ag (cG w.1) λy=>aI.br y.1 (F i y) (.ok (w.2,y.2))) (WX s T b p) di:=by
  rintro p w ⟨v,rfl,h1,h2⟩ F
  exact bC (yW h1) (aG (aj ⟨v,rfl,h1,h2⟩))
 refine aF (λe5=>?_) λe5=>?_
 ·have e5:l=5:=by simp at e5;omega
  subst e5
  refine aJ (λ_=>?_) du
  refine cm (hu rfl hm h0 h1 hI) ?_ ?_
  ·rintro _ _ ⟨e,a1,rfl,rfl,h⟩
   exact b9 ⟨e,a1,rfl,rfl,h⟩
  ·rintro _ y ⟨v,rfl,h1,h2⟩
   exact aj ⟨v,rfl,h1,h2⟩
 have hl4:l<=4:=by simp at e5;omega
 have ih':XF s T b (dE n (l+1)) (λi=>cI i (l+1)):=ih aB
 refine aJ (λh=>ao h qI) λ_=>bG λhg=>bV hg ?_
 refine cm (ih' hm h0 h1 hI) ?_ ?_
 ·rintro _ _ ⟨e,a1,rfl,rfl,Bl,hz,he⟩
  refine uy (λv w=>∃ e a',v=(H s T a' b k none,e)/\w=(RX s T b a' k,e)/\Pg T a a'/\Lz T k a'/\jd e) (λp w=>∃ v,p=PF v/\FS s T b v w.1/\jd w.2) (λp w h _=>fin p w h) ?_ n hm _ _ ⟨e,a1,rfl,rfl,Bl,hz,he⟩
  rintro _ _ ⟨e,a1,rfl,rfl,Bl,hz,he⟩ next next' hn hf
  obtain ⟨a2,t,nx⟩:=qA hC k (a:=a1) QD Bl.lt
  refine bj (aj rfl) (aJ (λ_=>?_) du)
  refine bj (jl hm hC nx) (bj (ajE hm G2 hl4) ?_)
  obtain ⟨ops,e1,e2⟩:=ajD (n:=n) (t:=t) G2 hl4
  refine fJ nx (od e1 (gR e2 ?_))
  cases ht:Bt t (opsL l) with
  | false=>exact aF du λ_=>aJ du λ_=>b9 ⟨_,a2,rfl,rfl,Bl.trans nx.pg,nx.lzs hz,he⟩
  | true=>
   have hk:=Hz ht
   have hd:dl t=0:=by
    have h2:=hk.2
    have:l=0\/l=1\/l=2\/l=3\/l=4:=by omega
    obtain rfl|rfl|rfl|rfl|rfl:=this<;>simp[opsL] at h2<;>(try rcases h2 with h2|h2|h2|h2|h2|h2)<;>(try rcases h2 with h2|h2|h2)<;>(try rcases h2 with h2|h2)<;>simp[dl,h2]
   refine aF (λ_=>aJ (λ_=>?_) du) du
   have iy:=nx.Cp hC aB
   have FE:=nx.ge
   refine bj (oI hm hC nx.self aB) ?_
   refine rh nx.self (LK.LF hm aB iy he (λe' Md=>?_) λv r xp HJ=>?_)
   ·refine fJ nx.self (bG λ_=>bG λ_=>bV hg ?_)
    dsimp only
    refine cm (ih' hm aB iy .no) ?_ ?_
    ·rintro _ _ ⟨e2,a3,rfl,rfl,hpg2,Lq,S6⟩
     exact hn _ _ ⟨_,a3,rfl,rfl,(Bl.trans (nx.read hC aB hd)).trans hpg2,Lq,.two Md S6⟩
    ·rintro _ y ⟨v,rfl,h1,h2⟩
     exact hf _ _ ⟨v,rfl,h1,.two Md h2⟩
   ·exact dy hg (ai (Su hm hC aB aB xp) λy hy=>hf _ _ ⟨v,rfl,hy.1,.two HJ hy.2⟩)
 ·rintro _ y ⟨v,rfl,h1,h2⟩
  exact px hm λ_=>fin _ _ ⟨v,rfl,h1,h2⟩
end
section
variable {X Y:Type} {V:α->β->Prop} {W:sX->β->Prop} {F:Nat->aI β}
variable {j:X->aI α} {p:(X->aI α)->aI α}
def LK.jnS (J:X->Prop) (hj:∀ v,J v->LK (j v) F V W) (hp:∀ j:X->aI α,(∀ v,J v->LK (j v) F V W)->LK (p j) F V W):LK (aI.jn j p) F V W:=hp j hj
def oG:=@LK.jnS
def LK.jn2 (I:X->Y->Prop) (J:sX->Y->Prop) {j':Nat->Y->aI β} {p':Nat->(Y->aI β)->aI β} (hj:∀ v w,I v w->LK (j v) (λi=>j' i w) V W) (hf:∀ p w,J p w->Ev (λi=>j' i w) (W p) di) (hp:∀ (j:X->aI α) (j':Nat->Y->aI β),(∀ v w,I v w->LK (j v) (λi=>j' i w) V W)->(∀ p w,J p w->Ev (λi=>j' i w) (W p) di)->LK (p j) (λi=>p' i (j' i)) V W):LK (aI.jn j p) (λi=>aI.jn (j' i) (p' i)) V W:=hp _ _ hj hf
def yL:=@LK.jn2
end
section
variable {T:List aC}
def AG (b:Int) (t:aC) (x:ByS):Ev (λ_=>ch (om b t) x) (λr=>r=Z t x) di:=oJ (r:=.ok (Z t x)) (N:=0) (λ_ _=>Ss b t x) rfl
def MW (hC:PC s T b) (ih:XF s T b (de n) cL):XF s T b (aZ (n+1)) ax:=by
 intro m c k a q x hm h0 h1 hI;refine jZ (F:=λi=>ax i c x) hm λm hm=>?_;show LK (iX n (R n) c (H s T a b k q)) (λi=>dC (m i) (ar (m i)) c x) _ _;unfold iX dC ji Bn oj jk s6 pB eS eA;have hlen:=hC.oF;obtain ⟨t,x',hn,hp,hpk⟩:=hI.af9 hC h0 h1;refine bj (hpk hm) (bj (AG b t [42]) ?_);obtain ⟨a1,hpg1,hI1,hq⟩:∃ a1,Pg T a a1/\(∀ d,d=(c&&!Z t [42])->In s T b d a1 k q x')/\(q=none->Nx T k a a1 t)/\(q≠none->a1=a/\Z t [42]=false):=by
  cases q with
  | none=>
   obtain ⟨a',nx,rfl⟩:=hn rfl
   exact ⟨a',nx.pg,λ_ _=>.no,λ_=>nx,λq=>ao rfl q⟩
  | some e=>
   obtain ⟨rfl,ho⟩:=hp bn
   have ht:Z t [42]=false:=by
    obtain ⟨_,h2⟩:=la ho;simp[Z,h2]
   exact ⟨a,.refl h1,λd hd=>by subst hd;rw[ht];simpa using hI,λq=>El,λ_=>⟨rfl,ht⟩⟩
 obtain ⟨mk,hmk⟩:∃ mk,Z t [42]=mk:=⟨_,rfl⟩;rw[hmk] at hI1 hq ⊢;refine oG (λv=>v=(H s T a1 b k q,mk)) (λv hv=>?_) λj hj=>?_
 rotate_left
 ·cases q with
  | none=>exact aF (λ_=>fJ (hq.1 rfl) (ln (by rw[hmk];exact hj _ rfl))) λh=>by cases h
  | some e=>
   obtain ⟨rfl,rfl⟩:=hq.2 bn
   exact aF du λ_=>hj _ rfl
 subst hv;refine yL (λv w=>∃ e a',v=(H s T a' b k none,e)/\w=(RX s T b a' k,e)/\Pg T a a'/\Lz T k a'/\jd e) (λp w=>∃ v,p=PF v/\FS s T b v w.1/\jd w.2) ?_ ?_ λj j' hj hf=>?_
 ·rintro _ _ ⟨e,a',rfl,rfl,Bl,hz,he⟩;obtain ⟨a2,t2,n2⟩:=qA hC k (a:=a') QD Bl.lt;refine bj (jl hm hC n2) (bj (AG b t2 [124]) ?_);cases h2:Z t2 [124] with
  | false=>
   refine aJ (λ_=>?_) du
   cases mk with
   | true=>
    refine aJ (λ_=>?_) du
    refine fI (aF du λ_=>fI (fJ n2 (ln ?_)))
    rw[h2]
    exact aF (λ_=>kV n2.self (aj ⟨_,rfl,n2.fs,he⟩)) λh=>by cases h
   | false=>
    refine aJ du λ_=>?_
    refine fI (aF (λ_=>fJ n2 (ln ?_)) du)
    rw[h2]
    exact aF (λ_=>b9 ⟨e,a2,rfl,rfl,Bl.trans n2.pg,n2.lzs hz,he⟩) λh=>by cases h
  | true=>
   refine aJ du λ_=>?_
   refine oG (λv=>∃ a',v=H s T a' b k none/\Nx T k a' a2 t2) ?_ λj9 hj9=>?_
   rotate_left
   ·refine aF (λ_=>fJ n2 (ln ?_)) λ_=>hj9 _ ⟨a',rfl,n2⟩;rw[h2];exact aF du λ_=>hj9 _ ⟨a2,rfl,n2.self⟩
   ·rintro _ ⟨a',rfl,n3⟩;refine fI (fJ n3 (ln ?_));rw[h2];refine aF du λ_=>rh n2.self (bj (jl hm hC n2.self) (LK.LF hm n2.ge n2.lt he (λe' Md=>?_) λv r xp HJ=>?_))
    ·refine uy (λv w=>∃ l e0 a',v=(H s T a' b k none,e0::l)/\w=(RX s T b a' k,ak.mk 17 [] 0 [] [] (e0::l) [] [] e0.cN)/\Pg T a a'/\Lz T k a'/\((l.length:Int)<=a' - a)/\∀ x,x∈e0::l->jd x) (λp w=>∃ v,p=PF v/\FS s T b v w.1/\jd (ak.mk w.2.aq w.2.bM w.2.U w.2.B w.2.bT w.2.bK [] [] w.2.cN)) ?_ ?_ n hm _ _ ⟨[],e',a2,rfl,rfl,Bl.trans n2.pg,n2.lzs hz,by have:=(Bl.trans n2.pg).le;simp;omega,by simpa using Md⟩
     ·rintro _ w ⟨v,rfl,f1,f2⟩ next';exact bC (yW f1) (aG (aj ⟨v,rfl,f1,f2⟩))
     rintro _ _ ⟨l,e0,a3,rfl,rfl,Ix,z3,l3,m3⟩ next next' hn hf;obtain ⟨a4,t4,n4⟩:=qA hC k (a:=a3) (by have:=Ix.le;omega) Ix.lt;refine bj uY (aJ (λ_=>?_) du);refine bj (jl hm hC n4) (bj (AG b t4 [124]) ?_);have hle:=Ix.le;have iy:=Ix.lt;have he3:jd (ak.mk 17 [] 0 [] [] (e0::l) [] [] e0.cN):=.of qI (λq=>ao q dN) m3;refine sg n4 (λht=>?_) λht=>?_
     ·rw[ht];have hk:=(la ht).1;have g4:=n4.le;have l4:=n4.Cp hC aB;refine aF (λ_=>aJ (λ_=>?_) du) du;refine bj (oI hm hC n4.self aB) ?_;refine cm (ih hm aB l4 .no) ?_ ?_
      ·rintro _ _ ⟨e5,a5,rfl,rfl,pg5,z5,m5⟩;have:=pg5.le;exact bG λhg=>bV hg (hn _ _ ⟨l++[e5],e0,a5,rfl,rfl,(Ix.trans (n4.read hC aB (Cy ht dN))).trans pg5,z5,qI,λx hx=>by
        obtain q|q:=bH.1 (show x∈(e0::l)++[e5] from hx)
        ·exact m3 x q
        simp at q;subst q;exact m5⟩)
      rintro _ y ⟨v,rfl,f1,f2⟩;refine dy aed (hf _ _ ⟨v,rfl,f1,.of (by simp[ak.bK];omega) (by simp[ak.aq]) λx hx=>?_⟩);obtain q|q:=bH.1 hx
      ·exact m3 x q
      simp at q;subst q;exact f2
     rw[ht];refine aF du λ_=>aJ du λ_=>je λz _ hz=>?_;cases hz;exact b9 ⟨_,a4,rfl,rfl,Ix.trans n4.pg,n4.lzs z3,he3⟩
    exact px hm λ_=>bC (yW xp) (aG (aj ⟨v,rfl,xp,.one (k:=17) dN HJ⟩))
 ·rintro _ w ⟨v,rfl,f1,f2⟩;refine ai (C6 hm hC f1) λr hr=>ai DM λ_ _=>aw (λ_=>aw (λ_=>bC (yS hr) (aj ⟨v,rfl,hr,f2⟩)) λ_=>aj ⟨v,rfl,hr,f2⟩) λ_=>?_;exact ai Nn λr hr=>ai (Kl hm hr f2) λz hz=>px hm λ_=>bC (yW hz.1) (aG (aj ⟨v,rfl,hz.1,.one (k:=17) dN hz.2⟩))
 have hA:=hpg1.le;refine dG rfl (λhc=>cm (ih hm aB hpg1.lt (hI1 _ M7)) ?_ ?_) λhc=>cm (ih hm aB hpg1.lt (hI1 _ M7)) ?_ ?_;all_goals first
  | (rintro _ _ ⟨e,a',rfl,rfl,Bl,hz,he⟩;exact hj _ _ ⟨e,a',rfl,rfl,hpg1.trans Bl,hz,he⟩)
  | (rintro _ y ⟨v,rfl,f1,f2⟩;exact hf _ _ ⟨v,rfl,f1,f2⟩)
end
def ZM {α β γ:Type} {x:aI α} {f:α->aI β} {g:β->aI γ}:ag (ag x f) g=ag x λy=>ag (f y) g:=by cases x<;>rfl
section
variable {T:List aC}
def LJ:List ByS:=[[60],[60,61],[62],[62,61],[33,61],[61,126],[33,126]]
def af_ (h:Bt t [[45],[33]]=true):dl t=0/\Bt t LJ=false:=by
 obtain ⟨h1,h2⟩:=Hz h;simp at h2;obtain h2|h2:=h2<;>simp[dl,Bt,LJ,h1,h2]
def aga (h:Bt t LJ=true):dl t=0:=by
 obtain ⟨h1,h2⟩:=Hz h;simp[LJ] at h2;obtain h2|h2|h2|h2|h2|h2|h2:=h2<;>simp[dl,h2]
def ajG (h:Z t [40]=true):Bt t [[45],[33]]=false/\Bt t LJ=false/\Bt t [[46],[91]]=false:=by
 obtain ⟨h1,h2⟩:=la h;simp[Bt,LJ,h2]
def ä (hC:PC s T b) (ihU:XF s T b (eD n) dI) (ihP:XF s T b (eQ n) fc):XF s T b (eD (n+1)) dI:=by
 intro m c k a q x hm h0 h1 hI;refine jZ (F:=λi=>dI i c x) hm λm hm=>?_;show LK (iB n (R n) c (H s T a b k q)) (λi=>gk (m i) (ar (m i)) c x) _ _;unfold iB gk vi pB pM eS;obtain ⟨t,x',hn,hp,hpk⟩:=hI.af9 hC h0 h1;refine bj (hpk hm) ?_;cases q with
 | some e=>
  obtain ⟨rfl,ho⟩:=hp bn
  have P5:cG x'=.ok (true,x'):=by
   obtain ⟨h,_⟩|⟨_,_,_,_,_,_,_,_,_,rfl,_⟩:=hI
   ·cases h
   rfl
  obtain ⟨m1,m2,_⟩:=ajG ho
  refine bj (oJ (r:=.ok (true,x')) (N:=0) (λ_ _=>P5) rfl) (aJ du λ_=>?_)
  refine mP (bj FW ?_)
  rw[m1]
  refine aJ du λ_=>mP (bj FW ?_)
  rw[show Bt t [[60],[60,61],[62],[62,61],[33,61],[61,126],[33,126]]=false from m2]
  refine aJ du λ_=>aJ (λ_=>?_) du
  refine aF (λ_=>?_) du
  refine cm (ihP hm h0 h1 hI) ?_ ?_
  ·rintro _ _ ⟨e,a2,rfl,rfl,h⟩;exact b9 ⟨_,a2,rfl,rfl,h⟩
  ·rintro _ y ⟨v,rfl,h1,h2⟩;exact aj ⟨v,rfl,h1,h2⟩
 | none=>
  obtain ⟨a',nx,rfl⟩:=hn rfl
  refine bj uY (aJ du λ_=>?_)
  refine aF du λ_=>fJ nx (rh nx.self ?_)
  have nge:=nx.ge
  have un:∀ (v:Int),t.aq=5->dl t=0->v≠16->LK (aI.gd (cD (a'+1)) (ag (eD n false (H s T (a'+1) b k none)) λy17=>.ok (ak.mk v t.bM 0 [] [] [y17.1] [] [] (t.cN+b),y17.2))) (λi=>ag (P (m i) (RX s T b a' k)) λy22=>ag (dI (m i) false y22.2) λy24=>.ok (ak.mk v t.bM 0 [] [] [y24.1] [] [] (t.cN+b),y24.2)) (VX s T b k a) (WX s T b):=by
   intro v hk hd hv;refine bG λ_=>bj Ng (cm (ihU hm aB (nx.Cp hC aB) .no) ?_ ?_)
   ·rintro _ _ ⟨e,a2,rfl,rfl,Bl,hz,he⟩;exact b9 ⟨_,a2,rfl,rfl,(nx.read hC aB hd).trans Bl,hz,.one hv he⟩
   rintro _ y ⟨w,rfl,h1,h2⟩;exact aj ⟨w,rfl,h1,.one hv h2⟩
  refine mP (bj FW (fI (gR (Fs (l:=[[45],[33]]) rfl) ?_)))
  cases hA:Bt t [[45],[33]] with
  | true=>
   obtain ⟨hd,hB⟩:=af_ hA
   refine aF (λ_=>aJ (λ_=>mP (bj FW ?_)) du) du
   rw[show Bt t [[60],[60,61],[62],[62,61],[33,61],[61,126],[33,126]]=false from hB]
   exact aJ du λ_=>aJ du λ_=>un 19 (Hz hA).1 hd dN
  | false=>
   refine aF du λ_=>aJ du λ_=>mP (bj FW (gR (Fs (l:=LJ) rfl) ?_))
   rw[show [[60],[60,61],[62],[62,61],[33,61],[61,126],[33,126]]=LJ from rfl]
   cases hB:Bt t LJ with
   | true=>exact aF (λ_=>aJ (λ_=>aJ du λ_=>un 9 (Hz hB).1 (aga hB) dN) λh=>by cases h) λh=>by cases h
   | false=>
    refine aF du λ_=>aJ du λ_=>aJ (λ_=>?_) du
    refine cm (ihP hm nx.ge nx.lt .no) ?_ ?_
    ·rintro _ _ ⟨e,a2,rfl,rfl,Bl,h⟩;exact b9 ⟨_,a2,rfl,rfl,nx.pg.trans Bl,h⟩
    ·rintro _ y ⟨v,rfl,h1,h2⟩;exact aj ⟨v,rfl,h1,h2⟩
end
section
variable {T:List aC} {m:Nat->Nat}
def Sv (hm:bL m) (t:aC):Ev (λi=>qG (m i) t) (λ_=>True) di:=by
 unfold qG;exact ai (WU hm t) λ_ _=>aw qn λ_=>aj trivial
def ajH {α β:Type} {V:α->β->Prop} {W:sX->β->Prop} (hm:bL m) (hC:PC s T b) (tL:∀ j,j<n->XF s T b (aZ j) ax) {e:ak} {f:D×ak->aI α} {K:Nat->ak×ah->aI β} (h0:0<=a) (h1:a<T.length) (hk:∀ x a' u,Pg T a a'->T[a'.toNat]?=some u->Z u [93]=true->jd x->LK (f (H s T a' b k none,ak.mk 12 [] 0 [] [] [e,x] [] [] e.cN)) (λi=>K i (x,RX s T b (a'+1) k)) V W) (hw:∀ v r,FS s T b v r.2->jd r.1->Ev (λi=>K i r) (W (PF v)) di) :
  LK (ag (gx n true (H s T a b k none) e) f) (λi=>ag (ax (m i) false (RX s T b a true)) λy=>ag (cy (m i) [93] k y.2) λz=>K i (y.1,z)) V W:=by
 obtain _|_|j:=n
 ·exact da
 ·exact da
 ·show LK (ag (ag (ag (aZ j false (H s T a b true none)) λy2=>ag (cC j [93] y2.2) λy3=>.ok (ak.mk 12 [] 0 [] [] [e,y2.1] [] [] e.cN,y3)) λy4=>.ok (H y4.2.cP y4.2.oh y4.2.bO y4.2.base k y4.2.iO,y4.1)) f) _ V W
  exact ahL
def BW (h:Z t [40]=true\/Z t [91]=true\/Z t [123]=true):dl t=1:=by
 obtain h|h|h:=h<;>obtain ⟨h1,h2⟩:=la h<;>simp[dl,h1,h2]
def BX (h:Z t [41]=true\/Z t [93]=true\/Z t [125]=true):dl t = -1:=by
 obtain h|h|h:=h<;>obtain ⟨h1,h2⟩:=la h<;>simp[dl,h1,h2]
def Nx.pair (hC:PC s T b) {a1 a2:Int} {u:aC} (h:Nx T k a a1 t) (ho:dl t=1) (hp:Pg T (a1+1) a2) (hu:T[a2.toNat]?=some u) (hc:dl u = -1):Pg T a (a2+1)/\Lz T k (a2+1):=by
 have hk:u.aq=5:=by
  unfold dl at hc;split at hc
  ·assumption
  omega
 have hle:=hp.le;have FE:=h.ge;have hle2:=h.le;exact ⟨⟨aB,hC.next aB hu aB,.app h.pg.bal (.pair FE h.tk ho hp.bal hu hc)⟩,λ_=>⟨u,by rw[Int.add_sub_cancel];exact hu,by omega⟩⟩
def Pv (hm:bL m) (hC:PC s T b) {a':Int} (h:Nx T k a a' t) (h0:t.aq≠0):Ev (λi=>eR (m i) (RX s T b a k)) (λr=>r=(k,RX s T b (a'+1) true)) di:=by
 unfold eR;exact ai (oI hm hC h h0) λr e=>by subst e;exact aj rfl
def Up (hC:PC s T b) (ihP:XF s T b (fe n) dQ) (tL:∀ j,j<n->XF s T b (aZ j) ax):XF s T b (eQ (n+1)) fc:=by
 intro m c k a q x hm h0 h1 hI;refine jZ (F:=λi=>fc i c x) hm λm hm=>?_;show LK (iH n (R n) c (H s T a b k q)) (λi=>hO (m i) (ar (m i)) c x) _ _;unfold iH hO vi pB pM eS;have fin:∀ (p:sX) (w:ah×ak),(∃ v,p=PF v/\FS s T b v w.1/\jd w.2)->∀ {F:Nat->Bool×ah->aI (ak×ah)},Ev (λi=>ag (cG w.1) λy=>aI.br y.1 (F i y) (.ok (w.2,y.2))) (WX s T b p) di:=by
  rintro p w ⟨v,rfl,h1,h2⟩ F;exact bC (yW h1) (aG (aj ⟨v,rfl,h1,h2⟩))
 refine cm (ihP hm h0 h1 hI) ?_ ?_
 rotate_left
 ·rintro _ y ⟨v,rfl,h1,h2⟩;exact px hm λ_=>fin _ _ ⟨v,rfl,h1,h2⟩
 rintro _ _ ⟨e,a1,rfl,rfl,Bl,hz,he⟩;refine uy (λv w=>∃ e a',v=(H s T a' b k none,e)/\w=(RX s T b a' k,e)/\Pg T a a'/\Lz T k a'/\jd e) (λp w=>∃ v,p=PF v/\FS s T b v w.1/\jd w.2) (λp w h _=>fin p w h) ?_ n hm _ _ ⟨e,a1,rfl,rfl,Bl,hz,he⟩;rintro _ _ ⟨e,a1,rfl,rfl,Bl,hz,he⟩ next next' hn hf;obtain ⟨a2,t,nx⟩:=qA hC k (a:=a1) QD Bl.lt;have FE:=nx.ge;refine bj (aj rfl) (aJ (λ_=>?_) du);refine bj (jl hm hC nx) (bj (Od hm dN) ?_);refine fJ nx (rh nx.self (ln ?_));cases hd:Z t [46] with
 | true=>
  have hk:=(la hd).1
  have hA:Bt t [[46],[91]]=true:=by simp[Bt,la hd]
  rw[hA]
  have iy:=nx.Cp hC aB
  refine aF (λ_=>aJ (λ_=>?_) du) du
  refine bj (jl hm hC nx.self) (LK.LF hm FE nx.lt he (λe' Md=>?_) λv r xp HJ=>?_)
  ·refine bG λ_=>bj (AG b t [46]) ?_;rw[hd];refine aJ (λ_=>bj (oI hm hC nx.self aB) ?_) du;obtain ⟨a3,u,ny⟩:=qA hC k (a:=a2+1) aB iy;refine bj (jl hm hC ny) (fJ ny ?_);refine fI (mP (LK.label (t:=u) hm λy hy=>?_));cases y with
   | true=>
    have hu:u.aq=3\/u.aq=1:=hy rfl
    refine aF du λ_=>aJ du λ_=>bG λ_=>bj (oI hm hC ny.self aB) (hn _ _ ⟨_,a3+1,rfl,rfl,?_,?_,.one dN Md⟩)
    ·exact (Bl.trans (nx.read hC aB (Cy hd dN))).trans (ny.read hC aB (GW aB))
    ·exact ny.lz aB
   | false=>
    refine aF (λ_=>aJ (λ_=>kV ny.self ?_) du) du
    refine bC (a:=RF s T b a3 k (u.cN+b)) rfl (ai (En hm hC ny.fs) λr hr=>hf _ _ ⟨_,rfl,hr,.one dN Md⟩)
  ·refine ai (UW _ _) λ_ _=>aw (λ_=>ai (En hm hC xp) λr hr=>ai (C6 hm hC hr) λr hr=>bz (FS s T b v) (λw hw=>ai (En hm hC hw) λr hr=>hf _ _ ⟨_,rfl,hr,.one dN HJ⟩) λj hj=>ai (Sv hm _) λ_ _=>aw (λ_=>bC (yS hr) (hj _ hr)) λ_=>hj _ hr) λ_=>?_;exact ai (â hm hC xp) λr hr=>ai (oT hm hC hr) λr hr=>ai (xK hm hC hr.1) λz hz=>hf _ _ ⟨_,rfl,hz,.two HJ hr.2⟩
 | false=>
  refine aF du λ_=>ln ?_
  cases hb:Z t [91] with
  | false=>
   have hA:Bt t [[46],[91]]=false:=by
    simp only[Z] at hd hb;rw[jC];intro hA;obtain ⟨q1,q2⟩:=Hz hA;simp at q2;obtain q2|q2:=q2<;>simp[q1,q2] at hd hb
   rw[hA]
   exact aF du λ_=>aJ du λ_=>b9 ⟨_,a2,rfl,rfl,Bl.trans nx.pg,nx.lzs hz,he⟩
  | true=>
   have hk:=(la hb).1
   have hA:Bt t [[46],[91]]=true:=by simp[Bt,la hb]
   rw[hA]
   have iy:=nx.Cp hC aB
   refine aF (λ_=>aJ (λ_=>?_) du) du
   refine bj (jl hm hC nx.self) (LK.LF hm FE nx.lt he (λe' Md=>?_) λv r xp HJ=>?_)
   ·refine bG λ_=>bj (AG b t [46]) ?_;rw[hd];refine aJ du λ_=>bj (Pv hm hC nx.self aB) ?_;refine ajH (K:=λi y=>next' i (y.2,ak.mk 12 [] 0 [] [] [e',y.1] [] [] e'.cN)) hm hC tL eX iy (λx a3 u Ix hu ho hx=>?_) λv r xp HJ=>hf _ _ ⟨_,rfl,xp,.two Md HJ⟩;obtain ⟨p1,p2⟩:=nx.pair hC (BW (.inr (.inl hb))) Ix hu (BX (.inr (.inl ho)));exact bG λ_=>hn _ _ ⟨_,a3+1,rfl,rfl,Bl.trans p1,p2,.two Md hx⟩
   ·refine ai (UW _ _) λ_ _=>aw (λ_=>ai (En hm hC xp) λr hr=>ai (C6 hm hC hr) λr hr=>bz (FS s T b v) (λw hw=>ai (En hm hC hw) λr hr=>hf _ _ ⟨_,rfl,hr,.one dN HJ⟩) λj hj=>ai (Sv hm _) λ_ _=>aw (λ_=>bC (yS hr) (hj _ hr)) λ_=>hj _ hr) λ_=>?_;exact ai (â hm hC xp) λr hr=>ai (oT hm hC hr) λr hr=>ai (xK hm hC hr.1) λz hz=>hf _ _ ⟨_,rfl,hz,.two HJ hr.2⟩
end
section
variable {T:List aC} {m:Nat->Nat}
def Sw {x:ByS} (h:Nx T k a a' t) (ht:Z t x=true):Tk (cW n x (H s T a b k q)) (H s T (a'+1) b k q):=by
 unfold cW dq pB pM;obtain e|e:=tT (n:=n) (s:=s) (b:=b) (q:=q) h
 ·rw[e];exact .inl rfl
 rw[e,Aj];dsimp only;rw[GH,Aj,ht];by_cases hg:cD (a'+1)
 ·simp only[iT,aI.br,aI.gd,hg,if_true,Aj];exact ll
 simp only[iT,aI.br,aI.gd,hg,if_false];exact .inl rfl
variable {V:α->β->Prop} {W:sX->β->Prop}
def ajI (hm:bL m) (hC:PC s T b) (tL:∀ j,j<n->XF s T b (aZ j) ax) {e:ak} {f:D×Bool×ak->aI α} {K:Nat->ak×ah->aI β} (h0:0<=a) (h1:a<T.length) (hk:∀ x a' u,Pg T a a'->T[a'.toNat]?=some u->Z u [41]=true->jd x->LK (f (H s T a' b k none,c,x)) (λi=>K i (x,RX s T b (a'+1) k)) V W) (hw:∀ v r,FS s T b v r.2->jd r.1->Ev (λi=>K i r) (W (PF v)) di) :
  LK (ag (iE n true (H s T a b k none) c e) f) (λi=>ag (ax (m i) c (RX s T b a true)) λy=>ag (cy (m i) [41] k y.2) λz=>K i (y.1,z)) V W:=by
 obtain _|_|j:=n
 ·exact da
 ·exact da
 ·show LK (ag (ag (ag (aZ j c (H s T a b true none)) λy2=>ag (cC j [41] y2.2) λz=>.ok (c,y2.1,z)) λy4=>.ok (H y4.2.2.cP y4.2.2.oh y4.2.2.bO y4.2.2.base k y4.2.2.iO,y4.1,y4.2.1)) f) _ V W
  exact ahL
def VB (s:ByS) (T:List aC) (b:Int) (k:Bool) (a':Int) (r:ak×D) (y:ak×ah):Prop:=∃ x a3 u,r=(x,H s T (a3+1) b k none)/\y=(x,RX s T b (a3+1) k)/\Pg T (a'+1) a3/\T[a3.toNat]?=some u/\Z u [41]=true/\jd x
def LL (hm:bL m) (hC:PC s T b) (tL:∀ j,j<n->XF s T b (aZ j) ax) (nx:Nx T k a a' t) (ht:Z t [40]=true) :
  LK (eg n c (H s T a b k none)) (λi=>ag (eR (m i) (RX s T b a k)) λy43=>ag (ax (m i) c y43.2) λy45=>ag (cy (m i) [41] y43.1 y45.2) λy47=>.ok (y45.1,y47)) (VB s T b k a') (WX s T b):=by
 obtain _|n:=n
 ·exact da
 ·show LK (kf n (R n) c (H s T a b k none)) _ _ _
  unfold kf pM eS
  have hk:=(la ht).1
  have FE:=nx.ge
  have iy:=nx.Cp hC aB
  refine gR (Sw nx ht) (bj (Pv hm hC nx aB) ?_)
  refine ajI (K:=λi y=>.ok (y.1,y.2)) hm hC (λj hj=>tL j aB) aB iy (λx a3 u Ix hu ho hx=>?_) λv r xp HJ=>aj ⟨v,rfl,xp,HJ⟩
  exact bG λ_=>b9 ⟨x,a3,u,rfl,rfl,Ix,hu,ho,hx⟩
def Yr (hm:bL m) (hC:PC s T b) (tL:∀ j,j<n->XF s T b (aZ j) ax) (nx:Nx T k a a' t) (ht:Z t [40]=true) :
  LK (eg n c (H s T a b k none)) (λi=>ag (eR (m i) (RX s T b a k)) λy43=>ag (ax (m i) c y43.2) λy45=>ag (cy (m i) [41] y43.1 y45.2) λy47=>.ok (y45.1,y47)) (VX s T b k a) (WX s T b):=(LL hm hC tL nx ht).mono (by
 rintro _ _ ⟨x,a3,u,rfl,rfl,Ix,hu,ho,hx⟩
 obtain ⟨p1,p2⟩:=nx.pair hC (BW (.inl ht)) Ix hu (BX (.inl ho))
 exact ⟨x,a3+1,rfl,rfl,p1,p2,hx⟩) λ_ _ h=>h
def LK.names (hm:bL m) (hC:PC s T b) (h0:0<=a) (h1:a<T.length) {g:mz×D->D->aI α} {K:Nat->mz×ah->aI β} (hk:∀ a' y p0,Pg T a a'->Lz T k a'->LK (g (y,p0) (H s T a' b k q)) (λi=>K i (y,RX s T b a' k)) V W) (hw:∀ v r,FS s T b v r.2->Ev (λi=>K i r) (W (PF v)) di) :
  LK (ag (kL n (H s T a b k q)) λy=>ag (ei n [105,110] y.2) λp=>g y p) (λi=>ag (lM (m i) (RX s T b a k)) (K i)) V W:=by
 unfold kL lM
 have asB:∀ {α β:Type} (b:Bool) (x y:aI α) (f:α->aI β),ag (aI.br b x y) f=aI.br b (ag x f) (ag y f):=λb x y f=>by cases b<;>rfl
 simp only[aI.jn,ZM,asB,Aj]
 obtain ⟨a1,t1,n1⟩:=qA hC k h0 h1
 have fin:∀ {v:Int} {r:mz×ah},FS s T b v r.2->Ev (λi=>K i r) (W (PF v)) di:=λh=>hw _ _ h
 refine LK.name hm hC n1 (λk1 _=>?_) λv r hr=>?_
 ·have l1:=n1.Cp hC aB
  have g1:=n1.le
  obtain ⟨a2,t2,n2⟩:=qA hC k (a:=a1+1) aB l1
  refine LK.expect hm hC n2 (λk2=>?_) λv r hr=>?_
  ·have l2:=n2.Cp hC (by have:=(la k2).1;omega)
   have g2:=n2.le
   obtain ⟨a3,t3,n3⟩:=qA hC k (a:=a2+1) aB l2
   refine rh n3 (bj (jl hm hC n3) ?_)
   refine LK.name hm hC n3.self (λk3 _=>?_) λv r hr=>?_
   ·have l3:=n3.Cp hC aB
    have g3:=n3.le
    refine bj uY ?_
    dsimp only
    refine aF (λe=>?_) λe=>?_
    ·rw[e]
     refine LK.fail ?_
     refine aY (aY (bC (a:=RF s T b (a3+1) k (t3.cN+b)) rfl ?_))
     exact ai (M3 hm hC ⟨_,_,rfl,by omega,by omega⟩) λr hr=>hw _ _ hr
    ·rw[e]
     obtain ⟨a4,t4,n4⟩:=qA hC k (a:=a3+1) aB l3
     refine LK.keyword hm hC n4 (λk4=>hk _ _ _ ?_ (n4.lz Zy)) λv r hr=>hw _ _ hr
     have p3:=((n1.read hC aB IG).trans (n2.read hC (by have:=(la k2).1;omega) (Cy k2 dN))).trans (n3.read hC aB IG)
     exact p3.trans (n4.read hC Zy (GW Zy))
   ·have e:=yW hr
    refine bC e (aG ?_)
    exact Zh
  ·refine ai Nn λr hr=>ai (á hm hC hr) λr hr=>bC (yW hr) (aG ?_)
   exact Zh
 ·refine ai (JU hm hC hr) λr hr=>ai Nn λr hr=>ai (á hm hC hr) λr hr=>bC (yW hr) (aG ?_)
  exact Zh
def abJ (hC:PC s T b) (tL:XF s T b (aZ n) ax) (hm:bL m) (h0:0<=a) (h1:a<T.length) :
  LK (eI (n+1) (H s T a b k none)) (λi=>fb (m i) (RX s T b a k)) (VX s T b k a) (WX s T b):=by
 refine jZ (F:=λi=>fb i (RX s T b a k)) hm λm hm=>?_
 show LK (iY n (R n) (H s T a b k none)) (λi=>mr (m i) (ar (m i)) (RX s T b a k)) _ _
 unfold iY mr vi Bn oj jk s6 pB eA
 obtain ⟨a1,t,nx⟩:=qA hC k h0 h1
 have g1:=nx.ge
 refine bj (jl hm hC nx) (bj (oJ (r:=.ok (D1 t [102,111,114])) (N:=0) (λ_ _=>LD b t _) rfl) ?_)
 refine rh nx (fJ nx.self (rN ?_))
 cases hw:D1 t [102,111,114] with
 | false=>
  refine aF (λ_=>aJ (λ_=>?_) du) du
  refine cm (tL hm g1 nx.lt .no) ?_ ?_
  ·rintro _ _ ⟨e,a2,rfl,rfl,Bl,h⟩
   exact b9 ⟨_,a2,rfl,rfl,nx.pg.trans Bl,h⟩
  ·rintro _ y ⟨v,rfl,f1,f2⟩
   exact aj ⟨v,rfl,f1,f2⟩
 | true=>
  have hk:=Ep hw
  refine aF du λ_=>aJ du λ_=>?_
  have iy:=nx.Cp hC aB
  have kw:Tk (ei n [102,111,114] (H s T a1 b k none)) (H s T (a1+1) b k none):=by
   unfold ei pB pM
   obtain e|e:=tT (n:=n) (s:=s) (b:=b) (q:=none) nx.self
   ·rw[e];exact .inl rfl
   ·rw[e,Aj]
    dsimp only
    rw[LC,Aj,hw]
    exact dW λ_=>ll
  refine gR kw (bj (oI hm hC nx.self aB) ?_)
  have hlen:=hC.oF
  have J0:∀ {v:Int} {r:ah} {E:ak},FS s T b v r->jd E->E.bK.length<=2->Ev (λi=>ag (cH (m i) [58] r) λy21=>ag (ax (m i) false y21) λy23=>gd (nP 144 E.bK.length (List.length [y23.1])) (.ok ((ak.mk 15 E.bM E.U E.B E.bT (E.bK++[y23.1]) [] [] E.cN),y23.2))) (WX s T b (PF v)) di:=by
   intro v r E hr hE hl
   refine ai (JU hm hC hr) λr hr=>ai (oT hm hC hr) λr hr=>aH (aj ⟨v,rfl,hr.1,.of qI (λe=>ao e dN) λx hx=>?_⟩)
   obtain e|e:=bH.1 hx
   ·exact hE.s x e
   ·simp at e;subst e;exact hr.2
  have one15:∀ {e:ak} {x y:ByS} {p:Int},jd e->jd (ak.mk 15 [] 0 x y ([]++[e]) [] [] p):=λh=>.one dN h
  have two15:∀ {e e2:ak} {x y:ByS} {p:Int},jd e->jd e2->jd (ak.mk 15 [] 0 x y (([]++[e])++[e2]) [] [] p):=λh h2=>.two h h2
  have ff:∀ {v:Int} {r:mz×ah} {e:ak} {z:ah},FS s T b v z->jd e->Ev (λi=>gd (nP 144 (List.length ([]:List ak)) (List.length [e])) (jn (λ(v17:ah×ak)=>ag (cH (m i) [58] v17.1) λy21=>ag (ax (m i) false y21) λy23=>gd (nP 144 v17.2.bK.length (List.length [y23.1])) (.ok ((ak.mk v17.2.aq v17.2.bM v17.2.U v17.2.B v17.2.bT (v17.2.bK++[y23.1]) [] [] v17.2.cN),y23.2))) λj18=>ag (aS (m i) z) λy27=>ag (jO y27.1 [105,102]) λy28=>br y28 (ag (P (m i) y27.2) λy31=>ag (ax (m i) false y31.2) λy32=>gd (nP 144 (List.length ([]++[e])) (List.length [y32.1])) (j18 (y32.2,(ak.mk 15 [] 0 r.1.x0 r.1.x1 (([]++[e])++[y32.1]) [] [] (om b t).cN)))) (j18 (y27.2,(ak.mk 15 [] 0 r.1.x0 r.1.x1 ([]++[e]) [] [] (om b t).cN))))) (WX s T b (PF v)) di:=by
   intro v r e z hz he
   refine aH (ai (C6 hm hC hz) λr2 HJ=>ai (WT _ _) λ_ _=>aw (λ_=>ai (En hm hC HJ) λr3 hr3=>ai (oT hm hC hr3) λr4 hr4=>aH (J0 hr4.1 (two15 he hr4.2) QA)) λ_=>J0 HJ (one15 he) QA)
  refine LK.names hm hC aB iy (λa2 y p0 Uq z2=>?_) λv r hr=>ai (oT hm hC hr) λz hz=>ff hz.1 hz.2
  have g2:=Uq.le
  refine cm (tL hm aB Uq.lt .no) ?_ ?_
  rotate_left
  ·rintro _ z ⟨v,rfl,f1,f2⟩
   exact ff (r:=(y,z.2)) f1 f2
  rintro _ _ ⟨e,a3,rfl,rfl,Ix,z3,he⟩
  have g3:=Ix.le
  have pgA:Pg T a a3:=((nx.read hC aB (GW aB)).trans Uq).trans Ix
  refine bG λhg=>bV hg ?_
  have fin:∀ {E:ak} {a4:Int},Pg T a a4->jd E->E.bK.length<=2->E.aq=15->LK (ag (cW n [58] (H s T a4 b k none)) λy24=>ag (aZ n false y24) λy26=>gd (nP 144 E.bK.length (List.length [y26.1])) (.ok ((ak.mk E.aq E.bM E.U E.B E.bT (E.bK++[y26.1]) [] [] E.cN),y26.2))) (λi=>ag (cH (m i) [58] (RX s T b a4 k)) λy21=>ag (ax (m i) false y21) λy23=>gd (nP 144 E.bK.length (List.length [y23.1])) (.ok ((ak.mk E.aq E.bM E.U E.B E.bT (E.bK++[y23.1]) [] [] E.cN),y23.2))) (VX s T b k a) (WX s T b):=by
   intro E a4 LM hE hl hK
   have g4:=LM.le
   obtain ⟨a5,u,n5⟩:=qA hC k (a:=a4) aB LM.lt
   have g5:=n5.ge
   have em:∀ {x:ak},jd x->jd (ak.mk E.aq E.bM E.U E.B E.bT (E.bK++[x]) [] [] E.cN):=λhx=>.of qI (λe=>ao (hK.symm.trans e) dN) λy hy=>by
    obtain e|e:=bH.1 hy
    ·exact hE.s y e
    ·simp at e;subst e;exact hx
   refine LK.expect hm hC n5 (λht=>?_) λv r hr=>ai (oT hm hC hr) λr hr=>aH (aj ⟨v,rfl,hr.1,em hr.2⟩)
   have hk5:=(la ht).1
   refine cm (tL hm aB (n5.Cp hC aB) .no) ?_ ?_
   ·rintro _ _ ⟨e,a6,rfl,rfl,pg6,z6,he⟩
    exact bG λhg=>bV hg (b9 ⟨_,a6,rfl,rfl,(LM.trans (n5.read hC aB (Cy ht dN))).trans pg6,z6,em he⟩)
   ·rintro _ z ⟨v,rfl,f1,f2⟩
    exact aH (aj ⟨v,rfl,f1,em f2⟩)
  obtain ⟨a4,u,n4⟩:=qA hC k (a:=a3) aB Ix.lt
  have g4:=n4.ge
  refine fI (mP (bj (jl hm hC n4) (bj (oJ (r:=.ok (D1 u [105,102])) (N:=0) (λ_ _=>LD b u _) rfl) (fJ n4 (rN ?_)))))
  cases hi:D1 u [105,102] with
  | false=>exact aF du λ_=>aJ du λ_=>fin (E:=ak.mk 15 [] 0 y.x0 y.x1 ([]++[e]) [] [] (t.cN+b)) (pgA.trans n4.pg) (one15 he) QA rfl
  | true=>
   have hk4:=(Ep hi).1
   refine aF (λ_=>aJ (λ_=>?_) du) du
   have kw2:Tk (ei n [105,102] (H s T a4 b k none)) (H s T (a4+1) b k none):=by
    unfold ei pB pM
    obtain e|e:=tT (n:=n) (s:=s) (b:=b) (q:=none) n4.self
    ·rw[e];exact .inl rfl
    ·rw[e,Aj]
     dsimp only
     rw[LC,Aj,hi]
     exact dW λ_=>ll
   refine gR kw2 (bj (oI hm hC n4.self aB) (cm (tL hm aB (n4.Cp hC aB) .no) ?_ ?_))
   ·rintro _ _ ⟨e2,a6,rfl,rfl,pg6,z6,S6⟩
    exact bG λhg=>bV hg (fin (E:=ak.mk 15 [] 0 y.x0 y.x1 (([]++[e])++[e2]) [] [] (t.cN+b)) ((pgA.trans (n4.read hC aB (GW aB))).trans pg6) (two15 he S6) QA rfl)
   ·rintro _ z ⟨v,rfl,f1,f2⟩
    exact aH (J0 f1 (two15 he f2) QA)
end
def Ex {α:Type} (x:aI α) (v:Int):Prop:=x=.stuck\/x=.ry (PF v)
section
variable {x y:aI α}
variable {f:α->aI β}
def Ex.bind (h:Ex x v):Ex (ag x f) v:=by
 obtain rfl|rfl:=h
 ·exact .inl rfl
 exact .inr rfl
def qM:=@Ex.bind
def Ex.tk {c:α} (h:Tk x c) (hf:Ex (f c) v):Ex (ag x f) v:=by
 obtain rfl|rfl:=h
 ·exact .inl rfl
 exact hf
def oZ:=@Ex.tk
def Ex.br {b:Bool} (ht:b=true->Ex x v) (hf:b=false->Ex y v):Ex (aI.br b x y) v:=by
 cases b with
 | true=>exact ht rfl
 | false=>exact hf rfl
def nM:=@Ex.br
def Ex.gd {p:Prop} [Decidable p] (h:Ex x v):Ex (aI.gd p x) v:=by
 unfold aI.gd;split
 ·exact h
 exact .inl rfl
end
def Ex.jn {α X:Type} {v:Int} {j:X->aI α} {p:(X->aI α)->aI α} (h:Ex (p j) v):Ex (aI.jn j p) v:=h
def Cl (t:aC):Prop:=t.aq=5/\(t.bM=[41]\/t.bM=[93]\/t.bM=[125])
def Cl.of (h:Z t [41]=true\/Z t [93]=true\/Z t [125]=true):Cl t:=by
 obtain h|h|h:=h<;>obtain ⟨h1,h2⟩:=la h
 ·exact ⟨h1,.inl h2⟩
 ·exact ⟨h1,.inr (.inl h2)⟩
 exact ⟨h1,.inr (.inr h2)⟩
def Cl.no (h:Cl t) (hx:x≠[41]/\x≠[93]/\x≠[125]):Z t x=false:=by
 obtain ⟨_,h2⟩:=h;rw[jC];intro q;obtain ⟨_,q2⟩:=la q;rw[q2] at h2;obtain h2|h2|h2:=h2
 ·exact hx.1 h2
 ·exact hx.2.1 h2
 exact hx.2.2 h2
def Cl.am (h:Cl t) {l:List ByS} (hx:[41] ∉ l/\[93] ∉ l/\[125] ∉ l):Bt t l=false:=by
 obtain ⟨_,h2⟩:=h;rw[jC];intro q;obtain ⟨_,q2⟩:=Hz q;obtain h2|h2|h2:=h2<;>rw[h2] at q2
 ·exact hx.1 q2
 ·exact hx.2.1 q2
 exact hx.2.2 q2
section
variable {T:List aC}
def JP (h:Nx T k a a' t) {γ:Type} {f:D->aI γ}:Ex (ag (ca n (H s T a b k q)) f) (t.cN+b):=by
 unfold ca;obtain e|e:=I1 (n:=n) (s:=s) (b:=b) (q:=q) h
 ·rw[e];exact .inl rfl
 rw[e,Aj];exact .inr rfl
def Ys (h:Nx T k a a' t) (hc:Cl t):Ex (fe n c (H s T a b k none)) (t.cN+b):=by
 obtain _|n:=n
 ·exact .inl rfl
 show Ex (gy n (R n) c (H s T a b k none)) _;unfold gy ji s6 pB pM eS;have h5:=hc.1;have nk:∀ {j:Int},j≠5->(t.aq==j)=true->False:=λhj e=>hj (by rw[<- h5];exact (by simpa using e:t.aq=_).symm);have op:∀ {x:ByS} {γ:Type} {f:Bool->aI γ} {v:Int},x≠[41]/\x≠[93]/\x≠[125]->Ex (f false) v->Ex (ag (ez t x) f) v:=λhx hf=>oZ (.inr (by rw[GH,hc.no hx])) hf;refine nM du λ_=>oZ (tT h) (oZ (I1 h.self) ?_);refine nM (λe=>(nk dN e).elim) λ_=>nM (λe=>(nk dN e).elim) λ_=>nM (λe=>(nk dN e).elim) λ_=>nM (λe=>(nk dN e).elim) λ_=>?_;refine op dN (nM du λ_=>op dN (nM du λ_=>op dN (nM du λ_=>op dN (nM du λ_=>op dN (nM du λ_=>?_)))));exact JP h.self
def Yt (h:Nx T k a a' t) (hc:Cl t):Ex (eQ n c (H s T a b k none)) (t.cN+b):=by
 obtain _|n:=n
 ·exact .inl rfl
 show Ex (iH n (R n) c (H s T a b k none)) _;exact qM (Ys h hc)
def abK (h:Nx T k a a' t) (hc:Cl t):Ex (eD n c (H s T a b k none)) (t.cN+b):=by
 obtain _|n:=n
 ·exact .inl rfl
 show Ex (iB n (R n) c (H s T a b k none)) _;unfold iB vi pB pM eS;refine nM du λ_=>oZ (tT h) (oZ (I1 h.self) ?_);refine oZ (Fs (l:=[[45],[33]]) rfl) ?_;rw[hc.am dN];refine nM du λ_=>oZ (Fs (l:=LJ) rfl) ?_;rw[hc.am dN];exact nM du λ_=>qM (Yt h.self hc)
def Sx (h:Nx T k a a' t) (hc:Cl t):∀ (n:Nat) {l:Int},Ex (dE n l c (H s T a b k none)) (t.cN+b)
 | 0,_=>.inl rfl
 | n+1,l=>by
  show Ex (gY n (R n) l c (H s T a b k none)) _;unfold gY vi ji pB pM eS;exact nM (λ_=>qM (abK h hc)) λ_=>Ex.gd (qM (Sx h hc n))
def MX (h:Nx T k a a' t) (hc:Cl t):Ex (df n c (H s T a b k none)) (t.cN+b):=by
 obtain _|n:=n
 ·exact .inl rfl
 show Ex (fT n (R n) c (H s T a b k none)) _;exact qM (Sx h hc _)
def å (h:Nx T k a a' t) (ht:Z t x=false):Tk (dq n x (H s T a b k q)) (false,H s T a' b k q):=by
 unfold dq pB pM;obtain e|e:=tT (n:=n) (s:=s) (b:=b) (q:=q) h
 ·rw[e];exact .inl rfl
 rw[e,Aj];dsimp only;rw[GH,Aj,ht];exact .inr rfl
def Gj (h:Nx T k a a' t) (hc:Cl t):Ex (de n c (H s T a b k none)) (t.cN+b):=by
 obtain _|n:=n
 ·exact .inl rfl
 show Ex (fq n (R n) c (H s T a b k none)) _;unfold fq eS;refine nM (λ_=>oZ (I1 h) (oZ (å h.self (hc.no dN)) (nM du λ_=>qM (MX h.self hc)))) du
def æ (h:Nx T k a a' t) (hc:Cl t):Ex (aZ n c (H s T a b k none)) (t.cN+b):=by
 obtain _|n:=n
 ·exact .inl rfl
 show Ex (iX n (R n) c (H s T a b k none)) _;unfold iX Bn oj jk s6 pB eS;refine Ex.jn (nM (λ_=>oZ (tT h) ?_) du);refine oZ (c:=false) (.inr (by rw[GH,hc.no dN])) ?_;exact Ex.jn (nM (λ_=>qM (Gj h.self hc)) λ_=>qM (Gj h.self hc))
def agb (h:Nx T k a a' t) (hc:Cl t):Ex (eI n (H s T a b k none)) (t.cN+b):=by
 obtain _|n:=n
 ·exact .inl rfl
 show Ex (iY n (R n) (H s T a b k none)) _;unfold iY Bn oj jk s6 pB eA;refine oZ (I1 h) (oZ (tT h.self) (oZ (c:=false) (.inr (by rw[LC];simp[D1,hc.1])) (nM (λ_=>qM (æ h.self hc)) du)))
end
section
variable {X Y Z:Type} {V:α->β->Prop} {W:sX->β->Prop}
def LK.rot (I:X->Y->Prop) (J:sX->Z->Prop) (M:Nat->(Z->aI β)->Y->aI β) {body:(X->aI α)->X->aI α} {xb:Nat->(Z->aI β)->Z->aI β}
  (hj:∀ p z,J p z->∀ next':Nat->Z->aI β,Ev (λi=>xb i (next' i) z) (W p) di)
  (hb:∀ v y,I v y->∀ (next:X->aI α) (next':Nat->Z->aI β),(∀ v y,I v y->LK (next v) (λi=>M i (next' i) y) V W)->(∀ p z,J p z->Ev (λi=>next' i z) (W p) di)->LK (body next v) (λi=>M i (λz=>xb i (next' i) z) y) V W) :
  ∀ (n:Nat) {m:Nat->Nat},bL m->∀ v y,I v y->LK (aI.iter body n v) (λi=>M i (λz=>aI.iter (xb i) (m i) z) y) V W
 | 0,_,_,_,_,_=>da
 | n+1,m,hm,v,y,hI=>by
  have h:=hb v y hI _ _ (λv y h=>LK.rot I J M hj hb n hm.pred v y h) λp z h=>px hm.pred λnext=>hj p z h next
  have e:∀ {Q:β->Prop},Ev (λi=>M i (λz=>xb i (λz=>aI.iter (xb i) (m i - 1) z) z) y) Q di->Ev (λi=>M i (λz=>aI.iter (xb i) (m i) z) y) Q di:=by
   rintro Q ⟨r,h1,N,hN⟩
   obtain ⟨L,hL⟩:=hm 1
   refine ⟨r,h1,N+L,λi hi=>?_⟩
   have h2:=hL i aB
   rw[<- hN i aB]
   obtain ⟨q,hq⟩:∃ q,m i=q+1:=⟨m i - 1,aB⟩
   simp only[hq];rfl
  exact ⟨λa ha=>e (h.1 a ha),λp hp=>e (h.2 p hp)⟩
end
def LN (m:Nat) (k:Bool) (next:ah×ak->aI (ak×ah)) (w:ah×ak):aI (ak×ah):=
 ag (aS m w.1) λy43=>ag (ch y43.1 [93]) λy44=>br y44 (ag (cy m [93] k y43.2) λy9=>.ok (ak.mk w.2.aq w.2.bM w.2.U w.2.B w.2.bT w.2.bK [] [] w.2.cN,y9))
  (ag (cH m [44] y43.2) λy47=>ag (aS m y47) λy49=>ag (ch y49.1 [93]) λy51=>br y51 (ag (bJ y49.1.cN y49.2) λy53=>next (y53,w.2)) (next (y49.2,w.2)))
section
variable {T:List aC} {m:Nat->Nat}
def abL (hm:bL m) (hC:PC s T b) {k:Bool} {v:Int} {y:ah} {E:ak} {next:Nat->ah×ak->aI (ak×ah)} (h:FS s T b v y) (hE:jd (ak.mk E.aq E.bM E.U E.B E.bT E.bK [] [] E.cN))
  (hn:∀ y,FS s T b v y->Ev (λi=>next i (y,E)) (WX s T b (PF v)) di):Ev (λi=>LN (m i) k (next i) (y,E)) (WX s T b (PF v)) di:=by
 unfold LN
 refine ai FX λr hr=>ai DM λ_ _=>aw (λ_=>ai (xK hm hC hr) λz hz=>aj ⟨v,rfl,hz,hE⟩) λ_=>?_
 exact aha
end
section
variable {T:List aC} {m:Nat->Nat}
abbrev LE (l:List ak) (nm p:Int):ak:=ak.mk 14 [] nm [] [] l [] [] p
def VL (s:ByS) (T:List aC) (b:Int) (k:Bool) (a:Int) (r:ak×D) (y:ak×ah):Prop:=∃ e a' u,r=(e,H s T a' b true none)/\y=(e,RX s T b (a'+1) k)/\Pg T a a'/\T[a'.toNat]?=some u/\Z u [93]=true/\jd e
variable {l:List ak} {p:Int} {F:Nat->aI β} {V:α->β->Prop} {W:sX->β->Prop}
def LE.sm {nm:Int} (hl:(l.length:Int)<=70000) (h:∀ x,x∈l->jd x):jd (LE l nm p):=.of aB (λe=>ao e dN) h
def BY {x:ak} (h:∀ x,x∈l->jd x) (hx:jd x):∀ y,y∈l++[x]->jd y:=λy hy=>by
 obtain e|e:=bH.1 hy
 ·exact h y e
 simp at e;subst e;exact hx
def N0 (hm:bL m) (hC:PC s T b) (tL:XF s T b (aZ n) ax) (ihI:∀ {m:Nat->Nat} {a:Int} {k:Bool},bL m->0<=a->a<T.length->LK (eI n (H s T a b k none)) (λi=>fb (m i) (RX s T b a k)) (VX s T b k a) (WX s T b)) {a0 a':Int} {t:aC} (nx:Nx T true a a' t) (Bl:Pg T a0 a) (h00:0<=a0) (hl:(l.length:Int)<=a) (hs:∀ x,x∈l->jd x) {next:ak×D×Bool->aI (ak×D)} {next':Nat->ah×ak->aI (ak×ah)} (hn:∀ l a',Pg T a0 a'->(l.length:Int)<=a'+1->(∀ x,x∈l->jd x)->LK (next (LE l 0 p,H s T a' b true none,false)) (λi=>LN (m i) k (next' i) (RX s T b a' true,LE l 0 p)) (VL s T b k a0) (WX s T b)) (hf:∀ v y l,FS s T b v y->(l.length:Int)<=70000->(∀ x,x∈l->jd x)->Ev (λi=>next' i (y,LE l 0 p)) (WX s T b (PF v)) di) :
  LK (ag (dc n (H s T a b true none)) λy16=>ag (dq n [46,46,46] y16.2) λy19=>br y19.1 (jn (λ(v23:D×ak)=>gd (nP 144 l.length (List.length [(ak.mk 0 ([]:ByS) 0 ([]:ByS) ([]:ByS) [] [] [] 0)])) (ag (cC n [93] v23.1) λy28=>.ok (LE (l++[v23.2]) 1 p,y28))) λj24=>ag (bq n y19.2) λy31=>ag (ez y31.1 [93]) λy32=>br (!y32) (ag (aZ n false (D.mk y31.2.cP y31.2.oh y31.2.bO y19.2.base y31.2.skip y31.2.iO)) λy34=>j24 (y34.2,y34.1)) (j24 ((D.mk y31.2.cP y31.2.oh y31.2.bO y19.2.base y31.2.skip y31.2.iO),(ak.mk 6 [] 0 [] [] [] [] [] y16.1)))) (ag (eI n y19.2) λy35=>gd (nP 144 l.length (List.length [(ak.mk 0 ([]:ByS) 0 ([]:ByS) ([]:ByS) [] [] [] 0)])) (next (LE (l++[y35.1]) 0 p,y35.2,false))))
   (λi=>ag (aS (m i) (RX s T b a' true)) λy23=>ag (ch y23.1 [46,46,46]) λy25=>br y25 (ag (P (m i) y23.2) λy28=>ag (aS (m i) y28.2) λy32=>ag (ch y32.1 [93]) λy33=>br y33 (gd (nP 144 l.length (List.length [(ak.mk 6 [] 0 [] [] [] [] [] y23.1.cN)])) (ag (cy (m i) [93] k y32.2) λy9=>.ok (LE (l++[(ak.mk 6 [] 0 [] [] [] [] [] y23.1.cN)]) 1 p,y9))) (ag (ax (m i) false y32.2) λy36=>gd (nP 144 l.length (List.length [y36.1])) (ag (cy (m i) [93] k y36.2) λy9=>.ok (LE (l++[y36.1]) 1 p,y9)))) (ag (fb (m i) y23.2) λy39=>gd (nP 144 l.length (List.length [y39.1])) (LN (m i) k (next' i) (y39.2,LE (l++[y39.1]) 0 p))))
   (VL s T b k a0) (WX s T b):=by
 have hlen:=hC.oF
 have h0:=Bl.le
 have iy:=Bl.lt
 have g1:=nx.le
 have g2:=nx.lt
 refine rh nx (bj (jl hm hC nx.self) (bj (AG b t [46,46,46]) ?_))
 refine sg nx.self (λht=>?_) λht=>?_
 ·rw[ht]
  have hk:=(la ht).1
  have l1:=nx.Cp hC aB
  refine aF (λ_=>aJ (λ_=>bj Ng ?_) du) du
  obtain ⟨a2,u,n2⟩:=qA hC true (a:=a'+1) aB l1
  have g3:=n2.le
  have Uq:Pg T a0 a2:=(Bl.trans (nx.read hC aB (Cy ht dN))).trans n2.pg
  refine bj (jl hm hC n2) (bj (AG b u [93]) (fI (fJ n2 (ln ?_))))
  have clo:∀ {a3:Int} {x:ak},Pg T a0 a3->jd x->LK (gd (nP 144 l.length (List.length [(ak.mk 0 ([]:ByS) 0 ([]:ByS) ([]:ByS) [] [] [] 0)])) (ag (cC n [93] (H s T a3 b true none)) λy28=>.ok (LE (l++[x]) 1 p,y28))) (λi=>gd (nP 144 l.length (List.length [x])) (ag (cy (m i) [93] k (RX s T b a3 true)) λy9=>.ok (LE (l++[x]) 1 p,y9))) (VL s T b k a0) (WX s T b):=by
   intro a3 x Ix hx
   have:=Ix.le
   obtain ⟨a4,w,n4⟩:=qA hC true (a:=a3) aB Ix.lt
   have sm:jd (LE (l++[x]) 1 p):=LE.sm qI (BY hs hx)
   exact bG λhg=>bV hg (LK.closing hm hC n4 (λhw=>b9 ⟨_,a4,w,rfl,rfl,Ix.trans n4.pg,n4.tk,hw,sm⟩) λv r hr=>aj ⟨v,rfl,hr,sm⟩)
  cases hu:Z u [93] with
  | true=>exact aF du λ_=>aJ (λ_=>clo (x:=ak.mk 6 [] 0 [] [] [] [] [] (t.cN+b)) Uq (.leaf dN)) λh=>by cases h
  | false=>
   refine aF (λ_=>aJ du λ_=>?_) du
   dsimp only
   refine cm (tL hm aB n2.lt .no) ?_ ?_
   ·rintro _ _ ⟨e,a3,rfl,rfl,Ix,z3,he⟩
    exact clo (Uq.trans Ix) he
   ·rintro _ y ⟨v,rfl,f1,f2⟩
    exact aH (ai (xK hm hC f1) λr hr=>aj ⟨v,rfl,hr,LE.sm qI (BY hs f2)⟩)
 ·rw[ht]
  refine aF du λ_=>aJ du λ_=>?_
  refine cm (ihI hm aB nx.lt) ?_ ?_
  ·rintro _ _ ⟨e,a3,rfl,rfl,Ix,z3,he⟩
   have:=Ix.le
   exact bG λhg=>bV hg (hn (l++[e]) a3 ((Bl.trans nx.pg).trans Ix) qI (BY hs he))
  ·rintro _ y ⟨v,rfl,f1,f2⟩
   exact aH (abL (E:=LE (l++[y.1]) 0 p) hm hC f1 (LE.sm (l:=l++[y.1]) qI (BY hs f2)) λz hz=>hf v z (l++[y.1]) hz qI (BY hs f2))
variable {W':sX->β->Prop}
def LK.ajK {γ:Type} {x:aI γ} {f:γ->aI α} {V':γ->β->Prop} (h:LK x F V' W') (hk:∀ a b,V' a b->LK (f a) (λ_=>.ok b) V W) (hw:∀ p b,W' p b->W p b):LK (ag x f) F V W:=by
 cases x with
 | stuck=>exact da
 | ry p=>exact sW ((h.2 p rfl).qh λb hb=>hw p b hb)
 | ok c=>
  obtain ⟨b,hb,N,hN⟩:=(h.1 c rfl).get
  have e:Ev F (λz=>z=b) di:=oJ (r:=.ok b) hN rfl
  refine ⟨λa ha=>?_,λp hp=>?_⟩
  ·have h1:=(hk c b hb).1 a ha;exact ade
  ·have h1:=(hk c b hb).2 p hp;exact ade
def tq:=@LK.ajK
def LK.ex {x:aI α} {v:Int} (h:Ex x v) (hw:Ev F (W (PF v)) di):LK x F V W:=by
 obtain rfl|rfl:=h
 ·exact da
 exact sW hw
def ajL {V':ak×D->β->Prop} {E:ak} {f:D×ak->aI α} (h:∀ j,j+2=n->LK (gZ j (R j) E (H s T a b true none)) F V' W') (hk:∀ e z,V' e z->LK (f (H e.2.cP e.2.oh e.2.bO e.2.base k e.2.iO,e.1)) (λ_=>.ok z) V W) (hw:∀ p z,W' p z->W p z) :
  LK (ag (iF n true (H s T a b k none) E) f) F V W:=by
 obtain _|_|j:=n
 ·exact da
 ·exact da
 ·show LK (ag (ag (gZ j (R j) E (H s T a b true none)) λy4=>.ok (H y4.2.cP y4.2.oh y4.2.bO y4.2.base k y4.2.iO,y4.1)) f) F V W
  simp only[ZM,Aj]
  exact tq (h j rfl) hk hw
end
def I2 (m:Nat) (k:Bool) (v5:ah×ak):aI (ak×ah):=ag (cy m [93] k v5.1) λy9=>.ok ((ak.mk v5.2.aq v5.2.bM v5.2.U v5.2.B v5.2.bT v5.2.bK [] [] v5.2.cN),y9)
def N3 (m:Nat) (k:Bool) (next:ah×ak->aI (ak×ah)) (v11:ah×ak):aI (ak×ah):=
 ag (cG v11.1) λy16=>br y16.1 (ag (aS m y16.2) λy18=>ag (ch y18.1 ([93]:ByS)) λy19=>br (!y19) (ag (aS m y18.2) λy23=>ag (ch y23.1 ([46,46,46]:ByS)) λy25=>br y25 (ag (P m y23.2) λy28=>ag (aS m y28.2) λy32=>ag (ch y32.1 ([93]:ByS)) λy33=>br y33 (gd (nP 144 v11.2.bK.length (List.length [(ak.mk 6 [] 0 [] [] [] [] [] y23.1.cN)])) (I2 m k (y32.2,(ak.mk v11.2.aq v11.2.bM 1 v11.2.B v11.2.bT (v11.2.bK++[(ak.mk 6 [] 0 [] [] [] [] [] y23.1.cN)]) [] [] v11.2.cN)))) (ag (ax m false y32.2) λy36=>gd (nP 144 v11.2.bK.length (List.length [y36.1])) (I2 m k (y36.2,(ak.mk v11.2.aq v11.2.bM 1 v11.2.B v11.2.bT (v11.2.bK++[y36.1]) [] [] v11.2.cN))))) (ag (fb m y23.2) λy39=>gd (nP 144 v11.2.bK.length (List.length [y39.1])) (LN m k next (y39.2,(ak.mk v11.2.aq v11.2.bM v11.2.U v11.2.B v11.2.bT (v11.2.bK++[y39.1]) [] [] v11.2.cN))))) (I2 m k (y18.2,(ak.mk v11.2.aq v11.2.bM v11.2.U v11.2.B v11.2.bT v11.2.bK [] [] v11.2.cN)))) (I2 m k (y16.2,(ak.mk v11.2.aq v11.2.bM v11.2.U v11.2.B v11.2.bT v11.2.bK [] [] v11.2.cN)))
section
variable {T:List aC} {m:Nat->Nat}
def abM (hm:bL m) (hC:PC s T b) {v:Int} {w:ah×ak} (h:FS s T b v w.1) (hE:jd (ak.mk w.2.aq w.2.bM w.2.U w.2.B w.2.bT w.2.bK [] [] w.2.cN)):Ev (λi=>I2 (m i) k w) (WX s T b (PF v)) di:=by
 unfold I2;exact ai (xK hm hC h) λz hz=>aj ⟨v,rfl,hz,hE⟩
def J2 {q:Option ak} (h:Nx T k a a' t) (ht:Z t x=true):Tk (cC n x (H s T a b k q)) (H s T a' b k q):=by
 unfold cC pB;obtain e|e:=tT (n:=n) (s:=s) (b:=b) (q:=q) h
 ·rw[e];exact .inl rfl
 rw[e,Aj];dsimp only;rw[GH,Aj,ht];exact ll
def TE (hm:bL m) (hC:PC s T b) {k0:Bool} (h:Nx T k a a' t) (ht:Z t x=true):Ev (λi=>cy (m i) x k0 (RX s T b a k)) (λr=>r=RX s T b (a'+1) k0) di:=by
 unfold cy;exact ai (NZ hm hC h ht) λr e=>by subst e;exact aj rfl
def ç (hm:bL m) (hC:PC s T b) (tL:XF s T b (aZ n) ax) (ihI:∀ {m:Nat->Nat} {a:Int} {k:Bool},bL m->0<=a->a<T.length->LK (eI n (H s T a b k none)) (λi=>fb (m i) (RX s T b a k)) (VX s T b k a) (WX s T b)) {p:Int} (h0:0<=a) (h1:a<T.length) :
  LK (gZ n (R n) (LE [] 0 p) (H s T a b true none)) (λi=>aI.iter (N3 (m i) k) (m i) (RX s T b a true,LE [] 0 p)) (VL s T b k a) (WX s T b):=by
 unfold gZ YV jk pB eS
 have hlen:=hC.oF
 have smL:∀ {l:List ak},(l.length:Int)<=70000->(∀ x,x∈l->jd x)->jd (LE l 0 p):=λh1 h2=>LE.sm h1 h2
 have hj:∀ (q:sX) (z:ah×ak),(∃ v l,q=PF v/\FS s T b v z.1/\z.2=LE l 0 p/\(l.length:Int)<=70000/\∀ x,x∈l->jd x)->∀ next':Nat->ah×ak->aI (ak×ah),Ev (λi=>N3 (m i) k (next' i) z) (WX s T b q) di:=by
  rintro q ⟨z,_⟩ ⟨v,l,rfl,f1,rfl,f2,f3⟩ next'
  unfold N3
  exact bC (yW f1) (aG (abM hm hC f1 (smL f2 f3)))
 obtain _|n:=n
 ·exact da
 refine LK.Iw hm ?_
 obtain ⟨a1,t,nx⟩:=qA hC true h0 h1
 have fin:∀ {l:List ak} {a1 a2:Int} {t:aC} {nn:Nat},Pg T a a1->Nx T true a1 a2 t->Z t [93]=true->jd (LE l 0 p)->LK (ag (cC nn [93] (H s T a1 b true none)) λy40=>.ok (LE l 0 p,y40)) (λi=>I2 (m i) k (RX s T b a1 true,LE l 0 p)) (VL s T b k a) (WX s T b):=by
  intro l a1 a2 t nn pg nx ht he
  unfold I2
  exact acv
 refine fJ nx (bj uY (aJ (λ_=>?_) du))
 refine bj Fw (bj (AG b t [93]) (ln ?_))
 have g1:=nx.ge
 cases ht:Z t [93] with
 | true=>exact aF du λ_=>aJ du λ_=>fin nx.pg nx.self ht (smL bn bn)
 | false=>
  refine aF (λ_=>aJ (λ_=>?_) du) du
  refine fI (aF du λ_=>?_)
  refine N0 (a:=a1) (l:=[]) hm hC tL ihI nx.self nx.pg h0 qI bn (λl a' pg hl hs=>?_) λv y l f1 f2 f3=>px hm.pred λnx'=>hj _ _ ⟨v,l,rfl,f1,rfl,f2,f3⟩ nx'
  refine LK.rot (λv y=>∃ l a',v=(LE l 0 p,H s T a' b true none,false)/\y=(RX s T b a' true,LE l 0 p)/\Pg T a a'/\(l.length:Int)<=a'+1/\∀ x,x∈l->jd x) (λq z=>∃ v l,q=PF v/\FS s T b v z.1/\z.2=LE l 0 p/\(l.length:Int)<=70000/\∀ x,x∈l->jd x) (λi=>LN (m i) k) hj ?_ n hm.pred _ _ ⟨l,a',rfl,rfl,pg,hl,hs⟩
  rintro _ _ ⟨l,a2,rfl,rfl,pg,hl,hs⟩ next next' hn hf
  have g2:=pg.le
  have l2:=pg.lt
  obtain ⟨a3,t3,n3⟩:=qA hC true (a:=a2) aB pg.lt
  have g3:=n3.le
  have sml:=smL (l:=l) aB hs
  unfold LN
  refine bj (jl hm hC n3) (bj (AG b t3 [93]) (fJ n3 (ln ?_)))
  cases h3:Z t3 [93] with
  | true=>exact aF du λ_=>aJ (λ_=>fin (pg.trans n3.pg) n3.self h3 sml) λh=>by cases h
  | false=>
   refine aF (λ_=>aJ du λ_=>?_) du
   refine fI (aF (λ_=>?_) du)
   refine LK.expect hm hC n3.self (λhc=>?_) λv r hr=>ai Nn λr hr=>ai DM λ_ _=>aw (λ_=>bC (yS hr) (hj _ _ ⟨v,l,rfl,hr,rfl,aB,hs⟩ _)) λ_=>hj _ _ ⟨v,l,rfl,hr,rfl,aB,hs⟩ _
   have hk:=(la hc).1
   have l3:=n3.Cp hC aB
   obtain ⟨a4,t4,n4⟩:=qA hC true (a:=a3+1) aB l3
   have g4:=n4.le
   have LM:Pg T a (a3+1):=pg.trans (n3.read hC aB (Cy hc dN))
   refine bj (jl hm hC n4) (bj (AG b t4 [93]) ?_)
   cases h4:Z t4 [93] with
   | true=>
    have cl:=Cl.of (t:=t4) (.inr (.inl h4))
    refine aJ (λ_=>LK.ex (v:=t4.cN+b) ?_ ?_) du
    ·exact oZ (I1 n4) (oZ (å n4.self (cl.no dN)) (nM du λ_=>qM (agb n4.self cl)))
    ·exact acP
   | false=>
    refine aJ du λ_=>?_
    show LK _ (λi=>N3 (m i) k (next' i) (RX s T b a4 true,LE l 0 p)) _ _
    unfold N3
    refine bj uY (aJ (λ_=>?_) du)
    refine bj (jl hm hC n4.self) (bj (AG b t4 [93]) ?_)
    rw[h4]
    refine aJ (λ_=>?_) du
    exact N0 hm hC tL ihI n4 LM h0 aB hs (λl a' pg hl hs=>hn _ _ ⟨l,a',rfl,rfl,pg,hl,hs⟩) λv y l f1 f2 f3=>hf _ _ ⟨v,l,rfl,f1,rfl,f2,f3⟩
def abN (hC:PC s T b) (hm:bL m) (tL:∀ j,j<n->XF s T b (aZ j) ax) (ihI:∀ j,j<n->∀ {m:Nat->Nat} {a:Int} {k:Bool},bL m->0<=a->a<T.length->LK (eI j (H s T a b k none)) (λi=>fb (m i) (RX s T b a k)) (VX s T b k a) (WX s T b)) (nx:Nx T k a a' t) (ht:Z t [91]=true) :
  LK (ju n (H s T a b k none)) (λi=>jT (m i) (om b t) (RX s T b a' k)) (VX s T b k a) (WX s T b):=by
 obtain _|n:=n
 ·exact da
 refine jZ (F:=λi=>jT i (om b t) (RX s T b a' k)) hm λm hm=>?_
 show LK (lH n (R n) (H s T a b k none)) (λi=>mu (m i) (ar (m i)) (om b t) (RX s T b a' k)) _ _
 unfold lH mu Bn oj jk s6 pM eS eA
 have hk:=(la ht).1
 have FE:=nx.ge
 have iy:=nx.Cp hC aB
 refine rh nx (gR (Sw nx.self ht) (bj (Pv hm hC nx.self aB) (mP ?_)))
 show LK _ (λi=>aI.iter (N3 (m i) k) (m i) (RX s T b (a'+1) true,LE [] 0 (t.cN+b))) _ _
 refine ajL (V':=VL s T b k (a'+1)) (W':=WX s T b) (λj hj=>ç hm hC (tL j aB) (λhm=>ihI j aB hm) aB iy) ?_ λ_ _ h=>h
 rintro _ _ ⟨e,a2,u,rfl,rfl,pg,hu,ho,he⟩
 obtain ⟨p1,p2⟩:=nx.pair hC (BW (.inr (.inl ht))) pg hu (BX (.inr (.inl ho)))
 exact bG λ_=>b9 ⟨e,a2+1,rfl,rfl,p1,p2,he⟩
end
end Go.Abs
