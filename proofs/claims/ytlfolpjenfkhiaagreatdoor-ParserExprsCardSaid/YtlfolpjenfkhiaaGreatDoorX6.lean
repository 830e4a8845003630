/- PROVED: lemmas of the proof of: configlanglaw26.ParserExprs returns true for every input. CONDITIONS: as each lemma states. -/
import Derived.Test.YtlfolpjenfkhiaaGreatDoorX5
set_option linter.all false
namespace Go.Abs
open Go.Proofs aG
set_option maxRecDepth 100000
set_option maxHeartbeats 2000000
structure fV where
 gm:aK->Bool->Int->V->aG (V)
 fq:(List aK)->Bool->Int->V->aG (V)
 bS:ak->cm->V->aG (V)
def je (n:Nat) (g:fV) (a:aK) (p:Bool) (e:Int) (a0:V):aG (V):=
 gV 1 [0,1,2,3,5] [105] (λ_=>[]) (λj=>[(0,.box (bX j))]) (λ(j:V)=>gV 0 [0,1,2,3,5] [0,105] (λt=>[(8,Bo t)]) (λ_=>[]) (λ(t:Bool)=>gV 0 [0,1,2,3,5,8] [105] (λ_=>[]) (λk=>[(0,.box (bX k))]) (λ(k:V)=>gV 0 [0,1,2,3,5] [105] (λ_=>[]) (λf=>[(0,.box (bX f))]) (λ(f:V)=>gV 0 [0,1,2,3,5] [105] (λ_=>[]) (λc=>[(0,.box (bX c))]) (λ(c:V)=>gV 0 [0,1,2,3,5] [105] (λ_=>[]) (λi=>[(0,.box (bX i))]) (λ(i:V)=>gV 0 [0,1,2,3,5] [105] (λ_=>[]) (λq=>[(0,.box (bX q))]) (λ(q:V)=>gV 1 [0,1,2,3,5] [0,105] (λr=>[(11,I r)]) (λ_=>[]) (λ(r:Int)=>ag (aQ n [((a.bF.length:Int)==r)] q) λf0=>gV 0 [0,1,2,3,5] [0,105] (λs=>[(12,Bo s)]) (λ_=>[]) (λ(s:Bool)=>dG [0,1,2,3,5,12,171,172] [105] (λb=>[(173,I b.2)]) (λb=>[(0,.box (bX b.1))]) (λo (b:V×Int)=>br (decide (b.2<a.bF.length)) (el a.bF b.2 λu=>br p (br s (ag (g.bS u (cm.mk (b.2==0) false false (IntKind.wrap .i64 (e+1))) b.1) λg0=>gd (cD (b.2+1)) (o (g0,b.2+1))) (ag (g.bS u (cm.mk false false false (IntKind.wrap .i64 (e+1))) b.1) λh0=>gd (cD (b.2+1)) (o (h0,b.2+1)))) (ag (g.bS u (cm.mk false false false (IntKind.wrap .i64 (e+1))) b.1) λi0=>gd (cD (b.2+1)) (o (i0,b.2+1)))) (ag (g.fq a.jf false (IntKind.wrap .i64 (e+1)) b.1) λj0=>.ok j0)) n (f0,0)) λh=>br (a.an==1) (h true) (br (a.an==2) (h true) (br (a.an==3) (h true) (h ((a.an==4)))))) λm=>br (a.an==7) (m 2) (br (a.an==8) (m 0) (m 1))) λw=>br (a.an==6) (ag (qb n (ma.mk a.B a.bE)) λk0=>ag (aQ n [k0] i) λl0=>w l0) (ag (vE (ma.mk a.B a.bE)) λm0=>ag (aQ n [m0] i) λn0=>w n0)) λd=>br (a.an==1) (d c) (br (a.an==2) (ag (oG n a.jb) λo0=>ag (aQ n [(o0.2.dX==0)] c) λp0=>d p0) (br (a.an==4) (ag (dT n a.jb) λq0=>ag (aQ n [p,q0] c) λr0=>d r0) (br p (ag (aQ n [(a.jb==([]:ByS)),true] c) λs0=>d s0) (ag (aQ n [(a.jb==([]:ByS)),(a.an !=8)] c) λt0=>d t0))))) λl=>br (a.an==1) (br (decide (a.cS>=1)) (ag (aQ n [(decide (a.cS<=3))] f) λu0=>l u0) (ag (aQ n [false] f) λv0=>l v0)) (ag (aQ n [(a.cS==0)] f) λw0=>l w0)) λv=>uD [0,1,2,4,5,7,8,9,11,3,6,10,12,13,14,15,16,17,18,19,20,21,22,23] (ag (ls n a.oO) λb0=>ag (ls n a.J) λc0=>ag (ls n [a.iG]) λd0=>br t (ag (aQ n [b0,c0,d0,true] k) λx0=>v x0) (gd (cD ((a.jf.length:Int)+(a.J.length:Int))) (ag (aQ n [b0,c0,d0,(((a.jf.length:Int)+(a.J.length:Int))==0)] k) λy0=>v y0)))) λz=>br (decide (a.an>=1)) (ag (aQ n [(decide (a.an<=8))] j) λz0=>z z0) (ag (aQ n [false] j) λe0=>z e0)) λy=>br (a.an==5) (y true) (y ((a.an==6)))) λx=>br (decide (e>16)) (x ((V.mk a0.uf true))) (x a0)
def jO (n:Nat) (c:fV) (b:(List aK)) (e:Bool) (f:Int) (g:V):aG (V):=
 dG [0,1,2,3,10,11] [] (λa=>[(12,I a.2)]) (λa=>[(0,.box (bX a.1))]) (λd (a:V×Int)=>br (decide (a.2<b.length)) (el b a.2 λh=>ag (c.gm h e f a.1) λi=>gd (cD (a.2+1)) (d (i,a.2+1))) (.ok a.1)) n (g,0)
def kq (n:Nat) (d:fV) (a:ak) (c:cm) (j:V):aG (V):=
 gV 1 [0,1,2,4,5] [104,105] (λ_=>[]) (λh=>[(0,.box (bX h))]) (λ(h:V)=>ag (mE n a c h) λw=>dG [0,1,2,4,5,19,20] [104,105] (λb=>[(21,I b.2)]) (λb=>[(0,.box (bX b.1))]) (λk (b:V×Int)=>br (decide (b.2<a.bF.length)) (gV 0 [0,1,2,4,5,19,20,21] [104,105] (λ_=>[]) (λg=>[(0,.box (bX g))]) (λ(g:V)=>gd (cD (b.2+1)) (k (g,b.2+1))) λe=>el a.bF b.2 λf=>br (a.an==16) (br c.xP (br (a.an==14) (br (a.U==0) (ag (d.bS f (cm.mk true (a.an==17) true (IntKind.wrap .i64 (c.level+1))) b.1) λl=>e l) (gd (cD (b.2+1)) (ag (d.bS f (cm.mk true (a.an==17) (decide ((b.2+1)<(a.bF.length:Int))) (IntKind.wrap .i64 (c.level+1))) b.1) λm=>e m))) (ag (d.bS f (cm.mk true (a.an==17) false (IntKind.wrap .i64 (c.level+1))) b.1) λo=>e o)) (br (a.an==14) (br (a.U==0) (ag (d.bS f (cm.mk (a.an==10) (a.an==17) true (IntKind.wrap .i64 (c.level+1))) b.1) λp=>e p) (gd (cD (b.2+1)) (ag (d.bS f (cm.mk (a.an==10) (a.an==17) (decide ((b.2+1)<(a.bF.length:Int))) (IntKind.wrap .i64 (c.level+1))) b.1) λq=>e q))) (ag (d.bS f (cm.mk (a.an==10) (a.an==17) false (IntKind.wrap .i64 (c.level+1))) b.1) λr=>e r))) (br (a.an==14) (br (a.U==0) (ag (d.bS f (cm.mk (a.an==10) (a.an==17) true (IntKind.wrap .i64 (c.level+1))) b.1) λs=>e s) (gd (cD (b.2+1)) (ag (d.bS f (cm.mk (a.an==10) (a.an==17) (decide ((b.2+1)<(a.bF.length:Int))) (IntKind.wrap .i64 (c.level+1))) b.1) λt=>e t))) (ag (d.bS f (cm.mk (a.an==10) (a.an==17) false (IntKind.wrap .i64 (c.level+1))) b.1) λu=>e u))) (ag (d.fq a.fS (a.an==13) (IntKind.wrap .i64 (c.level+1)) b.1) λv=>.ok v)) n (w,0)) λi=>br (decide (c.level>16)) (i ((V.mk j.uf true))) (i j)
def cI:Nat->fV
 | 0=>⟨λ_ _ _ _=>.stuck,λ_ _ _ _=>.stuck,λ_ _ _=>.stuck⟩
 | n+1=>⟨je n (cI n),jO n (cI n),kq n (cI n)⟩
abbrev gm (n:Nat):=(cI n).gm
abbrev fq (n:Nat):=(cI n).fq
abbrev bS (n:Nat):=(cI n).bS
abbrev xb (f:aK->Bool->Int->V->aG (V)):Prop:=∀ p0 p1 p2 p3,CT Pq 94 [.ptr 0 0,.agg (qo p0),Bo p1,I p2] [.box (bX p3)] (f p0 p1 p2 p3) (λ_=>.lM []) (λx=>[.box (bX x)])
abbrev wu (f:(List aK)->Bool->Int->V->aG (V)):Prop:=∀ p0 p1 p2 p3,CT Pq 46 [.ptr 0 0,.pv (.sl p0.length (aK.Cs p0)),Bo p1,I p2] [.box (bX p3)] (f p0 p1 p2 p3) (λ_=>.lM []) (λx=>[.box (bX x)])
abbrev xc (f:ak->cm->V->aG (V)):Prop:=∀ p0 p1 p2,CT Pq 69 [.ptr 0 0,.agg (Q p0),.agg (Bh p1)] [.box (bX p2)] (f p0 p1 p2) (λ_=>.lM []) (λx=>[.box (bX x)])
class iA (T:fV):Prop where
 gm:xb T.gm
 fq:wu T.fq
 bS:xc T.bS
attribute [instance] iA.gm iA.fq iA.bS
theorem CZ (n:Nat) (T:fV) [hT:iA T]:xb (je n T):=λp0 p1 p2 p3=>by unfold je;exact zz 0 Tryz.func94
theorem Ci (n:Nat) (T:fV) [hT:iA T]:wu (jO n T):=λp0 p1 p2 p3=>by unfold jO;exact zz 0 Tryz.func46
theorem C0 (n:Nat) (T:fV) [hT:iA T]:xc (kq n T):=λp0 p1 p2=>by unfold kq;exact zz 0 Tryz.func69
theorem th:∀ n,iA (cI n)
 | 0=>by constructor<;>(repeat intro)<;>exact rh
 | n+1=>have:=th n;⟨CZ n _,Ci n _,C0 n _⟩
attribute [instance] th
def n8 (n:Nat) (a:ak):aG (Int):=
 ag (bS n a (cm.mk true false false 1) (V.mk false false)) λb=>ag (kZ b) λc=>.ok c.1
instance Gb (n:Nat) (p0:ak):CT Pq 27 [.agg (Q p0)] [] (n8 n p0) (λx=>I x) (λ_=>[]):=by unfold n8;exact zz 0 Tryz.func27
def tJ (n:Nat) (g:ByS):aG (ak×cZ):=
 ag (pc n g) λd=>br (d.2.dX !=0) (.ok (ak.mk 0 [] 0 [] [] [] [] [] 0,d.2)) (Ar (ag (aW n true (D.mk g d.1 0 0 false none)) λc=>jn (λ(h:D)=>jn (λ(m:Unit)=>ag (n8 n c.1) λl=>br (l==9) (.ok (ak.mk 0 [] 0 [] [] [] [] [] 0,cZ.mk 9 0)) (.ok (c.1,cZ.mk 0 0))) λf=>ag (bq n h) λb=>br (b.1.an !=0) (ag (bY n (D.mk b.2.bM b.2.M b.2.bB h.base b.2.skip b.2.Z)) λo=>f ()) (f ())) λe=>ag (bq n c.2) λa=>br (a.1.an==7) (gd (cD (a.2.bB+1)) (e ((D.mk a.2.bM a.2.M (a.2.bB+1) c.2.base a.2.skip a.2.Z)))) (e ((D.mk a.2.bM a.2.M a.2.bB c.2.base a.2.skip a.2.Z)))) (λj=>HU 71 j λk=>ag (rp k) λi=>.ok (i.1,i.2)))
instance L7 (n:Nat) (p0:ByS):CT Pq 9 [eu p0] [] (tJ n p0) (λx=>.lM [.agg (Q x.1),.agg [I x.2.dX,I x.2.At]]) (λ_=>[]):=by
 refine EZ Tryz.func9 O O λr h hr E hE=>?_;refine bz λ_ Hn=>bp (gH 102 (hE _ O) O4 O ?_);refine gH 103 (hE _ O) O4 O ?_;refine zQ Hn (bz λ_ Ot=>bp (zm O (GY hr h [] Tryz.call12 (CU n p0) ⟨O,O,O,O,O,O,trivial⟩ O (λ_=>O3) (λ_=>O2) (λ_ _ _ hd hp=>Jk (P:=Pq) (fn:=Tryz.f9) hd hp) (λy3 h=>?_))));refine zm O (zx O (zx O (za O (zs O (zQ Ot (bz λ_ RE=>bz λ_ XP=>bp (zf O (zl O (zc O (zQ XP (zB O h (λ_ h=>?_) λ_ h=>?_)))))))))))
 ·refine bz λ_ hK7=>sb [0,1,2,3] O (by kernel_rfl) (zD O E9 O ?_);refine zD O Ih O ?_;refine sa O O8 O (λe2 he=>⟨pF ⟨⟨⟨_,O,nh _⟩,trivial⟩,⟨trivial,trivial⟩⟩,?_⟩);subst he;refine sa O O8 O (λe3 he=>⟨ky O,?_⟩);subst he;refine An (hK7 _ _ (nA (CH 102 O O) ?_));exact rK (I4 (n:=Tryz.f9.ntmps) (.inl O) adK)
 refine lZ (RE _ _ (bz λ_ XS=>bp (et (Kp O O) O ?_)));refine Oh O ?_;have hrO:=hr;obtain ⟨r,hr,h,hc⟩:=Jj hr h;refine zQ XS (bz λ_ hK9=>bp (zm O (zm O (et E9 O ?_))));refine HL 120 (hE _ O) O7 O ?_;refine za O (zQ hK9 (bz λ_ OA=>bp (zm O (lD (CH 120 O O) ?_))));refine BD hr h [120] Tryz.call24 ((uw n).aW true (D.mk p0 y3.1 0 0 false none)) ⟨O,O,O,O,O,O,trivial⟩ O O (λ_=>O3) (λ_=>O2) O (λp hp=>?_) (λy11 h=>?_)
 ·exact yC1
 refine zs O (zQ OA (zM h (λ(v12:D)=>[(0,eu p0),(2,.ptr 102 0),(3,.ptr 103 0),(5,.ptr 120 0)]) (λ(v12:D)=>[(102,.box (Q y11.1)),(103,.box [I y3.2.dX,I y3.2.At]),(120,.box (F v12))]) (λv12 h=>?_) λ_ _ L4 h=>?_))
 ·refine zM h (λ(Wc:Unit)=>[(0,eu p0),(2,.ptr 102 0),(3,.ptr 103 0)]) (λ(Wc:Unit)=>[(102,.box (Q y11.1)),(103,.box [I y3.2.dX,I y3.2.At])]) (λWc h=>?_) λ_ _ IS h=>?_
  ·refine bz λ_ NG=>bz λ_ hK19=>bp (zA O ?_);refine BD hr h [] Tryz.call27 (Gb n y11.1) ⟨O,O,O,O,O,O,trivial⟩ O O (λ_=>O3) (λ_=>O2) O (λp hp=>?_) (λy20 h=>?_)
   ·exact yC1
   refine zc O (zQ hK19 (zB O h (λ_ h=>?_) λ_ h=>?_))
   ·refine bz λ_ hK22=>bp (et E9 O ?_);refine et Dq O ?_;refine zs O (zs O (zQ hK22 (nA (CH 102 O O) ?_)));refine rK (vg (n:=Tryz.f9.ntmps) (.inl O) [102,103] Tryz.call23 (w5 [.box [I 0,eu [],I 0,eu [],eu [],.pv (.sl (List.length ([]:List ak)) (ak.Cs [])),.pv (.sl (List.length ([]:List aK)) (aK.Cs [])),.pv (.sl (List.length ([]:List ByS)) (hO [])),I 0],.box [I 9,I 0]]) ⟨O,O,O,O⟩ O O ?_);exact W2
   refine lZ (NG _ _ (bz λ_ hK23=>bp (zA O ?_)));refine et Dq O ?_;refine zs O (zs O (zQ hK23 (rK (vg (n:=Tryz.f9.ntmps) (.inl O) [102,103] Tryz.call23 (w5 [.box (Q y11.1),.box [I 0,I 0]]) ⟨O,O,O,O⟩ O O ?_))));exact W2
  refine bz λ_ hK25=>bp (zm O (BD hr h [120] Tryz.call25 (rY n v12) ⟨O,O,O,O,O,O,trivial⟩ O O (λ_=>O3) (λ_=>O2) O (λp hp=>?_) (λy26 h=>?_)))
  ·exact yC1
  refine et (Oc O O) O ?_;refine zc O (zQ hK25 (zB O h (λ_ h=>?_) λ_ h=>?_))
  ·refine bp (zm O (BD hr h [120] Tryz.call26 (Dt n (D.mk y26.2.bM y26.2.M y26.2.bB v12.base y26.2.skip y26.2.Z)) ⟨O,O,O,O,O,O,trivial⟩ O O (λ_=>O3) (λ_=>O2) O (λp hp=>?_) (λy28 h=>?_)))
   ·exact yC1
   exact rJ (IS _ _ _ h O)
  exact lZ (IS _ _ _ h O)
 refine bz λ_ hK31=>bp (zm O (BD hr h [120] Tryz.call25 (rY n y11.2) ⟨O,O,O,O,O,O,trivial⟩ O O (λ_=>O3) (λ_=>O2) O (λp hp=>?_) (λy32 h=>?_)))
 ·exact yC1
 refine et (Oc O O) O ?_;refine zc O (zQ hK31 (zB O h (λ_ h=>?_) λ_ h=>?_))
 ·exact bp (zm O (zn O (zf O (zl O (zd hr h λhg34 h=>zo hg34 O (zn O (zf O (zs O (rJ (L4 _ _ _ h O))))))))))
 exact lZ (L4 _ _ _ h O)
def Bi (a:Int):aG (uG×cZ):=
 ag (p9 (rL.mk a)) λb=>.ok (uG.mk [] [] [] [],b)
def Fc (v:Int):Xs Pq 13 [.ptr 0 0,.ptr 1 0] [.box [.any,.any,.any,.any],.box [.any,.any]] (some (.iface 71 (.agg #[.int .i64 v]))) (Bi v) (λx=>[.box (En x.1),.box [I x.2.dX,I x.2.At]]):=by
 refine xN (m:=some (.iface 71 (.agg #[.int .i64 v]))) (mv:=.vu 71 (.agg [I v])) (λg=>.vu 71 (.agg (.cons (.pv (.sc _)) .nil))) Tryz.func13 O O O λr h hr E hE=>?_;exact yC6
def xd (es:List cQ):Xs Pq 13 [.ptr 0 0,.ptr 1 0] es none (aG.ok ()) (λ_=>es):=by
 refine xN (m:=none) (mv:=Sc .nilIface) (λg=>.pv (.sc _)) Tryz.func13 O O O λr h hr E hE=>?_;exact yC7
def sO (n:Nat) (h:D):aG ((List ByS)×D):=
 jU [[3,3,10003,1,9]] (dG [0] [] (λa=>[(3,.arr 10003 a.2.length)]) (λa=>[(0,.box (F a.1)),(10003,.app 9 1 (hO a.2))]) (λg (a:D×(List ByS))=>ag (bq n a.1) λb=>br (b.1.an==6) (gV 0 [0,3] [10003] (λ_=>[]) (λd=>[(0,.box (F d))]) (λ(d:D)=>ag (bq n d) λc=>gd (ob 16 a.2.length (List.length [c.1.bJ])) (jU [[1,118,10003],[0,3],[0]] (gd (cD (c.2.bB+1)) (g (D.mk c.2.bM c.2.M (c.2.bB+1) d.base c.2.skip c.2.Z,a.2++[c.1.bJ]))))) λf=>ag (im n (D.mk b.2.bM b.2.M b.2.bB a.1.base b.2.skip b.2.Z)) λe=>br (!e.1) (ag (bY n e.2) λi=>f i) (f e.2)) (tG [[1,10003,1],[0,2],[0]] (.ok (a.2,D.mk b.2.bM b.2.M b.2.bB a.1.base b.2.skip b.2.Z)))) n (h,[]))
instance L8 (n:Nat) (p0:D):CT Pq 37 [.ptr 0 0] [.box (F p0),.app 9 1 (hO [])] (sO n p0) (λx=>.arr 1 x.1.length) (λx=>[.box (F x.2),.app 9 1 (hO x.1)]):=by unfold sO;exact zz 0 Tryz.func37
def qO (n:Nat) (h:D):aG ((List ByS)×D):=
 jU [[3,3,10003,1,9]] (dG [0] [] (λa=>[(3,.arr 10003 a.2.length)]) (λa=>[(0,.box (F a.1)),(10003,.app 9 1 (hO a.2))]) (λg (a:D×(List ByS))=>ag (bq n a.1) λb=>br (b.1.an==6) (gV 0 [0,3] [10003] (λ_=>[]) (λd=>[(0,.box (F d))]) (λ(d:D)=>ag (bq n d) λc=>gd (ob 16 a.2.length (List.length [c.1.bJ])) (jU [[1,118,10003],[0,3],[0]] (gd (cD (c.2.bB+1)) (g (D.mk c.2.bM c.2.M (c.2.bB+1) d.base c.2.skip c.2.Z,a.2++[c.1.bJ]))))) λf=>ag (im n (D.mk b.2.bM b.2.M b.2.bB a.1.base b.2.skip b.2.Z)) λe=>br (!e.1) (ag (bY n e.2) λi=>f i) (f e.2)) (oz [[22,26]] (.ok (a.2,D.mk b.2.bM b.2.M b.2.bB a.1.base b.2.skip b.2.Z)))) n (h,[]))
instance Jl (n:Nat) (p0:D):CT Pq 37 [.ptr 0 0] [.box (F p0)] (qO n p0) (λx=>Av x.1) (λx=>[.box (F x.2)]):=by unfold qO;exact zz 0 Tryz.func37
def iv (n:Nat) (r:(List ByS)) (s:Bool) (t:D):aG ((List aK)×(List ByS)×D):=
 jU [[4,8,10008,11,43]] (jU [[1,1,10001],[0,1,2,8,9,10],[0,10008]] (dG [0,2] [] (λa=>[(1,.arr 10001 a.2.1.length),(8,.arr 10008 a.2.2.1.length),(9,I a.2.2.2.1),(10,Bo a.2.2.2.2)]) (λa=>[(0,.box (F a.1)),(10001,.app 9 1 (hO a.2.1)),(10008,.arr 43 11 (aK.Cs a.2.2.1))]) (λh (a:D×(List ByS)×(List aK)×Int×Bool)=>ag (kS n a.1) λg=>br (!g.1) (ag (bq n g.2) λb=>gV 0 [0,1,2,8,9,10,11] [0,111,10001,10008] (λj=>[(31,Bo j)]) (λ_=>[]) (λ(j:Bool)=>br j (gd (cD (b.2.bB+1)) (h (D.mk b.2.bM b.2.M (b.2.bB+1) g.2.base b.2.skip b.2.Z,a.2.1,a.2.2.1,a.2.2.2.1,true))) (gV 0 [0,1,2,8,9,10,11] [111,10001,10008] (λd=>[(46,Bo d.2)]) (λd=>[(0,.box (F d.1))]) (λ(d:D×Bool)=>br d.2 (gd (cD ((a.2.2.1.length:Int) - 1)) (el a.2.2.1 ((a.2.2.1.length:Int) - 1) λf=>jU [[17,8]] (gd (cD (d.1.bB+1)) (h (D.mk d.1.bM d.1.M (d.1.bB+1) d.1.base d.1.skip d.1.Z,a.2.1,List.set a.2.2.1 ((a.2.2.1.length:Int) - 1).toNat (aK.mk f.an f.cS f.jb f.B f.bE f.bF f.jf f.J f.oO b.1.bJ f.cG),a.2.2.2.1,a.2.2.2.2))))) (gV 0 [0,1,2,8,9,10,11] [111,10001,10008] (λe=>[(74,Bo e.2)]) (λe=>[(0,.box (F e.1))]) (λ(e:D×Bool)=>br e.2 (gd (ob 16 a.2.1.length (List.length [b.1.bJ])) (jU [[1,186,10001],[0,1,2,8,9,10],[10008,0]] (gd (cD (e.1.bB+1)) (h (D.mk e.1.bM e.1.M (e.1.bB+1) e.1.base e.1.skip e.1.Z,a.2.1++[b.1.bJ],a.2.2.1,a.2.2.2.1,a.2.2.2.2))))) (gV 0 [0,1,2,8,9,10] [0,10001,10008] (λk=>[(94,Bo k)]) (λ_=>[]) (λ(k:Bool)=>br k (ag (bY n e.1) λu=>h (u,a.2.1,a.2.2.1,a.2.2.2.1,a.2.2.2.2)) (ag (fe n s e.1) λc=>oz [[22,21]] (gd (ob 184 a.2.2.1.length (List.length [aK.mk c.1.an c.1.cS c.1.jb c.1.B c.1.bE c.1.bF c.1.jf c.1.J a.2.1 c.1.iG c.1.cG])) (jU [[2,126,10008],[0,1,2,8],[0]] (jU [[3,1,10001,1,9]] (h (c.2,[],a.2.2.1++[aK.mk c.1.an c.1.cS c.1.jb c.1.B c.1.bE c.1.bF c.1.jf c.1.J a.2.1 c.1.iG c.1.cG],c.2.bB,false))))))) λo=>br (b.1.an==6) (o true) (o ((!a.2.2.2.2))))) λm=>br (b.1.an==6) (ag (im n d.1) λp=>m (p.2,p.1)) (m (d.1,false)))) λi=>br (b.1.an==6) (br (decide (a.2.2.2.1>0)) (ag (iH n a.2.2.2.1 (D.mk b.2.bM b.2.M b.2.bB g.2.base b.2.skip b.2.Z)) λq=>i (q.2,q.1)) (i (D.mk b.2.bM b.2.M b.2.bB g.2.base b.2.skip b.2.Z,false))) (i (D.mk b.2.bM b.2.M b.2.bB g.2.base b.2.skip b.2.Z,false)))) λl=>br (b.1.an==7) (l true) (ag (eg b.1 [44]) λv=>l v)) (oz [[22,105]] (tG [[12,6]] (tG [[19,1,1,9],[0,1,2,6,7],[0]] (.ok (a.2.2.1,a.2.1,g.2)))))) n (t,r,[],(-1),true)))
instance PX (n:Nat) (p0:(List ByS)) (p1:Bool) (p2:D):CT Pq 42 [.ptr 0 0,.arr 1 p0.length,Bo p1] [.box (F p2),.app 9 1 (hO p0)] (iv n p0 p1 p2) (λx=>.lM [ac8 x.1,Av x.2.1]) (λx=>[.box (F x.2.2),.app 9 1 (hO [])]):=by unfold iv;exact zz 0 Tryz.func42
def oU (n:Nat) (d:D):aG (D):=
 gV 0 [0] [] (λ_=>[]) (λc=>[(0,.box (F c))]) (λ(c:D)=>gd (cD (c.bB+1)) (.ok ((D.mk c.bM c.M (c.bB+1) c.base c.skip c.Z)))) λe=>ag (bq n d) λa=>br (a.1.an !=7) (ag (bq n (D.mk a.2.bM a.2.M a.2.bB d.base a.2.skip a.2.Z)) λb=>ag (eg b.1 [44]) λg=>br (!g) (ag (bY n (D.mk b.2.bM b.2.M b.2.bB d.base b.2.skip b.2.Z)) λf=>e f) (e ((D.mk b.2.bM b.2.M b.2.bB d.base b.2.skip b.2.Z)))) (e ((D.mk a.2.bM a.2.M a.2.bB d.base a.2.skip a.2.Z)))
instance LG (n:Nat) (p0:D):CT Pq 40 [.ptr 0 0] [.box (F p0)] (oU n p0) (λ_=>.lM []) (λx=>[.box (F x)]):=by unfold oU;exact zz 0 Tryz.func40
def pU (n:Nat) (l:D):aG (fL×D):=
 ag (cY n l) λd=>gd (cD (d.2.bB+1)) (gV 1 [0,2,3] [102] (λ_=>[]) (λc=>[(0,.box (F c.1)),(103,.box [eu c.2.Name,eu c.2.Path,I c.2.cG])]) (λ(c:D×fL)=>ag (bq n c.1) λa=>gV 0 [0,2,3,4] [102,103,104] (λ_=>[]) (λg=>[(0,.box (F g))]) (λ(g:D)=>gV 1 [0,2,3] [102] (λ_=>[]) (λb=>[(0,.box (F b.1)),(103,.box [eu b.2.Name,eu b.2.Path,I b.2.cG])]) (λ(b:D×fL)=>gd (cD (b.1.bB+1)) (ag (oU n (D.mk b.1.bM b.1.M (b.1.bB+1) b.1.base b.1.skip b.1.Z)) λm=>.ok (b.2,m))) λh=>br (c.2.Name==([]:ByS)) (jg 9 (ag (strings_LastIndex a.1.bJ ([47]:ByS)) λf=>gd (cD (f+1)) (gd ((0:Int)<=(f+1)/\(f+1)<=(a.1.bJ.length:Int)) (ag (dT n (gp a.1.bJ (f+1))) λo=>br (!o) (ag (bY n g) λp=>h (p,fL.mk (gp a.1.bJ (f+1)) a.1.bJ c.2.cG)) (h (g,fL.mk (gp a.1.bJ (f+1)) a.1.bJ c.2.cG)))))) (h (g,fL.mk c.2.Name a.1.bJ c.2.cG))) λi=>br (a.1.an !=3) (ag (bY n (D.mk a.2.bM a.2.M a.2.bB c.1.base a.2.skip a.2.Z)) λq=>i q) (i ((D.mk a.2.bM a.2.M a.2.bB c.1.base a.2.skip a.2.Z)))) λj=>ag (bq n (D.mk d.2.bM d.2.M (d.2.bB+1) d.2.base d.2.skip d.2.Z)) λe=>br (e.1.an==1) (ag (eN n (D.mk e.2.bM e.2.M e.2.bB d.2.base e.2.skip e.2.Z)) λk=>j (k.2,fL.mk k.1 [] d.1)) (j (D.mk e.2.bM e.2.M e.2.bB d.2.base e.2.skip e.2.Z,fL.mk [] [] d.1)))
instance L9 (n:Nat) (p0:D):CT Pq 41 [.ptr 0 0] [.box (F p0)] (pU n p0) (λx=>.agg [eu x.1.Name,eu x.1.Path,I x.1.cG]) (λx=>[.box (F x.2)]):=by unfold pU;exact zz 0 Tryz.func41
def vm (n:Nat) (q:D):aG (uG×D):=
 oz [[15,3106,1,9]] (ag (sO n q) λh=>jU [[1,3106,10004],[0,2,3,4],[0,102,103]] (gV 0 [0,2,3] [102] (λf=>[(4,.arr 10004 f.2.2.length)]) (λf=>[(0,.box (F f.1)),(103,.box [eu f.2.1.ua,nSl,nSl,nSl]),(10004,.app 9 1 (hO f.2.2))]) (λ(f:D×uG×(List ByS))=>gV 0 [0,2,3,4] [102,10004] (λ_=>[]) (λe=>[(0,.box (F e.1)),(103,.box [eu e.2.ua,.arr 26593 e.2.rj.length,nSl,nSl]),(26593,.app 58 3 (fL.Cs e.2.rj))]) (λ(e:D×uG)=>ghK [0,2,3,58] (ag (iv n f.2.2 true e.1) λg=>ag (bq n g.2.2) λd=>br (d.1.an !=0) (ag (bY n (D.mk d.2.bM d.2.M d.2.bB g.2.2.base d.2.skip d.2.Z)) λs=>oz [[13,103,1]] (.ok (uG.mk e.2.ua e.2.rj g.1 g.2.1,s))) (oz [[13,103,1]] (.ok (uG.mk e.2.ua e.2.rj g.1 g.2.1,D.mk d.2.bM d.2.M d.2.bB g.2.2.base d.2.skip d.2.Z))))) λm=>jU [[5,103,1,26593,3,58]] (dG [0,2,3,4] [102,10004] (λ_=>[]) (λb=>[(0,.box (F b.1)),(103,.box [eu b.2.ua,.arr 26593 b.2.rj.length,nSl,nSl]),(26593,.app 58 3 (fL.Cs b.2.rj))]) (λo (b:D×uG)=>jg 24 (ag (bq n b.1) λa=>ag (kc a.1 [105,109,112,111,114,116]) λt=>br t (oz [[22,31]] (br ((b.2.rj.length:Int)==0) (Cz 8 (ag (pU n (D.mk a.2.bM a.2.M a.2.bB b.1.base a.2.skip a.2.Z)) λi=>gd (ob 40 b.2.rj.length (List.length [i.1])) (jU [[1,155,26593],[0,2,3,4],[10004,0,102,103]] (o (i.2,uG.mk b.2.ua (b.2.rj++[i.1]) [] []))))) (gd (cD (a.2.bB - 1)) (el a.2.M (a.2.bB - 1) λr=>br (r.an !=6) (Cz 8 (ag (pU n (D.mk a.2.bM a.2.M a.2.bB b.1.base a.2.skip a.2.Z)) λj=>gd (ob 40 b.2.rj.length (List.length [j.1])) (jU [[1,155,26593],[0,2,3,4],[10004,0,102,103]] (o (j.2,uG.mk b.2.ua (b.2.rj++[j.1]) [] []))))) (m (D.mk a.2.bM a.2.M a.2.bB b.1.base a.2.skip a.2.Z,uG.mk b.2.ua b.2.rj [] [])))))) (m (D.mk a.2.bM a.2.M a.2.bB b.1.base a.2.skip a.2.Z,uG.mk b.2.ua b.2.rj [] [])))) n (f.1,uG.mk f.2.1.ua [] [] []))) λl=>ag (bq n h.2) λc=>ag (kc c.1 [112,97,99,107,97,103,101]) λu=>br u (gd (cD (c.2.bB+1)) (ag (eN n (D.mk c.2.bM c.2.M (c.2.bB+1) h.2.base c.2.skip c.2.Z)) λp=>ag (oU n p.2) λv=>ag (qO n v) λk=>gd (ob 16 h.1.length k.1.length) (jU [[1,125,10004],[0,2,3,4],[0,102,103]] (l (k.2,uG.mk p.1 [] [] [],h.1++k.1))))) (l (D.mk c.2.bM c.2.M c.2.bB h.2.base c.2.skip c.2.Z,uG.mk [] [] [] [],h.1))))
instance Ey (n:Nat) (p0:D):CT Pq 15 [.ptr 0 0] [.box (F p0)] (vm n p0) (λx=>.agg (En x.1)) (λx=>[.box (F x.2)]):=by unfold vm;exact zz 0 Tryz.func15
def C1 (n:Nat) (b:uG):aG (Int):=
 gV 2 [0,1,3] [101] (λ_=>[]) (λc=>[(107,.box (bX c))]) (λ(c:V)=>dG [0,1,3,23,24] [101] (λa=>[(25,I a.2)]) (λa=>[(107,.box (bX a.1))]) (λe (a:V×Int)=>br (decide (a.2<b.rj.length)) (el b.rj a.2 λf=>ag (dT n f.Name) λg=>ag (aQ n [g] a.1) λh=>gd (cD (a.2+1)) (e (h,a.2+1))) (ag (fq n b.fS true 1 a.1) λi=>ag (kZ i) λj=>.ok j.1)) n (c,0)) λd=>uD [0,1,2,3,4,5,6,9,10,7,8,11,12,13] (br (b.ua==([]:ByS)) (ag (ls n b.J) λk=>ag (aQ n [true,k] (V.mk false false)) λl=>d l) (ag (dT n b.ua) λm=>ag (ls n b.J) λo=>ag (aQ n [m,o] (V.mk false false)) λp=>d p))
instance KJ (n:Nat) (p0:uG):CT Pq 16 [.agg (En p0)] [] (C1 n p0) (λx=>I x) (λ_=>[]):=by unfold C1;exact zz 0 Tryz.func16
def x7 (n:Nat) (b:ByS):aG (uG×cZ):=
 ag (pc n b) λa=>br (a.2.dX !=0) (.ok (uG.mk [] [] [] [],a.2)) (Ar (ag (vm n (D.mk b a.1 0 0 false none)) λc=>ag (C1 n c.1) λg=>br (g==9) (.ok (uG.mk [] [] [] [],cZ.mk 9 0)) (.ok (c.1,cZ.mk 0 0))) (λe=>HU 71 e λf=>ag (Bi f) λd=>.ok (d.1,d.2)))
instance xD (n:Nat) (p0:ByS):CT Pq 6 [eu p0] [] (x7 n p0) (λx=>.lM [.agg (En x.1),.agg [I x.2.dX,I x.2.At]]) (λ_=>[]):=by
 refine EZ Tryz.func6 O O λr h hr E hE=>?_;refine bz λ_ Hn=>bp (gH 102 (hE _ O) O4 O ?_);refine gH 103 (hE _ O) O4 O ?_;refine zQ Hn (bz λ_ Ot=>bp (zm O (GY hr h [] Tryz.call12 (CU n p0) ⟨O,O,O,O,O,O,trivial⟩ O (λ_=>O3) (λ_=>O2) (λ_ _ _ hd hp=>Jk (P:=Pq) (fn:=Tryz.f6) hd hp) (λy3 h=>?_))));refine zm O (zx O (zx O (za O (zs O (zQ Ot (bz λ_ RE=>bz λ_ XP=>bp (zf O (zl O (zc O (zQ XP (zB O h (λ_ h=>?_) λ_ h=>?_)))))))))))
 ·refine bz λ_ hK7=>sb [0,1,2,3] O (by kernel_rfl) (zD O E9 O ?_);refine zD O Ih O ?_;refine sa O O8 O (λe2 he=>⟨pF ⟨⟨⟨_,O,nh _⟩,trivial⟩,⟨trivial,trivial⟩⟩,?_⟩);subst he;refine sa O O8 O (λe3 he=>⟨ky O,?_⟩);subst he;refine An (hK7 _ _ (nA (CH 102 O O) ?_));exact rK (I4 (n:=Tryz.f6.ntmps) (.inl O) adK)
 refine lZ (RE _ _ (bz λ_ XS=>bp (et (Kp O O) O ?_)));refine Oh O ?_;have hrO:=hr;obtain ⟨r,hr,h,hc⟩:=Jj hr h;refine zQ XS (bz λ_ hK9=>bp (zm O (zm O (et E9 O ?_))));refine HL 121 (hE _ O) O7 O ?_;refine za O (zQ hK9 (bz λ_ OA=>bp (zm O (et (Kp O O) O ?_))));refine za O (zQ OA (bz λ_ TQ=>bp (zm O (lD (CH 121 O O) ?_))));refine BD hr h [121] Tryz.call15 (Ey n (D.mk p0 y3.1 0 0 false none)) ⟨O,O,O,O,O,O,trivial⟩ O O (λ_=>O3) (λ_=>O2) O (λp hp=>?_) (λy12 h=>?_)
 ·exact ahf
 refine zs O (zQ TQ (bz λ_ Ov=>bz λ_ L4=>bp (zA O ?_)));refine BD hr h [] Tryz.call16 (KJ n y12.1) ⟨O,O,O,O,O,O,trivial⟩ O O (λ_=>O3) (λ_=>O2) O (λp hp=>?_) (λy15 h=>?_)
 ·exact ahf
 refine zc O (zQ L4 (zB O h (λ_ h=>?_) λ_ h=>?_))
 ·refine bz λ_ IS=>bp (et E9 O ?_);refine et Dq O ?_;refine zs O (zs O (zQ IS (nA (CH 102 O O) ?_)));refine rK (vg (n:=Tryz.f6.ntmps) (.inl O) [102,103] Tryz.call13 (xd [.box [eu [],.pv (.sl (List.length ([]:List fL)) (fL.Cs [])),.pv (.sl (List.length ([]:List aK)) (aK.Cs [])),.pv (.sl (List.length ([]:List ByS)) (hO []))],.box [I 9,I 0]]) ⟨O,O,O,O⟩ O O ?_);exact W2
 refine lZ (Ov _ _ (bz λ_ NG=>bp (zA O ?_)));refine et Dq O ?_;refine zs O (zs O (zQ NG (rK (vg (n:=Tryz.f6.ntmps) (.inl O) [102,103] Tryz.call13 (xd [.box (En y12.1),.box [I 0,I 0]]) ⟨O,O,O,O⟩ O O ?_))));exact W2
def Bj (n:Nat):aG (Bool):=
 ag (x7 n [97,58,32,49,44,32,98,58,32,97,32,38,32,105,110,116]) λc=>ag (tJ n [42,49]) λe=>ag (x7 n [97,58,32,42,49]) λf=>ag (x7 n [120,58,32,123,121,58,32,122,125]) λd=>ag (x7 n [120,58,32,49,32,124,32,123,121,58,32,122,125]) λb=>jn (λ(g:Bool)=>br g (.ok false) (br ((e.2.dX==8)&&(e.2.At==2)) (br ((f.2.dX==8)&&(f.2.At==5)) (el c.1.fS 1 λh=>el h.bF 0 λi=>br (i.an==16) (el d.1.fS 0 λj=>el j.bF 0 λk=>br (k.an==13) (el b.1.fS 0 λl=>el l.bF 0 λm=>el m.bF 1 λo=>.ok ((o.an==22))) (.ok false)) (.ok false)) (.ok false)) (.ok false))) λa=>br (c.2.dX !=0) (a true) (br (d.2.dX !=0) (a true) (br (b.2.dX !=0) (a true) (br ((c.1.fS.length:Int) !=2) (a true) (br ((d.1.fS.length:Int) !=1) (a true) (br ((b.1.fS.length:Int) !=1) (a true) (el c.1.fS 1 λp=>br ((p.bF.length:Int) !=1) (a true) (el d.1.fS 0 λq=>br ((q.bF.length:Int) !=1) (a true) (el b.1.fS 0 λr=>br ((r.bF.length:Int) !=1) (a true) (el b.1.fS 0 λs=>el s.bF 0 λt=>a (((t.bF.length:Int) !=2)))))))))))
instance Ĵ (n:Nat):CT Pq 5 [] [] (Bj n) (λx=>Bo x) (λ_=>[]):=by
 refine zC Tryz.func5 O λr hp h hr E hE=>bz λ_ Hn=>bp (za O (zQ Hn (bz λ_ Ot=>bp (zk hp hr h [] Tryz.call6 (xD n ([97,58,32,49,44,32,98,58,32,97,32,38,32,105,110,116]:ByS)) O (λ_=>rfl) λy3 h=>zm O (zx O (zx O (gH 101 (hE _ O) O4 O ?_)))))));refine gH 102 (hE _ O) O4 O ?_;refine zs O (zs O (zQ Ot (bz λ_ RE=>bp (zk hp hr h [] Tryz.call9 (L7 n ([42,49]:ByS)) O (λ_=>rfl) λy5 h=>zm O (zx O (zx O (gH 103 (hE _ O) O4 O ?_)))))));refine gH 104 (hE _ O) O4 O ?_;refine zs O (zs O (zQ RE (bz λ_ hK6=>bp (zk hp hr h [] Tryz.call6 (xD n ([97,58,32,42,49]:ByS)) O (λ_=>rfl) λy7 h=>zm O (zx O (zx O (gH 105 (hE _ O) O4 O ?_)))))));refine gH 106 (hE _ O) O4 O ?_;refine zs O (zs O (zQ hK6 (bz λ_ XS=>bp (zk hp hr h [] Tryz.call6 (xD n ([120,58,32,123,121,58,32,122,125]:ByS)) O (λ_=>rfl) λy9 h=>zm O (zx O (zx O (gH 107 (hE _ O) O4 O ?_)))))));refine gH 108 (hE _ O) O4 O ?_;refine zs O (zs O (zQ XS (bz λ_ OA=>bp (zk hp hr h [] Tryz.call6 (xD n ([120,58,32,49,32,124,32,123,121,58,32,122,125]:ByS)) O (λ_=>rfl) λy11 h=>zm O (zx O (zx O (gH 109 (hE _ O) O4 O ?_)))))));refine gH 110 (hE _ O) O4 O ?_;refine zs O (zs O (zQ OA (bz λ_ L3=>zM h (λ(OD:Bool)=>[(1,.ptr 101 0),(4,.ptr 104 0),(6,.ptr 106 0),(7,.ptr 107 0),(9,.ptr 109 0),(100,Bo OD)]) (λ(OD:Bool)=>[(101,.box (En y3.1)),(104,.box [I y5.2.dX,I y5.2.At]),(106,.box [I y7.2.dX,I y7.2.At]),(107,.box (En y9.1)),(109,.box (En y11.1))]) (λOD h=>?_) λ_ _ hK15 h=>?_)))
 ·refine zB O h (λ_ h=>?_) λ_ h=>?_
  ·exact bz λ_ IS=>bp (za O (zQ IS (rK (zRt O h O))))
  refine lZ (L3 _ _ (bz λ_ NG=>bp (zA O ?_)));refine et Dq O ?_;refine et (φ O O) O (zm O (zb ((y5.2.dX==8)&&(y5.2.At==2)) (λOE=>?_) λOE=>?_))
  ·refine z1 OE h λh=>zG OE O Ih ?_;refine zG OE O Dq ?_;refine zG OE O (φ O O) (zy OE O (zm O (zb ((y7.2.dX==8)&&(y7.2.At==5)) (λGc=>?_) λGc=>?_)))
   ·refine z1 Gc h λh=>zG Gc O (Ef O) (zG Gc O E8 (ze hr h λx21 h22 h23 h24 h=>zG Gc O (HS oj om h22 h23 h24 O O O) (zG Gc O Dg (zG Gc O Df (ze hr h λx25 h26 h27 h28 h=>zG Gc O (HS oh rN h26 h27 h28 O O O) (zG Gc O Dg (zG Gc O Df (zG Gc O F1 (zy Gc O (zm O (zb (x25.an==16) (λGd=>?_) λGd=>?_)))))))))))
    ·refine z1 Gd h λh=>zG Gd O (Ef O) (zG Gd O E8 (ze hr h λx30 h31 h32 h33 h=>zG Gd O (HS oj om h31 h32 h33 O O O) (zG Gd O Dg (zG Gd O Df (ze hr h λx34 XH h36 h37 h=>zG Gd O (HS oh rN XH h36 h37 O O O) (zG Gd O Dg (zG Gd O Df (zG Gd O F1 (zy Gd O (zm O (zb (x34.an==13) (λDI=>?_) λDI=>?_)))))))))))
     ·exact z1 DI h λh=>zG DI O (Ef O) (zG DI O E8 (ze hr h λx39 G3 OF h42 h=>zG DI O (HS oj om G3 OF h42 O O O) (zG DI O Dg (zG DI O Df (ze hr h λx43 h44 h45 LH h=>zG DI O (HS oh rN h44 h45 LH O O O) (zG DI O Dg (zG DI O Df (ze hr h λx47 h48 h49 h50 h=>zG DI O (HS oh rN h48 h49 h50 O O O) (zG DI O Dg (zG DI O Df (zG DI O F1 (zy DI O YX))))))))))))
     exact z2 DI h λh=>zH 12 O DI (zw DI O YX)
    refine z2 Gd h λh=>zH 9 O Gd (zw Gd O (zm O (zH 12 O O (et (CN O O) O ?_))));exact YX
   refine z2 Gc h λh=>zH 9 O Gc (zw Gc O (zm O (zH 9 O O (et (CN O O) O (zm O (zH 2 O O ?_))))));exact zH 10 O O (et (CN O O) O YX)
  refine z2 OE h λh=>zH 3 O OE (zw OE O (zm O (zH 9 O O (et (CN O O) O (zm O (zH 8 O O ?_))))));exact zg O O (et (CN O O) O (zm O (zH 12 O O (et (CN O O) O YX))))
 refine bp (zf O (zl O (zc O (zm O (zb (y3.2.dX !=0) (λOG=>?_) λOG=>?_)))))
 ·refine z1 OG h λh=>zH 3 O OG (zy OG O (zm O (zH 3 O O (zt O (zm O (zH 4 O O (zt O (zm O (zH 4 O O (zt O (zm O (zH 2 O O ?_))))))))))));refine zH 2 O O (zt O (zm O (zH 7 O O (zt O (zm O (zH 7 O O (zt O (zm O (zH 3 O O ?_)))))))));exact zH 4 O O (zt O Qu)
 refine z2 OG h λh=>zG OG O (Ef O) (zG OG O E8 (zG OG O F1 (zw OG O (zm O (zb (y9.2.dX !=0) (λOH=>?_) λOH=>?_)))))
 ·refine z1 OH h λh=>zH 3 O OH (zy OH O (zm O (zH 4 O O (zt O (zm O (zH 4 O O (zt O (zm O (zH 4 O O (zt O (zm O (zg O O ?_))))))))))));refine zH 6 O O (zt O (zm O (zH 7 O O (zt O (zm O (zH 7 O O (zt O ?_)))))));exact Qu
 refine z2 OH h λh=>zG OH O (Ef O) (zG OH O E8 (zG OH O F1 (zw OH O (zm O (zb (y11.2.dX !=0) (λMa=>?_) λMa=>?_)))))
 ·refine z1 Ma h λh=>zH 4 O Ma (zy Ma O (zm O (zH 4 O O (zt O (zm O (zH 4 O O (zt O (zm O (zH 6 O O ?_)))))))));refine zg O O (zt O (zm O (zH 7 O O (zt O (zm O (zH 7 O O (zt O (zm O (zH 4 O O ?_)))))))));exact zH 6 O O Ő
 refine z2 Ma h λh=>zG Ma O (Ef O) (zG Ma O E8 (zG Ma O Gu (zG Ma O F1 (zw Ma O (zm O (zb ((List.length y3.1.fS:Int) !=2) (λMb=>?_) λMb=>?_))))))
 ·refine z1 Mb h λh=>zH 4 O Mb (zy Mb O (zm O (zH 4 O O (zt O (zm O (zH 7 O O (zt O (zm O (zH 3 O O ?_)))))))));refine zH 4 O O (zt O (zm O (zH 7 O O (zt O (zm O (zH 10 O O ?_))))));exact Ő
 refine z2 Mb h λh=>zG Mb O (Ef O) (zG Mb O E8 (zG Mb O Gu (zG Mb O F1 (zw Mb O (zm O (zb ((List.length y9.1.fS:Int) !=1) (λMc=>?_) λMc=>?_))))))
 ·refine z1 Mc h λh=>zH 4 O Mc (zy Mc O (zm O (zH 7 O O (zt O (zm O (zH 7 O O (zt O (zm O ?_))))))));exact zH 7 O O (zt O Qu)
 refine z2 Mc h λh=>zG Mc O (Ef O) (zG Mc O E8 (zG Mc O Gu (zG Mc O F1 (zw Mc O (zm O (zb ((List.length y11.1.fS:Int) !=1) (λH2=>?_) λH2=>?_))))))
 ·refine z1 H2 h λh=>zH 7 O H2 (zy H2 O (zm O (zH 7 O O (zt O (zm O (zH 6 O O ?_))))));exact zg O O (zt O Qu)
 refine z2 H2 h λh=>zG H2 O (Ef O) (zG H2 O E8 (ze hr h λx57 h58 h59 h60 h=>zG H2 O (HS oj om h58 h59 h60 O O O) (zG H2 O Dg (zG H2 O Df (zG H2 O Gu (zG H2 O F1 (zw H2 O (zm O (zb ((List.length x57.bF:Int) !=1) (λH3=>?_) λH3=>?_)))))))))
 ·refine z1 H3 h λh=>zH 7 O H3 (zy H3 O (zm O (zH 7 O O (zt O (zm O (zH 6 O O ?_))))));exact zH 4 O O Ő
 refine z2 H3 h λh=>zG H3 O (Ef O) (zG H3 O E8 (ze hr h λx62 h63 h64 h65 h=>zG H3 O (HS oj om h63 h64 h65 O O O) (zG H3 O Dg (zG H3 O Df (zG H3 O Gu (zG H3 O F1 (zw H3 O (zm O (zb ((List.length x62.bF:Int) !=1) (λH4=>?_) λH4=>?_)))))))))
 ·exact z1 H4 h λh=>zH 7 O H4 (zy H4 O Qu)
 refine z2 H4 h λh=>zG H4 O (Ef O) (zG H4 O E8 (ze hr h λx67 h68 h69 h70 h=>zG H4 O (HS oj om h68 h69 h70 O O O) (zG H4 O Dg (zG H4 O Df (zG H4 O Gu (zG H4 O F1 (zw H4 O (zm O (zb ((List.length x67.bF:Int) !=1) (λFp=>?_) λFp=>?_)))))))))
 ·exact z1 Fp h λh=>zH 10 O Fp (zy Fp O (rJ (hK15 _ _ _ h O)))
 exact z2 Fp h λh=>zG Fp O (Ef O) (zG Fp O E8 (ze hr h λx72 h73 h74 h75 h=>zG Fp O (HS oj om h73 h74 h75 O O O) (zG Fp O Dg (zG Fp O Df (ze hr h λx76 h77 h78 h79 h=>zG Fp O (HS oh rN h77 h78 h79 O O O) (zG Fp O Dg (zG Fp O Df (zG Fp O Gu (zG Fp O F1 (zw Fp O (rJ (hK15 _ _ _ h O))))))))))))
def pf (n:Nat) (b:(List ByS)) (c:(List ByS)):aG (Bool):=
 br ((b.length:Int) !=(c.length:Int)) (.ok false) (dG [0,1,12] [] (λa=>[(13,I a)]) (λ_=>[]) (λd (a:Int)=>br (decide (a<b.length)) (jg 9 (el b a λe=>el c a λf=>br (e !=f) (.ok false) (gd (cD (a+1)) (d (a+1))))) (.ok true)) n 0)
instance Wd (n:Nat) (p0:(List ByS)) (p1:(List ByS)):CT Pq 61 [Av p0,Av p1] [] (pf n p0 p1) (λx=>Bo x) (λ_=>[]):=by unfold pf;exact zz 0 Tryz.func61
structure mT where
 lx:(List aK)->(List aK)->aG (Bool)
 ji:ak->ak->aG (Bool)
def qw (n:Nat) (f:mT) (e:(List aK)) (g:(List aK)):aG (Bool):=
 br ((e.length:Int) !=(g.length:Int)) (.ok false) (dG [0,1,15] [] (λd=>[(16,I d)]) (λ_=>[]) (λi (d:Int)=>br (decide (d<e.length)) (jg 12 (el e d λa=>el g d λb=>br (a.an !=b.an) (.ok false) (br (a.cS !=b.cS) (.ok false) (br (a.jb !=b.jb) (.ok false) (br (!((a.B==b.B)&&(a.bE==b.bE))) (.ok false) (br (a.iG !=b.iG) (.ok false) (br ((a.bF.length:Int) !=(b.bF.length:Int)) (.ok false) (ag (pf n a.oO b.oO) λl=>br (!l) (.ok false) (ag (pf n a.J b.J) λm=>br (!m) (.ok false) (ag (f.lx a.jf b.jf) λo=>br (!o) (.ok false) (dG [0,1,6,7,15,16,93] [106,107] (λc=>[(94,I c)]) (λ_=>[]) (λh (c:Int)=>br (decide (c<a.bF.length)) (jg 12 (el a.bF c λj=>el b.bF c λk=>ag (f.ji j k) λp=>br (!p) (.ok false) (gd (cD (c+1)) (h (c+1))))) (gd (cD (d+1)) (i (d+1)))) n 0))))))))))) (.ok true)) n 0)
def rA (n:Nat) (d:mT) (a:ak) (b:ak):aG (Bool):=
 br (a.an !=b.an) (.ok false) (br (a.bJ !=b.bJ) (.ok false) (br (a.U !=b.U) (.ok false) (br (!((a.B==b.B)&&(a.bE==b.bE))) (.ok false) (br ((a.bF.length:Int) !=(b.bF.length:Int)) (.ok false) (ag (pf n a.J b.J) λh=>br (!h) (.ok false) (dG [0,1,2,3,51] [102,103] (λc=>[(52,I c)]) (λ_=>[]) (λe (c:Int)=>br (decide (c<a.bF.length)) (jg 12 (el a.bF c λf=>el b.bF c λg=>ag (d.ji f g) λi=>br (!i) (.ok false) (gd (cD (c+1)) (e (c+1))))) (ag (d.lx a.fS b.fS) λj=>.ok j)) n 0))))))
def gX:Nat->mT
 | 0=>⟨λ_ _=>.stuck,λ_ _=>.stuck⟩
 | n+1=>⟨qw n (gX n),rA n (gX n)⟩
abbrev lx (n:Nat):=(gX n).lx
abbrev ji (n:Nat):=(gX n).ji
abbrev AD (f:(List aK)->(List aK)->aG (Bool)):Prop:=∀ p0 p1,CT Pq 62 [.pv (.sl p0.length (aK.Cs p0)),.pv (.sl p1.length (aK.Cs p1))] [] (f p0 p1) (λx=>Bo x) (λ_=>[])
abbrev Bl (f:ak->ak->aG (Bool)):Prop:=∀ p0 p1,CT Pq 33 [.agg (Q p0),.agg (Q p1)] [] (f p0 p1) (λx=>Bo x) (λ_=>[])
class nE (T:mT):Prop where
 lx:AD T.lx
 ji:Bl T.ji
attribute [instance] nE.lx nE.ji
theorem Fq (n:Nat) (T:mT) [hT:nE T]:AD (qw n T):=λp0 p1=>by unfold qw;exact zz 0 Tryz.func62
theorem Ge (n:Nat) (T:mT) [hT:nE T]:Bl (rA n T):=λp0 p1=>by unfold rA;exact zz 0 Tryz.func33
theorem uL:∀ n,nE (gX n)
 | 0=>by constructor<;>(repeat intro)<;>exact rh
 | n+1=>have:=uL n;⟨Fq n _,Ge n _⟩
attribute [instance] uL
structure mg where
 kz:(List aK)->(List aK)->aG (Bool)
 jt:ak->ak->aG (Bool)
def pG (n:Nat) (e:mg) (c:(List aK)) (d:(List aK)):aG (Bool):=
 dG [0,1,8] [] (λa=>[(9,I a)]) (λ_=>[]) (λg (a:Int)=>br (decide (a<c.length)) (jg 25 (el c a λh=>el d a λi=>br (h.cG !=i.cG) (.ok false) (el c a λj=>el d a λk=>ag (e.kz j.jf k.jf) λr=>br (!r) (.ok false) (el c a λl=>dG [0,1,5,8,9,42] [] (λb=>[(43,I b)]) (λ_=>[]) (λf (b:Int)=>br (decide (b<l.bF.length)) (jg 18 (el c a λm=>el m.bF b λo=>el d a λp=>el p.bF b λq=>ag (e.jt o q) λs=>br (!s) (.ok false) (gd (cD (b+1)) (f (b+1))))) (gd (cD (a+1)) (g (a+1)))) n 0)))) (.ok true)) n 0
def qz (n:Nat) (d:mg) (b:ak) (c:ak):aG (Bool):=
 dG [0,1,2,3,8] [102,103] (λa=>[(9,I a)]) (λ_=>[]) (λe (a:Int)=>br (decide (a<b.bF.length)) (jg 12 (el b.bF a λf=>el c.bF a λg=>ag (d.jt f g) λh=>br (!h) (.ok false) (gd (cD (a+1)) (e (a+1))))) (br (b.cG==c.cG) (ag (d.kz b.fS c.fS) λi=>.ok i) (.ok false))) n 0
def iM:Nat->mg
 | 0=>⟨λ_ _=>.stuck,λ_ _=>.stuck⟩
 | n+1=>⟨pG n (iM n),qz n (iM n)⟩
abbrev kz (n:Nat):=(iM n).kz
abbrev jt (n:Nat):=(iM n).jt
abbrev yQ (f:(List aK)->(List aK)->aG (Bool)):Prop:=∀ p0 p1,CT Pq 22 [.pv (.sl p0.length (aK.Cs p0)),.pv (.sl p1.length (aK.Cs p1))] [] (f p0 p1) (λx=>Bo x) (λ_=>[])
abbrev AE (f:ak->ak->aG (Bool)):Prop:=∀ p0 p1,CT Pq 34 [.agg (Q p0),.agg (Q p1)] [] (f p0 p1) (λx=>Bo x) (λ_=>[])
class mU (T:mg):Prop where
 kz:yQ T.kz
 jt:AE T.jt
attribute [instance] mU.kz mU.jt
theorem Ez (n:Nat) (T:mg) [hT:mU T]:yQ (pG n T):=λp0 p1=>by unfold pG;exact zz 0 Tryz.func22
theorem Fs (n:Nat) (T:mg) [hT:mU T]:AE (qz n T):=λp0 p1=>by unfold qz;exact zz 0 Tryz.func34
theorem uq:∀ n,mU (iM n)
 | 0=>by constructor<;>(repeat intro)<;>exact rh
 | n+1=>have:=uq n;⟨Ez n _,Fs n _⟩
attribute [instance] uq
def AF (n:Nat) (a:aB):aG (Bool):=
 gV 3 [0,1,6] [101] (λd=>[(7,Bo d)]) (λ_=>[]) (λ(d:Bool)=>br d (.ok true) (br (a.an==5) (dG [0,1,3] [101] (λb=>[(4,I b)]) (λ_=>[]) (λe (b:Int)=>br (decide (b<(List.length [([95,124,95]:ByS),([95]:ByS),([46,46,46]:ByS),([41]:ByS),([93]:ByS),([125]:ByS),([63]:ByS)]:Int))) (jg 7 (el [([95,124,95]:ByS),([95]:ByS),([46,46,46]:ByS),([41]:ByS),([93]:ByS),([125]:ByS),([63]:ByS)] b λf=>br (f==a.bJ) (.ok true) (gd (cD (b+1)) (e (b+1))))) (.ok false)) n 0) (.ok false))) λc=>br (a.an==1) (c ((a.an==1))) (br (a.an==2) (c ((a.an==2))) (br (a.an==3) (c ((a.an==3))) (c ((a.an==4)))))
instance aaV (n:Nat) (p0:aB):CT Pq 95 [.agg (na p0)] [] (AF n p0) (λx=>Bo x) (λ_=>[]):=by unfold AF;exact zz 0 Tryz.func95
def xz (n:Nat) (g:ByS) (b:(List aB)) (h:Int):aG (Bool):=
 gd (cD ((b.length:Int) - 1)) (dG [0,1,2] [] (λa=>[(7,I a)]) (λ_=>[]) (λf (a:Int)=>br (decide (a>=0)) (el b a λi=>br (i.an==7) (.ok false) (el b a λj=>br (j.an==6) (gd (cD (a - 1)) (f (a - 1))) (el b a λk=>dG [0,1,2,7] [] (λc=>[(8,I c)]) (λ_=>[]) (λe (c:Int)=>br (decide (c<h)) (el g c λd=>br ((d.toNat:Int)==10) (.ok false) (gd (cD (c+1)) (e (c+1)))) (el b a λl=>ag (AF n l) λm=>.ok m)) n k.oZ))) (.ok false)) n ((b.length:Int) - 1))
instance aaW (n:Nat) (p0:ByS) (p1:(List aB)) (p2:Int):CT Pq 48 [eu p0,Er p1,I p2] [] (xz n p0 p1 p2) (λx=>Bo x) (λ_=>[]):=by unfold xz;exact zz 0 Tryz.func48
def rB (n:Nat) (d:Int) (e:Int):aG (ByS):=
 dG [1] [] (λa=>[(0,I a.1),(5,eu a.2)]) (λ_=>[]) (λc (a:Int×ByS)=>gV 0 [0,1,5] [] (λ_=>[]) (λ_=>[]) (λ(f:Unit)=>gd ((10:Int)≠0) (gd (cD (48+(Int.tmod a.1 10))) (gd (BR (jz [IntKind.wrap .u8 (48+(Int.tmod a.1 10))]) a.2) (gd ((10:Int)≠0) (c (IntKind.wrap .i64 (Int.tdiv a.1 10),(jz [IntKind.wrap .u8 (48+(Int.tmod a.1 10))])++a.2)))))) λb=>br (decide (a.1>0)) (b ()) (br (decide ((a.2.length:Int)<e)) (b ()) (.ok a.2))) n (d,([]:ByS))
instance Υ (n:Nat) (p0:Int) (p1:Int):CT Pq 197 [I p0,I p1] [] (rB n p0 p1) (λx=>eu x) (λ_=>[]):=by unfold rB;exact zz 0 Tryz.func197
def tK (a:Int):aG (Bool):=
 br (decide (a>=(-1000000000000000))) (.ok ((decide (a<=1000000000000000)))) (.ok false)
instance ĵ (p0:Int):CT Pq 149 [I p0] [] (tK p0) (λx=>Bo x) (λ_=>[]):=by unfold tK;exact zz 0 Tryz.func149
def zW (a:Int):aG (Int):=
 br (decide (a<0)) (.ok (IntKind.wrap .i64 (0 - a))) (.ok a)
instance adg (p0:Int):CT Pq 198 [I p0] [] (zW p0) (λx=>I x) (λ_=>[]):=by unfold zW;exact zz 0 Tryz.func198
def AG (n:Nat) (c:Int):aG (ByS):=
 ag (tK c) λj=>br (!j) (.ok (([63]:ByS))) (ag (zW c) λk=>gd ((10000:Int)≠0) (ag (rB n (IntKind.wrap .i64 (Int.tdiv k 10000)) 1) λd=>gV 0 [0] [] (λb=>[(3,eu b)]) (λ_=>[]) (λ(b:ByS)=>gd ((10000:Int)≠0) (br ((Int.tmod c 10000)==0) (.ok b) (ag (zW c) λh=>gd ((10000:Int)≠0) (ag (rB n (Int.tmod h 10000) 4) λi=>dG [0,3] [] (λa=>[(4,eu a)]) (λ_=>[]) (λg (a:ByS)=>gd (cD ((a.length:Int) - 1)) (el a ((a.length:Int) - 1) λf=>br ((f.toNat:Int)==48) (gd (cD ((a.length:Int) - 1)) (gd ((0:Int)<=((a.length:Int) - 1)/\((a.length:Int) - 1)<=(a.length:Int)) (g (sd a ((a.length:Int) - 1))))) (gd (BR b ([46]:ByS)) (gd (BR (b++([46]:ByS)) a) (.ok ((b++([46]:ByS))++a)))))) n i)))) λe=>br (decide (c<0)) (gd (BR ([45]:ByS) d) (e (([45]:ByS)++d))) (e d)))
instance aaX (n:Nat) (p0:Int):CT Pq 150 [I p0] [] (AG n p0) (λx=>eu x) (λ_=>[]):=by unfold AG;exact zz 0 Tryz.func150
def nM (n:Nat) (c:ByS):aG (Int×Int):=
 br (decide ((c.length:Int)>18)) (.ok (0,8)) (dG [0] [] (λa=>[(4,I a.1),(5,I a.2.1),(6,I a.2.2)]) (λ_=>[]) (λt (a:Int×Int×Int)=>br (decide (a.2.2<c.length)) (gV 0 [0,6] [] (λd=>[(4,I d.1),(5,I d.2)]) (λ_=>[]) (λ(d:Int×Int)=>gd (cD (a.2.2+1)) (t (d.1,d.2,a.2.2+1))) λf=>gV 0 [0,4,5,6] [] (λ_=>[]) (λ_=>[]) (λ(x:Unit)=>gV 1 [0,4,5,6] [] (λi=>[(33,Bo i)]) (λ_=>[]) (λ(i:Bool)=>br i (el c a.2.2 λg=>gd (cD ((IntKind.wrap .i64 (a.1*10))+(IntKind.wrap .i64 (IntKind.wrap .u8 ((g.toNat:Int) - 48))))) (br (decide (a.2.1>=0)) (gd (cD (a.2.1+1)) (f ((IntKind.wrap .i64 (a.1*10))+(IntKind.wrap .i64 (IntKind.wrap .u8 ((g.toNat:Int) - 48))),a.2.1+1))) (f ((IntKind.wrap .i64 (a.1*10))+(IntKind.wrap .i64 (IntKind.wrap .u8 ((g.toNat:Int) - 48))),a.2.1)))) (br (decide (a.2.2>0)) (.ok (0,8)) (el c a.2.2 λo=>br ((o.toNat:Int) !=45) (.ok (0,8)) (f (a.1,a.2.1))))) λl=>el c a.2.2 λp=>br (decide ((p.toNat:Int)>=48)) (el c a.2.2 λq=>l ((decide ((q.toNat:Int)<=57)))) (l false)) λk=>el c a.2.2 λr=>br ((r.toNat:Int)==46) (br (decide (a.2.1<0)) (f (a.1,0)) (k ())) (k ())) (gV 0 [0,4] [] (λj=>[(5,I j)]) (λ_=>[]) (λ(j:Int)=>dG [0] [] (λb=>[(4,I b.1),(5,I b.2)]) (λ_=>[]) (λu (b:Int×Int)=>br (decide (b.2<4)) (br (decide (b.1>1000000000000000)) (.ok (0,8)) (gd (cD (b.2+1)) (u (IntKind.wrap .i64 (b.1*10),b.2+1)))) (gV 0 [0] [] (λe=>[(4,I e)]) (λ_=>[]) (λ(e:Int)=>ag (tK e) λv=>br (!v) (.ok (0,8)) (ag (AG n e) λw=>br (w !=c) (.ok (0,8)) (.ok (e,0)))) λh=>br (decide ((c.length:Int)>0)) (el c 0 λs=>br ((s.toNat:Int)==45) (h (IntKind.wrap .i64 (0 - b.1))) (h b.1)) (h b.1))) n (a.1,j)) λm=>br (decide (a.2.1<0)) (m 0) (m a.2.1))) n (0,(-1),0))
instance Ķ (n:Nat) (p0:ByS):CT Pq 99 [eu p0] [] (nM n p0) (λx=>.lM [I x.1,I x.2]) (λ_=>[]):=by unfold nM;exact zz 0 Tryz.func99
def ly (a:Int):aG (Bool):=
 br (decide (a>=97)) (br (decide (a<=122)) (.ok true) (br (decide (a>=65)) (.ok ((decide (a<=90)))) (.ok false))) (br (decide (a>=65)) (.ok ((decide (a<=90)))) (.ok false))
instance Φ (p0:Int):CT Pq 108 [Sc (.int .u8 p0)] [] (ly p0) (λx=>Bo x) (λ_=>[]):=by unfold ly;exact zz 0 Tryz.func108
end Go.Abs
