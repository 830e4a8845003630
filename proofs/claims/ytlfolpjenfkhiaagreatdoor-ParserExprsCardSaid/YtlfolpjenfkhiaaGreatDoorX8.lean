/- PROVED: lemmas of the proof of: configlanglaw26.ParserExprs returns true for every input. CONDITIONS: as each lemma states. -/
import Derived.Test.YtlfolpjenfkhiaaGreatDoorX7
set_option linter.all false
namespace Go.Abs
open Go.Proofs aG
set_option maxRecDepth 100000
set_option maxHeartbeats 2000000
def cu (c:Int) (a:N):aG (Bool×N):=
 jg 29 (br a.lP (.ok (false,a)) (br (decide (a.At>=a.S.length)) (.ok (false,a)) (el a.S a.At λb=>br ((b.toNat:Int) !=c) (.ok (false,a)) (gd (cD (a.At+1)) (.ok (true,N.mk a.S (a.At+1) a.lP))))))
instance Wg (p0:Int) (p1:N):CT Pq 233 [.ptr 0 0,Sc (.int .u8 p0)] [.box (dh p1)] (cu p0 p1) (λx=>Bo x.1) (λx=>[.box (dh x.2)]):=by unfold cu;exact zz 0 Tryz.func233
def fW (a:N):aG (Bool×N):=
 jg 18 (br (!a.lP) (.ok ((decide (a.At<a.S.length)),a)) (.ok (false,a)))
instance S0 (p0:N):CT Pq 255 [.ptr 0 0] [.box (dh p0)] (fW p0) (λx=>Bo x.1) (λx=>[.box (dh x.2)]):=by unfold fW;exact zz 0 Tryz.func255
def lK (n:Nat) (c:Int) (d:Int):aG (eb):=
 dG [0,1,4,5] [104] (λa=>[(6,I a.2)]) (λa=>[(105,.box (mw a.1))]) (λb (a:eb×Int)=>br (decide (a.2<=d)) (jg 12 (gd ((64:Int)≠0) (gd ((64:Int)≠0) (gd ((0:Int)<=(IntKind.wrap .i64 (Int.tdiv a.2 64))/\(IntKind.wrap .i64 (Int.tdiv a.2 64))<4) (gd ((64:Int)≠0) (gd ((0:Int)<=(Int.tmod a.2 64)) (gd ((0:Int)<=(IntKind.wrap .i64 (Int.tdiv a.2 64))/\(IntKind.wrap .i64 (Int.tdiv a.2 64))<4) (gd (cD (a.2+1)) (b (eb.mk (jx (sy [a.1.x0,a.1.x1,a.1.x2,a.1.x3] (IntKind.wrap .i64 (Int.tdiv a.2 64)) (Cy .u64 (jx [a.1.x0,a.1.x1,a.1.x2,a.1.x3] (IntKind.wrap .i64 (Int.tdiv a.2 64))) (xx .u64 1 (Int.tmod a.2 64)))) 0) (jx (sy [a.1.x0,a.1.x1,a.1.x2,a.1.x3] (IntKind.wrap .i64 (Int.tdiv a.2 64)) (Cy .u64 (jx [a.1.x0,a.1.x1,a.1.x2,a.1.x3] (IntKind.wrap .i64 (Int.tdiv a.2 64))) (xx .u64 1 (Int.tmod a.2 64)))) 1) (jx (sy [a.1.x0,a.1.x1,a.1.x2,a.1.x3] (IntKind.wrap .i64 (Int.tdiv a.2 64)) (Cy .u64 (jx [a.1.x0,a.1.x1,a.1.x2,a.1.x3] (IntKind.wrap .i64 (Int.tdiv a.2 64))) (xx .u64 1 (Int.tmod a.2 64)))) 2) (jx (sy [a.1.x0,a.1.x1,a.1.x2,a.1.x3] (IntKind.wrap .i64 (Int.tdiv a.2 64)) (Cy .u64 (jx [a.1.x0,a.1.x1,a.1.x2,a.1.x3] (IntKind.wrap .i64 (Int.tdiv a.2 64))) (xx .u64 1 (Int.tmod a.2 64)))) 3),a.2+1)))))))))) (.ok a.1)) n (eb.mk 0 0 0 0,c)
instance afr (n:Nat) (p0:Int) (p1:Int):CT Pq 287 [I p0,I p1] [] (lK n p0 p1) (λx=>.agg (mw x)) (λ_=>[]):=by unfold lK;exact zz 0 Tryz.func287
def si (a:Int):aG (Int):=
 gV 2 [0] [] (λb=>[(3,Bo b)]) (λ_=>[]) (λ(b:Bool)=>br b (.ok (IntKind.wrap .i64 (IntKind.wrap .u8 (a - 48)))) (gV 0 [0] [] (λc=>[(13,Bo c)]) (λ_=>[]) (λ(c:Bool)=>br c (gd (cD ((IntKind.wrap .i64 (IntKind.wrap .u8 (a - 97)))+10)) (.ok ((IntKind.wrap .i64 (IntKind.wrap .u8 (a - 97)))+10))) (br (decide (a>=65)) (br (decide (a<=70)) (gd (cD ((IntKind.wrap .i64 (IntKind.wrap .u8 (a - 65)))+10)) (.ok ((IntKind.wrap .i64 (IntKind.wrap .u8 (a - 65)))+10))) (.ok ((-1)))) (.ok ((-1))))) λe=>br (decide (a>=97)) (e ((decide (a<=102)))) (e false))) λd=>br (decide (a>=48)) (d ((decide (a<=57)))) (d false)
instance adj (p0:Int):CT Pq 311 [Sc (.int .u8 p0)] [] (si p0) (λx=>I x) (λ_=>[]):=by unfold si;exact zz 0 Tryz.func311
def lT (h:Int) (s:N):aG (Int×N):=
 gV 2 [0,1] [] (λb=>[(37,Bo b.2)]) (λb=>[(0,.box (dh b.1))]) (λ(b:N×Bool)=>br b.2 (.ok (0,N.mk b.1.S b.1.At true)) (jg 12 (el b.1.S b.1.At λl=>ag (si (l.toNat:Int)) λe=>gd (cD (b.1.At+1)) (gV 2 [0,1,5] [] (λa=>[(91,Bo a.2)]) (λa=>[(0,.box (dh a.1))]) (λ(a:N×Bool)=>br a.2 (.ok (0,N.mk a.1.S a.1.At true)) (gd (cD (a.1.At+1)) (jg 14 (gd (cD ((a.1.At+1) - 1)) (el a.1.S ((a.1.At+1) - 1) λm=>ag (si (m.toNat:Int)) λi=>gd (cD ((IntKind.wrap .i64 (e*16))+i)) (.ok ((IntKind.wrap .i64 (e*16))+i,N.mk a.1.S (a.1.At+1) a.1.lP))))))) λf=>uD [0,1,2,3,4,5,6,7,8,9,10,11,12,13,14,15,16,17,18,19,20,21,22,23,24,25,26,29,27,28,30,31] (ag (fW (N.mk b.1.S (b.1.At+1) b.1.lP)) λc=>br (!c.1) (f (c.2,true)) (el c.2.S c.2.At λo=>ag (si (o.toNat:Int)) λt=>br (decide (t<0)) (f (c.2,true)) (el c.2.S c.2.At λp=>ag (si (p.toNat:Int)) λj=>gd (cD ((IntKind.wrap .i64 (e*16))+j)) (f (c.2,(decide (((IntKind.wrap .i64 (e*16))+j)<h))))))))))) λg=>uD [0,1,2,3,4,5,6,7,8,9,10,11,12,13,14,15,16,17,18,19,20,21,22,23,24,25,29,26,27,28,30,31] (ag (fW s) λd=>br (!d.1) (g (d.2,true)) (el d.2.S d.2.At λq=>ag (si (q.toNat:Int)) λu=>br (decide (u<0)) (g (d.2,true)) (el d.2.S d.2.At λr=>ag (si (r.toNat:Int)) λk=>gd (cD ((IntKind.wrap .i64 (k*16))+15)) (g (d.2,(decide (((IntKind.wrap .i64 (k*16))+15)<h)))))))
instance PY (p0:Int) (p1:N):CT Pq 300 [.ptr 0 0,I p0] [.box (dh p1)] (lT p0 p1) (λx=>I x.1) (λx=>[.box (dh x.2)]):=by unfold lT;exact zz 0 Tryz.func300
def sj (n:Nat) (d:eb) (b:eb):aG (eb):=
 dG [0,1,2,3,4] [103,104] (λa=>[(5,I a.2)]) (λa=>[(102,.box (mw a.1))]) (λc (a:eb×Int)=>br (decide (a.2<4)) (jg 10 (gd ((0:Int)<=a.2/\a.2<4) (gd ((0:Int)<=a.2/\a.2<4) (gd ((0:Int)<=a.2/\a.2<4) (gd (cD (a.2+1)) (c (eb.mk (jx (sy [a.1.x0,a.1.x1,a.1.x2,a.1.x3] a.2 (Cy .u64 (jx [a.1.x0,a.1.x1,a.1.x2,a.1.x3] a.2) (jx [b.x0,b.x1,b.x2,b.x3] a.2))) 0) (jx (sy [a.1.x0,a.1.x1,a.1.x2,a.1.x3] a.2 (Cy .u64 (jx [a.1.x0,a.1.x1,a.1.x2,a.1.x3] a.2) (jx [b.x0,b.x1,b.x2,b.x3] a.2))) 1) (jx (sy [a.1.x0,a.1.x1,a.1.x2,a.1.x3] a.2 (Cy .u64 (jx [a.1.x0,a.1.x1,a.1.x2,a.1.x3] a.2) (jx [b.x0,b.x1,b.x2,b.x3] a.2))) 2) (jx (sy [a.1.x0,a.1.x1,a.1.x2,a.1.x3] a.2 (Cy .u64 (jx [a.1.x0,a.1.x1,a.1.x2,a.1.x3] a.2) (jx [b.x0,b.x1,b.x2,b.x3] a.2))) 3),a.2+1))))))) (.ok a.1)) n (d,0)
instance afs (n:Nat) (p0:eb) (p1:eb):CT Pq 304 [.agg (mw p0),.agg (mw p1)] [] (sj n p0 p1) (λx=>.agg (mw x)) (λ_=>[]):=by unfold sj;exact zz 0 Tryz.func304
def yb (n:Nat) (a:Int):aG (eb×Bool):=
 br (a==100) (ag (lK n 48 57) λo=>.ok (o,true)) (br (a==119) (ag (lK n 48 57) λb=>ag (lK n 97 122) λc=>ag (sj n b c) λd=>ag (lK n 65 90) λe=>ag (lK n 95 95) λf=>ag (sj n e f) λg=>ag (sj n d g) λh=>.ok (h,true)) (br (a==115) (ag (lK n 32 32) λi=>ag (lK n 9 10) λj=>ag (sj n i j) λk=>ag (lK n 13 13) λl=>ag (sj n k l) λm=>.ok (m,true)) (.ok (eb.mk 0 0 0 0,false))))
instance Ł (n:Nat) (p0:Int):CT Pq 301 [Sc (.int .u8 p0)] [] (yb n p0) (λx=>.lM [.agg (mw x.1),Bo x.2]) (λ_=>[]):=by unfold yb;exact zz 0 Tryz.func301
def qc (a:Int):aG (Int):=
 br (a==110) (.ok 10) (br (a==116) (.ok 9) (br (a==114) (.ok 13) (.ok ((-1)))))
instance YM (p0:Int):CT Pq 302 [Sc (.int .u8 p0)] [] (qc p0) (λx=>I x) (λ_=>[]):=by unfold qc;exact zz 0 Tryz.func302
def ln (n:Nat) (d:Int):aG (Bool):=
 dG [0,3] [] (λa=>[(4,I a)]) (λ_=>[]) (λc (a:Int)=>br (decide (a<(List.length ([40,41,91,93,123,125,124,42,43,63,46,92]:ByS):Int))) (el ([40,41,91,93,123,125,124,42,43,63,46,92]:ByS) a λb=>br ((b.toNat:Int)==d) (.ok true) (gd (cD (a+1)) (c (a+1)))) (.ok false)) n 0
instance YN (n:Nat) (p0:Int):CT Pq 289 [Sc (.int .u8 p0)] [] (ln n p0) (λx=>Bo x) (λ_=>[]):=by unfold ln;exact zz 0 Tryz.func289
def lU (n:Nat) (o:N):aG (bh×N):=
 ag (cu 120 o) λh=>br h.1 (ag (lT 0 h.2) λj=>ag (lK n j.1 j.1) λe=>.ok (bh.mk 2 e.x0 e.x1 e.x2 e.x3 [],j.2)) (ag (fW h.2) λa=>br a.1 (jg 10 (el a.2.S a.2.At λc=>ag (yb n (c.toNat:Int)) λm=>gV 0 [0,2,4,5] [0,102] (λd=>[(6,Bo d.2)]) (λd=>[(105,.box (mw d.1))]) (λ(d:eb×Bool)=>gV 0 [0,2,5] [0,102] (λb=>[(6,Bo b.2)]) (λb=>[(105,.box (mw b.1))]) (λ(b:eb×Bool)=>br b.2 (gd (cD (a.2.At+1)) (.ok (bh.mk 2 b.1.x0 b.1.x1 b.1.x2 b.1.x3 [],N.mk a.2.S (a.2.At+1) a.2.lP))) (.ok (bh.mk 0 0 0 0 0 [],N.mk a.2.S a.2.At true))) λl=>gV 0 [0,2,4,5,6] [0,102,105] (λg=>[(48,Bo g)]) (λ_=>[]) (λ(g:Bool)=>br g (ag (lK n (IntKind.wrap .i64 (c.toNat:Int)) (IntKind.wrap .i64 (c.toNat:Int))) λp=>l (p,true)) (l (d.1,d.2))) λf=>ag (ln n (c.toNat:Int)) λq=>br q (f true) (br ((c.toNat:Int)==94) (f true) (f (((c.toNat:Int)==45))))) λk=>ag (qc (c.toNat:Int)) λi=>br (decide (i>=0)) (ag (lK n i i) λr=>k (r,true)) (k (m.1,m.2)))) (.ok (bh.mk 0 0 0 0 0 [],N.mk a.2.S a.2.At true)))
instance PZ (n:Nat) (p0:N):CT Pq 286 [.ptr 0 0] [.box (dh p0)] (lU n p0) (λx=>.agg (kK x.1)) (λx=>[.box (dh x.2)]):=by unfold lU;exact zz 1 Tryz.func286
def me (n:Nat) (h:Int) (m:N):aG (Int×N):=
 ag (cu 92 m) λj=>br j.1 (ag (cu 120 j.2) λk=>br k.1 (ag (lT h k.2) λl=>.ok (l.1,l.2)) (ag (fW k.2) λa=>br a.1 (jg 10 (el a.2.S a.2.At λc=>ag (qc (c.toNat:Int)) λo=>gV 0 [0,1] [0] (λg=>[(6,I g)]) (λ_=>[]) (λ(g:Int)=>br (decide (g>=h)) (gd (cD (a.2.At+1)) (.ok (g,N.mk a.2.S (a.2.At+1) a.2.lP))) (.ok (0,N.mk a.2.S a.2.At true))) λf=>ag (ln n (c.toNat:Int)) λp=>br p (f (IntKind.wrap .i64 (c.toNat:Int))) (br ((c.toNat:Int)==94) (f (IntKind.wrap .i64 (c.toNat:Int))) (br ((c.toNat:Int)==45) (f (IntKind.wrap .i64 (c.toNat:Int))) (f o))))) (.ok (0,N.mk a.2.S a.2.At true)))) (ag (fW j.2) λb=>br (!b.1) (.ok (0,N.mk b.2.S b.2.At true)) (jg 10 (el b.2.S b.2.At λd=>gV 1 [0,1,7] [0] (λi=>[(93,Bo i)]) (λ_=>[]) (λ(i:Bool)=>br i (.ok (0,N.mk b.2.S b.2.At true)) (gd (cD (b.2.At+1)) (.ok (IntKind.wrap .i64 (d.toNat:Int),N.mk b.2.S (b.2.At+1) b.2.lP)))) λe=>br (decide ((d.toNat:Int)<32)) (e true) (br (decide ((d.toNat:Int)>126)) (e true) (ag (ln n (d.toNat:Int)) λq=>br q (e true) (br ((d.toNat:Int)==94) (e true) (br ((d.toNat:Int)==45) (e true) (e ((decide ((IntKind.wrap .i64 (d.toNat:Int))<h)))))))))))
instance S1 (n:Nat) (p0:Int) (p1:N):CT Pq 303 [.ptr 0 0,I p0] [.box (dh p1)] (me n p0 p1) (λx=>I x.1) (λx=>[.box (dh x.2)]):=by unfold me;exact zz 0 Tryz.func303
def z7 (n:Nat) (c:eb):aG (eb):=
 dG [0,1,2] [102] (λa=>[(3,I a.2)]) (λa=>[(101,.box (mw a.1))]) (λb (a:eb×Int)=>br (decide (a.2<4)) (gd ((0:Int)<=a.2/\a.2<4) (gd ((0:Int)<=a.2/\a.2<4) (gd (cD (a.2+1)) (b (eb.mk (jx (sy [a.1.x0,a.1.x1,a.1.x2,a.1.x3] a.2 (L0 .u64 (jx [a.1.x0,a.1.x1,a.1.x2,a.1.x3] a.2))) 0) (jx (sy [a.1.x0,a.1.x1,a.1.x2,a.1.x3] a.2 (L0 .u64 (jx [a.1.x0,a.1.x1,a.1.x2,a.1.x3] a.2))) 1) (jx (sy [a.1.x0,a.1.x1,a.1.x2,a.1.x3] a.2 (L0 .u64 (jx [a.1.x0,a.1.x1,a.1.x2,a.1.x3] a.2))) 2) (jx (sy [a.1.x0,a.1.x1,a.1.x2,a.1.x3] a.2 (L0 .u64 (jx [a.1.x0,a.1.x1,a.1.x2,a.1.x3] a.2))) 3),a.2+1))))) (.ok a.1)) n (c,0)
instance adk (n:Nat) (p0:eb):CT Pq 305 [.agg (mw p0)] [] (z7 n p0) (λx=>.agg (mw x)) (λ_=>[]):=by unfold z7;exact zz 0 Tryz.func305
def so (n:Nat) (q:N):aG (bh×N):=
 ag (cu 93 q) λh=>br h.1 (.ok (bh.mk 0 0 0 0 0 [],h.2)) (ag (cu 94 h.2) λp=>gV 1 [0,2,3,4] [102] (λ_=>[]) (λa=>[(0,.box (dh a.1)),(104,.box (mw a.2))]) (λ(a:N×eb)=>br p.1 (ag (z7 n a.2) λd=>.ok (bh.mk 2 d.x0 d.x1 d.x2 d.x3 [],a.1)) (.ok (bh.mk 2 a.2.x0 a.2.x1 a.2.x2 a.2.x3 [],a.1))) λf=>dG [0,2,3,4] [102] (λ_=>[]) (λb=>[(0,.box (dh b.1)),(104,.box (mw b.2))]) (λl (b:N×eb)=>br (!b.1.lP) (ag (me n 0 b.1) λe=>gV 1 [0,2,3,4,5] [102,104] (λc=>[(6,I c.2)]) (λc=>[(0,.box (dh c.1))]) (λ(c:N×Int)=>br (!c.1.lP) (jg 6 (ag (lK n e.1 c.2) λr=>ag (sj n b.2 r) λm=>ag (cu 93 c.1) λg=>br g.1 (f (g.2,m)) (l (g.2,m)))) (ag (cu 93 c.1) λi=>br i.1 (f (i.2,b.2)) (l (i.2,b.2)))) λk=>ag (cu 45 e.2) λj=>br j.1 (ag (me n e.1 j.2) λo=>k (o.2,o.1)) (k (j.2,e.1))) (f (b.1,b.2))) n (p.2,eb.mk 0 0 0 0))
instance TR (n:Nat) (p0:N):CT Pq 288 [.ptr 0 0] [.box (dh p0)] (so n p0) (λx=>.agg (kK x.1)) (λx=>[.box (dh x.2)]):=by unfold so;exact zz 1 Tryz.func288
def jP (b:Int) (a:(List bh)):aG (bh):=
 br ((a.length:Int)==1) (el a 0 λc=>.ok c) (.ok ((bh.mk b 0 0 0 0 a)))
instance Â (p0:Int) (p1:(List bh)):CT Pq 234 [I p0,ω p1] [] (jP p0 p1) (λx=>.agg (kK x)) (λ_=>[]):=by unfold jP;exact zz 0 Tryz.func234
structure dL where
 eK:N->aG (bh×N)
 kA:N->aG (bh×N)
 fJ:N->aG (bh×N)
 fC:N->aG (bh×N)
def kB (n:Nat) (d:dL) (g:N):aG (bh×N):=
 ag (d.fC g) λe=>oz [[20,6]] (jU [[1,106,10003],[0,2,3],[0,102]] (dG [0,2] [102] (λa=>[(3,.arr 10003 a.2.length)]) (λa=>[(0,.box (dh a.1)),(10003,.app 156 6 (bh.Cs a.2))]) (λf (a:N×(List bh))=>ag (cu 124 a.1) λb=>br b.1 (ag (d.fC b.2) λc=>gd (ob 64 a.2.length (List.length [c.1])) (jU [[1,113,10003],[0,2,3],[0,102]] (f (c.2,a.2++[c.1])))) (oz [[22,14]] (ag (jP 4 a.2) λh=>.ok (h,b.2)))) n (e.2,[e.1])))
def pH (n:Nat) (q:dL) (u:N):aG (bh×N):=
 ag (cu 92 u) λk=>br k.1 (ag (lU n k.2) λp=>.ok (p.1,p.2)) (ag (cu 46 k.2) λl=>br l.1 (ag (lK n 0 255) λd=>.ok (bh.mk 2 d.x0 d.x1 d.x2 d.x3 [],l.2)) (ag (cu 91 l.2) λg=>br g.1 (ag (so n g.2) λo=>.ok (o.1,o.2)) (ag (cu 40 g.2) λh=>br h.1 (ag (cu 41 h.2) λi=>br i.1 (.ok (bh.mk 1 0 0 0 0 [],i.2)) (ag (q.eK i.2) λj=>ag (cu 41 j.2) λe=>br (!e.1) (.ok (j.1,N.mk e.2.S e.2.At true)) (.ok (j.1,e.2)))) (gV 1 [0,2] [102] (λa=>[(73,Bo a.2)]) (λa=>[(0,.box (dh a.1))]) (λ(a:N×Bool)=>br a.2 (.ok (bh.mk 0 0 0 0 0 [],N.mk a.1.S a.1.At true)) (gd (cD (a.1.At+1)) (jg 12 (gd (cD ((a.1.At+1) - 1)) (el a.1.S ((a.1.At+1) - 1) λm=>ag (lK n (IntKind.wrap .i64 (m.toNat:Int)) (IntKind.wrap .i64 (m.toNat:Int))) λf=>.ok (bh.mk 2 f.x0 f.x1 f.x2 f.x3 [],N.mk a.1.S (a.1.At+1) a.1.lP)))))) λc=>jg 39 (ag (fW h.2) λb=>br (!b.1) (c (b.2,true)) (el b.2.S b.2.At λr=>br (decide ((r.toNat:Int)<32)) (c (b.2,true)) (el b.2.S b.2.At λs=>br (decide ((s.toNat:Int)>126)) (c (b.2,true)) (el b.2.S b.2.At λt=>ag (ln n (t.toNat:Int)) λv=>c (b.2,v)))))))))
def oJ (n:Nat) (g:dL) (h:N):aG (bh×N):=
 ag (g.kA h) λf=>dG [0,2,3] [102] (λ_=>[]) (λa=>[(0,.box (dh a.1)),(103,.box (kK a.2))]) (λb (a:N×bh)=>br (!a.1.lP) (ag (cu 42 a.1) λc=>br c.1 (b (c.2,bh.mk 5 0 0 0 0 [a.2])) (ag (cu 43 c.2) λd=>br d.1 (b (d.2,bh.mk 3 0 0 0 0 [a.2,bh.mk 5 0 0 0 0 [a.2]])) (ag (cu 63 d.2) λe=>br e.1 (b (e.2,bh.mk 4 0 0 0 0 [a.2,bh.mk 1 0 0 0 0 []])) (.ok (a.2,e.2))))) (.ok (a.2,a.1))) n (f.2,f.1)
def mW (n:Nat) (d:dL) (i:N):aG (bh×N):=
 ag (d.fJ i) λe=>oz [[20,6]] (jU [[1,106,10003],[0,2,3],[0,102]] (dG [0,2] [102] (λa=>[(3,.arr 10003 a.2.length)]) (λa=>[(0,.box (dh a.1)),(10003,.app 156 6 (bh.Cs a.2))]) (λh (a:N×(List bh))=>jg 26 (ag (fW a.1) λb=>br b.1 (el b.2.S b.2.At λf=>br ((f.toNat:Int) !=124) (el b.2.S b.2.At λg=>br ((g.toNat:Int) !=41) (ag (d.fJ b.2) λc=>gd (ob 64 a.2.length (List.length [c.1])) (jU [[1,137,10003],[0,2,3],[0,102]] (h (c.2,a.2++[c.1])))) (oz [[22,38]] (ag (jP 3 a.2) λj=>.ok (j,b.2)))) (oz [[22,38]] (ag (jP 3 a.2) λk=>.ok (k,b.2)))) (oz [[22,38]] (ag (jP 3 a.2) λl=>.ok (l,b.2))))) n (e.2,[e.1])))
def ct:Nat->dL
 | 0=>⟨λ_=>.stuck,λ_=>.stuck,λ_=>.stuck,λ_=>.stuck⟩
 | n+1=>⟨kB n (ct n),pH n (ct n),oJ n (ct n),mW n (ct n)⟩
abbrev eK (n:Nat):=(ct n).eK
abbrev kA (n:Nat):=(ct n).kA
abbrev fJ (n:Nat):=(ct n).fJ
abbrev fC (n:Nat):=(ct n).fC
abbrev ti (f:N->aG (bh×N)):Prop:=∀ p0,CT Pq 204 [.ptr 0 0] [.box (dh p0)] (f p0) (λx=>.agg (kK x.1)) (λx=>[.box (dh x.2)])
abbrev yS (f:N->aG (bh×N)):Prop:=∀ p0,CT Pq 268 [.ptr 0 0] [.box (dh p0)] (f p0) (λx=>.agg (kK x.1)) (λx=>[.box (dh x.2)])
abbrev yd (f:N->aG (bh×N)):Prop:=∀ p0,CT Pq 254 [.ptr 0 0] [.box (dh p0)] (f p0) (λx=>.agg (kK x.1)) (λx=>[.box (dh x.2)])
abbrev vI (f:N->aG (bh×N)):Prop:=∀ p0,CT Pq 232 [.ptr 0 0] [.box (dh p0)] (f p0) (λx=>.agg (kK x.1)) (λx=>[.box (dh x.2)])
class eh (T:dL):Prop where
 eK:ti T.eK
 kA:yS T.kA
 fJ:yd T.fJ
 fC:vI T.fC
attribute [instance] eh.eK eh.kA eh.fJ eh.fC
theorem yD (n:Nat) (T:dL) [hT:eh T]:ti (kB n T):=λp0=>by unfold kB;exact zz 0 Tryz.func204
theorem EA (n:Nat) (T:dL) [hT:eh T]:yS (pH n T):=λp0=>by unfold pH;exact zz 1 Tryz.func268
theorem DJ (n:Nat) (T:dL) [hT:eh T]:yd (oJ n T):=λp0=>by unfold oJ;exact zz 1 Tryz.func254
theorem BK (n:Nat) (T:dL) [hT:eh T]:vI (mW n T):=λp0=>by unfold mW;exact zz 0 Tryz.func232
theorem qI:∀ n,eh (ct n)
 | 0=>by constructor<;>(repeat intro)<;>exact rh
 | n+1=>have:=qI n;⟨yD n _,EA n _,DJ n _,BK n _⟩
attribute [instance] qI
def la (n:Nat) (b:ByS):aG (bh×cZ):=
 br (decide ((b.length:Int)>1000)) (.ok (bh.mk 0 0 0 0 0 [],cZ.mk 2 0)) (ag (eK n (N.mk b 0 false)) λa=>br a.2.lP (jg 8 (.ok (bh.mk 0 0 0 0 0 [],cZ.mk 8 a.2.At))) (br (decide (a.2.At<b.length)) (jg 8 (.ok (bh.mk 0 0 0 0 0 [],cZ.mk 8 a.2.At))) (ag (Bm n a.1) λc=>br (c==9) (.ok (bh.mk 0 0 0 0 0 [],cZ.mk 9 0)) (.ok (a.1,cZ.mk 0 0)))))
instance ł (n:Nat) (p0:ByS):CT Pq 162 [eu p0] [] (la n p0) (λx=>.lM [.agg (kK x.1),.agg [I x.2.dX,I x.2.At]]) (λ_=>[]):=by unfold la;exact zz 1 Tryz.func162
def vJ (n:Nat) (a:aK):aG (Bool):=
 br (decide (a.an<1)) (.ok false) (br (decide (a.an>8)) (.ok false) (ag (sF n a.oO) λo=>br o (.ok false) (ag (sF n [a.iG]) λi=>br i (.ok false) (ag (sF n a.J) λj=>br j (.ok false) (gV 1 [0,1] [101] (λe=>[(3,I e)]) (λ_=>[]) (λ(e:Int)=>gV 0 [0,1] [101] (λf=>[(3,I f)]) (λ_=>[]) (λ(f:Int)=>gV 0 [0,1] [101] (λ_=>[]) (λ_=>[]) (λ(p:Unit)=>gV 0 [0,1] [101] (λ_=>[]) (λ_=>[]) (λ(q:Unit)=>gV 0 [0,1] [101] (λ_=>[]) (λ_=>[]) (λ(r:Unit)=>br (a.an==1) (.ok true) (br (a.an==2) (ag (la n a.jb) λk=>.ok ((k.2.dX==0))) (br (a.an==4) (ag (fu n a.jb) λl=>.ok l) (.ok ((a.jb==([]:ByS))))))) λc=>br (a.an==6) (ag (vH n (ma.mk a.B a.bE)) λm=>br (!m) (.ok false) (br (a.an !=6) (br (a.B !=([]:ByS)) (.ok false) (br (a.bE !=([]:ByS)) (.ok false) (c ()))) (c ()))) (br (a.an !=6) (br (a.B !=([]:ByS)) (.ok false) (br (a.bE !=([]:ByS)) (.ok false) (c ()))) (c ()))) λd=>br (a.an !=5) (br (a.an !=6) (br (decide ((a.jf.length:Int)>0)) (.ok false) (br (decide ((a.J.length:Int)>0)) (.ok false) (d ()))) (d ())) (d ())) λb=>br ((a.bF.length:Int) !=f) (.ok false) (br (a.an==1) (br (decide (a.cS<1)) (.ok false) (br (decide (a.cS>3)) (.ok false) (br (a.an !=1) (br (a.cS !=0) (.ok false) (b ())) (b ())))) (br (a.an !=1) (br (a.cS !=0) (.ok false) (b ())) (b ())))) λh=>br (a.an==8) (h 0) (h e)) λg=>br (a.an==7) (g 2) (g 1))))))
instance Ń (n:Nat) (p0:aK):CT Pq 110 [.agg (qo p0)] [] (vJ n p0) (λx=>Bo x) (λ_=>[]):=by unfold vJ;exact zz 0 Tryz.func110
end Go.Abs
