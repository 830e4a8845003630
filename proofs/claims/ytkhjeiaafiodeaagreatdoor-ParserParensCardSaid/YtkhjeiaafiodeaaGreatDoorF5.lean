/- PROVED: lemmas of a proof that ParserParens returns true. CONDITIONS: as each states. -/
import Derived.Test.YtkhjeiaafiodeaaGreatDoorF4
section
namespace Go.Abs
open Go.Proofs D
structure dO where
 dR:o→Bool→Int→al→D (al)
 bY:(List o)→Bool→Int→al→D (al)
 aM:aj→aO→al→D (al)
def fb (n:Nat) (T:dO) (p0:o) (p1:Bool) (p2:Int) (p3:al):D (al):=
 jn (fun (v2:al)=>jn (fun (v5:Bool)=>jn (fun (v8:al)=>jn (fun (v11:al)=>jn (fun (v14:al)=>jn (fun (v17:al)=>jn (fun (v20:al)=>jn (fun (v24:Int)=>D.bind (aC n [((List.length p0.bf:Int)==v24)] v20) fun y28=>jn (fun (v29:Bool)=>iter (fun next35 (v34:al×Int)=>br (decide (v34.2<(List.length p0.bf:Int))) (el p0.bf v34.2 fun x42=>br p1 (br v29 (D.bind (T.aM x42 (aO.mk (v34.2==0) false false (IntKind.wrap .i64 (p2+1))) v34.1) fun y48=>gd (bK (v34.2+1)) (next35 (y48,v34.2+1))) (D.bind (T.aM x42 (aO.mk false false false (IntKind.wrap .i64 (p2+1))) v34.1) fun y50=>gd (bK (v34.2+1)) (next35 (y50,v34.2+1)))) (D.bind (T.aM x42 (aO.mk false false false (IntKind.wrap .i64 (p2+1))) v34.1) fun y52=>gd (bK (v34.2+1)) (next35 (y52,v34.2+1)))) (D.bind (T.bY p0.Body false (IntKind.wrap .i64 (p2+1)) v34.1) fun y54=>.ok (y54))) n (y28,0)) fun j30=>br (p0.Kind==1) (j30 (true)) (br (p0.Kind==2) (j30 (true)) (br (p0.Kind==3) (j30 (true)) (j30 ((p0.Kind==4)))))) fun j25=>br (p0.Kind==7) (j25 (2)) (br (p0.Kind==8) (j25 (0)) (j25 (1)))) fun j21=>br (p0.Kind==6) (D.bind (kJ n (gz.mk p0.bt p0.bz)) fun y65=>D.bind (aC n [y65] v17) fun y66=>j21 (y66)) (D.bind (mC (gz.mk p0.bt p0.bz)) fun y67=>D.bind (aC n [y67] v17) fun y68=>j21 (y68))) fun j18=>br (p0.Kind==1) (j18 (v14)) (br (p0.Kind==2) (D.bind (mw n p0.Label) fun y75=>D.bind (aC n [(y75.2.Errno==0)] v14) fun y76=>j18 (y76)) (br (p0.Kind==4) (D.bind (fS n p0.Label) fun y79=>D.bind (aC n [p1,y79] v14) fun y80=>j18 (y80)) (br p1 (D.bind (aC n [(p0.Label==([]:List UInt8)),true] v14) fun y82=>j18 (y82)) (D.bind (aC n [(p0.Label==([]:List UInt8)),(p0.Kind !=8)] v14) fun y83=>j18 (y83)))))) fun j15=>br (p0.Kind==1) (br (decide (p0.cG≥1)) (D.bind (aC n [(decide (p0.cG≤3))] v11) fun y88=>j15 (y88)) (D.bind (aC n [false] v11) fun y89=>j15 (y89))) (D.bind (aC n [(p0.cG==0)] v11) fun y90=>j15 (y90))) fun j12=>D.bind (gK n p0.jy) fun y91=>D.bind (gK n p0.cz) fun y92=>D.bind (gK n [p0.Trail]) fun y93=>br v5 (D.bind (aC n [y91,y92,y93,true] v8) fun y95=>j12 (y95)) (gd (bK ((List.length p0.Body:Int)+(List.length p0.cz:Int))) (D.bind (aC n [y91,y92,y93,(((List.length p0.Body:Int)+(List.length p0.cz:Int))==0)] v8) fun y97=>j12 (y97)))) fun j9=>br (decide (p0.Kind≥1)) (D.bind (aC n [(decide (p0.Kind≤8))] v2) fun y99=>j9 (y99)) (D.bind (aC n [false] v2) fun y100=>j9 (y100))) fun j6=>br (p0.Kind==5) (j6 (true)) (j6 ((p0.Kind==6)))) fun j3=>br (decide (p2>16)) (j3 ((al.mk p3.wJ true))) (j3 (p3))
def eR (n:Nat) (T:dO) (p0:(List o)) (p1:Bool) (p2:Int) (p3:al):D (al):=
 iter (fun next3 (v2:al×Int)=>br (decide (v2.2<(List.length p0:Int))) (el p0 v2.2 fun Ga=>D.bind (T.dR Ga p1 p2 v2.1) fun y14=>gd (bK (v2.2+1)) (next3 (y14,v2.2+1))) (.ok (v2.1))) n (p3,0)
def fc (n:Nat) (T:dO) (p0:aj) (p1:aO) (p2:al):D (al):=
 jn (fun (v2:al)=>D.bind (fQ n p0 p1 v2) fun y6=>iter (fun next10 (v9:al×Int)=>br (decide (v9.2<(List.length p0.bf:Int))) (jn (fun (v15:al)=>gd (bK (v9.2+1)) (next10 (v15,v9.2+1))) fun j16=>el p0.bf v9.2 fun x20=>br (p0.Kind==16) (br p1.lh (br (p0.Kind==14) (br (p0.jv==0) (D.bind (T.aM x20 (aO.mk true (p0.Kind==17) true (IntKind.wrap .i64 (p1.level+1))) v9.1) fun y28=>j16 (y28)) (gd (bK (v9.2+1)) (D.bind (T.aM x20 (aO.mk true (p0.Kind==17) (decide ((v9.2+1)<(List.length p0.bf:Int))) (IntKind.wrap .i64 (p1.level+1))) v9.1) fun y30=>j16 (y30)))) (D.bind (T.aM x20 (aO.mk true (p0.Kind==17) false (IntKind.wrap .i64 (p1.level+1))) v9.1) fun y31=>j16 (y31))) (br (p0.Kind==14) (br (p0.jv==0) (D.bind (T.aM x20 (aO.mk (p0.Kind==10) (p0.Kind==17) true (IntKind.wrap .i64 (p1.level+1))) v9.1) fun y34=>j16 (y34)) (gd (bK (v9.2+1)) (D.bind (T.aM x20 (aO.mk (p0.Kind==10) (p0.Kind==17) (decide ((v9.2+1)<(List.length p0.bf:Int))) (IntKind.wrap .i64 (p1.level+1))) v9.1) fun y36=>j16 (y36)))) (D.bind (T.aM x20 (aO.mk (p0.Kind==10) (p0.Kind==17) false (IntKind.wrap .i64 (p1.level+1))) v9.1) fun y37=>j16 (y37)))) (br (p0.Kind==14) (br (p0.jv==0) (D.bind (T.aM x20 (aO.mk (p0.Kind==10) (p0.Kind==17) true (IntKind.wrap .i64 (p1.level+1))) v9.1) fun y40=>j16 (y40)) (gd (bK (v9.2+1)) (D.bind (T.aM x20 (aO.mk (p0.Kind==10) (p0.Kind==17) (decide ((v9.2+1)<(List.length p0.bf:Int))) (IntKind.wrap .i64 (p1.level+1))) v9.1) fun y42=>j16 (y42)))) (D.bind (T.aM x20 (aO.mk (p0.Kind==10) (p0.Kind==17) false (IntKind.wrap .i64 (p1.level+1))) v9.1) fun y43=>j16 (y43)))) (D.bind (T.bY p0.Decls (p0.Kind==13) (IntKind.wrap .i64 (p1.level+1)) v9.1) fun y44=>.ok (y44))) n (y6,0)) fun j3=>br (decide (p1.level>16)) (j3 ((al.mk p2.wJ true))) (j3 (p2))
def aU:Nat→dO
 | 0=>⟨fun _ _ _ _=>.stuck,fun _ _ _ _=>.stuck,fun _ _ _=>.stuck⟩
 | n+1=>⟨fb n (aU n),eR n (aU n),fc n (aU n)⟩
def dR (n:Nat) (p0:o) (p1:Bool) (p2:Int) (p3:al):D (al):=(aU n).dR p0 p1 p2 p3
def bY (n:Nat) (p0:(List o)) (p1:Bool) (p2:Int) (p3:al):D (al):=(aU n).bY p0 p1 p2 p3
def aM (n:Nat) (p0:aj) (p1:aO) (p2:al):D (al):=(aU n).aM p0 p1 p2
structure gB (T:dO):Prop where
 dR:∀ (p0:o) (p1:Bool) (p2:Int) (p3:al),CT Tryz.prog 113 [.ptr 0 0,.agg (dE p0),Bo p1,I p2] [.box (aH p3)] (T.dR p0 p1 p2 p3) (fun _=>.fX []) (fun x=>[.box (aH x)])
 bY:∀ (p0:(List o)) (p1:Bool) (p2:Int) (p3:al),CT Tryz.prog 64 [.ptr 0 0,.pv (.sl (List.length p0) (o.Cs p0)),Bo p1,I p2] [.box (aH p3)] (T.bY p0 p1 p2 p3) (fun _=>.fX []) (fun x=>[.box (aH x)])
 aM:∀ (p0:aj) (p1:aO) (p2:al),CT Tryz.prog 78 [.ptr 0 0,.agg (be p0),.agg (bN p1)] [.box (aH p2)] (T.aM p0 p1 p2) (fun _=>.fX []) (fun x=>[.box (aH x)])
theorem qi (n:Nat) (T:dO) (hT:gB T) (p0:o) (p1:Bool) (p2:Int) (p3:al):CT Tryz.prog 113 [.ptr 0 0,.agg (dE p0),Bo p1,I p2] [.box (aH p3)] (fb n T p0 p1 p2 p3) (fun _=>.fX []) (fun x=>[.box (aH x)]):=by
 refine zC Tryz.func113 O fun r hp h hr E hE=>B fun _ hK1=>A (eg 105 (hE _ O) ⟨O,O,O,O,O,O,O⟩ O ?_)
 refine zQ hK1 (zM h (fun (v2:al)=>[(0,.ptr 0 0),(1,.agg (dE p0)),(2,Bo p1),(3,I p2),(5,.ptr 105 0)]) (fun (v2:al)=>[(0,.box (aH v2)),(105,.box (dE p0))]) (fun v2 h=>?_) fun _ _ hK4 h=>?_)
 · refine zM h (fun (v5:Bool)=>[(0,.ptr 0 0),(1,.agg (dE p0)),(2,Bo p1),(3,I p2),(5,.ptr 105 0),(8,Bo v5)]) (fun (v5:Bool)=>[(0,.box (aH v2)),(105,.box (dE p0))]) (fun v5 h=>?_) fun _ _ hK7 h=>?_
   · refine zM h (fun (v8:al)=>[(0,.ptr 0 0),(1,.agg (dE p0)),(2,Bo p1),(3,I p2),(5,.ptr 105 0),(8,Bo v5)]) (fun (v8:al)=>[(0,.box (aH v8)),(105,.box (dE p0))]) (fun v8 h=>?_) fun _ _ hK10 h=>?_
     · refine zM h (fun (v11:al)=>[(0,.ptr 0 0),(1,.agg (dE p0)),(2,Bo p1),(3,I p2),(5,.ptr 105 0)]) (fun (v11:al)=>[(0,.box (aH v11)),(105,.box (dE p0))]) (fun v11 h=>?_) fun _ _ hK13 h=>?_
       · refine zM h (fun (v14:al)=>[(0,.ptr 0 0),(1,.agg (dE p0)),(2,Bo p1),(3,I p2),(5,.ptr 105 0)]) (fun (v14:al)=>[(0,.box (aH v14)),(105,.box (dE p0))]) (fun v14 h=>?_) fun _ _ hK16 h=>?_
         · refine zM h (fun (v17:al)=>[(0,.ptr 0 0),(1,.agg (dE p0)),(2,Bo p1),(3,I p2),(5,.ptr 105 0)]) (fun (v17:al)=>[(0,.box (aH v17)),(105,.box (dE p0))]) (fun v17 h=>?_) fun _ _ hK19 h=>?_
           · refine zM h (fun (v20:al)=>[(0,.ptr 0 0),(1,.agg (dE p0)),(2,Bo p1),(3,I p2),(5,.ptr 105 0)]) (fun (v20:al)=>[(0,.box (aH v20)),(105,.box (dE p0))]) (fun v20 h=>?_) fun _ _ hK22 h=>?_
             · refine B fun _ hK23=>A (za O (zQ hK23 (zM h (fun (v24:Int)=>[(0,.ptr 0 0),(1,.agg (dE p0)),(2,Bo p1),(3,I p2),(5,.ptr 105 0),(11,I v24)]) (fun (v24:Int)=>[(0,.box (aH v20)),(105,.box (dE p0))]) (fun v24 h=>?_) fun _ _ hK26 h=>?_)))
               · refine B fun _ hK27=>A (zm O (zf O (zl O (J (cJ O) O (zm O (zc O (b4 [((List.length p0.bf:Int)==v24)] bH ⟨O,O⟩ O ?_)))))))
                 refine zk hp hr h [0] Tryz.call61 (aB n [((List.length p0.bf:Int)==v24)] v20) O (fun _=>O) fun y28 h=>zQ hK27 (zM h (fun (v29:Bool)=>[(0,.ptr 0 0),(1,.agg (dE p0)),(2,Bo p1),(3,I p2),(5,.ptr 105 0),(12,Bo v29)]) (fun (v29:Bool)=>[(0,.box (aH y28)),(105,.box (dE p0))]) (fun v29 h=>?_) fun _ _ hK31 h=>?_)
                 · refine B fun _ hK32=>B fun _ hK33=>A (zf O (zl O (J (cJ O) O (zm O (zQ hK33 (z (zL hr h (fun (v34:al×Int)=>[(0,.ptr 0 0),(1,.agg (dE p0)),(2,Bo p1),(3,I p2),(5,.ptr 105 0),(12,Bo v29),(171,.pv (.sl (List.length p0.bf) (aj.Cs p0.bf))),(172,I (List.length p0.bf:Int)),(173,I v34.2)]) (fun (v34:al×Int)=>[(0,.box (aH v34.1)),(105,.box (dE p0))]) O fun _ v34 _ hK36 h=>B fun _ hK37=>A (zc O (zQ hK37 (B fun _ hK38=>zB O h (fun _ h=>?_) fun _ h=>?_))))))))))
                   · refine V (hK38 _ _ (B fun _ hK40=>z (B fun _ hK41=>A (zm O (ze hr h fun x42 h43 h44 h45 h=>J (ia aj.y aj.b7 h43 h44 h45 O O O) O (J (iw O O) O ?_))))))
                     refine aK 114 (hE _ O) ⟨O,O,O,O⟩ O ?_
                     refine za O (zs O (zQ hK41 (A (zm O (zA O ?_)))))
                     refine zm O (zm O (zb p1 (fun hb46=>?_) fun hb46=>?_))
                     · refine z1 hb46 h fun h=>zG hb46 O (W O) (zy hb46 O (zm O (zb v29 (fun hb47=>?_) fun hb47=>?_)))
                       · refine z1 hb47 h fun h=>zG hb47 O (W O) (zG hb47 O (bw O O O) (zy hb47 O (zm O (J (je O O) O (J (bQ O O O) O ?_)))))
                         exact zk hp hr h [0] Tryz.call78 (hT.aM x42 (aO.mk (v34.2==0) false false (IntKind.wrap .i64 (p2+1))) v34.1) O (fun _=>O) fun y48 h=>zQ hK40 (A (zd hr h fun hg49 h=>zo hg49 O (zm O (N (hK36 _ _ _ h O)))))
                       · refine z2 hb47 h fun h=>zg hb47 O (zg hb47 O (zw hb47 O (zm O (J (je O O) O (J (bQ O O O) O ?_)))))
                         exact zk hp hr h [0] Tryz.call78 (hT.aM x42 (aO.mk false false false (IntKind.wrap .i64 (p2+1))) v34.1) O (fun _=>O) fun y50 h=>zQ hK40 (A (zd hr h fun hg51 h=>zo hg51 O (zm O (N (hK36 _ _ _ h O)))))
                     · refine z2 hb46 h fun h=>zg hb46 O (zw hb46 O (zm O (zg O O (zg O O (J (dI O O) O (zm O (J (je O O) O (J (bQ O O O) O ?_))))))))
                       exact zk hp hr h [0] Tryz.call78 (hT.aM x42 (aO.mk false false false (IntKind.wrap .i64 (p2+1))) v34.1) O (fun _=>O) fun y52 h=>zQ hK40 (A (zd hr h fun hg53 h=>zo hg53 O (zm O (N (hK36 _ _ _ h O)))))
                   · exact bB (hK32 _ _ (A (zm O (zf O (zl O (zm O (J (je O O) O (zk hp hr h [0] Tryz.call64 (hT.bY p0.Body false (IntKind.wrap .i64 (p2+1)) v34.1) O (fun _=>O) fun y54 h=>N (zY .nil h O)))))))))
                 · refine A (zf O (zl O (zc O (zm O (zb (p0.Kind==1) (fun hb55=>?_) fun hb55=>?_)))))
                   · exact z1 hb55 h fun h=>zg hb55 O (zg hb55 O (zg hb55 O (zy hb55 O (zm O (zg O O (zg O O (zg O O (zt O (zm O (zg O O (zg O O (zg O O (zt O (za O (N (hK31 _ _ _ h O))))))))))))))))
                   · refine z2 hb55 h fun h=>zG hb55 O (bR O) (zG hb55 O (bp O O O) (zG hb55 O (bw O O O) (zw hb55 O (zm O (zb (p0.Kind==2) (fun hb56=>?_) fun hb56=>?_)))))
                     · exact z1 hb56 h fun h=>zg hb56 O (zg hb56 O (zg hb56 O (zy hb56 O (zm O (zg O O (zg O O (zg O O (zt O (za O (N (hK31 _ _ _ h O)))))))))))
                     · refine z2 hb56 h fun h=>zG hb56 O (bR O) (zG hb56 O (bp O O O) (zG hb56 O (bw O O O) (zw hb56 O (zm O (zb (p0.Kind==3) (fun hb57=>?_) fun hb57=>?_)))))
                       · exact z1 hb57 h fun h=>zg hb57 O (zg hb57 O (zg hb57 O (zy hb57 O (za O (N (hK31 _ _ _ h O))))))
                       · exact z2 hb57 h fun h=>zG hb57 O (bR O) (zG hb57 O (bp O O O) (zG hb57 O (bw O O O) (zw hb57 O (za O (N (hK31 _ _ _ h O))))))
               · refine B fun _ hK58=>A (zf O (zl O (zQ hK58 (z (B fun _ hK59=>A (zc O (za O (zQ hK59 (zB O h (fun _ h=>?_) fun _ h=>?_)))))))))
                 · exact A (za O (N (hK26 _ _ _ h O)))
                 · refine B fun _ hK61=>A (zc O (za O (zQ hK61 (zB O h (fun _ h=>?_) fun _ h=>?_))))
                   · exact A (za O (N (hK26 _ _ _ h O)))
                   · exact V (hK26 _ _ _ h O)
             · refine B fun _ hK63=>A (zf O (zl O (zc O (zQ hK63 (zB O h (fun _ h=>?_) fun _ h=>?_)))))
               · refine A (zm O (zf O (zA O ?_)))
                 refine zk hp hr h [] Tryz.call164 (qD n (gz.mk p0.bt p0.bz)) O (fun _=>O) fun y65 h=>b4 [y65] bH ⟨O,O⟩ O ?_
                 exact zk hp hr h [0] Tryz.call61 (aB n [y65] v17) O (fun _=>O) fun y66 h=>N (hK22 _ _ _ h O)
               · refine A (zm O (zf O (zA O ?_)))
                 refine zk hp hr h [] Tryz.call165 (oU (gz.mk p0.bt p0.bz)) O (fun _=>O) fun y67 h=>b4 [y67] bH ⟨O,O⟩ O ?_
                 exact zk hp hr h [0] Tryz.call61 (aB n [y67] v17) O (fun _=>O) fun y68 h=>N (hK22 _ _ _ h O)
           · refine B fun _ hK69=>A (zf O (zl O (zQ hK69 (z (B fun _ hK70=>A (zc O (za O (zQ hK70 (zB O h (fun _ h=>?_) fun _ h=>?_)))))))))
             · exact V (hK19 _ _ _ h O)
             · refine B fun _ hK72=>A (zc O (za O (zQ hK72 (zB O h (fun _ h=>?_) fun _ h=>?_))))
               · refine B fun _ hK74=>A (zf O (zl O (zk hp hr h [] Tryz.call163 (sn n p0.Label) O (fun _=>O) fun y75 h=>zm O (zx O (zx O (aK 109 (hE _ O) ⟨O,O,O,O⟩ O ?_))))))
                 refine aK 110 (hE _ O) ⟨O,O,O,O⟩ O ?_
                 refine zs O (zs O (zQ hK74 (A (zm O (zf O (zl O (zc O (b4 [(y75.2.Errno==0)] bH ⟨O,O⟩ O ?_))))))))
                 exact zk hp hr h [0] Tryz.call61 (aB n [(y75.2.Errno==0)] v14) O (fun _=>O) fun y76 h=>N (hK19 _ _ _ h O)
               · refine B fun _ hK77=>A (zc O (za O (zQ hK77 (zB O h (fun _ h=>?_) fun _ h=>?_))))
                 · refine A (zm O (zm O (zf O (zl O (zk hp hr h [] Tryz.call62 (gb n p0.Label) O (fun _=>O) fun y79 h=>b4 [p1,y79] bH ⟨O,O⟩ O ?_)))))
                   exact zk hp hr h [0] Tryz.call61 (aB n [p1,y79] v14) O (fun _=>O) fun y80 h=>N (hK19 _ _ _ h O)
                 · refine A (zm O (zf O (zl O (J (jc O O) O (zm O (zm O (zb p1 (fun hb81=>?_) fun hb81=>?_)))))))
                   · refine z1 hb81 h fun h=>zg hb81 O (zg hb81 O (zg hb81 O (zy hb81 O (b4 [(p0.Label==([]:List UInt8)),true] bH ⟨O,O⟩ O ?_))))
                     exact zk hp hr h [0] Tryz.call61 (aB n [(p0.Label==([]:List UInt8)),true] v14) O (fun _=>O) fun y82 h=>N (hK19 _ _ _ h O)
                   · refine z2 hb81 h fun h=>zG hb81 O (bR O) (zG hb81 O (bp O O O) (zG hb81 O (bw O O O) (zw hb81 O (b4 [(p0.Label==([]:List UInt8)),(p0.Kind !=8)] bH ⟨O,O⟩ O ?_))))
                     exact zk hp hr h [0] Tryz.call61 (aB n [(p0.Label==([]:List UInt8)),(p0.Kind !=8)] v14) O (fun _=>O) fun y83 h=>N (hK19 _ _ _ h O)
         · refine B fun _ hK84=>A (zf O (zl O (zQ hK84 (z (B fun _ hK85=>A (zc O (za O (zQ hK85 (zB O h (fun _ h=>?_) fun _ h=>?_)))))))))
           · refine A (zm O (zf O (zl O (zc O (zm O (zb (decide (p0.cG≥1)) (fun hb87=>?_) fun hb87=>?_))))))
             · refine z1 hb87 h fun h=>zG hb87 O (bR O) (zG hb87 O (bp O O O) (zG hb87 O (bw O O O) (zy hb87 O (b4 [(decide (p0.cG≤3))] bH ⟨O,O⟩ O ?_))))
               exact zk hp hr h [0] Tryz.call61 (aB n [(decide (p0.cG≤3))] v11) O (fun _=>O) fun y88 h=>N (hK16 _ _ _ h O)
             · refine z2 hb87 h fun h=>zg hb87 O (zg hb87 O (zg hb87 O (zw hb87 O (b4 [false] bH ⟨O,O⟩ O ?_))))
               exact zk hp hr h [0] Tryz.call61 (aB n [false] v11) O (fun _=>O) fun y89 h=>N (hK16 _ _ _ h O)
           · refine A (zm O (zf O (zl O (zc O (b4 [(p0.cG==0)] bH ⟨O,O⟩ O ?_)))))
             exact zk hp hr h [0] Tryz.call61 (aB n [(p0.cG==0)] v11) O (fun _=>O) fun y90 h=>N (hK16 _ _ _ h O)
       · refine bL [0,1,2,4,5,7,8,9,11,3,6,10,12,13,14,15,16,17,18,19,20,21,22,23] O (by kernel_rfl) (zD O (W O) O (zD O (bR O) O (zD O (bp O O O) O (zD O (bR O) O (zD O (fj [.any,.any,.any,.any,.any,.any,.any,.pv (.sl (List.length p0.cz) (ch p0.cz)),.any,.any,.any] O O ⟨.inr O,.inr O,.inr O,.inr O,.inr O,.inr O,.inr O,.inl O,.inr O,.inr O,.inr O,trivial⟩ O) O (zD O (bR O) O (zD O (fj [.any,.any,.any,.any,.any,.any,.any,.any,.any,F p0.Trail,.any] O O ⟨.inr O,.inr O,.inr O,.inr O,.inr O,.inr O,.inr O,.inr O,.inr O,.inl O,.inr O,trivial⟩ O) O (ig [p0.Trail] fk O (bX O) ⟨O,O⟩ ⟨O,O⟩ ?_))))))))
         refine zD O (W O) O (dL O (bX O) hr h [] Tryz.call63 (ir n p0.jy) ⟨O,O,O,O,O,O,trivial⟩ O O (fun _=>⟨O,O,O⟩) (fun _=>⟨O,O⟩) hp (fun y91 h=>⟨cP ⟨trivial,⟨trivial,⟨⟨⟨_,O,M.ff ⟨.inr O,.inr O,.inr O,.inr O,.inr O,.inr O,.inr O,.inr O,.inr O,.inl O,.inr O,trivial⟩⟩,trivial⟩,⟨trivial,⟨⟨⟨_,O,M.ff ⟨.inr O,.inr O,.inr O,.inr O,.inr O,.inr O,.inr O,.inl O,.inr O,.inr O,.inr O,trivial⟩⟩,trivial⟩,⟨trivial,⟨trivial,⟨trivial,⟨trivial,trivial⟩⟩⟩⟩⟩⟩⟩⟩⟩,?_⟩))
         refine dL O (bX O) hr h [] Tryz.call63 (ir n p0.cz) ⟨O,O,O,O,O,O,trivial⟩ O O (fun _=>⟨O,O,O⟩) (fun _=>⟨O,O⟩) hp (fun y92 h=>⟨cP ⟨trivial,⟨trivial,⟨⟨⟨_,O,M.ff ⟨.inr O,.inr O,.inr O,.inr O,.inr O,.inr O,.inr O,.inr O,.inr O,.inl O,.inr O,trivial⟩⟩,trivial⟩,⟨trivial,⟨trivial,⟨trivial,⟨trivial,⟨trivial,⟨trivial,trivial⟩⟩⟩⟩⟩⟩⟩⟩⟩,?_⟩)
         refine dL O (bX O) hr h [] Tryz.call63 (ir n [p0.Trail]) ⟨O,O,O,O,O,O,trivial⟩ O O (fun _=>⟨O,O,O⟩) (fun _=>⟨O,O⟩) hp (fun y93 h=>⟨aL O,?_⟩)
         refine zD O (W O) O (zb v5 (fun hb94=>?_) fun hb94=>?_)
         · refine z1 hb94 h fun h=>ef hb94 O ⟨O,O⟩ ⟨O,O⟩ ?_
           refine ef hb94 O ⟨O,O⟩ ⟨O,O⟩ ?_
           refine ef hb94 O ⟨O,O⟩ ⟨O,O⟩ ?_
           refine ef hb94 O ⟨O,O⟩ ⟨O,O⟩ ?_
           refine ef hb94 O ⟨O,O⟩ ⟨O,O⟩ ?_
           refine ef hb94 O ⟨O,O⟩ ⟨O,O⟩ ?_
           refine ef hb94 O ⟨O,O⟩ ⟨O,O⟩ ?_
           refine ef hb94 O ⟨O,O⟩ ⟨O,O⟩ ?_
           refine zD O (dD hb94 O O) O (ig [y91,y92,y93,true] bH O (bX O) ⟨O,O⟩ ⟨O,O⟩ ?_)
           refine dL O (bX O) hr h [0] Tryz.call61 (aB n [y91,y92,y93,true] v8) ⟨O,O,O,O,O,O,trivial⟩ O O (fun _=>⟨O,O,O⟩) (fun _=>⟨O,O⟩) hp (fun y95 h=>⟨aL O,?_⟩)
           exact cX (hK13 _ _ _ h O)
         · refine z2 hb94 h fun h=>en hb94 O ⟨O,O⟩ (bR O) ⟨O,O,O⟩ ?_
           refine en hb94 O ⟨O,O⟩ (bp O O O) ⟨O,O,O⟩ ?_
           refine en hb94 O ⟨O,O⟩ (cJ O) ⟨O,O,O⟩ ?_
           refine en hb94 O ⟨O,O⟩ (bR O) ⟨O,O,O⟩ ?_
           refine en hb94 O ⟨O,O⟩ (bp O O O) ⟨O,O,O⟩ ?_
           refine en hb94 O ⟨O,O⟩ (cJ O) ⟨O,O,O⟩ ?_
           refine zd hr h fun hg96 h=>en hb94 O ⟨O,O⟩ (k9 O O hg96) ⟨O,O,O⟩ ?_
           refine en hb94 O ⟨O,O⟩ (bw O O O) ⟨O,O,O⟩ ?_
           refine zD O (dy hb94 O O) O (ig [y91,y92,y93,(((List.length p0.Body:Int)+(List.length p0.cz:Int))==0)] bH O (bX O) ⟨O,O⟩ ⟨O,O⟩ ?_)
           refine dL O (bX O) hr h [0] Tryz.call61 (aB n [y91,y92,y93,(((List.length p0.Body:Int)+(List.length p0.cz:Int))==0)] v8) ⟨O,O,O,O,O,O,trivial⟩ O O (fun _=>⟨O,O,O⟩) (fun _=>⟨O,O⟩) hp (fun y97 h=>⟨aL O,?_⟩)
           exact cX (hK13 _ _ _ h O)
     · refine A (zm O (zf O (zl O (zc O (zm O (zb (decide (p0.Kind≥1)) (fun hb98=>?_) fun hb98=>?_))))))
       · refine z1 hb98 h fun h=>zG hb98 O (bR O) (zG hb98 O (bp O O O) (zG hb98 O (bw O O O) (zy hb98 O (b4 [(decide (p0.Kind≤8))] bH ⟨O,O⟩ O ?_))))
         exact zk hp hr h [0] Tryz.call61 (aB n [(decide (p0.Kind≤8))] v2) O (fun _=>O) fun y99 h=>N (hK10 _ _ _ h O)
       · refine z2 hb98 h fun h=>zg hb98 O (zg hb98 O (zg hb98 O (zw hb98 O (b4 [false] bH ⟨O,O⟩ O ?_))))
         exact zk hp hr h [0] Tryz.call61 (aB n [false] v2) O (fun _=>O) fun y100 h=>N (hK10 _ _ _ h O)
   · refine A (zf O (zl O (zc O (zm O (zb (p0.Kind==5) (fun hb101=>?_) fun hb101=>?_)))))
     · exact z1 hb101 h fun h=>zg hb101 O (zg hb101 O (zg hb101 O (zy hb101 O (za O (N (hK7 _ _ _ h O))))))
     · exact z2 hb101 h fun h=>zG hb101 O (bR O) (zG hb101 O (bp O O O) (zG hb101 O (bw O O O) (zw hb101 O (za O (N (hK7 _ _ _ h O))))))
 · refine B fun _ hK102=>A (zm O (zc O (zQ hK102 (zB O h (fun _ h=>?_) fun _ h=>?_))))
   · exact A (zm O (zn O (zf O (zs O (N (hK4 _ _ _ h O))))))
   · exact V (hK4 _ _ _ h O)
theorem pC (n:Nat) (T:dO) (hT:gB T) (p0:(List o)) (p1:Bool) (p2:Int) (p3:al):CT Tryz.prog 64 [.ptr 0 0,.pv (.sl (List.length p0) (o.Cs p0)),Bo p1,I p2] [.box (aH p3)] (eR n T p0 p1 p2 p3) (fun _=>.fX []) (fun x=>[.box (aH x)]):=by
 refine zC Tryz.func64 O fun r hp h hr E hE=>B fun _ hK1=>A (zm O (J (cJ O) O (zm O (zQ hK1 (z (zL hr h (fun (v2:al×Int)=>[(0,.ptr 0 0),(1,.pv (.sl (List.length p0) (o.Cs p0))),(2,Bo p1),(3,I p2),(10,.pv (.sl (List.length p0) (o.Cs p0))),(11,I (List.length p0:Int)),(12,I v2.2)]) (fun (v2:al×Int)=>[(0,.box (aH v2.1))]) O fun _ v2 _ hK4 h=>B fun _ hK5=>A (zc O (zQ hK5 (B fun _ hK6=>zB O h (fun _ h=>?_) fun _ h=>?_)))))))))
 · refine V (hK6 _ _ (B fun _ hK8=>z (B fun _ hK9=>A (ze hr h fun Ga h11 h12 h13 h=>J (ia o.y o.b7 h11 h12 h13 O O O) O (J (iw O O) O ?_)))))
   refine aK 109 (hE _ O) ⟨O,O,O,O⟩ O ?_
   refine zs O (zQ hK9 (A (zm O (zA O ?_))))
   exact zm O (zm O (zk hp hr h [0] Tryz.call113 (hT.dR Ga p1 p2 v2.1) O (fun _=>O) fun y14 h=>zQ hK8 (A (zd hr h fun hg15 h=>zo hg15 O (zm O (N (hK4 _ _ _ h O)))))))
 · exact bB (zY .nil h O)
theorem qj (n:Nat) (T:dO) (hT:gB T) (p0:aj) (p1:aO) (p2:al):CT Tryz.prog 78 [.ptr 0 0,.agg (be p0),.agg (bN p1)] [.box (aH p2)] (fc n T p0 p1 p2) (fun _=>.fX []) (fun x=>[.box (aH x)]):=by
 refine zC Tryz.func78 O fun r hp h hr E hE=>B fun _ hK1=>A (eg 104 (hE _ O) ⟨O,O,O,O,O,O,O⟩ O ?_)
 refine eg 105 (hE _ O) ⟨O,O,O,O,O,O,O⟩ O ?_
 refine zQ hK1 (zM h (fun (v2:al)=>[(0,.ptr 0 0),(1,.agg (be p0)),(2,.agg (bN p1)),(4,.ptr 104 0),(5,.ptr 105 0)]) (fun (v2:al)=>[(0,.box (aH v2)),(104,.box (be p0)),(105,.box (bN p1))]) (fun v2 h=>?_) fun _ _ hK4 h=>?_)
 · refine B fun _ hK5=>A (zm O (zA O ?_))
   refine zA O ?_
   refine zk hp hr h [0] Tryz.call120 (rK n p0 p1 v2) O (fun _=>O) fun y6 h=>zQ hK5 (B fun _ hK7=>B fun _ hK8=>A (zf O (zl O (J (cJ O) O (zm O (zQ hK8 (z (zL hr h (fun (v9:al×Int)=>[(0,.ptr 0 0),(1,.agg (be p0)),(2,.agg (bN p1)),(4,.ptr 104 0),(5,.ptr 105 0),(19,.pv (.sl (List.length p0.bf) (aj.Cs p0.bf))),(20,I (List.length p0.bf:Int)),(21,I v9.2)]) (fun (v9:al×Int)=>[(0,.box (aH v9.1)),(104,.box (be p0)),(105,.box (bN p1))]) O fun _ v9 _ hK11 h=>B fun _ hK12=>A (zc O (zQ hK12 (B fun _ hK13=>zB O h (fun _ h=>?_) fun _ h=>?_)))))))))))
   · refine V (hK13 _ _ (zM h (fun (v15:al)=>[(0,.ptr 0 0),(1,.agg (be p0)),(2,.agg (bN p1)),(4,.ptr 104 0),(5,.ptr 105 0),(19,.pv (.sl (List.length p0.bf) (aj.Cs p0.bf))),(20,I (List.length p0.bf:Int)),(21,I v9.2)]) (fun (v15:al)=>[(0,.box (aH v15)),(104,.box (be p0)),(105,.box (bN p1))]) (fun v15 h=>?_) fun _ _ hK17 h=>?_))
     · exact A (zd hr h fun hg18 h=>zo hg18 O (zm O (N (hK11 _ _ _ h O))))
     · refine z (B fun _ hK19=>A (zm O (ze hr h fun x20 h21 h22 h23 h=>J (ia aj.y aj.b7 h21 h22 h23 O O O) O (J (iw O O) O ?_))))
       refine aK 107 (hE _ O) ⟨O,O,O,O⟩ O ?_
       refine za O (zs O (zQ hK19 (A (zm O (zA O ?_)))))
       refine zf O (zl O (zc O (zm O (zb (p0.Kind==16) (fun hb24=>?_) fun hb24=>?_))))
       · refine z1 hb24 h fun h=>zG hb24 O (bR O) (zG hb24 O (bp O O O) (zy hb24 O (zm O (zb p1.lh (fun hb25=>?_) fun hb25=>?_))))
         · refine z1 hb25 h fun h=>zg hb25 O (zg hb25 O (zg hb25 O (zy hb25 O (zf O (zl O (zc O (zf O (zl O (zc O (zm O (zb (p0.Kind==14) (fun hb26=>?_) fun hb26=>?_)))))))))))
           · refine z1 hb26 h fun h=>zG hb26 O (bR O) (zG hb26 O (bp O O O) (zG hb26 O (bw O O O) (zG hb26 O (W O) (zb (p0.jv==0) (fun hb27=>?_) fun hb27=>?_))))
             · refine z1 hb27 h fun h=>zg hb27 O (zg hb27 O (zg hb27 O (zg hb27 O (zg hb27 O (zg hb27 O (zG hb26 O (dD hb27 O O) (zy hb26 O (zf O (zl O (J (je O O) O (J (bQ O O O) O ?_)))))))))))
               exact zk hp hr h [0] Tryz.call78 (hT.aM x20 (aO.mk true (p0.Kind==17) true (IntKind.wrap .i64 (p1.level+1))) v9.1) O (fun _=>O) fun y28 h=>N (hK17 _ _ _ h O)
             · refine z2 hb27 h fun h=>zG hb27 O (W O) (zd hr h fun hg29 h=>zG hb27 O (k9 O O hg29) (zG hb27 O (bR O) (zG hb27 O (bp O O O) (zG hb27 O (cJ O) (zG hb27 O (bw O O O) (zG hb26 O (dy hb27 O O) (zy hb26 O (zf O (zl O (J (je O O) O (J (bQ O O O) O ?_)))))))))))
               exact zk hp hr h [0] Tryz.call78 (hT.aM x20 (aO.mk true (p0.Kind==17) (decide ((v9.2+1)<(List.length p0.bf:Int))) (IntKind.wrap .i64 (p1.level+1))) v9.1) O (fun _=>O) fun y30 h=>N (hK17 _ _ _ h O)
           · refine z2 hb26 h fun h=>zg hb26 O (zg hb26 O (zg hb26 O (zg hb26 O (zu O (zu O (zu O (zu O (zu O (zu O (zg hb26 O (zw hb26 O (zf O (zl O (J (je O O) O (J (bQ O O O) O ?_)))))))))))))))
             exact zk hp hr h [0] Tryz.call78 (hT.aM x20 (aO.mk true (p0.Kind==17) false (IntKind.wrap .i64 (p1.level+1))) v9.1) O (fun _=>O) fun y31 h=>N (hK17 _ _ _ h O)
         · refine z2 hb25 h fun h=>zG hb25 O (bR O) (zG hb25 O (bp O O O) (zG hb25 O (bw O O O) (zw hb25 O (zf O (zl O (zc O (zf O (zl O (zc O (zm O (zb (p0.Kind==14) (fun hb32=>?_) fun hb32=>?_)))))))))))
           · refine z1 hb32 h fun h=>zG hb32 O (bR O) (zG hb32 O (bp O O O) (zG hb32 O (bw O O O) (zG hb32 O (W O) (zb (p0.jv==0) (fun hb33=>?_) fun hb33=>?_))))
             · refine z1 hb33 h fun h=>zg hb33 O (zg hb33 O (zg hb33 O (zg hb33 O (zg hb33 O (zg hb33 O (zG hb32 O (dD hb33 O O) (zy hb32 O (zf O (zl O (J (je O O) O (J (bQ O O O) O ?_)))))))))))
               exact zk hp hr h [0] Tryz.call78 (hT.aM x20 (aO.mk (p0.Kind==10) (p0.Kind==17) true (IntKind.wrap .i64 (p1.level+1))) v9.1) O (fun _=>O) fun y34 h=>N (hK17 _ _ _ h O)
             · refine z2 hb33 h fun h=>zG hb33 O (W O) (zd hr h fun hg35 h=>zG hb33 O (k9 O O hg35) (zG hb33 O (bR O) (zG hb33 O (bp O O O) (zG hb33 O (cJ O) (zG hb33 O (bw O O O) (zG hb32 O (dy hb33 O O) (zy hb32 O (zf O (zl O (J (je O O) O (J (bQ O O O) O ?_)))))))))))
               exact zk hp hr h [0] Tryz.call78 (hT.aM x20 (aO.mk (p0.Kind==10) (p0.Kind==17) (decide ((v9.2+1)<(List.length p0.bf:Int))) (IntKind.wrap .i64 (p1.level+1))) v9.1) O (fun _=>O) fun y36 h=>N (hK17 _ _ _ h O)
           · refine z2 hb32 h fun h=>zg hb32 O (zg hb32 O (zg hb32 O (zg hb32 O (zu O (zu O (zu O (zu O (zu O (zu O (zg hb32 O (zw hb32 O (zf O (zl O (J (je O O) O (J (bQ O O O) O ?_)))))))))))))))
             exact zk hp hr h [0] Tryz.call78 (hT.aM x20 (aO.mk (p0.Kind==10) (p0.Kind==17) false (IntKind.wrap .i64 (p1.level+1))) v9.1) O (fun _=>O) fun y37 h=>N (hK17 _ _ _ h O)
       · refine z2 hb24 h fun h=>zg hb24 O (zg hb24 O (zw hb24 O (zm O (zG O O (bR O) (zG O O (bp O O O) (zG O O (bw O O O) (J (dI O O) O (zf O (zl O (zc O (zf O (zl O (zc O (zm O (zb (p0.Kind==14) (fun hb38=>?_) fun hb38=>?_)))))))))))))))
         · refine z1 hb38 h fun h=>zG hb38 O (bR O) (zG hb38 O (bp O O O) (zG hb38 O (bw O O O) (zG hb38 O (W O) (zb (p0.jv==0) (fun hb39=>?_) fun hb39=>?_))))
           · refine z1 hb39 h fun h=>zg hb39 O (zg hb39 O (zg hb39 O (zg hb39 O (zg hb39 O (zg hb39 O (zG hb38 O (dD hb39 O O) (zy hb38 O (zf O (zl O (J (je O O) O (J (bQ O O O) O ?_)))))))))))
             exact zk hp hr h [0] Tryz.call78 (hT.aM x20 (aO.mk (p0.Kind==10) (p0.Kind==17) true (IntKind.wrap .i64 (p1.level+1))) v9.1) O (fun _=>O) fun y40 h=>N (hK17 _ _ _ h O)
           · refine z2 hb39 h fun h=>zG hb39 O (W O) (zd hr h fun hg41 h=>zG hb39 O (k9 O O hg41) (zG hb39 O (bR O) (zG hb39 O (bp O O O) (zG hb39 O (cJ O) (zG hb39 O (bw O O O) (zG hb38 O (dy hb39 O O) (zy hb38 O (zf O (zl O (J (je O O) O (J (bQ O O O) O ?_)))))))))))
             exact zk hp hr h [0] Tryz.call78 (hT.aM x20 (aO.mk (p0.Kind==10) (p0.Kind==17) (decide ((v9.2+1)<(List.length p0.bf:Int))) (IntKind.wrap .i64 (p1.level+1))) v9.1) O (fun _=>O) fun y42 h=>N (hK17 _ _ _ h O)
         · refine z2 hb38 h fun h=>zg hb38 O (zg hb38 O (zg hb38 O (zg hb38 O (zu O (zu O (zu O (zu O (zu O (zu O (zg hb38 O (zw hb38 O (zf O (zl O (J (je O O) O (J (bQ O O O) O ?_)))))))))))))))
           exact zk hp hr h [0] Tryz.call78 (hT.aM x20 (aO.mk (p0.Kind==10) (p0.Kind==17) false (IntKind.wrap .i64 (p1.level+1))) v9.1) O (fun _=>O) fun y43 h=>N (hK17 _ _ _ h O)
   · exact bB (hK7 _ _ (A (zm O (zf O (zl O (zf O (zl O (zc O (zf O (zl O (J (je O O) O (zk hp hr h [0] Tryz.call64 (hT.bY p0.Decls (p0.Kind==13) (IntKind.wrap .i64 (p1.level+1)) v9.1) O (fun _=>O) fun y44 h=>N (zY .nil h O)))))))))))))
 · refine B fun _ hK45=>A (zf O (zl O (zc O (zQ hK45 (zB O h (fun _ h=>?_) fun _ h=>?_)))))
   · exact A (zm O (zn O (zf O (zs O (N (hK4 _ _ _ h O))))))
   · exact V (hK4 _ _ _ h O)
theorem fe:∀ n,gB (aU n)
 | 0=>⟨fun _ _ _ _=>cy,fun _ _ _ _=>cy,fun _ _ _=>cy⟩
 | n+1=>⟨fun p0 p1 p2 p3=>qi n _ (fe n) p0 p1 p2 p3,fun p0 p1 p2 p3=>pC n _ (fe n) p0 p1 p2 p3,fun p0 p1 p2=>qj n _ (fe n) p0 p1 p2⟩
theorem qk (n:Nat) (p0:(List o)) (p1:Bool) (p2:Int) (p3:al):CT Tryz.prog 64 [.ptr 0 0,.pv (.sl (List.length p0) (o.Cs p0)),Bo p1,I p2] [.box (aH p3)] (bY n p0 p1 p2 p3) (fun _=>.fX []) (fun x=>[.box (aH x)]):=(fe n).bY p0 p1 p2 p3
theorem qQ (n:Nat) (p0:aj) (p1:aO) (p2:al):CT Tryz.prog 78 [.ptr 0 0,.agg (be p0),.agg (bN p1)] [.box (aH p2)] (aM n p0 p1 p2) (fun _=>.fX []) (fun x=>[.box (aH x)]):=(fe n).aM p0 p1 p2
def eF (n:Nat) (p0:aj):D (Int):=
 D.bind (aM n p0 (aO.mk true false false 1) (al.mk false false)) fun y4=>D.bind (gO y4) fun y6=>.ok (y6.1)
theorem sI (n:Nat) (p0:aj):CT Tryz.prog 36 [.agg (be p0)] [] (eF n p0) (fun x=>I x) (fun _=>[]):=by
 refine zC Tryz.func36 O fun r hp h hr E hE=>B fun _ hK1=>A (eg 101 (hE _ O) ⟨O,O,O,O,O,O,O⟩ O ?_)
 refine za O (zQ hK1 (B fun _ hK2=>A (J (bQ O O O) O ?_)))
 refine eg 105 (hE _ O) ⟨O,O,O,O,O,O,O⟩ O ?_
 refine za O (zQ hK2 (B fun _ hK3=>A (zm O (zA O ?_))))
 refine J (bQ O O O) O ?_
 exact zk hp hr h [105] Tryz.call78 (qQ n p0 (aO.mk true false false 1) (al.mk false false)) O (fun _=>O) fun y4 h=>zQ hK3 (B fun _ hK5=>A (zm O (zk hp hr h [105] Tryz.call65 (lu y4) O (fun _=>O) fun y6 h=>za O (zQ hK5 (H (zX (.cons (K O) .nil) h O))))))
def gP (n:Nat) (p0:(List UInt8)):D (aj×dH):=
 D.bind (fP n p0) fun y3=>br (y3.2.Errno !=0) (.ok ((aj.mk 0 [] 0 [] [] [] [] [] 0),y3.2)) (nN (D.bind (aD n true (L.mk p0 y3.1 0 0 false none)) fun y11=>jn (fun (v12:L)=>jn (fun (_:Unit)=>D.bind (eF n y11.1) fun y20=>br (y20==9) (.ok ((aj.mk 0 [] 0 [] [] [] [] [] 0),(dH.mk 9 0))) (.ok (y11.1,(dH.mk 0 0)))) fun j16=>D.bind (az n v12) fun y26=>br (y26.1.Kind !=0) (D.bind (bj n (L.mk y26.2.text y26.2.bo y26.2.at_ v12.base y26.2.skip y26.2.pending)) fun _=>j16 ()) (j16 ())) fun j13=>D.bind (az n y11.2) fun y32=>br (y32.1.Kind==7) (gd (bK (y32.2.at_+1)) (j13 ((L.mk y32.2.text y32.2.bo (y32.2.at_+1) y11.2.base y32.2.skip y32.2.pending)))) (j13 ((L.mk y32.2.text y32.2.bo y32.2.at_ y11.2.base y32.2.skip y32.2.pending)))) (fun p=>sB 86 p fun v37=>D.bind (lj v37) fun y38=>.ok (y38.1,y38.2)))
theorem l0 (n:Nat) (p0:(List UInt8)):CT Tryz.prog 15 [F p0] [] (gP n p0) (fun x=>.fX [.agg (be x.1),.agg [I x.2.Errno,I x.2.At]]) (fun _=>[]):=by
 refine rV Tryz.func15 O O fun r h hr E hE=>?_
 refine B fun _ hK1=>A (aK 102 (hE _ O) ⟨O,O,O,O⟩ O ?_)
 refine aK 103 (hE _ O) ⟨O,O,O,O⟩ O ?_
 refine zQ hK1 (B fun _ hK2=>A (zm O (jf hr h [] Tryz.call24 (pZ n p0) ⟨O,O,O,O,O,O,trivial⟩ O (fun _=>⟨O,O,O⟩) (fun _=>⟨O,O⟩) (fun _ _ _ hd hp=>uR (P:=Tryz.prog) (fn:=Tryz.f15) hd hp) (fun y3 h=>?_))))
 refine zm O (zx O (zx O (za O (zs O (zQ hK2 (B fun _ hK4=>B fun _ hK5=>A (zf O (zl O (zc O (zQ hK5 (zB O h (fun _ h=>?_) fun _ h=>?_)))))))))))
 · refine B fun _ hK7=>bL [0,1,2,3] O (by kernel_rfl) (zD O (dC O O) O ?_)
   refine zD O (iT O O O O) O ?_
   refine cf O ⟨O,O,O,O,O,O,O,O⟩ O (fun e2 he=>⟨cP ⟨⟨⟨_,O,M.le_refl _⟩,trivial⟩,⟨trivial,trivial⟩⟩,?_⟩)
   subst he
   refine cf O ⟨O,O,O,O,O,O,O,O⟩ O (fun e3 he=>⟨aL O,?_⟩)
   subst he
   refine cX (hK7 _ _ (b3 (jt 102 O O) ?_))
   exact H (s5 (n:=Tryz.f15.ntmps) (.inl O) (mh (.inl O) _ (.cons (aZ O O O) (.cons (aZ O O O) .nil)) h.symm (AV.le_refl _) trivial))
 · refine V (hK4 _ _ (B fun _ hK8=>A (J (pc O O) O ?_)))
   refine xj O ?_
   have hrO:=hr
   obtain ⟨r,hr,h,hc⟩:=uQ hr h
   refine zQ hK8 (B fun _ hK9=>A (zm O (zm O (J (dC O O) O ?_))))
   refine eg 120 (hE _ O) ⟨O,O,O,O,O,O,O⟩ O ?_
   refine za O (zQ hK9 (B fun _ hK10=>A (zm O (aX (jt 120 O O) ?_))))
   refine oL hr h [120] Tryz.call33 (rH n true (L.mk p0 y3.1 0 0 false none)) ⟨O,O,O,O,O,O,trivial⟩ O O (fun _=>⟨O,O,O⟩) (fun _=>⟨O,O⟩) O (fun p hp=>?_) (fun y11 h=>?_)
   · obtain ⟨v36,rfl,hc⟩:=lR hrO (lf hc hp)
     obtain ⟨hns,hok,_⟩:=ki hrO hc
     repeat (first|refine lg ?_|refine kl ?_)
     refine ij (n:=Tryz.f15.ntmps) [102,103] Tryz.call32 (hQ v36) hns O ⟨O,O,O,O⟩ (fun _=>⟨O,O⟩) (fun x hx=>?_)
     exact fL (.inl O) _ (.cons (aZ O O O) (.cons (aZ O O O) .nil)) (hok x hx).symm (AV.le_refl _) trivial
   · refine zs O (zQ hK10 (zM h (fun (v12:L)=>[(0,F p0),(2,.ptr 102 0),(3,.ptr 103 0),(5,.ptr 120 0)]) (fun (v12:L)=>[(102,.box (be y11.1)),(103,.box [I y3.2.Errno,I y3.2.At]),(120,.box (Q v12))]) (fun v12 h=>?_) fun _ _ hK14 h=>?_))
     · refine zM h (fun (v15:Unit)=>[(0,F p0),(2,.ptr 102 0),(3,.ptr 103 0)]) (fun (v15:Unit)=>[(102,.box (be y11.1)),(103,.box [I y3.2.Errno,I y3.2.At])]) (fun v15 h=>?_) fun _ _ hK17 h=>?_
       · refine B fun _ hK18=>B fun _ hK19=>A (zA O ?_)
         refine oL hr h [] Tryz.call36 (sI n y11.1) ⟨O,O,O,O,O,O,trivial⟩ O O (fun _=>⟨O,O,O⟩) (fun _=>⟨O,O⟩) O (fun p hp=>?_) (fun y20 h=>?_)
         · obtain ⟨v24,rfl,hc⟩:=lR hrO (lf hc hp)
           obtain ⟨hns,hok,_⟩:=ki hrO hc
           repeat (first|refine lg ?_|refine kl ?_)
           refine ij (n:=Tryz.f15.ntmps) [102,103] Tryz.call32 (hQ v24) hns O ⟨O,O,O,O⟩ (fun _=>⟨O,O⟩) (fun x hx=>?_)
           exact fL (.inl O) _ (.cons (aZ O O O) (.cons (aZ O O O) .nil)) (hok x hx).symm (AV.le_refl _) trivial
         · refine zc O (zQ hK19 (zB O h (fun _ h=>?_) fun _ h=>?_))
           · refine B fun _ hK22=>A (J (dC O O) O ?_)
             refine J (bQ O O O) O ?_
             refine zs O (zs O (zQ hK22 (b3 (jt 102 O O) ?_)))
             refine H (kU (n:=Tryz.f15.ntmps) (.inl O) [102,103] Tryz.call32 (lI [.box [I 0,F [],I 0,F [],F [],.pv (.sl (List.length ([]:List aj)) (aj.Cs [])),.pv (.sl (List.length ([]:List o)) (o.Cs [])),.pv (.sl (List.length ([]:List (List UInt8))) (ch [])),I 0],.box [I 9,I 0]]) ⟨O,O,O,O⟩ O O ?_)
             exact fL (.inl O) _ (.cons (aZ O O O) (.cons (aZ O O O) .nil)) (pQ hc h.symm) (AV.le_refl _) trivial
           · refine V (hK18 _ _ (B fun _ hK23=>A (zA O ?_)))
             refine J (bQ O O O) O ?_
             refine zs O (zs O (zQ hK23 (H (kU (n:=Tryz.f15.ntmps) (.inl O) [102,103] Tryz.call32 (lI [.box (be y11.1),.box [I 0,I 0]]) ⟨O,O,O,O⟩ O O ?_))))
             exact fL (.inl O) _ (.cons (aZ O O O) (.cons (aZ O O O) .nil)) (pQ hc h.symm) (AV.le_refl _) trivial
       · refine B fun _ hK25=>A (zm O (oL hr h [120] Tryz.call34 (aI n v12) ⟨O,O,O,O,O,O,trivial⟩ O O (fun _=>⟨O,O,O⟩) (fun _=>⟨O,O⟩) O (fun p hp=>?_) (fun y26 h=>?_)))
         · obtain ⟨v30,rfl,hc⟩:=lR hrO (lf hc hp)
           obtain ⟨hns,hok,_⟩:=ki hrO hc
           repeat (first|refine lg ?_|refine kl ?_)
           refine ij (n:=Tryz.f15.ntmps) [102,103] Tryz.call32 (hQ v30) hns O ⟨O,O,O,O⟩ (fun _=>⟨O,O⟩) (fun x hx=>?_)
           exact fL (.inl O) _ (.cons (aZ O O O) (.cons (aZ O O O) .nil)) (hok x hx).symm (AV.le_refl _) trivial
         · refine J (kj O O) O ?_
           refine zc O (zQ hK25 (zB O h (fun _ h=>?_) fun _ h=>?_))
           · refine A (zm O (oL hr h [120] Tryz.call35 (bF n (L.mk y26.2.text y26.2.bo y26.2.at_ v12.base y26.2.skip y26.2.pending)) ⟨O,O,O,O,O,O,trivial⟩ O O (fun _=>⟨O,O,O⟩) (fun _=>⟨O,O⟩) O (fun p hp=>?_) (fun y28 h=>?_)))
             · obtain ⟨v29,rfl,hc⟩:=lR hrO (lf hc hp)
               obtain ⟨hns,hok,_⟩:=ki hrO hc
               repeat (first|refine lg ?_|refine kl ?_)
               refine ij (n:=Tryz.f15.ntmps) [102,103] Tryz.call32 (hQ v29) hns O ⟨O,O,O,O⟩ (fun _=>⟨O,O⟩) (fun x hx=>?_)
               exact fL (.inl O) _ (.cons (aZ O O O) (.cons (aZ O O O) .nil)) (hok x hx).symm (AV.le_refl _) trivial
             · exact N (hK17 _ _ _ h O)
           · exact V (hK17 _ _ _ h O)
     · refine B fun _ hK31=>A (zm O (oL hr h [120] Tryz.call34 (aI n y11.2) ⟨O,O,O,O,O,O,trivial⟩ O O (fun _=>⟨O,O,O⟩) (fun _=>⟨O,O⟩) O (fun p hp=>?_) (fun y32 h=>?_)))
       · obtain ⟨v35,rfl,hc⟩:=lR hrO (lf hc hp)
         obtain ⟨hns,hok,_⟩:=ki hrO hc
         repeat (first|refine lg ?_|refine kl ?_)
         refine ij (n:=Tryz.f15.ntmps) [102,103] Tryz.call32 (hQ v35) hns O ⟨O,O,O,O⟩ (fun _=>⟨O,O⟩) (fun x hx=>?_)
         exact fL (.inl O) _ (.cons (aZ O O O) (.cons (aZ O O O) .nil)) (hok x hx).symm (AV.le_refl _) trivial
       · refine J (kj O O) O ?_
         refine zc O (zQ hK31 (zB O h (fun _ h=>?_) fun _ h=>?_))
         · exact A (zm O (zn O (zf O (zl O (zd hr h fun hg34 h=>zo hg34 O (zn O (zf O (zs O (N (hK14 _ _ _ h O))))))))))
         · exact V (hK14 _ _ _ h O)
def oD (v:Int):D (ji×dH):=
 D.bind (jS (gG.mk v)) fun y2=>.ok ((ji.mk [] [] [] []),y2)
theorem nb (v:Int):Bg Tryz.prog 25 [.ptr 0 0,.ptr 1 0] [.box [.any,.any,.any,.any],.box [.any,.any]] (some (.iface 86 (.agg #[.int .i64 v]))) (oD v) (fun x=>[.box (mO x.1),.box [I x.2.Errno,I x.2.At]]):=by
 refine ml (m:=some (.iface 86 (.agg #[.int .i64 v]))) (mv:=.lF 86 (.agg [I v])) (fun g=>.lF 86 (.agg (.cons (.pv (.sc _)) .nil))) Tryz.func25 O O O fun r h hr E hE=>?_
 refine B fun _ hK1=>A (zm O (J (tK O O) O (zQ hK1 (dm O (fun hc=>?_) (fun hc=>?_)))))
 · refine A (J (dC O O) O ?_)
   refine zm O (CF hr h [] Tryz.call26 (qy (gG.mk v)) ⟨O,O,O,O,O,O,trivial⟩ O (fun _=>⟨O,O,O⟩) (fun _=>⟨O,O⟩) (pg (gG.mk v)) (fun y2 h=>?_))
   refine zs O (zs O (aX (jt 0 O O) ?_))
   exact N (rW (.inr O) _ h.symm ⟨O,O,trivial⟩)
 · exact absurd (hc) (by simp)
theorem lL (es:List M):Bg Tryz.prog 25 [.ptr 0 0,.ptr 1 0] es none (D.ok ()) (fun _=>es):=by
 refine ml (m:=none) (mv:=Sc .nilIface) (fun g=>.pv (.sc _)) Tryz.func25 O O O fun r h hr E hE=>?_
 refine B fun _ hK1=>A (zm O (J (tL O) O (zQ hK1 (dm O (fun hc=>?_) (fun hc=>?_)))))
 · exact absurd (hc) (by simp)
 · exact V (oo h)
def ly (n:Nat) (p0:L):D ((List (List UInt8))×L):=
 iter (fun next5 (v4:L×(List (List UInt8)))=>D.bind (az n v4.1) fun y9=>br (y9.1.Kind==6) (jn (fun (v11:L)=>D.bind (az n v11) fun y15=>gd (cV 16 (List.length v4.2) (List.length [y15.1.Text])) (gd (bK (y15.2.at_+1)) (next5 ((L.mk y15.2.text y15.2.bo (y15.2.at_+1) v11.base y15.2.skip y15.2.pending),v4.2++[y15.1.Text])))) fun j12=>D.bind (dP n (L.mk y9.2.text y9.2.bo y9.2.at_ v4.1.base y9.2.skip y9.2.pending)) fun y19=>br (!y19.1) (D.bind (bj n y19.2) fun y21=>j12 (y21)) (j12 (y19.2))) (.ok (v4.2,(L.mk y9.2.text y9.2.bo y9.2.at_ v4.1.base y9.2.skip y9.2.pending)))) n (p0,[])
theorem oV (n:Nat) (p0:L):CT Tryz.prog 55 [.ptr 0 0] [.box (Q p0),.app 9 1 (ch [])] (ly n p0) (fun x=>.arr 1 (List.length x.1)) (fun x=>[.box (Q x.2),.app 9 1 (ch x.1)]):=by
 refine zC Tryz.func55 O fun r hp h hr E hE=>B fun _ hK1=>A (za O (zQ hK1 (B fun _ hK2=>A (za O (zQ hK2 (B fun _ hK3=>z (b3 (sA (d:=3) 10003 (sz:=1) (el:=9) (hE _ O) O ⟨O,O,O⟩) ?_)))))))
 refine zL hr h (fun (v4:L×(List (List UInt8)))=>[(0,.ptr 0 0),(3,.arr 10003 (List.length v4.2))]) (fun (v4:L×(List (List UInt8)))=>[(0,.box (Q v4.1)),(10003,.app 9 1 (ch v4.2))]) O fun _ v4 _ hK6 h=>B fun _ hK7=>B fun _ hK8=>A (zm O (zk hp hr h [0] Tryz.call34 (aI n v4.1) O (fun _=>O) fun y9 h=>J (kj O O) O ?_))
 refine zc O (zQ hK8 (zB O h (fun _ h=>?_) fun _ h=>?_))
 · refine V (hK7 _ _ (z (zM h (fun (v11:L)=>[(0,.ptr 0 0),(3,.arr 10003 (List.length v4.2))]) (fun (v11:L)=>[(0,.box (Q v11)),(10003,.app 9 1 (ch v4.2))]) (fun v11 h=>?_) fun _ _ hK13 h=>?_)))
   · refine B fun _ hK14=>A (zm O (zm O (zk hp hr h [0] Tryz.call34 (aI n v11) O (fun _=>O) fun y15 h=>J (kj O O) O ?_)))
     refine b4 [y15.1.Text] fk ⟨O,O⟩ O ?_
     refine zd hr h fun hg16 h=>lQ 118 ⟨jV.h,eL.h,fk,hO,rq,hE _ O,O,O,(.inl O),⟨O,O,O⟩,hg16⟩ O ?_
     refine za O (aX (kz 118 10003 [(0,.ptr 0 0),(3,.arr 10003 (List.length (v4.2++[y15.1.Text])))] [(0,.box [F y15.2.text,.pv (.sl (List.length y15.2.bo) (au.Cs y15.2.bo)),I y15.2.at_,I v11.base,Bo y15.2.skip,.pv (.pt (Option.map aj.C y15.2.pending))])] (hE _ O) O O ⟨O,O⟩ ⟨⟨_,O,O,O⟩,⟨_,O,O,O⟩,trivial⟩ ⟨⟨_,O,O,O,O,O⟩,trivial⟩) ?_)
     exact zQ hK14 (A (zm O (zn O (zf O (zl O (zd hr h fun hg17 h=>zo hg17 O (zn O (zf O (zs O (N (hK6 _ _ _ h O)))))))))))
   · refine B fun _ hK18=>A (zm O (zk hp hr h [0] Tryz.call103 (iu n (L.mk y9.2.text y9.2.bo y9.2.at_ v4.1.base y9.2.skip y9.2.pending)) O (fun _=>O) fun y19 h=>J (eS O) O (zQ hK18 (zB O h (fun _ h=>?_) fun _ h=>?_))))
     · exact A (zm O (zk hp hr h [0] Tryz.call35 (bF n y19.2) O (fun _=>O) fun y21 h=>N (hK13 _ _ _ h O)))
     · exact V (hK13 _ _ _ h O)
 · refine bB (hK3 _ _ (B fun _ hK22=>A (zm O (za O (zQ hK22 (b3 (kz 10003 1 [(0,.ptr 0 0),(2,.arr 1 (List.length v4.2))] [(0,.box [F y9.2.text,.pv (.sl (List.length y9.2.bo) (au.Cs y9.2.bo)),I y9.2.at_,I v4.1.base,Bo y9.2.skip,.pv (.pt (Option.map aj.C y9.2.pending))])] (hE _ O) O O ⟨O,O⟩ ⟨⟨_,O,O,O⟩,⟨_,O,O,O⟩,trivial⟩ ⟨⟨_,O,O,O,O,O⟩,trivial⟩) ?_))))))
   exact H (zX (.cons (K O) .nil) h O)
def kA (n:Nat) (p0:L):D ((List (List UInt8))×L):=
 iter (fun next5 (v4:L×(List (List UInt8)))=>D.bind (az n v4.1) fun y9=>br (y9.1.Kind==6) (jn (fun (v11:L)=>D.bind (az n v11) fun y15=>gd (cV 16 (List.length v4.2) (List.length [y15.1.Text])) (gd (bK (y15.2.at_+1)) (next5 ((L.mk y15.2.text y15.2.bo (y15.2.at_+1) v11.base y15.2.skip y15.2.pending),v4.2++[y15.1.Text])))) fun j12=>D.bind (dP n (L.mk y9.2.text y9.2.bo y9.2.at_ v4.1.base y9.2.skip y9.2.pending)) fun y19=>br (!y19.1) (D.bind (bj n y19.2) fun y21=>j12 (y21)) (j12 (y19.2))) (.ok (v4.2,(L.mk y9.2.text y9.2.bo y9.2.at_ v4.1.base y9.2.skip y9.2.pending)))) n (p0,[])
theorem ny (n:Nat) (p0:L):CT Tryz.prog 55 [.ptr 0 0] [.box (Q p0)] (kA n p0) (fun x=>.pv (.sl (List.length x.1) (ch x.1))) (fun x=>[.box (Q x.2)]):=by
 refine zC Tryz.func55 O fun r hp h hr E hE=>B fun _ hK1=>A (za O (zQ hK1 (B fun _ hK2=>A (za O (zQ hK2 (B fun _ hK3=>z (b3 (sA (d:=3) 10003 (sz:=1) (el:=9) (hE _ O) O ⟨O,O,O⟩) ?_)))))))
 refine zL hr h (fun (v4:L×(List (List UInt8)))=>[(0,.ptr 0 0),(3,.arr 10003 (List.length v4.2))]) (fun (v4:L×(List (List UInt8)))=>[(0,.box (Q v4.1)),(10003,.app 9 1 (ch v4.2))]) O fun _ v4 _ hK6 h=>B fun _ hK7=>B fun _ hK8=>A (zm O (zk hp hr h [0] Tryz.call34 (aI n v4.1) O (fun _=>O) fun y9 h=>J (kj O O) O ?_))
 refine zc O (zQ hK8 (zB O h (fun _ h=>?_) fun _ h=>?_))
 · refine V (hK7 _ _ (z (zM h (fun (v11:L)=>[(0,.ptr 0 0),(3,.arr 10003 (List.length v4.2))]) (fun (v11:L)=>[(0,.box (Q v11)),(10003,.app 9 1 (ch v4.2))]) (fun v11 h=>?_) fun _ _ hK13 h=>?_)))
   · refine B fun _ hK14=>A (zm O (zm O (zk hp hr h [0] Tryz.call34 (aI n v11) O (fun _=>O) fun y15 h=>J (kj O O) O ?_)))
     refine b4 [y15.1.Text] fk ⟨O,O⟩ O ?_
     refine zd hr h fun hg16 h=>lQ 118 ⟨jV.h,eL.h,fk,hO,rq,hE _ O,O,O,(.inl O),⟨O,O,O⟩,hg16⟩ O ?_
     refine za O (aX (kz 118 10003 [(0,.ptr 0 0),(3,.arr 10003 (List.length (v4.2++[y15.1.Text])))] [(0,.box [F y15.2.text,.pv (.sl (List.length y15.2.bo) (au.Cs y15.2.bo)),I y15.2.at_,I v11.base,Bo y15.2.skip,.pv (.pt (Option.map aj.C y15.2.pending))])] (hE _ O) O O ⟨O,O⟩ ⟨⟨_,O,O,O⟩,⟨_,O,O,O⟩,trivial⟩ ⟨⟨_,O,O,O,O,O⟩,trivial⟩) ?_)
     exact zQ hK14 (A (zm O (zn O (zf O (zl O (zd hr h fun hg17 h=>zo hg17 O (zn O (zf O (zs O (N (hK6 _ _ _ h O)))))))))))
   · refine B fun _ hK18=>A (zm O (zk hp hr h [0] Tryz.call103 (iu n (L.mk y9.2.text y9.2.bo y9.2.at_ v4.1.base y9.2.skip y9.2.pending)) O (fun _=>O) fun y19 h=>J (eS O) O (zQ hK18 (zB O h (fun _ h=>?_) fun _ h=>?_))))
     · exact A (zm O (zk hp hr h [0] Tryz.call35 (bF n y19.2) O (fun _=>O) fun y21 h=>N (hK13 _ _ _ h O)))
     · exact V (hK13 _ _ _ h O)
 · refine bB (hK3 _ _ (B fun _ hK22=>A (J (lY fk hO O O O) O ?_)))
   exact za O (zQ hK22 (H (zX (.cons (K O) .nil) h O)))
def fE (n:Nat) (p0:(List (List UInt8))) (p1:Bool) (p2:L):D ((List o)×(List (List UInt8))×L):=
 iter (fun next7 (v6:L×(List (List UInt8))×(List o)×Int×Bool)=>D.bind (fq n v6.1) fun y11=>br (!y11.1) (D.bind (az n y11.2) fun y14=>jn (fun (v15:Bool)=>br v15 (gd (bK (y14.2.at_+1)) (next7 ((L.mk y14.2.text y14.2.bo (y14.2.at_+1) y11.2.base y14.2.skip y14.2.pending),v6.2.1,v6.2.2.1,v6.2.2.2.1,true))) (jn (fun (v21:L×Bool)=>br v21.2 (gd (bK ((List.length v6.2.2.1:Int) - 1)) (el v6.2.2.1 ((List.length v6.2.2.1:Int) - 1) fun x27=>gd (bK (v21.1.at_+1)) (next7 ((L.mk v21.1.text v21.1.bo (v21.1.at_+1) v21.1.base v21.1.skip v21.1.pending),v6.2.1,List.set v6.2.2.1 ((List.length v6.2.2.1:Int) - 1).toNat (o.mk x27.Kind x27.cG x27.Label x27.bt x27.bz x27.bf x27.Body x27.cz x27.jy y14.1.Text x27.Pos),v6.2.2.2.1,v6.2.2.2.2)))) (jn (fun (v32:L×Bool)=>br v32.2 (gd (cV 16 (List.length v6.2.1) (List.length [y14.1.Text])) (gd (bK (v32.1.at_+1)) (next7 ((L.mk v32.1.text v32.1.bo (v32.1.at_+1) v32.1.base v32.1.skip v32.1.pending),v6.2.1++[y14.1.Text],v6.2.2.1,v6.2.2.2.1,v6.2.2.2.2)))) (jn (fun (v39:Bool)=>br v39 (D.bind (bj n v32.1) fun y43=>next7 (y43,v6.2.1,v6.2.2.1,v6.2.2.2.1,v6.2.2.2.2)) (D.bind (cl n p1 v32.1) fun y45=>gd (cV 184 (List.length v6.2.2.1) (List.length [(o.mk y45.1.Kind y45.1.cG y45.1.Label y45.1.bt y45.1.bz y45.1.bf y45.1.Body y45.1.cz v6.2.1 y45.1.Trail y45.1.Pos)])) (next7 (y45.2,[],v6.2.2.1++[(o.mk y45.1.Kind y45.1.cG y45.1.Label y45.1.bt y45.1.bz y45.1.bf y45.1.Body y45.1.cz v6.2.1 y45.1.Trail y45.1.Pos)],y45.2.at_,false)))) fun j40=>br (y14.1.Kind==6) (j40 (true)) (j40 ((!v6.2.2.2.2))))) fun j33=>br (y14.1.Kind==6) (D.bind (dP n v21.1) fun y52=>j33 (y52.2,y52.1)) (j33 (v21.1,false)))) fun j22=>br (y14.1.Kind==6) (br (decide (v6.2.2.2.1>0)) (D.bind (eJ n v6.2.2.2.1 (L.mk y14.2.text y14.2.bo y14.2.at_ y11.2.base y14.2.skip y14.2.pending)) fun y55=>j22 (y55.2,y55.1)) (j22 ((L.mk y14.2.text y14.2.bo y14.2.at_ y11.2.base y14.2.skip y14.2.pending),false))) (j22 ((L.mk y14.2.text y14.2.bo y14.2.at_ y11.2.base y14.2.skip y14.2.pending),false)))) fun j16=>br (y14.1.Kind==7) (j16 (true)) (D.bind (bJ y14.1 ([44]:List UInt8)) fun y57=>j16 (y57))) (.ok (v6.2.2.1,v6.2.1,y11.2))) n (p2,p0,[],(-1),true)
theorem qR (n:Nat) (p0:(List (List UInt8))) (p1:Bool) (p2:L):CT Tryz.prog 60 [.ptr 0 0,.arr 1 (List.length p0),Bo p1] [.box (Q p2),.app 9 1 (ch p0)] (fE n p0 p1 p2) (fun x=>.fX [.pv (.sl (List.length x.1) (o.Cs x.1)),.pv (.sl (List.length x.2.1) (ch x.2.1))]) (fun x=>[.box (Q x.2.2),.app 9 1 (ch [])]):=by
 refine zC Tryz.func60 O fun r hp h hr E hE=>B fun _ hK1=>A (za O (za O (zQ hK1 (B fun _ hK2=>A (za O (zQ hK2 (B fun _ hK3=>A (za O (zQ hK3 (B fun _ hK4=>A (za O (zQ hK4 (B fun _ hK5=>z (b3 (AP (d:=8) 10008 (sz:=11) (el:=53) (hE _ O) O ⟨O,O,O⟩) ?_))))))))))))))
 refine b3 (kz 1 10001 [(0,.ptr 0 0),(1,.arr 10001 (List.length p0)),(2,Bo p1),(8,.arr 10008 (List.length ([]:List o))),(9,I (-1)),(10,Bo true)] [(0,.box (Q p2)),(10008,.arr 53 11 (o.Cs []))] (hE _ O) O O ⟨O,O⟩ ⟨⟨_,O,O,O⟩,⟨_,O,O,O⟩,⟨_,O,O,O⟩,⟨_,O,O,O⟩,⟨_,O,O,O⟩,⟨_,O,O,O⟩,trivial⟩ ⟨⟨_,O,O,O,O,O⟩,⟨_,O,O,O,O,O⟩,trivial⟩) ?_
 refine zL hr h (fun (v6:L×(List (List UInt8))×(List o)×Int×Bool)=>[(0,.ptr 0 0),(1,.arr 10001 (List.length v6.2.1)),(2,Bo p1),(8,.arr 10008 (List.length v6.2.2.1)),(9,I v6.2.2.2.1),(10,Bo v6.2.2.2.2)]) (fun (v6:L×(List (List UInt8))×(List o)×Int×Bool)=>[(0,.box (Q v6.1)),(10001,.app 9 1 (ch v6.2.1)),(10008,.arr 53 11 (o.Cs v6.2.2.1))]) O fun _ v6 _ hK8 h=>B fun _ hK9=>B fun _ hK10=>A (zm O (zk hp hr h [0] Tryz.call105 (mx n v6.1) O (fun _=>O) fun y11 h=>J (eS O) O (zQ hK10 (zB O h (fun _ h=>?_) fun _ h=>?_))))
 · refine V (hK9 _ _ (z (B fun _ hK13=>A (zm O (zk hp hr h [0] Tryz.call34 (aI n y11.2) O (fun _=>O) fun y14 h=>aK 111 (hE _ O) ⟨O,O,O,O⟩ O ?_)))))
   refine zs O (zQ hK13 (z (zM h (fun (v15:Bool)=>[(0,.ptr 0 0),(1,.arr 10001 (List.length v6.2.1)),(2,Bo p1),(8,.arr 10008 (List.length v6.2.2.1)),(9,I v6.2.2.2.1),(10,Bo v6.2.2.2.2),(11,.ptr 111 0),(31,Bo v15)]) (fun (v15:Bool)=>[(0,.box [F y14.2.text,.pv (.sl (List.length y14.2.bo) (au.Cs y14.2.bo)),I y14.2.at_,I y11.2.base,Bo y14.2.skip,.pv (.pt (Option.map aj.C y14.2.pending))]),(111,.box (fF y14.1)),(10001,.app 9 1 (ch v6.2.1)),(10008,.arr 53 11 (o.Cs v6.2.2.1))]) (fun v15 h=>?_) fun _ _ hK17 h=>?_)))
   · refine zB O h (fun _ h=>?_) fun _ h=>?_
     · exact B fun _ hK19=>A (za O (zQ hK19 (A (zm O (zn O (zf O (zl O (zd hr h fun hg20 h=>zo hg20 O (zn O (zf O (zs O (N (hK8 _ _ _ h O)))))))))))))
     · refine zM h (fun (v21:L×Bool)=>[(0,.ptr 0 0),(1,.arr 10001 (List.length v6.2.1)),(2,Bo p1),(8,.arr 10008 (List.length v6.2.2.1)),(9,I v6.2.2.2.1),(10,Bo v6.2.2.2.2),(11,.ptr 111 0),(46,Bo v21.2)]) (fun (v21:L×Bool)=>[(0,.box (Q v21.1)),(111,.box (fF y14.1)),(10001,.app 9 1 (ch v6.2.1)),(10008,.arr 53 11 (o.Cs v6.2.2.1))]) (fun v21 h=>?_) fun _ _ hK23 h=>?_
       · refine zB O h (fun _ h=>?_) fun _ h=>?_
         · refine B fun _ hK25=>A (zm O (zm O (J (mf O) O (zd hr h fun hg26 h=>J (qv O O hg26) O (zf O (zl O (ze hr h fun x27 h28 h29 h30 h=>J (me O O h28 h29) O (zf O (CC (⟨o.y,o.b7,h28,h30,O,O,O,O,O,lG.h,O,O,O⟩:vQ _ _ _ _ _ _ _ _ _ 9 _ _ _ _ _ _ (o.mk x27.Kind x27.cG x27.Label x27.bt x27.bz x27.bf x27.Body x27.cz x27.jy y14.1.Text x27.Pos) _ [.sc (S y14.1.Text)]) ?_)))))))))
           refine aX (CJ 8 (m':=List.length (List.set v6.2.2.1 ((List.length v6.2.2.1:Int) - 1).toNat (o.mk x27.Kind x27.cG x27.Label x27.bt x27.bz x27.bf x27.Body x27.cz x27.jy y14.1.Text x27.Pos))) O (by simp)) ?_
           exact zQ hK25 (A (zm O (zn O (zf O (zl O (zd hr h fun hg31 h=>zo hg31 O (zn O (zf O (zs O (N (hK8 _ _ _ h O)))))))))))
         · refine zM h (fun (v32:L×Bool)=>[(0,.ptr 0 0),(1,.arr 10001 (List.length v6.2.1)),(2,Bo p1),(8,.arr 10008 (List.length v6.2.2.1)),(9,I v6.2.2.2.1),(10,Bo v6.2.2.2.2),(11,.ptr 111 0),(74,Bo v32.2)]) (fun (v32:L×Bool)=>[(0,.box (Q v32.1)),(111,.box (fF y14.1)),(10001,.app 9 1 (ch v6.2.1)),(10008,.arr 53 11 (o.Cs v6.2.2.1))]) (fun v32 h=>?_) fun _ _ hK34 h=>?_
           · refine zB O h (fun _ h=>?_) fun _ h=>?_
             · refine B fun _ hK36=>A (zm O (zf O (zl O (b4 [y14.1.Text] fk ⟨O,O⟩ O ?_))))
               refine zd hr h fun hg37 h=>lQ 186 ⟨jV.h,eL.h,fk,hO,rq,hE _ O,O,O,(.inl O),⟨O,O,O⟩,hg37⟩ O ?_
               refine za O (aX (kz 186 10001 [(0,.ptr 0 0),(1,.arr 10001 (List.length (v6.2.1++[y14.1.Text]))),(2,Bo p1),(8,.arr 10008 (List.length v6.2.2.1)),(9,I v6.2.2.2.1),(10,Bo v6.2.2.2.2)] [(10008,.arr 53 11 (o.Cs v6.2.2.1)),(0,.box (Q v32.1))] (hE _ O) O O ⟨O,O⟩ ⟨⟨_,O,O,O⟩,⟨_,O,O,O⟩,⟨_,O,O,O⟩,⟨_,O,O,O⟩,⟨_,O,O,O⟩,⟨_,O,O,O⟩,trivial⟩ ⟨⟨_,O,O,O,O,O⟩,⟨_,O,O,O,O,O⟩,trivial⟩) ?_)
               exact zQ hK36 (A (zm O (zn O (zf O (zl O (zd hr h fun hg38 h=>zo hg38 O (zn O (zf O (zs O (N (hK8 _ _ _ h O)))))))))))
             · refine zM h (fun (v39:Bool)=>[(0,.ptr 0 0),(1,.arr 10001 (List.length v6.2.1)),(2,Bo p1),(8,.arr 10008 (List.length v6.2.2.1)),(9,I v6.2.2.2.1),(10,Bo v6.2.2.2.2),(94,Bo v39)]) (fun (v39:Bool)=>[(0,.box (Q v32.1)),(10001,.app 9 1 (ch v6.2.1)),(10008,.arr 53 11 (o.Cs v6.2.2.1))]) (fun v39 h=>?_) fun _ _ hK41 h=>?_
               · refine zB O h (fun _ h=>?_) fun _ h=>?_
                 · exact A (zm O (zk hp hr h [0] Tryz.call35 (bF n v32.1) O (fun _=>O) fun y43 h=>N (hK8 _ _ _ h O)))
                 · refine B fun _ hK44=>A (zm O (zm O (zk hp hr h [0] Tryz.call107 (rG n p1 v32.1) O (fun _=>O) fun y45 h=>aK 112 (hE _ O) ⟨O,O,O,O⟩ O ?_)))
                   refine zs O (zQ hK44 (B fun _ hK46=>A (J (lY fk hO O O O) O ?_)))
                   refine zf O (zs O (zQ hK46 (B fun _ hK47=>A (za O (zQ hK47 (B fun _ hK48=>A (zm O (zA O ?_))))))))
                   refine b4 [(o.mk y45.1.Kind y45.1.cG y45.1.Label y45.1.bt y45.1.bz y45.1.bf y45.1.Body y45.1.cz v6.2.1 y45.1.Trail y45.1.Pos)] o.y ⟨O,O⟩ O ?_
                   refine zd hr h fun hg49 h=>s3 126 ⟨jV.h,eL.h,o.y,o.b7,o.jh,hE _ O,O,O,(.inl O),⟨O,O,O⟩,hg49⟩ O ?_
                   refine za O (aX (jg 126 10008 [(0,.ptr 0 0),(1,Sc (.slice none 0 0)),(2,Bo p1),(8,.arr 10008 (List.length (v6.2.2.1++[(o.mk y45.1.Kind y45.1.cG y45.1.Label y45.1.bt y45.1.bz y45.1.bf y45.1.Body y45.1.cz v6.2.1 y45.1.Trail y45.1.Pos)])))] [(0,.box (Q y45.2))] (hE _ O) O O ⟨O,O⟩ ⟨⟨_,O,O,O⟩,⟨_,O,O,O⟩,⟨_,O,O,O⟩,⟨_,O,O,O⟩,trivial⟩ ⟨⟨_,O,O,O,O,O⟩,trivial⟩) ?_)
                   refine zQ hK48 (A (zm O (zn O (zf O (zl O (za O (za O (aX (sA (d:=1) 10001 (sz:=1) (el:=9) (hE _ O) O ⟨O,O,O⟩) ?_))))))))
                   exact N (hK8 _ _ _ h O)
               · refine A (zf O (zl O (zc O (zm O (zb (y14.1.Kind==6) (fun hb50=>?_) fun hb50=>?_)))))
                 · exact z1 hb50 h fun h=>zg hb50 O (zg hb50 O (zy hb50 O (za O (N (hK41 _ _ _ h O)))))
                 · exact z2 hb50 h fun h=>zG hb50 O (W O) (zG hb50 O (eS O) (zw hb50 O (za O (N (hK41 _ _ _ h O)))))
           · refine A (zf O (zl O (zc O (zm O (zb (y14.1.Kind==6) (fun hb51=>?_) fun hb51=>?_)))))
             · exact z1 hb51 h fun h=>zG hb51 O (W O) (zK hb51 O hp hr h [0] Tryz.call103 (iu n v21.1) O (fun _=>O) fun y52 h=>zy hb51 O (za O (N (hK34 _ _ _ h O))))
             · exact z2 hb51 h fun h=>zg hb51 O (zg hb51 O (zw hb51 O (za O (N (hK34 _ _ _ h O)))))
       · refine A (zf O (zl O (zc O (zm O (zb (y14.1.Kind==6) (fun hb53=>?_) fun hb53=>?_)))))
         · refine z1 hb53 h fun h=>zG hb53 O (W O) (zG hb53 O (bw O O O) (zy hb53 O (zm O (zb (decide (v6.2.2.2.1>0)) (fun hb54=>?_) fun hb54=>?_))))
           · exact z1 hb54 h fun h=>zG hb54 O (W O) (zG hb54 O (W O) (zK hb54 O hp hr h [0] Tryz.call106 (lp n v6.2.2.2.1 (L.mk y14.2.text y14.2.bo y14.2.at_ y11.2.base y14.2.skip y14.2.pending)) O (fun _=>O) fun y55 h=>zy hb54 O (za O (N (hK23 _ _ _ h O)))))
           · exact z2 hb54 h fun h=>zg hb54 O (zg hb54 O (zg hb54 O (zw hb54 O (za O (N (hK23 _ _ _ h O))))))
         · exact z2 hb53 h fun h=>zg hb53 O (zg hb53 O (zw hb53 O (zm O (zg O O (zg O O (zg O O (J (dI O O) O (za O (N (hK23 _ _ _ h O))))))))))
   · refine A (zf O (zl O (zc O (zm O (zb (y14.1.Kind==7) (fun hb56=>?_) fun hb56=>?_)))))
     · exact z1 hb56 h fun h=>zg hb56 O (zg hb56 O (zy hb56 O (za O (N (hK17 _ _ _ h O)))))
     · refine z2 hb56 h fun h=>zG hb56 O (iT O O O O) ?_
       exact zK hb56 O hp hr h [] Tryz.call72 (cI y14.1 ([44]:List UInt8)) O (fun _=>O) fun y57 h=>zw hb56 O (za O (N (hK17 _ _ _ h O)))
 · refine bB (hK5 _ _ (B fun _ hK58=>A (zm O (J (lY fk hO O O O) O ?_))))
   refine za O (za O (zQ hK58 (b3 (Cz (d:=6) o.y o.b7 O O O (hE _ O)) ?_)))
   refine b3 (FO 1 (el:=9) (sz:=1) [(0,.ptr 0 0),(1,.arr 10001 (List.length v6.2.1)),(2,Bo p1),(6,.pv (.sl (List.length v6.2.2.1) (o.Cs v6.2.2.1))),(7,.pv (.sl (List.length v6.2.1) (ch v6.2.1)))] [(0,.box (Q y11.2))] (hE _ O) ⟨O,O,O,O,O,trivial⟩ ⟨O,trivial⟩ ⟨O,O,O⟩) ?_
   exact H (zX (.cons (K O) (.cons (K O) .nil)) h O)
def jr (n:Nat) (p0:L):D (L):=
 jn (fun (v1:L)=>gd (bK (v1.at_+1)) (.ok ((L.mk v1.text v1.bo (v1.at_+1) v1.base v1.skip v1.pending)))) fun j2=>D.bind (az n p0) fun y6=>br (y6.1.Kind !=7) (D.bind (az n (L.mk y6.2.text y6.2.bo y6.2.at_ p0.base y6.2.skip y6.2.pending)) fun y8=>D.bind (bJ y8.1 ([44]:List UInt8)) fun y9=>br (!y9) (D.bind (bj n (L.mk y8.2.text y8.2.bo y8.2.at_ p0.base y8.2.skip y8.2.pending)) fun y11=>j2 (y11)) (j2 ((L.mk y8.2.text y8.2.bo y8.2.at_ p0.base y8.2.skip y8.2.pending)))) (j2 ((L.mk y6.2.text y6.2.bo y6.2.at_ p0.base y6.2.skip y6.2.pending)))
theorem kB (n:Nat) (p0:L):CT Tryz.prog 58 [.ptr 0 0] [.box (Q p0)] (jr n p0) (fun _=>.fX []) (fun x=>[.box (Q x)]):=by
 refine zC Tryz.func58 O fun r hp h hr E hE=>zM h (fun (v1:L)=>[(0,.ptr 0 0)]) (fun (v1:L)=>[(0,.box (Q v1))]) (fun v1 h=>?_) fun _ _ hK3 h=>?_
 · exact A (zm O (zn O (zf O (zl O (zd hr h fun hg4 h=>zo hg4 O (zn O (zf O (zs O (N (zY .nil h O))))))))))
 · refine B fun _ hK5=>A (zm O (zk hp hr h [0] Tryz.call34 (aI n p0) O (fun _=>O) fun y6 h=>J (kj O O) O ?_))
   refine zc O (zm O (zb (y6.1.Kind !=7) (fun hb7=>?_) fun hb7=>?_))
   · refine z1 hb7 h fun h=>zG hb7 O (W O) (zK hb7 O hp hr h [0] Tryz.call34 (aI n (L.mk y6.2.text y6.2.bo y6.2.at_ p0.base y6.2.skip y6.2.pending)) O (fun _=>O) fun y8 h=>zK hb7 O hp hr h [] Tryz.call72 (cI y8.1 ([44]:List UInt8)) O (fun _=>O) fun y9 h=>zG hb7 O (eS O) (zy hb7 O (zQ hK5 (zB O h (fun _ h=>?_) fun _ h=>?_))))
     · exact A (zm O (zk hp hr h [0] Tryz.call35 (bF n (L.mk y8.2.text y8.2.bo y8.2.at_ p0.base y8.2.skip y8.2.pending)) O (fun _=>O) fun y11 h=>N (hK3 _ _ _ h O)))
     · exact V (hK3 _ _ _ h O)
   · refine z2 hb7 h fun h=>zg hb7 O (zg hb7 O (zg hb7 O (zg hb7 O (zw hb7 O (zQ hK5 (dm O (fun hc=>?_) (fun hc=>?_)))))))
     · exact absurd (hc) (by simp)
     · exact V (hK3 _ _ _ h O)
end Go.Abs
end
section
namespace Go.Abs
open D
mutual
inductive iV:aj→Prop where
 | mk {k:Int} {t:List UInt8} {n:Int} {a b:List UInt8} {subs:List aj} {decls:List o} {tail:List (List UInt8)} {pos:Int} (h1:subs.length≤70000) (h2:decls.length≤70000) (h3:tail.length≤70000)
   (h4:∀ x,x∈tail→x.length≤65536) (h5:k=16→2≤subs.length) (hs:∀ x,x∈subs→iV x) (hd:∀ x,x∈decls→k3 x):iV (aj.mk k t n a b subs decls tail pos)
inductive k3:o→Prop where
 | mk {k p:Int} {lb a b:List UInt8} {subs:List aj} {body:List o} {tail lead:List (List UInt8)} {trail:List UInt8} {pos:Int} (h1:subs.length≤70000) (h2:body.length≤70000) (h3:tail.length≤70000)
   (h4:∀ x,x∈tail→x.length≤65536) (h5:lead.length≤70000) (h6:∀ x,x∈lead→x.length≤65536) (h7:trail.length≤65536) (h8:k=1∨k=2∨k=3→1≤subs.length)
   (hs:∀ x,x∈subs→iV x) (hd:∀ x,x∈body→k3 x):k3 (o.mk k p lb a b subs body tail lead trail pos)
end
theorem iV.l1 {e:aj} (h:iV e):e.bf.length≤70000:=by cases h;assumption
theorem iV.l2 {e:aj} (h:iV e):e.Decls.length≤70000:=by cases h;assumption
theorem iV.l3 {e:aj} (h:iV e):e.cz.length≤70000:=by cases h;assumption
theorem iV.l4 {e:aj} (h:iV e):∀ x,x∈e.cz→x.length≤65536:=by cases h;assumption
theorem iV.kd {e:aj} (h:iV e):e.Kind=16→2≤e.bf.length:=by cases h;assumption
theorem iV.s {e:aj} (h:iV e):∀ x,x∈e.bf→iV x:=by cases h;assumption
theorem iV.d {e:aj} (h:iV e):∀ x,x∈e.Decls→k3 x:=by cases h;assumption
theorem k3.l1 {e:o} (h:k3 e):e.bf.length≤70000:=by cases h;assumption
theorem k3.l2 {e:o} (h:k3 e):e.Body.length≤70000:=by cases h;assumption
theorem k3.l3 {e:o} (h:k3 e):e.cz.length≤70000:=by cases h;assumption
theorem k3.l4 {e:o} (h:k3 e):∀ x,x∈e.cz→x.length≤65536:=by cases h;assumption
theorem k3.l5 {e:o} (h:k3 e):e.jy.length≤70000:=by cases h;assumption
theorem k3.l6 {e:o} (h:k3 e):∀ x,x∈e.jy→x.length≤65536:=by cases h;assumption
theorem k3.l7 {e:o} (h:k3 e):e.Trail.length≤65536:=by cases h;assumption
theorem k3.kd {e:o} (h:k3 e):e.Kind=1∨e.Kind=2∨e.Kind=3→1≤e.bf.length:=by cases h;assumption
theorem k3.s {e:o} (h:k3 e):∀ x,x∈e.bf→iV x:=by cases h;assumption
theorem k3.d {e:o} (h:k3 e):∀ x,x∈e.Body→k3 x:=by cases h;assumption
theorem TS {k:Int} {t:List UInt8} {n:Int} {a b:List UInt8} {l:List aj} {d:List o} {tl:List (List UInt8)} {p:Int}:(aj.mk k t n a b l d tl p).bf=l:=rfl
theorem iV.of {k:Int} {t:List UInt8} {n:Int} {a b:List UInt8} {subs:List aj} {pos:Int} (h1:subs.length≤70000) (h5:k=16→2≤subs.length) (hs:∀ x,x∈subs→iV x):iV (aj.mk k t n a b subs [] [] pos):=
 .mk h1 (by simp) (by simp) (by simp) h5 hs (by simp)
theorem iV.leaf {k:Int} {t:List UInt8} {n:Int} {a b:List UInt8} {pos:Int} (h5:k≠16):iV (aj.mk k t n a b [] [] [] pos):=.of (by simp) (fun q=>absurd q h5) (by simp)
theorem iV.one {k:Int} {t:List UInt8} {n:Int} {a b:List UInt8} {x:aj} {pos:Int} (h5:k≠16) (hx:iV x):iV (aj.mk k t n a b [x] [] [] pos):=.of (by simp) (fun q=>absurd q h5) (by simpa using hx)
theorem iV.two {k:Int} {t:List UInt8} {n:Int} {a b:List UInt8} {x y:aj} {pos:Int} (hx:iV x) (hy:iV y):iV (aj.mk k t n a b [x,y] [] [] pos):=.of (by simp) (fun _=>by simp) (by simp;exact ⟨hx,hy⟩)
theorem A0 {e x:aj} (h:x∈e.bf):SizeOf.sizeOf x<SizeOf.sizeOf e:=by
 cases e;have:=List.sizeOf_lt_of_mem h;simp only[aj.bf] at this;simp;omega
theorem z8 {e:aj} {x:o} (h:x∈e.Decls):SizeOf.sizeOf x<SizeOf.sizeOf e:=by
 cases e;have:=List.sizeOf_lt_of_mem h;simp only[aj.Decls] at this;simp;omega
theorem CW {e:o} {x:aj} (h:x∈e.bf):SizeOf.sizeOf x<SizeOf.sizeOf e:=by
 cases e;have:=List.sizeOf_lt_of_mem h;simp only[o.bf] at this;simp;omega
theorem CX {e x:o} (h:x∈e.Body):SizeOf.sizeOf x<SizeOf.sizeOf e:=by
 cases e;have:=List.sizeOf_lt_of_mem h;simp only[o.Body] at this;simp;omega
theorem tU {c v:Int} (h0:0≤v) (h1:v≤c) {p:L}:∀ (N:Nat) {m:Nat→Nat} {e:aj},cm m→SizeOf.sizeOf e<N→iV e→Ev (fun i=>bk (m i) e v p) (fun r=>r.2=p∧iV r.1) (PP c):=by
 intro N
 induction N with
 | zero=>intro m e _ h;exact absurd h (Nat.not_lt_zero _)
 | succ N ih=>
  intro m e hm hN he
  refine Ev.grow (F:=fun n=>bk n e v p) hm fun m hm=>?_
  show Ev (fun i=>eM (m i) (eK (m i)) e v p) _ _
  unfold eM
  refine Ev.bE (fun hk=>?_) (fun _=>?_)
  ·have h2:=he.kd hk
   refine Ev.el (by omega) (by omega) fun x hx=>Ev.el (by omega) (by omega) fun y hy=>?_
   have hx:=List.mem_of_getElem? hx
   have hy:=List.mem_of_getElem? hy
   refine Ev.aQ (ih hm (by have:=A0 hx;omega) (he.s _ hx)) fun x2 hx2=>?_
   rw[hx2.1]
   refine Ev.aQ (ih hm (by have:=A0 hy;omega) (he.s _ hy)) fun y2 hy2=>?_
   exact Ev.ok ⟨hy2.1,.mk (by simp) he.l2 he.l3 he.l4 (fun _=>by simp) (by simp;exact ⟨hx2.2,hy2.2⟩) he.d⟩
  ·refine Ev.bE (fun _=>?_) (fun _=>Ev.ok ⟨rfl,he⟩)
   have hl:=he.l2
   refine Ev.iter hm (fun (x:L×List o×Int)=>x.1=p∧0≤x.2.2∧x.2.2≤e.Decls.length∧x.2.1.length=x.2.2∧∀ d,d∈x.2.1→k3 d) (fun x=>(e.Decls.length - x.2.2).toNat) ⟨rfl,by simp,by simp,by simp,by simp⟩ ?_
   rintro x ⟨hx1,hx2,hx3,hx4,hx5⟩ next hn
   refine Ev.ba (fun hlt=>?_) (fun _=>Ev.ok ⟨hx1,.mk he.l1 (by omega) he.l3 he.l4 (by simp) he.s hx5⟩)
   refine Ev.el (by omega) (by omega) fun d hd=>?_
   have hd:=List.mem_of_getElem? hd
   have hds:=he.d _ hd
   refine Ev.jn (fun w=>w.1=p∧k3 w.2) (fun w hw=>?_) (fun j hj=>?_)
   ·refine Ev.gd (by (first|omega|(simp[cV,maxLen]<;>omega))) (Ev.gd (by (first|omega|(simp[bK]<;>omega))) (hn _ ⟨hw.1,by dsimp only;omega,by dsimp only;omega,by simp;omega,fun z hz=>?_⟩ (by dsimp only;omega)))
    rcases List.mem_append.1 hz with q|q
    ·exact hx5 z q
    ·simp at q;subst q;exact hw.2
   ·refine Ev.jn (fun _=>True) (fun w _=>?_) (fun j2 hj2=>?_)
    ·refine Ev.br (fun _=>uT h0 h1) (fun _=>?_)
     refine Ev.jn (fun w=>w=true→d.Kind=1∨d.Kind=2∨d.Kind=3) (fun w hw=>?_) (fun j2 hj2=>?_)
     ·refine Ev.br (fun hw2=>?_) (fun _=>hj _ ⟨hx1,hds⟩)
      have:=hds.kd (hw hw2)
      refine Ev.el (by omega) (by omega) fun y hy=>?_
      have hy:=List.mem_of_getElem? hy
      rw[hx1]
      refine Ev.aQ (ih hm (by have:=CW hy;have:=z8 hd;omega) (hds.s _ hy)) fun y2 hy2=>?_
      exact hj _ ⟨hy2.1,.mk (by simp) hds.l2 hds.l3 hds.l4 hds.l5 hds.l6 hds.l7 (fun _=>by simp) (by simpa using hy2.2) hds.d⟩
     ·refine Ev.bE (fun h=>hj2 _ fun _=>.inl h) (fun _=>Ev.bE (fun h=>hj2 _ fun _=>.inr (.inl h)) (fun _=>hj2 _ fun h=>.inr (.inr (by simpa using h))))
    ·(repeat' (first|((with_reducible first|refine Ev.gd ?_ ?_|refine Ev.kp ?_ (fun _ _=>?_));(next=>(first|omega|(simp[bK,cV,c7,maxLen]<;>omega))))|with_reducible (first|apply Ev.cD|apply Ev.cg)|(with_reducible (first|apply Ev.ba|apply Ev.bE|apply Ev.b5|apply Ev.bA|apply Ev.br)<;>intro _)|((with_reducible apply Ev.jN);try dsimp only)))
     all_goals exact hj2 _ trivial
section
variable {s:List UInt8} {T:List au} {b:Int} {α X:Type} {Q:α→Prop} {R:oj→Prop} {m:Nat→Nat} {a:Int} {k:Bool} {q:Option aj} {c:Int}
def QS (q:Option aj):Prop:=∀ e,q=some e→iV e
theorem QS.none:QS none:=fun _ h=>by cases h
def St (s:List UInt8) (T:List au) (b:Int) (k:Bool) (a d:Int) (p:L):Prop:=∃ a' q',p=aY s T a' b k q'∧a≤a'∧a'+d<T.length∧QS q'
theorem fI {d:Int} {F:Nat→D (X×L)} {P:X→Prop} {K:Nat→X×L→D α} (h:Ev F (fun r=>St s T b k a d r.2∧P r.1) (PP c))
  (hk:∀ x a' q',a≤a'→a'+d<T.length→QS q'→P x→Ev (fun i=>K i (x,aY s T a' b k q')) Q (PP c)):Ev (fun i=>D.bind (F i) (K i)) Q (PP c):=by
 refine Ev.aQ h fun r hr=>?_
 obtain ⟨x,p⟩:=r
 obtain ⟨⟨a',q',hp,h1,h2,h3⟩,h4⟩:=hr
 dsimp only at hp
 subst hp
 exact hk x a' q' h1 h2 h3 h4
theorem sr {d:Int} {F:Nat→D (L×X)} {P:X→Prop} {K:Nat→L×X→D α} (h:Ev F (fun r=>St s T b k a d r.1∧P r.2) (PP c))
  (hk:∀ x a' q',a≤a'→a'+d<T.length→QS q'→P x→Ev (fun i=>K i (aY s T a' b k q',x)) Q (PP c)):Ev (fun i=>D.bind (F i) (K i)) Q (PP c):=by
 refine Ev.aQ h fun r hr=>?_
 obtain ⟨p,x⟩:=r
 obtain ⟨⟨a',q',hp,h1,h2,h3⟩,h4⟩:=hr
 dsimp only at hp
 subst hp
 exact hk x a' q' h1 h2 h3 h4
theorem pD (hm:cm m) {v:Int} (h0:0≤v) (h1:v≤c) {e:aj} (he:iV e) {p:L} {K:Nat→aj×L→D α} (hk:∀ x,iV x→Ev (fun i=>K i (x,p)) Q (PP c)) :
  Ev (fun i=>D.bind (bk (m i) e v p) (K i)) Q (PP c):=by
 refine Ev.aQ (tU h0 h1 _ hm (Nat.lt_succ_self _) he) fun r hr=>?_
 obtain ⟨x,p'⟩:=r
 obtain ⟨h1,h2⟩:=hr
 dsimp only at h1
 subst h1
 exact hk x h2
def yU (T:List au) (a:Int):Prop:=∃ t u,T[a.toNat]?=some t∧t.Kind=5∧T[(a+1).toNat]?=some u∧u.Kind≠0∧u.Kind≠7∧(u.Kind=5→∃ w,T[(a+2).toNat]?=some w∧w.Kind=3)
theorem xz (hm:cm m) (hC:PC s T b) (h0:0≤a) (h1:a<T.length) {K:Nat→Bool×L→D α}
  (hk:∀ a' r,a≤a'→a'<T.length→(∀ u,T[a.toNat]?=some u→(k=true→u.Kind≠7)→a'=a)→(r=true→yU T a')→Ev (fun i=>K i (r,aY s T a' b k q)) Q R):Ev (fun i=>D.bind (eA (m i) (aY s T a b k q)) (K i)) Q R:=by
 refine Ev.bind (Q:=fun r=>∃ a' x,r=(x,aY s T a' b k q)∧a≤a'∧a'<T.length∧(∀ u,T[a.toNat]?=some u→(k=true→u.Kind≠7)→a'=a)∧(x=true→yU T a')) (R':=gA) ?_ (fun _ q=>q.elim) fun r hr=>?_
 ·unfold eA
  have hl:=hC.ls
  refine fB hm hC h0 h1 fun a' t h2 h3 h4 h5 h6=>?_
  dsimp only
  refine jw fun r hr1 hr2=>Ev.bA (fun _=>Ev.ok ⟨a',_,rfl,h2,h3,h6,by simp⟩) (fun hr=>?_)
  obtain ⟨g1,g2⟩:=hr1 hr
  refine Ev.jn (fun v=>v.1=aY s T a' b k q∧2≤v.2∧v.2≤3∧yU T a') (fun v hv=>?_) (fun j hj=>?_)
  ·refine Ev.iter hm (fun (x:L×Int)=>x.1=aY s T a' b k q∧2≤x.2∧x.2≤T.length+3) (fun x=>(T.length+4 - x.2).toNat) ⟨hv.1,hv.2.1,by dsimp only;omega⟩ ?_
   rintro x ⟨hx1,hx2,hx3⟩ next hn
   rw[hx1]
   refine lT hC (by omega) h3 (by omega) (by omega) fun u hu=>?_
   dsimp only
   refine Ev.bE (fun h7=>?_) (fun _=>?_)
   ·have:=(hu (by omega)).2
    exact Ev.gd (by (first|omega|(simp[bK]<;>omega))) (hn _ ⟨rfl,by dsimp only;omega,by dsimp only;omega⟩ (by dsimp only;omega))
   ·refine lT hC (by omega) h3 (by omega) (by omega) fun u hu=>?_
    dsimp only
    refine jw fun r _ _=>Ev.br (fun _=>?_) (fun _=>Ev.ok ⟨a',_,rfl,h2,h3,h6,by simp⟩)
    refine Ev.gd (by (first|omega|(simp[bK]<;>omega))) (lT hC (by omega) h3 (by omega) (by omega) fun u hu=>?_)
    dsimp only
    exact jw fun r _ _=>Ev.ok ⟨a',_,rfl,h2,h3,h6,fun _=>hv.2.2.2⟩
  ·refine lT hC (by omega) h3 (by omega) (by omega) fun u hu=>?_
   dsimp only
   refine qe fun r hr1 hr2=>Ev.bA (fun _=>?_) (fun hr=>?_)
   ·refine lT hC (by omega) h3 (by omega) (by omega) fun u hu=>?_
    dsimp only
    refine jw fun r hr1 hr2=>Ev.bA (fun _=>Ev.ok ⟨a',_,rfl,h2,h3,h6,by simp⟩) (fun hr=>?_)
    obtain ⟨q1,q2⟩:=hr1 hr
    refine lT hC (by omega) h3 (by omega) (by omega) fun w hw=>?_
    dsimp only
    refine Ev.b5 (fun _=>Ev.ok ⟨a',_,rfl,h2,h3,h6,by simp⟩) (fun h3=>?_)
    exact hj _ ⟨rfl,by simp,by simp,t,u,h4,g1,(hu (by omega)).1,by omega,by omega,fun _=>⟨w,(hw (by omega)).1,h3⟩⟩
   ·obtain ⟨q1,q2⟩:=hr1 hr
    exact hj _ ⟨rfl,by simp,by simp,t,u,h4,g1,(hu (by omega)).1,by omega,by omega,fun _=>by omega⟩
 ·obtain ⟨a',x,rfl,h⟩:=hr
  exact hk a' x h.1 h.2.1 h.2.2.1 h.2.2.2
theorem tV (hm:cm m) (hC:PC s T b) (h0:0≤a) (hc:b+s.length≤c) (hq:QS q) {u:au} (hu:T[a.toNat]?=some u) (hk0:u.Kind≠0) (hk7:u.Kind≠7) (hw:u.Kind=5→∃ w,T[(a+1).toNat]?=some w∧w.Kind=3) {d:o} :
  Ev (fun i=>fp (m i) true (aY s T a b k q) d) (fun r=>St s T b k a 1 r.1∧(r.2=d∨∃ l,r.2=o.mk d.Kind d.cG l d.bt d.bz d.bf d.Body d.cz d.jy d.Trail d.Pos)) (PP c):=by
 have hl:=hC.ls
 have h1:a<T.length:=by have:=(List.getElem?_eq_some_iff.1 hu).1;omega
 unfold fp
 refine sr (b:=b) (T:=T) (s:=s) (k:=true) (a:=a) (d:=1) (P:=fun x=>x=d∨∃ l,x=o.mk d.Kind d.cG l d.bt d.bz d.bf d.Body d.cz d.jy d.Trail d.Pos) ?_ fun x a' q' h2 h3 h4 h5=>Ev.ok ⟨⟨a',q',rfl,h2,h3,h4⟩,h5⟩
 unfold gV
 dsimp only
 refine Ev.jn (fun v=>(∃ a',v.1=aY s T a' b true q∧a≤a'∧a'+1<T.length)∧(v.2=d∨∃ l,v.2=o.mk d.Kind d.cG l d.bt d.bz d.bf d.Body d.cz d.jy d.Trail d.Pos)) (fun v hv=>?_) (fun j hj=>?_)
 ·obtain ⟨⟨a',hv1,hv2,hv3⟩,hv4⟩:=hv
  rw[hv1]
  refine Ev.gd (by (first|omega|(simp[bK]<;>omega))) (mB hm hC (by dsimp only;omega) (by dsimp only;omega) hc fun a2 t h2 h3 h4 h5 _=>Ev.ok ⟨⟨a2,q,rfl,by dsimp only at h2;omega,h3,hq⟩,hv4⟩)
 ·refine ku hm hC h0 h1 (fun a' t h2 h3 h4 h5 h6 h7=>?_) (fun a' t h2 h3 h4 h5 h6 h7=>?_)
  ·dsimp only
   have ha:=h7 u hu (fun _=>hk7)
   subst ha
   have:u=t:=by
    have e:a+1 - 1=a:=by omega
    rw[e,hu] at h4;cases h4;rfl
   subst this
   obtain ⟨w,hw1,hw2⟩:=hw h5
   refine Ev.cD ?_
   refine fB hm hC (by omega) h3 fun a2 t2 h8 h9 h10 h11 h12=>?_
   dsimp only
   have ha2:=h12 w hw1 (fun _=>by omega)
   subst ha2
   have hnx:=hC.next (by omega) hw1 (by omega)
   refine Ev.ep (rJ hm) fun y _=>?_
   refine Ev.b5 (fun _=>jm hm hC (by omega) h9 hc) (fun _=>hj _ ⟨⟨_,rfl,by omega,by omega⟩,.inr ⟨_,rfl⟩⟩)
  ·dsimp only
   have ha:=h7 u hu (fun _=>hk7)
   subst ha
   have hnx:=hC.next (by omega) hu hk0
   exact Ev.cg (hj _ ⟨⟨_,rfl,by omega,by omega⟩,.inl rfl⟩)
end
mutual
inductive EE:aj→aj→Prop where
 | mk {k:Int} {t:List UInt8} {n:Int} {a b:List UInt8} {l l':List aj} {d d':List o} {tail:List (List UInt8)} {pos pos':Int} (h1:l.length=l'.length) (h2:∀ (i:Nat) x y,l[i]?=some x→l'[i]?=some y→EE x y)
   (h3:d.length=d'.length) (h4:∀ (i:Nat) x y,d[i]?=some x→d'[i]?=some y→DD x y):EE (aj.mk k t n a b l d tail pos) (aj.mk k t n a b l' d' tail pos')
inductive DD:o→o→Prop where
 | mk {k p:Int} {lb a b:List UInt8} {l l':List aj} {d d':List o} {tail lead:List (List UInt8)} {trail:List UInt8} {pos pos':Int} (h1:l.length=l'.length) (h2:∀ (i:Nat) x y,l[i]?=some x→l'[i]?=some y→EE x y)
   (h3:d.length=d'.length) (h4:∀ (i:Nat) x y,d[i]?=some x→d'[i]?=some y→DD x y):DD (o.mk k p lb a b l d tail lead trail pos) (o.mk k p lb a b l' d' tail lead trail pos')
end
section
variable {k n p:Int} {t a b lb:List UInt8} {l l':List aj} {d d':List o} {tail lead:List (List UInt8)} {trail:List UInt8} {pos pos':Int}
theorem EE.of (h:LR EE l l') (h':LR DD d d'):EE (aj.mk k t n a b l d tail pos) (aj.mk k t n a b l' d' tail pos'):=.mk h.1 h.2 h'.1 h'.2
theorem DD.of (h:LR EE l l') (h':LR DD d d'):DD (o.mk k p lb a b l d tail lead trail pos) (o.mk k p lb a b l' d' tail lead trail pos'):=.mk h.1 h.2 h'.1 h'.2
theorem EE.sub (h:LR EE l l'):EE (aj.mk k t n a b l [] tail pos) (aj.mk k t n a b l' [] tail pos'):=.of h .nil
theorem EE.leaf:EE (aj.mk k t n a b [] [] tail pos) (aj.mk k t n a b [] [] tail pos'):=.of .nil .nil
end
structure HJ (e e':aj):Prop where
 k:e'.Kind=e.Kind
 t:e'.Text=e.Text
 n:e'.jv=e.jv
 a:e'.bt=e.bt
 b:e'.bz=e.bz
 tl:e'.cz=e.cz
 s:LR EE e.bf e'.bf
 d:LR DD e.Decls e'.Decls
theorem EE.x {e e':aj} (h:EE e e'):HJ e e':=by
 cases h with
 | mk h1 h2 h3 h4=>exact ⟨rfl,rfl,rfl,rfl,rfl,rfl,⟨h1,h2⟩,⟨h3,h4⟩⟩
theorem HJ.sub {e e':aj} (h:HJ e e') {l l':List aj} {pos pos':Int} (hl:LR EE l l'):EE (aj.mk e.Kind e.Text e.jv e.bt e.bz l [] [] pos) (aj.mk e'.Kind e'.Text e'.jv e'.bt e'.bz l' [] [] pos'):=by
 rw[h.k,h.t,h.n,h.a,h.b];exact .sub hl
structure H4 (e e':o):Prop where
 k:e'.Kind=e.Kind
 p:e'.cG=e.cG
 t:e'.Label=e.Label
 a:e'.bt=e.bt
 b:e'.bz=e.bz
 tl:e'.cz=e.cz
 ld:e'.jy=e.jy
 tr:e'.Trail=e.Trail
 s:LR EE e.bf e'.bf
 d:LR DD e.Body e'.Body
theorem DD.x {e e':o} (h:DD e e'):H4 e e':=by
 cases h with
 | mk h1 h2 h3 h4=>exact ⟨rfl,rfl,rfl,rfl,rfl,rfl,rfl,rfl,⟨h1,h2⟩,⟨h3,h4⟩⟩
def QR (q q':Option aj):Prop:=(q=none∧q'=none)∨∃ e e',q=some e∧q'=some e'∧EE e e'
theorem QR.none:QR none none:=.inl ⟨rfl,rfl⟩
theorem QR.HW {q q':Option aj} (h:QR q q'):(q'.map aj.C).isNone=(q.map aj.C).isNone:=by
 rcases h with ⟨rfl,rfl⟩|⟨e,e',rfl,rfl,_⟩<;>rfl
theorem QR.H5 {q q':Option aj} (h:QR q q'):(q'.map aj.C).isSome=(q.map aj.C).isSome:=by
 rcases h with ⟨rfl,rfl⟩|⟨e,e',rfl,rfl,_⟩<;>rfl
structure Cx where
 s:List UInt8
 T:List au
 b:Int
 s':List UInt8
 T':List au
 b':Int
 κ:Nat
 par:Bool
def ST (p:Bool) (t t':au):Prop:=(t'.Kind=t.Kind∧t'.Text=t.Text)∨(p=true∧t.Kind=0∧t.Text=[]∧t'.Kind=5∧t'.Text=[41])
def cap (l:List au) (i:Int):Int:=if (l.length:Int) - 1<i then (l.length:Int) - 1 else i
structure Cx.kW (C:Cx):Prop where
 HK:∀ (i:Int) t t',0≤cap C.T i→0≤cap C.T' (i+C.κ)→C.T[(cap C.T i).toNat]?=some t→C.T'[(cap C.T' (i+C.κ)).toNat]?=some t'→ST C.par t t'
 tok:∀ (i:Nat) t t',C.T[i]?=some t→C.T'[i+C.κ]?=some t'→ST C.par t t'
 nl:∀ (i j:Nat) t u t' u',C.T[i]?=some t→C.T[j]?=some u→C.T'[i+C.κ]?=some t'→C.T'[j+C.κ]?=some u'→RS NZ Eq (strings_Contains (sub C.s t.End u.Pos) [10]) (strings_Contains (sub C.s' t'.End u'.Pos) [10])
 last:C.par=true→∀ (i:Nat) t,C.T[i]?=some t→t.Kind=0→i+1=C.T.length
theorem Cx.kW.refl {s:List UInt8} {T:List au} {b b':Int}:(Cx.mk s T b s T b' 0 false).kW where
 HK:=fun i t t' _ _ h h'=>by simp at h h';rw[h] at h';cases h';exact .inl ⟨rfl,rfl⟩
 tok:=fun i t t' h h'=>by simp at h h';rw[h] at h';cases h';exact .inl ⟨rfl,rfl⟩
 nl:=fun i j t u t' u' h1 h2 h3 h4=>by
  simp at h1 h2 h3 h4
  rw[h1] at h3;rw[h2] at h4;cases h3;cases h4
  exact fun a e=>.inr (.inr ⟨a,e,rfl⟩)
 last:=fun h=>by cases h
def Rl (C:Cx) (k:Bool) (a:Int) (p p':L):Prop:=∃ a1,p=aY C.s C.T a1 C.b k none∧p'=aY C.s' C.T' (a1+C.κ) C.b' k none∧a≤a1
abbrev VE (C:Cx) (k:Bool) (a:Int) (r r':aj×L):Prop:=Rl C k a r.2 r'.2∧EE r.1 r'.1
section
variable {C:Cx} {α β X Y:Type} {V:α→β→Prop} {Z:α→Prop} {m:Nat} {a:Int} {k:Bool} {q q':Option aj}
theorem Rl.mk {a1:Int} (h1:a≤a1):Rl C k a (aY C.s C.T a1 C.b k none) (aY C.s' C.T' (a1+C.κ) C.b' k none):=⟨a1,rfl,rfl,h1⟩
theorem Rl.mk' {a1 a2:Int} (h1:a≤a1) (h2:a2=a1+C.κ):Rl C k a (aY C.s C.T a1 C.b k none) (aY C.s' C.T' a2 C.b' k none):=⟨a1,rfl,by rw[h2],h1⟩
theorem jP {P:X→Y→Prop} {x:D (X×L)} {y:D (Y×L)} {K:X×L→D α} {K':Y×L→D β} (h:RS NZ (fun r r'=>Rl C k a r.2 r'.2∧P r.1 r'.1) x y)
  (hk:∀ v w a1,a≤a1→P v w→RS Z V (K (v,aY C.s C.T a1 C.b k none)) (K' (w,aY C.s' C.T' (a1+C.κ) C.b' k none))):RS Z V (D.bind x K) (D.bind y K'):=by
 refine RS.bind h fun r r' hr=>?_
 obtain ⟨v,p⟩:=r
 obtain ⟨w,p'⟩:=r'
 obtain ⟨⟨a1,h1,h2,h3⟩,h5⟩:=hr
 dsimp only at h1 h2 h5
 subst h1 h2
 exact hk v w a1 h3 h5
theorem CY {P:X→Y→Prop} {x:D (L×X)} {y:D (L×Y)} {K:L×X→D α} {K':L×Y→D β} (h:RS NZ (fun r r'=>Rl C k a r.1 r'.1∧P r.2 r'.2) x y)
  (hk:∀ v w a1,a≤a1→P v w→RS Z V (K (aY C.s C.T a1 C.b k none,v)) (K' (aY C.s' C.T' (a1+C.κ) C.b' k none,w))):RS Z V (D.bind x K) (D.bind y K'):=by
 refine RS.bind h fun r r' hr=>?_
 obtain ⟨p,v⟩:=r
 obtain ⟨p',w⟩:=r'
 obtain ⟨⟨a1,h1,h2,h3⟩,h5⟩:=hr
 dsimp only at h1 h2 h5
 subst h1 h2
 exact hk v w a1 h3 h5
def Rk (C:Cx) (k k':Bool) (a:Int) (p p':L):Prop:=∃ a1 t,p=aY C.s C.T a1 C.b k none∧p'=aY C.s' C.T' (a1+C.κ) C.b' k' none∧a≤a1∧C.T[a1.toNat]?=some t∧t.Kind=5
theorem Bt {k':Bool} {P:X→Y→Prop} {x:D (L×X)} {y:D (L×Y)} {K:L×X→D α} {K':L×Y→D β} (h:RS NZ (fun r r'=>Rk C k k' a r.1 r'.1∧P r.2 r'.2) x y)
  (hk:∀ v w a1 t,a≤a1→C.T[a1.toNat]?=some t→t.Kind=5→P v w→RS Z V (K (aY C.s C.T a1 C.b k none,v)) (K' (aY C.s' C.T' (a1+C.κ) C.b' k' none,w))):RS Z V (D.bind x K) (D.bind y K'):=by
 refine RS.bind h fun r r' hr=>?_
 obtain ⟨p,v⟩:=r
 obtain ⟨p',w⟩:=r'
 obtain ⟨⟨a1,t,h1,h2,h3,h4,h5⟩,h6⟩:=hr
 dsimp only at h1 h2 h6
 subst h1 h2
 exact hk v w a1 t h3 h4 h5 h6
theorem tn (h0:0≤a) {κ:Nat}:(a+κ).toNat=a.toNat+κ:=by omega
theorem ST.kk {p:Bool} {t t':au} (h:ST p t t') {n:Int} (h0:n≠0) (h5:n≠5):(t'.Kind==n)=(t.Kind==n):=by
 rcases h with h|⟨_,h1,_,h2,_⟩
 ·rw[h.1]
 ·rw[h1,h2,Bool.eq_iff_iff];simp;omega
theorem ST.HX {p:Bool} {t t':au} (h:ST p t t') {n:Int} (h0:n≠0) (h5:n≠5):(t'.Kind !=n)=(t.Kind !=n):=by simp only[bne,h.kk h0 h5]
theorem ST.s {p:Bool} {t t':au} (h:ST p t t') (hk:t.Kind≠0):t'.Kind=t.Kind∧t'.Text=t.Text:=by
 rcases h with h|⟨_,h1,_⟩
 ·exact h
 ·exact absurd h1 hk
theorem nA {t:au} {x:List UInt8} (h:t.Kind≠5):bJ t x=.ok false:=by
 unfold bJ
 cases e:t.Kind==5 with
 | false=>rfl
 | true=>exact absurd (by simpa using e) h
theorem CZ {t:au} {x:List UInt8} (h:t.Kind=5):bJ t x=.ok (t.Text==x):=by
 unfold bJ
 rw[h];rfl
theorem Hi {p:Bool} {t t':au} (h:ST p t t') {x:List UInt8} (hx:x≠[41]):bJ t' x=bJ t x:=by
 rcases h with h|⟨_,h1,_,h2,h3⟩
 ·unfold bJ;rw[h.1,h.2]
 ·rw[CZ h2,h3,nA (t:=t) (by omega),beq_eq_false_iff_ne.2 hx.symm]
theorem Ei {p:Bool} {t t':au} (h:ST p t t') (x:List UInt8):eI t' x=eI t x:=by
 unfold eI;rw[h.kk (by decide) (by decide)]
 rcases h with h|⟨_,h1,_⟩
 ·rw[h.2]
 ·rw[h1];rfl
theorem Aa {p:Bool} {t t':au} (h:ST p t t'):eU m t'=eU m t:=by
 unfold eU;rw[h.kk (by decide) (by decide),h.kk (by decide) (by decide)]
 rcases h with h|⟨_,h1,_⟩
 ·rw[h.2]
 ·rw[h1];rfl
theorem yV {t:au} {x:List UInt8} {r:Bool} (hr:bJ t x=.ok r) (e:r=true):t.Kind=5∧t.Text=x:=by
 subst e
 unfold bJ at hr
 cases h5:t.Kind==5 with
 | false=>rw[h5] at hr;simp[D.br] at hr
 | true=>rw[h5] at hr;simp[D.br] at hr;exact ⟨by simpa using h5,hr⟩
theorem ka {p:Bool} {t t':au} (h:ST p t t') {x:List UInt8} {K:Bool→D α} {K':Bool→D β} (hk:∀ r,(r=true→t.Kind=5∧t.Text=x)→RS Z V (K r) (K' r)) (hx:x≠[41]:=by decide):RS Z V (D.bind (bJ t x) K) (D.bind (bJ t' x) K'):=by
 rw[Hi h hx]
 exact RS.same fun r hr=>hk r (yV hr)
theorem ql {p:Bool} {t t':au} (h:ST p t t') {x:List UInt8} {K:Bool→D α} {K':Bool→D β} (hk:∀ r,RS Z V (K r) (K' r)):RS Z V (D.bind (eI t x) K) (D.bind (eI t' x) K'):=by
 rw[Ei h];exact RS.same fun r _=>hk r
theorem C0 {l:List (List UInt8)} {x:List UInt8} (hx:l.contains x=false) (n:Nat):slices_Contains_string n l x=.stuck∨slices_Contains_string n l x=.ok false:=by
 have H:∀ (n:Nat) (v:Int),slices_Index_string n l x=.stuck∨slices_Index_string n l x=.ok (-1):=by
  unfold slices_Index_string
  suffices H:∀ (n:Nat) (v:Int),D.iter (fun next (v:Int)=>D.br (decide (v<(l.length:Int))) (D.el l v fun y=>D.br (x==y) (.ok v) (D.gd (bK (v+1)) (next (v+1)))) (.ok (-1))) n v=.stuck∨D.iter (fun next (v:Int)=>D.br (decide (v<(l.length:Int))) (D.el l v fun y=>D.br (x==y) (.ok v) (D.gd (bK (v+1)) (next (v+1)))) (.ok (-1))) n v=.ok (-1) from fun n _=>H n 0
  intro n
  induction n with
  | zero=>exact fun _=>.inl rfl
  | succ n ih=>
   intro v
   simp only[D.iter]
   cases decide (v<(l.length:Int)) with
   | false=>exact .inr rfl
   | true=>
    simp only[D.br,D.el]
    split
    ·split
     ·rename_i y hy
      have hy:=List.mem_of_getElem? hy
      have e:(x==y)=false:=by
       cases q:x==y with
       | false=>rfl
       | true=>
        have q:=beq_iff_eq.1 q
        subst q
        rw[List.contains_iff_mem.2 hy] at hx;cases hx
      rw[e]
      simp only[D.gd]
      split
      ·exact ih _
      ·exact .inl rfl
     ·exact .inl rfl
    ·exact .inl rfl
 unfold slices_Contains_string
 rcases H n 0 with q|q
 ·rw[q];exact .inl rfl
 ·rw[q];exact .inr rfl
theorem ta {p:Bool} {t t':au} (h:ST p t t') {x:List UInt8} {K:Bool→D α} {K':Bool→D β} (hk:∀ r,(r=true→t.Kind=5)→RS Z V (K r) (K' r)) (hx:(mM [32] (x.length+1) x).contains [41]=false:=by rfl):RS Z V (D.bind (dM m t x) K) (D.bind (dM m t' x) K'):=by
 refine RS.bind (W:=fun a b=>b=a∧(a=true→t.Kind=5)) ?_ fun a b h=>by rw[h.1];exact hk a h.2
 rcases h with h|⟨_,h1,_,h2,h3⟩
 ·unfold dM;rw[h.1,h.2]
  refine RS.br rfl (fun h5=>?_) (fun _=>RS.ok ⟨rfl,fun h=>by cases h⟩)
  exact RS.same fun y _=>RS.same fun z _=>RS.ok ⟨rfl,fun _=>by simpa using h5⟩
 ·unfold dM
  rw[h1,h2,h3]
  show RS NZ _ (.ok false) (D.bind (strings_Split x [32]) fun y=>D.bind (slices_Contains_string m y [41]) fun z=>.ok z)
  unfold strings_Split D.gd
  split
  ·show RS NZ _ (.ok false) (D.bind (slices_Contains_string m (mM [32] (x.length+1) x) [41]) fun z=>.ok z)
   rcases C0 hx m with q|q
   ·rw[q];exact RS.sD
   ·rw[q];exact RS.ok ⟨rfl,fun h=>by cases h⟩
  ·exact RS.sD
theorem sJ {p:Bool} {t t':au} (h:ST p t t') {K:Bool→D α} {K':Bool→D β} (hk:∀ r,(r=true→t.Kind=3∨t.Kind=1)→RS Z V (K r) (K' r)):RS Z V (D.bind (eU m t) K) (D.bind (eU m t') K'):=by
 rw[Aa h]
 refine RS.same fun r hr=>hk r fun e=>?_
 subst e
 unfold eU at hr
 cases h3:t.Kind==3 with
 | true=>exact .inl (by simpa using h3)
 | false=>
  cases h1:t.Kind==1 with
  | true=>exact .inr (by simpa using h1)
  | false=>rw[h3,h1] at hr;simp[D.br] at hr
theorem Gd (hC:C.kW) (h0:0≤a):RS NZ (fun r r'=>∃ a1 t t',r=(t,aY C.s C.T a1 C.b k q)∧r'=(t',aY C.s' C.T' (a1+C.κ) C.b' k q')∧a≤a1∧C.T[a1.toNat]?=some t∧C.T'[a1.toNat+C.κ]?=some t'∧ST C.par t t'∧(k=true→t.Kind≠7)∧∀ u,C.T[a.toNat]?=some u→(k=true→u.Kind≠7)→a1=a)
  (az m (aY C.s C.T a C.b k q)) (az m (aY C.s' C.T' (a+C.κ) C.b' k q')):=by
 unfold az
 refine RS.jn (fun v w=>∃ a1,v=aY C.s C.T a1 C.b k q∧w=aY C.s' C.T' (a1+C.κ) C.b' k q'∧a≤a1∧(k=true→∀ t,C.T[a1.toNat]?=some t→t.Kind≠7)∧∀ u,C.T[a.toNat]?=some u→(k=true→u.Kind≠7)→a1=a) (fun v w h=>?_) (fun j j' hj=>?_)
 ·obtain ⟨a1,rfl,rfl,h1,h7,h8⟩:=h
  refine RS.el fun t t' _ _ ht ht'=>RS.ok ?_
  dsimp only at ht ht'
  rw[tn (by omega)] at ht'
  exact ⟨a1,t,t',rfl,rfl,h1,ht,ht',hC.tok _ _ _ ht ht',fun h=>h7 h t ht,h8⟩
 ·refine RS.iter (fun v w=>∃ a1,v=aY C.s C.T a1 C.b k q∧w=aY C.s' C.T' (a1+C.κ) C.b' k q'∧a≤a1∧∀ u,C.T[a.toNat]?=some u→(k=true→u.Kind≠7)→a1=a) (fun v w h next next' hn=>?_) _ _ ⟨a,rfl,rfl,by omega,fun _ _ _=>rfl⟩
  obtain ⟨a1,rfl,rfl,h1,h8⟩:=h
  dsimp only
  refine RS.br rfl (fun hk=>?_) (fun hk=>hj _ _ ⟨a1,rfl,rfl,h1,(fun h=>by rw[hk] at h;cases h),h8⟩)
  refine RS.el fun t t' _ _ ht ht'=>?_
  rw[tn (by omega)] at ht'
  have hs:=hC.tok _ _ _ ht ht'
  refine RS.br (hs.kk (by decide) (by decide)) (fun h7=>?_) (fun h7=>hj _ _ ⟨a1,rfl,rfl,h1,fun _ u hu=>by rw[ht] at hu;cases hu;simpa using h7,h8⟩)
  refine RS.gd fun _ _=>hn _ _ ⟨a1+1,rfl,by congr 1;omega,by omega,fun u hu hk2=>?_⟩
  have e:=h8 u hu hk2
  subst e
  rw[ht] at hu;cases hu
  exact absurd (by simpa using h7) (hk2 hk)
theorem fZ (hC:C.kW) {K:au×L→D α} {K':au×L→D β} (hk:∀ a1 t t',a≤a1→C.T[a1.toNat]?=some t→ST C.par t t'→((k=true→t.Kind≠7)∧∀ u,C.T[a.toNat]?=some u→(k=true→u.Kind≠7)→a1=a)→RS Z V (K (t,aY C.s C.T a1 C.b k q)) (K' (t',aY C.s' C.T' (a1+C.κ) C.b' k q'))) (h0:0≤a:=by omega) :
  RS Z V (D.bind (az m (aY C.s C.T a C.b k q)) K) (D.bind (az m (aY C.s' C.T' (a+C.κ) C.b' k q')) K'):=by
 refine RS.bind (Gd hC h0) fun r r' h=>?_
 obtain ⟨a1,t,t',rfl,rfl,h1,h2,h3,h4,h5⟩:=h
 exact hk a1 t t' h1 h2 h4 h5
theorem lz (hC:C.kW) {K:Int×L→D α} {K':Int×L→D β} (hk:∀ a1 v w,a≤a1→(∀ u,C.T[a.toNat]?=some u→(k=true→u.Kind≠7)→a1=a)→RS Z V (K (v,aY C.s C.T a1 C.b k q)) (K' (w,aY C.s' C.T' (a1+C.κ) C.b' k q'))) (h0:0≤a:=by omega) :
  RS Z V (D.bind (bm m (aY C.s C.T a C.b k q)) K) (D.bind (bm m (aY C.s' C.T' (a+C.κ) C.b' k q')) K'):=by
 refine RS.bind (W:=fun r r'=>∃ a1 v w,r=(v,aY C.s C.T a1 C.b k q)∧r'=(w,aY C.s' C.T' (a1+C.κ) C.b' k q')∧a≤a1∧∀ u,C.T[a.toNat]?=some u→(k=true→u.Kind≠7)→a1=a) ?_ fun r r' h=>?_
 ·unfold bm
  exact fZ hC fun a1 t t' h1 _ _ h5=>RS.gd fun _ _=>RS.ok ⟨a1,_,_,rfl,rfl,h1,h5.2⟩
 ·obtain ⟨a1,v,w,rfl,rfl,h1,h2⟩:=h
  exact hk a1 v w h1 h2
theorem xA {v:Int} {p:L} {K:L→D α} {y:D β}:RS Z V (D.bind (eh v p) K) y:=by unfold eh;exact RS.kT
theorem kv {p:L} {K:L→D α}:gZ (D.bind (bj m p) K):=by
 intro a e
 unfold bj eh at e
 cases h:bm m p with
 | stuck=>rw[h] at e;cases e
 | kT _=>rw[h] at e;cases e
 | ok r=>rw[h] at e;cases e
theorem gr {p:L} {K:L→D α} {y:D β}:RS Z V (D.bind (bj m p) K) y:=RS.yC kv
theorem xB {s:List UInt8} {T:List au} {b:Int} (h:(T.length:Int)≤a):gZ (az m (aY s T a b k q)):=by
 have e:T[a.toNat]?=none:=List.getElem?_eq_none (by omega)
 unfold az
 cases m with
 | zero=>exact fun r e=>by cases e
 | succ m=>
  show gZ (D.br k _ _)
  refine gZ.br (fun _=>?_) (fun _=>?_)
  ·simp only[D.el]
   rw[e]
   split<;>exact fun r e=>by cases e
  ·simp only[D.el]
   rw[e]
   split<;>exact fun r e=>by cases e
theorem kx (hC:C.kW) {x:List UInt8} {K:Bool×L→D α} {K':Bool×L→D β}
  (ht:∀ a1 t,a<a1→C.T[(a1 - 1).toNat]?=some t→t.Kind=5→RS Z V (K (true,aY C.s C.T a1 C.b k q)) (K' (true,aY C.s' C.T' (a1+C.κ) C.b' k q')))
  (hf:∀ a1,a≤a1→RS Z V (K (false,aY C.s C.T a1 C.b k q)) (K' (false,aY C.s' C.T' (a1+C.κ) C.b' k q'))) (hx:x≠[41]:=by decide) (h0:0≤a:=by omega) :
  RS Z V (D.bind (bc m x (aY C.s C.T a C.b k q)) K) (D.bind (bc m x (aY C.s' C.T' (a+C.κ) C.b' k q')) K'):=by
 refine RS.bind (W:=fun r r'=>(∃ a1 t,r=(true,aY C.s C.T a1 C.b k q)∧r'=(true,aY C.s' C.T' (a1+C.κ) C.b' k q')∧a<a1∧C.T[(a1 - 1).toNat]?=some t∧t.Kind=5)∨∃ a1,r=(false,aY C.s C.T a1 C.b k q)∧r'=(false,aY C.s' C.T' (a1+C.κ) C.b' k q')∧a≤a1) ?_ fun r r' h=>?_
 ·unfold bc
  refine fZ hC fun a1 t t' h1 h2 h4 _=>?_
  dsimp only
  refine ka h4 (fun r hr=>RS.br rfl (fun _=>RS.ok (.inr ⟨a1,rfl,rfl,h1⟩)) (fun e=>?_)) hx
  exact RS.gd fun _ _=>RS.ok (.inl ⟨a1+1,t,rfl,by congr 2;omega,by omega,by simpa using h2,(hr (by simpa using e)).1⟩)
 ·rcases h with ⟨a1,t,rfl,rfl,h1,h2,h3⟩|⟨a1,rfl,rfl,h1⟩
  ·exact ht a1 t h1 h2 h3
  ·exact hf a1 h1
theorem js (hC:C.kW) {x:List UInt8} {K:L→D α} {K':L→D β}
  (hk:∀ a1 t,a<a1→C.T[(a1 - 1).toNat]?=some t→t.Kind=5→RS Z V (K (aY C.s C.T a1 C.b k q)) (K' (aY C.s' C.T' (a1+C.κ) C.b' k q'))) (hx:x≠[41]:=by decide) (h0:0≤a:=by omega) :
  RS Z V (D.bind (bu m x (aY C.s C.T a C.b k q)) K) (D.bind (bu m x (aY C.s' C.T' (a+C.κ) C.b' k q')) K'):=by
 refine RS.bind (W:=fun r r'=>∃ a1 t,r=aY C.s C.T a1 C.b k q∧r'=aY C.s' C.T' (a1+C.κ) C.b' k q'∧a<a1∧C.T[(a1 - 1).toNat]?=some t∧t.Kind=5) ?_ fun r r' h=>?_
 ·unfold bu
  exact kx hC (fun a1 t h1 h2 h3=>RS.ok ⟨a1,t,rfl,rfl,h1,h2,h3⟩) (fun a1 _=>gr) hx
 ·obtain ⟨a1,t,rfl,rfl,h1,h2,h3⟩:=h
  exact hk a1 t h1 h2 h3
end
end Go.Abs
end
section
namespace Go.Abs
open D
section
variable {C:Cx} {α β X Y:Type} {V:α→β→Prop} {Z:α→Prop} {m:Nat} {a:Int} {k:Bool} {q q':Option aj}
theorem mD (hC:C.kW) {x:List UInt8} {K:L→D α} {K':L→D β} (hk:∀ a1 t,a≤a1→C.T[a1.toNat]?=some t→t.Kind=5→RS Z V (K (aY C.s C.T a1 C.b k q)) (K' (aY C.s' C.T' (a1+C.κ) C.b' k q'))) (h0:0≤a:=by omega) :
  RS Z V (D.bind (bV m x (aY C.s C.T a C.b k q)) K) (D.bind (bV m x (aY C.s' C.T' (a+C.κ) C.b' k q')) K'):=by
 refine RS.bind (W:=fun r r'=>∃ a1 t,r=(aY C.s C.T a1 C.b k q)∧r'=(aY C.s' C.T' (a1+C.κ) C.b' k q')∧a≤a1∧C.T[a1.toNat]?=some t∧t.Kind=5) ?_ fun r r' h=>?_
 ·unfold bV
  refine fZ hC fun a1 t t' h1 ht h4 _=>?_
  dsimp only
  rcases h4 with h4|⟨_,h4,_⟩
  ·have e:bJ t' x=bJ t x:=by unfold bJ;rw[h4.1,h4.2]
   rw[e]
   exact RS.same fun r hr=>RS.br rfl (fun _=>gr) (fun e=>RS.ok ⟨a1,t,rfl,rfl,h1,ht,(yV hr (by simpa using e)).1⟩)
  ·rw[nA (t:=t) (by omega)]
   exact gr
 ·obtain ⟨a1,t,rfl,rfl,h1,h2,h3⟩:=h
  exact hk a1 t h1 h2 h3
theorem qm (hC:C.kW) {x:List UInt8} {K:L→D α} {K':L→D β} (hk:∀ a1,a≤a1→RS Z V (K (aY C.s C.T a1 C.b k q)) (K' (aY C.s' C.T' (a1+C.κ) C.b' k q'))) (h0:0≤a:=by omega) :
  RS Z V (D.bind (dv m x (aY C.s C.T a C.b k q)) K) (D.bind (dv m x (aY C.s' C.T' (a+C.κ) C.b' k q')) K'):=by
 refine RS.bind (W:=fun r r'=>∃ a1,r=(aY C.s C.T a1 C.b k q)∧r'=(aY C.s' C.T' (a1+C.κ) C.b' k q')∧a≤a1) ?_ fun r r' h=>?_
 ·unfold dv
  refine fZ hC fun a1 t t' h1 _ h4 _=>?_
  dsimp only
  exact ql h4 fun r=>RS.br rfl (fun _=>gr) (fun _=>RS.gd fun _ _=>RS.ok ⟨a1+1,rfl,by congr 1;omega,by omega⟩)
 ·obtain ⟨a1,rfl,rfl,h1⟩:=h
  exact hk a1 h1
theorem uV (hC:C.kW) {K:List UInt8×L→D α} {K':List UInt8×L→D β} (hk:∀ a1 x,a≤a1→RS Z V (K (x,(aY C.s C.T a1 C.b k q))) (K' (x,(aY C.s' C.T' (a1+C.κ) C.b' k q')))) (h0:0≤a:=by omega) :
  RS Z V (D.bind (dc m (aY C.s C.T a C.b k q)) K) (D.bind (dc m (aY C.s' C.T' (a+C.κ) C.b' k q')) K'):=by
 refine RS.bind (W:=fun r r'=>∃ a1 x,r=(x,(aY C.s C.T a1 C.b k q))∧r'=(x,(aY C.s' C.T' (a1+C.κ) C.b' k q'))∧a≤a1) ?_ fun r r' h=>?_
 ·unfold dc
  refine fZ hC fun a1 t t' h1 _ h4 _=>?_
  dsimp only
  by_cases hk0:t.Kind=0
  ·exact RS.yC (gZ.br (fun _=>kv) (fun h=>by simp[hk0] at h))
  have h4:=h4.s hk0
  refine RS.jn (fun v w=>v=(aY C.s C.T a1 C.b k q)∧w=(aY C.s' C.T' (a1+C.κ) C.b' k q')) (fun v w h=>?_) (fun j j' hj=>?_)
  ·obtain ⟨rfl,rfl⟩:=h
   rw[h4.2]
   exact RS.gd fun _ _=>RS.ok ⟨a1+1,_,rfl,by dsimp only;congr 2;omega,by omega⟩
  ·refine RS.br (by rw[h4.1]) (fun _=>gr) (fun _=>?_)
   rw[h4.2]
   exact RS.same fun r _=>RS.br rfl (fun _=>gr) (fun _=>hj _ _ ⟨rfl,rfl⟩)
 ·obtain ⟨a1,x,rfl,rfl,h1⟩:=h
  exact hk a1 x h1
theorem yW (hC:C.kW) {K:gz×L→D α} {K':gz×L→D β} (hk:∀ a1 x,a≤a1→RS Z V (K (x,(aY C.s C.T a1 C.b k q))) (K' (x,(aY C.s' C.T' (a1+C.κ) C.b' k q')))) (h0:0≤a:=by omega) :
  RS Z V (D.bind (eX m (aY C.s C.T a C.b k q)) K) (D.bind (eX m (aY C.s' C.T' (a+C.κ) C.b' k q')) K'):=by
 refine RS.bind (W:=fun r r'=>∃ a1 x,r=(x,(aY C.s C.T a1 C.b k q))∧r'=(x,(aY C.s' C.T' (a1+C.κ) C.b' k q'))∧a≤a1) ?_ fun r r' h=>?_
 ·unfold eX
  refine uV hC fun a1 x1 h1=>js hC fun a2 _ h2 _ _=>lz hC fun a3 _ _ h3 _=>uV hC fun a4 x4 h4=>?_
  exact RS.br rfl (fun _=>xA) (fun _=>RS.ok ⟨a4,_,rfl,rfl,by omega⟩)
 ·obtain ⟨a1,x,rfl,rfl,h1⟩:=h
  exact hk a1 x h1
theorem lU (hC:C.kW) {n:Int} {K:au×L→D α} {K':au×L→D β} (hk:∀ t t',ST C.par t t'→RS Z V (K (t,(aY C.s C.T a C.b k q))) (K' (t',(aY C.s' C.T' (a+C.κ) C.b' k q')))) :
  RS Z V (D.bind (cQ n (aY C.s C.T a C.b k q)) K) (D.bind (cQ n (aY C.s' C.T' (a+C.κ) C.b' k q')) K'):=by
 refine RS.bind (W:=fun r r'=>∃ t t',r=(t,(aY C.s C.T a C.b k q))∧r'=(t',(aY C.s' C.T' (a+C.κ) C.b' k q'))∧ST C.par t t') ?_ fun r r' h=>?_
 ·unfold cQ
  dsimp only
  refine RS.gd fun _ _=>RS.gd fun _ _=>RS.el fun t t' h1 h2 h3 h4=>RS.ok ⟨t,t',rfl,rfl,?_⟩
  rw[show a+(C.κ:Int)+n=a+n+C.κ by omega] at h2 h4
  exact hC.HK (a+n) t t' h1 h2 h3 h4
 ·obtain ⟨t,t',rfl,rfl,h1⟩:=h
  exact hk t t' h1
def Ej (C:Cx) (a:Int):Prop:=C.κ=0∨∃ (i:Nat) (t:au),(i:Int)<a∧C.T[i]?=some t∧t.Kind≠7
theorem Ej.mono {b:Int} (h:Ej C a) (hab:a≤b):Ej C b:=h.imp_right fun ⟨i,t,h1,h2⟩=>⟨i,t,by omega,h2⟩
theorem Ej.of {t:au} (h0:0<a) (h:C.T[(a - 1).toNat]?=some t) (hk:t.Kind=5):Ej C a:=.inr ⟨_,t,by omega,h,by omega⟩
theorem C1 (hC:C.kW) (hB:Ej C a) (h0:0≤a) {K:Bool×L→D α} {K':Bool×L→D β} (hk:∀ r,RS Z V (K (r,(aY C.s C.T a C.b k q))) (K' (r,(aY C.s' C.T' (a+C.κ) C.b' k q')))) :
  RS Z V (D.bind (dP m (aY C.s C.T a C.b k q)) K) (D.bind (dP m (aY C.s' C.T' (a+C.κ) C.b' k q')) K'):=by
 refine RS.bind (W:=fun r r'=>∃ x,r=(x,(aY C.s C.T a C.b k q))∧r'=(x,(aY C.s' C.T' (a+C.κ) C.b' k q'))) ?_ fun r r' h=>?_
 ·unfold dP
  dsimp only
  refine RS.gd fun _ _=>?_
  refine RS.iter (fun (x y:Int)=>y=x+C.κ∧-1≤x∧x<a∧(C.κ=0∨∃ (i:Nat) (t:au),(i:Int)≤x∧C.T[i]?=some t∧t.Kind≠7)) (fun x y h next next' hn=>?_) _ _ ⟨by omega,by omega,by omega,hB.imp_right fun ⟨i,t,h1,h2⟩=>⟨i,t,by omega,h2⟩⟩
  obtain ⟨rfl,h1,h2,h3⟩:=h
  have e:decide (0≤x+(C.κ:Int))=decide (0≤x):=by
   rcases h3 with h3|⟨i,t,h4,_⟩
   ·rw[h3];simp
   ·rw[decide_eq_true (by omega),decide_eq_true (by omega)]
  refine RS.br e (fun hx=>?_) (fun _=>RS.ok ⟨_,rfl,rfl⟩)
  have hx:=of_decide_eq_true hx
  refine RS.el fun t t' _ _ ht ht'=>?_
  rw[tn (by omega)] at ht'
  have hs:=hC.tok _ _ _ ht ht'
  refine RS.br (hs.HX (by decide) (by decide)) (fun _=>?_) (fun h7=>?_)
  ·refine RS.el fun t2 t2' _ _ g1 g1'=>RS.el fun u u' _ _ g2 g2'=>RS.gd fun _ _=>?_
   rw[tn (by omega)] at g1' g2'
   refine RS.bind (hC.nl _ _ _ _ _ _ g1 g2 g1' g2') fun r r' h=>?_
   subst h
   exact RS.ok ⟨_,rfl,rfl⟩
  ·refine RS.gd fun _ _=>hn _ _ ⟨by omega,by omega,by omega,?_⟩
   refine h3.imp_right fun ⟨i,u,h4,h5,h6⟩=>⟨i,u,?_,h5,h6⟩
   have:(i:Int)≠x:=fun e=>by
    subst e
    simp only[Int.toNat_natCast] at ht
    rw[ht] at h5;cases h5;simp at h7;exact h6 h7
   omega
 ·obtain ⟨x,rfl,rfl⟩:=h
  exact hk x
theorem Bu (hC:C.kW) (_:0≤a) {e e':Int} (h1:1≤e) (he:e'=e+C.κ) {K:Bool×L→D α} {K':Bool×L→D β} (hk:∀ r,RS Z V (K (r,(aY C.s C.T a C.b k q))) (K' (r,(aY C.s' C.T' (a+C.κ) C.b' k q')))) :
  RS Z V (D.bind (eJ m e (aY C.s C.T a C.b k q)) K) (D.bind (eJ m e' (aY C.s' C.T' (a+C.κ) C.b' k q')) K'):=by
 refine RS.bind (W:=fun r r'=>∃ x,r=(x,(aY C.s C.T a C.b k q))∧r'=(x,(aY C.s' C.T' (a+C.κ) C.b' k q'))) ?_ fun r r' h=>?_
 ·unfold eJ
  dsimp only
  subst he
  refine RS.iter (fun (x y:Int)=>y=x+C.κ∧1≤x) (fun x y h next next' hn=>?_) _ _ ⟨rfl,h1⟩
  obtain ⟨rfl,h2⟩:=h
  refine RS.br (decide_eq_decide.2 (by omega)) (fun _=>?_) (fun _=>?_)
  ·refine RS.el fun t t' _ _ ht ht'=>?_
   rw[tn (by omega)] at ht'
   refine ka (hC.tok _ _ _ ht ht') fun r _=>RS.br rfl (fun _=>RS.ok ⟨_,rfl,rfl⟩) (fun _=>?_)
   exact RS.gd fun _ _=>hn _ _ ⟨by omega,by omega⟩
  ·refine RS.gd fun _ _=>RS.el fun t t' _ _ g1 g1'=>RS.el fun u u' _ _ g2 g2'=>RS.gd fun _ _=>?_
   rw[show (e+(C.κ:Int) - 1).toNat=(e - 1).toNat+C.κ by omega] at g1'
   rw[tn (by omega)] at g2'
   refine RS.bind (hC.nl _ _ _ _ _ _ g1 g2 g1' g2') fun r r' h=>?_
   subst h
   exact RS.ok ⟨_,rfl,rfl⟩
 ·obtain ⟨x,rfl,rfl⟩:=h
  exact hk x
theorem Ek (hC:C.kW) {K:Bool×L→D α} {K':Bool×L→D β} (hk:∀ a1 r,a≤a1→(r=false→∃ u,C.T[a1.toNat]?=some u∧u.Kind≠0∧(k=true→u.Kind≠7))→RS Z V (K (r,(aY C.s C.T a1 C.b k q))) (K' (r,(aY C.s' C.T' (a1+C.κ) C.b' k q'))))
  (hz:∀ a1 u,a≤a1→C.T[a1.toNat]?=some u→u.Kind=0→∀ x,K (true,(aY C.s C.T a1 C.b k q))=.ok x→Z x) (h0:0≤a:=by omega):RS Z V (D.bind (fq m (aY C.s C.T a C.b k q)) K) (D.bind (fq m (aY C.s' C.T' (a+C.κ) C.b' k q')) K'):=by
 refine RS.vq (Z':=fun r=>∃ a1 u,r=(true,(aY C.s C.T a1 C.b k q))∧a≤a1∧C.T[a1.toNat]?=some u∧u.Kind=0) (W:=fun r r'=>∃ a1 x,r=(x,(aY C.s C.T a1 C.b k q))∧r'=(x,(aY C.s' C.T' (a1+C.κ) C.b' k q'))∧a≤a1∧(x=false→∃ u,C.T[a1.toNat]?=some u∧u.Kind≠0∧(k=true→u.Kind≠7))) ?_ (fun c h x e=>?_) fun r r' h=>?_
 ·unfold fq
  refine fZ hC fun a1 t t' h1 ht h4 h5=>?_
  dsimp only
  by_cases hk0:t.Kind=0
  ·refine RS.GD (fun _=>RS.D0 ⟨a1,t,rfl,h1,ht,hk0⟩) (fun h=>by simp[hk0] at h)
  have h4:=h4.s hk0
  refine RS.br (by rw[h4.1]) (fun _=>RS.ok ⟨a1,_,rfl,rfl,h1,fun h=>by cases h⟩) (fun _=>fZ hC fun a2 t2 t2' h1 ht2 h6 h7=>?_)
  dsimp only
  have e:=h7.2 t ht h5.1
  subst e
  rw[ht] at ht2;cases ht2
  exact ka h6 fun r _=>RS.ok ⟨a2,_,rfl,rfl,by omega,fun _=>⟨t,ht,hk0,h5.1⟩⟩
 ·obtain ⟨a1,u,rfl,h1,h2,h3⟩:=h
  exact hz a1 u h1 h2 h3 x e
 ·obtain ⟨a1,x,rfl,rfl,h1,h2⟩:=h
  exact hk a1 x h1 h2
theorem xC (hC:C.kW) {K:Bool×L→D α} {K':Bool×L→D β} (hk:∀ a1 r,a≤a1→RS Z V (K (r,(aY C.s C.T a1 C.b k q))) (K' (r,(aY C.s' C.T' (a1+C.κ) C.b' k q')))) (h0:0≤a:=by omega) :
  RS Z V (D.bind (eA m (aY C.s C.T a C.b k q)) K) (D.bind (eA m (aY C.s' C.T' (a+C.κ) C.b' k q')) K'):=by
 refine RS.bind (W:=fun r r'=>∃ a1 x,r=(x,(aY C.s C.T a1 C.b k q))∧r'=(x,(aY C.s' C.T' (a1+C.κ) C.b' k q'))∧a≤a1) ?_ fun r r' h=>?_
 ·unfold eA
  refine fZ hC fun a1 t t' h1 _ h4 _=>?_
  dsimp only
  refine ka h4 fun r _=>RS.br rfl (fun _=>RS.ok ⟨a1,_,rfl,rfl,h1⟩) (fun _=>?_)
  refine RS.jn (fun v w=>v.1=(aY C.s C.T a1 C.b k q)∧w.1=(aY C.s' C.T' (a1+C.κ) C.b' k q')∧w.2=v.2) (fun v w h=>?_) (fun j j' hj=>?_)
  ·refine RS.iter (fun (v:L×Int) (w:L×Int)=>v.1=(aY C.s C.T a1 C.b k q)∧w.1=(aY C.s' C.T' (a1+C.κ) C.b' k q')∧w.2=v.2) (fun v w h next next' hn=>?_) _ _ h
   obtain ⟨p,x⟩:=v
   obtain ⟨p',x'⟩:=w
   obtain ⟨g1,g2,g3⟩:=h
   dsimp only at g1 g2 g3
   subst g1 g2 g3
   dsimp only
   refine lU hC fun t t' hs=>?_
   dsimp only
   refine RS.br (hs.kk (by decide) (by decide)) (fun _=>RS.gd fun _ _=>hn _ _ ⟨rfl,rfl,rfl⟩) (fun _=>lU hC fun t t' hs=>?_)
   dsimp only
   refine ka hs fun r _=>RS.br rfl (fun _=>RS.gd fun _ _=>lU hC fun t t' hs=>?_) (fun _=>RS.ok ⟨a1,_,rfl,rfl,h1⟩)
   dsimp only
   exact ka hs fun r _=>RS.ok ⟨a1,_,rfl,rfl,h1⟩
  ·refine lU hC fun t t' hs=>?_
   dsimp only
   refine ql hs fun r=>RS.br rfl (fun _=>lU hC fun t t' hs=>?_) (fun _=>hj _ _ ⟨rfl,rfl,rfl⟩)
   dsimp only
   refine ka hs fun r _=>RS.br rfl (fun _=>RS.ok ⟨a1,_,rfl,rfl,h1⟩) (fun _=>lU hC fun t t' hs=>?_)
   dsimp only
   exact RS.br (hs.HX (by decide) (by decide)) (fun _=>RS.ok ⟨a1,_,rfl,rfl,h1⟩) (fun _=>hj _ _ ⟨rfl,rfl,rfl⟩)
 ·obtain ⟨a1,x,rfl,rfl,h1⟩:=h
  exact hk a1 x h1
theorem Bv (hC:C.kW) (h0:0≤a) {d d':o} (hd:DD d d') {K:L×o→D α} {K':L×o→D β}
  (hk:∀ a1 d d',a≤a1→DD d d'→RS Z V (K ((aY C.s C.T a1 C.b k none),d)) (K' ((aY C.s' C.T' (a1+C.κ) C.b' k none),d'))):RS Z V (D.bind (fp m true (aY C.s C.T a C.b k none) d) K) (D.bind (fp m true (aY C.s' C.T' (a+C.κ) C.b' k none) d') K'):=by
 refine CY (k:=k) (a:=a) (P:=DD) ?_ fun v w a1 h1 h3=>hk a1 v w h1 h3
 unfold fp
 refine CY (k:=true) (a:=a) (P:=DD) ?_ fun v w a1 h1 h3=>RS.ok ⟨.mk h1,h3⟩
 unfold gV
 dsimp only
 refine RS.HZ (fun v w=>Rl C true a v.1 w.1∧DD v.2 w.2) (fun v=>∃ a1 d,v=((aY C.s C.T a1 C.b true none),d)∧(C.T.length:Int)≤a1+1) (fun v w h=>?_) (fun v h=>?_) (fun j j' hj hN=>?_)
 ·obtain ⟨p,x⟩:=v
  obtain ⟨p',x'⟩:=w
  obtain ⟨⟨a1,g1,g2,g3⟩,g5⟩:=h
  dsimp only at g1 g2 g5
  subst g1 g2
  dsimp only
  refine RS.gd fun _ _=>?_
  rw[show a1+(C.κ:Int)+1=a1+1+C.κ by omega]
  exact mD hC fun a2 t h2 _ _=>RS.ok ⟨.mk (by omega),g5⟩
 ·obtain ⟨a1,d,rfl,h⟩:=h
  refine gZ.gd (gZ.mY ?_)
  unfold bV
  exact gZ.mY (xB h)
 ·refine kx hC (fun a1 t h1 _ _=>?_) (fun a1 h1=>?_)
  ·dsimp only
   refine RS.br rfl (fun _=>fZ hC fun a2 t t' h2 ht hs _=>?_) (fun h=>by cases h)
   dsimp only
   rcases hs with hs|⟨hp,hk0,_⟩
   case inr=>
    have:=hC.last hp _ _ ht hk0
    exact RS.yC (gZ.bind fun y _=>gZ.br (fun _=>kv) (fun _=>hN _ ⟨a2,_,rfl,by omega⟩))
   rw[hs.2]
   refine RS.same fun y _=>RS.br rfl (fun _=>gr) (fun _=>hj _ _ ⟨.mk (by omega),?_⟩)
   have hx:=hd.x
   dsimp only
   rw[hx.k,hx.p,hx.a,hx.b,hx.tl,hx.ld,hx.tr]
   exact .of hx.s hx.d
  ·exact RS.br rfl (fun h=>by cases h) (fun _=>hj _ _ ⟨.mk h1,hd⟩)
theorem r4 {v v':Int}:∀ (n:Nat) {e e':aj} {p p':L},EE e e'→RS NZ (fun r r'=>r.2=p∧r'.2=p'∧EE r.1 r'.1) (bk n e v p) (bk n e' v' p')
 | 0,_,_,_,_,_=>RS.nil
 | n+1,e,e',p,p',he=>by
  have hx:=he.x
  show RS NZ _ (eM n (eK n) e v p) (eM n (eK n) e' v' p')
  unfold eM
  rw[hx.k,hx.t,hx.n,hx.a,hx.b,hx.tl]
  refine RS.br rfl (fun _=>?_) (fun _=>RS.br rfl (fun _=>?_) (fun _=>RS.ok ⟨rfl,rfl,he⟩))
  ·refine RS.el fun x x' _ _ hx1 hx1'=>RS.el fun y y' _ _ hy1 hy1'=>?_
   refine RS.bind (r4 n (hx.s.2 _ _ _ hx1 hx1')) fun r r' h=>?_
   rw[h.1,h.2.1]
   refine RS.bind (r4 n (hx.s.2 _ _ _ hy1 hy1')) fun w w' h'=>RS.ok ⟨h'.1,h'.2.1,.of (.two h.2.2 h'.2.2) hx.d⟩
  ·refine RS.iter (fun (x:L×List o×Int) (y:L×List o×Int)=>x.1=p∧y.1=p'∧LR DD x.2.1 y.2.1∧y.2.2=x.2.2) (fun x y h next next' hn=>?_) _ _ ⟨rfl,rfl,.nil,rfl⟩
   obtain ⟨h1,h2,h3,h4⟩:=h
   rw[h4,← hx.d.1]
   refine RS.br rfl (fun _=>?_) (fun _=>RS.ok ⟨h1,h2,.of hx.s h3⟩)
   refine RS.el fun d d' _ _ hd hd'=>?_
   have hdr:=hx.d.2 _ _ _ hd hd'
   have hdx:=hdr.x
   refine RS.jn (fun x y=>x.1=p∧y.1=p'∧DD x.2 y.2) (fun x y h=>?_) (fun j j' hj=>?_)
   ·exact RS.gd fun _ _=>RS.gd fun _ _=>hn _ _ ⟨h.1,h.2.1,h3.snoc h.2.2,rfl⟩
   ·rw[hdx.k]
    refine RS.jn (fun x y=>y=x) (fun x y h=>?_) (fun j2 j2' hj2=>?_)
    ·subst h
     refine RS.br rfl (fun _=>xA) (fun _=>?_)
     refine RS.jn (fun x y=>y=x) (fun x y h=>?_) (fun j2 j2' hj2=>?_)
     ·subst h
      refine RS.br rfl (fun _=>?_) (fun _=>hj _ _ ⟨h1,h2,hdr⟩)
      refine RS.el fun x x' _ _ hx1 hx1'=>?_
      rw[h1,h2]
      refine RS.bind (r4 n (hdx.s.2 _ _ _ hx1 hx1')) fun r r' h=>hj _ _ ⟨h.1,h.2.1,?_⟩
      dsimp only
      rw[hdx.p,hdx.t,hdx.a,hdx.b,hdx.tl,hdx.ld,hdx.tr]
      exact .of (.one h.2.2) hdx.d
     ·exact RS.br rfl (fun _=>hj2 _ _ rfl) (fun _=>RS.br rfl (fun _=>hj2 _ _ rfl) (fun _=>hj2 _ _ rfl))
    ·exact RS.br rfl (fun _=>hj2 _ _ rfl) (fun _=>hj2 _ _ rfl)
theorem ky {e e':aj} (he:EE e e') {v v':Int} {p p':L} {K:aj×L→D α} {K':aj×L→D β} (hk:∀ x x',EE x x'→RS Z V (K (x,p)) (K' (x',p'))) :
  RS Z V (D.bind (bk m e v p) K) (D.bind (bk m e' v' p') K'):=by
 refine RS.bind (r4 m he) fun r r' h=>?_
 obtain ⟨x,p1⟩:=r
 obtain ⟨x',p1'⟩:=r'
 obtain ⟨h1,h2,h3⟩:=h
 dsimp only at h1 h2
 subst h1 h2
 exact hk x x' h3
end
section
variable {s:List UInt8} {T:List au} {b:Int}
def xV (s:List UInt8) (T:List au) (b:Int) (K c:Nat) (F:Nat→L→D (aj×L)):Prop:=∀ {m:Nat→Nat} {a:Int} {k:Bool} {q:Option aj},cm m→0≤a→a<T.length→QS q→64*(T.length - a).toNat+c<K→Ev (fun i=>F (m i) (aY s T a b k q)) (fun r=>St s T b k a 0 r.2∧iV r.1) (PP (b+s.length))
structure PG (s:List UInt8) (T:List au) (b:Int) (K:Nat):Prop where
 expr:∀ {j:Bool},xV s T b K 13 (fun n=>aD n j)
 alt:∀ {j:Bool},xV s T b K 12 (fun n=>aV n j)
 rL:∀ {j:Bool},xV s T b K 11 (fun n=>aW n j)
 bin:∀ {m:Nat→Nat} {a l:Int} {k:Bool} {q:Option aj} {j:Bool},cm m→0≤a→a<T.length→QS q→0≤l→l≤5→64*(T.length - a).toNat+(10 - l).toNat<K→Ev (fun i=>bn (m i) l j (aY s T a b k q)) (fun r=>St s T b k a 0 r.2∧iV r.1) (PP (b+s.length))
 unary:∀ {j:Bool},xV s T b K 4 (fun n=>bU n j)
 post:∀ {j:Bool},xV s T b K 3 (fun n=>bG n j)
 tW:∀ {j:Bool},xV s T b K 2 (fun n=>bS n j)
 named:∀ {m:Nat→Nat} {a:Int} {k:Bool} {q:Option aj} {t:au},cm m→0≤a→a<T.length→QS q→T[a.toNat]?=some t→t.Kind=1→64*(T.length - a).toNat+1<K→Ev (fun i=>cx (m i) (aY s T a b k q)) (fun r=>St s T b k a 0 r.2∧iV r.1) (PP (b+s.length))
 tX:∀ {m:Nat→Nat} {a:Int} {k:Bool} {q:Option aj} {t:au},cm m→0≤a→a<T.length→T[a.toNat]?=some t→t.Kind=4→64*(T.length - a).toNat+1<K→Ev (fun i=>cR (m i) t (b+t.Pos) (aY s T a b k q)) (fun r=>r.2=aY s T a b k q∧iV r.1) (PP (b+s.length))
 parens:∀ {m:Nat→Nat} {a:Int} {k:Bool} {q:Option aj} {j:Bool},cm m→0≤a→a<T.length→QS q→64*(T.length - a).toNat+1<K→Ev (fun i=>bM (m i) j (aY s T a b k q)) (fun r=>St s T b k (a+1) 0 r.2∧iV r.1) (PP (b+s.length))
 rM:∀ {j:Bool},xV s T b K 1 (fun n=>ck n j)
 list:xV s T b K 1 cM
 block:∀ {m:Nat→Nat} {a:Int} {k:Bool} {q:Option aj} {j:Bool},cm m→0≤a→a<T.length→QS q→64*(T.length - a).toNat<K→Ev (fun i=>ca (m i) j (aY s T a b k q)) (fun r=>St s T b k a 0 r.2.2∧r.1.length≤70000∧(∀ d,d∈r.1→k3 d)∧r.2.1.length≤70000∧∀ x,x∈r.2.1→x.length≤65536) (PP (b+s.length))
 args:∀ {m:Nat→Nat} {a:Int} {k:Bool} {q:Option aj},cm m→0≤a→a<T.length→QS q→64*(T.length - a).toNat+1<K→Ev (fun i=>cL (m i) (aY s T a b k q)) (fun r=>St s T b k a 0 r.2∧r.1.length≤70000∧∀ x,x∈r.1→iV x) (PP (b+s.length))
 item:xV s T b K 14 de
 field:∀ {m:Nat→Nat} {a:Int} {k:Bool} {q:Option aj} {j:Bool} {d:o} {t:au},cm m→0≤a→a<T.length→QS q→k3 d→T[a.toNat]?=some t→t.Kind≠0→t.Kind≠7→64*(T.length - a).toNat+14<K→Ev (fun i=>cZ (m i) j (aY s T a b k q) d) (fun r=>St s T b k a 0 r.1∧k3 r.2) (PP (b+s.length))
 pattern:∀ {m:Nat→Nat} {a:Int} {k:Bool} {q:Option aj} {j:Bool} {d:o},cm m→0≤a→a<T.length→QS q→k3 d→yU T a→64*(T.length - a).toNat+14<K→Ev (fun i=>cF (m i) j (aY s T a b k q) d) (fun r=>St s T b k a 0 r.1∧k3 r.2) (PP (b+s.length))
 tb:∀ {m:Nat→Nat} {a:Int} {k:Bool} {q:Option aj} {j:Bool} {d:o},cm m→0≤a→a<T.length→QS q→k3 d→64*(T.length - a).toNat+14<K→Ev (fun i=>cE (m i) j (aY s T a b k q) d) (fun r=>St s T b k a 0 r.1∧k3 r.2) (PP (b+s.length))
 decl:∀ {m:Nat→Nat} {a:Int} {k:Bool} {q:Option aj} {j:Bool} {t:au},cm m→0≤a→a<T.length→QS q→T[a.toNat]?=some t→t.Kind≠0→t.Kind≠7→64*(T.length - a).toNat+17<K→Ev (fun i=>cl (m i) j (aY s T a b k q)) (fun r=>St s T b k a 0 r.2∧k3 r.1) (PP (b+s.length))
 decls:∀ {m:Nat→Nat} {a:Int} {k:Bool} {q:Option aj} {j:Bool},cm m→0≤a→a<T.length→QS q→64*(T.length - a).toNat+18<K→Ev (fun i=>dh (m i) j (aY s T a b k q)) (fun r=>St s T b k a 0 r.2.2∧r.1.length≤70000∧(∀ d,d∈r.1→k3 d)∧r.2.1.length≤70000∧∀ x,x∈r.2.1→x.length≤65536) (PP (b+s.length))
variable {K:Nat} {m:Nat→Nat} {a:Int} {k:Bool} {q:Option aj} {j:Bool}
theorem El (hC:PC s T b) (ih:PG s T b K):xV s T b (K+1) 13 (fun n=>aD n j):=by
 intro m a k q hm h0 h1 hq hK
 refine Ev.grow (F:=fun n=>aD n j (aY s T a b k q)) hm fun m hm=>?_
 show Ev (fun i=>cB (m i) (ai (m i)) j (aY s T a b k q)) _ _
 unfold cB
 have hl:=hC.ls
 dsimp only
 refine Ev.jn (fun v=>St s T b k a 0 v.1) (fun v hv=>?_) (fun jj hj=>?_)
 ·obtain ⟨p,w⟩:=v
  obtain ⟨a1,q1,hp,h2,h3,hq1⟩:=hv
  dsimp only at hp;subst hp;dsimp only
  refine Ev.jn (fun v=>St s T b k a 0 v.1∧iV v.2) (fun v hv=>?_) (fun jj hj=>?_)
  ·obtain ⟨p,e⟩:=v
   obtain ⟨⟨a2,q2,hp,h4,h5,hq2⟩,he⟩:=hv
   dsimp only at hp he;subst hp;dsimp only
   refine Ev.jn (fun v=>St s T b k a 0 v) (fun v hv=>?_) (fun jj hj=>?_)
   ·obtain ⟨a3,q3,rfl,h6,h7,hq3⟩:=hv
    dsimp only
    refine Ev.jn (fun v=>St s T b k a 0 v) (fun v hv=>?_) (fun jj hj=>?_)
    ·obtain ⟨a4,q4,rfl,h8,h9,hq4⟩:=hv
     refine kE hm hC (by omega) (by omega) fun a5 t v h10 h11 _ _ _ h12 h13=>?_
     dsimp only
     refine pD hm h12 h13 he fun x hx=>?_
     dsimp only
     refine Ev.iter hm (fun (x:L×List aj)=>St s T b k a 0 x.1∧1≤x.2.length∧(x.2.length:Int)≤x.1.at_+1∧∀ e,e∈x.2→iV e) (fun x=>(T.length - x.1.at_).toNat) ⟨⟨_,q4,rfl,by omega,by omega,hq4⟩,by simp,by simp;omega,by simpa using hx⟩ ?_
     rintro ⟨p,l⟩ ⟨⟨a6,q6,hp,h14,h15,hq6⟩,hl1,hl2,hl3⟩ next hn
     dsimp only at hp hl1 hl2 hl3;subst hp;dsimp only at hn hl2 ⊢
     refine ku hm hC (by omega) (by omega) (fun a7 t h16 h17 _ _ _ _=>?_) (fun a7 t h16 h17 _ _ _ _=>?_)
     ·dsimp only
      refine Ev.cD (fI (ih.alt hm (by omega) h17 hq6 (by omega)) fun e a8 q8 h18 h19 hq8 he8=>?_)
      dsimp only
      refine Ev.gd (by (first|omega|(simp[cV,maxLen]<;>omega))) (hn _ ⟨⟨a8,q8,rfl,by omega,h19,hq8⟩,by simp,by simp;omega,fun z hz=>?_⟩ (by dsimp only;omega))
      rcases List.mem_append.1 hz with w|w
      ·exact hl3 z w
      ·simp at w;subst w;exact he8
     ·dsimp only
      refine Ev.cg (Ev.el (by omega) (by omega) fun x hx=>Ev.ok ⟨⟨a7,q6,rfl,by omega,by omega,hq6⟩,.of (by omega) (by simp) hl3⟩)
    ·refine fB hm hC (by omega) (by omega) fun a4 t h8 h9 _ _ _=>?_
     dsimp only
     refine jw fun r _ _=>Ev.bA (fun _=>jm hm hC (by omega) h9 (by omega)) (fun _=>hj _ ⟨a4,q3,rfl,by omega,by omega,hq3⟩)
   ·refine Ev.bA (fun _=>?_) (fun _=>hj _ ⟨a2,q2,rfl,h4,h5,hq2⟩)
    refine fB hm hC (by omega) (by omega) fun a4 t h8 h9 _ _ _=>?_
    dsimp only
    exact jw fun r _ _=>Ev.bA (fun _=>Ev.ok ⟨⟨a4,q2,rfl,by omega,by omega,hq2⟩,he⟩) (fun _=>hj _ ⟨a4,q2,rfl,by omega,by omega,hq2⟩)
  ·refine Ev.br (fun _=>fI (ih.alt hm (by omega) (by omega) hq1 (by omega)) fun e a2 q2 h4 h5 hq2 he=>hj _ ⟨⟨a2,q2,rfl,by omega,h5,hq2⟩,he⟩) (fun _=>fI (ih.alt hm (by omega) (by omega) hq1 (by omega)) fun e a2 q2 h4 h5 hq2 he=>hj _ ⟨⟨a2,q2,rfl,by omega,h5,hq2⟩,he⟩)
 ·refine Ev.br (fun _=>?_) (fun _=>hj _ ⟨a,q,rfl,by omega,by omega,hq⟩)
  refine fB hm hC h0 h1 fun a4 t h8 h9 _ _ _=>?_
  dsimp only
  exact jw fun r _ _=>hj _ ⟨a4,q,rfl,by omega,by omega,hq⟩
theorem Ge (hC:PC s T b) (ih:PG s T b K):xV s T b (K+1) 12 (fun n=>aV n j):=by
 intro m a k q hm h0 h1 hq hK
 refine Ev.grow (F:=fun n=>aV n j (aY s T a b k q)) hm fun m hm=>?_
 show Ev (fun i=>bO (m i) (ai (m i)) j (aY s T a b k q)) _ _
 unfold bO
 have hl:=hC.ls
 dsimp only
 refine Ev.br (fun _=>?_) (fun _=>?_)
 ·refine kE hm hC h0 h1 fun a2 t v h2 h3 _ _ _ _ _=>?_
  dsimp only
  refine ku hm hC (by omega) h3 (fun a3 t h4 h5 _ _ _ _=>?_) (fun a3 t h4 h5 _ _ _ _=>?_)
  ·dsimp only
   exact Ev.cD (fI (ih.rL hm (by omega) h5 hq (by omega)) fun e a4 q4 h6 h7 hq4 he=>Ev.ok ⟨⟨a4,q4,rfl,by omega,h7,hq4⟩,.one (by decide) he⟩)
  ·dsimp only
   exact Ev.cg (fI (ih.rL hm (by omega) h5 hq (by omega)) fun e a4 q4 h6 h7 hq4 he=>Ev.ok ⟨⟨a4,q4,rfl,by omega,h7,hq4⟩,he⟩)
 ·exact fI (ih.rL hm (by omega) h1 hq (by omega)) fun e a4 q4 h6 h7 hq4 he=>Ev.ok ⟨⟨a4,q4,rfl,by omega,h7,hq4⟩,he⟩
theorem Em (hC:PC s T b) (ih:PG s T b K):xV s T b (K+1) 11 (fun n=>aW n j):=by
 intro m a k q hm h0 h1 hq hK
 refine Ev.grow (F:=fun n=>aW n j (aY s T a b k q)) hm fun m hm=>?_
 show Ev (fun i=>bP (m i) (ai (m i)) j (aY s T a b k q)) _ _
 unfold bP
 refine fI (ih.bin hm h0 h1 hq (by omega) (by omega) (by omega)) fun e a2 q2 h2 h3 hq2 he=>?_
 dsimp only
 refine Ev.iter hm (fun (x:L×aj)=>St s T b k a 0 x.1∧iV x.2) (fun x=>(T.length - x.1.at_).toNat) ⟨⟨a2,q2,rfl,h2,h3,hq2⟩,he⟩ ?_
 rintro ⟨p,e⟩ ⟨⟨a3,q3,hp,h4,h5,hq3⟩,he⟩ next hn
 dsimp only at hp he;subst hp;dsimp only at hn ⊢
 refine ku hm hC (by omega) (by omega) (fun a4 t h6 h7 _ _ _ _=>?_) (fun a4 t h6 h7 _ _ _ _=>?_)
 ·dsimp only
  exact Ev.cD (fI (ih.bin hm (by omega) h7 hq3 (by omega) (by omega) (by omega)) fun e2 a5 q5 h8 h9 hq5 he5=>hn _ ⟨⟨a5,q5,rfl,by omega,h9,hq5⟩,.two he he5⟩ (by dsimp only;omega))
 ·exact Ev.cg (Ev.ok ⟨⟨a4,q3,rfl,by omega,by omega,hq3⟩,he⟩)
theorem xD {l:Int}:Ev (fun _=>db l) (fun r=>r.length≤100) gA:=by
 unfold db
 (repeat' (first|((with_reducible first|refine Ev.gd ?_ ?_|refine Ev.kp ?_ (fun _ _=>?_));(next=>(first|omega|(simp[bK,cV,c7,maxLen]<;>omega))))|with_reducible (first|apply Ev.cD|apply Ev.cg)|(with_reducible (first|apply Ev.ba|apply Ev.bE|apply Ev.b5|apply Ev.bA|apply Ev.br)<;>intro _)|((with_reducible apply Ev.jN);try dsimp only)))
 all_goals exact Ev.ok (by simp)
theorem Gf (hC:PC s T b) (ih:PG s T b K) {l:Int} (hm:cm m) (h0:0≤a) (h1:a<T.length) (hq:QS q) (hl0:0≤l) (hl5:l≤5) (hK:64*(T.length - a).toNat+(10 - l).toNat<K+1) :
  Ev (fun i=>bn (m i) l j (aY s T a b k q)) (fun r=>St s T b k a 0 r.2∧iV r.1) (PP (b+s.length)):=by
 refine Ev.grow (F:=fun n=>bn n l j (aY s T a b k q)) hm fun m hm=>?_
 show Ev (fun i=>cb (m i) (ai (m i)) l j (aY s T a b k q)) _ _
 unfold cb
 have hl:=hC.ls
 refine Ev.ba (fun _=>fI (ih.unary hm h0 h1 hq (by omega)) fun e a4 q4 h6 h7 hq4 he=>Ev.ok ⟨⟨a4,q4,rfl,by omega,h7,hq4⟩,he⟩) (fun _=>?_)
 refine Ev.gd (by (first|omega|(simp[bK]<;>omega))) (fI (ih.bin hm h0 h1 hq (by omega) (by omega) (by omega)) fun e a2 q2 h2 h3 hq2 he=>?_)
 dsimp only
 refine Ev.iter hm (fun (x:L×aj)=>St s T b k a 0 x.1∧iV x.2) (fun x=>(T.length - x.1.at_).toNat) ⟨⟨a2,q2,rfl,h2,h3,hq2⟩,he⟩ ?_
 rintro ⟨p,e⟩ ⟨⟨a3,q3,hp,h4,h5,hq3⟩,he⟩ next hn
 dsimp only at hp he;subst hp;dsimp only at hn ⊢
 refine fB hm hC (by omega) (by omega) fun a4 t h6 h7 ht h8 _=>?_
 dsimp only
 refine Ev.ep xD fun ops hops=>s9 hm (by omega) fun r hr=>Ev.br (fun hr1=>?_) (fun _=>Ev.ok ⟨⟨a4,q3,rfl,by omega,by omega,hq3⟩,he⟩)
 have hk5:=hr hr1
 have hnx:=hC.next (by omega) ht (by omega)
 refine kE hm hC (by omega) h7 fun a5 t5 v h9 h10 _ h11 _ h12 h13=>?_
 have e5:=h11 t ht h8
 subst e5
 dsimp only
 refine pD hm h12 h13 he fun x hx=>?_
 dsimp only
 refine fB hm hC (by omega) h7 fun a6 t6 h14 h15 _ _ h16=>?_
 have e6:=h16 t ht h8
 subst e6
 dsimp only
 refine Ev.gd (by (first|omega|(simp[bK]<;>omega))) (Ev.gd (by (first|omega|(simp[bK]<;>omega))) (fI (ih.bin hm (by omega) hnx hq3 (by omega) (by omega) (by omega)) fun e2 a7 q7 h17 h18 hq7 he7=>hn _ ⟨⟨a7,q7,rfl,by omega,h18,hq7⟩,.two hx he7⟩ (by dsimp only;omega)))
theorem C2 (hC:PC s T b) (ih:PG s T b K):xV s T b (K+1) 4 (fun n=>bU n j):=by
 intro m a k q hm h0 h1 hq hK
 refine Ev.grow (F:=fun n=>bU n j (aY s T a b k q)) hm fun m hm=>?_
 show Ev (fun i=>cq (m i) (ai (m i)) j (aY s T a b k q)) _ _
 unfold cq
 have hl:=hC.ls
 dsimp only
 refine Ev.br (fun _=>fI (ih.post hm h0 h1 hq (by omega)) fun e a4 q4 h6 h7 hq4 he=>Ev.ok ⟨⟨a4,q4,rfl,by omega,h7,hq4⟩,he⟩) (fun _=>?_)
 refine fB hm hC h0 h1 fun a2 t h2 h3 ht h4 _=>?_
 dsimp only
 refine kE hm hC (by omega) h3 fun a5 t5 v h9 h10 _ h11 _ h12 h13=>?_
 have e5:=h11 t ht h4
 subst e5
 dsimp only
 refine Ev.jn (fun v=>v≠16∧t.Kind=5) (fun w hw=>?_) (fun jj hj=>?_)
 ·have hnx:=hC.next (by omega) ht (by omega)
  exact Ev.gd (by (first|omega|(simp[bK]<;>omega))) (fI (ih.unary hm (by omega) hnx hq (by omega)) fun e a4 q4 h6 h7 hq4 he=>Ev.ok ⟨⟨a4,q4,rfl,by omega,h7,hq4⟩,.one hw.1 he⟩)
 ·refine s9 hm (by simp) fun r hr=>Ev.br (fun hr1=>hj _ ⟨by decide,hr hr1⟩) (fun _=>?_)
  refine s9 hm (by simp) fun r hr=>Ev.br (fun hr1=>hj _ ⟨by decide,hr hr1⟩) (fun _=>?_)
  exact fI (ih.post hm (by omega) h3 hq (by omega)) fun e a4 q4 h6 h7 hq4 he=>Ev.ok ⟨⟨a4,q4,rfl,by omega,h7,hq4⟩,he⟩
theorem C3 (hC:PC s T b) (ih:PG s T b K) (hm:cm m) (h0:0≤a) (h1:a<T.length) (hq:QS q) (hK:64*(T.length - a).toNat+13<K) {e:aj} (he:iV e) :
  Ev (fun i=>cw (m i) true (aY s T a b k q) e) (fun r=>St s T b k a 1 r.1∧iV r.2) (PP (b+s.length)):=by
 refine Ev.grow (F:=fun n=>cw n true (aY s T a b k q) e) hm fun m hm=>?_
 show Ev (fun i=>dW (m i) (ai (m i)) true (aY s T a b k q) e) _ _
 unfold dW
 dsimp only
 refine fI (k:=true) (a:=a) (d:=1) (P:=iV) ?_ fun x a' q' h2 h3 h4 h5=>Ev.ok ⟨⟨a',q',rfl,h2,h3,h4⟩,h5⟩
 refine Ev.grow (F:=fun n=>eB n e (aY s T a b true q)) hm fun m hm=>?_
 show Ev (fun i=>dU (m i) (ai (m i)) e (aY s T a b true q)) _ _
 unfold dU
 refine fI (ih.expr hm h0 h1 hq hK) fun x a2 q2 h2 h3 h4 h5=>?_
 dsimp only
 exact mB hm hC (by omega) (by omega) (by omega) fun a3 t h6 h7 _ _ _=>Ev.ok ⟨⟨a3,q2,rfl,by omega,h7,h4⟩,.two he h5⟩
theorem En (hC:PC s T b) (ih:PG s T b K):xV s T b (K+1) 3 (fun n=>bG n j):=by
 intro m a k q hm h0 h1 hq hK
 refine Ev.grow (F:=fun n=>bG n j (aY s T a b k q)) hm fun m hm=>?_
 show Ev (fun i=>bZ (m i) (ai (m i)) j (aY s T a b k q)) _ _
 unfold bZ
 have hl:=hC.ls
 refine fI (ih.tW hm h0 h1 hq (by omega)) fun e a2 q2 h2 h3 hq2 he=>?_
 dsimp only
 refine Ev.iter hm (fun (x:L×aj)=>St s T b k a 0 x.1∧iV x.2) (fun x=>(T.length - x.1.at_).toNat) ⟨⟨a2,q2,rfl,h2,h3,hq2⟩,he⟩ ?_
 rintro ⟨p,e⟩ ⟨⟨a3,q3,hp,h4,h5,hq3⟩,he⟩ next hn
 dsimp only at hp he;subst hp;dsimp only at hn ⊢
 refine fB hm hC (by omega) (by omega) fun a4 t h6 h7 ht h8 _=>?_
 dsimp only
 refine kE hm hC (by omega) h7 fun a5 t5 v h9 h10 _ h11 _ h12 h13=>?_
 have e5:=h11 t ht h8
 subst e5
 dsimp only
 refine jw fun r hr _=>Ev.br (fun hr1=>?_) (fun _=>?_)
 ·have hk5:=(hr hr1).1
  have hnx:=hC.next (by omega) ht (by omega)
  refine pD hm h12 h13 he fun x hx=>?_
  dsimp only
  refine Ev.gd (by (first|omega|(simp[bK]<;>omega))) (fB hm hC (by omega) hnx fun a6 t6 h14 h15 ht6 _ _=>?_)
  dsimp only
  refine Ev.jn (fun v=>v=aY s T a6 b k q3∧t6.Kind≠0) (fun v hv=>?_) (fun jj hj=>?_)
  ·obtain ⟨rfl,h16⟩:=hv
   have hnx6:=hC.next (by omega) ht6 h16
   exact Ev.gd (by (first|omega|(simp[bK]<;>omega))) (hn _ ⟨⟨a6+1,q3,rfl,by omega,by omega,hq3⟩,.one (by decide) hx⟩ (by dsimp only;omega))
  ·exact vH hm fun r hr=>Ev.bA (fun _=>jm hm hC (by omega) h15 (by omega)) (fun hr1=>hj _ ⟨rfl,by have:=hr hr1;omega⟩)
 ·refine jw fun r hr _=>Ev.br (fun hr1=>?_) (fun _=>Ev.ok ⟨⟨a5,q3,rfl,by omega,by omega,hq3⟩,he⟩)
  have hk5:=(hr hr1).1
  have hnx:=hC.next (by omega) ht (by omega)
  refine pD hm h12 h13 he fun x hx=>?_
  dsimp only
  refine Ev.gd (by (first|omega|(simp[bK]<;>omega))) (sr (C3 hC ih hm (by omega) hnx hq3 (by omega) hx) fun x a6 q6 h14 h15 hq6 hx6=>?_)
  dsimp only
  exact Ev.gd (by (first|omega|(simp[bK]<;>omega))) (hn _ ⟨⟨a6+1,q6,rfl,by omega,by omega,hq6⟩,hx6⟩ (by dsimp only;omega))
end
section
variable {s:List UInt8} {T:List au} {b:Int} {K:Nat} {m:Nat→Nat} {a:Int} {k:Bool} {q:Option aj} {j:Bool}
theorem Eo (hC:PC s T b) (ih:PG s T b K):xV s T b (K+1) 2 (fun n=>bS n j):=by
 intro m a k q hm h0 h1 hq hK
 refine Ev.grow (F:=fun n=>bS n j (aY s T a b k q)) hm fun m hm=>?_
 show Ev (fun i=>b1 (m i) (ai (m i)) j (aY s T a b k q)) _ _
 unfold b1
 have hl:=hC.ls
 dsimp only
 cases q with
 | some e=>exact Ev.cD (Ev.some rfl (Ev.ok ⟨⟨a,none,rfl,by omega,by omega,.none⟩,hq e rfl⟩))
 | none=>
  refine Ev.cg ?_
  refine fB hm hC h0 h1 fun a2 t h2 h3 ht h4 _=>?_
  dsimp only
  refine kE hm hC (by omega) h3 fun a5 t5 v h9 h10 ht5 h11 hv h12 h13=>?_
  have e5:=h11 t ht h4
  subst e5
  rw[ht] at ht5;cases ht5
  dsimp only
  refine Ev.jn (fun v=>v.1=aY s T a5 b k none∧iV v.2∧t.Kind≠0) (fun w hw=>?_) (fun jj hj=>?_)
  ·obtain ⟨p,e⟩:=w
   obtain ⟨hp,he,hk⟩:=hw
   dsimp only at hp he;subst hp;dsimp only
   have hnx:=hC.next (by omega) ht hk
   exact Ev.gd (by (first|omega|(simp[bK]<;>omega))) (Ev.ok ⟨⟨a5+1,none,rfl,by omega,by omega,.none⟩,he⟩)
  ·refine Ev.bE (fun hk=>?_) (fun _=>?_)
   ·exact fI (ih.named hm (by omega) h3 .none ht hk (by omega)) fun e a4 q4 h6 h7 hq4 he=>Ev.ok ⟨⟨a4,q4,rfl,by omega,h7,hq4⟩,he⟩
   refine Ev.bE (fun hk=>?_) (fun _=>?_)
   ·exact Ev.ep (rz hm) fun y _=>hj _ ⟨rfl,.leaf (by decide),by omega⟩
   refine Ev.bE (fun hk=>hj _ ⟨rfl,.leaf (by decide),by omega⟩) (fun _=>?_)
   refine Ev.bE (fun hk=>?_) (fun _=>?_)
   ·rw[hv]
    refine Ev.aQ (ih.tX hm (by omega) h3 ht hk (by omega)) fun y hy=>?_
    exact hj _ ⟨hy.1,hy.2,by omega⟩
   refine jw fun r hr _=>Ev.br (fun hr1=>hj _ ⟨rfl,.leaf (by decide),by have:=(hr hr1).1;omega⟩) (fun _=>?_)
   refine jw fun r hr _=>Ev.br (fun hr1=>hj _ ⟨rfl,.leaf (by decide),by have:=(hr hr1).1;omega⟩) (fun _=>?_)
   refine jw fun r hr _=>Ev.br (fun hr1=>?_) (fun _=>?_)
   ·exact fI (ih.parens hm (by omega) h3 .none (by omega)) fun e a4 q4 h6 h7 hq4 he=>Ev.ok ⟨⟨a4,q4,rfl,by omega,h7,hq4⟩,he⟩
   refine jw fun r hr _=>Ev.br (fun hr1=>?_) (fun _=>?_)
   ·exact fI (ih.rM hm (by omega) h3 .none (by omega)) fun e a4 q4 h6 h7 hq4 he=>Ev.ok ⟨⟨a4,q4,rfl,by omega,h7,hq4⟩,he⟩
   refine jw fun r hr _=>Ev.br (fun hr1=>?_) (fun _=>?_)
   ·exact fI (ih.list hm (by omega) h3 .none (by omega)) fun e a4 q4 h6 h7 hq4 he=>Ev.ok ⟨⟨a4,q4,rfl,by omega,h7,hq4⟩,he⟩
   exact jm hm hC (by omega) h3 (by omega)
theorem C4 (hC:PC s T b) (ih:PG s T b K) (hm:cm m) (h0:0≤a) (h1:a<T.length) (hq:QS q) {t:au} (ht:T[a.toNat]?=some t) (hk:t.Kind=1) (hK:64*(T.length - a).toNat+1<K+1) :
  Ev (fun i=>cx (m i) (aY s T a b k q)) (fun r=>St s T b k a 0 r.2∧iV r.1) (PP (b+s.length)):=by
 refine Ev.grow (F:=fun n=>cx n (aY s T a b k q)) hm fun m hm=>?_
 show Ev (fun i=>dx (m i) (ai (m i)) (aY s T a b k q)) _ _
 unfold dx
 have hl:=hC.ls
 have hnx:=hC.next (by omega) ht (by omega)
 refine fB hm hC h0 h1 fun a2 t2 h2 h3 ht2 h4 e2=>?_
 have e2:=e2 t ht (fun _=>by omega)
 subst e2
 rw[ht] at ht2;cases ht2
 dsimp only
 refine kE hm hC (by omega) h3 fun a5 t5 v h9 h10 ht5 h11 hv h12 h13=>?_
 have e5:=h11 t ht h4
 subst e5
 dsimp only
 refine Ev.jn (fun v=>v.Kind≠16) (fun w hw=>?_) (fun jj hj=>?_)
 ·exact Ev.gd (by (first|omega|(simp[bK]<;>omega))) (Ev.ok ⟨⟨a5+1,q,rfl,by omega,by omega,hq⟩,.leaf hw⟩)
 ·refine Ev.bE (fun _=>hj _ (by simp[aj.Kind])) (fun _=>?_)
  refine Ev.jn (fun _=>True) (fun w _=>?_) (fun j2 hj2=>?_)
  ·refine Ev.br (fun _=>Ev.bE (fun _=>hj _ (by simp[aj.Kind])) (fun _=>hj _ (by simp[aj.Kind]))) (fun _=>?_)
   refine Ev.jn (fun _=>True) (fun w _=>?_) (fun j2 hj2=>?_)
   ·refine Ev.br (fun _=>hj _ (by simp[aj.Kind])) (fun _=>?_)
    refine uU hm hC h0 h3 (by omega) fun a6 x h14 h15=>?_
    dsimp only
    refine fB hm hC (by omega) h15 fun a7 t7 h16 h17 _ _ _=>?_
    dsimp only
    refine jw fun r _ _=>Ev.br (fun _=>?_) (fun _=>Ev.ok ⟨⟨a7,q,rfl,by omega,by omega,hq⟩,.leaf (by decide)⟩)
    exact fI (P:=fun l:List aj=>l.length≤70000∧∀ x,x∈l→iV x) (ih.args hm (by omega) h17 hq (by omega)) fun e a4 q4 h6 h7 hq4 he=>Ev.ok ⟨⟨a4,q4,rfl,by omega,h7,hq4⟩,.of he.1 (by simp) he.2⟩
   ·refine Ev.bE (fun _=>hj2 _ trivial) (fun _=>Ev.bE (fun _=>hj2 _ trivial) (fun _=>Ev.bE (fun _=>hj2 _ trivial) (fun _=>hj2 _ trivial)))
  ·exact Ev.bE (fun _=>hj2 _ trivial) (fun _=>hj2 _ trivial)
def sK (s:List UInt8) (b:Int):Prop:=∀ {m:Nat→Nat} {x:List UInt8} {f:Int},cm m→x.length<s.length→0≤f→f+x.length≤b+s.length→Ev (fun i=>fV (m i) x f) (fun r=>iV r.1) gA
theorem Bw (hC:PC s T b) (hX:sK s b) (hm:cm m) (_:0≤a) (_:a<T.length) {t:au} (ht:T[a.toNat]?=some t) (hk:t.Kind=4) :
  Ev (fun i=>cR (m i) t (b+t.Pos) (aY s T a b k q)) (fun r=>r.2=aY s T a b k q∧iV r.1) (PP (b+s.length)):=by
 refine Ev.grow (F:=fun n=>cR n t (b+t.Pos) (aY s T a b k q)) hm fun m hm=>?_
 show Ev (fun i=>eP (m i) (ai (m i)) t (b+t.Pos) (aY s T a b k q)) _ _
 unfold eP
 have hbs:=hC.bs
 have hb0:=hC.b0
 obtain ⟨g0,g1,g2,g3,g4,_⟩:=hC.tok ht
 have g4:=g4 hk
 refine Ev.ep (qC hm (by omega)) fun y hy=>?_
 refine Ev.iter hm (fun (x:L×aj×Int)=>x.1=aY s T a b k q∧0≤x.2.2∧x.2.2≤y.1.length∧x.2.1.bf.length≤x.2.2∧x.2.1.Kind=5∧∀ e,e∈x.2.1.bf→iV e) (fun x=>(y.1.length - x.2.2).toNat) ⟨rfl,by simp,by simp,by simp[TS],rfl,by simp[TS]⟩ ?_
 rintro ⟨p,e,i⟩ ⟨hp,h2,h3,h4,h5,h6⟩ next hn
 dsimp only at hp h2 h3 h4 h5 h6 hn ⊢
 subst hp
 have hyl:=hy.1
 refine Ev.ba (fun hlt=>?_) (fun _=>Ev.ok ⟨rfl,.of (by omega) (by omega) h6⟩)
 refine Ev.el (by omega) (by omega) fun x hx=>?_
 obtain ⟨x0,x1,x2⟩:=hy.2 x (List.mem_of_getElem? hx)
 refine Ev.gd (by (first|omega|(simp[bK]<;>omega))) (Ev.gd (by (first|omega|(simp[bK]<;>omega))) (Ev.bA (fun _=>?_) (fun hc=>?_)))
 ·refine Ev.gd (by (first|omega|(simp[cV,maxLen]<;>omega))) (Ev.gd (by (first|omega|(simp[bK]<;>omega))) (hn _ ⟨rfl,by dsimp only;omega,by dsimp only;omega,by simp[TS];omega,h5,fun z hz=>?_⟩ (by dsimp only;omega)))
  rcases List.mem_append.1 hz with w|w
  ·exact h6 z w
  ·simp at w;subst w;exact .leaf (by decide)
 ·have x2:=x2 hc
  refine Ev.ep (hX hm (x:=x.Text) (f:=b+t.Pos+1+x.Pos) (by omega) (by omega) (by omega)) fun z hz=>?_
  refine Ev.bA (fun _=>uT (by omega) (by omega)) (fun _=>?_)
  refine Ev.gd (by (first|omega|(simp[cV,maxLen]<;>omega))) (Ev.gd (by (first|omega|(simp[bK]<;>omega))) (hn _ ⟨rfl,by dsimp only;omega,by dsimp only;omega,by simp[TS];omega,h5,fun z2 hz2=>?_⟩ (by dsimp only;omega)))
  rcases List.mem_append.1 hz2 with w|w
  ·exact h6 z2 w
  ·simp at w;subst w;exact hz
theorem Bx (hC:PC s T b) (ih:PG s T b K) (hm:cm m) (h0:0≤a) (h1:a<T.length) (hq:QS q) (hK:64*(T.length - a).toNat+1<K+1) :
  Ev (fun i=>bM (m i) j (aY s T a b k q)) (fun r=>St s T b k (a+1) 0 r.2∧iV r.1) (PP (b+s.length)):=by
 refine Ev.grow (F:=fun n=>bM n j (aY s T a b k q)) hm fun m hm=>?_
 show Ev (fun i=>cK (m i) (ai (m i)) j (aY s T a b k q)) _ _
 unfold cK
 have hl:=hC.ls
 refine jo hm hC h0 h1 (by omega) fun a2 t h2 h3 _ _ _ _=>?_
 refine sr (s:=s) (T:=T) (b:=b) (k:=k) (a:=a+1) (d:=1) (P:=fun x:Bool×aj=>iV x.2) ?_ fun x a3 q3 h4 h5 hq3 he=>?_
 ·refine Ev.grow (F:=fun n=>cu n true (aY s T a2 b k q) j (aj.mk 0 [] 0 [] [] [] [] [] 0)) hm fun m hm=>?_
  show Ev (fun i=>c8 (m i) (ai (m i)) true (aY s T a2 b k q) j (aj.mk 0 [] 0 [] [] [] [] [] 0)) _ _
  unfold c8
  dsimp only
  refine Ev.aQ (Q:=fun r=>St s T b true (a+1) 1 r.2.2∧iV r.2.1) ?_ fun r hr=>?_
  ·refine Ev.grow (F:=fun n=>ea n j (aj.mk 0 [] 0 [] [] [] [] [] 0) (aY s T a2 b true q)) hm fun m hm=>?_
   show Ev (fun i=>dj (m i) (ai (m i)) j (aj.mk 0 [] 0 [] [] [] [] [] 0) (aY s T a2 b true q)) _ _
   unfold dj
   refine fI (ih.expr hm (by omega) h3 hq (by omega)) fun x a3 q3 h4 h5 hq3 he=>?_
   dsimp only
   exact mB hm hC (by omega) (by omega) (by omega) fun a4 t h6 h7 _ _ _=>Ev.ok ⟨⟨a4,q3,rfl,by omega,h7,hq3⟩,he⟩
  ·obtain ⟨x,e,p⟩:=r
   obtain ⟨⟨a3,q3,hp,h4,h5,hq3⟩,he⟩:=hr
   dsimp only at hp he;subst hp
   exact Ev.ok ⟨⟨a3,q3,rfl,h4,h5,hq3⟩,he⟩
 ·dsimp only
  exact Ev.gd (by (first|omega|(simp[bK]<;>omega))) (Ev.ok ⟨⟨a3+1,q3,rfl,by omega,by omega,hq3⟩,he⟩)
theorem C5 (hC:PC s T b) (ih:PG s T b K) (hm:cm m) (h0:0≤a) (h1:a<T.length) (hq:QS q) (hK:64*(T.length - a).toNat<K+1) :
  Ev (fun i=>ca (m i) j (aY s T a b k q)) (fun r=>St s T b k a 0 r.2.2∧r.1.length≤70000∧(∀ d,d∈r.1→k3 d)∧r.2.1.length≤70000∧∀ x,x∈r.2.1→x.length≤65536) (PP (b+s.length)):=by
 refine Ev.grow (F:=fun n=>ca n j (aY s T a b k q)) hm fun m hm=>?_
 show Ev (fun i=>dw (m i) (ai (m i)) j (aY s T a b k q)) _ _
 unfold dw
 have hl:=hC.ls
 refine jo hm hC h0 h1 (by omega) fun a2 t h2 h3 _ _ _ _=>?_
 refine sr (s:=s) (T:=T) (b:=b) (k:=k) (a:=a+1) (d:=1) (P:=fun r:Bool×List o×List (List UInt8)=>r.2.1.length≤70000∧(∀ d,d∈r.2.1→k3 d)∧r.2.2.length≤70000∧∀ x,x∈r.2.2→x.length≤65536) ?_ fun x a3 q3 h4 h5 hq3 he=>?_
 ·refine Ev.grow (F:=fun n=>cS n false (aY s T a2 b k q) j [] []) hm fun m hm=>?_
  show Ev (fun i=>dV (m i) (ai (m i)) false (aY s T a2 b k q) j [] []) _ _
  unfold dV
  dsimp only
  refine Ev.aQ (Q:=fun r=>St s T b false (a+1) 1 r.2.2.2∧r.2.1.length≤70000∧(∀ d,d∈r.2.1→k3 d)∧r.2.2.1.length≤70000∧∀ x,x∈r.2.2.1→x.length≤65536) ?_ fun r hr=>?_
  ·refine Ev.grow (F:=fun n=>eZ n j [] [] (aY s T a2 b false q)) hm fun m hm=>?_
   show Ev (fun i=>eC (m i) (ai (m i)) j [] [] (aY s T a2 b false q)) _ _
   unfold eC
   refine Ev.aQ (ih.decls hm (by omega) h3 hq (by omega)) fun r hr=>?_
   obtain ⟨x,e,p⟩:=r
   obtain ⟨⟨a3,q3,hp,h4,h5,hq3⟩,he⟩:=hr
   dsimp only at hp he;subst hp
   dsimp only
   exact mB hm hC (by omega) (by omega) (by omega) fun a4 t h6 h7 _ _ _=>Ev.ok ⟨⟨a4,q3,rfl,by omega,h7,hq3⟩,he⟩
  ·obtain ⟨x,y,e,p⟩:=r
   obtain ⟨⟨a3,q3,hp,h4,h5,hq3⟩,he⟩:=hr
   dsimp only at hp he;subst hp
   exact Ev.ok ⟨⟨a3,q3,rfl,h4,h5,hq3⟩,he⟩
 ·dsimp only
  exact Ev.gd (by (first|omega|(simp[bK]<;>omega))) (Ev.ok ⟨⟨a3+1,q3,rfl,by omega,by omega,hq3⟩,he⟩)
theorem By (hC:PC s T b) (ih:PG s T b K):xV s T b (K+1) 1 (fun n=>ck n j):=by
 intro m a k q hm h0 h1 hq hK
 refine Ev.grow (F:=fun n=>ck n j (aY s T a b k q)) hm fun m hm=>?_
 show Ev (fun i=>di (m i) (ai (m i)) j (aY s T a b k q)) _ _
 unfold di
 refine kE hm hC h0 h1 fun a2 t v h2 h3 _ _ _ _ _=>?_
 dsimp only
 refine Ev.jn (fun v=>v.Kind≠16) (fun w hw=>?_) (fun jj hj=>?_)
 ·refine Ev.aQ (ih.block hm (by omega) h3 hq (by omega)) fun r hr=>?_
  obtain ⟨x,e,p⟩:=r
  obtain ⟨⟨a3,q3,hp,h4,h5,hq3⟩,he1,he2,he3,he4⟩:=hr
  dsimp only at hp he1 he2 he3 he4;subst hp
  exact Ev.ok ⟨⟨a3,q3,rfl,by omega,h5,hq3⟩,.mk (by simp) he1 he3 he4 (fun q=>absurd q hw) (by simp) he2⟩
 ·exact Ev.br (fun _=>hj _ (by simp[aj.Kind])) (fun _=>hj _ (by simp[aj.Kind]))
theorem Ep (hC:PC s T b) (ih:PG s T b K) (hm:cm m) (h0:0≤a) (h1:a<T.length) (hq:QS q) (hK:64*(T.length - a).toNat+1<K+1) :
  Ev (fun i=>cL (m i) (aY s T a b k q)) (fun r=>St s T b k a 0 r.2∧r.1.length≤70000∧∀ x,x∈r.1→iV x) (PP (b+s.length)):=by
 refine Ev.grow (F:=fun n=>cL n (aY s T a b k q)) hm fun m hm=>?_
 show Ev (fun i=>dF (m i) (ai (m i)) (aY s T a b k q)) _ _
 unfold dF
 have hl:=hC.ls
 refine jo hm hC h0 h1 (by omega) fun a2 t h2 h3 _ _ _ _=>?_
 refine sr (s:=s) (T:=T) (b:=b) (k:=k) (a:=a+1) (d:=1) (P:=fun r:List aj=>r.length≤70000∧∀ x,x∈r→iV x) ?_ fun x a3 q3 h4 h5 hq3 he=>?_
 ·refine Ev.grow (F:=fun n=>cU n true (aY s T a2 b k q) []) hm fun m hm=>?_
  show Ev (fun i=>dY (m i) (ai (m i)) true (aY s T a2 b k q) []) _ _
  unfold dY
  dsimp only
  refine fI (k:=true) (a:=a+1) (d:=1) (P:=fun r:List aj=>r.length≤70000∧∀ x,x∈r→iV x) ?_ fun x a' q' h2 h3 h4 h5=>Ev.ok ⟨⟨a',q',rfl,h2,h3,h4⟩,h5⟩
  refine Ev.grow (F:=fun n=>fu n [] (aY s T a2 b true q)) hm fun m hm=>?_
  show Ev (fun i=>eO (m i) (ai (m i)) [] (aY s T a2 b true q)) _ _
  unfold eO
  refine fB hm hC (by omega) h3 fun a3 t3 h4 h5 _ _ _=>?_
  dsimp only
  refine jw fun r _ _=>Ev.bA (fun _=>?_) (fun _=>?_)
  ·refine fI (ih.expr hm (by omega) h5 hq (by omega)) fun x a4 q4 h6 h7 hq4 he=>?_
   dsimp only
   refine Ev.gd (by (first|omega|(simp[cV,maxLen]<;>omega))) ?_
   refine Ev.iter hm (fun (x:List aj×L)=>St s T b true (a+1) 0 x.2∧(x.1.length:Int)≤x.2.at_+1∧∀ e,e∈x.1→iV e) (fun x=>(T.length - x.2.at_).toNat) ⟨⟨a4,q4,rfl,by omega,h7,hq4⟩,by simp;omega,by simpa using he⟩ ?_
   rintro ⟨l,p⟩ ⟨⟨a6,q6,hp,h14,h15,hq6⟩,hl2,hl3⟩ next hn
   dsimp only at hp hl2 hl3;subst hp;dsimp only at hn hl2 ⊢
   refine ku hm hC (by omega) (by omega) (fun a7 t h16 h17 _ _ _ _=>?_) (fun a7 t h16 h17 _ _ _ _=>?_)
   ·dsimp only
    refine Ev.cD (fI (ih.expr hm (by omega) h17 hq6 (by omega)) fun e a8 q8 h18 h19 hq8 he8=>?_)
    dsimp only
    refine Ev.gd (by (first|omega|(simp[cV,maxLen]<;>omega))) (hn _ ⟨⟨a8,q8,rfl,by omega,h19,hq8⟩,by simp;omega,fun z hz=>?_⟩ (by dsimp only;omega))
    rcases List.mem_append.1 hz with w|w
    ·exact hl3 z w
    ·simp at w;subst w;exact he8
   ·dsimp only
    refine Ev.cg (mB hm hC (by omega) (by omega) (by omega) fun a8 t h18 h19 _ _ _=>Ev.ok ⟨⟨a8,q6,rfl,by omega,h19,hq6⟩,by dsimp only;omega,hl3⟩)
  ·exact mB hm hC (by omega) (by omega) (by omega) fun a8 t h18 h19 _ _ _=>Ev.ok ⟨⟨a8,q,rfl,by omega,h19,hq⟩,by simp,by simp⟩
 ·dsimp only
  exact Ev.gd (by (first|omega|(simp[bK]<;>omega))) (Ev.ok ⟨⟨a3+1,q3,rfl,by omega,by omega,hq3⟩,he⟩)
theorem Er (hC:PC s T b) (ih:PG s T b K):xV s T b (K+1) 14 de:=by
 intro m a k q hm h0 h1 hq hK
 refine Ev.grow (F:=fun n=>de n (aY s T a b k q)) hm fun m hm=>?_
 show Ev (fun i=>fy (m i) (ai (m i)) (aY s T a b k q)) _ _
 unfold fy
 refine kE hm hC h0 h1 fun a2 t v h2 h3 _ _ _ _ _=>?_
 dsimp only
 refine fB hm hC (by omega) h3 fun a3 t3 h4 h5 _ _ _=>?_
 dsimp only
 refine qe fun r _ _=>Ev.bA (fun _=>?_) (fun _=>?_)
 ·exact fI (ih.expr hm (by omega) h5 hq (by omega)) fun x a4 q4 h6 h7 hq4 he=>Ev.ok ⟨⟨a4,q4,rfl,by omega,h7,hq4⟩,he⟩
 refine qg hm hC (by omega) h5 (by omega) fun a4 h6 h7=>yT hm hC (by omega) h7 (by omega) fun a5 nm h8 h9=>?_
 dsimp only
 refine qg hm hC (by omega) h9 (by omega) fun a6 h10 h11=>fI (ih.expr hm (by omega) h11 hq (by omega)) fun x a7 q7 h12 h13 hq7 he=>?_
 dsimp only
 refine Ev.gd (by (first|omega|(simp[cV,maxLen]<;>omega))) ?_
 refine Ev.jn (fun v=>St s T b k (a+1) 0 v.1∧v.2.bf.length≤2∧v.2.Kind=15∧∀ e,e∈v.2.bf→iV e) (fun w hw=>?_) (fun jj hj=>?_)
 ·obtain ⟨p,e⟩:=w
  obtain ⟨⟨a8,q8,hp,h14,h15,hq8⟩,hs1,hs2,hs3⟩:=hw
  dsimp only at hp hs1 hs2 hs3;subst hp;dsimp only
  refine jo hm hC (by omega) (by omega) (by omega) fun a9 t h16 h17 _ _ _ _=>fI (ih.expr hm (by omega) h17 hq8 (by omega)) fun x yX q10 h18 h19 hq10 he10=>?_
  dsimp only
  refine Ev.gd (by (first|omega|(simp[cV,maxLen]<;>omega))) (Ev.ok ⟨⟨yX,q10,rfl,by omega,h19,hq10⟩,.of (by simp;omega) (by omega) fun z hz=>?_⟩)
  rcases List.mem_append.1 hz with w|w
  ·exact hs3 z w
  ·simp at w;subst w;exact he10
 ·refine fB hm hC (by omega) (by omega) fun a8 t8 h14 h15 _ _ _=>?_
  dsimp only
  refine qe fun r _ _=>Ev.br (fun _=>?_) (fun _=>hj _ ⟨⟨a8,q7,rfl,by omega,by omega,hq7⟩,by simp[TS],rfl,by simpa[TS] using he⟩)
  refine qg hm hC (by omega) h15 (by omega) fun a9 h16 h17=>fI (ih.expr hm (by omega) h17 hq7 (by omega)) fun x2 yX q10 h18 h19 hq10 he10=>?_
  dsimp only
  refine Ev.gd (by (first|omega|(simp[cV,maxLen]<;>omega))) (hj _ ⟨⟨yX,q10,rfl,by omega,h19,hq10⟩,by simp[TS],rfl,?_⟩)
  simp only[TS]
  intro z hz
  simp at hz
  rcases hz with rfl|rfl
  ·exact he
  ·exact he10
theorem Es (hC:PC s T b) (ih:PG s T b K):xV s T b (K+1) 1 cM:=by
 intro m a k q hm h0 h1 hq hK
 refine Ev.grow (F:=fun n=>cM n (aY s T a b k q)) hm fun m hm=>?_
 show Ev (fun i=>dG (m i) (ai (m i)) (aY s T a b k q)) _ _
 unfold dG
 have hl:=hC.ls
 refine kE hm hC h0 h1 fun a1 t v h2 h3 _ _ _ _ _=>?_
 dsimp only
 refine jo hm hC (by omega) h3 (by omega) fun a2 t h4 h5 _ _ _ _=>?_
 refine sr (s:=s) (T:=T) (b:=b) (k:=k) (a:=a+1) (d:=1) (P:=iV) ?_ fun x a3 q3 h4 h5 hq3 he=>?_
 ·refine Ev.grow (F:=fun n=>cT n true (aY s T a2 b k q) (aj.mk 14 [] 0 [] [] [] [] [] v)) hm fun m hm=>?_
  show Ev (fun i=>dX (m i) (ai (m i)) true (aY s T a2 b k q) (aj.mk 14 [] 0 [] [] [] [] [] v)) _ _
  unfold dX
  dsimp only
  refine fI (k:=true) (a:=a+1) (d:=1) (P:=iV) ?_ fun x a' q' h2 h3 h4 h5=>Ev.ok ⟨⟨a',q',rfl,h2,h3,h4⟩,h5⟩
  refine Ev.grow (F:=fun n=>fv n (aj.mk 14 [] 0 [] [] [] [] [] v) (aY s T a2 b true q)) hm fun m hm=>?_
  show Ev (fun i=>eQ (m i) (ai (m i)) (aj.mk 14 [] 0 [] [] [] [] [] v) (aY s T a2 b true q)) _ _
  unfold eQ
  refine Ev.iter hm (fun (x:aj×L×Bool)=>St s T b true (a+1) 0 x.2.1∧x.1.Kind=14∧x.1.Decls=[]∧x.1.cz=[]∧(x.1.bf.length:Int)+(if x.2.2 then 1 else 0)≤x.2.1.at_+1∧∀ e,e∈x.1.bf→iV e) (fun x=>2*(T.length - x.2.1.at_).toNat+(if x.2.2 then 1 else 0)) ⟨⟨a2,q,rfl,by omega,by omega,hq⟩,rfl,rfl,rfl,by simp[TS];omega,by simp[TS]⟩ ?_
  rintro ⟨e,p,f⟩ ⟨⟨a6,q6,hp,h14,h15,hq6⟩,hk,hd,ht,hl2,hl3⟩ next hn
  dsimp only at hp hk hd ht hl2 hl3;subst hp;dsimp only at hn hl2 ⊢
  refine fB hm hC (by omega) (by omega) fun a7 t7 h16 h17 _ _ _=>?_
  dsimp only
  refine jw fun r _ _=>Ev.bA (fun _=>?_) (fun _=>?_)
  ·refine Ev.jn (fun p=>∃ a8,p=aY s T a8 b true q6∧a6≤a8∧a8<T.length∧(f=false→a6<a8)) (fun w hw=>?_) (fun jj hj=>?_)
   ·obtain ⟨a8,rfl,h18,h19,h20⟩:=hw
    have hf1:(e.bf.length:Int)≤a8:=by
     cases f with
     | true=>simp at hl2;omega
     | false=>have:=h20 rfl;simp at hl2;omega
    have hf2:∀ x:Int,a8≤x→2*(T.length - x).toNat+0<2*(T.length - a6).toNat+(if f=true then 1 else 0):=by
     intro x hx
     cases f with
     | true=>simp;omega
     | false=>have:=h20 rfl;simp;omega
    refine kE hm hC (by omega) h19 fun a9 t v h21 h22 _ _ _ _ _=>?_
    dsimp only
    refine ku hm hC (by omega) (by omega) (fun yX t h23 h24 _ _ _ _=>?_) (fun yX t h23 h24 _ _ _ _=>?_)
    ·dsimp only
     refine Ev.cD ?_
     refine Ev.jn (fun v=>St s T b true (a+1) 0 v.1∧iV v.2) (fun w hw=>?_) (fun jj hj=>?_)
     ·obtain ⟨p,x⟩:=w
      obtain ⟨⟨a11,q11,hp,h25,h26,hq11⟩,hx⟩:=hw
      dsimp only at hp hx;subst hp;dsimp only
      refine Ev.gd (by (first|omega|(simp[cV,maxLen]<;>omega))) (mB hm hC (by omega) (by omega) (by omega) fun a12 t h27 h28 _ _ _=>Ev.ok ⟨⟨a12,q11,rfl,by omega,h28,hq11⟩,?_⟩)
      dsimp only
      rw[hd,ht]
      refine .of (by simp;omega) (by omega) fun z hz=>?_
      rcases List.mem_append.1 hz with w|w
      ·exact hl3 z w
      ·simp at w;subst w;exact hx
     ·refine fB hm hC (by omega) (by omega) fun a11 t11 h25 h26 _ _ _=>?_
      dsimp only
      refine jw fun r _ _=>Ev.bA (fun _=>?_) (fun _=>hj _ ⟨⟨a11,q6,rfl,by omega,by omega,hq6⟩,.leaf (by decide)⟩)
      exact fI (ih.expr hm (by omega) h26 hq6 (by omega)) fun x a12 q12 h27 h28 hq12 he12=>hj _ ⟨⟨a12,q12,rfl,by omega,h28,hq12⟩,he12⟩
    ·dsimp only
     refine Ev.cg (fI (ih.item hm (by omega) h24 hq6 (by omega)) fun x a12 q12 h27 h28 hq12 he12=>?_)
     dsimp only
     refine Ev.gd (by (first|omega|(simp[cV,maxLen]<;>omega))) (hn _ ⟨⟨a12,q12,rfl,by omega,h28,hq12⟩,hk,hd,ht,by simp[TS];omega,fun z hz=>?_⟩ (by have:=hf2 a12 (by omega);simpa using this))
     rcases List.mem_append.1 hz with w|w
     ·exact hl3 z w
     ·simp at w;subst w;exact he12
   ·refine Ev.bA (fun hf=>?_) (fun hf=>hj _ ⟨a7,rfl,h16,h17,fun h=>by rw[hf] at h;cases h⟩)
    exact jo hm hC (by omega) h17 (by omega) fun a8 t h18 h19 _ _ _ _=>hj _ ⟨a8,rfl,by omega,h19,fun _=>by omega⟩
  ·refine mB hm hC (by omega) (by omega) (by omega) fun a8 t h18 h19 _ _ _=>Ev.ok ⟨⟨a8,q6,rfl,by omega,h19,hq6⟩,?_⟩
   dsimp only
   cases e with
   | mk k0 t0 n0 x0 y0 s0 d0 tl0 p0=>
    simp only[aj.Kind,aj.Decls,aj.cz,aj.bf] at hk hd ht hl2 hl3
    subst hd ht
    refine .of ?_ (by omega) hl3
    have:(s0.length:Int)≤a6+1:=by
     cases f with
     | true=>simp at hl2;omega
     | false=>simp at hl2;omega
    omega
 ·dsimp only
  exact Ev.gd (by (first|omega|(simp[bK]<;>omega))) (Ev.ok ⟨⟨a3+1,q3,rfl,by omega,by omega,hq3⟩,he⟩)
end
end Go.Abs
end
section
namespace Go.Abs
open Go.Proofs D
def jF (n:Nat) (p0:L):D (cN×L):=
 D.bind (bm n p0) fun y3=>gd (bK (y3.2.at_+1)) (jn (fun (v6:L×cN)=>D.bind (az n v6.1) fun y10=>jn (fun (v11:L)=>jn (fun (v15:L×cN)=>gd (bK (v15.1.at_+1)) (D.bind (jr n (L.mk v15.1.text v15.1.bo (v15.1.at_+1) v15.1.base v15.1.skip v15.1.pending)) fun y21=>.ok (v15.2,y21))) fun j16=>br (v6.2.Name==([]:List UInt8)) (D.bind (strings_LastIndex y10.1.Text ([47]:List UInt8)) fun y26=>gd (bK (y26+1)) (gd ((0:Int)≤(y26+1)∧(y26+1)≤(List.length y10.1.Text:Int)) (D.bind (fS n (dp y10.1.Text (y26+1))) fun y30=>br (!y30) (D.bind (bj n v11) fun y32=>j16 (y32,(cN.mk (dp y10.1.Text (y26+1)) y10.1.Text v6.2.Pos))) (j16 (v11,(cN.mk (dp y10.1.Text (y26+1)) y10.1.Text v6.2.Pos)))))) (j16 (v11,(cN.mk v6.2.Name y10.1.Text v6.2.Pos)))) fun j12=>br (y10.1.Kind !=3) (D.bind (bj n (L.mk y10.2.text y10.2.bo y10.2.at_ v6.1.base y10.2.skip y10.2.pending)) fun y35=>j12 (y35)) (j12 ((L.mk y10.2.text y10.2.bo y10.2.at_ v6.1.base y10.2.skip y10.2.pending)))) fun j7=>D.bind (az n (L.mk y3.2.text y3.2.bo (y3.2.at_+1) y3.2.base y3.2.skip y3.2.pending)) fun y37=>br (y37.1.Kind==1) (D.bind (dc n (L.mk y37.2.text y37.2.bo y37.2.at_ y3.2.base y37.2.skip y37.2.pending)) fun y39=>j7 (y39.2,(cN.mk y39.1 [] y3.1))) (j7 ((L.mk y37.2.text y37.2.bo y37.2.at_ y3.2.base y37.2.skip y37.2.pending),(cN.mk [] [] y3.1))))
theorem kK (n:Nat) (p0:L):CT Tryz.prog 59 [.ptr 0 0] [.box (Q p0)] (jF n p0) (fun x=>.agg [F x.1.Name,F x.1.Path,I x.1.Pos]) (fun x=>[.box (Q x.2)]):=by
 refine zC Tryz.func59 O fun r hp h hr E hE=>B fun _ hK1=>A (aK 102 (hE _ O) ⟨O,O,O,O⟩ O ?_)
 refine zQ hK1 (B fun _ hK2=>A (zm O (zk hp hr h [0] Tryz.call75 (cj n p0) O (fun _=>O) fun y3 h=>J (bQ O O O) O ?_)))
 refine aK 103 (hE _ O) ⟨O,O,O,O⟩ O ?_
 refine zs O (zQ hK2 (B fun _ hK4=>A (zm O (zn O (zf O (zl O (zd hr h fun hg5 h=>zo hg5 O (zn O (zf O (zs O (zQ hK4 (zM h (fun (v6:L×cN)=>[(0,.ptr 0 0),(2,.ptr 102 0),(3,.ptr 103 0)]) (fun (v6:L×cN)=>[(0,.box (Q v6.1)),(102,.box [F [],F [],I 0]),(103,.box [F v6.2.Name,F v6.2.Path,I v6.2.Pos])]) (fun v6 h=>?_) fun _ _ hK8 h=>?_))))))))))))
 · refine B fun _ hK9=>A (zm O (zk hp hr h [0] Tryz.call34 (aI n v6.1) O (fun _=>O) fun y10 h=>aK 104 (hE _ O) ⟨O,O,O,O⟩ O ?_))
   refine zs O (zQ hK9 (zM h (fun (v11:L)=>[(0,.ptr 0 0),(2,.ptr 102 0),(3,.ptr 103 0),(4,.ptr 104 0)]) (fun (v11:L)=>[(0,.box (Q v11)),(102,.box [F [],F [],I 0]),(103,.box [F v6.2.Name,F v6.2.Path,I v6.2.Pos]),(104,.box (fF y10.1))]) (fun v11 h=>?_) fun _ _ hK13 h=>?_))
   · refine B fun _ hK14=>A (zf O (zl O (zf O (zs O (zQ hK14 (zM h (fun (v15:L×cN)=>[(0,.ptr 0 0),(2,.ptr 102 0),(3,.ptr 103 0)]) (fun (v15:L×cN)=>[(0,.box (Q v15.1)),(102,.box [F [],F [],I 0]),(103,.box [F v15.2.Name,F v15.2.Path,I v15.2.Pos])]) (fun v15 h=>?_) fun _ _ hK17 h=>?_))))))
     · refine B fun _ hK18=>A (zm O (zn O (zf O (zl O (zd hr h fun hg19 h=>zo hg19 O (zn O (zf O (zs O (zQ hK18 (B fun _ hK20=>A (zm O (zk hp hr h [0] Tryz.call58 (kB n (L.mk v15.1.text v15.1.bo (v15.1.at_+1) v15.1.base v15.1.skip v15.1.pending)) O (fun _=>O) fun y21 h=>zQ hK20 (B fun _ hK22=>A (zA O ?_))))))))))))))
       exact zs O (zQ hK22 (H (zX (.cons (aZ O O O) .nil) h O)))
     · refine B fun _ hK23=>A (zf O (zl O (J (jc O O) O (zQ hK23 (zB O h (fun _ h=>?_) fun _ h=>?_)))))
       · refine B fun _ hK25=>bL [0,1,2,3,4,5,6,7,8] O (by kernel_rfl) (zD O (bR O) O (zD O (fj [.any,F y10.1.Text,.any] O O ⟨.inr O,.inl O,.inr O,trivial⟩ O) O (zD O (bR O) O (zD O (bp O O O) O (dL O (bX O) hr h [] Tryz.call104 (r5 y10.1.Text ([47]:List UInt8)) ⟨O,O,O,O,O,O,trivial⟩ O O (fun _=>⟨O,O,O⟩) (fun _=>⟨O,O⟩) hp (fun y26 h=>⟨cP ⟨trivial,⟨trivial,⟨⟨⟨_,O,M.ff ⟨.inr O,.inl O,.inr O,trivial⟩⟩,trivial⟩,⟨trivial,trivial⟩⟩⟩⟩,?_⟩))))))
         refine zd hr h fun hg27 h=>zD O (k9 O O hg27) O (zd hr h fun hg28 h=>zD O (hZ O O hg28.1 hg28.2) O (zD O (bR O) O (cf O ⟨O,O,O,O,O,O,O,O⟩ O (fun e8 he=>⟨aL O,?_⟩))))
         subst he
         refine cX (hK25 _ _ (B fun _ hK29=>A (zf O (zl O (zk hp hr h [] Tryz.call62 (gb n (dp y10.1.Text (y26+1))) O (fun _=>O) fun y30 h=>J (eS O) O (zQ hK29 (zB O h (fun _ h=>?_) fun _ h=>?_)))))))
         · exact A (zm O (zk hp hr h [0] Tryz.call35 (bF n v11) O (fun _=>O) fun y32 h=>N (hK17 _ _ _ h O)))
         · exact V (hK17 _ _ _ h O)
       · exact V (hK17 _ _ _ h O)
   · refine B fun _ hK33=>A (zf O (zl O (zc O (zQ hK33 (zB O h (fun _ h=>?_) fun _ h=>?_)))))
     · exact A (zm O (zk hp hr h [0] Tryz.call35 (bF n (L.mk y10.2.text y10.2.bo y10.2.at_ v6.1.base y10.2.skip y10.2.pending)) O (fun _=>O) fun y35 h=>N (hK13 _ _ _ h O)))
     · exact V (hK13 _ _ _ h O)
 · refine B fun _ hK36=>A (zm O (zk hp hr h [0] Tryz.call34 (aI n (L.mk y3.2.text y3.2.bo (y3.2.at_+1) y3.2.base y3.2.skip y3.2.pending)) O (fun _=>O) fun y37 h=>J (kj O O) O ?_))
   refine zc O (zQ hK36 (zB O h (fun _ h=>?_) fun _ h=>?_))
   · exact A (zm O (zk hp hr h [0] Tryz.call57 (fT n (L.mk y37.2.text y37.2.bo y37.2.at_ y3.2.base y37.2.skip y37.2.pending)) O (fun _=>O) fun y39 h=>zf O (zs O (N (hK8 _ _ _ h O)))))
   · exact V (hK8 _ _ _ h O)
def nZ (n:Nat) (p0:L):D (ji×L):=
 D.bind (ly n p0) fun y4=>jn (fun (v5:L×ji×(List (List UInt8)))=>jn (fun (v8:L×ji)=>D.bind (fE n v5.2.2 true v8.1) fun y12=>D.bind (az n y12.2.2) fun y15=>br (y15.1.Kind !=0) (D.bind (bj n (L.mk y15.2.text y15.2.bo y15.2.at_ y12.2.2.base y15.2.skip y15.2.pending)) fun y17=>.ok ((ji.mk v8.2.iF v8.2.fN y12.1 y12.2.1),y17)) (.ok ((ji.mk v8.2.iF v8.2.fN y12.1 y12.2.1),(L.mk y15.2.text y15.2.bo y15.2.at_ y12.2.2.base y15.2.skip y15.2.pending)))) fun j9=>iter (fun next21 (v20:L×ji)=>D.bind (az n v20.1) fun y25=>D.bind (eI y25.1 ([105,109,112,111,114,116]:List UInt8)) fun y26=>br y26 (br ((List.length v20.2.fN:Int)==0) (D.bind (jF n (L.mk y25.2.text y25.2.bo y25.2.at_ v20.1.base y25.2.skip y25.2.pending)) fun y29=>gd (cV 40 (List.length v20.2.fN) (List.length [y29.1])) (next21 (y29.2,(ji.mk v20.2.iF (v20.2.fN++[y29.1]) [] [])))) (gd (bK (y25.2.at_ - 1)) (el y25.2.bo (y25.2.at_ - 1) fun x32=>br (x32.Kind !=6) (D.bind (jF n (L.mk y25.2.text y25.2.bo y25.2.at_ v20.1.base y25.2.skip y25.2.pending)) fun y37=>gd (cV 40 (List.length v20.2.fN) (List.length [y37.1])) (next21 (y37.2,(ji.mk v20.2.iF (v20.2.fN++[y37.1]) [] [])))) (j9 ((L.mk y25.2.text y25.2.bo y25.2.at_ v20.1.base y25.2.skip y25.2.pending),(ji.mk v20.2.iF v20.2.fN [] [])))))) (j9 ((L.mk y25.2.text y25.2.bo y25.2.at_ v20.1.base y25.2.skip y25.2.pending),(ji.mk v20.2.iF v20.2.fN [] [])))) n (v5.1,(ji.mk v5.2.1.iF [] [] []))) fun j6=>D.bind (az n y4.2) fun y40=>D.bind (eI y40.1 ([112,97,99,107,97,103,101]:List UInt8)) fun y41=>br y41 (gd (bK (y40.2.at_+1)) (D.bind (dc n (L.mk y40.2.text y40.2.bo (y40.2.at_+1) y4.2.base y40.2.skip y40.2.pending)) fun y46=>D.bind (jr n y46.2) fun y48=>D.bind (kA n y48) fun y49=>gd (cV 16 (List.length y4.1) (List.length y49.1)) (j6 (y49.2,(ji.mk y46.1 [] [] []),y4.1++y49.1)))) (j6 ((L.mk y40.2.text y40.2.bo y40.2.at_ y4.2.base y40.2.skip y40.2.pending),(ji.mk [] [] [] []),y4.1))
theorem rN (n:Nat) (p0:L):CT Tryz.prog 27 [.ptr 0 0] [.box (Q p0)] (nZ n p0) (fun x=>.agg (mO x.1)) (fun x=>[.box (Q x.2)]):=by
 refine zC Tryz.func27 O fun r hp h hr E hE=>B fun _ hK1=>A (aK 102 (hE _ O) ⟨O,O,O,O⟩ O ?_)
 refine zQ hK1 (B fun _ hK2=>A (aK 103 (hE _ O) ⟨O,O,O,O⟩ O ?_))
 refine zQ hK2 (B fun _ hK3=>A (zm O (aX (CA 3106 (sz:=1) (el:=9) (hE _ O) ⟨O,O,O⟩) ?_)))
 refine jf hr h [0,3106] Tryz.call55 (oV n p0) ⟨O,O,O,O,O,O,⟨hE _ O,trivial⟩⟩ O (fun _=>⟨O,O,O⟩) (fun _=>⟨O,O⟩) hp (fun y4 h=>?_)
 refine za O (aX (kz 3106 10004 [(0,.ptr 0 0),(2,.ptr 102 0),(3,.ptr 103 0),(4,.arr 10004 (List.length y4.1))] [(0,.box (Q y4.2)),(102,.box [F [],Sc (.slice none 0 0),Sc (.slice none 0 0),Sc (.slice none 0 0)]),(103,.box [F [],Sc (.slice none 0 0),Sc (.slice none 0 0),Sc (.slice none 0 0)])] (hE _ O) O O ⟨O,O⟩ ⟨⟨_,O,O,O⟩,⟨_,O,O,O⟩,⟨_,O,O,O⟩,⟨_,O,O,O⟩,trivial⟩ ⟨⟨_,O,O,O,O,O⟩,⟨_,O,O,O,O,O⟩,⟨_,O,O,O,O,O⟩,trivial⟩) ?_)
 refine zQ hK3 (zM h (fun (v5:L×ji×(List (List UInt8)))=>[(0,.ptr 0 0),(2,.ptr 102 0),(3,.ptr 103 0),(4,.arr 10004 (List.length v5.2.2))]) (fun (v5:L×ji×(List (List UInt8)))=>[(0,.box (Q v5.1)),(102,.box [F [],Sc (.slice none 0 0),Sc (.slice none 0 0),Sc (.slice none 0 0)]),(103,.box [F v5.2.1.iF,Sc (.slice none 0 0),Sc (.slice none 0 0),Sc (.slice none 0 0)]),(10004,.app 9 1 (ch v5.2.2))]) (fun v5 h=>?_) fun _ _ hK7 h=>?_)
 · refine zM h (fun (v8:L×ji)=>[(0,.ptr 0 0),(2,.ptr 102 0),(3,.ptr 103 0),(4,.arr 10004 (List.length v5.2.2))]) (fun (v8:L×ji)=>[(0,.box (Q v8.1)),(102,.box [F [],Sc (.slice none 0 0),Sc (.slice none 0 0),Sc (.slice none 0 0)]),(103,.box [F v8.2.iF,.arr 26593 (List.length v8.2.fN),Sc (.slice none 0 0),Sc (.slice none 0 0)]),(10004,.app 9 1 (ch v5.2.2)),(26593,.app 65 3 (cN.Cs v8.2.fN))]) (fun v8 h=>?_) fun _ _ hK10 h=>?_
   · refine B fun _ hK11=>A (zm O (zm O (FH [(0,.ptr 0 0),(2,.ptr 102 0),(3,.ptr 103 0),(58,.ptr 0 0)] ⟨O,O,O,O,trivial⟩ hr h [0,10004] Tryz.call60 (qR n v5.2.2 true v8.1) ⟨O,O,O,O,O,O,⟨hE _ O,trivial⟩⟩ O (fun _=>⟨O,O,O⟩) (fun _=>⟨O,O⟩) hp (fun y12 h=>?_))))
     refine zm O (zx O (zx O (zf O (zs O (zf O (zs O (zQ hK11 (B fun _ hK13=>B fun _ hK14=>A (zm O (zk hp hr h [0] Tryz.call34 (aI n y12.2.2) O (fun _=>O) fun y15 h=>J (kj O O) O ?_))))))))))
     refine zc O (zQ hK14 (zB O h (fun _ h=>?_) fun _ h=>?_))
     · refine A (zm O (zk hp hr h [0] Tryz.call35 (bF n (L.mk y15.2.text y15.2.bo y15.2.at_ y12.2.2.base y15.2.skip y15.2.pending)) O (fun _=>O) fun y17 h=>zQ hK13 (B fun _ hK18=>A (aX (yo (j:=103) (off:=1) cN.y cN.b7 O O O O O) ?_))))
       refine zA O ?_
       exact zs O (zQ hK18 (H (zX (.cons (aZ O O O) .nil) h O)))
     · refine V (hK13 _ _ (B fun _ hK19=>A (aX (yo (j:=103) (off:=1) cN.y cN.b7 O O O O O) ?_)))
       refine zA O ?_
       exact zs O (zQ hK19 (H (zX (.cons (aZ O O O) .nil) h O)))
   · refine z (b3 (rT (j:=103) (off:=1) 26593 (sz:=3) (el:=65) (hE _ O) O O ⟨O,O,O⟩ O) ?_)
     refine zL hr h (fun (v20:L×ji)=>[(0,.ptr 0 0),(2,.ptr 102 0),(3,.ptr 103 0),(4,.arr 10004 (List.length v5.2.2))]) (fun (v20:L×ji)=>[(0,.box (Q v20.1)),(102,.box [F [],Sc (.slice none 0 0),Sc (.slice none 0 0),Sc (.slice none 0 0)]),(103,.box [F v20.2.iF,.arr 26593 (List.length v20.2.fN),Sc (.slice none 0 0),Sc (.slice none 0 0)]),(10004,.app 9 1 (ch v5.2.2)),(26593,.app 65 3 (cN.Cs v20.2.fN))]) O fun _ v20 _ hK22 h=>B fun _ hK23=>B fun _ hK24=>bL [0,1,2,3,4,5,6,7,8,9,10,11,12,13,14,15,16,17,18,19,20,21,22,23] O (by kernel_rfl) (zD O (W O) O (dL O (bX O) hr h [0] Tryz.call34 (aI n v20.1) ⟨O,O,O,O,O,O,trivial⟩ O O (fun _=>⟨O,O,O⟩) (fun _=>⟨O,O⟩) hp (fun y25 h=>⟨aL O,?_⟩)))
     refine dL O (bX O) hr h [] Tryz.call56 (gI y25.1 ([105,109,112,111,114,116]:List UInt8)) ⟨O,O,O,O,O,O,trivial⟩ O O (fun _=>⟨O,O,O⟩) (fun _=>⟨O,O⟩) hp (fun y26 h=>⟨aL O,?_⟩)
     refine zD O (W O) O (zb y26 (fun hb27=>?_) fun hb27=>?_)
     · refine z1 hb27 h fun h=>en hb27 O ⟨O,O⟩ (bR O) ⟨O,O,O⟩ ?_
       refine en hb27 O ⟨O,O⟩ (nE cN.y cN.b7 O O O O O) ⟨O,O,O⟩ ?_
       refine en hb27 O ⟨O,O⟩ (cJ O) ⟨O,O,O⟩ ?_
       refine en hb27 O ⟨O,O⟩ (bw O O O) ⟨O,O,O⟩ ?_
       refine en hb27 O ⟨O,O⟩ (W O) ⟨O,O,O⟩ ?_
       refine zb ((List.length v20.2.fN:Int)==0) (fun hb28=>?_) fun hb28=>?_
       · refine z1 hb28 h fun h=>ef hb28 O ⟨O,O⟩ ⟨O,O⟩ ?_
         refine ef hb28 O ⟨O,O⟩ ⟨O,O⟩ ?_
         refine ef hb28 O ⟨O,O⟩ ⟨O,O⟩ ?_
         refine ef hb28 O ⟨O,O⟩ ⟨O,O⟩ ?_
         refine ef hb28 O ⟨O,O⟩ ⟨O,O⟩ ?_
         refine ef hb28 O ⟨O,O⟩ ⟨O,O⟩ ?_
         refine ef hb28 O ⟨O,O⟩ ⟨O,O⟩ ?_
         refine ef hb28 O ⟨O,O⟩ ⟨O,O⟩ ?_
         refine ef hb28 O ⟨O,O⟩ ⟨O,O⟩ ?_
         refine ef hb28 O ⟨O,O⟩ ⟨O,O⟩ ?_
         refine ef hb28 O ⟨O,O⟩ ⟨O,O⟩ ?_
         refine ef hb28 O ⟨O,O⟩ ⟨O,O⟩ ?_
         refine ef hb28 O ⟨O,O⟩ ⟨O,O⟩ ?_
         refine en hb27 O ⟨O,O⟩ (dD hb28 O O) ⟨O,O,O⟩ ?_
         refine zD O (dD hb27 O O) O (cX (hK24 _ _ (dm O (fun hc=>?_) (fun hc=>?_))))
         · refine V (hK23 _ _ (z (mi [] ?_)))
           refine bL [0,1,2,3,4,5,6,7] O (by kernel_rfl) (zD O (bR O) O (zD O (fj [.any,.arr 26593 (List.length v20.2.fN),.any,.any] O O ⟨.inr O,.inl O,.inr O,.inr O,trivial⟩ O) O (zD O (W O) O (dL O (bX O) hr h [0] Tryz.call59 (kK n (L.mk y25.2.text y25.2.bo y25.2.at_ v20.1.base y25.2.skip y25.2.pending)) ⟨O,O,O,O,O,O,trivial⟩ O O (fun _=>⟨O,O,O⟩) (fun _=>⟨O,O⟩) hp (fun y29 h=>⟨cP ⟨trivial,⟨⟨⟨_,O,M.ff ⟨.inr O,.inl O,.inr O,.inr O,trivial⟩⟩,trivial⟩,⟨trivial,trivial⟩⟩⟩,?_⟩)))))
           refine ig [y29.1] cN.y O (bX O) ⟨O,O⟩ ⟨O,O⟩ ?_
           refine zd hr h fun hg30 h=>xi 155 O (bX O) ⟨jV.h,eL.h,cN.y,cN.b7,cN.jh,hE _ O,O,O,(.inl O),⟨O,O,O⟩,hg30⟩ O O ⟨aL O,?_⟩
           refine zD O (bR O) O (cf O ⟨O,O,O,O,O,O,O,O⟩ O (fun e7 he=>⟨aL O,?_⟩))
           subst he
           refine gi (kz 155 26593 [(0,.ptr 0 0),(2,.ptr 102 0),(3,.ptr 103 0),(4,.arr 10004 (List.length v5.2.2))] [(10004,.app 9 1 (ch v5.2.2)),(0,.box (Q y29.2)),(102,.box [F [],Sc (.slice none 0 0),Sc (.slice none 0 0),Sc (.slice none 0 0)]),(103,.box [F v20.2.iF,.arr 26593 (List.length (v20.2.fN++[y29.1])),Sc (.slice none 0 0),Sc (.slice none 0 0)])] (hE _ O) O O ⟨O,O⟩ ⟨⟨_,O,O,O⟩,⟨_,O,O,O⟩,⟨_,O,O,O⟩,⟨_,O,O,O⟩,trivial⟩ ⟨⟨_,O,O,O,O,O⟩,⟨_,O,O,O,O,O⟩,⟨_,O,O,O,O,O⟩,⟨_,O,O,O,O,O⟩,trivial⟩) ?_
           exact hK22 _ _ _ h O
         · exact absurd (hc) (by simp)
       · refine z2 hb28 h fun h=>en hb28 O ⟨O,O⟩ (W O) ⟨O,O,O⟩ ?_
         refine en hb28 O ⟨O,O⟩ (da O) ⟨O,O,O⟩ ?_
         refine en hb28 O ⟨O,O⟩ (bR O) ⟨O,O,O⟩ ?_
         refine en hb28 O ⟨O,O⟩ (bp O O O) ⟨O,O,O⟩ ?_
         refine en hb28 O ⟨O,O⟩ (W O) ⟨O,O,O⟩ ?_
         refine en hb28 O ⟨O,O⟩ (da O) ⟨O,O,O⟩ ?_
         refine en hb28 O ⟨O,O⟩ (bR O) ⟨O,O,O⟩ ?_
         refine en hb28 O ⟨O,O⟩ (bp O O O) ⟨O,O,O⟩ ?_
         refine zd hr h fun hg31 h=>en hb28 O ⟨O,O⟩ (qv O O hg31) ⟨O,O,O⟩ ?_
         refine ze hr h fun x32 h33 h34 h35 h=>en hb28 O ⟨O,O⟩ (ia au.y au.b7 h33 h34 h35 O O O) ⟨O,O,O⟩ ?_
         refine en hb28 O ⟨O,O⟩ (kZ O O) ⟨O,O,O⟩ ?_
         refine en hb28 O ⟨O,O⟩ (gx O O) ⟨O,O,O⟩ ?_
         refine en hb28 O ⟨O,O⟩ (bw O O O) ⟨O,O,O⟩ ?_
         refine en hb27 O ⟨O,O⟩ (dy hb28 O O) ⟨O,O,O⟩ ?_
         refine zD O (dD hb27 O O) O (cX (hK24 _ _ (zB O h (fun _ h=>?_) fun _ h=>?_)))
         · refine V (hK23 _ _ (z (mi [] ?_)))
           refine bL [0,1,2,3,4,5,6,7] O (by kernel_rfl) (zD O (bR O) O (zD O (fj [.any,.arr 26593 (List.length v20.2.fN),.any,.any] O O ⟨.inr O,.inl O,.inr O,.inr O,trivial⟩ O) O (zD O (W O) O (dL O (bX O) hr h [0] Tryz.call59 (kK n (L.mk y25.2.text y25.2.bo y25.2.at_ v20.1.base y25.2.skip y25.2.pending)) ⟨O,O,O,O,O,O,trivial⟩ O O (fun _=>⟨O,O,O⟩) (fun _=>⟨O,O⟩) hp (fun y37 h=>⟨cP ⟨trivial,⟨⟨⟨_,O,M.ff ⟨.inr O,.inl O,.inr O,.inr O,trivial⟩⟩,trivial⟩,⟨trivial,trivial⟩⟩⟩,?_⟩)))))
           refine ig [y37.1] cN.y O (bX O) ⟨O,O⟩ ⟨O,O⟩ ?_
           refine zd hr h fun hg38 h=>xi 155 O (bX O) ⟨jV.h,eL.h,cN.y,cN.b7,cN.jh,hE _ O,O,O,(.inl O),⟨O,O,O⟩,hg38⟩ O O ⟨aL O,?_⟩
           refine zD O (bR O) O (cf O ⟨O,O,O,O,O,O,O,O⟩ O (fun e7 he=>⟨aL O,?_⟩))
           subst he
           refine gi (kz 155 26593 [(0,.ptr 0 0),(2,.ptr 102 0),(3,.ptr 103 0),(4,.arr 10004 (List.length v5.2.2))] [(10004,.app 9 1 (ch v5.2.2)),(0,.box (Q y37.2)),(102,.box [F [],Sc (.slice none 0 0),Sc (.slice none 0 0),Sc (.slice none 0 0)]),(103,.box [F v20.2.iF,.arr 26593 (List.length (v20.2.fN++[y37.1])),Sc (.slice none 0 0),Sc (.slice none 0 0)])] (hE _ O) O O ⟨O,O⟩ ⟨⟨_,O,O,O⟩,⟨_,O,O,O⟩,⟨_,O,O,O⟩,⟨_,O,O,O⟩,trivial⟩ ⟨⟨_,O,O,O,O,O⟩,⟨_,O,O,O,O,O⟩,⟨_,O,O,O,O,O⟩,⟨_,O,O,O,O,O⟩,trivial⟩) ?_
           exact hK22 _ _ _ h O
         · exact bB (hK10 _ _ _ h O)
     · refine z2 hb27 h fun h=>ef hb27 O ⟨O,O⟩ ⟨O,O⟩ ?_
       refine ef hb27 O ⟨O,O⟩ ⟨O,O⟩ ?_
       refine ef hb27 O ⟨O,O⟩ ⟨O,O⟩ ?_
       refine ef hb27 O ⟨O,O⟩ ⟨O,O⟩ ?_
       refine ef hb27 O ⟨O,O⟩ ⟨O,O⟩ ?_
       refine o8 O ⟨O,O⟩ ⟨O,O⟩ ?_
       refine o8 O ⟨O,O⟩ ⟨O,O⟩ ?_
       refine o8 O ⟨O,O⟩ ⟨O,O⟩ ?_
       refine o8 O ⟨O,O⟩ ⟨O,O⟩ ?_
       refine o8 O ⟨O,O⟩ ⟨O,O⟩ ?_
       refine o8 O ⟨O,O⟩ ⟨O,O⟩ ?_
       refine o8 O ⟨O,O⟩ ⟨O,O⟩ ?_
       refine o8 O ⟨O,O⟩ ⟨O,O⟩ ?_
       refine o8 O ⟨O,O⟩ ⟨O,O⟩ ?_
       refine o8 O ⟨O,O⟩ ⟨O,O⟩ ?_
       refine o8 O ⟨O,O⟩ ⟨O,O⟩ ?_
       refine o8 O ⟨O,O⟩ ⟨O,O⟩ ?_
       refine o8 O ⟨O,O⟩ ⟨O,O⟩ ?_
       refine ef hb27 O ⟨O,O⟩ ⟨O,O⟩ ?_
       refine zD O (dy hb27 O O) O (cX (hK24 _ _ (dm O (fun hc=>?_) (fun hc=>?_))))
       · exact absurd (hc) (by simp)
       · exact bB (hK10 _ _ _ h O)
 · refine B fun _ hK39=>A (zm O (zk hp hr h [0] Tryz.call34 (aI n y4.2) O (fun _=>O) fun y40 h=>zk hp hr h [] Tryz.call56 (gI y40.1 ([112,97,99,107,97,103,101]:List UInt8)) O (fun _=>O) fun y41 h=>zQ hK39 (zB O h (fun _ h=>?_) fun _ h=>?_)))
   · refine B fun _ hK43=>A (zm O (zn O (zf O (zl O (zd hr h fun hg44 h=>zo hg44 O (zn O (zf O (zs O (zQ hK43 (B fun _ hK45=>A (zm O (zk hp hr h [0] Tryz.call57 (fT n (L.mk y40.2.text y40.2.bo (y40.2.at_+1) y4.2.base y40.2.skip y40.2.pending)) O (fun _=>O) fun y46 h=>zf O (zs O (zQ hK45 (B fun _ hK47=>A (zm O (zk hp hr h [0] Tryz.call58 (kB n y46.2) O (fun _=>O) fun y48 h=>zQ hK47 (A ?_))))))))))))))))))
     refine zm O (zm O (zk hp hr h [0] Tryz.call55 (ny n y48) O (fun _=>O) fun y49 h=>zd hr h fun hg50 h=>lQ 125 ⟨jV.h,eL.h,fk,hO,rq,hE _ O,O,O,(.inl O),⟨O,O,O⟩,hg50⟩ O ?_))
     refine za O (aX (kz 125 10004 [(0,.ptr 0 0),(2,.ptr 102 0),(3,.ptr 103 0),(4,.arr 10004 (List.length (y4.1++y49.1)))] [(0,.box (Q y49.2)),(102,.box [F [],Sc (.slice none 0 0),Sc (.slice none 0 0),Sc (.slice none 0 0)]),(103,.box [F y46.1,Sc (.slice none 0 0),Sc (.slice none 0 0),Sc (.slice none 0 0)])] (hE _ O) O O ⟨O,O⟩ ⟨⟨_,O,O,O⟩,⟨_,O,O,O⟩,⟨_,O,O,O⟩,⟨_,O,O,O⟩,trivial⟩ ⟨⟨_,O,O,O,O,O⟩,⟨_,O,O,O,O,O⟩,⟨_,O,O,O,O,O⟩,trivial⟩) ?_)
     exact N (hK7 _ _ _ h O)
   · exact V (hK7 _ _ _ h O)
def td (n:Nat) (p0:ji):D (Int):=
 jn (fun (v3:al)=>iter (fun next9 (v8:al×Int)=>br (decide (v8.2<(List.length p0.fN:Int))) (el p0.fN v8.2 fun GG=>D.bind (fS n GG.Name) fun y20=>D.bind (aC n [y20] v8.1) fun y21=>gd (bK (v8.2+1)) (next9 (y21,v8.2+1))) (D.bind (bY n p0.Decls true 1 v8.1) fun y24=>D.bind (gO y24) fun y26=>.ok (y26.1))) n (v3,0)) fun j4=>br (p0.iF==([]:List UInt8)) (D.bind (gK n p0.cz) fun y28=>D.bind (aC n [true,y28] (al.mk false false)) fun y29=>j4 (y29)) (D.bind (fS n p0.iF) fun y30=>D.bind (gK n p0.cz) fun y31=>D.bind (aC n [y30,y31] (al.mk false false)) fun y32=>j4 (y32))
theorem vI (n:Nat) (p0:ji):CT Tryz.prog 28 [.agg (mO p0)] [] (td n p0) (fun x=>I x) (fun _=>[]):=by
 refine zC Tryz.func28 O fun r hp h hr E hE=>B fun _ hK1=>A (eg 101 (hE _ O) ⟨O,O,O,O,O,O,O⟩ O ?_)
 refine za O (zQ hK1 (B fun _ hK2=>A (J (bQ O O O) O ?_)))
 refine eg 107 (hE _ O) ⟨O,O,O,O,O,O,O⟩ O ?_
 refine za O (zQ hK2 (zM h (fun (v3:al)=>[(0,.agg (mO p0)),(1,.ptr 101 0),(3,.ptr 107 0)]) (fun (v3:al)=>[(101,.box (mO p0)),(107,.box (aH v3))]) (fun v3 h=>?_) fun _ _ hK5 h=>?_))
 · refine B fun _ hK6=>B fun _ hK7=>A (zf O (zl O (J (cJ O) O (zm O (zQ hK7 (z (zL hr h (fun (v8:al×Int)=>[(0,.agg (mO p0)),(1,.ptr 101 0),(3,.ptr 107 0),(23,.pv (.sl (List.length p0.fN) (cN.Cs p0.fN))),(24,I (List.length p0.fN:Int)),(25,I v8.2)]) (fun (v8:al×Int)=>[(101,.box (mO p0)),(107,.box (aH v8.1))]) O fun _ v8 _ hK10 h=>B fun _ hK11=>A (zc O (zQ hK11 (B fun _ hK12=>zB O h (fun _ h=>?_) fun _ h=>?_))))))))))
   · refine V (hK12 _ _ (B fun _ hK14=>z (B fun _ hK15=>A (ze hr h fun GG h17 h18 h19 h=>J (ia cN.y cN.b7 h17 h18 h19 O O O) O (J (iw O O) O ?_)))))
     refine aK 105 (hE _ O) ⟨O,O,O,O⟩ O ?_
     refine zs O (zQ hK15 (A (zm O (zf O (zl O (zk hp hr h [] Tryz.call62 (gb n GG.Name) O (fun _=>O) fun y20 h=>b4 [y20] bH ⟨O,O⟩ O ?_))))))
     exact zk hp hr h [107] Tryz.call61 (aB n [y20] v8.1) O (fun _=>O) fun y21 h=>zQ hK14 (A (zd hr h fun hg22 h=>zo hg22 O (zm O (N (hK10 _ _ _ h O)))))
   · exact bB (hK6 _ _ (B fun _ hK23=>A (zm O (zf O (zl O (zk hp hr h [107] Tryz.call64 (qk n p0.Decls true 1 v8.1) O (fun _=>O) fun y24 h=>zQ hK23 (B fun _ hK25=>A (zm O (zk hp hr h [107] Tryz.call65 (lu y24) O (fun _=>O) fun y26 h=>za O (zQ hK25 (H (zX (.cons (K O) .nil) h O))))))))))))
 · refine bL [0,1,2,3,4,5,6,9,10,7,8,11,12,13] O (by kernel_rfl) (zD O (W O) O (zD O (bR O) O (zD O (bp O O O) O (zD O (jc O O) O (zD O (W O) O (zb (p0.iF==([]:List UInt8)) (fun hb27=>?_) fun hb27=>?_))))))
   · refine z1 hb27 h fun h=>ef hb27 O ⟨O,O⟩ ⟨O,O⟩ ?_
     refine ef hb27 O ⟨O,O⟩ ⟨O,O⟩ ?_
     refine zD O (bR O) O (zD O (fj [.any,.any,.any,.pv (.sl (List.length p0.cz) (ch p0.cz))] O O ⟨.inr O,.inr O,.inr O,.inl O,trivial⟩ O) O (tI hb27 O ⟨O,O⟩ ⟨O,O⟩ ?_))
     refine zD O (dD hb27 O O) O (dL O (bX O) hr h [] Tryz.call63 (ir n p0.cz) ⟨O,O,O,O,O,O,trivial⟩ O O (fun _=>⟨O,O,O⟩) (fun _=>⟨O,O⟩) hp (fun y28 h=>⟨aL O,?_⟩))
     refine ig [true,y28] bH O (bX O) ⟨O,O⟩ ⟨O,O⟩ ?_
     refine dL O (bX O) hr h [107] Tryz.call61 (aB n [true,y28] (al.mk false false)) ⟨O,O,O,O,O,O,trivial⟩ O O (fun _=>⟨O,O,O⟩) (fun _=>⟨O,O⟩) hp (fun y29 h=>⟨aL O,?_⟩)
     exact cX (hK5 _ _ _ h O)
   · refine z2 hb27 h fun h=>en hb27 O ⟨O,O⟩ (bR O) ⟨O,O,O⟩ ?_
     refine en hb27 O ⟨O,O⟩ (bp O O O) ⟨O,O,O⟩ ?_
     refine zD O (bR O) O (zD O (fj [.any,.any,.any,.pv (.sl (List.length p0.cz) (ch p0.cz))] O O ⟨.inr O,.inr O,.inr O,.inl O,trivial⟩ O) O (dL O (ym hb27 O ⟨O,O⟩) hr h [] Tryz.call62 (gb n p0.iF) ⟨O,O,O,O,O,O,trivial⟩ O O (fun _=>⟨O,O,O⟩) (fun _=>⟨O,O⟩) hp (fun y30 h=>⟨cP ⟨⟨⟨_,O,M.ff ⟨.inr O,.inr O,.inr O,.inl O,trivial⟩⟩,trivial⟩,⟨trivial,⟨trivial,⟨trivial,⟨trivial,⟨trivial,⟨trivial,⟨trivial,⟨trivial,trivial⟩⟩⟩⟩⟩⟩⟩⟩⟩,?_⟩)))
     refine zD O (dy hb27 O O) O (dL O (bX O) hr h [] Tryz.call63 (ir n p0.cz) ⟨O,O,O,O,O,O,trivial⟩ O O (fun _=>⟨O,O,O⟩) (fun _=>⟨O,O⟩) hp (fun y31 h=>⟨aL O,?_⟩))
     refine ig [y30,y31] bH O (bX O) ⟨O,O⟩ ⟨O,O⟩ ?_
     refine dL O (bX O) hr h [107] Tryz.call61 (aB n [y30,y31] (al.mk false false)) ⟨O,O,O,O,O,O,trivial⟩ O O (fun _=>⟨O,O,O⟩) (fun _=>⟨O,O⟩) hp (fun y32 h=>⟨aL O,?_⟩)
     exact cX (hK5 _ _ _ h O)
def mE (n:Nat) (p0:(List UInt8)):D (ji×dH):=
 D.bind (fP n p0) fun y3=>br (y3.2.Errno !=0) (.ok ((ji.mk [] [] [] []),y3.2)) (nN (D.bind (nZ n (L.mk p0 y3.1 0 0 false none)) fun y12=>D.bind (td n y12.1) fun y15=>br (y15==9) (.ok ((ji.mk [] [] [] []),(dH.mk 9 0))) (.ok (y12.1,(dH.mk 0 0)))) (fun p=>sB 86 p fun v21=>D.bind (oD v21) fun y22=>.ok (y22.1,y22.2)))
theorem l8 (n:Nat) (p0:(List UInt8)):CT Tryz.prog 12 [F p0] [] (mE n p0) (fun x=>.fX [.agg (mO x.1),.agg [I x.2.Errno,I x.2.At]]) (fun _=>[]):=by
 refine rV Tryz.func12 O O fun r h hr E hE=>?_
 refine B fun _ hK1=>A (aK 102 (hE _ O) ⟨O,O,O,O⟩ O ?_)
 refine aK 103 (hE _ O) ⟨O,O,O,O⟩ O ?_
 refine zQ hK1 (B fun _ hK2=>A (zm O (jf hr h [] Tryz.call24 (pZ n p0) ⟨O,O,O,O,O,O,trivial⟩ O (fun _=>⟨O,O,O⟩) (fun _=>⟨O,O⟩) (fun _ _ _ hd hp=>uR (P:=Tryz.prog) (fn:=Tryz.f12) hd hp) (fun y3 h=>?_))))
 refine zm O (zx O (zx O (za O (zs O (zQ hK2 (B fun _ hK4=>B fun _ hK5=>A (zf O (zl O (zc O (zQ hK5 (zB O h (fun _ h=>?_) fun _ h=>?_)))))))))))
 · refine B fun _ hK7=>bL [0,1,2,3] O (by kernel_rfl) (zD O (dC O O) O ?_)
   refine zD O (iT O O O O) O ?_
   refine cf O ⟨O,O,O,O,O,O,O,O⟩ O (fun e2 he=>⟨cP ⟨⟨⟨_,O,M.le_refl _⟩,trivial⟩,⟨trivial,trivial⟩⟩,?_⟩)
   subst he
   refine cf O ⟨O,O,O,O,O,O,O,O⟩ O (fun e3 he=>⟨aL O,?_⟩)
   subst he
   refine cX (hK7 _ _ (b3 (jt 102 O O) ?_))
   exact H (s5 (n:=Tryz.f12.ntmps) (.inl O) (mh (.inl O) _ (.cons (aZ O O O) (.cons (aZ O O O) .nil)) h.symm (AV.le_refl _) trivial))
 · refine V (hK4 _ _ (B fun _ hK8=>A (J (pc O O) O ?_)))
   refine xj O ?_
   have hrO:=hr
   obtain ⟨r,hr,h,hc⟩:=uQ hr h
   refine zQ hK8 (B fun _ hK9=>A (zm O (zm O (J (dC O O) O ?_))))
   refine eg 121 (hE _ O) ⟨O,O,O,O,O,O,O⟩ O ?_
   refine za O (zQ hK9 (B fun _ hK10=>A (zm O (J (pc O O) O ?_))))
   refine za O (zQ hK10 (B fun _ hK11=>A (zm O (aX (jt 121 O O) ?_))))
   refine oL hr h [121] Tryz.call27 (rN n (L.mk p0 y3.1 0 0 false none)) ⟨O,O,O,O,O,O,trivial⟩ O O (fun _=>⟨O,O,O⟩) (fun _=>⟨O,O⟩) O (fun p hp=>?_) (fun y12 h=>?_)
   · obtain ⟨v20,rfl,hc⟩:=lR hrO (lf hc hp)
     obtain ⟨hns,hok,_⟩:=ki hrO hc
     repeat (first|refine lg ?_|refine kl ?_)
     refine ij (n:=Tryz.f12.ntmps) [102,103] Tryz.call25 (nb v20) hns O ⟨O,O,O,O⟩ (fun _=>⟨O,O⟩) (fun x hx=>?_)
     exact fL (.inl O) _ (.cons (aZ O O O) (.cons (aZ O O O) .nil)) (hok x hx).symm (AV.le_refl _) trivial
   · refine zs O (zQ hK11 (B fun _ hK13=>B fun _ hK14=>A (zA O ?_)))
     refine oL hr h [] Tryz.call28 (vI n y12.1) ⟨O,O,O,O,O,O,trivial⟩ O O (fun _=>⟨O,O,O⟩) (fun _=>⟨O,O⟩) O (fun p hp=>?_) (fun y15 h=>?_)
     · obtain ⟨v19,rfl,hc⟩:=lR hrO (lf hc hp)
       obtain ⟨hns,hok,_⟩:=ki hrO hc
       repeat (first|refine lg ?_|refine kl ?_)
       refine ij (n:=Tryz.f12.ntmps) [102,103] Tryz.call25 (nb v19) hns O ⟨O,O,O,O⟩ (fun _=>⟨O,O⟩) (fun x hx=>?_)
       exact fL (.inl O) _ (.cons (aZ O O O) (.cons (aZ O O O) .nil)) (hok x hx).symm (AV.le_refl _) trivial
     · refine zc O (zQ hK14 (zB O h (fun _ h=>?_) fun _ h=>?_))
       · refine B fun _ hK17=>A (J (dC O O) O ?_)
         refine J (bQ O O O) O ?_
         refine zs O (zs O (zQ hK17 (b3 (jt 102 O O) ?_)))
         refine H (kU (n:=Tryz.f12.ntmps) (.inl O) [102,103] Tryz.call25 (lL [.box [F [],.pv (.sl (List.length ([]:List cN)) (cN.Cs [])),.pv (.sl (List.length ([]:List o)) (o.Cs [])),.pv (.sl (List.length ([]:List (List UInt8))) (ch []))],.box [I 9,I 0]]) ⟨O,O,O,O⟩ O O ?_)
         exact fL (.inl O) _ (.cons (aZ O O O) (.cons (aZ O O O) .nil)) (pQ hc h.symm) (AV.le_refl _) trivial
       · refine V (hK13 _ _ (B fun _ hK18=>A (zA O ?_)))
         refine J (bQ O O O) O ?_
         refine zs O (zs O (zQ hK18 (H (kU (n:=Tryz.f12.ntmps) (.inl O) [102,103] Tryz.call25 (lL [.box (mO y12.1),.box [I 0,I 0]]) ⟨O,O,O,O⟩ O O ?_))))
         exact fL (.inl O) _ (.cons (aZ O O O) (.cons (aZ O O O) .nil)) (pQ hc h.symm) (AV.le_refl _) trivial
def k2 (n:Nat):D (Bool):=
 D.bind (mE n ([97,58,32,49,44,32,98,58,32,97,32,38,32,105,110,116]:List UInt8)) fun y3=>D.bind (gP n ([42,49]:List UInt8)) fun y5=>D.bind (mE n ([97,58,32,42,49]:List UInt8)) fun y7=>D.bind (mE n ([120,58,32,123,121,58,32,122,125]:List UInt8)) fun y9=>D.bind (mE n ([120,58,32,49,32,124,32,123,121,58,32,122,125]:List UInt8)) fun y11=>jn (fun (v13:Bool)=>br v13 (.ok (false)) (br ((y5.2.Errno==8)&&(y5.2.At==2)) (br ((y7.2.Errno==8)&&(y7.2.At==5)) (el y3.1.Decls 1 fun x21=>el x21.bf 0 fun x25=>br (x25.Kind==16) (el y9.1.Decls 0 fun x30=>el x30.bf 0 fun x34=>br (x34.Kind==13) (el y11.1.Decls 0 fun x39=>el x39.bf 0 fun x43=>el x43.bf 1 fun x47=>.ok ((x47.Kind==22))) (.ok (false))) (.ok (false))) (.ok (false))) (.ok (false)))) fun j14=>br (y3.2.Errno !=0) (j14 (true)) (br (y9.2.Errno !=0) (j14 (true)) (br (y11.2.Errno !=0) (j14 (true)) (br ((List.length y3.1.Decls:Int) !=2) (j14 (true)) (br ((List.length y9.1.Decls:Int) !=1) (j14 (true)) (br ((List.length y11.1.Decls:Int) !=1) (j14 (true)) (el y3.1.Decls 1 fun x57=>br ((List.length x57.bf:Int) !=1) (j14 (true)) (el y9.1.Decls 0 fun x62=>br ((List.length x62.bf:Int) !=1) (j14 (true)) (el y11.1.Decls 0 fun x67=>br ((List.length x67.bf:Int) !=1) (j14 (true)) (el y11.1.Decls 0 fun x72=>el x72.bf 0 fun x76=>j14 (((List.length x76.bf:Int) !=2)))))))))))
theorem oW (n:Nat):CT Tryz.prog 11 [] [] (k2 n) (fun x=>Bo x) (fun _=>[]):=by
 refine zC Tryz.func11 O fun r hp h hr E hE=>B fun _ hK1=>A (za O (zQ hK1 (B fun _ hK2=>A (zk hp hr h [] Tryz.call12 (l8 n ([97,58,32,49,44,32,98,58,32,97,32,38,32,105,110,116]:List UInt8)) O (fun _=>O) fun y3 h=>zm O (zx O (zx O (aK 101 (hE _ O) ⟨O,O,O,O⟩ O ?_)))))))
 refine aK 102 (hE _ O) ⟨O,O,O,O⟩ O ?_
 refine zs O (zs O (zQ hK2 (B fun _ hK4=>A (zk hp hr h [] Tryz.call15 (l0 n ([42,49]:List UInt8)) O (fun _=>O) fun y5 h=>zm O (zx O (zx O (aK 103 (hE _ O) ⟨O,O,O,O⟩ O ?_)))))))
 refine aK 104 (hE _ O) ⟨O,O,O,O⟩ O ?_
 refine zs O (zs O (zQ hK4 (B fun _ hK6=>A (zk hp hr h [] Tryz.call12 (l8 n ([97,58,32,42,49]:List UInt8)) O (fun _=>O) fun y7 h=>zm O (zx O (zx O (aK 105 (hE _ O) ⟨O,O,O,O⟩ O ?_)))))))
 refine aK 106 (hE _ O) ⟨O,O,O,O⟩ O ?_
 refine zs O (zs O (zQ hK6 (B fun _ hK8=>A (zk hp hr h [] Tryz.call12 (l8 n ([120,58,32,123,121,58,32,122,125]:List UInt8)) O (fun _=>O) fun y9 h=>zm O (zx O (zx O (aK 107 (hE _ O) ⟨O,O,O,O⟩ O ?_)))))))
 refine aK 108 (hE _ O) ⟨O,O,O,O⟩ O ?_
 refine zs O (zs O (zQ hK8 (B fun _ hK10=>A (zk hp hr h [] Tryz.call12 (l8 n ([120,58,32,49,32,124,32,123,121,58,32,122,125]:List UInt8)) O (fun _=>O) fun y11 h=>zm O (zx O (zx O (aK 109 (hE _ O) ⟨O,O,O,O⟩ O ?_)))))))
 refine aK 110 (hE _ O) ⟨O,O,O,O⟩ O ?_
 refine zs O (zs O (zQ hK10 (B fun _ hK12=>zM h (fun (v13:Bool)=>[(1,.ptr 101 0),(4,.ptr 104 0),(6,.ptr 106 0),(7,.ptr 107 0),(9,.ptr 109 0),(100,Bo v13)]) (fun (v13:Bool)=>[(101,.box (mO y3.1)),(104,.box [I y5.2.Errno,I y5.2.At]),(106,.box [I y7.2.Errno,I y7.2.At]),(107,.box (mO y9.1)),(109,.box (mO y11.1))]) (fun v13 h=>?_) fun _ _ hK15 h=>?_)))
 · refine zB O h (fun _ h=>?_) fun _ h=>?_
   · exact B fun _ hK17=>A (za O (zQ hK17 (H (zX (.cons (K O) .nil) h O))))
   · refine V (hK12 _ _ (B fun _ hK18=>A (zA O ?_)))
     refine J (bQ O O O) O ?_
     refine J (E9 O O) O (zm O (zb ((y5.2.Errno==8)&&(y5.2.At==2)) (fun hb19=>?_) fun hb19=>?_))
     · refine z1 hb19 h fun h=>zG hb19 O (iT O O O O) ?_
       refine zG hb19 O (bQ O O O) ?_
       refine zG hb19 O (E9 O O) (zy hb19 O (zm O (zb ((y7.2.Errno==8)&&(y7.2.At==5)) (fun hb20=>?_) fun hb20=>?_)))
       · refine z1 hb20 h fun h=>zG hb20 O (bR O) (zG hb20 O (bp O O O) (ze hr h fun x21 h22 h23 h24 h=>zG hb20 O (ia o.y o.b7 h22 h23 h24 O O O) (zG hb20 O (kZ O O) (zG hb20 O (gx O O) (ze hr h fun x25 h26 h27 h28 h=>zG hb20 O (ia aj.y aj.b7 h26 h27 h28 O O O) (zG hb20 O (kZ O O) (zG hb20 O (gx O O) (zG hb20 O (bw O O O) (zy hb20 O (zm O (zb (x25.Kind==16) (fun hb29=>?_) fun hb29=>?_)))))))))))
         · refine z1 hb29 h fun h=>zG hb29 O (bR O) (zG hb29 O (bp O O O) (ze hr h fun x30 h31 h32 h33 h=>zG hb29 O (ia o.y o.b7 h31 h32 h33 O O O) (zG hb29 O (kZ O O) (zG hb29 O (gx O O) (ze hr h fun x34 h35 h36 h37 h=>zG hb29 O (ia aj.y aj.b7 h35 h36 h37 O O O) (zG hb29 O (kZ O O) (zG hb29 O (gx O O) (zG hb29 O (bw O O O) (zy hb29 O (zm O (zb (x34.Kind==13) (fun hb38=>?_) fun hb38=>?_)))))))))))
           · exact z1 hb38 h fun h=>zG hb38 O (bR O) (zG hb38 O (bp O O O) (ze hr h fun x39 h40 h41 h42 h=>zG hb38 O (ia o.y o.b7 h40 h41 h42 O O O) (zG hb38 O (kZ O O) (zG hb38 O (gx O O) (ze hr h fun x43 h44 h45 h46 h=>zG hb38 O (ia aj.y aj.b7 h44 h45 h46 O O O) (zG hb38 O (kZ O O) (zG hb38 O (gx O O) (ze hr h fun x47 h48 h49 h50 h=>zG hb38 O (ia aj.y aj.b7 h48 h49 h50 O O O) (zG hb38 O (kZ O O) (zG hb38 O (gx O O) (zG hb38 O (bw O O O) (zy hb38 O (za O (zQ hK18 (H (zX (.cons (K O) .nil) h O))))))))))))))))
           · exact z2 hb38 h fun h=>zg hb38 O (zg hb38 O (zg hb38 O (zg hb38 O (zg hb38 O (zg hb38 O (zg hb38 O (zg hb38 O (zg hb38 O (zg hb38 O (zg hb38 O (zg hb38 O (zw hb38 O (za O (zQ hK18 (H (zX (.cons (K O) .nil) h O))))))))))))))))
         · refine z2 hb29 h fun h=>zg hb29 O (zg hb29 O (zg hb29 O (zg hb29 O (zg hb29 O (zg hb29 O (zg hb29 O (zg hb29 O (zg hb29 O (zw hb29 O (zm O (zg O O (zg O O (zg O O (zg O O (zg O O (zg O O (zg O O (zg O O (zg O O (zg O O (zg O O (zg O O (J (dI O O) O ?_)))))))))))))))))))))))
           exact za O (zQ hK18 (H (zX (.cons (K O) .nil) h O)))
       · refine z2 hb20 h fun h=>zg hb20 O (zg hb20 O (zg hb20 O (zg hb20 O (zg hb20 O (zg hb20 O (zg hb20 O (zg hb20 O (zg hb20 O (zw hb20 O (zm O (zg O O (zg O O (zg O O (zg O O (zg O O (zg O O (zg O O (zg O O (zg O O (J (dI O O) O (zm O (zg O O (zg O O ?_)))))))))))))))))))))))
         exact zg O O (zg O O (zg O O (zg O O (zg O O (zg O O (zg O O (zg O O (zg O O (zg O O (J (dI O O) O (za O (zQ hK18 (H (zX (.cons (K O) .nil) h O))))))))))))))
     · refine z2 hb19 h fun h=>zg hb19 O (zg hb19 O (zg hb19 O (zw hb19 O (zm O (zg O O (zg O O (zg O O (zg O O (zg O O (zg O O (zg O O (zg O O (zg O O (J (dI O O) O (zm O (zg O O (zg O O (zg O O (zg O O (zg O O (zg O O (zg O O (zg O O ?_)))))))))))))))))))))))
       exact zg O O (J (dI O O) O (zm O (zg O O (zg O O (zg O O (zg O O (zg O O (zg O O (zg O O (zg O O (zg O O (zg O O (zg O O (zg O O (J (dI O O) O (za O (zQ hK18 (H (zX (.cons (K O) .nil) h O)))))))))))))))))))
 · refine A (zf O (zl O (zc O (zm O (zb (y3.2.Errno !=0) (fun hb51=>?_) fun hb51=>?_)))))
   · refine z1 hb51 h fun h=>zg hb51 O (zg hb51 O (zg hb51 O (zy hb51 O (zm O (zg O O (zg O O (zg O O (zt O (zm O (zg O O (zg O O (zg O O (zg O O (zt O (zm O (zg O O (zg O O (zg O O (zg O O (zt O (zm O (zg O O (zg O O ?_)))))))))))))))))))))))
     refine zg O O (zg O O (zt O (zm O (zg O O (zg O O (zg O O (zg O O (zg O O (zg O O (zg O O (zt O (zm O (zg O O (zg O O (zg O O (zg O O (zg O O (zg O O (zg O O (zt O (zm O (zg O O (zg O O (zg O O ?_))))))))))))))))))))))))
     exact zg O O (zg O O (zg O O (zg O O (zt O (zm O (zg O O (zg O O (zg O O (zg O O (zg O O (zg O O (zg O O (zg O O (zg O O (zg O O (zt O (N (hK15 _ _ _ h O))))))))))))))))))
   · refine z2 hb51 h fun h=>zG hb51 O (bR O) (zG hb51 O (bp O O O) (zG hb51 O (bw O O O) (zw hb51 O (zm O (zb (y9.2.Errno !=0) (fun hb52=>?_) fun hb52=>?_)))))
     · refine z1 hb52 h fun h=>zg hb52 O (zg hb52 O (zg hb52 O (zy hb52 O (zm O (zg O O (zg O O (zg O O (zg O O (zt O (zm O (zg O O (zg O O (zg O O (zg O O (zt O (zm O (zg O O (zg O O (zg O O (zg O O (zt O (zm O (zg O O ?_)))))))))))))))))))))))
       refine zg O O (zg O O (zg O O (zg O O (zg O O (zg O O (zt O (zm O (zg O O (zg O O (zg O O (zg O O (zg O O (zg O O (zg O O (zt O (zm O (zg O O (zg O O (zg O O (zg O O (zg O O (zg O O (zg O O (zt O ?_))))))))))))))))))))))))
       exact zm O (zg O O (zg O O (zg O O (zg O O (zg O O (zg O O (zg O O (zg O O (zg O O (zg O O (zt O (N (hK15 _ _ _ h O)))))))))))))
     · refine z2 hb52 h fun h=>zG hb52 O (bR O) (zG hb52 O (bp O O O) (zG hb52 O (bw O O O) (zw hb52 O (zm O (zb (y11.2.Errno !=0) (fun hb53=>?_) fun hb53=>?_)))))
       · refine z1 hb53 h fun h=>zg hb53 O (zg hb53 O (zg hb53 O (zg hb53 O (zy hb53 O (zm O (zg O O (zg O O (zg O O (zg O O (zt O (zm O (zg O O (zg O O (zg O O (zg O O (zt O (zm O (zg O O (zg O O (zg O O (zg O O (zg O O (zg O O ?_)))))))))))))))))))))))
         refine zg O O (zt O (zm O (zg O O (zg O O (zg O O (zg O O (zg O O (zg O O (zg O O (zt O (zm O (zg O O (zg O O (zg O O (zg O O (zg O O (zg O O (zg O O (zt O (zm O (zg O O (zg O O (zg O O (zg O O ?_))))))))))))))))))))))))
         exact zg O O (zg O O (zg O O (zg O O (zg O O (zg O O (zt O (N (hK15 _ _ _ h O))))))))
       · refine z2 hb53 h fun h=>zG hb53 O (bR O) (zG hb53 O (bp O O O) (zG hb53 O (cJ O) (zG hb53 O (bw O O O) (zw hb53 O (zm O (zb ((List.length y3.1.Decls:Int) !=2) (fun hb54=>?_) fun hb54=>?_))))))
         · refine z1 hb54 h fun h=>zg hb54 O (zg hb54 O (zg hb54 O (zg hb54 O (zy hb54 O (zm O (zg O O (zg O O (zg O O (zg O O (zt O (zm O (zg O O (zg O O (zg O O (zg O O (zg O O (zg O O (zg O O (zt O (zm O (zg O O (zg O O (zg O O ?_)))))))))))))))))))))))
           refine zg O O (zg O O (zg O O (zg O O (zt O (zm O (zg O O (zg O O (zg O O (zg O O (zg O O (zg O O (zg O O (zt O (zm O (zg O O (zg O O (zg O O (zg O O (zg O O (zg O O (zg O O (zg O O (zg O O (zg O O ?_))))))))))))))))))))))))
           exact zt O (N (hK15 _ _ _ h O))
         · refine z2 hb54 h fun h=>zG hb54 O (bR O) (zG hb54 O (bp O O O) (zG hb54 O (cJ O) (zG hb54 O (bw O O O) (zw hb54 O (zm O (zb ((List.length y9.1.Decls:Int) !=1) (fun hb55=>?_) fun hb55=>?_))))))
           · refine z1 hb55 h fun h=>zg hb55 O (zg hb55 O (zg hb55 O (zg hb55 O (zy hb55 O (zm O (zg O O (zg O O (zg O O (zg O O (zg O O (zg O O (zg O O (zt O (zm O (zg O O (zg O O (zg O O (zg O O (zg O O (zg O O (zg O O (zt O (zm O ?_)))))))))))))))))))))))
             exact zg O O (zg O O (zg O O (zg O O (zg O O (zg O O (zg O O (zt O (zm O (zg O O (zg O O (zg O O (zg O O (zg O O (zg O O (zg O O (zg O O (zg O O (zg O O (zt O (N (hK15 _ _ _ h O)))))))))))))))))))))
           · refine z2 hb55 h fun h=>zG hb55 O (bR O) (zG hb55 O (bp O O O) (zG hb55 O (cJ O) (zG hb55 O (bw O O O) (zw hb55 O (zm O (zb ((List.length y11.1.Decls:Int) !=1) (fun hb56=>?_) fun hb56=>?_))))))
             · refine z1 hb56 h fun h=>zg hb56 O (zg hb56 O (zg hb56 O (zg hb56 O (zg hb56 O (zg hb56 O (zg hb56 O (zy hb56 O (zm O (zg O O (zg O O (zg O O (zg O O (zg O O (zg O O (zg O O (zt O (zm O (zg O O (zg O O (zg O O (zg O O (zg O O (zg O O ?_)))))))))))))))))))))))
               exact zg O O (zt O (zm O (zg O O (zg O O (zg O O (zg O O (zg O O (zg O O (zg O O (zg O O (zg O O (zg O O (zt O (N (hK15 _ _ _ h O)))))))))))))))
             · refine z2 hb56 h fun h=>zG hb56 O (bR O) (zG hb56 O (bp O O O) (ze hr h fun x57 h58 h59 h60 h=>zG hb56 O (ia o.y o.b7 h58 h59 h60 O O O) (zG hb56 O (kZ O O) (zG hb56 O (gx O O) (zG hb56 O (cJ O) (zG hb56 O (bw O O O) (zw hb56 O (zm O (zb ((List.length x57.bf:Int) !=1) (fun hb61=>?_) fun hb61=>?_)))))))))
               · refine z1 hb61 h fun h=>zg hb61 O (zg hb61 O (zg hb61 O (zg hb61 O (zg hb61 O (zg hb61 O (zg hb61 O (zy hb61 O (zm O (zg O O (zg O O (zg O O (zg O O (zg O O (zg O O (zg O O (zt O (zm O (zg O O (zg O O (zg O O (zg O O (zg O O (zg O O ?_)))))))))))))))))))))))
                 exact zg O O (zg O O (zg O O (zg O O (zt O (N (hK15 _ _ _ h O))))))
               · refine z2 hb61 h fun h=>zG hb61 O (bR O) (zG hb61 O (bp O O O) (ze hr h fun x62 h63 h64 h65 h=>zG hb61 O (ia o.y o.b7 h63 h64 h65 O O O) (zG hb61 O (kZ O O) (zG hb61 O (gx O O) (zG hb61 O (cJ O) (zG hb61 O (bw O O O) (zw hb61 O (zm O (zb ((List.length x62.bf:Int) !=1) (fun hb66=>?_) fun hb66=>?_)))))))))
                 · exact z1 hb66 h fun h=>zg hb66 O (zg hb66 O (zg hb66 O (zg hb66 O (zg hb66 O (zg hb66 O (zg hb66 O (zy hb66 O (zm O (zg O O (zg O O (zg O O (zg O O (zg O O (zg O O (zg O O (zg O O (zg O O (zg O O (zt O (N (hK15 _ _ _ h O)))))))))))))))))))))
                 · refine z2 hb66 h fun h=>zG hb66 O (bR O) (zG hb66 O (bp O O O) (ze hr h fun x67 h68 h69 h70 h=>zG hb66 O (ia o.y o.b7 h68 h69 h70 O O O) (zG hb66 O (kZ O O) (zG hb66 O (gx O O) (zG hb66 O (cJ O) (zG hb66 O (bw O O O) (zw hb66 O (zm O (zb ((List.length x67.bf:Int) !=1) (fun hb71=>?_) fun hb71=>?_)))))))))
                   · exact z1 hb71 h fun h=>zg hb71 O (zg hb71 O (zg hb71 O (zg hb71 O (zg hb71 O (zg hb71 O (zg hb71 O (zg hb71 O (zg hb71 O (zg hb71 O (zy hb71 O (N (hK15 _ _ _ h O))))))))))))
                   · exact z2 hb71 h fun h=>zG hb71 O (bR O) (zG hb71 O (bp O O O) (ze hr h fun x72 h73 h74 h75 h=>zG hb71 O (ia o.y o.b7 h73 h74 h75 O O O) (zG hb71 O (kZ O O) (zG hb71 O (gx O O) (ze hr h fun x76 h77 h78 h79 h=>zG hb71 O (ia aj.y aj.b7 h77 h78 h79 O O O) (zG hb71 O (kZ O O) (zG hb71 O (gx O O) (zG hb71 O (cJ O) (zG hb71 O (bw O O O) (zw hb71 O (N (hK15 _ _ _ h O))))))))))))
def iz (n:Nat) (p0:(List (List UInt8))) (p1:(List (List UInt8))):D (Bool):=
 br ((List.length p0:Int) !=(List.length p1:Int)) (.ok (false)) (iter (fun next9 (v8:Int)=>br (decide (v8<(List.length p0:Int))) (el p0 v8 fun tY=>el p1 v8 fun x21=>br (tY !=x21) (.ok (false)) (gd (bK (v8+1)) (next9 (v8+1)))) (.ok (true))) n (0))
theorem lA (n:Nat) (p0:(List (List UInt8))) (p1:(List (List UInt8))):CT Tryz.prog 51 [.pv (.sl (List.length p0) (ch p0)),.pv (.sl (List.length p1) (ch p1))] [] (iz n p0 p1) (fun x=>Bo x) (fun _=>[]):=by
 refine zC Tryz.func51 O fun r hp h hr E hE=>B fun _ hK1=>A (za O (zQ hK1 (B fun _ hK2=>B fun _ hK3=>A (zm O (J (cJ O) O (zm O (J (cJ O) O (zc O (zQ hK3 (zB O h (fun _ h=>?_) fun _ h=>?_))))))))))
 · exact B fun _ hK5=>A (za O (zQ hK5 (H (zX (.cons (K O) .nil) h O))))
 · refine V (hK2 _ _ (B fun _ hK6=>B fun _ hK7=>A (zm O (J (cJ O) O (zm O (zQ hK7 (z (zL hr h (fun (v8:Int)=>[(0,.pv (.sl (List.length p0) (ch p0))),(1,.pv (.sl (List.length p1) (ch p1))),(12,I (List.length p0:Int)),(13,I v8)]) (fun (v8:Int)=>[]) O fun _ v8 _ hK10 h=>B fun _ hK11=>A (zc O (zQ hK11 (B fun _ hK12=>zB O h (fun _ h=>?_) fun _ h=>?_)))))))))))
   · refine V (hK12 _ _ (B fun _ hK14=>z (B fun _ hK15=>A (zm O (za O (zQ hK15 (B fun _ hK16=>bL [0,1,2,3,4,5,6,7,8] O (by kernel_rfl) (zD O (W O) O (zD O (W O) O (ze hr h fun tY h18 h19 h20 h=>zD O (ia fk hO h18 h19 h20 O O O) O (zD O (gx O O) O (zD O (W O) O (zD O (W O) O (ze hr h fun x21 h22 h23 h24 h=>zD O (ia fk hO h22 h23 h24 O O O) O (zD O (gx O O) O (zD O (um O O) O (cX (hK16 _ _ (zB O h (fun _ h=>?_) fun _ h=>?_)))))))))))))))))))
     · exact B fun _ hK26=>A (za O (zQ hK26 (H (zX (.cons (K O) .nil) h O))))
     · exact V (hK14 _ _ (A (zd hr h fun hg27 h=>zo hg27 O (zm O (N (hK10 _ _ _ h O))))))
   · exact bB (hK6 _ _ (B fun _ hK28=>A (za O (zQ hK28 (H (zX (.cons (K O) .nil) h O))))))
end Go.Abs
end
section
namespace Go.Abs
open D
structure Hj (d:o):Prop where
 l2:d.Body.length≤70000
 l3:d.cz.length≤70000
 l4:∀ x,x∈d.cz→x.length≤65536
 l5:d.jy.length≤70000
 l6:∀ x,x∈d.jy→x.length≤65536
 l7:d.Trail.length≤65536
 d:∀ x,x∈d.Body→k3 x
theorem k3.w {d:o} (h:k3 d):Hj d:=⟨h.l2,h.l3,h.l4,h.l5,h.l6,h.l7,h.d⟩
theorem Hj.one {k p:Int} {lb a b:List UInt8} {x:aj} {d:o} {pos:Int} (h:Hj d) (hx:iV x):k3 (o.mk k p lb a b [x] d.Body d.cz d.jy d.Trail pos):=
 .mk (by simp) h.l2 h.l3 h.l4 h.l5 h.l6 h.l7 (fun _=>by simp) (by simpa using hx) h.d
theorem k3.new {k p:Int} {lb a b:List UInt8} {l:List aj} {body:List o} {tail:List (List UInt8)} {pos:Int} (h1:l.length≤70000) (h2:body.length≤70000) (h3:tail.length≤70000) (h4:∀ x,x∈tail→x.length≤65536)
  (h8:k=1∨k=2∨k=3→1≤l.length) (hs:∀ x,x∈l→iV x) (hd:∀ x,x∈body→k3 x):k3 (o.mk k p lb a b l body tail [] [] pos):=
 .mk h1 h2 h3 h4 (by simp) (by simp) (by simp) h8 hs hd
section
variable {s:List UInt8} {T:List au} {b:Int} {K:Nat} {m:Nat→Nat} {a:Int} {k:Bool} {q:Option aj} {j:Bool}
theorem C6 (hC:PC s T b) (ih:PG s T b K) (hm:cm m) (h0:0≤a) (h1:a<T.length) (hq:QS q) {d:o} (hd:k3 d) {t:au} (ht:T[a.toNat]?=some t) (hk:t.Kind≠0) (hk7:t.Kind≠7) (hK:64*(T.length - a).toNat+14<K+1) :
  Ev (fun i=>cZ (m i) j (aY s T a b k q) d) (fun r=>St s T b k a 0 r.1∧k3 r.2) (PP (b+s.length)):=by
 refine Ev.grow (F:=fun n=>cZ n j (aY s T a b k q) d) hm fun m hm=>?_
 show Ev (fun i=>fa (m i) (ai (m i)) j (aY s T a b k q) d) _ _
 unfold fa
 have hl:=hC.ls
 have hnx:=hC.next h0 ht hk
 have hw:=hd.w
 refine fB hm hC h0 h1 fun a2 t2 h2 h3 ht2 h4 e2=>?_
 have e2:=e2 t ht (fun _=>hk7)
 subst e2
 dsimp only
 refine Ev.gd (by (first|omega|(simp[bK]<;>omega))) ?_
 refine Ev.jn (fun v=>St s T b k (a2+1) 0 v.1∧Hj v.2) (fun w hw=>?_) (fun jj hj=>?_)
 ·obtain ⟨p,e⟩:=w
  obtain ⟨⟨a3,q3,hp,h5,h6,hq3⟩,he⟩:=hw
  dsimp only at hp he;subst hp;dsimp only
  refine jo hm hC (by omega) (by omega) (by omega) fun a4 t h7 h8 _ _ _ _=>fI (ih.expr hm (by omega) h8 hq3 (by omega)) fun x a5 q5 h9 h10 hq5 hx=>?_
  exact Ev.ok ⟨⟨a5,q5,rfl,by omega,h10,hq5⟩,he.one hx⟩
 ·refine ku hm hC (by omega) hnx (fun a4 t h7 h8 _ _ _ _=>?_) (fun a4 t h7 h8 _ _ _ _=>?_)
  ·exact Ev.cD (hj _ ⟨⟨a4,q,rfl,by omega,by omega,hq⟩,hw.l2,hw.l3,hw.l4,hw.l5,hw.l6,hw.l7,hw.d⟩)
  ·dsimp only
   refine Ev.cg ?_
   refine ku hm hC (by omega) h8 (fun a5 t h9 h10 _ _ _ _=>?_) (fun a5 t h9 h10 _ _ _ _=>?_)
   ·exact Ev.cD (hj _ ⟨⟨a5,q,rfl,by omega,by omega,hq⟩,hw.l2,hw.l3,hw.l4,hw.l5,hw.l6,hw.l7,hw.d⟩)
   ·exact Ev.cg (hj _ ⟨⟨a5,q,rfl,by omega,by omega,hq⟩,hw.l2,hw.l3,hw.l4,hw.l5,hw.l6,hw.l7,hw.d⟩)
theorem Ab (hC:PC s T b) (ih:PG s T b K) (hm:cm m) (h0:0≤a) (h1:a<T.length) (hq:QS q) {d:o} (hd:k3 d) (hp:yU T a) (hK:64*(T.length - a).toNat+14<K+1) :
  Ev (fun i=>cF (m i) j (aY s T a b k q) d) (fun r=>St s T b k a 0 r.1∧k3 r.2) (PP (b+s.length)):=by
 refine Ev.grow (F:=fun n=>cF n j (aY s T a b k q) d) hm fun m hm=>?_
 show Ev (fun i=>eE (m i) (ai (m i)) j (aY s T a b k q) d) _ _
 unfold eE
 have hl:=hC.ls
 have hw:=hd.w
 obtain ⟨t,u,p1,p2,p3,p4,p5,p6⟩:=hp
 refine jo hm hC h0 h1 (by omega) fun a2 t2 h2 h3 _ _ _ e2=>?_
 have e2:=e2 t p1 (fun _=>by omega)
 subst e2
 refine sr (d:=1) (P:=Hj) ((tV hm hC (by omega) (Int.le_refl _) hq p3 p4 p5 (fun h=>by obtain ⟨w,w1,w2⟩:=p6 h;exact ⟨w,by rw[show a+1+1=a+2 by omega];exact w1,w2⟩)).yA fun r hr=>⟨hr.1,?_⟩) fun x a3 q3 h4 h5 hq3 hxw=>?_
 ·rcases hr.2 with h|⟨l,h⟩
  ·rw[h];exact ⟨hw.l2,hw.l3,hw.l4,hw.l5,hw.l6,hw.l7,hw.d⟩
  ·rw[h];exact ⟨hw.l2,hw.l3,hw.l4,hw.l5,hw.l6,hw.l7,hw.d⟩
 dsimp only
 refine Ev.gd (by (first|omega|(simp[bK]<;>omega))) (jo hm hC (by omega) (by omega) (by omega) fun a4 t h7 h8 _ _ _ _=>fI (ih.expr hm (by omega) h8 hq3 (by omega)) fun y a5 q5 h9 h10 hq5 hy=>?_)
 exact Ev.ok ⟨⟨a5,q5,rfl,by omega,h10,hq5⟩,hxw.one hy⟩
theorem Ac (hC:PC s T b) (ih:PG s T b K) (hm:cm m) (h0:0≤a) (h1:a<T.length) (hq:QS q) {d:o} (hd:k3 d) (hK:64*(T.length - a).toNat+14<K+1) :
  Ev (fun i=>cE (m i) j (aY s T a b k q) d) (fun r=>St s T b k a 0 r.1∧k3 r.2) (PP (b+s.length)):=by
 refine Ev.grow (F:=fun n=>cE n j (aY s T a b k q) d) hm fun m hm=>?_
 show Ev (fun i=>eD (m i) (ai (m i)) j (aY s T a b k q) d) _ _
 unfold eD
 have hl:=hC.ls
 have hw:=hd.w
 refine fI (ih.parens hm h0 h1 hq (by omega)) fun e a2 q2 h2 h3 hq2 he=>?_
 dsimp only
 refine fB hm hC (by omega) (by omega) fun a3 t h4 h5 ht h6 _=>?_
 dsimp only
 refine jw fun r hr _=>Ev.br (fun hr1=>?_) (fun _=>?_)
 ·have hk5:=(hr hr1).1
  have hnx:=hC.next (by omega) ht (by omega)
  refine kE hm hC (by omega) h5 fun a5 t5 v h9 h10 _ h11 _ h12 h13=>?_
  have e5:=h11 t ht h6
  subst e5
  dsimp only
  refine pD hm h12 h13 he fun x hx=>?_
  dsimp only
  refine Ev.gd (by (first|omega|(simp[bK]<;>omega))) (fI (ih.expr hm (by omega) hnx hq2 (by omega)) fun y a5 q5 h9 h10 hq5 hy=>?_)
  exact Ev.ok ⟨⟨a5,q5,rfl,by omega,h10,hq5⟩,.mk (by simp) hw.l2 hw.l3 hw.l4 hw.l5 hw.l6 hw.l7 (fun _=>by simp) (by simp;exact ⟨hx,hy⟩) hw.d⟩
 ·refine fI (ih.expr (q:=some e) hm (by omega) h5 (fun x hx=>by cases hx;exact he) (by omega)) fun y a5 q5 h9 h10 hq5 hy=>?_
  exact Ev.ok ⟨⟨a5,q5,rfl,by omega,h10,hq5⟩,hw.one hy⟩
theorem Et (hC:PC s T b) (ih:PG s T b K) (hm:cm m) (h0:0≤a) (h1:a<T.length) (hq:QS q) {t:au} (ht:T[a.toNat]?=some t) (hk:t.Kind≠0) (hk7:t.Kind≠7) (hK:64*(T.length - a).toNat+17<K+1) :
  Ev (fun i=>cl (m i) j (aY s T a b k q)) (fun r=>St s T b k a 0 r.2∧k3 r.1) (PP (b+s.length)):=by
 refine Ev.grow (F:=fun n=>cl n j (aY s T a b k q)) hm fun m hm=>?_
 show Ev (fun i=>fw (m i) (ai (m i)) j (aY s T a b k q)) _ _
 unfold fw
 have hl:=hC.ls
 have hnx:=hC.next h0 ht hk
 refine fB hm hC h0 h1 fun a2 t2 h2 h3 ht2 h4 e2=>?_
 have e2:=e2 t ht (fun _=>hk7)
 subst e2
 rw[ht] at ht2;cases ht2
 dsimp only
 refine kE hm hC (by omega) h3 fun a5 t5 v h9 h10 _ h11 _ h12 h13=>?_
 have e5:=h11 t ht h4
 subst e5
 dsimp only
 refine lT hC (by omega) h3 (by omega) (by omega) fun u _=>?_
 dsimp only
 have hd0:k3 (o.mk 0 0 [] [] [] [] [] [] [] [] v):=.new (by simp) (by simp) (by simp) (by simp) (by simp) (by simp) (by simp)
 refine Ev.jn (fun w=>St s T b k a5 0 w.1∧k3 w.2) (fun w hw=>Ev.ok ⟨hw.1,hw.2⟩) (fun jj hj=>?_)
 refine Ev.jn (fun _=>True) (fun w _=>?_) (fun j2 hj2=>?_)
 ·refine Ev.br (fun _=>?_) (fun _=>?_)
  ·exact sr (ih.field hm (by omega) h3 hq hd0 ht hk hk7 (by omega)) fun x a6 q6 h14 h15 hq6 hx=>hj _ ⟨⟨a6,q6,rfl,h14,h15,hq6⟩,hx⟩
  refine xz hm hC (by omega) h3 fun a6 r h14 h15 e6 hp=>?_
  have e6:=e6 t ht h4
  subst e6
  dsimp only
  refine Ev.br (fun hr=>?_) (fun _=>?_)
  ·exact sr (ih.pattern hm (by omega) h3 hq hd0 (hp hr) (by omega)) fun x a6 q6 h14 h15 hq6 hx=>hj _ ⟨⟨a6,q6,rfl,by omega,h15,hq6⟩,hx⟩
  refine qe fun r _ _=>Ev.br (fun _=>?_) (fun _=>?_)
  ·refine Ev.jn (fun p=>p=aY s T a6 b k q) (fun p hp=>?_) (fun j3 hj3=>?_)
   ·subst hp
    dsimp only
    refine Ev.gd (by (first|omega|(simp[bK]<;>omega))) (uU hm hC (by omega) hnx (by omega) fun a7 x h16 h17=>?_)
    dsimp only
    refine jo hm hC (by omega) h17 (by omega) fun a8 t8 h18 h19 _ _ _ _=>fI (ih.expr hm (by omega) h19 hq (by omega)) fun x a9 q9 h20 h21 hq9 hx=>?_
    exact hj _ ⟨⟨a9,q9,rfl,by omega,h21,hq9⟩,.new (by simp) (by simp) (by simp) (by simp) (by simp) (by simpa using hx) (by simp)⟩
   ·exact Ev.bA (fun _=>jm hm hC (by omega) h3 (by omega)) (fun _=>hj3 _ rfl)
  refine jw fun r _ _=>Ev.br (fun _=>?_) (fun _=>?_)
  ·refine Ev.jn (fun p=>p=aY s T a6 b k q) (fun p hp=>?_) (fun j3 hj3=>?_)
   ·subst hp
    dsimp only
    exact Ev.gd (by (first|omega|(simp[bK]<;>omega))) (hj _ ⟨⟨a6+1,q,rfl,by omega,by omega,hq⟩,.new (by simp) (by simp) (by simp) (by simp) (by simp) (by simp) (by simp)⟩)
   ·exact Ev.bA (fun _=>jm hm hC (by omega) h3 (by omega)) (fun _=>hj3 _ rfl)
  refine qe fun r _ _=>Ev.br (fun _=>?_) (fun _=>?_)
  ·refine Ev.gd (by (first|omega|(simp[bK]<;>omega))) (fI (ih.expr hm (by omega) hnx hq (by omega)) fun x a9 q9 h20 h21 hq9 hx=>?_)
   dsimp only
   refine Ev.aQ (ih.block hm (by omega) (by omega) hq9 (by omega)) fun r hr=>?_
   obtain ⟨l,tl,p⟩:=r
   obtain ⟨⟨a3,q3,hp,h4,h5,hq3⟩,he1,he2,he3,he4⟩:=hr
   dsimp only at hp he1 he2 he3 he4;subst hp
   exact hj _ ⟨⟨a3,q3,rfl,by omega,h5,hq3⟩,.new (by simp) he1 he3 he4 (by simp) (by simpa using hx) he2⟩
  refine qe fun r _ _=>Ev.br (fun _=>?_) (fun _=>?_)
  ·refine Ev.gd (by (first|omega|(simp[bK]<;>omega))) (yT hm hC (by omega) hnx (by omega) fun a7 nm h16 h17=>?_)
   dsimp only
   refine qg hm hC (by omega) h17 (by omega) fun a8 h18 h19=>fI (ih.expr hm (by omega) h19 hq (by omega)) fun x a9 q9 h20 h21 hq9 hx=>?_
   dsimp only
   refine Ev.aQ (ih.block hm (by omega) (by omega) hq9 (by omega)) fun r hr=>?_
   obtain ⟨l,tl,p⟩:=r
   obtain ⟨⟨a3,q3,hp,h4,h5,hq3⟩,he1,he2,he3,he4⟩:=hr
   dsimp only at hp he1 he2 he3 he4;subst hp
   exact hj _ ⟨⟨a3,q3,rfl,by omega,h5,hq3⟩,.new (by simp) he1 he3 he4 (by simp) (by simpa using hx) he2⟩
  refine jw fun r _ _=>Ev.br (fun _=>?_) (fun _=>?_)
  ·exact sr (ih.tb hm (by omega) h3 hq hd0 (by omega)) fun x a6 q6 h14 h15 hq6 hx=>hj _ ⟨⟨a6,q6,rfl,by omega,h15,hq6⟩,hx⟩
  ·exact fI (ih.expr hm (by omega) h3 hq (by omega)) fun x a9 q9 h20 h21 hq9 hx=>hj _ ⟨⟨a9,q9,rfl,by omega,h21,hq9⟩,.new (by simp) (by simp) (by simp) (by simp) (by simp) (by simpa using hx) (by simp)⟩
 ·refine vH hm fun r _=>Ev.br (fun _=>s9 hm (by simp) fun r _=>hj2 _ trivial) (fun _=>hj2 _ trivial)
theorem C7 (hC:PC s T b) (hm:cm m) (h0:0≤a) (h1:a<T.length) (hq:QS q) {lead:List (List UInt8)} (hl1:(lead.length:Int)≤a+1) (hl2:∀ x,x∈lead→x.length≤65536)
  (Hd:∀ {m:Nat→Nat} {a':Int} {q:Option aj} {t:au},cm m→a≤a'→a'<T.length→QS q→T[a'.toNat]?=some t→t.Kind≠0→t.Kind≠7→Ev (fun i=>cl (m i) j (aY s T a' b k q)) (fun r=>St s T b k a' 0 r.2∧k3 r.1) (PP (b+s.length))) :
  Ev (fun i=>fE (m i) lead j (aY s T a b k q)) (fun r=>St s T b k a 0 r.2.2∧r.1.length≤70000∧(∀ d,d∈r.1→k3 d)∧r.2.1.length≤70000∧∀ x,x∈r.2.1→x.length≤65536) (PP (b+s.length)):=by
 unfold fE
 have hl:=hC.ls
 refine Ev.iter hm (fun (x:L×(List (List UInt8))×(List o)×Int×Bool)=>St s T b k a 0 x.1∧(x.2.1.length:Int)≤x.1.at_+1∧(∀ z,z∈x.2.1→z.length≤65536)∧(x.2.2.1.length:Int)≤x.1.at_+(if x.2.2.2.2 then 0 else 1)∧(∀ d,d∈x.2.2.1→k3 d)∧x.2.2.2.1≤x.1.at_∧(0<x.2.2.2.1→1≤x.2.2.1.length))
  (fun x=>2*(T.length - x.1.at_).toNat+(if x.2.2.2.2 then 1 else 0)) ⟨⟨a,q,rfl,by omega,by omega,hq⟩,by dsimp only;omega,hl2,by simp;omega,by simp,by dsimp only;omega,by simp⟩ ?_
 rintro ⟨p,lead,out,e,sep⟩ ⟨⟨a1,q1,hp,h2,h3,hq1⟩,i1,i2,i3,i4,i5,i6⟩ next hn
 dsimp only at hp i1 i2 i3 i4 i5 i6;subst hp;dsimp only at hn i1 i3 i5 ⊢
 have ho3:out.length≤70000:=by cases sep<;>simp at i3<;>omega
 refine Eh hm hC (by omega) (by omega) fun a2 t r h4 h5 ht hr h7=>?_
 dsimp only
 refine Ev.bA (fun hrf=>?_) (fun _=>Ev.ok ⟨⟨a2,q1,rfl,by omega,by omega,hq1⟩,ho3,i4,by dsimp only;omega,i2⟩)
 have hk0:=hr hrf
 have hnx:=hC.next (by omega) ht hk0
 have htt:=(hC.tok ht).2.2.2.1
 refine fB hm hC (by omega) h5 fun a3 t3 h8 h9 ht3 h10 e3=>?_
 have e3:=e3 t ht h7
 subst e3
 rw[ht] at ht3;cases ht3
 dsimp only
 refine Ev.jn (fun v=>v=false→t.Kind≠7) (fun v hv=>?_) (fun j1 hj1=>?_)
 ·refine Ev.br (fun _=>?_) (fun hvf=>?_)
  ·refine Ev.gd (by (first|omega|(simp[bK]<;>omega))) (hn _ ⟨⟨a3+1,q1,rfl,by omega,by omega,hq1⟩,by dsimp only;omega,i2,?_,i4,by dsimp only;omega,i6⟩ ?_)
   ·dsimp only;cases sep<;>simp at i3 ⊢<;>omega
   ·dsimp only;cases sep<;>simp<;>omega
  have hk7:=hv hvf
  refine Ev.jn (fun v=>v.1=aY s T a3 b k q1∧(v.2=true→0<e)) (fun v hv=>?_) (fun j2 hj2=>?_)
  ·obtain ⟨p,w⟩:=v
   obtain ⟨hp,hw⟩:=hv
   dsimp only at hp hw;subst hp;dsimp only
   refine Ev.br (fun hwt=>?_) (fun _=>?_)
   ·have ho:=i6 (hw hwt)
    have ho2:(out.length:Int)≤65540:=by cases sep<;>simp at i3<;>omega
    refine Ev.gd (by (first|omega|(simp[bK]<;>omega))) (Ev.el (by omega) (by omega) fun x hx=>?_)
    have hxd:=i4 x (List.mem_of_getElem? hx)
    refine Ev.gd (by (first|omega|(simp[bK]<;>omega))) (hn _ ⟨⟨a3+1,q1,rfl,by omega,by omega,hq1⟩,by dsimp only;omega,i2,?_,fun d hd=>?_,by dsimp only;omega,fun _=>by simpa using ho⟩ ?_)
    ·dsimp only;cases sep<;>simp at i3 ⊢<;>omega
    ·dsimp only at hd
     rcases List.mem_or_eq_of_mem_set hd with w|w
     ·exact i4 d w
     ·subst w;exact .mk hxd.l1 hxd.l2 hxd.l3 hxd.l4 hxd.l5 hxd.l6 htt hxd.kd hxd.s hxd.d
    ·dsimp only;cases sep<;>simp<;>omega
   ·refine Ev.jn (fun v=>v.1=aY s T a3 b k q1) (fun v hv=>?_) (fun j3 hj3=>?_)
    ·obtain ⟨p,w⟩:=v
     dsimp only at hv;subst hv;dsimp only
     refine Ev.br (fun _=>?_) (fun _=>?_)
     ·refine Ev.gd (by (first|omega|(simp[cV,maxLen]<;>omega))) (Ev.gd (by (first|omega|(simp[bK]<;>omega))) (hn _ ⟨⟨a3+1,q1,rfl,by omega,by omega,hq1⟩,by simp;omega,fun z hz=>?_,?_,i4,by dsimp only;omega,i6⟩ ?_))
      ·rcases List.mem_append.1 hz with w|w
       ·exact i2 z w
       ·simp at w;subst w;exact htt
      ·dsimp only;cases sep<;>simp at i3 ⊢<;>omega
      ·dsimp only;cases sep<;>simp<;>omega
     ·refine Ev.jn (fun v=>v=false→sep=true) (fun v hv=>?_) (fun j4 hj4=>?_)
      ·refine Ev.br (fun _=>jm hm hC (by omega) h9 (by omega)) (fun hvf=>?_)
       have hsep:=hv hvf
       subst hsep
       simp at i3
       refine fI (Hd hm (by omega) h9 hq1 ht hk0 hk7) fun d a4 q4 h11 h12 hq4 hd=>?_
       dsimp only
       refine Ev.gd (by (first|omega|(simp[cV,maxLen]<;>omega))) (hn _ ⟨⟨a4,q4,rfl,by omega,h12,hq4⟩,by simp;omega,by simp,by simp;omega,fun z hz=>?_,by dsimp only;omega,fun _=>by simp⟩ (by simp;omega))
       rcases List.mem_append.1 hz with w|w
       ·exact i4 z w
       ·simp at w;subst w
        exact .mk hd.l1 hd.l2 hd.l3 hd.l4 (by omega) i2 hd.l7 hd.kd hd.s hd.d
      ·refine Ev.bE (fun _=>hj4 _ (by simp)) (fun _=>hj4 _ (by simp))
    ·refine Ev.bE (fun _=>?_) (fun _=>hj3 _ rfl)
     exact Ev.ep (uG hm hC (by omega) h9) fun r hr=>hj3 _ hr
  ·refine Ev.bE (fun _=>Ev.ba (fun he=>?_) (fun _=>hj2 _ ⟨rfl,by simp⟩)) (fun _=>hj2 _ ⟨rfl,by simp⟩)
   exact Ev.ep (tS hm hC (by omega) h9 (by omega) (by omega)) fun r hr=>hj2 _ ⟨hr,fun _=>by omega⟩
 ·refine Ev.bE (fun _=>hj1 _ (by simp)) (fun hk7=>jw fun r _ _=>hj1 _ fun _=>hk7)
theorem xE (hC:PC s T b) (hX:sK s b):∀ K,PG s T b K:=by
 intro K
 induction K with
 | zero=>
  constructor
  all_goals (intros;(try intro _ _ _ _ _ _ _ _ _);exact absurd ‹_<0› (Nat.not_lt_zero _))
 | succ K ih=>
  exact {
      expr:=fun hm h0 h1 hq hK=>El hC ih hm h0 h1 hq hK
      alt:=fun hm h0 h1 hq hK=>Ge hC ih hm h0 h1 hq hK
      rL:=fun hm h0 h1 hq hK=>Em hC ih hm h0 h1 hq hK
      bin:=fun hm h0 h1 hq hl0 hl5 hK=>Gf hC ih hm h0 h1 hq hl0 hl5 hK
      unary:=fun hm h0 h1 hq hK=>C2 hC ih hm h0 h1 hq hK
      post:=fun hm h0 h1 hq hK=>En hC ih hm h0 h1 hq hK
      tW:=fun hm h0 h1 hq hK=>Eo hC ih hm h0 h1 hq hK
      named:=fun hm h0 h1 hq ht hk hK=>C4 hC ih hm h0 h1 hq ht hk hK
      tX:=fun hm h0 h1 ht hk _=>Bw hC hX hm h0 h1 ht hk
      parens:=fun hm h0 h1 hq hK=>Bx hC ih hm h0 h1 hq hK
      rM:=fun hm h0 h1 hq hK=>By hC ih hm h0 h1 hq hK
      list:=fun hm h0 h1 hq hK=>Es hC ih hm h0 h1 hq hK
      block:=fun hm h0 h1 hq hK=>C5 hC ih hm h0 h1 hq hK
      args:=fun hm h0 h1 hq hK=>Ep hC ih hm h0 h1 hq hK
      item:=fun hm h0 h1 hq hK=>Er hC ih hm h0 h1 hq hK
      field:=fun hm h0 h1 hq hd ht hk hk7 hK=>C6 hC ih hm h0 h1 hq hd ht hk hk7 hK
      pattern:=fun hm h0 h1 hq hd hp hK=>Ab hC ih hm h0 h1 hq hd hp hK
      tb:=fun hm h0 h1 hq hd hK=>Ac hC ih hm h0 h1 hq hd hK
      decl:=fun hm h0 h1 hq ht hk hk7 hK=>Et hC ih hm h0 h1 hq ht hk hk7 hK
      decls:=fun {m a k q j} hm h0 h1 hq hK=>by
       refine Ev.grow (F:=fun n=>dh n j (aY s T a b k q)) hm fun m hm=>?_
       exact C7 (lead:=[]) hC hm h0 h1 hq (by simp;omega) (by simp) fun hm2 ha h2 hq2 ht hk hk7=>ih.decl hm2 (by omega) h2 hq2 ht hk hk7 (by omega) }
end
theorem xF {m:Nat→Nat} (hm:cm m) {l:List au} (hl:l.length≤70000):Ev (fun i=>fH (m i) l) (fun _=>True) gA:=by
 unfold fH
 refine Ev.aQ (Q:=fun _=>True) ?_ fun y _=>Ev.ok trivial
 unfold im
 refine Ev.iter hm (fun (x:Int)=>0≤x∧x≤l.length) (fun x=>(l.length - x).toNat) (by omega) ?_
 intro x hx next hn
 refine Ev.ba (fun _=>?_) (fun _=>Ev.ok trivial)
 refine Ev.el (by omega) (by omega) fun t _=>Ev.qw (by unfold oN;rfl) ?_
 refine Ev.br (fun _=>Ev.ok trivial) (fun _=>Ev.gd (by (first|omega|(simp[bK]<;>omega))) (hn _ (by omega) (by omega)))
theorem Eu:∀ (N:Nat) {m:Nat→Nat} {x:List UInt8} {f:Int},cm m→x.length<N→0≤f→f+x.length≤65536→Ev (fun i=>fV (m i) x f) (fun r=>iV r.1) gA:=by
 intro N
 induction N with
 | zero=>intro m x f _ h;exact absurd h (Nat.not_lt_zero _)
 | succ N ih=>
  intro m x f hm hN h0 h1
  refine Ev.grow (F:=fun n=>fV n x f) hm fun m hm=>?_
  show Ev (fun i=>iQ (m i) (ai (m i)) x f) _ _
  unfold iQ
  refine Ev.aQ (oT hm) fun y hy=>?_
  refine Ev.b5 (fun _=>Ev.ok (.leaf (by decide))) (fun he=>?_)
  have hT:=(hy.2.2 he).2
  have hC:PC x y.1 f:=⟨hT,h0,h1⟩
  have hX:sK x f:=fun hm2 hlt h2 h3=>ih hm2 (by omega) h2 (by omega)
  have hl:=hC.ls
  have hp:=hC.pos
  refine Ev.aQ (xF hm (by omega)) fun z _=>?_
  refine Ev.br (fun _=>Ev.ok (.leaf (by decide))) (fun _=>?_)
  refine Ev.wG (R':=PP (f+x.length)) ?_ ?_
  ·refine fI (s:=x) (T:=y.1) (b:=f) (k:=true) (a:=0) (d:=0) (P:=iV) ((xE hC hX _).expr hm (Int.le_refl _) (by omega) .none (Nat.lt_succ_self _)) fun e a2 q2 h2 h3 hq2 he=>?_
   dsimp only
   exact fB hm hC (by omega) (by omega) fun a3 t h4 h5 _ _ _=>Ev.ok he
  ·rintro p ⟨v,rfl,_,_⟩
   refine Ev.sB ?_
   unfold gp
   exact Ev.ok (.leaf (by decide))
theorem sL {s:List UInt8} {b:Int} (h1:b+s.length≤65536):sK s b:=fun hm h h2 h3=>Eu _ hm (Nat.lt_succ_self _) h2 (by omega)
def RH {X Y:Type} (V:X→Y→Prop) (C:Cx) (k:Bool) (a:Int) (F:L→D X) (G:L→D Y):Prop:=∀ {q q':Option aj},QR q q'→RS NZ V (F (aY C.s C.T a C.b k q)) (G (aY C.s' C.T' (a+C.κ) C.b' k q'))
abbrev VL (C:Cx) (k:Bool) (a:Int) (r r':List aj×L):Prop:=Rl C k a r.2 r'.2∧LR EE r.1 r'.1
abbrev VB (C:Cx) (k:Bool) (a:Int) (r r':List o×List (List UInt8)×L):Prop:=Rl C k a r.2.2 r'.2.2∧LR DD r.1 r'.1∧r'.2.1=r.2.1
abbrev VF (C:Cx) (k:Bool) (a:Int) (r r':L×o):Prop:=Rl C k a r.1 r'.1∧DD r.2 r'.2
abbrev VD (C:Cx) (k:Bool) (a:Int) (r r':o×L):Prop:=Rl C k a r.2 r'.2∧DD r.1 r'.1
def RN {X Y:Type} (V:X→Y→Prop) (C:Cx) (k:Bool) (a:Int) (F:L→D X) (G:L→D Y):Prop:=RS NZ V (F (aY C.s C.T a C.b k none)) (G (aY C.s' C.T' (a+C.κ) C.b' k none))
abbrev ZB (C:Cx) (r:List o×List (List UInt8)×L):Prop:=0≤r.2.2.at_∧r.2.2.bo=C.T∧∃ u,C.T[r.2.2.at_.toNat]?=some u∧u.Kind=0
structure GR (n:Nat):Prop where
 expr:∀ {C:Cx} {a:Int} {k j:Bool},C.kW→0≤a→RH (VE C k a) C k a (aD n j) (aD n j)
 alt:∀ {C:Cx} {a:Int} {k j:Bool},C.kW→0≤a→RH (VE C k a) C k a (aV n j) (aV n j)
 rL:∀ {C:Cx} {a:Int} {k j:Bool},C.kW→0≤a→RH (VE C k a) C k a (aW n j) (aW n j)
 bin:∀ {C:Cx} {a l:Int} {k j:Bool},C.kW→0≤a→RH (VE C k a) C k a (bn n l j) (bn n l j)
 unary:∀ {C:Cx} {a:Int} {k j:Bool},C.kW→0≤a→RH (VE C k a) C k a (bU n j) (bU n j)
 post:∀ {C:Cx} {a:Int} {k j:Bool},C.kW→0≤a→RH (VE C k a) C k a (bG n j) (bG n j)
 tW:∀ {C:Cx} {a:Int} {k j:Bool},C.kW→0≤a→RH (VE C k a) C k a (bS n j) (bS n j)
 named:∀ {C:Cx} {a:Int} {k:Bool} {t:au},C.kW→0≤a→C.T[a.toNat]?=some t→t.Kind=1→RN (VE C k a) C k a (cx n) (cx n)
 tX:∀ {v v':Int} {p p':L} {t t':au},t'.Text=t.Text→RS NZ (fun r r'=>r.2=p∧r'.2=p'∧EE r.1 r'.1) (cR n t v p) (cR n t' v' p')
 parens:∀ {C:Cx} {a:Int} {k j:Bool},C.kW→0≤a→RN (VE C k a) C k a (bM n j) (bM n j)
 rM:∀ {C:Cx} {a:Int} {k j:Bool},C.kW→0≤a→RN (VE C k a) C k a (ck n j) (ck n j)
 list:∀ {C:Cx} {a:Int} {k:Bool},C.kW→0≤a→RN (VE C k a) C k a (cM n) (cM n)
 block:∀ {C:Cx} {a:Int} {k j:Bool},C.kW→0≤a→RN (VB C k a) C k a (ca n j) (ca n j)
 args:∀ {C:Cx} {a:Int} {k:Bool},C.kW→0≤a→RN (VL C k a) C k a (cL n) (cL n)
 item:∀ {C:Cx} {a:Int} {k:Bool},C.kW→0≤a→RN (VE C k a) C k a (de n) (de n)
 field:∀ {C:Cx} {a:Int} {k j:Bool} {d d':o} {t:au},C.kW→0≤a→C.T[a.toNat]?=some t→t.Kind=3∨t.Kind=1→DD d d'→RN (VF C k a) C k a (fun p=>cZ n j p d) (fun p=>cZ n j p d')
 pattern:∀ {C:Cx} {a:Int} {k j:Bool} {d d':o},C.kW→0≤a→DD d d'→RN (VF C k a) C k a (fun p=>cF n j p d) (fun p=>cF n j p d')
 tb:∀ {C:Cx} {a:Int} {k j:Bool} {d d':o},C.kW→0≤a→DD d d'→RN (VF C k a) C k a (fun p=>cE n j p d) (fun p=>cE n j p d')
 decl:∀ {C:Cx} {a:Int} {k j:Bool},C.kW→0≤a→RN (VD C k a) C k a (cl n j) (cl n j)
 decls:∀ {C:Cx} {a:Int} {k j:Bool},C.kW→0≤a→Ej C a→RS (ZB C) (VB C k a) (dh n j (aY C.s C.T a C.b k none)) (dh n j (aY C.s' C.T' (a+C.κ) C.b' k none))
 code:∀ {x:List UInt8} {v v':Int},RS NZ (fun r r'=>r.2=true→r'.2=true∧EE r.1 r'.1) (fV n x v) (fV n x v')
def GL (n:Nat):Prop:=∀ i,i≤n→GR i
theorem GL.g {n:Nat} (h:GL n):GR n:=h n (Nat.le_refl _)
theorem GL.dn {n:Nat} (h:GL (n+1)):GL n:=fun i hi=>h i (Nat.le_succ_of_le hi)
theorem nx {a:Int} {κ:Nat}:a+(κ:Int)+1=a+1+κ:=by omega
section
variable {C:Cx} {n:Nat} {a:Int} {k j:Bool}
theorem Ew (ih:GL n) (hC:C.kW) (h0:0≤a):RH (VE C k a) C k a (aD (n+1) j) (aD (n+1) j):=by
 intro q q' hq
 show RS NZ _ (cB n (ai n) j _) (cB n (ai n) j _)
 unfold cB
 dsimp only
 refine RS.jn (fun v w=>∃ a1,v.1=(aY C.s C.T a1 C.b k q)∧w.1=(aY C.s' C.T' (a1+C.κ) C.b' k q')∧a≤a1∧w.2=v.2) (fun v w h=>?_) (fun j0 j0' hj=>?_)
 ·obtain ⟨p,x⟩:=v
  obtain ⟨p',x'⟩:=w
  obtain ⟨a1,g1,g2,h1,g3⟩:=h
  dsimp only at g1 g2 g3;subst g1 g2 g3;dsimp only
  refine RS.jn (fun v w=>Rl C k a v.1 w.1∧EE v.2 w.2) (fun v w h=>?_) (fun j1 j1' hj=>?_)
  ·obtain ⟨p,e⟩:=v
   obtain ⟨p',e'⟩:=w
   obtain ⟨⟨a2,g1,g2,h2⟩,he⟩:=h
   dsimp only at g1 g2 he;subst g1 g2;dsimp only
   refine RS.jn (fun v w=>Rl C k a v w) (fun v w h=>?_) (fun j2 j2' hj=>?_)
   ·obtain ⟨a3,rfl,rfl,h3⟩:=h
    dsimp only
    refine RS.jn (fun v w=>Rl C k a v w) (fun v w h=>?_) (fun j3 j3' hj=>?_)
    ·obtain ⟨a4,rfl,rfl,h4⟩:=h
     refine lz hC fun a5 v v' h5 _=>?_
     dsimp only
     refine ky he fun x x' hx=>?_
     dsimp only
     refine RS.iter (fun (v w:L×List aj)=>Rl C k a v.1 w.1∧LR EE v.2 w.2) (fun v w h next next' hn=>?_) _ _ ⟨.mk (by omega),.one hx⟩
     obtain ⟨p,l⟩:=v
     obtain ⟨p',l'⟩:=w
     obtain ⟨⟨a6,g1,g2,h6⟩,hl⟩:=h
     dsimp only at g1 g2 hl;subst g1 g2;dsimp only
     refine kx hC (fun a7 t h7 _ _=>?_) (fun a7 h7=>?_)
     ·dsimp only
      refine RS.br rfl (fun _=>jP (ih.g.alt hC (by omega) .none) fun e e' a8 h8 he8=>?_) (fun h=>by cases h)
      dsimp only
      exact RS.gd fun _ _=>hn _ _ ⟨.mk (by omega),hl.snoc he8⟩
     ·dsimp only
      exact RS.br rfl (fun h=>by cases h) (fun _=>RS.el fun x x' _ _ _ _=>RS.ok ⟨.mk (by omega),.sub hl⟩)
    ·refine fZ hC fun a4 t t' h4 _ hs _=>?_
     dsimp only
     exact ka hs fun r _=>RS.br rfl (fun _=>gr) (fun _=>hj _ _ (.mk (by omega)))
   ·refine RS.br rfl (fun _=>?_) (fun _=>hj _ _ (.mk (by omega)))
    refine fZ hC fun a4 t t' h4 _ hs _=>?_
    dsimp only
    exact ka hs fun r _=>RS.br rfl (fun _=>RS.ok ⟨.mk (by omega),he⟩) (fun _=>hj _ _ (.mk (by omega)))
  ·exact RS.br rfl (fun _=>jP (ih.g.alt hC (by omega) hq) fun e e' a8 h8 he8=>hj _ _ ⟨.mk (by omega),he8⟩) (fun _=>jP (ih.g.alt hC (by omega) hq) fun e e' a8 h8 he8=>hj _ _ ⟨.mk (by omega),he8⟩)
 ·refine RS.br hq.HW (fun _=>?_) (fun _=>hj _ _ ⟨_,rfl,rfl,by omega,rfl⟩)
  refine fZ hC fun a4 t t' h4 _ hs _=>?_
  dsimp only
  exact ka hs fun r _=>hj _ _ ⟨_,rfl,rfl,by omega,rfl⟩
theorem Gg (ih:GL n) (hC:C.kW) (h0:0≤a):RH (VE C k a) C k a (aV (n+1) j) (aV (n+1) j):=by
 intro q q' hq
 show RS NZ _ (bO n (ai n) j _) (bO n (ai n) j _)
 unfold bO
 dsimp only
 refine RS.br hq.HW (fun _=>?_) (fun _=>?_)
 ·refine lz hC fun a2 v v' h2 _=>?_
  dsimp only
  refine kx hC (fun a7 t h7 _ _=>?_) (fun a7 h7=>?_)
  ·exact RS.br rfl (fun _=>jP (ih.g.rL hC (by omega) hq) fun e e' a8 h8 he8=>RS.ok ⟨.mk (by omega),.sub (.one he8)⟩) (fun h=>by cases h)
  ·exact RS.br rfl (fun h=>by cases h) (fun _=>jP (ih.g.rL hC (by omega) hq) fun e e' a8 h8 he8=>RS.ok ⟨.mk (by omega),he8⟩)
 ·exact jP (ih.g.rL hC (by omega) hq) fun e e' a8 h8 he8=>RS.ok ⟨.mk (by omega),he8⟩
theorem Ex (ih:GL n) (hC:C.kW) (h0:0≤a):RH (VE C k a) C k a (aW (n+1) j) (aW (n+1) j):=by
 intro q q' hq
 show RS NZ _ (bP n (ai n) j _) (bP n (ai n) j _)
 unfold bP
 refine jP (ih.g.bin hC h0 hq) fun e e' a2 h2 he=>?_
 dsimp only
 refine RS.iter (fun (v w:L×aj)=>Rl C k a v.1 w.1∧EE v.2 w.2) (fun v w h next next' hn=>?_) _ _ ⟨.mk (by omega),he⟩
 obtain ⟨p,e⟩:=v
 obtain ⟨p',e'⟩:=w
 obtain ⟨⟨a6,g1,g2,h6⟩,he⟩:=h
 dsimp only at g1 g2 he;subst g1 g2;dsimp only
 refine kx hC (fun a7 t h7 _ _=>?_) (fun a7 h7=>?_)
 ·exact RS.br rfl (fun _=>jP (ih.g.bin hC (by omega) .none) fun e2 e2' a8 h8 he8=>hn _ _ ⟨.mk (by omega),.sub (.two he he8)⟩) (fun h=>by cases h)
 ·exact RS.br rfl (fun h=>by cases h) (fun _=>RS.ok ⟨.mk (by omega),he⟩)
theorem xG {l:Int} {ops:List UInt8} (h:db l=.ok ops):(mM [32] (ops.length+1) ops).contains [41]=false:=by
 have H:db l=.ok [124,124]∨db l=.ok [38,38]∨db l=.ok [61,61,32,33,61,32,60,32,60,61,32,62,32,62,61]∨db l=.ok [43,32,45]∨db l=.ok [42,32,47,32,37]:=by
  unfold db
  cases (l==0)<;>cases (l==1)<;>cases (l==2)<;>cases (l==3)<;>simp[D.br]
 rcases H with q|q|q|q|q<;>(rw[q] at h;cases h;rfl)
theorem Gi (ih:GL n) (hC:C.kW) (h0:0≤a) {l:Int}:RH (VE C k a) C k a (bn (n+1) l j) (bn (n+1) l j):=by
 intro q q' hq
 show RS NZ _ (cb n (ai n) l j _) (cb n (ai n) l j _)
 unfold cb
 refine RS.br rfl (fun _=>jP (ih.g.unary hC h0 hq) fun e e' a8 h8 he8=>RS.ok ⟨.mk (by omega),he8⟩) (fun _=>?_)
 refine RS.gd fun _ _=>jP (ih.g.bin hC h0 hq) fun e e' a2 h2 he=>?_
 dsimp only
 refine RS.iter (fun (v w:L×aj)=>Rl C k a v.1 w.1∧EE v.2 w.2) (fun v w h next next' hn=>?_) _ _ ⟨.mk (by omega),he⟩
 obtain ⟨p,e⟩:=v
 obtain ⟨p',e'⟩:=w
 obtain ⟨⟨a6,g1,g2,h6⟩,he⟩:=h
 dsimp only at g1 g2 he;subst g1 g2;dsimp only
 refine fZ hC fun a4 t t' h4 ht hs hh=>RS.same fun ops hops=>?_
 dsimp only
 refine ta hs (fun r hr=>RS.br rfl (fun hrt=>?_) (fun _=>RS.ok ⟨.mk (by omega),he⟩)) (xG hops)
 have hk5:=hr hrt
 refine lz hC fun a5 v v' h5 e5=>?_
 have e5:=e5 t ht hh.1
 subst e5
 dsimp only
 refine ky he fun x x' hx=>?_
 dsimp only
 refine fZ hC fun a7 t7 t7' h7 ht7 hs7 e7=>?_
 have e7:=e7.2 t ht hh.1
 subst e7
 rw[ht] at ht7;cases ht7
 have hs:=hs7.s (by omega)
 dsimp only
 rw[nx,hs.2]
 exact RS.gd fun _ _=>RS.gd fun _ _=>jP (ih.g.bin hC (by omega) .none) fun e2 e2' a8 h8 he8=>hn _ _ ⟨.mk (by omega),.sub (.two hx he8)⟩
theorem C8 (ih:GL n) (hC:C.kW) (h0:0≤a):RH (VE C k a) C k a (bU (n+1) j) (bU (n+1) j):=by
 intro q q' hq
 show RS NZ _ (cq n (ai n) j _) (cq n (ai n) j _)
 unfold cq
 dsimp only
 refine RS.br hq.H5 (fun _=>jP (ih.g.post hC h0 hq) fun e e' a8 h8 he8=>RS.ok ⟨.mk (by omega),he8⟩) (fun _=>?_)
 refine fZ hC fun a4 t t' h4 _ hs _=>?_
 dsimp only
 refine lz hC fun a5 v v' h5 _=>?_
 dsimp only
 refine RS.jn (fun x y=>y=x∧t.Kind=5) (fun x y h=>?_) (fun j0 j0' hj=>?_)
 ·obtain ⟨rfl,hk⟩:=h
  rw[nx,(hs.s (by omega)).2]
  exact RS.gd fun _ _=>jP (ih.g.unary hC (by omega) hq) fun e e' a8 h8 he8=>RS.ok ⟨.mk (by omega),.sub (.one he8)⟩
 ·refine ta hs fun r hr=>RS.br rfl (fun h=>hj _ _ ⟨rfl,hr h⟩) (fun _=>ta hs fun r hr=>RS.br rfl (fun h=>hj _ _ ⟨rfl,hr h⟩) (fun _=>?_))
  exact jP (ih.g.post hC (by omega) hq) fun e e' a8 h8 he8=>RS.ok ⟨.mk (by omega),he8⟩
theorem Fb {k':Bool} (ih:GL n) (hC:C.kW) (h0:0≤a) {e e':aj} (he:EE e e'):RS NZ (fun r r'=>Rk C k k' a r.1 r'.1∧EE r.2 r'.2) (cw n true (aY C.s C.T a C.b k none) e) (cw n true (aY C.s' C.T' (a+C.κ) C.b' k' none) e'):=by
 cases n with
 | zero=>exact RS.nil
 | succ n=>
  show RS NZ _ (dW n (ai n) true _ e) (dW n (ai n) true _ e')
  unfold dW
  dsimp only
  refine RS.bind (W:=fun r r'=>Rk C true true a r.2 r'.2∧EE r.1 r'.1) ?_ fun r r' h=>?_
  ·cases n with
   | zero=>exact RS.nil
   | succ n=>
    show RS NZ _ (dU n (ai n) e _) (dU n (ai n) e' _)
    unfold dU
    refine jP (ih.dn.dn.g.expr hC h0 .none) fun x x' a2 h2 hx=>?_
    dsimp only
    exact mD hC fun a3 t h3 h4 h5=>RS.ok ⟨⟨a3,t,rfl,rfl,by omega,h4,h5⟩,.sub (.two he hx)⟩
  ·obtain ⟨x,p⟩:=r
   obtain ⟨x',p'⟩:=r'
   obtain ⟨⟨a3,t,g1,g2,h3⟩,he⟩:=h
   dsimp only at g1 g2 he;subst g1 g2
   exact RS.ok ⟨⟨a3,t,rfl,rfl,h3⟩,he⟩
theorem Ey (ih:GL n) (hC:C.kW) (h0:0≤a):RH (VE C k a) C k a (bG (n+1) j) (bG (n+1) j):=by
 intro q q' hq
 show RS NZ _ (bZ n (ai n) j _) (bZ n (ai n) j _)
 unfold bZ
 refine jP (ih.g.tW hC h0 hq) fun e e' a2 h2 he=>?_
 dsimp only
 refine RS.iter (fun (v w:L×aj)=>Rl C k a v.1 w.1∧EE v.2 w.2) (fun v w h next next' hn=>?_) _ _ ⟨.mk (by omega),he⟩
 obtain ⟨p,e⟩:=v
 obtain ⟨p',e'⟩:=w
 obtain ⟨⟨a3,g1,g2,h3⟩,he⟩:=h
 dsimp only at g1 g2 he;subst g1 g2;dsimp only
 refine fZ hC fun a4 t t' h4 _ hs _=>?_
 dsimp only
 refine lz hC fun a5 v v' h5 _=>?_
 dsimp only
 refine ka hs fun r _=>RS.br rfl (fun _=>?_) (fun _=>ka hs fun r _=>RS.br rfl (fun _=>?_) (fun _=>RS.ok ⟨.mk (by omega),he⟩))
 ·refine ky he fun x x' hx=>?_
  dsimp only
  rw[nx]
  refine RS.gd fun _ _=>fZ hC fun a6 t t' h6 _ hs _=>?_
  dsimp only
  refine RS.jn (fun v w=>v=(aY C.s C.T a6 C.b k none)∧w=(aY C.s' C.T' (a6+C.κ) C.b' k none)∧t.Kind≠0) (fun v w h=>?_) (fun j0 j0' hj=>?_)
  ·obtain ⟨rfl,rfl,hk⟩:=h
   dsimp only
   rw[(hs.s hk).2]
   exact RS.gd fun _ _=>hn _ _ ⟨.mk' (by omega) nx,.sub (.one hx)⟩
  ·exact sJ hs fun r hr=>RS.br rfl (fun _=>gr) (fun h=>hj _ _ ⟨rfl,rfl,by have:=hr (by simpa using h);omega⟩)
 ·refine ky he fun x x' hx=>?_
  dsimp only
  rw[nx]
  refine RS.gd fun _ _=>Bt (Fb ih hC (by omega) hx) fun x x' a6 t h6 _ _ hx=>?_
  dsimp only
  exact RS.gd fun _ _=>hn _ _ ⟨.mk' (by omega) nx,hx⟩
end
def uH (T:List au) (k:Bool) (a:Int):Prop:=0≤a∧∀ t,T[a.toNat]?=some t→(t.Kind=0∨t.Kind=7∧k=false)
theorem uH.of {T:List au} {k:Bool} {a:Int} {t:au} (h0:0≤a) (ht:T[a.toNat]?=some t) (hk:t.Kind=0∨t.Kind=7∧k=false):uH T k a:=⟨h0,fun u hu=>by rw[ht] at hu;cases hu;exact hk⟩
section
variable {s:List UInt8} {T:List au} {b a:Int} {k j:Bool} {m:Nat} {α:Type} {q:Option aj}
theorem gZ.jn {X:Type} {j:X→D α} {p:(X→D α)→D α} (h:gZ (p j)):gZ (D.jn j p):=h
theorem qn {t:au} {x:List UInt8} (h:t.Kind≠5):dM m t x=.ok false:=by
 unfold dM
 cases e:t.Kind==5 with
 | false=>rfl
 | true=>exact absurd (by simpa using e) h
theorem oE (h:uH T k a) (c:au×L) (e:az m (aY s T a b k q)=.ok c):∃ t,c=(t,aY s T a b k q)∧T[a.toNat]?=some t∧(t.Kind=0∨t.Kind=7):=by
 obtain ⟨h0,hk⟩:=h
 cases ht:T[a.toNat]? with
 | none=>exact absurd e (xB (by have:=List.getElem?_eq_none_iff.1 ht;omega) c)
 | some t=>
 have hk:=hk t ht
 unfold az at e
 cases m with
 | zero=>cases e
 | succ m=>
  have e:D.br k (D.el T a fun x=>D.br (x.Kind==7) (D.gd (bK (a+1)) (D.iter _ m (aY s T (a+1) b k q))) (D.el T a fun x=>.ok (x,aY s T a b k q))) (D.el T a fun x=>.ok (x,aY s T a b k q))=.ok c:=e
  have e1:∀ {β:Type} (K:au→D β),D.el T a K=K t:=fun K=>by simp only[D.el];rw[if_pos h0,ht]
  rw[e1,e1] at e
  have e2:D.br k (.ok (t,aY s T a b k q)) (.ok (t,aY s T a b k q))=(.ok c:D (au×L)):=by
   cases k with
   | false=>exact e
   | true=>
    have hk:t.Kind=0:=by rcases hk with hk|⟨_,h⟩;exact hk;cases h
    have e3:(t.Kind==7)=false:=by rw[hk];rfl
    rw[e3] at e;exact e
  cases k<;>(cases e2;exact ⟨t,rfl,rfl,hk.imp_right fun h=>h.1⟩)
theorem qo (h:uH T k a) (c:Int×L) (e:bm m (aY s T a b k q)=.ok c):∃ v,c=(v,aY s T a b k q):=by
 unfold bm at e
 cases h1:az m (aY s T a b k q) with
 | stuck=>rw[h1] at e;cases e
 | kT _=>rw[h1] at e;cases e
 | ok r=>
  obtain ⟨t,rfl,_⟩:=oE h r h1
  rw[h1] at e
  simp only[D.bind,D.gd] at e
  split at e
  ·cases e;exact ⟨_,rfl⟩
  ·cases e
theorem sM (h:uH T k a) {x:List UInt8} (c:Bool×L) (e:bc m x (aY s T a b k q)=.ok c):c=(false,aY s T a b k q):=by
 unfold bc at e
 cases h1:az m (aY s T a b k q) with
 | stuck=>rw[h1] at e;cases e
 | kT _=>rw[h1] at e;cases e
 | ok r=>
  obtain ⟨t,rfl,_,hk⟩:=oE h r h1
  rw[h1] at e
  simp only[D.bind] at e
  rw[nA (by omega)] at e
  cases e;rfl
theorem Bz (h:uH T k a) {x:List UInt8} {K:L→D α}:gZ (D.bind (bV m x (aY s T a b k q)) K):=by
 refine gZ.mY ?_
 unfold bV
 refine gZ.bind fun c e=>?_
 obtain ⟨t,rfl,_,hk⟩:=oE h c e
 dsimp only
 rw[nA (by omega)]
 exact gZ.bind fun c e=>by
  cases e
  exact gZ.br (fun _=>kv) (fun h=>by cases h)
structure NE (n:Nat):Prop where
 expr:∀ {s:List UInt8} {T:List au} {b a:Int} {k j:Bool},uH T k a→gZ (aD n j (aY s T a b k none))
 alt:∀ {s:List UInt8} {T:List au} {b a:Int} {k j:Bool},uH T k a→gZ (aV n j (aY s T a b k none))
 rL:∀ {s:List UInt8} {T:List au} {b a:Int} {k j:Bool},uH T k a→gZ (aW n j (aY s T a b k none))
 bin:∀ {s:List UInt8} {T:List au} {b a l:Int} {k j:Bool},uH T k a→gZ (bn n l j (aY s T a b k none))
 unary:∀ {s:List UInt8} {T:List au} {b a:Int} {k j:Bool},uH T k a→gZ (bU n j (aY s T a b k none))
 post:∀ {s:List UInt8} {T:List au} {b a:Int} {k j:Bool},uH T k a→gZ (bG n j (aY s T a b k none))
 tW:∀ {s:List UInt8} {T:List au} {b a:Int} {k j:Bool},uH T k a→gZ (bS n j (aY s T a b k none))
theorem vJ:∀ n,NE n:=by
 intro n
 induction n with
 | zero=>constructor<;>(intros;exact fun r e=>by cases e)
 | succ n ih=>
  refine ⟨?_,?_,?_,?_,?_,?_,?_⟩
  ·intro s T b a k j h
   show gZ (cB n (ai n) j (aY s T a b k none))
   unfold cB
   refine gZ.jn (gZ.br (fun _=>gZ.bind fun c e=>?_) (fun h=>by cases h))
   obtain ⟨t,rfl,_,hk⟩:=oE h c e
   dsimp only
   rw[nA (by omega)]
   exact gZ.jn (gZ.br (fun _=>gZ.mY (ih.alt h)) (fun _=>gZ.mY (ih.alt h)))
  ·intro s T b a k j h
   show gZ (bO n (ai n) j (aY s T a b k none))
   unfold bO
   refine gZ.br (fun _=>gZ.bind fun c e=>?_) (fun h=>by cases h)
   obtain ⟨v,rfl⟩:=qo h c e
   dsimp only
   refine gZ.bind fun c e=>?_
   have e:=sM h c e
   subst e
   exact gZ.br (fun h=>by cases h) (fun _=>gZ.mY (ih.rL h))
  ·intro s T b a k j h
   show gZ (bP n (ai n) j (aY s T a b k none))
   unfold bP
   exact gZ.mY (ih.bin h)
  ·intro s T b a l k j h
   show gZ (cb n (ai n) l j (aY s T a b k none))
   unfold cb
   exact gZ.br (fun _=>gZ.mY (ih.unary h)) (fun _=>gZ.gd (gZ.mY (ih.bin h)))
  ·intro s T b a k j h
   show gZ (cq n (ai n) j (aY s T a b k none))
   unfold cq
   refine gZ.br (fun h=>by cases h) (fun _=>gZ.bind fun c e=>?_)
   obtain ⟨t,rfl,_,hk⟩:=oE h c e
   dsimp only
   refine gZ.bind fun c e=>?_
   obtain ⟨v,rfl⟩:=qo h c e
   dsimp only
   refine gZ.jn ?_
   rw[qn (by omega),qn (by omega)]
   exact gZ.bind fun c e=>by
    cases e
    exact gZ.br (fun h=>by cases h) (fun _=>gZ.bind fun c e=>by
     cases e
     exact gZ.br (fun h=>by cases h) (fun _=>gZ.mY (ih.post h)))
  ·intro s T b a k j h
   show gZ (bZ n (ai n) j (aY s T a b k none))
   unfold bZ
   exact gZ.mY (ih.tW h)
  ·intro s T b a k j h
   show gZ (b1 n (ai n) j (aY s T a b k none))
   unfold b1
   refine gZ.br (fun h=>by cases h) (fun _=>gZ.bind fun c e=>?_)
   obtain ⟨t,rfl,_,hk⟩:=oE h c e
   dsimp only
   refine gZ.bind fun c e=>?_
   obtain ⟨v,rfl⟩:=qo h c e
   dsimp only
   have hb:∀ {n:Int},n≠0→n≠7→(t.Kind==n)=false:=fun {n} h0 h7=>beq_eq_false_iff_ne.2 (by omega)
   refine gZ.jn ?_
   rw[hb (by decide) (by decide),hb (by decide) (by decide),hb (by decide) (by decide),hb (by decide) (by decide)]
   rw[nA (by omega),nA (by omega),nA (by omega),nA (by omega),nA (by omega)]
   exact kv
end
section
variable {C:Cx} {n:Nat} {a:Int} {k j:Bool}
theorem C9 (ih:GL n) (hC:C.kW) (h0:0≤a) {t0:au} (ht0:C.T[a.toNat]?=some t0) (hk0:t0.Kind=1):RN (VE C k a) C k a (cx (n+1)) (cx (n+1)):=by
 unfold RN
 show RS NZ _ (dx n (ai n) _) (dx n (ai n) _)
 unfold dx
 refine fZ hC fun a2 t t' h2 ht hs e2=>?_
 have e2:=e2.2 t0 ht0 (fun _=>by omega)
 subst e2
 rw[ht0] at ht;cases ht
 have hs:=hs.s (by omega)
 dsimp only
 refine lz hC fun a5 v v' h5 _=>?_
 dsimp only
 rw[hs.2]
 refine RS.jn (fun e e'=>EE e e') (fun e e' he=>?_) (fun j0 j0' hj=>?_)
 ·exact RS.gd fun _ _=>RS.ok ⟨.mk' (by omega) nx,he.x.sub .nil⟩
 ·refine RS.br rfl (fun _=>hj _ _ .leaf) (fun _=>?_)
  refine RS.jn (fun x y=>y=x) (fun x y h=>?_) (fun j2 j2' hj2=>?_)
  ·subst h
   refine RS.br rfl (fun _=>RS.br rfl (fun _=>hj _ _ .leaf) (fun _=>hj _ _ .leaf)) (fun _=>?_)
   refine RS.jn (fun x y=>y=x) (fun x y h=>?_) (fun j2 j2' hj2=>?_)
   ·subst h
    refine RS.br rfl (fun _=>hj _ _ .leaf) (fun _=>?_)
    refine uV hC fun a6 x h6=>?_
    dsimp only
    refine fZ hC fun a7 t t' h7 _ hs _=>?_
    dsimp only
    refine ka hs fun r _=>RS.br rfl (fun _=>?_) (fun _=>RS.ok ⟨.mk (by omega),.leaf⟩)
    exact jP (P:=LR EE) (ih.g.args hC (by omega)) fun l l' a4 h4 hl=>RS.ok ⟨.mk (by omega),.sub hl⟩
   ·exact RS.br rfl (fun _=>hj2 _ _ rfl) (fun _=>RS.br rfl (fun _=>hj2 _ _ rfl) (fun _=>RS.br rfl (fun _=>hj2 _ _ rfl) (fun _=>hj2 _ _ rfl)))
  ·exact RS.br rfl (fun _=>hj2 _ _ rfl) (fun _=>hj2 _ _ rfl)
theorem BA (ih:GL n) {t t':au} {v v':Int} {p p':L} (hs:t'.Text=t.Text):RS NZ (fun r r'=>r.2=p∧r'.2=p'∧EE r.1 r'.1) (cR (n+1) t v p) (cR (n+1) t' v' p'):=by
 show RS NZ _ (eP n (ai n) t v _) (eP n (ai n) t' v' _)
 unfold eP
 rw[hs]
 refine RS.same fun y _=>?_
 refine RS.iter (fun (x y:L×aj×Int)=>x.1=p∧y.1=p'∧EE x.2.1 y.2.1∧y.2.2=x.2.2) (fun x y h next next' hn=>?_) _ _ ⟨rfl,rfl,.leaf,rfl⟩
 obtain ⟨p1,e,i⟩:=x
 obtain ⟨p1',e',i'⟩:=y
 obtain ⟨g1,g2,he,g3⟩:=h
 dsimp only at g1 g2 g3 he;subst g1 g2 g3;dsimp only
 have hx:=he.x
 refine RS.br rfl (fun _=>?_) (fun _=>RS.ok ⟨rfl,rfl,hx.sub hx.s⟩)
 refine RS.el fun x x' _ _ hy hy'=>?_
 rw[hy] at hy';cases hy'
 refine RS.gd fun _ _=>RS.gd fun _ _=>RS.br rfl (fun _=>?_) (fun _=>?_)
 ·exact RS.gd fun _ _=>RS.gd fun _ _=>hn _ _ ⟨rfl,rfl,hx.sub (hx.s.snoc .leaf),rfl⟩
 ·refine RS.bind ih.g.code fun z z' hz=>?_
  refine RS.GD (fun _=>xA) (fun h=>?_)
  have hz2:=hz (by simpa using h)
  exact RS.G9 (fun h=>by rw[hz2.1] at h;cases h) (fun _=>RS.gd fun _ _=>RS.gd fun _ _=>hn _ _ ⟨rfl,rfl,hx.sub (hx.s.snoc hz2.2),rfl⟩)
theorem Fc {k':Bool} (ih:GL n) (hC:C.kW) (h0:0≤a) {e:aj}:RS NZ (fun r r'=>Rk C k k' a r.1 r'.1∧EE r.2.2 r'.2.2) (cu n true (aY C.s C.T a C.b k none) j e) (cu n true (aY C.s' C.T' (a+C.κ) C.b' k' none) j e):=by
 cases n with
 | zero=>exact RS.nil
 | succ n=>
  show RS NZ _ (c8 n (ai n) true _ j e) (c8 n (ai n) true _ j e)
  unfold c8
  dsimp only
  refine RS.bind (W:=fun r r'=>Rk C true true a r.2.2 r'.2.2∧EE r.2.1 r'.2.1) ?_ fun r r' h=>?_
  ·cases n with
   | zero=>exact RS.nil
   | succ n=>
    show RS NZ _ (dj n (ai n) j e _) (dj n (ai n) j e _)
    unfold dj
    refine jP (ih.dn.dn.g.expr hC h0 .none) fun x x' a2 h2 hx=>?_
    dsimp only
    exact mD hC fun a3 t h3 h4 h5=>RS.ok ⟨⟨a3,t,rfl,rfl,by omega,h4,h5⟩,hx⟩
  ·obtain ⟨x,e1,p⟩:=r
   obtain ⟨x',e1',p'⟩:=r'
   obtain ⟨⟨a3,t,g1,g2,h3⟩,he⟩:=h
   dsimp only at g1 g2 he;subst g1 g2
   exact RS.ok ⟨⟨a3,t,rfl,rfl,h3⟩,he⟩
theorem BB (ih:GL n) (hC:C.kW) (h0:0≤a):RN (VE C k a) C k a (bM (n+1) j) (bM (n+1) j):=by
 unfold RN
 show RS NZ _ (cK n (ai n) j _) (cK n (ai n) j _)
 unfold cK
 refine js hC fun a2 t h2 _ _=>Bt (P:=fun x x':Bool×aj=>EE x.2 x'.2) (Fc ih hC (by omega)) fun x x' a3 t3 h3 _ _ he=>?_
 dsimp only
 exact RS.gd fun _ _=>RS.ok ⟨.mk' (by omega) nx,he⟩
theorem Fe {k':Bool} (ih:GL n) (hC:C.kW) (h0:0≤a) (hB:Ej C a):RS NZ (fun r r'=>Rk C k k' a r.1 r'.1∧LR DD r.2.2.1 r'.2.2.1∧r'.2.2.2=r.2.2.2) (cS n false (aY C.s C.T a C.b k none) j [] []) (cS n false (aY C.s' C.T' (a+C.κ) C.b' k' none) j [] []):=by
 cases n with
 | zero=>exact RS.nil
 | succ n=>
  show RS NZ _ (dV n (ai n) false _ j [] []) (dV n (ai n) false _ j [] [])
  unfold dV
  dsimp only
  refine RS.bind (W:=fun r r'=>Rk C false false a r.2.2.2 r'.2.2.2∧LR DD r.2.1 r'.2.1∧r'.2.2.1=r.2.2.1) ?_ fun r r' h=>?_
  ·cases n with
   | zero=>exact RS.nil
   | succ n=>
    show RS NZ _ (eC n (ai n) j [] [] _) (eC n (ai n) j [] [] _)
    unfold eC
    refine RS.vq (ih.dn.dn.g.decls hC h0 hB) (fun c hz x e=>?_) fun r r' h=>?_
    ·obtain ⟨l,tl,p⟩:=c
     obtain ⟨ps,pT,pa,pb,pk,pq⟩:=p
     obtain ⟨h0,hT,u,hu,hk⟩:=hz
     dsimp only at h0 hT hu
     subst hT
     exact Bz (.of h0 hu (.inl hk)) x e
    obtain ⟨x,e1,p⟩:=r
    obtain ⟨x',e1',p'⟩:=r'
    obtain ⟨⟨a3,g1,g2,h3⟩,hl,ht⟩:=h
    dsimp only at g1 g2 hl ht;subst g1 g2 ht
    dsimp only
    exact mD hC fun a4 t h4 h5 h6=>RS.ok ⟨⟨a4,t,rfl,rfl,by omega,h5,h6⟩,hl,rfl⟩
  ·obtain ⟨x,e1,tl,p⟩:=r
   obtain ⟨x',e1',tl',p'⟩:=r'
   obtain ⟨⟨a3,t,g1,g2,h3⟩,hl,ht⟩:=h
   dsimp only at g1 g2 hl ht;subst g1 g2 ht
   exact RS.ok ⟨⟨a3,t,rfl,rfl,h3⟩,hl,rfl⟩
theorem Da (ih:GL n) (hC:C.kW) (h0:0≤a):RN (VB C k a) C k a (ca (n+1) j) (ca (n+1) j):=by
 unfold RN
 show RS NZ _ (dw n (ai n) j _) (dw n (ai n) j _)
 unfold dw
 refine js hC fun a2 t h2 ht hk=>Bt (P:=fun x x':Bool×List o×List (List UInt8)=>LR DD x.2.1 x'.2.1∧x'.2.2=x.2.2) (Fe ih hC (by omega) (.of (by omega) ht hk)) fun x x' a3 t3 h3 _ _ he=>?_
 dsimp only
 exact RS.gd fun _ _=>RS.ok ⟨.mk' (by omega) nx,he.1,he.2⟩
theorem BC (ih:GL n) (hC:C.kW) (h0:0≤a):RN (VE C k a) C k a (ck (n+1) j) (ck (n+1) j):=by
 unfold RN
 show RS NZ _ (di n (ai n) j _) (di n (ai n) j _)
 unfold di
 refine lz hC fun a2 v v' h2 _=>?_
 dsimp only
 refine RS.jn (fun e e'=>EE e e') (fun e e' he=>?_) (fun j0 j0' hj=>?_)
 ·have hx:=he.x
  refine RS.bind (ih.g.block hC (by omega)) fun r r' h=>?_
  obtain ⟨x,e1,p⟩:=r
  obtain ⟨x',e1',p'⟩:=r'
  obtain ⟨⟨a3,g1,g2,h3⟩,hl,ht⟩:=h
  dsimp only at g1 g2 hl ht;subst g1 g2 ht
  dsimp only
  rw[hx.k,hx.t,hx.n,hx.a,hx.b]
  exact RS.ok ⟨.mk (by omega),EE.of .nil hl⟩
 ·exact RS.br rfl (fun _=>hj _ _ .leaf) (fun _=>hj _ _ .leaf)
theorem Ff {k':Bool} (ih:GL n) (hC:C.kW) (h0:0≤a):RS NZ (fun r r'=>Rk C k k' a r.1 r'.1∧LR EE r.2 r'.2) (cU n true (aY C.s C.T a C.b k none) []) (cU n true (aY C.s' C.T' (a+C.κ) C.b' k' none) []):=by
 cases n with
 | zero=>exact RS.nil
 | succ n=>
  show RS NZ _ (dY n (ai n) true _ []) (dY n (ai n) true _ [])
  unfold dY
  dsimp only
  refine RS.bind (W:=fun r r'=>Rk C true true a r.2 r'.2∧LR EE r.1 r'.1) ?_ fun r r' h=>?tail
  case tail=>
   obtain ⟨x,p⟩:=r
   obtain ⟨x',p'⟩:=r'
   obtain ⟨⟨a3,t,g1,g2,h3⟩,he⟩:=h
   dsimp only at g1 g2 he;subst g1 g2
   exact RS.ok ⟨⟨a3,t,rfl,rfl,h3⟩,he⟩
  cases n with
  | zero=>exact RS.nil
  | succ n=>
   show RS NZ _ (eO n (ai n) [] _) (eO n (ai n) [] _)
   unfold eO
   refine fZ hC fun a3 t t' h3 ht hs _=>?_
   dsimp only
   by_cases hk0:t.Kind=0
   ·rw[nA (t:=t) (by omega)]
    exact RS.yC (gZ.bind fun c e=>by
     cases e
     exact gZ.br (fun _=>gZ.mY ((vJ _).expr (.of (by omega) ht (.inl hk0)))) (fun h=>by cases h))
   have hs:=hs.s hk0
   rw[show bJ t' [41]=bJ t [41] by unfold bJ;rw[hs.1,hs.2]]
   refine RS.same fun r _=>RS.br rfl (fun _=>?_) (fun _=>mD hC fun a4 t h4 g g'=>RS.ok ⟨⟨a4,t,rfl,rfl,by omega,g,g'⟩,.nil⟩)
   refine jP (ih.dn.dn.g.expr hC (by omega) .none) fun x x' a2 h2 hx=>?_
   dsimp only
   refine RS.gd fun _ _=>RS.iter (fun (v w:List aj×L)=>Rl C true a v.2 w.2∧LR EE v.1 w.1) (fun v w h next next' hn=>?_) _ _ ⟨.mk (by omega),.one hx⟩
   obtain ⟨l,p⟩:=v
   obtain ⟨l',p'⟩:=w
   obtain ⟨⟨a6,g1,g2,h6⟩,hl⟩:=h
   dsimp only at g1 g2 hl;subst g1 g2;dsimp only
   refine kx hC (fun a7 t h7 _ _=>?_) (fun a7 h7=>?_)
   ·dsimp only
    refine RS.br rfl (fun _=>jP (ih.dn.dn.g.expr hC (by omega) .none) fun e e' a8 h8 he8=>?_) (fun h=>by cases h)
    dsimp only
    exact RS.gd fun _ _=>hn _ _ ⟨.mk (by omega),hl.snoc he8⟩
   ·exact RS.br rfl (fun h=>by cases h) (fun _=>mD hC fun a8 t h8 g g'=>RS.ok ⟨⟨a8,t,rfl,rfl,by omega,g,g'⟩,hl⟩)
theorem Ez (ih:GL n) (hC:C.kW) (h0:0≤a):RN (VL C k a) C k a (cL (n+1)) (cL (n+1)):=by
 unfold RN
 show RS NZ _ (dF n (ai n) _) (dF n (ai n) _)
 unfold dF
 refine js hC fun a2 t h2 _ _=>Bt (Ff ih hC (by omega)) fun x x' a3 t3 h3 _ _ he=>?_
 dsimp only
 exact RS.gd fun _ _=>RS.ok ⟨.mk' (by omega) nx,he⟩
theorem EA (ih:GL n) (hC:C.kW) (h0:0≤a):RN (VE C k a) C k a (de (n+1)) (de (n+1)):=by
 unfold RN
 show RS NZ _ (fy n (ai n) _) (fy n (ai n) _)
 unfold fy
 refine lz hC fun a2 v v' h2 _=>?_
 dsimp only
 refine fZ hC fun a3 t t' h3 _ hs _=>?_
 dsimp only
 refine ql hs fun r=>RS.br rfl (fun _=>?_) (fun _=>?_)
 ·exact jP (ih.g.expr hC (by omega) .none) fun e e' a8 h8 he8=>RS.ok ⟨.mk (by omega),he8⟩
 refine qm hC fun a4 h4=>yW hC fun a5 nm h5=>?_
 dsimp only
 refine qm hC fun a6 h6=>jP (ih.g.expr hC (by omega) .none) fun e e' a7 h7 he7=>?_
 dsimp only
 refine RS.gd fun _ _=>RS.jn (fun v w=>Rl C k a v.1 w.1∧EE v.2 w.2) (fun v w h=>?_) (fun j1 j1' hj=>?_)
 ·obtain ⟨p,e⟩:=v
  obtain ⟨p',e'⟩:=w
  obtain ⟨⟨a8,g1,g2,h8⟩,he⟩:=h
  dsimp only at g1 g2 he;subst g1 g2;dsimp only
  have hx:=he.x
  refine js hC fun a9 t h9 _ _=>jP (ih.g.expr hC (by omega) .none) fun x x' yX h10 hx10=>?_
  dsimp only
  exact RS.gd fun _ _=>RS.ok ⟨.mk (by omega),hx.sub (hx.s.snoc hx10)⟩
 ·refine fZ hC fun a8 t t' h8 _ hs _=>?_
  dsimp only
  refine ql hs fun r=>RS.br rfl (fun _=>?_) (fun _=>hj _ _ ⟨.mk (by omega),.sub (.one he7)⟩)
  refine qm hC fun a9 h9=>jP (ih.g.expr hC (by omega) .none) fun x x' yX h10 hx10=>?_
  dsimp only
  exact RS.gd fun _ _=>hj _ _ ⟨.mk (by omega),.sub (.two he7 hx10)⟩
theorem Fg {k':Bool} (ih:GL n) (hC:C.kW) (h0:0≤a) {e e':aj} (he:EE e e'):RS NZ (fun r r'=>Rk C k k' a r.1 r'.1∧EE r.2 r'.2) (cT n true (aY C.s C.T a C.b k none) e) (cT n true (aY C.s' C.T' (a+C.κ) C.b' k' none) e'):=by
 cases n with
 | zero=>exact RS.nil
 | succ n=>
  show RS NZ _ (dX n (ai n) true _ e) (dX n (ai n) true _ e')
  unfold dX
  dsimp only
  refine RS.bind (W:=fun r r'=>Rk C true true a r.2 r'.2∧EE r.1 r'.1) ?_ fun r r' h=>?tail
  case tail=>
   obtain ⟨x,p⟩:=r
   obtain ⟨x',p'⟩:=r'
   obtain ⟨⟨a3,t,g1,g2,h3⟩,he⟩:=h
   dsimp only at g1 g2 he;subst g1 g2
   exact RS.ok ⟨⟨a3,t,rfl,rfl,h3⟩,he⟩
  cases n with
  | zero=>exact RS.nil
  | succ n=>
   show RS NZ _ (eQ n (ai n) e _) (eQ n (ai n) e' _)
   unfold eQ
   refine RS.iter (fun (v w:aj×L×Bool)=>Rl C true a v.2.1 w.2.1∧EE v.1 w.1∧w.2.2=v.2.2) (fun v w h next next' hn=>?_) _ _ ⟨.mk (by omega),he,rfl⟩
   obtain ⟨e,p,f⟩:=v
   obtain ⟨e',p',f'⟩:=w
   obtain ⟨⟨a6,g1,g2,h6⟩,he,g3⟩:=h
   dsimp only at g1 g2 g3 he;subst g1 g2 g3;dsimp only
   have hx:=he.x
   rw[hx.k,hx.t,hx.n,hx.a,hx.b,hx.tl]
   refine fZ hC fun a7 t t' h7 _ hs _=>?_
   dsimp only
   refine ka hs fun r _=>RS.br rfl (fun _=>?_) (fun _=>mD hC fun a8 t h8 g g'=>RS.ok ⟨⟨a8,t,rfl,rfl,by omega,g,g'⟩,he⟩)
   refine RS.jn (fun v w=>∃ a8,v=(aY C.s C.T a8 C.b true none)∧w=(aY C.s' C.T' (a8+C.κ) C.b' true none)∧a≤a8) (fun v w h=>?_) (fun j0 j0' hj=>?_)
   ·obtain ⟨a8,rfl,rfl,h8⟩:=h
    refine lz hC fun a9 v v' h9 _=>?_
    dsimp only
    refine kx hC (fun yX t h10 _ _=>?_) (fun yX h10=>?_)
    ·dsimp only
     refine RS.br rfl (fun _=>?_) (fun h=>by cases h)
     refine RS.jn (fun v w=>Rl C true a v.1 w.1∧EE v.2 w.2) (fun v w h=>?_) (fun j1 j1' hj=>?_)
     ·obtain ⟨p,x⟩:=v
      obtain ⟨p',x'⟩:=w
      obtain ⟨⟨a11,g1,g2,h11⟩,hx11⟩:=h
      dsimp only at g1 g2 hx11;subst g1 g2;dsimp only
      exact RS.gd fun _ _=>mD hC fun a12 t h12 g g'=>RS.ok ⟨⟨a12,t,rfl,rfl,by omega,g,g'⟩,.of (hx.s.snoc hx11) hx.d⟩
     ·refine fZ hC fun a11 t t' h11 _ hs _=>?_
      dsimp only
      refine ka hs fun r _=>RS.br rfl (fun _=>?_) (fun _=>hj _ _ ⟨.mk (by omega),.leaf⟩)
      exact jP (ih.dn.dn.g.expr hC (by omega) .none) fun x x' a12 h12 hx12=>hj _ _ ⟨.mk (by omega),hx12⟩
    ·dsimp only
     refine RS.br rfl (fun h=>by cases h) (fun _=>jP (ih.dn.dn.g.item hC (by omega)) fun x x' a12 h12 hx12=>?_)
     dsimp only
     exact RS.gd fun _ _=>hn _ _ ⟨.mk (by omega),.of (hx.s.snoc hx12) hx.d,rfl⟩
   ·refine RS.br rfl (fun _=>?_) (fun _=>hj _ _ ⟨a7,rfl,rfl,by omega⟩)
    exact js hC fun a8 t h8 _ _=>hj _ _ ⟨a8,rfl,rfl,by omega⟩
theorem EB (ih:GL n) (hC:C.kW) (h0:0≤a):RN (VE C k a) C k a (cM (n+1)) (cM (n+1)):=by
 unfold RN
 show RS NZ _ (dG n (ai n) _) (dG n (ai n) _)
 unfold dG
 refine lz hC fun a1 v v' h1 _=>?_
 dsimp only
 refine js hC fun a2 t h2 _ _=>Bt (Fg ih hC (by omega) .leaf) fun x x' a3 t3 h3 _ _ he=>?_
 dsimp only
 exact RS.gd fun _ _=>RS.ok ⟨.mk' (by omega) nx,he⟩
theorem EC (ih:GL n) (hC:C.kW) (h0:0≤a):RH (VE C k a) C k a (bS (n+1) j) (bS (n+1) j):=by
 intro q q' hq
 show RS NZ _ (b1 n (ai n) j _) (b1 n (ai n) j _)
 unfold b1
 dsimp only
 rcases hq with ⟨rfl,rfl⟩|⟨e,e',rfl,rfl,he⟩
 ·refine RS.br rfl (fun h=>by cases h) (fun _=>?_)
  refine fZ hC fun a2 t t' h2 ht hs hh=>?_
  dsimp only
  by_cases hk0:t.Kind=0
  ·refine RS.yC (gZ.bind fun c e=>?_)
   obtain ⟨v,rfl⟩:=qo (.of (by omega) ht (.inl hk0)) c e
   dsimp only
   rw[hk0]
   refine gZ.jn ?_
   rw[nA (by omega),nA (by omega),nA (by omega),nA (by omega),nA (by omega)]
   exact kv
  have hsT:=hs
  have hs:=hs.s hk0
  refine lz hC fun a5 v v' h5 e5=>?_
  have e5:=e5 t ht hh.1
  subst e5
  dsimp only
  refine RS.jn (fun v w=>Rl C k a5 v.1 w.1∧EE v.2 w.2) (fun v w h=>?_) (fun j0 j0' hj=>?_)
  ·obtain ⟨p,e⟩:=v
   obtain ⟨p',e'⟩:=w
   obtain ⟨⟨a6,g1,g2,h6⟩,he⟩:=h
   dsimp only at g1 g2 he;subst g1 g2;dsimp only
   exact RS.gd fun _ _=>RS.ok ⟨.mk' (by omega) nx,he⟩
  ·rw[hs.1,hs.2]
   have hp:=fun {F:L→D (aj×L)} (h:RN (VE C k a5) C k a5 F F)=>(jP (Z:=NZ) (V:=VE C k a) (K:=.ok) (K':=.ok) h fun e e' a8 h8 he8=>RS.ok ⟨.mk (by omega),he8⟩)
   refine RS.br rfl (fun h=>hp (ih.g.named hC (by omega) ht (by simpa using h))) (fun _=>?_)
   refine RS.br rfl (fun _=>RS.same fun y _=>hj _ _ ⟨.mk (by omega),.leaf⟩) (fun _=>?_)
   refine RS.br rfl (fun _=>hj _ _ ⟨.mk (by omega),.leaf⟩) (fun _=>?_)
   refine RS.br rfl (fun _=>?_) (fun _=>?_)
   ·refine RS.bind (ih.g.tX hs.2) fun r r' h=>?_
    rw[h.1,h.2.1]
    exact hj _ _ ⟨.mk (by omega),h.2.2⟩
   refine ka hsT fun r _=>RS.br rfl (fun _=>hj _ _ ⟨.mk (by omega),.leaf⟩) (fun _=>?_)
   refine ka hsT fun r _=>RS.br rfl (fun _=>hj _ _ ⟨.mk (by omega),.leaf⟩) (fun _=>?_)
   refine ka hsT fun r _=>RS.br rfl (fun _=>hp (ih.g.parens hC (by omega))) (fun _=>?_)
   refine ka hsT fun r _=>RS.br rfl (fun _=>hp (ih.g.rM hC (by omega))) (fun _=>?_)
   refine ka hsT fun r _=>RS.br rfl (fun _=>hp (ih.g.list hC (by omega))) (fun _=>gr)
 ·exact RS.br rfl (fun _=>RS.some fun x x' h h'=>by cases h;cases h';exact RS.ok ⟨.mk (by omega),he⟩) (fun h=>by cases h)
end
end Go.Abs
end
