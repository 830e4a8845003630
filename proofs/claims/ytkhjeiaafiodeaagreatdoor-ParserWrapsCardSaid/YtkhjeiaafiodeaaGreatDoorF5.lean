/- PROVED: lemmas of the proof of: configlanglaw26.ParserWraps returns true for every input. CONDITIONS: as each lemma states. (Put together by a program of my own out of my own texts.) -/
import Derived.Test.YtkhjeiaafiodeaaGreatDoorF4
section
namespace Go.Abs
open Go.Proofs aq
def gw (p0:al):aq (Int×al):=
 br p0.vL (.ok (11,p0)) (br p0.deep (.ok (9,p0)) (.ok (0,p0)))
theorem lg (p0:al):CT Tryz.prog 65 [.ptr 0 0] [.box (aG p0)] (gw p0) (fun x=>I x.1) (fun x=>[.box (aG x.2)]):=by
 refine zC Tryz.func65 rfl fun r hp h hr E hE=>ag fun _ hK1=>aa (za rfl (zQ hK1 (ag fun _ hK2=>aC (ag fun _ hK3=>aa (zm rfl (zn rfl (zf rfl (zl rfl (za rfl (zQ hK3 (zB rfl h (fun _ h=>?_) fun _ h=>?_)))))))))))
 · exact ag fun _ hK5=>aa (za rfl (zQ hK5 (aw (zX (.cons (ay rfl) .nil) h rfl))))
 · refine ag fun _ hK6=>aa (zm rfl (zn rfl (zf rfl (zl rfl (za rfl (zQ hK6 (zB rfl h (fun _ h=>?_) fun _ h=>?_)))))))
   · exact ag fun _ hK8=>aa (za rfl (zQ hK8 (aw (zX (.cons (ay rfl) .nil) h rfl))))
   · exact ar (hK2 _ _ (ag fun _ hK9=>aa (za rfl (zQ hK9 (aw (zX (.cons (ay rfl) .nil) h rfl))))))
def lh (n:Nat) (p0:(List Bool)) (p1:Bool):aq (Int):=
 iter (fun next5 (v4:Int)=>br (decide (v4<(List.length p0:Int))) (el p0 v4 fun xZ=>br (p1==xZ) (.ok (v4)) (gd (bA (v4+1)) (next5 (v4+1)))) (.ok ((-1)))) n (0)
theorem rF (n:Nat) (p0:(List Bool)) (p1:Bool):CT Tryz.prog 160 [.pv (.sl (List.length p0) (uC p0)),Bo p1] [] (lh n p0 p1) (fun x=>I x) (fun _=>[]):=by
 refine zC Tryz.func160 rfl fun r hp h hr E hE=>ag fun _ hK1=>aa (za rfl (zQ hK1 (ag fun _ hK2=>ag fun _ hK3=>aa (zm rfl (an (cg rfl) rfl (zm rfl (zQ hK3 (aC (zL hr h (fun (v4:Int)=>[(0,.pv (.sl (List.length p0) (uC p0))),(1,Bo p1),(7,I (List.length p0:Int)),(8,I v4)]) (fun (v4:Int)=>[]) rfl fun _ v4 _ hK6 h=>ag fun _ hK7=>aa (zc rfl (zQ hK7 (ag fun _ hK8=>zB rfl h (fun _ h=>?_) fun _ h=>?_))))))))))))
 · refine ar (hK8 _ _ (ag fun _ hK10=>aC (ag fun _ hK11=>aa (zm rfl (za rfl (zQ hK11 (ag fun _ hK12=>aa (zm rfl (zm rfl (zm rfl (ze hr h fun xZ h14 h15 h16 h=>an (gx bu Ai h14 h15 h16 rfl rfl rfl) rfl (an (fO rfl rfl) rfl (an (E0 rfl rfl) rfl (zQ hK12 (zB rfl h (fun _ h=>?_) fun _ h=>?_)))))))))))))))
   · exact ag fun _ hK18=>aa (zm rfl (za rfl (zQ hK18 (aw (zX (.cons (ay rfl) .nil) h rfl)))))
   · exact ar (hK10 _ _ (aa (zd hr h fun hg19 h=>zo hg19 rfl (zm rfl (ao (hK6 _ _ _ h rfl))))))
 · exact bp (hK2 _ _ (ag fun _ hK20=>aa (za rfl (zQ hK20 (aw (zX (.cons (ay rfl) .nil) h rfl))))))
def iy (n:Nat) (p0:(List Bool)) (p1:Bool):aq (Bool):=
 aq.bind (lh n p0 p1) fun y3=>.ok ((decide (y3≥0)))
theorem pN (n:Nat) (p0:(List Bool)) (p1:Bool):CT Tryz.prog 108 [.pv (.sl (List.length p0) (uC p0)),Bo p1] [] (iy n p0 p1) (fun x=>Bo x) (fun _=>[]):=by
 exact zC Tryz.func108 rfl fun r hp h hr E hE=>ag fun _ hK1=>aa (za rfl (zQ hK1 (ag fun _ hK2=>aa (zm rfl (zm rfl (zk hp hr h [] Tryz.call160 (rF n p0 p1) rfl (fun _=>rfl) fun y3 h=>zc rfl (za rfl (zQ hK2 (aw (zX (.cons (ay rfl) .nil) h rfl))))))))))
def aA (n:Nat) (p0:(List Bool)) (p1:al):aq (al):=
 br p1.vL (.ok ((al.mk true p1.deep))) (aq.bind (iy n p0 false) fun y2=>.ok ((al.mk y2 p1.deep)))
theorem az (n:Nat) (p0:(List Bool)) (p1:al):CT Tryz.prog 61 [.ptr 0 0,.pv (.sl (List.length p0) (uC p0))] [.box (aG p1)] (aA n p0 p1) (fun _=>.fH []) (fun x=>[.box (aG x)]):=by
 refine zC Tryz.func61 rfl fun r hp h hr E hE=>aa (zm rfl (zm rfl (zn rfl (zf rfl (zl rfl (zm rfl (zb p1.vL (fun hb1=>?_) fun hb1=>?_)))))))
 · exact z1 hb1 h fun h=>zg hb1 rfl (zg hb1 rfl (zy hb1 rfl (zn rfl (zf rfl (zs rfl (ao (zY .nil h rfl)))))))
 · exact z2 hb1 h fun h=>zG hb1 rfl (au rfl) (zK hb1 rfl hp hr h [] Tryz.call108 (pN n p0 false) rfl (fun _=>rfl) fun y2 h=>zw hb1 rfl (zn rfl (zf rfl (zs rfl (ao (zY .nil h rfl))))))
def kA (n:Nat) (p0:fY):aq (Bool):=
 aq.bind (fC n p0.x0) fun y3=>br y3 (aq.bind (fC n p0.x1) fun y5=>br y5 (.ok ((p0.x0 !=p0.x1))) (.ok (false))) (.ok (false))
theorem qb (n:Nat) (p0:fY):CT Tryz.prog 164 [.agg [aY p0.x0,aY p0.x1]] [] (kA n p0) (fun x=>Bo x) (fun _=>[]):=by
 refine zC Tryz.func164 rfl fun r hp h hr E hE=>ag fun _ hK1=>aa (dP 101 (hE _ rfl) ⟨rfl,rfl,rfl,rfl,rfl,rfl,rfl⟩ rfl ?_)
 refine za rfl (zQ hK1 (ag fun _ hK2=>aa (an (ig rfl rfl (by decide) (by decide)) rfl (zl rfl (zk hp hr h [] Tryz.call62 (fL n p0.x0) rfl (fun _=>rfl) fun y3 h=>zm rfl (zb y3 (fun hb4=>?_) fun hb4=>?_))))))
 · refine z1 hb4 h fun h=>zG hb4 rfl (ig rfl rfl (by decide) (by decide)) (zG hb4 rfl (ba rfl rfl rfl) (zK hb4 rfl hp hr h [] Tryz.call62 (fL n p0.x1) rfl (fun _=>rfl) fun y5 h=>zy hb4 rfl (zm rfl (zb y5 (fun hb6=>?_) fun hb6=>?_))))
   · exact z1 hb6 h fun h=>zG hb6 rfl (ig rfl rfl (by decide) (by decide)) (zG hb6 rfl (ba rfl rfl rfl) (zG hb6 rfl (ig rfl rfl (by decide) (by decide)) (zG hb6 rfl (ba rfl rfl rfl) (zG hb6 rfl (tp rfl rfl) (zy hb6 rfl (za rfl (zQ hK2 (aw (zX (.cons (ay rfl) .nil) h rfl)))))))))
   · exact z2 hb6 h fun h=>zg hb6 rfl (zg hb6 rfl (zg hb6 rfl (zg hb6 rfl (zg hb6 rfl (zw hb6 rfl (za rfl (zQ hK2 (aw (zX (.cons (ay rfl) .nil) h rfl)))))))))
 · exact z2 hb4 h fun h=>zg hb4 rfl (zg hb4 rfl (zg hb4 rfl (zw hb4 rfl (zm rfl (zg rfl rfl (zg rfl rfl (zg rfl rfl (zg rfl rfl (zg rfl rfl (an (dv rfl rfl) rfl (za rfl (zQ hK2 (aw (zX (.cons (ay rfl) .nil) h rfl))))))))))))))
def nI (p0:(List UInt8)):aq (Bool):=
 aq.bind (strings_Contains p0 ([10]:List UInt8)) fun y3=>.ok (y3)
theorem s7 (p0:(List UInt8)):CT Tryz.prog 112 [aY p0] [] (nI p0) (fun x=>Bo x) (fun _=>[]):=by
 exact zC Tryz.func112 rfl fun r hp h hr E hE=>ag fun _ hK1=>aa (za rfl (zQ hK1 (ag fun _ hK2=>aa (zm rfl (zk hp hr h [] Tryz.call94 (jl p0 ([10]:List UInt8)) rfl (fun _=>rfl) fun y3 h=>za rfl (zQ hK2 (aw (zX (.cons (ay rfl) .nil) h rfl))))))))
def iY (n:Nat) (p0:(List (List UInt8))):aq (Int):=
 iter (fun next5 (v4:Int)=>br (decide (v4<(List.length p0:Int))) (el p0 v4 fun xZ=>aq.bind (nI xZ) fun y17=>br y17 (.ok (v4)) (gd (bA (v4+1)) (next5 (v4+1)))) (.ok ((-1)))) n (0)
theorem nR (n:Nat) (p0:(List (List UInt8))):CT Tryz.prog 162 [.pv (.sl (List.length p0) (bX p0)),.fn 112 [] []] [] (iY n p0) (fun x=>I x) (fun _=>[]):=by
 refine zC Tryz.func162 rfl fun r hp h hr E hE=>ag fun _ hK1=>aa (za rfl (zQ hK1 (ag fun _ hK2=>ag fun _ hK3=>aa (zm rfl (an (cg rfl) rfl (zm rfl (zQ hK3 (aC (zL hr h (fun (v4:Int)=>[(0,.pv (.sl (List.length p0) (bX p0))),(1,.fn 112 [] []),(7,I (List.length p0:Int)),(8,I v4)]) (fun (v4:Int)=>[]) rfl fun _ v4 _ hK6 h=>ag fun _ hK7=>aa (zc rfl (zQ hK7 (ag fun _ hK8=>zB rfl h (fun _ h=>?_) fun _ h=>?_))))))))))))
 · refine ar (hK8 _ _ (ag fun _ hK10=>aC (ag fun _ hK11=>aa (zm rfl (za rfl (zQ hK11 (ag fun _ hK12=>aa (zm rfl (zm rfl (zm rfl (ze hr h fun xZ h14 h15 h16 h=>an (gx eX gI h14 h15 h16 rfl rfl rfl) rfl (an (fO rfl rfl) rfl (zk hp hr h [] Tryz.call112 (s7 xZ) rfl (fun _=>rfl) fun y17 h=>zQ hK12 (zB rfl h (fun _ h=>?_) fun _ h=>?_))))))))))))))
   · exact ag fun _ hK19=>aa (zm rfl (za rfl (zQ hK19 (aw (zX (.cons (ay rfl) .nil) h rfl)))))
   · exact ar (hK10 _ _ (aa (zd hr h fun hg20 h=>zo hg20 rfl (zm rfl (ao (hK6 _ _ _ h rfl))))))
 · exact bp (hK2 _ _ (ag fun _ hK21=>aa (za rfl (zQ hK21 (aw (zX (.cons (ay rfl) .nil) h rfl))))))
def gY (n:Nat) (p0:(List (List UInt8))):aq (Bool):=
 aq.bind (iY n p0) fun y3=>.ok ((decide (y3≥0)))
theorem mG (n:Nat) (p0:(List (List UInt8))):CT Tryz.prog 111 [.pv (.sl (List.length p0) (bX p0)),.fn 112 [] []] [] (gY n p0) (fun x=>Bo x) (fun _=>[]):=by
 exact zC Tryz.func111 rfl fun r hp h hr E hE=>ag fun _ hK1=>aa (za rfl (zQ hK1 (ag fun _ hK2=>aa (zm rfl (zm rfl (zk hp hr h [] Tryz.call162 (nR n p0) rfl (fun _=>rfl) fun y3 h=>zc rfl (za rfl (zQ hK2 (aw (zX (.cons (ay rfl) .nil) h rfl))))))))))
def gp (n:Nat) (p0:(List (List UInt8))):aq (Bool):=
 aq.bind (gY n p0) fun y3=>.ok ((!y3))
theorem gZ (n:Nat) (p0:(List (List UInt8))):CT Tryz.prog 63 [.pv (.sl (List.length p0) (bX p0))] [] (gp n p0) (fun x=>Bo x) (fun _=>[]):=by
 exact zC Tryz.func63 rfl fun r hp h hr E hE=>ag fun _ hK1=>aa (za rfl (zQ hK1 (ag fun _ hK2=>aa (zm rfl (zk hp hr h [] Tryz.call111 (mG n p0) rfl (fun _=>rfl) fun y3 h=>an (eG rfl) rfl (za rfl (zQ hK2 (aw (zX (.cons (ay rfl) .nil) h rfl)))))))))
def mi (p0:fY):aq (Bool):=
 .ok (((p0.x0==[])&&(p0.x1==[])))
theorem oC (p0:fY):CT Tryz.prog 165 [.agg [aY p0.x0,aY p0.x1]] [] (mi p0) (fun x=>Bo x) (fun _=>[]):=by
 refine zC Tryz.func165 rfl fun r hp h hr E hE=>ag fun _ hK1=>aa (dP 101 (hE _ rfl) ⟨rfl,rfl,rfl,rfl,rfl,rfl,rfl⟩ rfl ?_)
 refine za rfl (zQ hK1 (ag fun _ hK2=>aa (zA rfl ?_)))
 refine an (bE rfl rfl rfl) rfl ?_
 exact an (El rfl rfl) rfl (za rfl (zQ hK2 (aw (zX (.cons (ay rfl) .nil) h rfl))))
def gq (n:Nat) (p0:aj) (p1:al):aq (al):=
 aq.bind (fC n p0.Text) fun y3=>aq.bind (aA n [y3] p1) fun y4=>br (p0.bf==([]:List UInt8)) (aq.bind (mi (fY.mk p0.bf p0.bj)) fun y8=>aq.bind (aA n [y8,(p0.je==0),((List.length p0.aW:Int)==0)] y4) fun y9=>.ok (y9)) (br (p0.bf==([108,101,116]:List UInt8)) (aq.bind (aA n [((List.length p0.aW:Int)==1),(p0.bj==([]:List UInt8)),(decide (p0.je≥0))] y4) fun y12=>.ok (y12)) (jn (fun (v13:Bool)=>br v13 (aq.bind (aA n [((List.length p0.aW:Int)==0),(p0.bj==([]:List UInt8)),(decide (p0.je≥0))] y4) fun y17=>.ok (y17)) (aq.bind (aA n [false] y4) fun y18=>.ok (y18))) fun j14=>br (p0.bf==([102,105,101,108,100]:List UInt8)) (j14 ((p0.bf==([102,105,101,108,100]:List UInt8)))) (br (p0.bf==([108,111,111,112]:List UInt8)) (j14 ((p0.bf==([108,111,111,112]:List UInt8)))) (br (p0.bf==([112,97,99,107,97,103,101]:List UInt8)) (j14 ((p0.bf==([112,97,99,107,97,103,101]:List UInt8)))) (j14 ((p0.bf==([117,110,107,110,111,119,110]:List UInt8))))))))
theorem nJ (n:Nat) (p0:aj) (p1:al):CT Tryz.prog 177 [.ptr 0 0,.agg (aX p0)] [.box (aG p1)] (gq n p0 p1) (fun _=>.fH []) (fun x=>[.box (aG x)]):=by
 refine zC Tryz.func177 rfl fun r hp h hr E hE=>ag fun _ hK1=>aa (dP 103 (hE _ rfl) ⟨rfl,rfl,rfl,rfl,rfl,rfl,rfl⟩ rfl ?_)
 refine zQ hK1 (ag fun _ hK2=>aa (zm rfl (zf rfl (zl rfl (zk hp hr h [] Tryz.call62 (fL n p0.Text) rfl (fun _=>rfl) fun y3 h=>bR [y3] bu ⟨rfl,rfl⟩ rfl ?_)))))
 refine zk hp hr h [0] Tryz.call61 (az n [y3] p1) rfl (fun _=>rfl) fun y4 h=>zQ hK2 (ag fun _ hK5=>aa (zf rfl (an (ig rfl rfl (by decide) (by decide)) rfl (zl rfl (zQ hK5 (aC (ag fun _ hK6=>aa (an (iE rfl rfl) rfl (za rfl (zQ hK6 (zB rfl h (fun _ h=>?_) fun _ h=>?_)))))))))))
 · refine bz [0,1,2,4,5,6,7,8,9,10,3,11,12] rfl (by kernel_rfl) (zD rfl (au rfl) rfl (zD rfl (bD rfl) rfl (zD rfl (jy rfl rfl rfl rfl) rfl ?_)))
   refine zD rfl (bD rfl) rfl (zD rfl (eW [.any,.any,I p0.je,.any,.any,.any,.any,.any,.any] rfl rfl ⟨.inr rfl,.inr rfl,.inl rfl,.inr rfl,.inr rfl,.inr rfl,.inr rfl,.inr rfl,.inr rfl,trivial⟩ rfl) rfl (zD rfl (bg rfl rfl rfl) rfl (zD rfl (bD rfl) rfl (zD rfl (eW [.any,.any,.any,.any,.any,.pv (.sl (List.length p0.aW) (aj.Cs p0.aW)),.any,.any,.any] rfl rfl ⟨.inr rfl,.inr rfl,.inr rfl,.inr rfl,.inr rfl,.inl rfl,.inr rfl,.inr rfl,.inr rfl,trivial⟩ rfl) rfl (zD rfl (cg rfl) rfl (zD rfl (bg rfl rfl rfl) rfl (du rfl (bM rfl) hr h [] Tryz.call165 (oC (fY.mk p0.bf p0.bj)) ⟨rfl,rfl,rfl,rfl,rfl,rfl,trivial⟩ rfl rfl (fun _=>⟨rfl,rfl,rfl⟩) (fun _=>⟨rfl,rfl⟩) hp (fun y8 h=>⟨cC ⟨trivial,⟨trivial,⟨⟨⟨_,rfl,aZ.eR ⟨.inr rfl,.inr rfl,.inr rfl,.inr rfl,.inr rfl,.inl rfl,.inr rfl,.inr rfl,.inr rfl,trivial⟩⟩,trivial⟩,⟨trivial,⟨trivial,⟨⟨⟨_,rfl,aZ.eR ⟨.inr rfl,.inr rfl,.inl rfl,.inr rfl,.inr rfl,.inr rfl,.inr rfl,.inr rfl,.inr rfl,trivial⟩⟩,trivial⟩,⟨trivial,⟨trivial,⟨trivial,⟨trivial,trivial⟩⟩⟩⟩⟩⟩⟩⟩⟩⟩,?_⟩))))))))
   refine gU [y8,(p0.je==0),((List.length p0.aW:Int)==0)] bu rfl (bM rfl) ⟨rfl,rfl⟩ ⟨rfl,rfl⟩ ?_
   refine du rfl (bM rfl) hr h [0] Tryz.call61 (az n [y8,(p0.je==0),((List.length p0.aW:Int)==0)] y4) ⟨rfl,rfl,rfl,rfl,rfl,rfl,trivial⟩ rfl rfl (fun _=>⟨rfl,rfl,rfl⟩) (fun _=>⟨rfl,rfl⟩) hp (fun y9 h=>⟨aH rfl,?_⟩)
   exact cr (zY .nil h rfl)
 · refine ag fun _ hK10=>aa (an (iE rfl rfl) rfl (za rfl (zQ hK10 (zB rfl h (fun _ h=>?_) fun _ h=>?_))))
   · refine aa (zm rfl (zf rfl (zl rfl (an (cg rfl) rfl (zc rfl (zf rfl (an (ig rfl rfl (by decide) (by decide)) rfl (zl rfl (an (iE rfl rfl) rfl (zf rfl (zl rfl (zc rfl (bR [((List.length p0.aW:Int)==1),(p0.bj==([]:List UInt8)),(decide (p0.je≥0))] bu ⟨rfl,rfl⟩ rfl ?_)))))))))))))
     exact zk hp hr h [0] Tryz.call61 (az n [((List.length p0.aW:Int)==1),(p0.bj==([]:List UInt8)),(decide (p0.je≥0))] y4) rfl (fun _=>rfl) fun y12 h=>ao (zY .nil h rfl)
   · refine zM h (fun (v13:Bool)=>[(0,.ptr 0 0),(1,.agg (aX p0)),(3,.ptr 103 0),(47,Bo v13)]) (fun (v13:Bool)=>[(0,.box (aG y4)),(103,.box (aX p0))]) (fun v13 h=>?_) fun _ _ hK15 h=>?_
     · refine zB rfl h (fun _ h=>?_) fun _ h=>?_
       · refine aa (zm rfl (zf rfl (zl rfl (an (cg rfl) rfl (zc rfl (zf rfl (an (ig rfl rfl (by decide) (by decide)) rfl (zl rfl (an (iE rfl rfl) rfl (zf rfl (zl rfl (zc rfl (bR [((List.length p0.aW:Int)==0),(p0.bj==([]:List UInt8)),(decide (p0.je≥0))] bu ⟨rfl,rfl⟩ rfl ?_)))))))))))))
         exact zk hp hr h [0] Tryz.call61 (az n [((List.length p0.aW:Int)==0),(p0.bj==([]:List UInt8)),(decide (p0.je≥0))] y4) rfl (fun _=>rfl) fun y17 h=>ao (zY .nil h rfl)
       · refine aa (zm rfl (bR [false] bu ⟨rfl,rfl⟩ rfl ?_))
         exact zk hp hr h [0] Tryz.call61 (az n [false] y4) rfl (fun _=>rfl) fun y18 h=>ao (zY .nil h rfl)
     · refine ag fun _ hK19=>aa (an (iE rfl rfl) rfl (za rfl (zQ hK19 (zB rfl h (fun _ h=>?_) fun _ h=>?_))))
       · exact ar (hK15 _ _ _ h rfl)
       · refine ag fun _ hK21=>aa (an (iE rfl rfl) rfl (za rfl (zQ hK21 (zB rfl h (fun _ h=>?_) fun _ h=>?_))))
         · exact ar (hK15 _ _ _ h rfl)
         · refine ag fun _ hK23=>aa (an (iE rfl rfl) rfl (za rfl (zQ hK23 (zB rfl h (fun _ h=>?_) fun _ h=>?_))))
           · exact ar (hK15 _ _ _ h rfl)
           · exact aa (an (iE rfl rfl) rfl (za rfl (ao (hK15 _ _ _ h rfl))))
def iJ (n:Nat) (p0:aj) (p1:al):aq (al):=
 jn (fun (v4:Bool)=>br v4 (.ok (p1)) (br (p0.Kind==5) (aq.bind (aA n [(decide ((List.length p0.aW:Int)≥1))] p1) fun y10=>.ok (y10)) (jn (fun (v11:Bool)=>br v11 (aq.bind (aA n [((List.length p0.aW:Int)==1)] p1) fun y15=>.ok (y15)) (jn (fun (v16:Bool)=>br v16 (aq.bind (aA n [((List.length p0.aW:Int)==2)] p1) fun y20=>.ok (y20)) (br (p0.Kind==15) (br ((List.length p0.aW:Int)==2) (aq.bind (aA n [true] p1) fun y24=>.ok (y24)) (aq.bind (aA n [((List.length p0.aW:Int)==3)] p1) fun y25=>.ok (y25))) (br (p0.Kind==17) (aq.bind (aA n [(decide ((List.length p0.aW:Int)≥2))] p1) fun y28=>.ok (y28)) (br (p0.Kind==14) (aq.bind (aA n [(decide ((List.length p0.aW:Int)≥(Bd .i64 p0.je 1)))] p1) fun y31=>.ok (y31)) (aq.bind (aA n [((List.length p0.aW:Int)==0)] p1) fun y32=>.ok (y32)))))) fun j17=>br (p0.Kind==12) (j17 ((p0.Kind==12))) (br (p0.Kind==16) (j17 ((p0.Kind==16))) (j17 ((p0.Kind==20)))))) fun j12=>br (p0.Kind==9) (j12 ((p0.Kind==9))) (br (p0.Kind==11) (j12 ((p0.Kind==11))) (br (p0.Kind==18) (j12 ((p0.Kind==18))) (j12 ((p0.Kind==19)))))))) fun j5=>br (p0.Kind==10) (j5 ((p0.Kind==10))) (j5 ((p0.Kind==21)))
theorem qp (n:Nat) (p0:aj) (p1:al):CT Tryz.prog 175 [.ptr 0 0,.agg (aX p0)] [.box (aG p1)] (iJ n p0 p1) (fun _=>.fH []) (fun x=>[.box (aG x)]):=by
 refine zC Tryz.func175 rfl fun r hp h hr E hE=>ag fun _ hK1=>aa (dP 103 (hE _ rfl) ⟨rfl,rfl,rfl,rfl,rfl,rfl,rfl⟩ rfl ?_)
 refine zQ hK1 (ag fun _ hK2=>aa (zf rfl (zl rfl (an (cg rfl) rfl (za rfl (zQ hK2 (ag fun _ hK3=>aa (zf rfl (zl rfl (zQ hK3 (aC (zM h (fun (v4:Bool)=>[(0,.ptr 0 0),(1,.agg (aX p0)),(3,.ptr 103 0),(4,I (List.length p0.aW:Int)),(9,I p0.Kind),(15,Bo v4)]) (fun (v4:Bool)=>[(0,.box (aG p1)),(103,.box (aX p0))]) (fun v4 h=>?_) fun _ _ hK6 h=>?_))))))))))))
 · refine zB rfl h (fun _ h=>?_) fun _ h=>?_
   · exact ar (zY .nil h rfl)
   · refine ag fun _ hK8=>aa (zc rfl (za rfl (zQ hK8 (zB rfl h (fun _ h=>?_) fun _ h=>?_))))
     · refine aa (zm rfl (zm rfl (zc rfl (bR [(decide ((List.length p0.aW:Int)≥1))] bu ⟨rfl,rfl⟩ rfl ?_))))
       exact zk hp hr h [0] Tryz.call61 (az n [(decide ((List.length p0.aW:Int)≥1))] p1) rfl (fun _=>rfl) fun y10 h=>ao (zY .nil h rfl)
     · refine zM h (fun (v11:Bool)=>[(0,.ptr 0 0),(1,.agg (aX p0)),(3,.ptr 103 0),(4,I (List.length p0.aW:Int)),(9,I p0.Kind),(25,Bo v11)]) (fun (v11:Bool)=>[(0,.box (aG p1)),(103,.box (aX p0))]) (fun v11 h=>?_) fun _ _ hK13 h=>?_
       · refine zB rfl h (fun _ h=>?_) fun _ h=>?_
         · refine aa (zm rfl (zm rfl (zc rfl (bR [((List.length p0.aW:Int)==1)] bu ⟨rfl,rfl⟩ rfl ?_))))
           exact zk hp hr h [0] Tryz.call61 (az n [((List.length p0.aW:Int)==1)] p1) rfl (fun _=>rfl) fun y15 h=>ao (zY .nil h rfl)
         · refine zM h (fun (v16:Bool)=>[(0,.ptr 0 0),(1,.agg (aX p0)),(3,.ptr 103 0),(4,I (List.length p0.aW:Int)),(9,I p0.Kind),(35,Bo v16)]) (fun (v16:Bool)=>[(0,.box (aG p1)),(103,.box (aX p0))]) (fun v16 h=>?_) fun _ _ hK18 h=>?_
           · refine zB rfl h (fun _ h=>?_) fun _ h=>?_
             · refine aa (zm rfl (zm rfl (zc rfl (bR [((List.length p0.aW:Int)==2)] bu ⟨rfl,rfl⟩ rfl ?_))))
               exact zk hp hr h [0] Tryz.call61 (az n [((List.length p0.aW:Int)==2)] p1) rfl (fun _=>rfl) fun y20 h=>ao (zY .nil h rfl)
             · refine ag fun _ hK21=>aa (zc rfl (za rfl (zQ hK21 (zB rfl h (fun _ h=>?_) fun _ h=>?_))))
               · refine aa (zm rfl (zm rfl (zc rfl (zm rfl (zb ((List.length p0.aW:Int)==2) (fun hb23=>?_) fun hb23=>?_)))))
                 · refine z1 hb23 h fun h=>zg hb23 rfl (zg hb23 rfl (zy hb23 rfl (bR [true] bu ⟨rfl,rfl⟩ rfl ?_)))
                   exact zk hp hr h [0] Tryz.call61 (az n [true] p1) rfl (fun _=>rfl) fun y24 h=>ao (zY .nil h rfl)
                 · refine z2 hb23 h fun h=>zG hb23 rfl (au rfl) (zG hb23 rfl (bg rfl rfl rfl) (zw hb23 rfl (bR [((List.length p0.aW:Int)==3)] bu ⟨rfl,rfl⟩ rfl ?_)))
                   exact zk hp hr h [0] Tryz.call61 (az n [((List.length p0.aW:Int)==3)] p1) rfl (fun _=>rfl) fun y25 h=>ao (zY .nil h rfl)
               · refine ag fun _ hK26=>aa (zc rfl (za rfl (zQ hK26 (zB rfl h (fun _ h=>?_) fun _ h=>?_))))
                 · refine aa (zm rfl (zm rfl (zc rfl (bR [(decide ((List.length p0.aW:Int)≥2))] bu ⟨rfl,rfl⟩ rfl ?_))))
                   exact zk hp hr h [0] Tryz.call61 (az n [(decide ((List.length p0.aW:Int)≥2))] p1) rfl (fun _=>rfl) fun y28 h=>ao (zY .nil h rfl)
                 · refine ag fun _ hK29=>aa (zc rfl (za rfl (zQ hK29 (zB rfl h (fun _ h=>?_) fun _ h=>?_))))
                   · refine aa (zm rfl (zm rfl (zf rfl (zl rfl (an (D0 rfl rfl) rfl (zc rfl (bR [(decide ((List.length p0.aW:Int)≥(Bd .i64 p0.je 1)))] bu ⟨rfl,rfl⟩ rfl ?_)))))))
                     exact zk hp hr h [0] Tryz.call61 (az n [(decide ((List.length p0.aW:Int)≥(Bd .i64 p0.je 1)))] p1) rfl (fun _=>rfl) fun y31 h=>ao (zY .nil h rfl)
                   · refine aa (zm rfl (zm rfl (zc rfl (bR [((List.length p0.aW:Int)==0)] bu ⟨rfl,rfl⟩ rfl ?_))))
                     exact zk hp hr h [0] Tryz.call61 (az n [((List.length p0.aW:Int)==0)] p1) rfl (fun _=>rfl) fun y32 h=>ao (zY .nil h rfl)
           · refine ag fun _ hK33=>aa (zc rfl (za rfl (zQ hK33 (zB rfl h (fun _ h=>?_) fun _ h=>?_))))
             · exact ar (hK18 _ _ _ h rfl)
             · refine ag fun _ hK35=>aa (zc rfl (za rfl (zQ hK35 (zB rfl h (fun _ h=>?_) fun _ h=>?_))))
               · exact ar (hK18 _ _ _ h rfl)
               · exact aa (zc rfl (za rfl (ao (hK18 _ _ _ h rfl))))
       · refine ag fun _ hK37=>aa (zc rfl (za rfl (zQ hK37 (zB rfl h (fun _ h=>?_) fun _ h=>?_))))
         · exact ar (hK13 _ _ _ h rfl)
         · refine ag fun _ hK39=>aa (zc rfl (za rfl (zQ hK39 (zB rfl h (fun _ h=>?_) fun _ h=>?_))))
           · exact ar (hK13 _ _ _ h rfl)
           · refine ag fun _ hK41=>aa (zc rfl (za rfl (zQ hK41 (zB rfl h (fun _ h=>?_) fun _ h=>?_))))
             · exact ar (hK13 _ _ _ h rfl)
             · exact aa (zc rfl (za rfl (ao (hK13 _ _ _ h rfl))))
 · refine ag fun _ hK43=>aa (zc rfl (za rfl (zQ hK43 (zB rfl h (fun _ h=>?_) fun _ h=>?_))))
   · exact ar (hK6 _ _ _ h rfl)
   · exact aa (zc rfl (za rfl (ao (hK6 _ _ _ h rfl))))
def gE (n:Nat) (p0:(List UInt8)) (p1:(List UInt8)):aq (Bool):=
 br (p0 !=([]:List UInt8)) (aq.bind (strings_Split p1 ([32]:List UInt8)) fun y4=>aq.bind (slices_Contains_string n y4 p0) fun y5=>.ok (y5)) (.ok (false))
theorem jM (n:Nat) (p0:(List UInt8)) (p1:(List UInt8)):CT Tryz.prog 216 [aY p0,aY p1] [] (gE n p0 p1) (fun x=>Bo x) (fun _=>[]):=by
 refine zC Tryz.func216 rfl fun r hp h hr E hE=>ag fun _ hK1=>aa (za rfl (zQ hK1 (ag fun _ hK2=>aa (zm rfl (an (tp rfl rfl) rfl (zm rfl (zb (p0 !=([]:List UInt8)) (fun hb3=>?_) fun hb3=>?_)))))))
 · exact z1 hb3 h fun h=>zG hb3 rfl (au rfl) (zK hb3 rfl hp hr h [] Tryz.call146 (mA p1 ([32]:List UInt8)) rfl (fun _=>rfl) fun y4 h=>zG hb3 rfl (au rfl) (zK hb3 rfl hp hr h [] Tryz.call109 (iz n y4 p0) rfl (fun _=>rfl) fun y5 h=>zy hb3 rfl (za rfl (zQ hK2 (aw (zX (.cons (ay rfl) .nil) h rfl))))))
 · exact z2 hb3 h fun h=>zg hb3 rfl (zg hb3 rfl (zg hb3 rfl (zg hb3 rfl (zw hb3 rfl (za rfl (zQ hK2 (aw (zX (.cons (ay rfl) .nil) h rfl))))))))
def iK (n:Nat) (p0:aj) (p1:al):aq (al):=
 jn (fun (v3:Bool)=>br v3 (.ok (p1)) (br (p0.Kind==8) (aq.bind (gE n p0.Text ([110,117,108,108,32,98,111,111,108,32,105,110,116,32,110,117,109,98,101,114,32,115,116,114,105,110,103]:List UInt8)) fun y9=>aq.bind (aA n [y9] p1) fun y10=>.ok (y10)) (br (p0.Kind==9) (aq.bind (gE n p0.Text ([60,32,60,61,32,62,32,62,61,32,33,61,32,61,126,32,33,126]:List UInt8)) fun y13=>aq.bind (aA n [y13] p1) fun y14=>.ok (y14)) (br (p0.Kind==19) (aq.bind (gE n p0.Text ([45,32,33]:List UInt8)) fun y17=>aq.bind (aA n [y17] p1) fun y18=>.ok (y18)) (br (p0.Kind==20) (aq.bind (gE n p0.Text ([43,32,45,32,42,32,47,32,37,32,61,61,32,33,61,32,60,32,60,61,32,62,32,62,61,32,38,38,32,124,124]:List UInt8)) fun y21=>aq.bind (aA n [y21] p1) fun y22=>.ok (y22)) (br (p0.Kind==21) (aq.bind (fC n p0.Text) fun y25=>aq.bind (aA n [y25] p1) fun y26=>.ok (y26)) (aq.bind (aA n [(p0.Text==([]:List UInt8))] p1) fun y27=>.ok (y27)))))))) fun j4=>br (p0.Kind==10) (j4 ((p0.Kind==10))) (br (p0.Kind==4) (j4 ((p0.Kind==4))) (j4 ((p0.Kind==11))))
theorem qq (n:Nat) (p0:aj) (p1:al):CT Tryz.prog 176 [.ptr 0 0,.agg (aX p0)] [.box (aG p1)] (iK n p0 p1) (fun _=>.fH []) (fun x=>[.box (aG x)]):=by
 refine zC Tryz.func176 rfl fun r hp h hr E hE=>ag fun _ hK1=>aa (dP 103 (hE _ rfl) ⟨rfl,rfl,rfl,rfl,rfl,rfl,rfl⟩ rfl ?_)
 refine zQ hK1 (ag fun _ hK2=>aa (zf rfl (zl rfl (zQ hK2 (aC (zM h (fun (v3:Bool)=>[(0,.ptr 0 0),(1,.agg (aX p0)),(3,.ptr 103 0),(5,I p0.Kind),(12,Bo v3)]) (fun (v3:Bool)=>[(0,.box (aG p1)),(103,.box (aX p0))]) (fun v3 h=>?_) fun _ _ hK5 h=>?_))))))
 · refine zB rfl h (fun _ h=>?_) fun _ h=>?_
   · exact ar (zY .nil h rfl)
   · refine ag fun _ hK7=>aa (zc rfl (za rfl (zQ hK7 (zB rfl h (fun _ h=>?_) fun _ h=>?_))))
     · refine aa (zm rfl (zf rfl (zl rfl (zk hp hr h [] Tryz.call216 (jM n p0.Text ([110,117,108,108,32,98,111,111,108,32,105,110,116,32,110,117,109,98,101,114,32,115,116,114,105,110,103]:List UInt8)) rfl (fun _=>rfl) fun y9 h=>bR [y9] bu ⟨rfl,rfl⟩ rfl ?_))))
       exact zk hp hr h [0] Tryz.call61 (az n [y9] p1) rfl (fun _=>rfl) fun y10 h=>ao (zY .nil h rfl)
     · refine ag fun _ hK11=>aa (zc rfl (za rfl (zQ hK11 (zB rfl h (fun _ h=>?_) fun _ h=>?_))))
       · refine aa (zm rfl (zf rfl (zl rfl (zk hp hr h [] Tryz.call216 (jM n p0.Text ([60,32,60,61,32,62,32,62,61,32,33,61,32,61,126,32,33,126]:List UInt8)) rfl (fun _=>rfl) fun y13 h=>bR [y13] bu ⟨rfl,rfl⟩ rfl ?_))))
         exact zk hp hr h [0] Tryz.call61 (az n [y13] p1) rfl (fun _=>rfl) fun y14 h=>ao (zY .nil h rfl)
       · refine ag fun _ hK15=>aa (zc rfl (za rfl (zQ hK15 (zB rfl h (fun _ h=>?_) fun _ h=>?_))))
         · refine aa (zm rfl (zf rfl (zl rfl (zk hp hr h [] Tryz.call216 (jM n p0.Text ([45,32,33]:List UInt8)) rfl (fun _=>rfl) fun y17 h=>bR [y17] bu ⟨rfl,rfl⟩ rfl ?_))))
           exact zk hp hr h [0] Tryz.call61 (az n [y17] p1) rfl (fun _=>rfl) fun y18 h=>ao (zY .nil h rfl)
         · refine ag fun _ hK19=>aa (zc rfl (za rfl (zQ hK19 (zB rfl h (fun _ h=>?_) fun _ h=>?_))))
           · refine aa (zm rfl (zf rfl (zl rfl (zk hp hr h [] Tryz.call216 (jM n p0.Text ([43,32,45,32,42,32,47,32,37,32,61,61,32,33,61,32,60,32,60,61,32,62,32,62,61,32,38,38,32,124,124]:List UInt8)) rfl (fun _=>rfl) fun y21 h=>bR [y21] bu ⟨rfl,rfl⟩ rfl ?_))))
             exact zk hp hr h [0] Tryz.call61 (az n [y21] p1) rfl (fun _=>rfl) fun y22 h=>ao (zY .nil h rfl)
           · refine ag fun _ hK23=>aa (zc rfl (za rfl (zQ hK23 (zB rfl h (fun _ h=>?_) fun _ h=>?_))))
             · refine aa (zm rfl (zf rfl (zl rfl (zk hp hr h [] Tryz.call62 (fL n p0.Text) rfl (fun _=>rfl) fun y25 h=>bR [y25] bu ⟨rfl,rfl⟩ rfl ?_))))
               exact zk hp hr h [0] Tryz.call61 (az n [y25] p1) rfl (fun _=>rfl) fun y26 h=>ao (zY .nil h rfl)
             · refine aa (zm rfl (zf rfl (zl rfl (an (iE rfl rfl) rfl (bR [(p0.Text==([]:List UInt8))] bu ⟨rfl,rfl⟩ rfl ?_)))))
               exact zk hp hr h [0] Tryz.call61 (az n [(p0.Text==([]:List UInt8))] p1) rfl (fun _=>rfl) fun y27 h=>ao (zY .nil h rfl)
 · refine ag fun _ hK28=>aa (zc rfl (za rfl (zQ hK28 (zB rfl h (fun _ h=>?_) fun _ h=>?_))))
   · exact ar (hK5 _ _ _ h rfl)
   · refine ag fun _ hK30=>aa (zc rfl (za rfl (zQ hK30 (zB rfl h (fun _ h=>?_) fun _ h=>?_))))
     · exact ar (hK5 _ _ _ h rfl)
     · exact aa (zc rfl (za rfl (ao (hK5 _ _ _ h rfl))))
def jr (n:Nat) (p0:aj) (p1:aP) (p2:al):aq (al):=
 jn (fun (v2:al)=>aq.bind (iJ n p0 v2) fun y6=>aq.bind (iK n p0 y6) fun y8=>jn (fun (v9:Bool)=>jn (fun (v12:al)=>jn (fun (v15:al)=>jn (fun (v18:al)=>jn (fun (v21:al)=>br p1.k4 (br (!p1.k4) (aq.bind (aA n [true,true] v21) fun y26=>.ok (y26)) (aq.bind (aA n [true,(p0.Kind !=22)] v21) fun y27=>.ok (y27))) (br (!p1.k4) (aq.bind (aA n [(p0.Kind !=13),true] v21) fun y29=>.ok (y29)) (aq.bind (aA n [(p0.Kind !=13),(p0.Kind !=22)] v21) fun y30=>.ok (y30)))) fun j22=>br p1.Ek (br p1.uD (aq.bind (aA n [true,true] v18) fun y33=>j22 (y33)) (aq.bind (aA n [true,(p0.Kind !=15)] v18) fun y34=>j22 (y34))) (br p1.uD (aq.bind (aA n [(p0.Kind !=18),true] v18) fun y36=>j22 (y36)) (aq.bind (aA n [(p0.Kind !=18),(p0.Kind !=15)] v18) fun y37=>j22 (y37)))) fun j19=>br (p0.Kind==15) (aq.bind (kA n (fY.mk p0.bf p0.bj)) fun y40=>aq.bind (aA n [y40] v15) fun y41=>j19 (y41)) (aq.bind (mi (fY.mk p0.bf p0.bj)) fun y42=>aq.bind (aA n [y42] v15) fun y43=>j19 (y43))) fun j16=>br (p0.Kind==10) (aq.bind (gq n p0 v12) fun y48=>.ok (y48)) (jn (fun (v49:Bool)=>br v49 (br (p0.je==0) (aq.bind (aA n [true] v12) fun y54=>j16 (y54)) (aq.bind (aA n [(p0.je==1)] v12) fun y55=>j16 (y55))) (br (p0.Kind==3) (aq.bind (kQ p0.je) fun y58=>aq.bind (aA n [(decide (p0.je≥0)),y58] v12) fun y59=>j16 (y59)) (aq.bind (aA n [(p0.je==0)] v12) fun y60=>j16 (y60)))) fun j50=>br (p0.Kind==2) (j50 ((p0.Kind==2))) (j50 ((p0.Kind==14))))) fun j13=>br v9 (aq.bind (gp n p0.cd) fun y64=>aq.bind (aA n [true,y64] y8) fun y65=>j13 (y65)) (gd (bA ((List.length p0.Decls:Int)+(List.length p0.cd:Int))) (aq.bind (gp n p0.cd) fun y67=>aq.bind (aA n [(((List.length p0.Decls:Int)+(List.length p0.cd:Int))==0),y67] y8) fun y68=>j13 (y68)))) fun j10=>br (p0.Kind==13) (j10 (true)) (j10 ((p0.Kind==22)))) fun j3=>br (decide (p0.Kind≥1)) (aq.bind (aA n [(decide (p0.Kind≤22))] p2) fun y71=>j3 (y71)) (aq.bind (aA n [false] p2) fun y72=>j3 (y72))
theorem rj (n:Nat) (p0:aj) (p1:aP) (p2:al):CT Tryz.prog 120 [.ptr 0 0,.agg (aX p0),.agg (bB p1)] [.box (aG p2)] (jr n p0 p1 p2) (fun _=>.fH []) (fun x=>[.box (aG x)]):=by
 refine zC Tryz.func120 rfl fun r hp h hr E hE=>ag fun _ hK1=>aa (dP 104 (hE _ rfl) ⟨rfl,rfl,rfl,rfl,rfl,rfl,rfl⟩ rfl ?_)
 refine dP 105 (hE _ rfl) ⟨rfl,rfl,rfl,rfl,rfl,rfl,rfl⟩ rfl ?_
 refine zQ hK1 (zM h (fun (v2:al)=>[(0,.ptr 0 0),(1,.agg (aX p0)),(2,.agg (bB p1)),(4,.ptr 104 0),(5,.ptr 105 0)]) (fun (v2:al)=>[(0,.box (aG v2)),(104,.box (aX p0)),(105,.box (bB p1))]) (fun v2 h=>?_) fun _ _ hK4 h=>?_)
 · refine ag fun _ hK5=>aa (zm rfl (zA rfl ?_))
   refine zk hp hr h [0] Tryz.call175 (qp n p0 v2) rfl (fun _=>rfl) fun y6 h=>zQ hK5 (ag fun _ hK7=>aa (zm rfl (zA rfl ?_)))
   refine zk hp hr h [0] Tryz.call176 (qq n p0 y6) rfl (fun _=>rfl) fun y8 h=>zQ hK7 (zM h (fun (v9:Bool)=>[(0,.ptr 0 0),(1,.agg (aX p0)),(2,.agg (bB p1)),(4,.ptr 104 0),(5,.ptr 105 0),(6,Bo v9)]) (fun (v9:Bool)=>[(0,.box (aG y8)),(104,.box (aX p0)),(105,.box (bB p1))]) (fun v9 h=>?_) fun _ _ hK11 h=>?_)
   · refine zM h (fun (v12:al)=>[(0,.ptr 0 0),(1,.agg (aX p0)),(2,.agg (bB p1)),(4,.ptr 104 0),(5,.ptr 105 0)]) (fun (v12:al)=>[(0,.box (aG v12)),(104,.box (aX p0)),(105,.box (bB p1))]) (fun v12 h=>?_) fun _ _ hK14 h=>?_
     · refine zM h (fun (v15:al)=>[(0,.ptr 0 0),(1,.agg (aX p0)),(2,.agg (bB p1)),(4,.ptr 104 0),(5,.ptr 105 0)]) (fun (v15:al)=>[(0,.box (aG v15)),(104,.box (aX p0)),(105,.box (bB p1))]) (fun v15 h=>?_) fun _ _ hK17 h=>?_
       · refine zM h (fun (v18:al)=>[(0,.ptr 0 0),(1,.agg (aX p0)),(2,.agg (bB p1)),(4,.ptr 104 0),(5,.ptr 105 0)]) (fun (v18:al)=>[(0,.box (aG v18)),(104,.box (aX p0)),(105,.box (bB p1))]) (fun v18 h=>?_) fun _ _ hK20 h=>?_
         · refine zM h (fun (v21:al)=>[(0,.ptr 0 0),(1,.agg (aX p0)),(2,.agg (bB p1)),(4,.ptr 104 0),(5,.ptr 105 0)]) (fun (v21:al)=>[(0,.box (aG v21)),(104,.box (aX p0)),(105,.box (bB p1))]) (fun v21 h=>?_) fun _ _ hK23 h=>?_
           · refine aa (zm rfl (zf rfl (zl rfl (zm rfl (zb p1.k4 (fun hb24=>?_) fun hb24=>?_)))))
             · refine z1 hb24 h fun h=>zg hb24 rfl (zg hb24 rfl (zg hb24 rfl (zy hb24 rfl (zf rfl (zl rfl (an (eG rfl) rfl (zm rfl (zb (!p1.k4) (fun hb25=>?_) fun hb25=>?_))))))))
               · refine z1 hb25 h fun h=>zg hb25 rfl (zg hb25 rfl (zg hb25 rfl (zy hb25 rfl (bR [true,true] bu ⟨rfl,rfl⟩ rfl ?_))))
                 exact zk hp hr h [0] Tryz.call61 (az n [true,true] v21) rfl (fun _=>rfl) fun y26 h=>ao (zY .nil h rfl)
               · refine z2 hb25 h fun h=>zG hb25 rfl (bD rfl) (zG hb25 rfl (ba rfl rfl rfl) (zG hb25 rfl (bg rfl rfl rfl) (zw hb25 rfl (bR [true,(p0.Kind !=22)] bu ⟨rfl,rfl⟩ rfl ?_))))
                 exact zk hp hr h [0] Tryz.call61 (az n [true,(p0.Kind !=22)] v21) rfl (fun _=>rfl) fun y27 h=>ao (zY .nil h rfl)
             · refine z2 hb24 h fun h=>zG hb24 rfl (bD rfl) (zG hb24 rfl (ba rfl rfl rfl) (zG hb24 rfl (bg rfl rfl rfl) (zw hb24 rfl (zf rfl (zl rfl (an (eG rfl) rfl (zm rfl (zb (!p1.k4) (fun hb28=>?_) fun hb28=>?_))))))))
               · refine z1 hb28 h fun h=>zg hb28 rfl (zg hb28 rfl (zg hb28 rfl (zy hb28 rfl (bR [(p0.Kind !=13),true] bu ⟨rfl,rfl⟩ rfl ?_))))
                 exact zk hp hr h [0] Tryz.call61 (az n [(p0.Kind !=13),true] v21) rfl (fun _=>rfl) fun y29 h=>ao (zY .nil h rfl)
               · refine z2 hb28 h fun h=>zG hb28 rfl (bD rfl) (zG hb28 rfl (ba rfl rfl rfl) (zG hb28 rfl (bg rfl rfl rfl) (zw hb28 rfl (bR [(p0.Kind !=13),(p0.Kind !=22)] bu ⟨rfl,rfl⟩ rfl ?_))))
                 exact zk hp hr h [0] Tryz.call61 (az n [(p0.Kind !=13),(p0.Kind !=22)] v21) rfl (fun _=>rfl) fun y30 h=>ao (zY .nil h rfl)
           · refine aa (zm rfl (zf rfl (zl rfl (zm rfl (zb p1.Ek (fun hb31=>?_) fun hb31=>?_)))))
             · refine z1 hb31 h fun h=>zg hb31 rfl (zg hb31 rfl (zg hb31 rfl (zy hb31 rfl (zf rfl (zl rfl (zm rfl (zb p1.uD (fun hb32=>?_) fun hb32=>?_)))))))
               · refine z1 hb32 h fun h=>zg hb32 rfl (zg hb32 rfl (zg hb32 rfl (zy hb32 rfl (bR [true,true] bu ⟨rfl,rfl⟩ rfl ?_))))
                 exact zk hp hr h [0] Tryz.call61 (az n [true,true] v18) rfl (fun _=>rfl) fun y33 h=>ao (hK23 _ _ _ h rfl)
               · refine z2 hb32 h fun h=>zG hb32 rfl (bD rfl) (zG hb32 rfl (ba rfl rfl rfl) (zG hb32 rfl (bg rfl rfl rfl) (zw hb32 rfl (bR [true,(p0.Kind !=15)] bu ⟨rfl,rfl⟩ rfl ?_))))
                 exact zk hp hr h [0] Tryz.call61 (az n [true,(p0.Kind !=15)] v18) rfl (fun _=>rfl) fun y34 h=>ao (hK23 _ _ _ h rfl)
             · refine z2 hb31 h fun h=>zG hb31 rfl (bD rfl) (zG hb31 rfl (ba rfl rfl rfl) (zG hb31 rfl (bg rfl rfl rfl) (zw hb31 rfl (zf rfl (zl rfl (zm rfl (zb p1.uD (fun hb35=>?_) fun hb35=>?_)))))))
               · refine z1 hb35 h fun h=>zg hb35 rfl (zg hb35 rfl (zg hb35 rfl (zy hb35 rfl (bR [(p0.Kind !=18),true] bu ⟨rfl,rfl⟩ rfl ?_))))
                 exact zk hp hr h [0] Tryz.call61 (az n [(p0.Kind !=18),true] v18) rfl (fun _=>rfl) fun y36 h=>ao (hK23 _ _ _ h rfl)
               · refine z2 hb35 h fun h=>zG hb35 rfl (bD rfl) (zG hb35 rfl (ba rfl rfl rfl) (zG hb35 rfl (bg rfl rfl rfl) (zw hb35 rfl (bR [(p0.Kind !=18),(p0.Kind !=15)] bu ⟨rfl,rfl⟩ rfl ?_))))
                 exact zk hp hr h [0] Tryz.call61 (az n [(p0.Kind !=18),(p0.Kind !=15)] v18) rfl (fun _=>rfl) fun y37 h=>ao (hK23 _ _ _ h rfl)
         · refine ag fun _ hK38=>aa (zf rfl (zl rfl (zc rfl (zQ hK38 (zB rfl h (fun _ h=>?_) fun _ h=>?_)))))
           · refine aa (zm rfl (zf rfl (zA rfl ?_)))
             refine zk hp hr h [] Tryz.call164 (qb n (fY.mk p0.bf p0.bj)) rfl (fun _=>rfl) fun y40 h=>bR [y40] bu ⟨rfl,rfl⟩ rfl ?_
             exact zk hp hr h [0] Tryz.call61 (az n [y40] v15) rfl (fun _=>rfl) fun y41 h=>ao (hK20 _ _ _ h rfl)
           · refine aa (zm rfl (zf rfl (zA rfl ?_)))
             refine zk hp hr h [] Tryz.call165 (oC (fY.mk p0.bf p0.bj)) rfl (fun _=>rfl) fun y42 h=>bR [y42] bu ⟨rfl,rfl⟩ rfl ?_
             exact zk hp hr h [0] Tryz.call61 (az n [y42] v15) rfl (fun _=>rfl) fun y43 h=>ao (hK20 _ _ _ h rfl)
       · refine ag fun _ hK44=>aa (zf rfl (zl rfl (zQ hK44 (aC (ag fun _ hK45=>aa (zc rfl (za rfl (zQ hK45 (zB rfl h (fun _ h=>?_) fun _ h=>?_)))))))))
         · refine ag fun _ hK47=>aa (zm rfl (zA rfl ?_))
           exact zk hp hr h [0] Tryz.call177 (nJ n p0 v12) rfl (fun _=>rfl) fun y48 h=>zQ hK47 (aw (zX .nil h rfl))
         · refine zM h (fun (v49:Bool)=>[(0,.ptr 0 0),(1,.agg (aX p0)),(2,.agg (bB p1)),(4,.ptr 104 0),(5,.ptr 105 0),(50,I p0.Kind),(62,Bo v49)]) (fun (v49:Bool)=>[(0,.box (aG v12)),(104,.box (aX p0)),(105,.box (bB p1))]) (fun v49 h=>?_) fun _ _ hK51 h=>?_
           · refine zB rfl h (fun _ h=>?_) fun _ h=>?_
             · refine aa (zm rfl (zf rfl (zl rfl (zc rfl (zm rfl (zb (p0.je==0) (fun hb53=>?_) fun hb53=>?_))))))
               · refine z1 hb53 h fun h=>zg hb53 rfl (zg hb53 rfl (zg hb53 rfl (zy hb53 rfl (bR [true] bu ⟨rfl,rfl⟩ rfl ?_))))
                 exact zk hp hr h [0] Tryz.call61 (az n [true] v12) rfl (fun _=>rfl) fun y54 h=>ao (hK17 _ _ _ h rfl)
               · refine z2 hb53 h fun h=>zG hb53 rfl (bD rfl) (zG hb53 rfl (ba rfl rfl rfl) (zG hb53 rfl (bg rfl rfl rfl) (zw hb53 rfl (bR [(p0.je==1)] bu ⟨rfl,rfl⟩ rfl ?_))))
                 exact zk hp hr h [0] Tryz.call61 (az n [(p0.je==1)] v12) rfl (fun _=>rfl) fun y55 h=>ao (hK17 _ _ _ h rfl)
             · refine ag fun _ hK56=>aa (zc rfl (za rfl (zQ hK56 (zB rfl h (fun _ h=>?_) fun _ h=>?_))))
               · refine bz [0,1,2,3,4,5,6,7,8] rfl (by kernel_rfl) (zD rfl (au rfl) rfl (zD rfl (bD rfl) rfl (zD rfl (eW [.any,.any,I p0.je,.any,.any,.any,.any,.any,.any] rfl rfl ⟨.inr rfl,.inr rfl,.inl rfl,.inr rfl,.inr rfl,.inr rfl,.inr rfl,.inr rfl,.inr rfl,trivial⟩ rfl) rfl (zD rfl (bg rfl rfl rfl) rfl (zD rfl (bD rfl) rfl (zD rfl (ba rfl rfl rfl) rfl (du rfl (bM rfl) hr h [] Tryz.call141 (om p0.je) ⟨rfl,rfl,rfl,rfl,rfl,rfl,trivial⟩ rfl rfl (fun _=>⟨rfl,rfl,rfl⟩) (fun _=>⟨rfl,rfl⟩) hp (fun y58 h=>⟨cC ⟨trivial,⟨trivial,⟨trivial,⟨⟨⟨_,rfl,aZ.eR ⟨.inr rfl,.inr rfl,.inl rfl,.inr rfl,.inr rfl,.inr rfl,.inr rfl,.inr rfl,.inr rfl,trivial⟩⟩,trivial⟩,⟨trivial,⟨trivial,trivial⟩⟩⟩⟩⟩⟩,?_⟩))))))))
                 refine gU [(decide (p0.je≥0)),y58] bu rfl (bM rfl) ⟨rfl,rfl⟩ ⟨rfl,rfl⟩ ?_
                 refine du rfl (bM rfl) hr h [0] Tryz.call61 (az n [(decide (p0.je≥0)),y58] v12) ⟨rfl,rfl,rfl,rfl,rfl,rfl,trivial⟩ rfl rfl (fun _=>⟨rfl,rfl,rfl⟩) (fun _=>⟨rfl,rfl⟩) hp (fun y59 h=>⟨aH rfl,?_⟩)
                 exact cr (hK17 _ _ _ h rfl)
               · refine aa (zm rfl (zf rfl (zl rfl (zc rfl (bR [(p0.je==0)] bu ⟨rfl,rfl⟩ rfl ?_)))))
                 exact zk hp hr h [0] Tryz.call61 (az n [(p0.je==0)] v12) rfl (fun _=>rfl) fun y60 h=>ao (hK17 _ _ _ h rfl)
           · refine ag fun _ hK61=>aa (zc rfl (za rfl (zQ hK61 (zB rfl h (fun _ h=>?_) fun _ h=>?_))))
             · exact ar (hK51 _ _ _ h rfl)
             · exact aa (zc rfl (za rfl (ao (hK51 _ _ _ h rfl))))
     · refine bz [0,1,2,3,4,5,6,7,8,9,10,11,12,13,14,15,16] rfl (by kernel_rfl) (zD rfl (au rfl) rfl (zD rfl (au rfl) rfl (zD rfl (au rfl) rfl (zb v9 (fun hb63=>?_) fun hb63=>?_))))
       · refine z1 hb63 h fun h=>cG hb63 rfl ⟨rfl,rfl⟩ ⟨rfl,rfl⟩ ?_
         refine cG hb63 rfl ⟨rfl,rfl⟩ ⟨rfl,rfl⟩ ?_
         refine cG hb63 rfl ⟨rfl,rfl⟩ ⟨rfl,rfl⟩ ?_
         refine cG hb63 rfl ⟨rfl,rfl⟩ ⟨rfl,rfl⟩ ?_
         refine cG hb63 rfl ⟨rfl,rfl⟩ ⟨rfl,rfl⟩ ?_
         refine cG hb63 rfl ⟨rfl,rfl⟩ ⟨rfl,rfl⟩ ?_
         refine cG hb63 rfl ⟨rfl,rfl⟩ ⟨rfl,rfl⟩ ?_
         refine cG hb63 rfl ⟨rfl,rfl⟩ ⟨rfl,rfl⟩ ?_
         refine zD rfl (cT hb63 rfl rfl) rfl (zD rfl (bD rfl) rfl (zD rfl (ba rfl rfl rfl) rfl (du rfl (bM rfl) hr h [] Tryz.call63 (gZ n p0.cd) ⟨rfl,rfl,rfl,rfl,rfl,rfl,trivial⟩ rfl rfl (fun _=>⟨rfl,rfl,rfl⟩) (fun _=>⟨rfl,rfl⟩) hp (fun y64 h=>⟨aH rfl,?_⟩))))
         refine gU [true,y64] bu rfl (bM rfl) ⟨rfl,rfl⟩ ⟨rfl,rfl⟩ ?_
         refine du rfl (bM rfl) hr h [0] Tryz.call61 (az n [true,y64] y8) ⟨rfl,rfl,rfl,rfl,rfl,rfl,trivial⟩ rfl rfl (fun _=>⟨rfl,rfl,rfl⟩) (fun _=>⟨rfl,rfl⟩) hp (fun y65 h=>⟨aH rfl,?_⟩)
         exact cr (hK14 _ _ _ h rfl)
       · refine z2 hb63 h fun h=>df hb63 rfl ⟨rfl,rfl⟩ (bD rfl) ⟨rfl,rfl,rfl⟩ ?_
         refine df hb63 rfl ⟨rfl,rfl⟩ (eW [.any,.any,.any,.any,.any,.any,.pv (.sl (List.length p0.Decls) (ax.Cs p0.Decls)),.any,.any] rfl rfl ⟨.inr rfl,.inr rfl,.inr rfl,.inr rfl,.inr rfl,.inr rfl,.inl rfl,.inr rfl,.inr rfl,trivial⟩ rfl) ⟨rfl,rfl,rfl⟩ ?_
         refine df hb63 rfl ⟨rfl,rfl⟩ (cg rfl) ⟨rfl,rfl,rfl⟩ ?_
         refine df hb63 rfl ⟨rfl,rfl⟩ (bD rfl) ⟨rfl,rfl,rfl⟩ ?_
         refine df hb63 rfl ⟨rfl,rfl⟩ (eW [.any,.any,.any,.any,.any,.any,.any,.pv (.sl (List.length p0.cd) (bX p0.cd)),.any] rfl rfl ⟨.inr rfl,.inr rfl,.inr rfl,.inr rfl,.inr rfl,.inr rfl,.inr rfl,.inl rfl,.inr rfl,trivial⟩ rfl) ⟨rfl,rfl,rfl⟩ ?_
         refine df hb63 rfl ⟨rfl,rfl⟩ (cg rfl) ⟨rfl,rfl,rfl⟩ ?_
         refine zd hr h fun hg66 h=>df hb63 rfl ⟨rfl,rfl⟩ (kZ rfl rfl hg66) ⟨rfl,rfl,rfl⟩ ?_
         refine df hb63 rfl ⟨rfl,rfl⟩ (bg rfl rfl rfl) ⟨rfl,rfl,rfl⟩ ?_
         refine zD rfl (cO hb63 rfl rfl) rfl (zD rfl (bD rfl) rfl (zD rfl (ba rfl rfl rfl) rfl (du rfl (bM rfl) hr h [] Tryz.call63 (gZ n p0.cd) ⟨rfl,rfl,rfl,rfl,rfl,rfl,trivial⟩ rfl rfl (fun _=>⟨rfl,rfl,rfl⟩) (fun _=>⟨rfl,rfl⟩) hp (fun y67 h=>⟨cC ⟨trivial,⟨trivial,⟨trivial,⟨trivial,⟨trivial,⟨trivial,⟨⟨⟨_,rfl,aZ.eR ⟨.inr rfl,.inr rfl,.inr rfl,.inr rfl,.inr rfl,.inr rfl,.inr rfl,.inl rfl,.inr rfl,trivial⟩⟩,trivial⟩,⟨trivial,⟨trivial,⟨⟨⟨_,rfl,aZ.eR ⟨.inr rfl,.inr rfl,.inr rfl,.inr rfl,.inr rfl,.inr rfl,.inl rfl,.inr rfl,.inr rfl,trivial⟩⟩,trivial⟩,⟨trivial,⟨trivial,⟨trivial,⟨trivial,trivial⟩⟩⟩⟩⟩⟩⟩⟩⟩⟩⟩⟩⟩⟩,?_⟩))))
         refine gU [(((List.length p0.Decls:Int)+(List.length p0.cd:Int))==0),y67] bu rfl (bM rfl) ⟨rfl,rfl⟩ ⟨rfl,rfl⟩ ?_
         refine du rfl (bM rfl) hr h [0] Tryz.call61 (az n [(((List.length p0.Decls:Int)+(List.length p0.cd:Int))==0),y67] y8) ⟨rfl,rfl,rfl,rfl,rfl,rfl,trivial⟩ rfl rfl (fun _=>⟨rfl,rfl,rfl⟩) (fun _=>⟨rfl,rfl⟩) hp (fun y68 h=>⟨aH rfl,?_⟩)
         exact cr (hK14 _ _ _ h rfl)
   · refine aa (zf rfl (zl rfl (zc rfl (zm rfl (zb (p0.Kind==13) (fun hb69=>?_) fun hb69=>?_)))))
     · exact z1 hb69 h fun h=>zg hb69 rfl (zg hb69 rfl (zg hb69 rfl (zy hb69 rfl (za rfl (ao (hK11 _ _ _ h rfl))))))
     · exact z2 hb69 h fun h=>zG hb69 rfl (bD rfl) (zG hb69 rfl (ba rfl rfl rfl) (zG hb69 rfl (bg rfl rfl rfl) (zw hb69 rfl (za rfl (ao (hK11 _ _ _ h rfl))))))
 · refine aa (zm rfl (zf rfl (zl rfl (zc rfl (zm rfl (zb (decide (p0.Kind≥1)) (fun hb70=>?_) fun hb70=>?_))))))
   · refine z1 hb70 h fun h=>zG hb70 rfl (bD rfl) (zG hb70 rfl (ba rfl rfl rfl) (zG hb70 rfl (bg rfl rfl rfl) (zy hb70 rfl (bR [(decide (p0.Kind≤22))] bu ⟨rfl,rfl⟩ rfl ?_))))
     exact zk hp hr h [0] Tryz.call61 (az n [(decide (p0.Kind≤22))] p2) rfl (fun _=>rfl) fun y71 h=>ao (hK4 _ _ _ h rfl)
   · refine z2 hb70 h fun h=>zg hb70 rfl (zg hb70 rfl (zg hb70 rfl (zw hb70 rfl (bR [false] bu ⟨rfl,rfl⟩ rfl ?_))))
     exact zk hp hr h [0] Tryz.call61 (az n [false] p2) rfl (fun _=>rfl) fun y72 h=>ao (hK4 _ _ _ h rfl)
end Go.Abs
end
section
namespace Go.Abs
open Go.Proofs aq
structure dA where
 eL:ax→Bool→Int→al→aq (al)
 cF:(List ax)→Bool→Int→al→aq (al)
 aN:aj→aP→al→aq (al)
def hP (n:Nat) (T:dA) (p0:ax) (p1:Bool) (p2:Int) (p3:al):aq (al):=
 jn (fun (v2:al)=>jn (fun (v5:Bool)=>jn (fun (v8:al)=>jn (fun (v11:al)=>jn (fun (v14:al)=>jn (fun (v17:al)=>jn (fun (v20:al)=>jn (fun (v24:Int)=>aq.bind (aA n [((List.length p0.aW:Int)==v24)] v20) fun y28=>jn (fun (v29:Bool)=>iter (fun next35 (v34:al×Int)=>br (decide (v34.2<(List.length p0.aW:Int))) (el p0.aW v34.2 fun x42=>br p1 (br v29 (aq.bind (T.aN x42 (aP.mk (v34.2==0) false false (IntKind.wrap .i64 (p2+1))) v34.1) fun y48=>gd (bA (v34.2+1)) (next35 (y48,v34.2+1))) (aq.bind (T.aN x42 (aP.mk false false false (IntKind.wrap .i64 (p2+1))) v34.1) fun y50=>gd (bA (v34.2+1)) (next35 (y50,v34.2+1)))) (aq.bind (T.aN x42 (aP.mk false false false (IntKind.wrap .i64 (p2+1))) v34.1) fun y52=>gd (bA (v34.2+1)) (next35 (y52,v34.2+1)))) (aq.bind (T.cF p0.Body false (IntKind.wrap .i64 (p2+1)) v34.1) fun y54=>.ok (y54))) n (y28,0)) fun j30=>br (p0.Kind==1) (j30 (true)) (br (p0.Kind==2) (j30 (true)) (br (p0.Kind==3) (j30 (true)) (j30 ((p0.Kind==4)))))) fun j25=>br (p0.Kind==7) (j25 (2)) (br (p0.Kind==8) (j25 (0)) (j25 (1)))) fun j21=>br (p0.Kind==6) (aq.bind (kA n (fY.mk p0.bf p0.bj)) fun y65=>aq.bind (aA n [y65] v17) fun y66=>j21 (y66)) (aq.bind (mi (fY.mk p0.bf p0.bj)) fun y67=>aq.bind (aA n [y67] v17) fun y68=>j21 (y68))) fun j18=>br (p0.Kind==1) (j18 (v14)) (br (p0.Kind==2) (aq.bind (mb n p0.Label) fun y75=>aq.bind (aA n [(y75.2.Errno==0)] v14) fun y76=>j18 (y76)) (br (p0.Kind==4) (aq.bind (fC n p0.Label) fun y79=>aq.bind (aA n [p1,y79] v14) fun y80=>j18 (y80)) (br p1 (aq.bind (aA n [(p0.Label==([]:List UInt8)),true] v14) fun y82=>j18 (y82)) (aq.bind (aA n [(p0.Label==([]:List UInt8)),(p0.Kind !=8)] v14) fun y83=>j18 (y83)))))) fun j15=>br (p0.Kind==1) (br (decide (p0.ca≥1)) (aq.bind (aA n [(decide (p0.ca≤3))] v11) fun y88=>j15 (y88)) (aq.bind (aA n [false] v11) fun y89=>j15 (y89))) (aq.bind (aA n [(p0.ca==0)] v11) fun y90=>j15 (y90))) fun j12=>aq.bind (gp n p0.jk) fun y91=>aq.bind (gp n p0.cd) fun y92=>aq.bind (gp n [p0.Trail]) fun y93=>br v5 (aq.bind (aA n [y91,y92,y93,true] v8) fun y95=>j12 (y95)) (gd (bA ((List.length p0.Body:Int)+(List.length p0.cd:Int))) (aq.bind (aA n [y91,y92,y93,(((List.length p0.Body:Int)+(List.length p0.cd:Int))==0)] v8) fun y97=>j12 (y97)))) fun j9=>br (decide (p0.Kind≥1)) (aq.bind (aA n [(decide (p0.Kind≤8))] v2) fun y99=>j9 (y99)) (aq.bind (aA n [false] v2) fun y100=>j9 (y100))) fun j6=>br (p0.Kind==5) (j6 (true)) (j6 ((p0.Kind==6)))) fun j3=>br (decide (p2>16)) (j3 ((al.mk p3.vL true))) (j3 (p3))
def gP (n:Nat) (T:dA) (p0:(List ax)) (p1:Bool) (p2:Int) (p3:al):aq (al):=
 iter (fun next3 (v2:al×Int)=>br (decide (v2.2<(List.length p0:Int))) (el p0 v2.2 fun Er=>aq.bind (T.eL Er p1 p2 v2.1) fun y14=>gd (bA (v2.2+1)) (next3 (y14,v2.2+1))) (.ok (v2.1))) n (p3,0)
def hQ (n:Nat) (T:dA) (p0:aj) (p1:aP) (p2:al):aq (al):=
 jn (fun (v2:al)=>aq.bind (jr n p0 p1 v2) fun y6=>iter (fun next10 (v9:al×Int)=>br (decide (v9.2<(List.length p0.aW:Int))) (jn (fun (v15:al)=>gd (bA (v9.2+1)) (next10 (v15,v9.2+1))) fun j16=>el p0.aW v9.2 fun x20=>br (p0.Kind==16) (br p1.k4 (br (p0.Kind==14) (br (p0.je==0) (aq.bind (T.aN x20 (aP.mk true (p0.Kind==17) true (IntKind.wrap .i64 (p1.level+1))) v9.1) fun y28=>j16 (y28)) (gd (bA (v9.2+1)) (aq.bind (T.aN x20 (aP.mk true (p0.Kind==17) (decide ((v9.2+1)<(List.length p0.aW:Int))) (IntKind.wrap .i64 (p1.level+1))) v9.1) fun y30=>j16 (y30)))) (aq.bind (T.aN x20 (aP.mk true (p0.Kind==17) false (IntKind.wrap .i64 (p1.level+1))) v9.1) fun y31=>j16 (y31))) (br (p0.Kind==14) (br (p0.je==0) (aq.bind (T.aN x20 (aP.mk (p0.Kind==10) (p0.Kind==17) true (IntKind.wrap .i64 (p1.level+1))) v9.1) fun y34=>j16 (y34)) (gd (bA (v9.2+1)) (aq.bind (T.aN x20 (aP.mk (p0.Kind==10) (p0.Kind==17) (decide ((v9.2+1)<(List.length p0.aW:Int))) (IntKind.wrap .i64 (p1.level+1))) v9.1) fun y36=>j16 (y36)))) (aq.bind (T.aN x20 (aP.mk (p0.Kind==10) (p0.Kind==17) false (IntKind.wrap .i64 (p1.level+1))) v9.1) fun y37=>j16 (y37)))) (br (p0.Kind==14) (br (p0.je==0) (aq.bind (T.aN x20 (aP.mk (p0.Kind==10) (p0.Kind==17) true (IntKind.wrap .i64 (p1.level+1))) v9.1) fun y40=>j16 (y40)) (gd (bA (v9.2+1)) (aq.bind (T.aN x20 (aP.mk (p0.Kind==10) (p0.Kind==17) (decide ((v9.2+1)<(List.length p0.aW:Int))) (IntKind.wrap .i64 (p1.level+1))) v9.1) fun y42=>j16 (y42)))) (aq.bind (T.aN x20 (aP.mk (p0.Kind==10) (p0.Kind==17) false (IntKind.wrap .i64 (p1.level+1))) v9.1) fun y43=>j16 (y43)))) (aq.bind (T.cF p0.Decls (p0.Kind==13) (IntKind.wrap .i64 (p1.level+1)) v9.1) fun y44=>.ok (y44))) n (y6,0)) fun j3=>br (decide (p1.level>16)) (j3 ((al.mk p2.vL true))) (j3 (p2))
def b4:Nat→dA
 | 0=>⟨fun _ _ _ _=>.stuck,fun _ _ _ _=>.stuck,fun _ _ _=>.stuck⟩
 | n+1=>⟨hP n (b4 n),gP n (b4 n),hQ n (b4 n)⟩
def eL (n:Nat) (p0:ax) (p1:Bool) (p2:Int) (p3:al):aq (al):=(b4 n).eL p0 p1 p2 p3
def cF (n:Nat) (p0:(List ax)) (p1:Bool) (p2:Int) (p3:al):aq (al):=(b4 n).cF p0 p1 p2 p3
def aN (n:Nat) (p0:aj) (p1:aP) (p2:al):aq (al):=(b4 n).aN p0 p1 p2
structure fZ (T:dA):Prop where
 eL:∀ (p0:ax) (p1:Bool) (p2:Int) (p3:al),CT Tryz.prog 113 [.ptr 0 0,.agg (dp p0),Bo p1,I p2] [.box (aG p3)] (T.eL p0 p1 p2 p3) (fun _=>.fH []) (fun x=>[.box (aG x)])
 cF:∀ (p0:(List ax)) (p1:Bool) (p2:Int) (p3:al),CT Tryz.prog 64 [.ptr 0 0,.pv (.sl (List.length p0) (ax.Cs p0)),Bo p1,I p2] [.box (aG p3)] (T.cF p0 p1 p2 p3) (fun _=>.fH []) (fun x=>[.box (aG x)])
 aN:∀ (p0:aj) (p1:aP) (p2:al),CT Tryz.prog 78 [.ptr 0 0,.agg (aX p0),.agg (bB p1)] [.box (aG p2)] (T.aN p0 p1 p2) (fun _=>.fH []) (fun x=>[.box (aG x)])
theorem pO (n:Nat) (T:dA) (hT:fZ T) (p0:ax) (p1:Bool) (p2:Int) (p3:al):CT Tryz.prog 113 [.ptr 0 0,.agg (dp p0),Bo p1,I p2] [.box (aG p3)] (hP n T p0 p1 p2 p3) (fun _=>.fH []) (fun x=>[.box (aG x)]):=by
 refine zC Tryz.func113 rfl fun r hp h hr E hE=>ag fun _ hK1=>aa (dP 105 (hE _ rfl) ⟨rfl,rfl,rfl,rfl,rfl,rfl,rfl⟩ rfl ?_)
 refine zQ hK1 (zM h (fun (v2:al)=>[(0,.ptr 0 0),(1,.agg (dp p0)),(2,Bo p1),(3,I p2),(5,.ptr 105 0)]) (fun (v2:al)=>[(0,.box (aG v2)),(105,.box (dp p0))]) (fun v2 h=>?_) fun _ _ hK4 h=>?_)
 · refine zM h (fun (v5:Bool)=>[(0,.ptr 0 0),(1,.agg (dp p0)),(2,Bo p1),(3,I p2),(5,.ptr 105 0),(8,Bo v5)]) (fun (v5:Bool)=>[(0,.box (aG v2)),(105,.box (dp p0))]) (fun v5 h=>?_) fun _ _ hK7 h=>?_
   · refine zM h (fun (v8:al)=>[(0,.ptr 0 0),(1,.agg (dp p0)),(2,Bo p1),(3,I p2),(5,.ptr 105 0),(8,Bo v5)]) (fun (v8:al)=>[(0,.box (aG v8)),(105,.box (dp p0))]) (fun v8 h=>?_) fun _ _ hK10 h=>?_
     · refine zM h (fun (v11:al)=>[(0,.ptr 0 0),(1,.agg (dp p0)),(2,Bo p1),(3,I p2),(5,.ptr 105 0)]) (fun (v11:al)=>[(0,.box (aG v11)),(105,.box (dp p0))]) (fun v11 h=>?_) fun _ _ hK13 h=>?_
       · refine zM h (fun (v14:al)=>[(0,.ptr 0 0),(1,.agg (dp p0)),(2,Bo p1),(3,I p2),(5,.ptr 105 0)]) (fun (v14:al)=>[(0,.box (aG v14)),(105,.box (dp p0))]) (fun v14 h=>?_) fun _ _ hK16 h=>?_
         · refine zM h (fun (v17:al)=>[(0,.ptr 0 0),(1,.agg (dp p0)),(2,Bo p1),(3,I p2),(5,.ptr 105 0)]) (fun (v17:al)=>[(0,.box (aG v17)),(105,.box (dp p0))]) (fun v17 h=>?_) fun _ _ hK19 h=>?_
           · refine zM h (fun (v20:al)=>[(0,.ptr 0 0),(1,.agg (dp p0)),(2,Bo p1),(3,I p2),(5,.ptr 105 0)]) (fun (v20:al)=>[(0,.box (aG v20)),(105,.box (dp p0))]) (fun v20 h=>?_) fun _ _ hK22 h=>?_
             · refine ag fun _ hK23=>aa (za rfl (zQ hK23 (zM h (fun (v24:Int)=>[(0,.ptr 0 0),(1,.agg (dp p0)),(2,Bo p1),(3,I p2),(5,.ptr 105 0),(11,I v24)]) (fun (v24:Int)=>[(0,.box (aG v20)),(105,.box (dp p0))]) (fun v24 h=>?_) fun _ _ hK26 h=>?_)))
               · refine ag fun _ hK27=>aa (zm rfl (zf rfl (zl rfl (an (cg rfl) rfl (zm rfl (zc rfl (bR [((List.length p0.aW:Int)==v24)] bu ⟨rfl,rfl⟩ rfl ?_)))))))
                 refine zk hp hr h [0] Tryz.call61 (az n [((List.length p0.aW:Int)==v24)] v20) rfl (fun _=>rfl) fun y28 h=>zQ hK27 (zM h (fun (v29:Bool)=>[(0,.ptr 0 0),(1,.agg (dp p0)),(2,Bo p1),(3,I p2),(5,.ptr 105 0),(12,Bo v29)]) (fun (v29:Bool)=>[(0,.box (aG y28)),(105,.box (dp p0))]) (fun v29 h=>?_) fun _ _ hK31 h=>?_)
                 · refine ag fun _ hK32=>ag fun _ hK33=>aa (zf rfl (zl rfl (an (cg rfl) rfl (zm rfl (zQ hK33 (aC (zL hr h (fun (v34:al×Int)=>[(0,.ptr 0 0),(1,.agg (dp p0)),(2,Bo p1),(3,I p2),(5,.ptr 105 0),(12,Bo v29),(171,.pv (.sl (List.length p0.aW) (aj.Cs p0.aW))),(172,I (List.length p0.aW:Int)),(173,I v34.2)]) (fun (v34:al×Int)=>[(0,.box (aG v34.1)),(105,.box (dp p0))]) rfl fun _ v34 _ hK36 h=>ag fun _ hK37=>aa (zc rfl (zQ hK37 (ag fun _ hK38=>zB rfl h (fun _ h=>?_) fun _ h=>?_))))))))))
                   · refine ar (hK38 _ _ (ag fun _ hK40=>aC (ag fun _ hK41=>aa (zm rfl (ze hr h fun x42 h43 h44 h45 h=>an (gx aj.bb aj.bP h43 h44 h45 rfl rfl rfl) rfl (an (gN rfl rfl) rfl ?_))))))
                     refine aL 114 (hE _ rfl) ⟨rfl,rfl,rfl,rfl⟩ rfl ?_
                     refine za rfl (zs rfl (zQ hK41 (aa (zm rfl (zA rfl ?_)))))
                     refine zm rfl (zm rfl (zb p1 (fun hb46=>?_) fun hb46=>?_))
                     · refine z1 hb46 h fun h=>zG hb46 rfl (au rfl) (zy hb46 rfl (zm rfl (zb v29 (fun hb47=>?_) fun hb47=>?_)))
                       · refine z1 hb47 h fun h=>zG hb47 rfl (au rfl) (zG hb47 rfl (bg rfl rfl rfl) (zy hb47 rfl (zm rfl (an (iP rfl rfl) rfl (an (bE rfl rfl rfl) rfl ?_)))))
                         exact zk hp hr h [0] Tryz.call78 (hT.aN x42 (aP.mk (v34.2==0) false false (IntKind.wrap .i64 (p2+1))) v34.1) rfl (fun _=>rfl) fun y48 h=>zQ hK40 (aa (zd hr h fun hg49 h=>zo hg49 rfl (zm rfl (ao (hK36 _ _ _ h rfl)))))
                       · refine z2 hb47 h fun h=>zg hb47 rfl (zg hb47 rfl (zw hb47 rfl (zm rfl (an (iP rfl rfl) rfl (an (bE rfl rfl rfl) rfl ?_)))))
                         exact zk hp hr h [0] Tryz.call78 (hT.aN x42 (aP.mk false false false (IntKind.wrap .i64 (p2+1))) v34.1) rfl (fun _=>rfl) fun y50 h=>zQ hK40 (aa (zd hr h fun hg51 h=>zo hg51 rfl (zm rfl (ao (hK36 _ _ _ h rfl)))))
                     · refine z2 hb46 h fun h=>zg hb46 rfl (zw hb46 rfl (zm rfl (zg rfl rfl (zg rfl rfl (an (dv rfl rfl) rfl (zm rfl (an (iP rfl rfl) rfl (an (bE rfl rfl rfl) rfl ?_))))))))
                       exact zk hp hr h [0] Tryz.call78 (hT.aN x42 (aP.mk false false false (IntKind.wrap .i64 (p2+1))) v34.1) rfl (fun _=>rfl) fun y52 h=>zQ hK40 (aa (zd hr h fun hg53 h=>zo hg53 rfl (zm rfl (ao (hK36 _ _ _ h rfl)))))
                   · exact bp (hK32 _ _ (aa (zm rfl (zf rfl (zl rfl (zm rfl (an (iP rfl rfl) rfl (zk hp hr h [0] Tryz.call64 (hT.cF p0.Body false (IntKind.wrap .i64 (p2+1)) v34.1) rfl (fun _=>rfl) fun y54 h=>ao (zY .nil h rfl)))))))))
                 · refine aa (zf rfl (zl rfl (zc rfl (zm rfl (zb (p0.Kind==1) (fun hb55=>?_) fun hb55=>?_)))))
                   · exact z1 hb55 h fun h=>zg hb55 rfl (zg hb55 rfl (zg hb55 rfl (zy hb55 rfl (zm rfl (zg rfl rfl (zg rfl rfl (zg rfl rfl (zt rfl (zm rfl (zg rfl rfl (zg rfl rfl (zg rfl rfl (zt rfl (za rfl (ao (hK31 _ _ _ h rfl))))))))))))))))
                   · refine z2 hb55 h fun h=>zG hb55 rfl (bD rfl) (zG hb55 rfl (ba rfl rfl rfl) (zG hb55 rfl (bg rfl rfl rfl) (zw hb55 rfl (zm rfl (zb (p0.Kind==2) (fun hb56=>?_) fun hb56=>?_)))))
                     · exact z1 hb56 h fun h=>zg hb56 rfl (zg hb56 rfl (zg hb56 rfl (zy hb56 rfl (zm rfl (zg rfl rfl (zg rfl rfl (zg rfl rfl (zt rfl (za rfl (ao (hK31 _ _ _ h rfl)))))))))))
                     · refine z2 hb56 h fun h=>zG hb56 rfl (bD rfl) (zG hb56 rfl (ba rfl rfl rfl) (zG hb56 rfl (bg rfl rfl rfl) (zw hb56 rfl (zm rfl (zb (p0.Kind==3) (fun hb57=>?_) fun hb57=>?_)))))
                       · exact z1 hb57 h fun h=>zg hb57 rfl (zg hb57 rfl (zg hb57 rfl (zy hb57 rfl (za rfl (ao (hK31 _ _ _ h rfl))))))
                       · exact z2 hb57 h fun h=>zG hb57 rfl (bD rfl) (zG hb57 rfl (ba rfl rfl rfl) (zG hb57 rfl (bg rfl rfl rfl) (zw hb57 rfl (za rfl (ao (hK31 _ _ _ h rfl))))))
               · refine ag fun _ hK58=>aa (zf rfl (zl rfl (zQ hK58 (aC (ag fun _ hK59=>aa (zc rfl (za rfl (zQ hK59 (zB rfl h (fun _ h=>?_) fun _ h=>?_)))))))))
                 · exact aa (za rfl (ao (hK26 _ _ _ h rfl)))
                 · refine ag fun _ hK61=>aa (zc rfl (za rfl (zQ hK61 (zB rfl h (fun _ h=>?_) fun _ h=>?_))))
                   · exact aa (za rfl (ao (hK26 _ _ _ h rfl)))
                   · exact ar (hK26 _ _ _ h rfl)
             · refine ag fun _ hK63=>aa (zf rfl (zl rfl (zc rfl (zQ hK63 (zB rfl h (fun _ h=>?_) fun _ h=>?_)))))
               · refine aa (zm rfl (zf rfl (zA rfl ?_)))
                 refine zk hp hr h [] Tryz.call164 (qb n (fY.mk p0.bf p0.bj)) rfl (fun _=>rfl) fun y65 h=>bR [y65] bu ⟨rfl,rfl⟩ rfl ?_
                 exact zk hp hr h [0] Tryz.call61 (az n [y65] v17) rfl (fun _=>rfl) fun y66 h=>ao (hK22 _ _ _ h rfl)
               · refine aa (zm rfl (zf rfl (zA rfl ?_)))
                 refine zk hp hr h [] Tryz.call165 (oC (fY.mk p0.bf p0.bj)) rfl (fun _=>rfl) fun y67 h=>bR [y67] bu ⟨rfl,rfl⟩ rfl ?_
                 exact zk hp hr h [0] Tryz.call61 (az n [y67] v17) rfl (fun _=>rfl) fun y68 h=>ao (hK22 _ _ _ h rfl)
           · refine ag fun _ hK69=>aa (zf rfl (zl rfl (zQ hK69 (aC (ag fun _ hK70=>aa (zc rfl (za rfl (zQ hK70 (zB rfl h (fun _ h=>?_) fun _ h=>?_)))))))))
             · exact ar (hK19 _ _ _ h rfl)
             · refine ag fun _ hK72=>aa (zc rfl (za rfl (zQ hK72 (zB rfl h (fun _ h=>?_) fun _ h=>?_))))
               · refine ag fun _ hK74=>aa (zf rfl (zl rfl (zk hp hr h [] Tryz.call163 (rR n p0.Label) rfl (fun _=>rfl) fun y75 h=>zm rfl (zx rfl (zx rfl (aL 109 (hE _ rfl) ⟨rfl,rfl,rfl,rfl⟩ rfl ?_))))))
                 refine aL 110 (hE _ rfl) ⟨rfl,rfl,rfl,rfl⟩ rfl ?_
                 refine zs rfl (zs rfl (zQ hK74 (aa (zm rfl (zf rfl (zl rfl (zc rfl (bR [(y75.2.Errno==0)] bu ⟨rfl,rfl⟩ rfl ?_))))))))
                 exact zk hp hr h [0] Tryz.call61 (az n [(y75.2.Errno==0)] v14) rfl (fun _=>rfl) fun y76 h=>ao (hK19 _ _ _ h rfl)
               · refine ag fun _ hK77=>aa (zc rfl (za rfl (zQ hK77 (zB rfl h (fun _ h=>?_) fun _ h=>?_))))
                 · refine aa (zm rfl (zm rfl (zf rfl (zl rfl (zk hp hr h [] Tryz.call62 (fL n p0.Label) rfl (fun _=>rfl) fun y79 h=>bR [p1,y79] bu ⟨rfl,rfl⟩ rfl ?_)))))
                   exact zk hp hr h [0] Tryz.call61 (az n [p1,y79] v14) rfl (fun _=>rfl) fun y80 h=>ao (hK19 _ _ _ h rfl)
                 · refine aa (zm rfl (zf rfl (zl rfl (an (iE rfl rfl) rfl (zm rfl (zm rfl (zb p1 (fun hb81=>?_) fun hb81=>?_)))))))
                   · refine z1 hb81 h fun h=>zg hb81 rfl (zg hb81 rfl (zg hb81 rfl (zy hb81 rfl (bR [(p0.Label==([]:List UInt8)),true] bu ⟨rfl,rfl⟩ rfl ?_))))
                     exact zk hp hr h [0] Tryz.call61 (az n [(p0.Label==([]:List UInt8)),true] v14) rfl (fun _=>rfl) fun y82 h=>ao (hK19 _ _ _ h rfl)
                   · refine z2 hb81 h fun h=>zG hb81 rfl (bD rfl) (zG hb81 rfl (ba rfl rfl rfl) (zG hb81 rfl (bg rfl rfl rfl) (zw hb81 rfl (bR [(p0.Label==([]:List UInt8)),(p0.Kind !=8)] bu ⟨rfl,rfl⟩ rfl ?_))))
                     exact zk hp hr h [0] Tryz.call61 (az n [(p0.Label==([]:List UInt8)),(p0.Kind !=8)] v14) rfl (fun _=>rfl) fun y83 h=>ao (hK19 _ _ _ h rfl)
         · refine ag fun _ hK84=>aa (zf rfl (zl rfl (zQ hK84 (aC (ag fun _ hK85=>aa (zc rfl (za rfl (zQ hK85 (zB rfl h (fun _ h=>?_) fun _ h=>?_)))))))))
           · refine aa (zm rfl (zf rfl (zl rfl (zc rfl (zm rfl (zb (decide (p0.ca≥1)) (fun hb87=>?_) fun hb87=>?_))))))
             · refine z1 hb87 h fun h=>zG hb87 rfl (bD rfl) (zG hb87 rfl (ba rfl rfl rfl) (zG hb87 rfl (bg rfl rfl rfl) (zy hb87 rfl (bR [(decide (p0.ca≤3))] bu ⟨rfl,rfl⟩ rfl ?_))))
               exact zk hp hr h [0] Tryz.call61 (az n [(decide (p0.ca≤3))] v11) rfl (fun _=>rfl) fun y88 h=>ao (hK16 _ _ _ h rfl)
             · refine z2 hb87 h fun h=>zg hb87 rfl (zg hb87 rfl (zg hb87 rfl (zw hb87 rfl (bR [false] bu ⟨rfl,rfl⟩ rfl ?_))))
               exact zk hp hr h [0] Tryz.call61 (az n [false] v11) rfl (fun _=>rfl) fun y89 h=>ao (hK16 _ _ _ h rfl)
           · refine aa (zm rfl (zf rfl (zl rfl (zc rfl (bR [(p0.ca==0)] bu ⟨rfl,rfl⟩ rfl ?_)))))
             exact zk hp hr h [0] Tryz.call61 (az n [(p0.ca==0)] v11) rfl (fun _=>rfl) fun y90 h=>ao (hK16 _ _ _ h rfl)
       · refine bz [0,1,2,4,5,7,8,9,11,3,6,10,12,13,14,15,16,17,18,19,20,21,22,23] rfl (by kernel_rfl) (zD rfl (au rfl) rfl (zD rfl (bD rfl) rfl (zD rfl (ba rfl rfl rfl) rfl (zD rfl (bD rfl) rfl (zD rfl (eW [.any,.any,.any,.any,.any,.any,.any,.pv (.sl (List.length p0.cd) (bX p0.cd)),.any,.any,.any] rfl rfl ⟨.inr rfl,.inr rfl,.inr rfl,.inr rfl,.inr rfl,.inr rfl,.inr rfl,.inl rfl,.inr rfl,.inr rfl,.inr rfl,trivial⟩ rfl) rfl (zD rfl (bD rfl) rfl (zD rfl (eW [.any,.any,.any,.any,.any,.any,.any,.any,.any,aY p0.Trail,.any] rfl rfl ⟨.inr rfl,.inr rfl,.inr rfl,.inr rfl,.inr rfl,.inr rfl,.inr rfl,.inr rfl,.inr rfl,.inl rfl,.inr rfl,trivial⟩ rfl) rfl (gU [p0.Trail] eX rfl (bM rfl) ⟨rfl,rfl⟩ ⟨rfl,rfl⟩ ?_))))))))
         refine zD rfl (au rfl) rfl (du rfl (bM rfl) hr h [] Tryz.call63 (gZ n p0.jk) ⟨rfl,rfl,rfl,rfl,rfl,rfl,trivial⟩ rfl rfl (fun _=>⟨rfl,rfl,rfl⟩) (fun _=>⟨rfl,rfl⟩) hp (fun y91 h=>⟨cC ⟨trivial,⟨trivial,⟨⟨⟨_,rfl,aZ.eR ⟨.inr rfl,.inr rfl,.inr rfl,.inr rfl,.inr rfl,.inr rfl,.inr rfl,.inr rfl,.inr rfl,.inl rfl,.inr rfl,trivial⟩⟩,trivial⟩,⟨trivial,⟨⟨⟨_,rfl,aZ.eR ⟨.inr rfl,.inr rfl,.inr rfl,.inr rfl,.inr rfl,.inr rfl,.inr rfl,.inl rfl,.inr rfl,.inr rfl,.inr rfl,trivial⟩⟩,trivial⟩,⟨trivial,⟨trivial,⟨trivial,⟨trivial,trivial⟩⟩⟩⟩⟩⟩⟩⟩⟩,?_⟩))
         refine du rfl (bM rfl) hr h [] Tryz.call63 (gZ n p0.cd) ⟨rfl,rfl,rfl,rfl,rfl,rfl,trivial⟩ rfl rfl (fun _=>⟨rfl,rfl,rfl⟩) (fun _=>⟨rfl,rfl⟩) hp (fun y92 h=>⟨cC ⟨trivial,⟨trivial,⟨⟨⟨_,rfl,aZ.eR ⟨.inr rfl,.inr rfl,.inr rfl,.inr rfl,.inr rfl,.inr rfl,.inr rfl,.inr rfl,.inr rfl,.inl rfl,.inr rfl,trivial⟩⟩,trivial⟩,⟨trivial,⟨trivial,⟨trivial,⟨trivial,⟨trivial,⟨trivial,trivial⟩⟩⟩⟩⟩⟩⟩⟩⟩,?_⟩)
         refine du rfl (bM rfl) hr h [] Tryz.call63 (gZ n [p0.Trail]) ⟨rfl,rfl,rfl,rfl,rfl,rfl,trivial⟩ rfl rfl (fun _=>⟨rfl,rfl,rfl⟩) (fun _=>⟨rfl,rfl⟩) hp (fun y93 h=>⟨aH rfl,?_⟩)
         refine zD rfl (au rfl) rfl (zb v5 (fun hb94=>?_) fun hb94=>?_)
         · refine z1 hb94 h fun h=>cG hb94 rfl ⟨rfl,rfl⟩ ⟨rfl,rfl⟩ ?_
           refine cG hb94 rfl ⟨rfl,rfl⟩ ⟨rfl,rfl⟩ ?_
           refine cG hb94 rfl ⟨rfl,rfl⟩ ⟨rfl,rfl⟩ ?_
           refine cG hb94 rfl ⟨rfl,rfl⟩ ⟨rfl,rfl⟩ ?_
           refine cG hb94 rfl ⟨rfl,rfl⟩ ⟨rfl,rfl⟩ ?_
           refine cG hb94 rfl ⟨rfl,rfl⟩ ⟨rfl,rfl⟩ ?_
           refine cG hb94 rfl ⟨rfl,rfl⟩ ⟨rfl,rfl⟩ ?_
           refine cG hb94 rfl ⟨rfl,rfl⟩ ⟨rfl,rfl⟩ ?_
           refine zD rfl (cT hb94 rfl rfl) rfl (gU [y91,y92,y93,true] bu rfl (bM rfl) ⟨rfl,rfl⟩ ⟨rfl,rfl⟩ ?_)
           refine du rfl (bM rfl) hr h [0] Tryz.call61 (az n [y91,y92,y93,true] v8) ⟨rfl,rfl,rfl,rfl,rfl,rfl,trivial⟩ rfl rfl (fun _=>⟨rfl,rfl,rfl⟩) (fun _=>⟨rfl,rfl⟩) hp (fun y95 h=>⟨aH rfl,?_⟩)
           exact cr (hK13 _ _ _ h rfl)
         · refine z2 hb94 h fun h=>df hb94 rfl ⟨rfl,rfl⟩ (bD rfl) ⟨rfl,rfl,rfl⟩ ?_
           refine df hb94 rfl ⟨rfl,rfl⟩ (ba rfl rfl rfl) ⟨rfl,rfl,rfl⟩ ?_
           refine df hb94 rfl ⟨rfl,rfl⟩ (cg rfl) ⟨rfl,rfl,rfl⟩ ?_
           refine df hb94 rfl ⟨rfl,rfl⟩ (bD rfl) ⟨rfl,rfl,rfl⟩ ?_
           refine df hb94 rfl ⟨rfl,rfl⟩ (ba rfl rfl rfl) ⟨rfl,rfl,rfl⟩ ?_
           refine df hb94 rfl ⟨rfl,rfl⟩ (cg rfl) ⟨rfl,rfl,rfl⟩ ?_
           refine zd hr h fun hg96 h=>df hb94 rfl ⟨rfl,rfl⟩ (kZ rfl rfl hg96) ⟨rfl,rfl,rfl⟩ ?_
           refine df hb94 rfl ⟨rfl,rfl⟩ (bg rfl rfl rfl) ⟨rfl,rfl,rfl⟩ ?_
           refine zD rfl (cO hb94 rfl rfl) rfl (gU [y91,y92,y93,(((List.length p0.Body:Int)+(List.length p0.cd:Int))==0)] bu rfl (bM rfl) ⟨rfl,rfl⟩ ⟨rfl,rfl⟩ ?_)
           refine du rfl (bM rfl) hr h [0] Tryz.call61 (az n [y91,y92,y93,(((List.length p0.Body:Int)+(List.length p0.cd:Int))==0)] v8) ⟨rfl,rfl,rfl,rfl,rfl,rfl,trivial⟩ rfl rfl (fun _=>⟨rfl,rfl,rfl⟩) (fun _=>⟨rfl,rfl⟩) hp (fun y97 h=>⟨aH rfl,?_⟩)
           exact cr (hK13 _ _ _ h rfl)
     · refine aa (zm rfl (zf rfl (zl rfl (zc rfl (zm rfl (zb (decide (p0.Kind≥1)) (fun hb98=>?_) fun hb98=>?_))))))
       · refine z1 hb98 h fun h=>zG hb98 rfl (bD rfl) (zG hb98 rfl (ba rfl rfl rfl) (zG hb98 rfl (bg rfl rfl rfl) (zy hb98 rfl (bR [(decide (p0.Kind≤8))] bu ⟨rfl,rfl⟩ rfl ?_))))
         exact zk hp hr h [0] Tryz.call61 (az n [(decide (p0.Kind≤8))] v2) rfl (fun _=>rfl) fun y99 h=>ao (hK10 _ _ _ h rfl)
       · refine z2 hb98 h fun h=>zg hb98 rfl (zg hb98 rfl (zg hb98 rfl (zw hb98 rfl (bR [false] bu ⟨rfl,rfl⟩ rfl ?_))))
         exact zk hp hr h [0] Tryz.call61 (az n [false] v2) rfl (fun _=>rfl) fun y100 h=>ao (hK10 _ _ _ h rfl)
   · refine aa (zf rfl (zl rfl (zc rfl (zm rfl (zb (p0.Kind==5) (fun hb101=>?_) fun hb101=>?_)))))
     · exact z1 hb101 h fun h=>zg hb101 rfl (zg hb101 rfl (zg hb101 rfl (zy hb101 rfl (za rfl (ao (hK7 _ _ _ h rfl))))))
     · exact z2 hb101 h fun h=>zG hb101 rfl (bD rfl) (zG hb101 rfl (ba rfl rfl rfl) (zG hb101 rfl (bg rfl rfl rfl) (zw hb101 rfl (za rfl (ao (hK7 _ _ _ h rfl))))))
 · refine ag fun _ hK102=>aa (zm rfl (zc rfl (zQ hK102 (zB rfl h (fun _ h=>?_) fun _ h=>?_))))
   · exact aa (zm rfl (zn rfl (zf rfl (zs rfl (ao (hK4 _ _ _ h rfl))))))
   · exact ar (hK4 _ _ _ h rfl)
theorem o6 (n:Nat) (T:dA) (hT:fZ T) (p0:(List ax)) (p1:Bool) (p2:Int) (p3:al):CT Tryz.prog 64 [.ptr 0 0,.pv (.sl (List.length p0) (ax.Cs p0)),Bo p1,I p2] [.box (aG p3)] (gP n T p0 p1 p2 p3) (fun _=>.fH []) (fun x=>[.box (aG x)]):=by
 refine zC Tryz.func64 rfl fun r hp h hr E hE=>ag fun _ hK1=>aa (zm rfl (an (cg rfl) rfl (zm rfl (zQ hK1 (aC (zL hr h (fun (v2:al×Int)=>[(0,.ptr 0 0),(1,.pv (.sl (List.length p0) (ax.Cs p0))),(2,Bo p1),(3,I p2),(10,.pv (.sl (List.length p0) (ax.Cs p0))),(11,I (List.length p0:Int)),(12,I v2.2)]) (fun (v2:al×Int)=>[(0,.box (aG v2.1))]) rfl fun _ v2 _ hK4 h=>ag fun _ hK5=>aa (zc rfl (zQ hK5 (ag fun _ hK6=>zB rfl h (fun _ h=>?_) fun _ h=>?_)))))))))
 · refine ar (hK6 _ _ (ag fun _ hK8=>aC (ag fun _ hK9=>aa (ze hr h fun Er h11 h12 h13 h=>an (gx ax.bb ax.bP h11 h12 h13 rfl rfl rfl) rfl (an (gN rfl rfl) rfl ?_)))))
   refine aL 109 (hE _ rfl) ⟨rfl,rfl,rfl,rfl⟩ rfl ?_
   refine zs rfl (zQ hK9 (aa (zm rfl (zA rfl ?_))))
   exact zm rfl (zm rfl (zk hp hr h [0] Tryz.call113 (hT.eL Er p1 p2 v2.1) rfl (fun _=>rfl) fun y14 h=>zQ hK8 (aa (zd hr h fun hg15 h=>zo hg15 rfl (zm rfl (ao (hK4 _ _ _ h rfl)))))))
 · exact bp (zY .nil h rfl)
theorem pP (n:Nat) (T:dA) (hT:fZ T) (p0:aj) (p1:aP) (p2:al):CT Tryz.prog 78 [.ptr 0 0,.agg (aX p0),.agg (bB p1)] [.box (aG p2)] (hQ n T p0 p1 p2) (fun _=>.fH []) (fun x=>[.box (aG x)]):=by
 refine zC Tryz.func78 rfl fun r hp h hr E hE=>ag fun _ hK1=>aa (dP 104 (hE _ rfl) ⟨rfl,rfl,rfl,rfl,rfl,rfl,rfl⟩ rfl ?_)
 refine dP 105 (hE _ rfl) ⟨rfl,rfl,rfl,rfl,rfl,rfl,rfl⟩ rfl ?_
 refine zQ hK1 (zM h (fun (v2:al)=>[(0,.ptr 0 0),(1,.agg (aX p0)),(2,.agg (bB p1)),(4,.ptr 104 0),(5,.ptr 105 0)]) (fun (v2:al)=>[(0,.box (aG v2)),(104,.box (aX p0)),(105,.box (bB p1))]) (fun v2 h=>?_) fun _ _ hK4 h=>?_)
 · refine ag fun _ hK5=>aa (zm rfl (zA rfl ?_))
   refine zA rfl ?_
   refine zk hp hr h [0] Tryz.call120 (rj n p0 p1 v2) rfl (fun _=>rfl) fun y6 h=>zQ hK5 (ag fun _ hK7=>ag fun _ hK8=>aa (zf rfl (zl rfl (an (cg rfl) rfl (zm rfl (zQ hK8 (aC (zL hr h (fun (v9:al×Int)=>[(0,.ptr 0 0),(1,.agg (aX p0)),(2,.agg (bB p1)),(4,.ptr 104 0),(5,.ptr 105 0),(19,.pv (.sl (List.length p0.aW) (aj.Cs p0.aW))),(20,I (List.length p0.aW:Int)),(21,I v9.2)]) (fun (v9:al×Int)=>[(0,.box (aG v9.1)),(104,.box (aX p0)),(105,.box (bB p1))]) rfl fun _ v9 _ hK11 h=>ag fun _ hK12=>aa (zc rfl (zQ hK12 (ag fun _ hK13=>zB rfl h (fun _ h=>?_) fun _ h=>?_)))))))))))
   · refine ar (hK13 _ _ (zM h (fun (v15:al)=>[(0,.ptr 0 0),(1,.agg (aX p0)),(2,.agg (bB p1)),(4,.ptr 104 0),(5,.ptr 105 0),(19,.pv (.sl (List.length p0.aW) (aj.Cs p0.aW))),(20,I (List.length p0.aW:Int)),(21,I v9.2)]) (fun (v15:al)=>[(0,.box (aG v15)),(104,.box (aX p0)),(105,.box (bB p1))]) (fun v15 h=>?_) fun _ _ hK17 h=>?_))
     · exact aa (zd hr h fun hg18 h=>zo hg18 rfl (zm rfl (ao (hK11 _ _ _ h rfl))))
     · refine aC (ag fun _ hK19=>aa (zm rfl (ze hr h fun x20 h21 h22 h23 h=>an (gx aj.bb aj.bP h21 h22 h23 rfl rfl rfl) rfl (an (gN rfl rfl) rfl ?_))))
       refine aL 107 (hE _ rfl) ⟨rfl,rfl,rfl,rfl⟩ rfl ?_
       refine za rfl (zs rfl (zQ hK19 (aa (zm rfl (zA rfl ?_)))))
       refine zf rfl (zl rfl (zc rfl (zm rfl (zb (p0.Kind==16) (fun hb24=>?_) fun hb24=>?_))))
       · refine z1 hb24 h fun h=>zG hb24 rfl (bD rfl) (zG hb24 rfl (ba rfl rfl rfl) (zy hb24 rfl (zm rfl (zb p1.k4 (fun hb25=>?_) fun hb25=>?_))))
         · refine z1 hb25 h fun h=>zg hb25 rfl (zg hb25 rfl (zg hb25 rfl (zy hb25 rfl (zf rfl (zl rfl (zc rfl (zf rfl (zl rfl (zc rfl (zm rfl (zb (p0.Kind==14) (fun hb26=>?_) fun hb26=>?_)))))))))))
           · refine z1 hb26 h fun h=>zG hb26 rfl (bD rfl) (zG hb26 rfl (ba rfl rfl rfl) (zG hb26 rfl (bg rfl rfl rfl) (zG hb26 rfl (au rfl) (zb (p0.je==0) (fun hb27=>?_) fun hb27=>?_))))
             · refine z1 hb27 h fun h=>zg hb27 rfl (zg hb27 rfl (zg hb27 rfl (zg hb27 rfl (zg hb27 rfl (zg hb27 rfl (zG hb26 rfl (cT hb27 rfl rfl) (zy hb26 rfl (zf rfl (zl rfl (an (iP rfl rfl) rfl (an (bE rfl rfl rfl) rfl ?_)))))))))))
               exact zk hp hr h [0] Tryz.call78 (hT.aN x20 (aP.mk true (p0.Kind==17) true (IntKind.wrap .i64 (p1.level+1))) v9.1) rfl (fun _=>rfl) fun y28 h=>ao (hK17 _ _ _ h rfl)
             · refine z2 hb27 h fun h=>zG hb27 rfl (au rfl) (zd hr h fun hg29 h=>zG hb27 rfl (kZ rfl rfl hg29) (zG hb27 rfl (bD rfl) (zG hb27 rfl (ba rfl rfl rfl) (zG hb27 rfl (cg rfl) (zG hb27 rfl (bg rfl rfl rfl) (zG hb26 rfl (cO hb27 rfl rfl) (zy hb26 rfl (zf rfl (zl rfl (an (iP rfl rfl) rfl (an (bE rfl rfl rfl) rfl ?_)))))))))))
               exact zk hp hr h [0] Tryz.call78 (hT.aN x20 (aP.mk true (p0.Kind==17) (decide ((v9.2+1)<(List.length p0.aW:Int))) (IntKind.wrap .i64 (p1.level+1))) v9.1) rfl (fun _=>rfl) fun y30 h=>ao (hK17 _ _ _ h rfl)
           · refine z2 hb26 h fun h=>zg hb26 rfl (zg hb26 rfl (zg hb26 rfl (zg hb26 rfl (zu rfl (zu rfl (zu rfl (zu rfl (zu rfl (zu rfl (zg hb26 rfl (zw hb26 rfl (zf rfl (zl rfl (an (iP rfl rfl) rfl (an (bE rfl rfl rfl) rfl ?_)))))))))))))))
             exact zk hp hr h [0] Tryz.call78 (hT.aN x20 (aP.mk true (p0.Kind==17) false (IntKind.wrap .i64 (p1.level+1))) v9.1) rfl (fun _=>rfl) fun y31 h=>ao (hK17 _ _ _ h rfl)
         · refine z2 hb25 h fun h=>zG hb25 rfl (bD rfl) (zG hb25 rfl (ba rfl rfl rfl) (zG hb25 rfl (bg rfl rfl rfl) (zw hb25 rfl (zf rfl (zl rfl (zc rfl (zf rfl (zl rfl (zc rfl (zm rfl (zb (p0.Kind==14) (fun hb32=>?_) fun hb32=>?_)))))))))))
           · refine z1 hb32 h fun h=>zG hb32 rfl (bD rfl) (zG hb32 rfl (ba rfl rfl rfl) (zG hb32 rfl (bg rfl rfl rfl) (zG hb32 rfl (au rfl) (zb (p0.je==0) (fun hb33=>?_) fun hb33=>?_))))
             · refine z1 hb33 h fun h=>zg hb33 rfl (zg hb33 rfl (zg hb33 rfl (zg hb33 rfl (zg hb33 rfl (zg hb33 rfl (zG hb32 rfl (cT hb33 rfl rfl) (zy hb32 rfl (zf rfl (zl rfl (an (iP rfl rfl) rfl (an (bE rfl rfl rfl) rfl ?_)))))))))))
               exact zk hp hr h [0] Tryz.call78 (hT.aN x20 (aP.mk (p0.Kind==10) (p0.Kind==17) true (IntKind.wrap .i64 (p1.level+1))) v9.1) rfl (fun _=>rfl) fun y34 h=>ao (hK17 _ _ _ h rfl)
             · refine z2 hb33 h fun h=>zG hb33 rfl (au rfl) (zd hr h fun hg35 h=>zG hb33 rfl (kZ rfl rfl hg35) (zG hb33 rfl (bD rfl) (zG hb33 rfl (ba rfl rfl rfl) (zG hb33 rfl (cg rfl) (zG hb33 rfl (bg rfl rfl rfl) (zG hb32 rfl (cO hb33 rfl rfl) (zy hb32 rfl (zf rfl (zl rfl (an (iP rfl rfl) rfl (an (bE rfl rfl rfl) rfl ?_)))))))))))
               exact zk hp hr h [0] Tryz.call78 (hT.aN x20 (aP.mk (p0.Kind==10) (p0.Kind==17) (decide ((v9.2+1)<(List.length p0.aW:Int))) (IntKind.wrap .i64 (p1.level+1))) v9.1) rfl (fun _=>rfl) fun y36 h=>ao (hK17 _ _ _ h rfl)
           · refine z2 hb32 h fun h=>zg hb32 rfl (zg hb32 rfl (zg hb32 rfl (zg hb32 rfl (zu rfl (zu rfl (zu rfl (zu rfl (zu rfl (zu rfl (zg hb32 rfl (zw hb32 rfl (zf rfl (zl rfl (an (iP rfl rfl) rfl (an (bE rfl rfl rfl) rfl ?_)))))))))))))))
             exact zk hp hr h [0] Tryz.call78 (hT.aN x20 (aP.mk (p0.Kind==10) (p0.Kind==17) false (IntKind.wrap .i64 (p1.level+1))) v9.1) rfl (fun _=>rfl) fun y37 h=>ao (hK17 _ _ _ h rfl)
       · refine z2 hb24 h fun h=>zg hb24 rfl (zg hb24 rfl (zw hb24 rfl (zm rfl (zG rfl rfl (bD rfl) (zG rfl rfl (ba rfl rfl rfl) (zG rfl rfl (bg rfl rfl rfl) (an (dv rfl rfl) rfl (zf rfl (zl rfl (zc rfl (zf rfl (zl rfl (zc rfl (zm rfl (zb (p0.Kind==14) (fun hb38=>?_) fun hb38=>?_)))))))))))))))
         · refine z1 hb38 h fun h=>zG hb38 rfl (bD rfl) (zG hb38 rfl (ba rfl rfl rfl) (zG hb38 rfl (bg rfl rfl rfl) (zG hb38 rfl (au rfl) (zb (p0.je==0) (fun hb39=>?_) fun hb39=>?_))))
           · refine z1 hb39 h fun h=>zg hb39 rfl (zg hb39 rfl (zg hb39 rfl (zg hb39 rfl (zg hb39 rfl (zg hb39 rfl (zG hb38 rfl (cT hb39 rfl rfl) (zy hb38 rfl (zf rfl (zl rfl (an (iP rfl rfl) rfl (an (bE rfl rfl rfl) rfl ?_)))))))))))
             exact zk hp hr h [0] Tryz.call78 (hT.aN x20 (aP.mk (p0.Kind==10) (p0.Kind==17) true (IntKind.wrap .i64 (p1.level+1))) v9.1) rfl (fun _=>rfl) fun y40 h=>ao (hK17 _ _ _ h rfl)
           · refine z2 hb39 h fun h=>zG hb39 rfl (au rfl) (zd hr h fun hg41 h=>zG hb39 rfl (kZ rfl rfl hg41) (zG hb39 rfl (bD rfl) (zG hb39 rfl (ba rfl rfl rfl) (zG hb39 rfl (cg rfl) (zG hb39 rfl (bg rfl rfl rfl) (zG hb38 rfl (cO hb39 rfl rfl) (zy hb38 rfl (zf rfl (zl rfl (an (iP rfl rfl) rfl (an (bE rfl rfl rfl) rfl ?_)))))))))))
             exact zk hp hr h [0] Tryz.call78 (hT.aN x20 (aP.mk (p0.Kind==10) (p0.Kind==17) (decide ((v9.2+1)<(List.length p0.aW:Int))) (IntKind.wrap .i64 (p1.level+1))) v9.1) rfl (fun _=>rfl) fun y42 h=>ao (hK17 _ _ _ h rfl)
         · refine z2 hb38 h fun h=>zg hb38 rfl (zg hb38 rfl (zg hb38 rfl (zg hb38 rfl (zu rfl (zu rfl (zu rfl (zu rfl (zu rfl (zu rfl (zg hb38 rfl (zw hb38 rfl (zf rfl (zl rfl (an (iP rfl rfl) rfl (an (bE rfl rfl rfl) rfl ?_)))))))))))))))
           exact zk hp hr h [0] Tryz.call78 (hT.aN x20 (aP.mk (p0.Kind==10) (p0.Kind==17) false (IntKind.wrap .i64 (p1.level+1))) v9.1) rfl (fun _=>rfl) fun y43 h=>ao (hK17 _ _ _ h rfl)
   · exact bp (hK7 _ _ (aa (zm rfl (zf rfl (zl rfl (zf rfl (zl rfl (zc rfl (zf rfl (zl rfl (an (iP rfl rfl) rfl (zk hp hr h [0] Tryz.call64 (hT.cF p0.Decls (p0.Kind==13) (IntKind.wrap .i64 (p1.level+1)) v9.1) rfl (fun _=>rfl) fun y44 h=>ao (zY .nil h rfl)))))))))))))
 · refine ag fun _ hK45=>aa (zf rfl (zl rfl (zc rfl (zQ hK45 (zB rfl h (fun _ h=>?_) fun _ h=>?_)))))
   · exact aa (zm rfl (zn rfl (zf rfl (zs rfl (ao (hK4 _ _ _ h rfl))))))
   · exact ar (hK4 _ _ _ h rfl)
theorem eQ:∀ n,fZ (b4 n)
 | 0=>⟨fun _ _ _ _=>ch,fun _ _ _ _=>ch,fun _ _ _=>ch⟩
 | n+1=>⟨fun p0 p1 p2 p3=>pO n _ (eQ n) p0 p1 p2 p3,fun p0 p1 p2 p3=>o6 n _ (eQ n) p0 p1 p2 p3,fun p0 p1 p2=>pP n _ (eQ n) p0 p1 p2⟩
theorem pQ (n:Nat) (p0:(List ax)) (p1:Bool) (p2:Int) (p3:al):CT Tryz.prog 64 [.ptr 0 0,.pv (.sl (List.length p0) (ax.Cs p0)),Bo p1,I p2] [.box (aG p3)] (cF n p0 p1 p2 p3) (fun _=>.fH []) (fun x=>[.box (aG x)]):=(eQ n).cF p0 p1 p2 p3
theorem qt (n:Nat) (p0:aj) (p1:aP) (p2:al):CT Tryz.prog 78 [.ptr 0 0,.agg (aX p0),.agg (bB p1)] [.box (aG p2)] (aN n p0 p1 p2) (fun _=>.fH []) (fun x=>[.box (aG x)]):=(eQ n).aN p0 p1 p2
def kl (n:Nat) (p0:aj):aq (Int):=
 aq.bind (aN n p0 (aP.mk true false false 1) (al.mk false false)) fun y4=>aq.bind (gw y4) fun y6=>.ok (y6.1)
theorem sd (n:Nat) (p0:aj):CT Tryz.prog 36 [.agg (aX p0)] [] (kl n p0) (fun x=>I x) (fun _=>[]):=by
 refine zC Tryz.func36 rfl fun r hp h hr E hE=>ag fun _ hK1=>aa (dP 101 (hE _ rfl) ⟨rfl,rfl,rfl,rfl,rfl,rfl,rfl⟩ rfl ?_)
 refine za rfl (zQ hK1 (ag fun _ hK2=>aa (an (bE rfl rfl rfl) rfl ?_)))
 refine dP 105 (hE _ rfl) ⟨rfl,rfl,rfl,rfl,rfl,rfl,rfl⟩ rfl ?_
 refine za rfl (zQ hK2 (ag fun _ hK3=>aa (zm rfl (zA rfl ?_))))
 refine an (bE rfl rfl rfl) rfl ?_
 exact zk hp hr h [105] Tryz.call78 (qt n p0 (aP.mk true false false 1) (al.mk false false)) rfl (fun _=>rfl) fun y4 h=>zQ hK3 (ag fun _ hK5=>aa (zm rfl (zk hp hr h [105] Tryz.call65 (lg y4) rfl (fun _=>rfl) fun y6 h=>za rfl (zQ hK5 (aw (zX (.cons (ay rfl) .nil) h rfl))))))
def mj (n:Nat) (p0:(List UInt8)):aq (aj×eb):=
 aq.bind (gD n p0) fun y3=>br (y3.2.Errno !=0) (.ok ((aj.mk 0 [] 0 [] [] [] [] [] 0),y3.2)) (nv (aq.bind (aD n true (ab.mk p0 y3.1 0 0 false none)) fun y11=>jn (fun (v12:ab)=>jn (fun (_:Unit)=>aq.bind (kl n y11.1) fun y20=>br (y20==9) (.ok ((aj.mk 0 [] 0 [] [] [] [] [] 0),(eb.mk 9 0))) (.ok (y11.1,(eb.mk 0 0)))) fun j16=>aq.bind (aE n v12) fun y26=>br (y26.1.Kind !=0) (aq.bind (be n (ab.mk y26.2.text y26.2.bd y26.2.at_ v12.base y26.2.skip y26.2.pending)) fun _=>j16 ()) (j16 ())) fun j13=>aq.bind (aE n y11.2) fun y32=>br (y32.1.Kind==7) (gd (bA (y32.2.at_+1)) (j13 ((ab.mk y32.2.text y32.2.bd (y32.2.at_+1) y11.2.base y32.2.skip y32.2.pending)))) (j13 ((ab.mk y32.2.text y32.2.bd y32.2.at_ y11.2.base y32.2.skip y32.2.pending)))) (fun p=>r6 86 p fun v37=>aq.bind (k5 v37) fun y38=>.ok (y38.1,y38.2)))
theorem rT (n:Nat) (p0:(List UInt8)):CT Tryz.prog 15 [aY p0] [] (mj n p0) (fun x=>.fH [.agg (aX x.1),.agg [I x.2.Errno,I x.2.At]]) (fun _=>[]):=by
 refine rq Tryz.func15 rfl rfl fun r h hr E hE=>?_
 refine ag fun _ hK1=>aa (aL 102 (hE _ rfl) ⟨rfl,rfl,rfl,rfl⟩ rfl ?_)
 refine aL 103 (hE _ rfl) ⟨rfl,rfl,rfl,rfl⟩ rfl ?_
 refine zQ hK1 (ag fun _ hK2=>aa (zm rfl (iQ hr h [] Tryz.call24 (pE n p0) ⟨rfl,rfl,rfl,rfl,rfl,rfl,trivial⟩ rfl (fun _=>⟨rfl,rfl,rfl⟩) (fun _=>⟨rfl,rfl⟩) (fun _ _ _ hd hp=>tP (P:=Tryz.prog) (fn:=Tryz.f15) hd hp) (fun y3 h=>?_))))
 refine zm rfl (zx rfl (zx rfl (za rfl (zs rfl (zQ hK2 (ag fun _ hK4=>ag fun _ hK5=>aa (zf rfl (zl rfl (zc rfl (zQ hK5 (zB rfl h (fun _ h=>?_) fun _ h=>?_)))))))))))
 · refine ag fun _ hK7=>bz [0,1,2,3] rfl (by kernel_rfl) (zD rfl (dm rfl rfl) rfl ?_)
   refine zD rfl (jy rfl rfl rfl rfl) rfl ?_
   refine bV rfl ⟨rfl,rfl,rfl,rfl,rfl,rfl,rfl,rfl⟩ rfl (fun e2 he=>⟨cC ⟨⟨⟨_,rfl,aZ.le_refl _⟩,trivial⟩,⟨trivial,trivial⟩⟩,?_⟩)
   subst he
   refine bV rfl ⟨rfl,rfl,rfl,rfl,rfl,rfl,rfl,rfl⟩ rfl (fun e3 he=>⟨aH rfl,?_⟩)
   subst he
   refine cr (hK7 _ _ (bQ (jb 102 rfl rfl) ?_))
   exact aw (ss (n:=Tryz.f15.ntmps) (.inl rfl) (lX (.inl rfl) _ (.cons (aT rfl rfl rfl) (.cons (aT rfl rfl rfl) .nil)) h.symm (AV.le_refl _) trivial))
 · refine ar (hK4 _ _ (ag fun _ hK8=>aa (an (oO rfl rfl) rfl ?_)))
   refine wy rfl ?_
   have hrO:=hr
   obtain ⟨r,hr,h,hc⟩:=tO hr h
   refine zQ hK8 (ag fun _ hK9=>aa (zm rfl (zm rfl (an (dm rfl rfl) rfl ?_))))
   refine dP 120 (hE _ rfl) ⟨rfl,rfl,rfl,rfl,rfl,rfl,rfl⟩ rfl ?_
   refine za rfl (zQ hK9 (ag fun _ hK10=>aa (zm rfl (aS (jb 120 rfl rfl) ?_))))
   refine oj hr h [120] Tryz.call33 (re n true (ab.mk p0 y3.1 0 0 false none)) ⟨rfl,rfl,rfl,rfl,rfl,rfl,trivial⟩ rfl rfl (fun _=>⟨rfl,rfl,rfl⟩) (fun _=>⟨rfl,rfl⟩) rfl (fun p hp=>?_) (fun y11 h=>?_)
   · obtain ⟨v36,rfl,hc⟩:=lF hrO (k2 hc hp)
     obtain ⟨hns,hok,_⟩:=jU hrO hc
     repeat (first|refine k3 ?_|refine jW ?_)
     refine gV (n:=Tryz.f15.ntmps) [102,103] Tryz.call32 (gK v36) hns rfl ⟨rfl,rfl,rfl,rfl⟩ (fun _=>⟨rfl,rfl⟩) (fun x hx=>?_)
     exact fw (.inl rfl) _ (.cons (aT rfl rfl rfl) (.cons (aT rfl rfl rfl) .nil)) (hok x hx).symm (AV.le_refl _) trivial
   · refine zs rfl (zQ hK10 (zM h (fun (v12:ab)=>[(0,aY p0),(2,.ptr 102 0),(3,.ptr 103 0),(5,.ptr 120 0)]) (fun (v12:ab)=>[(102,.box (aX y11.1)),(103,.box [I y3.2.Errno,I y3.2.At]),(120,.box (ah v12))]) (fun v12 h=>?_) fun _ _ hK14 h=>?_))
     · refine zM h (fun (v15:Unit)=>[(0,aY p0),(2,.ptr 102 0),(3,.ptr 103 0)]) (fun (v15:Unit)=>[(102,.box (aX y11.1)),(103,.box [I y3.2.Errno,I y3.2.At])]) (fun v15 h=>?_) fun _ _ hK17 h=>?_
       · refine ag fun _ hK18=>ag fun _ hK19=>aa (zA rfl ?_)
         refine oj hr h [] Tryz.call36 (sd n y11.1) ⟨rfl,rfl,rfl,rfl,rfl,rfl,trivial⟩ rfl rfl (fun _=>⟨rfl,rfl,rfl⟩) (fun _=>⟨rfl,rfl⟩) rfl (fun p hp=>?_) (fun y20 h=>?_)
         · obtain ⟨v24,rfl,hc⟩:=lF hrO (k2 hc hp)
           obtain ⟨hns,hok,_⟩:=jU hrO hc
           repeat (first|refine k3 ?_|refine jW ?_)
           refine gV (n:=Tryz.f15.ntmps) [102,103] Tryz.call32 (gK v24) hns rfl ⟨rfl,rfl,rfl,rfl⟩ (fun _=>⟨rfl,rfl⟩) (fun x hx=>?_)
           exact fw (.inl rfl) _ (.cons (aT rfl rfl rfl) (.cons (aT rfl rfl rfl) .nil)) (hok x hx).symm (AV.le_refl _) trivial
         · refine zc rfl (zQ hK19 (zB rfl h (fun _ h=>?_) fun _ h=>?_))
           · refine ag fun _ hK22=>aa (an (dm rfl rfl) rfl ?_)
             refine an (bE rfl rfl rfl) rfl ?_
             refine zs rfl (zs rfl (zQ hK22 (bQ (jb 102 rfl rfl) ?_)))
             refine aw (kL (n:=Tryz.f15.ntmps) (.inl rfl) [102,103] Tryz.call32 (lx [.box [I 0,aY [],I 0,aY [],aY [],.pv (.sl (List.length ([]:List aj)) (aj.Cs [])),.pv (.sl (List.length ([]:List ax)) (ax.Cs [])),.pv (.sl (List.length ([]:List (List UInt8))) (bX [])),I 0],.box [I 9,I 0]]) ⟨rfl,rfl,rfl,rfl⟩ rfl rfl ?_)
             exact fw (.inl rfl) _ (.cons (aT rfl rfl rfl) (.cons (aT rfl rfl rfl) .nil)) (pr hc h.symm) (AV.le_refl _) trivial
           · refine ar (hK18 _ _ (ag fun _ hK23=>aa (zA rfl ?_)))
             refine an (bE rfl rfl rfl) rfl ?_
             refine zs rfl (zs rfl (zQ hK23 (aw (kL (n:=Tryz.f15.ntmps) (.inl rfl) [102,103] Tryz.call32 (lx [.box (aX y11.1),.box [I 0,I 0]]) ⟨rfl,rfl,rfl,rfl⟩ rfl rfl ?_))))
             exact fw (.inl rfl) _ (.cons (aT rfl rfl rfl) (.cons (aT rfl rfl rfl) .nil)) (pr hc h.symm) (AV.le_refl _) trivial
       · refine ag fun _ hK25=>aa (zm rfl (oj hr h [120] Tryz.call34 (aI n v12) ⟨rfl,rfl,rfl,rfl,rfl,rfl,trivial⟩ rfl rfl (fun _=>⟨rfl,rfl,rfl⟩) (fun _=>⟨rfl,rfl⟩) rfl (fun p hp=>?_) (fun y26 h=>?_)))
         · obtain ⟨v30,rfl,hc⟩:=lF hrO (k2 hc hp)
           obtain ⟨hns,hok,_⟩:=jU hrO hc
           repeat (first|refine k3 ?_|refine jW ?_)
           refine gV (n:=Tryz.f15.ntmps) [102,103] Tryz.call32 (gK v30) hns rfl ⟨rfl,rfl,rfl,rfl⟩ (fun _=>⟨rfl,rfl⟩) (fun x hx=>?_)
           exact fw (.inl rfl) _ (.cons (aT rfl rfl rfl) (.cons (aT rfl rfl rfl) .nil)) (hok x hx).symm (AV.le_refl _) trivial
         · refine an (jV rfl rfl) rfl ?_
           refine zc rfl (zQ hK25 (zB rfl h (fun _ h=>?_) fun _ h=>?_))
           · refine aa (zm rfl (oj hr h [120] Tryz.call35 (bt n (ab.mk y26.2.text y26.2.bd y26.2.at_ v12.base y26.2.skip y26.2.pending)) ⟨rfl,rfl,rfl,rfl,rfl,rfl,trivial⟩ rfl rfl (fun _=>⟨rfl,rfl,rfl⟩) (fun _=>⟨rfl,rfl⟩) rfl (fun p hp=>?_) (fun y28 h=>?_)))
             · obtain ⟨v29,rfl,hc⟩:=lF hrO (k2 hc hp)
               obtain ⟨hns,hok,_⟩:=jU hrO hc
               repeat (first|refine k3 ?_|refine jW ?_)
               refine gV (n:=Tryz.f15.ntmps) [102,103] Tryz.call32 (gK v29) hns rfl ⟨rfl,rfl,rfl,rfl⟩ (fun _=>⟨rfl,rfl⟩) (fun x hx=>?_)
               exact fw (.inl rfl) _ (.cons (aT rfl rfl rfl) (.cons (aT rfl rfl rfl) .nil)) (hok x hx).symm (AV.le_refl _) trivial
             · exact ao (hK17 _ _ _ h rfl)
           · exact ar (hK17 _ _ _ h rfl)
     · refine ag fun _ hK31=>aa (zm rfl (oj hr h [120] Tryz.call34 (aI n y11.2) ⟨rfl,rfl,rfl,rfl,rfl,rfl,trivial⟩ rfl rfl (fun _=>⟨rfl,rfl,rfl⟩) (fun _=>⟨rfl,rfl⟩) rfl (fun p hp=>?_) (fun y32 h=>?_)))
       · obtain ⟨v35,rfl,hc⟩:=lF hrO (k2 hc hp)
         obtain ⟨hns,hok,_⟩:=jU hrO hc
         repeat (first|refine k3 ?_|refine jW ?_)
         refine gV (n:=Tryz.f15.ntmps) [102,103] Tryz.call32 (gK v35) hns rfl ⟨rfl,rfl,rfl,rfl⟩ (fun _=>⟨rfl,rfl⟩) (fun x hx=>?_)
         exact fw (.inl rfl) _ (.cons (aT rfl rfl rfl) (.cons (aT rfl rfl rfl) .nil)) (hok x hx).symm (AV.le_refl _) trivial
       · refine an (jV rfl rfl) rfl ?_
         refine zc rfl (zQ hK31 (zB rfl h (fun _ h=>?_) fun _ h=>?_))
         · exact aa (zm rfl (zn rfl (zf rfl (zl rfl (zd hr h fun hg34 h=>zo hg34 rfl (zn rfl (zf rfl (zs rfl (ao (hK14 _ _ _ h rfl))))))))))
         · exact ar (hK14 _ _ _ h rfl)
def oa (v:Int):aq (gJ×eb):=
 aq.bind (jE (gi.mk v)) fun y2=>.ok ((gJ.mk [] [] [] []),y2)
theorem mK (v:Int):z7 Tryz.prog 25 [.ptr 0 0,.ptr 1 0] [.box [.any,.any,.any,.any],.box [.any,.any]] (some (.iface 86 (.agg #[.int .i64 v]))) (oa v) (fun x=>[.box (mz x.1),.box [I x.2.Errno,I x.2.At]]):=by
 refine l0 (m:=some (.iface 86 (.agg #[.int .i64 v]))) (mv:=.lr 86 (.agg [I v])) (fun g=>.lr 86 (.agg (.cons (.pv (.sc _)) .nil))) Tryz.func25 rfl rfl rfl fun r h hr E hE=>?_
 refine ag fun _ hK1=>aa (zm rfl (an (sW rfl rfl) rfl (zQ hK1 (cN rfl (fun hc=>?_) (fun hc=>?_)))))
 · refine aa (an (dm rfl rfl) rfl ?_)
   refine zm rfl (Bq hr h [] Tryz.call26 (pY (gi.mk v)) ⟨rfl,rfl,rfl,rfl,rfl,rfl,trivial⟩ rfl (fun _=>⟨rfl,rfl,rfl⟩) (fun _=>⟨rfl,rfl⟩) (oS (gi.mk v)) (fun y2 h=>?_))
   refine zs rfl (zs rfl (aS (jb 0 rfl rfl) ?_))
   exact ao (rr (.inr rfl) _ h.symm ⟨rfl,rfl,trivial⟩)
 · exact absurd (hc) (by simp)
theorem lA (es:List aZ):z7 Tryz.prog 25 [.ptr 0 0,.ptr 1 0] es none (aq.ok ()) (fun _=>es):=by
 refine l0 (m:=none) (mv:=Sc .nilIface) (fun g=>.pv (.sc _)) Tryz.func25 rfl rfl rfl fun r h hr E hE=>?_
 refine ag fun _ hK1=>aa (zm rfl (an (sX rfl) rfl (zQ hK1 (cN rfl (fun hc=>?_) (fun hc=>?_)))))
 · exact absurd (hc) (by simp)
 · exact ar (nV h)
def js (n:Nat) (p0:ab):aq ((List (List UInt8))×ab):=
 iter (fun next5 (v4:ab×(List (List UInt8)))=>aq.bind (aE n v4.1) fun y9=>br (y9.1.Kind==6) (jn (fun (v11:ab)=>aq.bind (aE n v11) fun y15=>gd (cB 16 (List.length v4.2) (List.length [y15.1.Text])) (gd (bA (y15.2.at_+1)) (next5 ((ab.mk y15.2.text y15.2.bd (y15.2.at_+1) v11.base y15.2.skip y15.2.pending),v4.2++[y15.1.Text])))) fun j12=>aq.bind (dB n (ab.mk y9.2.text y9.2.bd y9.2.at_ v4.1.base y9.2.skip y9.2.pending)) fun y19=>br (!y19.1) (aq.bind (be n y19.2) fun y21=>j12 (y21)) (j12 (y19.2))) (.ok (v4.2,(ab.mk y9.2.text y9.2.bd y9.2.at_ v4.1.base y9.2.skip y9.2.pending)))) n (p0,[])
theorem oD (n:Nat) (p0:ab):CT Tryz.prog 55 [.ptr 0 0] [.box (ah p0),.app 9 1 (bX [])] (js n p0) (fun x=>.arr 1 (List.length x.1)) (fun x=>[.box (ah x.2),.app 9 1 (bX x.1)]):=by
 refine zC Tryz.func55 rfl fun r hp h hr E hE=>ag fun _ hK1=>aa (za rfl (zQ hK1 (ag fun _ hK2=>aa (za rfl (zQ hK2 (ag fun _ hK3=>aC (bQ (r5 (d:=3) 10003 (sz:=1) (el:=9) (hE _ rfl) rfl ⟨rfl,rfl,rfl⟩) ?_)))))))
 refine zL hr h (fun (v4:ab×(List (List UInt8)))=>[(0,.ptr 0 0),(3,.arr 10003 (List.length v4.2))]) (fun (v4:ab×(List (List UInt8)))=>[(0,.box (ah v4.1)),(10003,.app 9 1 (bX v4.2))]) rfl fun _ v4 _ hK6 h=>ag fun _ hK7=>ag fun _ hK8=>aa (zm rfl (zk hp hr h [0] Tryz.call34 (aI n v4.1) rfl (fun _=>rfl) fun y9 h=>an (jV rfl rfl) rfl ?_))
 refine zc rfl (zQ hK8 (zB rfl h (fun _ h=>?_) fun _ h=>?_))
 · refine ar (hK7 _ _ (aC (zM h (fun (v11:ab)=>[(0,.ptr 0 0),(3,.arr 10003 (List.length v4.2))]) (fun (v11:ab)=>[(0,.box (ah v11)),(10003,.app 9 1 (bX v4.2))]) (fun v11 h=>?_) fun _ _ hK13 h=>?_)))
   · refine ag fun _ hK14=>aa (zm rfl (zm rfl (zk hp hr h [0] Tryz.call34 (aI n v11) rfl (fun _=>rfl) fun y15 h=>an (jV rfl rfl) rfl ?_)))
     refine bR [y15.1.Text] eX ⟨rfl,rfl⟩ rfl ?_
     refine zd hr h fun hg16 h=>lE 118 ⟨jH.h,eu.h,eX,gI,qP,hE _ rfl,rfl,rfl,(.inl rfl),⟨rfl,rfl,rfl⟩,hg16⟩ rfl ?_
     refine za rfl (aS (kn 118 10003 [(0,.ptr 0 0),(3,.arr 10003 (List.length (v4.2++[y15.1.Text])))] [(0,.box [aY y15.2.text,.pv (.sl (List.length y15.2.bd) (aK.Cs y15.2.bd)),I y15.2.at_,I v11.base,Bo y15.2.skip,.pv (.pt (Option.map aj.C y15.2.pending))])] (hE _ rfl) rfl rfl ⟨rfl,rfl⟩ ⟨⟨_,rfl,rfl,rfl⟩,⟨_,rfl,rfl,rfl⟩,trivial⟩ ⟨⟨_,rfl,rfl,rfl,rfl,rfl⟩,trivial⟩) ?_)
     exact zQ hK14 (aa (zm rfl (zn rfl (zf rfl (zl rfl (zd hr h fun hg17 h=>zo hg17 rfl (zn rfl (zf rfl (zs rfl (ao (hK6 _ _ _ h rfl)))))))))))
   · refine ag fun _ hK18=>aa (zm rfl (zk hp hr h [0] Tryz.call103 (hO n (ab.mk y9.2.text y9.2.bd y9.2.at_ v4.1.base y9.2.skip y9.2.pending)) rfl (fun _=>rfl) fun y19 h=>an (eG rfl) rfl (zQ hK18 (zB rfl h (fun _ h=>?_) fun _ h=>?_))))
     · exact aa (zm rfl (zk hp hr h [0] Tryz.call35 (bt n y19.2) rfl (fun _=>rfl) fun y21 h=>ao (hK13 _ _ _ h rfl)))
     · exact ar (hK13 _ _ _ h rfl)
 · refine bp (hK3 _ _ (ag fun _ hK22=>aa (zm rfl (za rfl (zQ hK22 (bQ (kn 10003 1 [(0,.ptr 0 0),(2,.arr 1 (List.length v4.2))] [(0,.box [aY y9.2.text,.pv (.sl (List.length y9.2.bd) (aK.Cs y9.2.bd)),I y9.2.at_,I v4.1.base,Bo y9.2.skip,.pv (.pt (Option.map aj.C y9.2.pending))])] (hE _ rfl) rfl rfl ⟨rfl,rfl⟩ ⟨⟨_,rfl,rfl,rfl⟩,⟨_,rfl,rfl,rfl⟩,trivial⟩ ⟨⟨_,rfl,rfl,rfl,rfl,rfl⟩,trivial⟩) ?_))))))
   exact aw (zX (.cons (ay rfl) .nil) h rfl)
def ko (n:Nat) (p0:ab):aq ((List (List UInt8))×ab):=
 iter (fun next5 (v4:ab×(List (List UInt8)))=>aq.bind (aE n v4.1) fun y9=>br (y9.1.Kind==6) (jn (fun (v11:ab)=>aq.bind (aE n v11) fun y15=>gd (cB 16 (List.length v4.2) (List.length [y15.1.Text])) (gd (bA (y15.2.at_+1)) (next5 ((ab.mk y15.2.text y15.2.bd (y15.2.at_+1) v11.base y15.2.skip y15.2.pending),v4.2++[y15.1.Text])))) fun j12=>aq.bind (dB n (ab.mk y9.2.text y9.2.bd y9.2.at_ v4.1.base y9.2.skip y9.2.pending)) fun y19=>br (!y19.1) (aq.bind (be n y19.2) fun y21=>j12 (y21)) (j12 (y19.2))) (.ok (v4.2,(ab.mk y9.2.text y9.2.bd y9.2.at_ v4.1.base y9.2.skip y9.2.pending)))) n (p0,[])
theorem nb (n:Nat) (p0:ab):CT Tryz.prog 55 [.ptr 0 0] [.box (ah p0)] (ko n p0) (fun x=>.pv (.sl (List.length x.1) (bX x.1))) (fun x=>[.box (ah x.2)]):=by
 refine zC Tryz.func55 rfl fun r hp h hr E hE=>ag fun _ hK1=>aa (za rfl (zQ hK1 (ag fun _ hK2=>aa (za rfl (zQ hK2 (ag fun _ hK3=>aC (bQ (r5 (d:=3) 10003 (sz:=1) (el:=9) (hE _ rfl) rfl ⟨rfl,rfl,rfl⟩) ?_)))))))
 refine zL hr h (fun (v4:ab×(List (List UInt8)))=>[(0,.ptr 0 0),(3,.arr 10003 (List.length v4.2))]) (fun (v4:ab×(List (List UInt8)))=>[(0,.box (ah v4.1)),(10003,.app 9 1 (bX v4.2))]) rfl fun _ v4 _ hK6 h=>ag fun _ hK7=>ag fun _ hK8=>aa (zm rfl (zk hp hr h [0] Tryz.call34 (aI n v4.1) rfl (fun _=>rfl) fun y9 h=>an (jV rfl rfl) rfl ?_))
 refine zc rfl (zQ hK8 (zB rfl h (fun _ h=>?_) fun _ h=>?_))
 · refine ar (hK7 _ _ (aC (zM h (fun (v11:ab)=>[(0,.ptr 0 0),(3,.arr 10003 (List.length v4.2))]) (fun (v11:ab)=>[(0,.box (ah v11)),(10003,.app 9 1 (bX v4.2))]) (fun v11 h=>?_) fun _ _ hK13 h=>?_)))
   · refine ag fun _ hK14=>aa (zm rfl (zm rfl (zk hp hr h [0] Tryz.call34 (aI n v11) rfl (fun _=>rfl) fun y15 h=>an (jV rfl rfl) rfl ?_)))
     refine bR [y15.1.Text] eX ⟨rfl,rfl⟩ rfl ?_
     refine zd hr h fun hg16 h=>lE 118 ⟨jH.h,eu.h,eX,gI,qP,hE _ rfl,rfl,rfl,(.inl rfl),⟨rfl,rfl,rfl⟩,hg16⟩ rfl ?_
     refine za rfl (aS (kn 118 10003 [(0,.ptr 0 0),(3,.arr 10003 (List.length (v4.2++[y15.1.Text])))] [(0,.box [aY y15.2.text,.pv (.sl (List.length y15.2.bd) (aK.Cs y15.2.bd)),I y15.2.at_,I v11.base,Bo y15.2.skip,.pv (.pt (Option.map aj.C y15.2.pending))])] (hE _ rfl) rfl rfl ⟨rfl,rfl⟩ ⟨⟨_,rfl,rfl,rfl⟩,⟨_,rfl,rfl,rfl⟩,trivial⟩ ⟨⟨_,rfl,rfl,rfl,rfl,rfl⟩,trivial⟩) ?_)
     exact zQ hK14 (aa (zm rfl (zn rfl (zf rfl (zl rfl (zd hr h fun hg17 h=>zo hg17 rfl (zn rfl (zf rfl (zs rfl (ao (hK6 _ _ _ h rfl)))))))))))
   · refine ag fun _ hK18=>aa (zm rfl (zk hp hr h [0] Tryz.call103 (hO n (ab.mk y9.2.text y9.2.bd y9.2.at_ v4.1.base y9.2.skip y9.2.pending)) rfl (fun _=>rfl) fun y19 h=>an (eG rfl) rfl (zQ hK18 (zB rfl h (fun _ h=>?_) fun _ h=>?_))))
     · exact aa (zm rfl (zk hp hr h [0] Tryz.call35 (bt n y19.2) rfl (fun _=>rfl) fun y21 h=>ao (hK13 _ _ _ h rfl)))
     · exact ar (hK13 _ _ _ h rfl)
 · refine bp (hK3 _ _ (ag fun _ hK22=>aa (an (lM eX gI rfl rfl rfl) rfl ?_)))
   exact za rfl (zQ hK22 (aw (zX (.cons (ay rfl) .nil) h rfl)))
def dW (n:Nat) (p0:(List (List UInt8))) (p1:Bool) (p2:ab):aq ((List ax)×(List (List UInt8))×ab):=
 iter (fun next7 (v6:ab×(List (List UInt8))×(List ax)×Int×Bool)=>aq.bind (dx n v6.1) fun y11=>br (!y11.1) (aq.bind (aE n y11.2) fun y14=>jn (fun (v15:Bool)=>br v15 (gd (bA (y14.2.at_+1)) (next7 ((ab.mk y14.2.text y14.2.bd (y14.2.at_+1) y11.2.base y14.2.skip y14.2.pending),v6.2.1,v6.2.2.1,v6.2.2.2.1,true))) (jn (fun (v21:ab×Bool)=>br v21.2 (gd (bA ((List.length v6.2.2.1:Int) - 1)) (el v6.2.2.1 ((List.length v6.2.2.1:Int) - 1) fun x27=>gd (bA (v21.1.at_+1)) (next7 ((ab.mk v21.1.text v21.1.bd (v21.1.at_+1) v21.1.base v21.1.skip v21.1.pending),v6.2.1,List.set v6.2.2.1 ((List.length v6.2.2.1:Int) - 1).toNat (ax.mk x27.Kind x27.ca x27.Label x27.bf x27.bj x27.aW x27.Body x27.cd x27.jk y14.1.Text x27.Pos),v6.2.2.2.1,v6.2.2.2.2)))) (jn (fun (v32:ab×Bool)=>br v32.2 (gd (cB 16 (List.length v6.2.1) (List.length [y14.1.Text])) (gd (bA (v32.1.at_+1)) (next7 ((ab.mk v32.1.text v32.1.bd (v32.1.at_+1) v32.1.base v32.1.skip v32.1.pending),v6.2.1++[y14.1.Text],v6.2.2.1,v6.2.2.2.1,v6.2.2.2.2)))) (jn (fun (v39:Bool)=>br v39 (aq.bind (be n v32.1) fun y43=>next7 (y43,v6.2.1,v6.2.2.1,v6.2.2.2.1,v6.2.2.2.2)) (aq.bind (bO n p1 v32.1) fun y45=>gd (cB 184 (List.length v6.2.2.1) (List.length [(ax.mk y45.1.Kind y45.1.ca y45.1.Label y45.1.bf y45.1.bj y45.1.aW y45.1.Body y45.1.cd v6.2.1 y45.1.Trail y45.1.Pos)])) (next7 (y45.2,[],v6.2.2.1++[(ax.mk y45.1.Kind y45.1.ca y45.1.Label y45.1.bf y45.1.bj y45.1.aW y45.1.Body y45.1.cd v6.2.1 y45.1.Trail y45.1.Pos)],y45.2.at_,false)))) fun j40=>br (y14.1.Kind==6) (j40 (true)) (j40 ((!v6.2.2.2.2))))) fun j33=>br (y14.1.Kind==6) (aq.bind (dB n v21.1) fun y52=>j33 (y52.2,y52.1)) (j33 (v21.1,false)))) fun j22=>br (y14.1.Kind==6) (br (decide (v6.2.2.2.1>0)) (aq.bind (er n v6.2.2.2.1 (ab.mk y14.2.text y14.2.bd y14.2.at_ y11.2.base y14.2.skip y14.2.pending)) fun y55=>j22 (y55.2,y55.1)) (j22 ((ab.mk y14.2.text y14.2.bd y14.2.at_ y11.2.base y14.2.skip y14.2.pending),false))) (j22 ((ab.mk y14.2.text y14.2.bd y14.2.at_ y11.2.base y14.2.skip y14.2.pending),false)))) fun j16=>br (y14.1.Kind==7) (j16 (true)) (aq.bind (bW y14.1 ([44]:List UInt8)) fun y57=>j16 (y57))) (.ok (v6.2.2.1,v6.2.1,y11.2))) n (p2,p0,[],(-1),true)
theorem qu (n:Nat) (p0:(List (List UInt8))) (p1:Bool) (p2:ab):CT Tryz.prog 60 [.ptr 0 0,.arr 1 (List.length p0),Bo p1] [.box (ah p2),.app 9 1 (bX p0)] (dW n p0 p1 p2) (fun x=>.fH [.pv (.sl (List.length x.1) (ax.Cs x.1)),.pv (.sl (List.length x.2.1) (bX x.2.1))]) (fun x=>[.box (ah x.2.2),.app 9 1 (bX [])]):=by
 refine zC Tryz.func60 rfl fun r hp h hr E hE=>ag fun _ hK1=>aa (za rfl (za rfl (zQ hK1 (ag fun _ hK2=>aa (za rfl (zQ hK2 (ag fun _ hK3=>aa (za rfl (zQ hK3 (ag fun _ hK4=>aa (za rfl (zQ hK4 (ag fun _ hK5=>aC (bQ (zh (d:=8) 10008 (sz:=11) (el:=53) (hE _ rfl) rfl ⟨rfl,rfl,rfl⟩) ?_))))))))))))))
 refine bQ (kn 1 10001 [(0,.ptr 0 0),(1,.arr 10001 (List.length p0)),(2,Bo p1),(8,.arr 10008 (List.length ([]:List ax))),(9,I (-1)),(10,Bo true)] [(0,.box (ah p2)),(10008,.arr 53 11 (ax.Cs []))] (hE _ rfl) rfl rfl ⟨rfl,rfl⟩ ⟨⟨_,rfl,rfl,rfl⟩,⟨_,rfl,rfl,rfl⟩,⟨_,rfl,rfl,rfl⟩,⟨_,rfl,rfl,rfl⟩,⟨_,rfl,rfl,rfl⟩,⟨_,rfl,rfl,rfl⟩,trivial⟩ ⟨⟨_,rfl,rfl,rfl,rfl,rfl⟩,⟨_,rfl,rfl,rfl,rfl,rfl⟩,trivial⟩) ?_
 refine zL hr h (fun (v6:ab×(List (List UInt8))×(List ax)×Int×Bool)=>[(0,.ptr 0 0),(1,.arr 10001 (List.length v6.2.1)),(2,Bo p1),(8,.arr 10008 (List.length v6.2.2.1)),(9,I v6.2.2.2.1),(10,Bo v6.2.2.2.2)]) (fun (v6:ab×(List (List UInt8))×(List ax)×Int×Bool)=>[(0,.box (ah v6.1)),(10001,.app 9 1 (bX v6.2.1)),(10008,.arr 53 11 (ax.Cs v6.2.2.1))]) rfl fun _ v6 _ hK8 h=>ag fun _ hK9=>ag fun _ hK10=>aa (zm rfl (zk hp hr h [0] Tryz.call105 (mc n v6.1) rfl (fun _=>rfl) fun y11 h=>an (eG rfl) rfl (zQ hK10 (zB rfl h (fun _ h=>?_) fun _ h=>?_))))
 · refine ar (hK9 _ _ (aC (ag fun _ hK13=>aa (zm rfl (zk hp hr h [0] Tryz.call34 (aI n y11.2) rfl (fun _=>rfl) fun y14 h=>aL 111 (hE _ rfl) ⟨rfl,rfl,rfl,rfl⟩ rfl ?_)))))
   refine zs rfl (zQ hK13 (aC (zM h (fun (v15:Bool)=>[(0,.ptr 0 0),(1,.arr 10001 (List.length v6.2.1)),(2,Bo p1),(8,.arr 10008 (List.length v6.2.2.1)),(9,I v6.2.2.2.1),(10,Bo v6.2.2.2.2),(11,.ptr 111 0),(31,Bo v15)]) (fun (v15:Bool)=>[(0,.box [aY y14.2.text,.pv (.sl (List.length y14.2.bd) (aK.Cs y14.2.bd)),I y14.2.at_,I y11.2.base,Bo y14.2.skip,.pv (.pt (Option.map aj.C y14.2.pending))]),(111,.box (fo y14.1)),(10001,.app 9 1 (bX v6.2.1)),(10008,.arr 53 11 (ax.Cs v6.2.2.1))]) (fun v15 h=>?_) fun _ _ hK17 h=>?_)))
   · refine zB rfl h (fun _ h=>?_) fun _ h=>?_
     · exact ag fun _ hK19=>aa (za rfl (zQ hK19 (aa (zm rfl (zn rfl (zf rfl (zl rfl (zd hr h fun hg20 h=>zo hg20 rfl (zn rfl (zf rfl (zs rfl (ao (hK8 _ _ _ h rfl)))))))))))))
     · refine zM h (fun (v21:ab×Bool)=>[(0,.ptr 0 0),(1,.arr 10001 (List.length v6.2.1)),(2,Bo p1),(8,.arr 10008 (List.length v6.2.2.1)),(9,I v6.2.2.2.1),(10,Bo v6.2.2.2.2),(11,.ptr 111 0),(46,Bo v21.2)]) (fun (v21:ab×Bool)=>[(0,.box (ah v21.1)),(111,.box (fo y14.1)),(10001,.app 9 1 (bX v6.2.1)),(10008,.arr 53 11 (ax.Cs v6.2.2.1))]) (fun v21 h=>?_) fun _ _ hK23 h=>?_
       · refine zB rfl h (fun _ h=>?_) fun _ h=>?_
         · refine ag fun _ hK25=>aa (zm rfl (zm rfl (an (lV rfl) rfl (zd hr h fun hg26 h=>an (pX rfl rfl hg26) rfl (zf rfl (zl rfl (ze hr h fun x27 h28 h29 h30 h=>an (lU rfl rfl h28 h29) rfl (zf rfl (Bm (⟨ax.bb,ax.bP,h28,h30,rfl,rfl,rfl,rfl,rfl,ls.h,rfl,rfl,rfl⟩:u6 _ _ _ _ _ _ _ _ _ 9 _ _ _ _ _ _ (ax.mk x27.Kind x27.ca x27.Label x27.bf x27.bj x27.aW x27.Body x27.cd x27.jk y14.1.Text x27.Pos) _ [.sc (S y14.1.Text)]) ?_)))))))))
           refine aS (Bu 8 (m':=List.length (List.set v6.2.2.1 ((List.length v6.2.2.1:Int) - 1).toNat (ax.mk x27.Kind x27.ca x27.Label x27.bf x27.bj x27.aW x27.Body x27.cd x27.jk y14.1.Text x27.Pos))) rfl (by simp)) ?_
           exact zQ hK25 (aa (zm rfl (zn rfl (zf rfl (zl rfl (zd hr h fun hg31 h=>zo hg31 rfl (zn rfl (zf rfl (zs rfl (ao (hK8 _ _ _ h rfl)))))))))))
         · refine zM h (fun (v32:ab×Bool)=>[(0,.ptr 0 0),(1,.arr 10001 (List.length v6.2.1)),(2,Bo p1),(8,.arr 10008 (List.length v6.2.2.1)),(9,I v6.2.2.2.1),(10,Bo v6.2.2.2.2),(11,.ptr 111 0),(74,Bo v32.2)]) (fun (v32:ab×Bool)=>[(0,.box (ah v32.1)),(111,.box (fo y14.1)),(10001,.app 9 1 (bX v6.2.1)),(10008,.arr 53 11 (ax.Cs v6.2.2.1))]) (fun v32 h=>?_) fun _ _ hK34 h=>?_
           · refine zB rfl h (fun _ h=>?_) fun _ h=>?_
             · refine ag fun _ hK36=>aa (zm rfl (zf rfl (zl rfl (bR [y14.1.Text] eX ⟨rfl,rfl⟩ rfl ?_))))
               refine zd hr h fun hg37 h=>lE 186 ⟨jH.h,eu.h,eX,gI,qP,hE _ rfl,rfl,rfl,(.inl rfl),⟨rfl,rfl,rfl⟩,hg37⟩ rfl ?_
               refine za rfl (aS (kn 186 10001 [(0,.ptr 0 0),(1,.arr 10001 (List.length (v6.2.1++[y14.1.Text]))),(2,Bo p1),(8,.arr 10008 (List.length v6.2.2.1)),(9,I v6.2.2.2.1),(10,Bo v6.2.2.2.2)] [(10008,.arr 53 11 (ax.Cs v6.2.2.1)),(0,.box (ah v32.1))] (hE _ rfl) rfl rfl ⟨rfl,rfl⟩ ⟨⟨_,rfl,rfl,rfl⟩,⟨_,rfl,rfl,rfl⟩,⟨_,rfl,rfl,rfl⟩,⟨_,rfl,rfl,rfl⟩,⟨_,rfl,rfl,rfl⟩,⟨_,rfl,rfl,rfl⟩,trivial⟩ ⟨⟨_,rfl,rfl,rfl,rfl,rfl⟩,⟨_,rfl,rfl,rfl,rfl,rfl⟩,trivial⟩) ?_)
               exact zQ hK36 (aa (zm rfl (zn rfl (zf rfl (zl rfl (zd hr h fun hg38 h=>zo hg38 rfl (zn rfl (zf rfl (zs rfl (ao (hK8 _ _ _ h rfl)))))))))))
             · refine zM h (fun (v39:Bool)=>[(0,.ptr 0 0),(1,.arr 10001 (List.length v6.2.1)),(2,Bo p1),(8,.arr 10008 (List.length v6.2.2.1)),(9,I v6.2.2.2.1),(10,Bo v6.2.2.2.2),(94,Bo v39)]) (fun (v39:Bool)=>[(0,.box (ah v32.1)),(10001,.app 9 1 (bX v6.2.1)),(10008,.arr 53 11 (ax.Cs v6.2.2.1))]) (fun v39 h=>?_) fun _ _ hK41 h=>?_
               · refine zB rfl h (fun _ h=>?_) fun _ h=>?_
                 · exact aa (zm rfl (zk hp hr h [0] Tryz.call35 (bt n v32.1) rfl (fun _=>rfl) fun y43 h=>ao (hK8 _ _ _ h rfl)))
                 · refine ag fun _ hK44=>aa (zm rfl (zm rfl (zk hp hr h [0] Tryz.call107 (rb n p1 v32.1) rfl (fun _=>rfl) fun y45 h=>aL 112 (hE _ rfl) ⟨rfl,rfl,rfl,rfl⟩ rfl ?_)))
                   refine zs rfl (zQ hK44 (ag fun _ hK46=>aa (an (lM eX gI rfl rfl rfl) rfl ?_)))
                   refine zf rfl (zs rfl (zQ hK46 (ag fun _ hK47=>aa (za rfl (zQ hK47 (ag fun _ hK48=>aa (zm rfl (zA rfl ?_))))))))
                   refine bR [(ax.mk y45.1.Kind y45.1.ca y45.1.Label y45.1.bf y45.1.bj y45.1.aW y45.1.Body y45.1.cd v6.2.1 y45.1.Trail y45.1.Pos)] ax.bb ⟨rfl,rfl⟩ rfl ?_
                   refine zd hr h fun hg49 h=>sq 126 ⟨jH.h,eu.h,ax.bb,ax.bP,ax.iS,hE _ rfl,rfl,rfl,(.inl rfl),⟨rfl,rfl,rfl⟩,hg49⟩ rfl ?_
                   refine za rfl (aS (iR 126 10008 [(0,.ptr 0 0),(1,Sc (.slice none 0 0)),(2,Bo p1),(8,.arr 10008 (List.length (v6.2.2.1++[(ax.mk y45.1.Kind y45.1.ca y45.1.Label y45.1.bf y45.1.bj y45.1.aW y45.1.Body y45.1.cd v6.2.1 y45.1.Trail y45.1.Pos)])))] [(0,.box (ah y45.2))] (hE _ rfl) rfl rfl ⟨rfl,rfl⟩ ⟨⟨_,rfl,rfl,rfl⟩,⟨_,rfl,rfl,rfl⟩,⟨_,rfl,rfl,rfl⟩,⟨_,rfl,rfl,rfl⟩,trivial⟩ ⟨⟨_,rfl,rfl,rfl,rfl,rfl⟩,trivial⟩) ?_)
                   refine zQ hK48 (aa (zm rfl (zn rfl (zf rfl (zl rfl (za rfl (za rfl (aS (r5 (d:=1) 10001 (sz:=1) (el:=9) (hE _ rfl) rfl ⟨rfl,rfl,rfl⟩) ?_))))))))
                   exact ao (hK8 _ _ _ h rfl)
               · refine aa (zf rfl (zl rfl (zc rfl (zm rfl (zb (y14.1.Kind==6) (fun hb50=>?_) fun hb50=>?_)))))
                 · exact z1 hb50 h fun h=>zg hb50 rfl (zg hb50 rfl (zy hb50 rfl (za rfl (ao (hK41 _ _ _ h rfl)))))
                 · exact z2 hb50 h fun h=>zG hb50 rfl (au rfl) (zG hb50 rfl (eG rfl) (zw hb50 rfl (za rfl (ao (hK41 _ _ _ h rfl)))))
           · refine aa (zf rfl (zl rfl (zc rfl (zm rfl (zb (y14.1.Kind==6) (fun hb51=>?_) fun hb51=>?_)))))
             · exact z1 hb51 h fun h=>zG hb51 rfl (au rfl) (zK hb51 rfl hp hr h [0] Tryz.call103 (hO n v21.1) rfl (fun _=>rfl) fun y52 h=>zy hb51 rfl (za rfl (ao (hK34 _ _ _ h rfl))))
             · exact z2 hb51 h fun h=>zg hb51 rfl (zg hb51 rfl (zw hb51 rfl (za rfl (ao (hK34 _ _ _ h rfl)))))
       · refine aa (zf rfl (zl rfl (zc rfl (zm rfl (zb (y14.1.Kind==6) (fun hb53=>?_) fun hb53=>?_)))))
         · refine z1 hb53 h fun h=>zG hb53 rfl (au rfl) (zG hb53 rfl (bg rfl rfl rfl) (zy hb53 rfl (zm rfl (zb (decide (v6.2.2.2.1>0)) (fun hb54=>?_) fun hb54=>?_))))
           · exact z1 hb54 h fun h=>zG hb54 rfl (au rfl) (zG hb54 rfl (au rfl) (zK hb54 rfl hp hr h [0] Tryz.call106 (k9 n v6.2.2.2.1 (ab.mk y14.2.text y14.2.bd y14.2.at_ y11.2.base y14.2.skip y14.2.pending)) rfl (fun _=>rfl) fun y55 h=>zy hb54 rfl (za rfl (ao (hK23 _ _ _ h rfl)))))
           · exact z2 hb54 h fun h=>zg hb54 rfl (zg hb54 rfl (zg hb54 rfl (zw hb54 rfl (za rfl (ao (hK23 _ _ _ h rfl))))))
         · exact z2 hb53 h fun h=>zg hb53 rfl (zg hb53 rfl (zw hb53 rfl (zm rfl (zg rfl rfl (zg rfl rfl (zg rfl rfl (an (dv rfl rfl) rfl (za rfl (ao (hK23 _ _ _ h rfl))))))))))
   · refine aa (zf rfl (zl rfl (zc rfl (zm rfl (zb (y14.1.Kind==7) (fun hb56=>?_) fun hb56=>?_)))))
     · exact z1 hb56 h fun h=>zg hb56 rfl (zg hb56 rfl (zy hb56 rfl (za rfl (ao (hK17 _ _ _ h rfl)))))
     · refine z2 hb56 h fun h=>zG hb56 rfl (jy rfl rfl rfl rfl) ?_
       exact zK hb56 rfl hp hr h [] Tryz.call72 (cu y14.1 ([44]:List UInt8)) rfl (fun _=>rfl) fun y57 h=>zw hb56 rfl (za rfl (ao (hK17 _ _ _ h rfl)))
 · refine bp (hK5 _ _ (ag fun _ hK58=>aa (zm rfl (an (lM eX gI rfl rfl rfl) rfl ?_))))
   refine za rfl (za rfl (zQ hK58 (bQ (Bj (d:=6) ax.bb ax.bP rfl rfl rfl (hE _ rfl)) ?_)))
   refine bQ (D6 1 (el:=9) (sz:=1) [(0,.ptr 0 0),(1,.arr 10001 (List.length v6.2.1)),(2,Bo p1),(6,.pv (.sl (List.length v6.2.2.1) (ax.Cs v6.2.2.1))),(7,.pv (.sl (List.length v6.2.1) (bX v6.2.1)))] [(0,.box (ah y11.2))] (hE _ rfl) ⟨rfl,rfl,rfl,rfl,rfl,trivial⟩ ⟨rfl,trivial⟩ ⟨rfl,rfl,rfl⟩) ?_
   exact aw (zX (.cons (ay rfl) (.cons (ay rfl) .nil)) h rfl)
def iZ (n:Nat) (p0:ab):aq (ab):=
 jn (fun (v1:ab)=>gd (bA (v1.at_+1)) (.ok ((ab.mk v1.text v1.bd (v1.at_+1) v1.base v1.skip v1.pending)))) fun j2=>aq.bind (aE n p0) fun y6=>br (y6.1.Kind !=7) (aq.bind (aE n (ab.mk y6.2.text y6.2.bd y6.2.at_ p0.base y6.2.skip y6.2.pending)) fun y8=>aq.bind (bW y8.1 ([44]:List UInt8)) fun y9=>br (!y9) (aq.bind (be n (ab.mk y8.2.text y8.2.bd y8.2.at_ p0.base y8.2.skip y8.2.pending)) fun y11=>j2 (y11)) (j2 ((ab.mk y8.2.text y8.2.bd y8.2.at_ p0.base y8.2.skip y8.2.pending)))) (j2 ((ab.mk y6.2.text y6.2.bd y6.2.at_ p0.base y6.2.skip y6.2.pending)))
theorem kp (n:Nat) (p0:ab):CT Tryz.prog 58 [.ptr 0 0] [.box (ah p0)] (iZ n p0) (fun _=>.fH []) (fun x=>[.box (ah x)]):=by
 refine zC Tryz.func58 rfl fun r hp h hr E hE=>zM h (fun (v1:ab)=>[(0,.ptr 0 0)]) (fun (v1:ab)=>[(0,.box (ah v1))]) (fun v1 h=>?_) fun _ _ hK3 h=>?_
 · exact aa (zm rfl (zn rfl (zf rfl (zl rfl (zd hr h fun hg4 h=>zo hg4 rfl (zn rfl (zf rfl (zs rfl (ao (zY .nil h rfl))))))))))
 · refine ag fun _ hK5=>aa (zm rfl (zk hp hr h [0] Tryz.call34 (aI n p0) rfl (fun _=>rfl) fun y6 h=>an (jV rfl rfl) rfl ?_))
   refine zc rfl (zm rfl (zb (y6.1.Kind !=7) (fun hb7=>?_) fun hb7=>?_))
   · refine z1 hb7 h fun h=>zG hb7 rfl (au rfl) (zK hb7 rfl hp hr h [0] Tryz.call34 (aI n (ab.mk y6.2.text y6.2.bd y6.2.at_ p0.base y6.2.skip y6.2.pending)) rfl (fun _=>rfl) fun y8 h=>zK hb7 rfl hp hr h [] Tryz.call72 (cu y8.1 ([44]:List UInt8)) rfl (fun _=>rfl) fun y9 h=>zG hb7 rfl (eG rfl) (zy hb7 rfl (zQ hK5 (zB rfl h (fun _ h=>?_) fun _ h=>?_))))
     · exact aa (zm rfl (zk hp hr h [0] Tryz.call35 (bt n (ab.mk y8.2.text y8.2.bd y8.2.at_ p0.base y8.2.skip y8.2.pending)) rfl (fun _=>rfl) fun y11 h=>ao (hK3 _ _ _ h rfl)))
     · exact ar (hK3 _ _ _ h rfl)
   · refine z2 hb7 h fun h=>zg hb7 rfl (zg hb7 rfl (zg hb7 rfl (zg hb7 rfl (zw hb7 rfl (zQ hK5 (cN rfl (fun hc=>?_) (fun hc=>?_)))))))
     · exact absurd (hc) (by simp)
     · exact ar (hK3 _ _ _ h rfl)
end Go.Abs
end
section
namespace Go.Abs
open aq
mutual
inductive gT:aj→Prop where
 | mk {k:Int} {t:List UInt8} {n:Int} {a b:List UInt8} {subs:List aj} {decls:List ax} {tail:List (List UInt8)} {pos:Int} (h1:subs.length≤70000) (h2:decls.length≤70000) (h3:tail.length≤70000)
   (h4:∀ x,x∈tail→x.length≤65536) (h5:k=16→2≤subs.length) (hs:∀ x,x∈subs→gT x) (hd:∀ x,x∈decls→kR x):gT (aj.mk k t n a b subs decls tail pos)
inductive kR:ax→Prop where
 | mk {k p:Int} {lb a b:List UInt8} {subs:List aj} {body:List ax} {tail lead:List (List UInt8)} {trail:List UInt8} {pos:Int} (h1:subs.length≤70000) (h2:body.length≤70000) (h3:tail.length≤70000)
   (h4:∀ x,x∈tail→x.length≤65536) (h5:lead.length≤70000) (h6:∀ x,x∈lead→x.length≤65536) (h7:trail.length≤65536) (h8:k=1∨k=2∨k=3→1≤subs.length)
   (hs:∀ x,x∈subs→gT x) (hd:∀ x,x∈body→kR x):kR (ax.mk k p lb a b subs body tail lead trail pos)
end
theorem gT.l1 {e:aj} (h:gT e):e.aW.length≤70000:=by cases h;assumption
theorem gT.l2 {e:aj} (h:gT e):e.Decls.length≤70000:=by cases h;assumption
theorem gT.l3 {e:aj} (h:gT e):e.cd.length≤70000:=by cases h;assumption
theorem gT.l4 {e:aj} (h:gT e):∀ x,x∈e.cd→x.length≤65536:=by cases h;assumption
theorem gT.kd {e:aj} (h:gT e):e.Kind=16→2≤e.aW.length:=by cases h;assumption
theorem gT.s {e:aj} (h:gT e):∀ x,x∈e.aW→gT x:=by cases h;assumption
theorem gT.d {e:aj} (h:gT e):∀ x,x∈e.Decls→kR x:=by cases h;assumption
theorem kR.l1 {e:ax} (h:kR e):e.aW.length≤70000:=by cases h;assumption
theorem kR.l2 {e:ax} (h:kR e):e.Body.length≤70000:=by cases h;assumption
theorem kR.l3 {e:ax} (h:kR e):e.cd.length≤70000:=by cases h;assumption
theorem kR.l4 {e:ax} (h:kR e):∀ x,x∈e.cd→x.length≤65536:=by cases h;assumption
theorem kR.l5 {e:ax} (h:kR e):e.jk.length≤70000:=by cases h;assumption
theorem kR.l6 {e:ax} (h:kR e):∀ x,x∈e.jk→x.length≤65536:=by cases h;assumption
theorem kR.l7 {e:ax} (h:kR e):e.Trail.length≤65536:=by cases h;assumption
theorem kR.kd {e:ax} (h:kR e):e.Kind=1∨e.Kind=2∨e.Kind=3→1≤e.aW.length:=by cases h;assumption
theorem kR.s {e:ax} (h:kR e):∀ x,x∈e.aW→gT x:=by cases h;assumption
theorem kR.d {e:ax} (h:kR e):∀ x,x∈e.Body→kR x:=by cases h;assumption
theorem TS {k:Int} {t:List UInt8} {n:Int} {a b:List UInt8} {l:List aj} {d:List ax} {tl:List (List UInt8)} {p:Int}:(aj.mk k t n a b l d tl p).aW=l:=rfl
theorem gT.of {k:Int} {t:List UInt8} {n:Int} {a b:List UInt8} {subs:List aj} {pos:Int} (h1:subs.length≤70000) (h5:k=16→2≤subs.length) (hs:∀ x,x∈subs→gT x):gT (aj.mk k t n a b subs [] [] pos):=
 .mk h1 (by simp) (by simp) (by simp) h5 hs (by simp)
theorem gT.leaf {k:Int} {t:List UInt8} {n:Int} {a b:List UInt8} {pos:Int} (h5:k≠16):gT (aj.mk k t n a b [] [] [] pos):=.of (by simp) (fun q=>absurd q h5) (by simp)
theorem gT.one {k:Int} {t:List UInt8} {n:Int} {a b:List UInt8} {x:aj} {pos:Int} (h5:k≠16) (hx:gT x):gT (aj.mk k t n a b [x] [] [] pos):=.of (by simp) (fun q=>absurd q h5) (by simpa using hx)
theorem gT.two {k:Int} {t:List UInt8} {n:Int} {a b:List UInt8} {x y:aj} {pos:Int} (hx:gT x) (hy:gT y):gT (aj.mk k t n a b [x,y] [] [] pos):=.of (by simp) (fun _=>by simp) (by simp;exact ⟨hx,hy⟩)
theorem zN {e x:aj} (h:x∈e.aW):SizeOf.sizeOf x<SizeOf.sizeOf e:=by
 cases e;have:=List.sizeOf_lt_of_mem h;simp only[aj.aW] at this;simp;omega
theorem yj {e:aj} {x:ax} (h:x∈e.Decls):SizeOf.sizeOf x<SizeOf.sizeOf e:=by
 cases e;have:=List.sizeOf_lt_of_mem h;simp only[aj.Decls] at this;simp;omega
theorem BG {e:ax} {x:aj} (h:x∈e.aW):SizeOf.sizeOf x<SizeOf.sizeOf e:=by
 cases e;have:=List.sizeOf_lt_of_mem h;simp only[ax.aW] at this;simp;omega
theorem BH {e x:ax} (h:x∈e.Body):SizeOf.sizeOf x<SizeOf.sizeOf e:=by
 cases e;have:=List.sizeOf_lt_of_mem h;simp only[ax.Body] at this;simp;omega
theorem s8 {c v:Int} (h0:0≤v) (h1:v≤c) {p:ab}:∀ (N:Nat) {m:Nat→Nat} {e:aj},bZ m→SizeOf.sizeOf e<N→gT e→Ev (fun i=>bc (m i) e v p) (fun r=>r.2=p∧gT r.1) (PP c):=by
 intro N
 induction N with
 | zero=>intro m e _ h;exact absurd h (Nat.not_lt_zero _)
 | succ N ih=>
  intro m e hm hN he
  refine Ev.grow (F:=fun n=>bc n e v p) hm fun m hm=>?_
  show Ev (fun i=>ew (m i) (et (m i)) e v p) _ _
  unfold ew
  refine Ev.bk (fun hk=>?_) (fun _=>?_)
  ·have h2:=he.kd hk
   refine Ev.el (by omega) (by omega) fun x hx=>Ev.el (by omega) (by omega) fun y hy=>?_
   have hx:=List.mem_of_getElem? hx
   have hy:=List.mem_of_getElem? hy
   refine Ev.bind (ih hm (by have:=zN hx;omega) (he.s _ hx)) (fun _ q=>q) fun x2 hx2=>?_
   rw[hx2.1]
   refine Ev.bind (ih hm (by have:=zN hy;omega) (he.s _ hy)) (fun _ q=>q) fun y2 hy2=>?_
   exact Ev.ok ⟨hy2.1,.mk (by simp) he.l2 he.l3 he.l4 (fun _=>by simp) (by simp;exact ⟨hx2.2,hy2.2⟩) he.d⟩
  ·refine Ev.bk (fun _=>?_) (fun _=>Ev.ok ⟨rfl,he⟩)
   have hl:=he.l2
   refine Ev.iter hm (fun (x:ab×List ax×Int)=>x.1=p∧0≤x.2.2∧x.2.2≤e.Decls.length∧x.2.1.length=x.2.2∧∀ d,d∈x.2.1→kR d) (fun x=>(e.Decls.length - x.2.2).toNat) ⟨rfl,by simp,by simp,by simp,by simp⟩ ?_
   rintro x ⟨hx1,hx2,hx3,hx4,hx5⟩ next hn
   refine Ev.aU (fun hlt=>?_) (fun _=>Ev.ok ⟨hx1,.mk he.l1 (by omega) he.l3 he.l4 (by simp) he.s hx5⟩)
   refine Ev.el (by omega) (by omega) fun d hd=>?_
   have hd:=List.mem_of_getElem? hd
   have hds:=he.d _ hd
   refine Ev.jn (fun w=>w.1=p∧kR w.2) (fun w hw=>?_) (fun j hj=>?_)
   ·refine Ev.gd (by (first|omega|(simp[cB,maxLen]<;>omega))) (Ev.gd (by (first|omega|(simp[bA]<;>omega))) (hn _ ⟨hw.1,by dsimp only;omega,by dsimp only;omega,by simp;omega,fun z hz=>?_⟩ (by dsimp only;omega)))
    rcases List.mem_append.1 hz with q|q
    ·exact hx5 z q
    ·simp at q;subst q;exact hw.2
   ·refine Ev.jn (fun _=>True) (fun w _=>?_) (fun j2 hj2=>?_)
    ·refine Ev.br (fun _=>tR h0 h1) (fun _=>?_)
     refine Ev.jn (fun w=>w=true→d.Kind=1∨d.Kind=2∨d.Kind=3) (fun w hw=>?_) (fun j2 hj2=>?_)
     ·refine Ev.br (fun hw2=>?_) (fun _=>hj _ ⟨hx1,hds⟩)
      have:=hds.kd (hw hw2)
      refine Ev.el (by omega) (by omega) fun y hy=>?_
      have hy:=List.mem_of_getElem? hy
      rw[hx1]
      refine Ev.bind (ih hm (by have:=BG hy;have:=yj hd;omega) (hds.s _ hy)) (fun _ q=>q) fun y2 hy2=>?_
      exact hj _ ⟨hy2.1,.mk (by simp) hds.l2 hds.l3 hds.l4 hds.l5 hds.l6 hds.l7 (fun _=>by simp) (by simpa using hy2.2) hds.d⟩
     ·refine Ev.bk (fun h=>hj2 _ fun _=>.inl h) (fun _=>Ev.bk (fun h=>hj2 _ fun _=>.inr (.inl h)) (fun _=>hj2 _ fun h=>.inr (.inr (by simpa using h))))
    ·(repeat' (first|((with_reducible first|refine Ev.gd ?_ ?_|refine Ev.kc ?_ (fun _ _=>?_));(next=>(first|omega|(simp[bA,cB,cM,maxLen]<;>omega))))|(with_reducible first|refine Ev.cw ?_|refine Ev.b7 ?_|refine Ev.aU (fun _=>?_) (fun _=>?_)|refine Ev.bk (fun _=>?_) (fun _=>?_)|refine Ev.bN (fun _=>?_) (fun _=>?_)|refine Ev.bh (fun _=>?_) (fun _=>?_)|refine Ev.br (fun _=>?_) (fun _=>?_))|((with_reducible refine Ev.jd ?_);try dsimp only)))
     all_goals exact hj2 _ trivial
section
variable {s:List UInt8} {T:List aK} {b:Int} {α X:Type} {Q:α→Prop} {R:pj→Prop} {m:Nat→Nat} {a:Int} {k:Bool} {q:Option aj} {c:Int}
def QS (q:Option aj):Prop:=∀ e,q=some e→gT e
theorem QS.none:QS none:=fun _ h=>by cases h
def St (s:List UInt8) (T:List aK) (b:Int) (k:Bool) (a d:Int) (p:ab):Prop:=∃ a' q',p=bL s T a' b k q'∧a≤a'∧a'+d<T.length∧QS q'
theorem fu {d:Int} {F:Nat→aq (X×ab)} {P:X→Prop} {K:Nat→X×ab→aq α} (h:Ev F (fun r=>St s T b k a d r.2∧P r.1) (PP c))
  (hk:∀ x a' q',a≤a'→a'+d<T.length→QS q'→P x→Ev (fun i=>K i (x,bL s T a' b k q')) Q (PP c)):Ev (fun i=>aq.bind (F i) (K i)) Q (PP c):=by
 refine Ev.bind h (fun _ q=>q) fun r hr=>?_
 obtain ⟨x,p⟩:=r
 obtain ⟨⟨a',q',hp,h1,h2,h3⟩,h4⟩:=hr
 dsimp only at hp
 subst hp
 exact hk x a' q' h1 h2 h3 h4
theorem rU {d:Int} {F:Nat→aq (ab×X)} {P:X→Prop} {K:Nat→ab×X→aq α} (h:Ev F (fun r=>St s T b k a d r.1∧P r.2) (PP c))
  (hk:∀ x a' q',a≤a'→a'+d<T.length→QS q'→P x→Ev (fun i=>K i (bL s T a' b k q',x)) Q (PP c)):Ev (fun i=>aq.bind (F i) (K i)) Q (PP c):=by
 refine Ev.bind h (fun _ q=>q) fun r hr=>?_
 obtain ⟨p,x⟩:=r
 obtain ⟨⟨a',q',hp,h1,h2,h3⟩,h4⟩:=hr
 dsimp only at hp
 subst hp
 exact hk x a' q' h1 h2 h3 h4
theorem o7 (hm:bZ m) {v:Int} (h0:0≤v) (h1:v≤c) {e:aj} (he:gT e) {p:ab} {K:Nat→aj×ab→aq α} (hk:∀ x,gT x→Ev (fun i=>K i (x,p)) Q (PP c)) :
  Ev (fun i=>aq.bind (bc (m i) e v p) (K i)) Q (PP c):=by
 refine Ev.bind (s8 h0 h1 _ hm (Nat.lt_succ_self _) he) (fun _ q=>q) fun r hr=>?_
 obtain ⟨x,p'⟩:=r
 obtain ⟨h1,h2⟩:=hr
 dsimp only at h1
 subst h1
 exact hk x h2
def xR (T:List aK) (a:Int):Prop:=∃ t u,T[a.toNat]?=some t∧t.Kind=5∧T[(a+1).toNat]?=some u∧u.Kind≠0∧u.Kind≠7∧(u.Kind=5→∃ w,T[(a+2).toNat]?=some w∧w.Kind=3)
theorem wL (hm:bZ m) (hC:PC s T b) (h0:0≤a) (h1:a<T.length) {K:Nat→Bool×ab→aq α}
  (hk:∀ a' r,a≤a'→a'<T.length→(∀ u,T[a.toNat]?=some u→(k=true→u.Kind≠7)→a'=a)→(r=true→xR T a')→Ev (fun i=>K i (r,bL s T a' b k q)) Q R):Ev (fun i=>aq.bind (ed (m i) (bL s T a b k q)) (K i)) Q R:=by
 refine Ev.bind (Q:=fun r=>∃ a' x,r=(x,bL s T a' b k q)∧a≤a'∧a'<T.length∧(∀ u,T[a.toNat]?=some u→(k=true→u.Kind≠7)→a'=a)∧(x=true→xR T a')) (R':=gh) ?_ (fun _ q=>q.elim) fun r hr=>?_
 ·unfold ed
  have hl:=hC.kT
  refine fm hm hC h0 h1 fun a' t h2 h3 h4 h5 h6=>?_
  dsimp only
  refine jf fun r hr1 hr2=>Ev.bh (fun _=>Ev.ok ⟨a',_,rfl,h2,h3,h6,by simp⟩) (fun hr=>?_)
  obtain ⟨g1,g2⟩:=hr1 hr
  refine Ev.jn (fun v=>v.1=bL s T a' b k q∧2≤v.2∧v.2≤3∧xR T a') (fun v hv=>?_) (fun j hj=>?_)
  ·refine Ev.iter hm (fun (x:ab×Int)=>x.1=bL s T a' b k q∧2≤x.2∧x.2≤T.length+3) (fun x=>(T.length+4 - x.2).toNat) ⟨hv.1,hv.2.1,by dsimp only;omega⟩ ?_
   rintro x ⟨hx1,hx2,hx3⟩ next hn
   rw[hx1]
   refine lH hC (by omega) h3 (by omega) (by omega) fun u hu=>?_
   dsimp only
   refine Ev.bk (fun h7=>?_) (fun _=>?_)
   ·have:=(hu (by omega)).2
    exact Ev.gd (by (first|omega|(simp[bA]<;>omega))) (hn _ ⟨rfl,by dsimp only;omega,by dsimp only;omega⟩ (by dsimp only;omega))
   ·refine lH hC (by omega) h3 (by omega) (by omega) fun u hu=>?_
    dsimp only
    refine jf fun r _ _=>Ev.br (fun _=>?_) (fun _=>Ev.ok ⟨a',_,rfl,h2,h3,h6,by simp⟩)
    refine Ev.gd (by (first|omega|(simp[bA]<;>omega))) (lH hC (by omega) h3 (by omega) (by omega) fun u hu=>?_)
    dsimp only
    exact jf fun r _ _=>Ev.ok ⟨a',_,rfl,h2,h3,h6,fun _=>hv.2.2.2⟩
  ·refine lH hC (by omega) h3 (by omega) (by omega) fun u hu=>?_
   dsimp only
   refine pL fun r hr1 hr2=>Ev.bh (fun _=>?_) (fun hr=>?_)
   ·refine lH hC (by omega) h3 (by omega) (by omega) fun u hu=>?_
    dsimp only
    refine jf fun r hr1 hr2=>Ev.bh (fun _=>Ev.ok ⟨a',_,rfl,h2,h3,h6,by simp⟩) (fun hr=>?_)
    obtain ⟨q1,q2⟩:=hr1 hr
    refine lH hC (by omega) h3 (by omega) (by omega) fun w hw=>?_
    dsimp only
    refine Ev.bN (fun _=>Ev.ok ⟨a',_,rfl,h2,h3,h6,by simp⟩) (fun h3=>?_)
    exact hj _ ⟨rfl,by simp,by simp,t,u,h4,g1,(hu (by omega)).1,by omega,by omega,fun _=>⟨w,(hw (by omega)).1,h3⟩⟩
   ·obtain ⟨q1,q2⟩:=hr1 hr
    exact hj _ ⟨rfl,by simp,by simp,t,u,h4,g1,(hu (by omega)).1,by omega,by omega,fun _=>by omega⟩
 ·obtain ⟨a',x,rfl,h⟩:=hr
  exact hk a' x h.1 h.2.1 h.2.2.1 h.2.2.2
theorem s9 (hm:bZ m) (hC:PC s T b) (h0:0≤a) (hc:b+s.length≤c) (hq:QS q) {u:aK} (hu:T[a.toNat]?=some u) (hk0:u.Kind≠0) (hk7:u.Kind≠7) (hw:u.Kind=5→∃ w,T[(a+1).toNat]?=some w∧w.Kind=3) {d:ax} :
  Ev (fun i=>fc (m i) true (bL s T a b k q) d) (fun r=>St s T b k a 1 r.1∧(r.2=d∨∃ l,r.2=ax.mk d.Kind d.ca l d.bf d.bj d.aW d.Body d.cd d.jk d.Trail d.Pos)) (PP c):=by
 have hl:=hC.kT
 have h1:a<T.length:=by have:=(List.getElem?_eq_some_iff.1 hu).1;omega
 unfold fc
 refine rU (b:=b) (T:=T) (s:=s) (k:=true) (a:=a) (d:=1) (P:=fun x=>x=d∨∃ l,x=ax.mk d.Kind d.ca l d.bf d.bj d.aW d.Body d.cd d.jk d.Trail d.Pos) ?_ fun x a' q' h2 h3 h4 h5=>Ev.ok ⟨⟨a',q',rfl,h2,h3,h4⟩,h5⟩
 unfold gC
 dsimp only
 refine Ev.jn (fun v=>(∃ a',v.1=bL s T a' b true q∧a≤a'∧a'+1<T.length)∧(v.2=d∨∃ l,v.2=ax.mk d.Kind d.ca l d.bf d.bj d.aW d.Body d.cd d.jk d.Trail d.Pos)) (fun v hv=>?_) (fun j hj=>?_)
 ·obtain ⟨⟨a',hv1,hv2,hv3⟩,hv4⟩:=hv
  rw[hv1]
  refine Ev.gd (by (first|omega|(simp[bA]<;>omega))) (mh hm hC (by dsimp only;omega) (by dsimp only;omega) hc fun a2 t h2 h3 h4 h5 _=>Ev.ok ⟨⟨a2,q,rfl,by dsimp only at h2;omega,h3,hq⟩,hv4⟩)
 ·refine kj hm hC h0 h1 (fun a' t h2 h3 h4 h5 h6 h7=>?_) (fun a' t h2 h3 h4 h5 h6 h7=>?_)
  ·dsimp only
   have ha:=h7 u hu (fun _=>hk7)
   subst ha
   have:u=t:=by
    have e:a+1 - 1=a:=by omega
    rw[e,hu] at h4;cases h4;rfl
   subst this
   obtain ⟨w,hw1,hw2⟩:=hw h5
   refine Ev.cw ?_
   refine fm hm hC (by omega) h3 fun a2 t2 h8 h9 h10 h11 h12=>?_
   dsimp only
   have ha2:=h12 w hw1 (fun _=>by omega)
   subst ha2
   have hnx:=hC.next (by omega) hw1 (by omega)
   refine Ev.bind (rh hm) (fun _ q=>q.elim) fun y _=>?_
   refine Ev.bN (fun _=>iW hm hC (by omega) h9 hc) (fun _=>hj _ ⟨⟨_,rfl,by omega,by omega⟩,.inr ⟨_,rfl⟩⟩)
  ·dsimp only
   have ha:=h7 u hu (fun _=>hk7)
   subst ha
   have hnx:=hC.next (by omega) hu hk0
   exact Ev.b7 (hj _ ⟨⟨_,rfl,by omega,by omega⟩,.inl rfl⟩)
end
end Go.Abs
end
section
namespace Go.Abs
open aq
mutual
inductive EE:aj→aj→Prop where
 | mk {k:Int} {t:List UInt8} {n:Int} {a b:List UInt8} {l l':List aj} {d d':List ax} {tail:List (List UInt8)} {pos pos':Int} (h1:l.length=l'.length) (h2:∀ (i:Nat) x y,l[i]?=some x→l'[i]?=some y→EE x y)
   (h3:d.length=d'.length) (h4:∀ (i:Nat) x y,d[i]?=some x→d'[i]?=some y→DD x y):EE (aj.mk k t n a b l d tail pos) (aj.mk k t n a b l' d' tail pos')
inductive DD:ax→ax→Prop where
 | mk {k p:Int} {lb a b:List UInt8} {l l':List aj} {d d':List ax} {tail lead:List (List UInt8)} {trail:List UInt8} {pos pos':Int} (h1:l.length=l'.length) (h2:∀ (i:Nat) x y,l[i]?=some x→l'[i]?=some y→EE x y)
   (h3:d.length=d'.length) (h4:∀ (i:Nat) x y,d[i]?=some x→d'[i]?=some y→DD x y):DD (ax.mk k p lb a b l d tail lead trail pos) (ax.mk k p lb a b l' d' tail lead trail pos')
end
section
variable {k n p:Int} {t a b lb:List UInt8} {l l':List aj} {d d':List ax} {tail lead:List (List UInt8)} {trail:List UInt8} {pos pos':Int}
theorem EE.of (h:LR EE l l') (h':LR DD d d'):EE (aj.mk k t n a b l d tail pos) (aj.mk k t n a b l' d' tail pos'):=.mk h.1 h.2 h'.1 h'.2
theorem DD.of (h:LR EE l l') (h':LR DD d d'):DD (ax.mk k p lb a b l d tail lead trail pos) (ax.mk k p lb a b l' d' tail lead trail pos'):=.mk h.1 h.2 h'.1 h'.2
theorem EE.sub (h:LR EE l l'):EE (aj.mk k t n a b l [] tail pos) (aj.mk k t n a b l' [] tail pos'):=.of h .nil
theorem EE.leaf:EE (aj.mk k t n a b [] [] tail pos) (aj.mk k t n a b [] [] tail pos'):=.of .nil .nil
end
structure FV (e e':aj):Prop where
 k:e'.Kind=e.Kind
 t:e'.Text=e.Text
 n:e'.je=e.je
 a:e'.bf=e.bf
 b:e'.bj=e.bj
 tl:e'.cd=e.cd
 s:LR EE e.aW e'.aW
 d:LR DD e.Decls e'.Decls
theorem EE.x {e e':aj} (h:EE e e'):FV e e':=by
 cases h with
 | mk h1 h2 h3 h4=>exact ⟨rfl,rfl,rfl,rfl,rfl,rfl,⟨h1,h2⟩,⟨h3,h4⟩⟩
theorem FV.sub {e e':aj} (h:FV e e') {l l':List aj} {pos pos':Int} (hl:LR EE l l'):EE (aj.mk e.Kind e.Text e.je e.bf e.bj l [] [] pos) (aj.mk e'.Kind e'.Text e'.je e'.bf e'.bj l' [] [] pos'):=by
 rw[h.k,h.t,h.n,h.a,h.b];exact .sub hl
structure Gd (e e':ax):Prop where
 k:e'.Kind=e.Kind
 p:e'.ca=e.ca
 t:e'.Label=e.Label
 a:e'.bf=e.bf
 b:e'.bj=e.bj
 tl:e'.cd=e.cd
 ld:e'.jk=e.jk
 tr:e'.Trail=e.Trail
 s:LR EE e.aW e'.aW
 d:LR DD e.Body e'.Body
theorem DD.x {e e':ax} (h:DD e e'):Gd e e':=by
 cases h with
 | mk h1 h2 h3 h4=>exact ⟨rfl,rfl,rfl,rfl,rfl,rfl,rfl,rfl,⟨h1,h2⟩,⟨h3,h4⟩⟩
def QR (q q':Option aj):Prop:=(q=none∧q'=none)∨∃ e e',q=some e∧q'=some e'∧EE e e'
theorem QR.none:QR none none:=.inl ⟨rfl,rfl⟩
theorem QR.F7 {q q':Option aj} (h:QR q q'):(q'.map aj.C).isNone=(q.map aj.C).isNone:=by
 rcases h with ⟨rfl,rfl⟩|⟨e,e',rfl,rfl,_⟩<;>rfl
theorem QR.Ge {q q':Option aj} (h:QR q q'):(q'.map aj.C).isSome=(q.map aj.C).isSome:=by
 rcases h with ⟨rfl,rfl⟩|⟨e,e',rfl,rfl,_⟩<;>rfl
structure Cx where
 s:List UInt8
 T:List aK
 b:Int
 s':List UInt8
 T':List aK
 b':Int
 κ:Nat
structure Cx.kS (C:Cx):Prop where
 len:C.T'.length=C.T.length+C.κ
 tok:∀ (i:Nat) t t',C.T[i]?=some t→C.T'[i+C.κ]?=some t'→t'.Kind=t.Kind∧t'.Text=t.Text
 nl:∀ (i j:Nat) t u t' u',C.T[i]?=some t→C.T[j]?=some u→C.T'[i+C.κ]?=some t'→C.T'[j+C.κ]?=some u'→RS Eq (strings_Contains (sub C.s t.End u.Pos) [10]) (strings_Contains (sub C.s' t'.End u'.Pos) [10])
theorem Cx.kS.refl {s:List UInt8} {T:List aK} {b b':Int}:(Cx.mk s T b s T b' 0).kS where
 len:=rfl
 tok:=fun i t t' h h'=>by simp at h h';rw[h] at h';cases h';exact ⟨rfl,rfl⟩
 nl:=fun i j t u t' u' h1 h2 h3 h4=>by
  simp at h1 h2 h3 h4
  rw[h1] at h3;rw[h2] at h4;cases h3;cases h4
  exact fun a e=>.inr ⟨a,e,rfl⟩
def Rl (C:Cx) (k:Bool) (a:Int) (p p':ab):Prop:=∃ a1,p=bL C.s C.T a1 C.b k none∧p'=bL C.s' C.T' (a1+C.κ) C.b' k none∧a≤a1
abbrev VE (C:Cx) (k:Bool) (a:Int) (r r':aj×ab):Prop:=Rl C k a r.2 r'.2∧EE r.1 r'.1
section
variable {C:Cx} {α β X Y:Type} {V:α→β→Prop} {m:Nat} {a:Int} {k:Bool} {q q':Option aj}
theorem Rl.mk {a1:Int} (h1:a≤a1):Rl C k a (bL C.s C.T a1 C.b k none) (bL C.s' C.T' (a1+C.κ) C.b' k none):=⟨a1,rfl,rfl,h1⟩
theorem Rl.mk' {a1 a2:Int} (h1:a≤a1) (h2:a2=a1+C.κ):Rl C k a (bL C.s C.T a1 C.b k none) (bL C.s' C.T' a2 C.b' k none):=⟨a1,rfl,by rw[h2],h1⟩
theorem iG {P:X→Y→Prop} {x:aq (X×ab)} {y:aq (Y×ab)} {K:X×ab→aq α} {K':Y×ab→aq β} (h:RS (fun r r'=>Rl C k a r.2 r'.2∧P r.1 r'.1) x y)
  (hk:∀ v w a1,a≤a1→P v w→RS V (K (v,bL C.s C.T a1 C.b k none)) (K' (w,bL C.s' C.T' (a1+C.κ) C.b' k none))):RS V (aq.bind x K) (aq.bind y K'):=by
 refine RS.bind h fun r r' hr=>?_
 obtain ⟨v,p⟩:=r
 obtain ⟨w,p'⟩:=r'
 obtain ⟨⟨a1,h1,h2,h3⟩,h5⟩:=hr
 dsimp only at h1 h2 h5
 subst h1 h2
 exact hk v w a1 h3 h5
theorem vp {P:X→Y→Prop} {x:aq (ab×X)} {y:aq (ab×Y)} {K:ab×X→aq α} {K':ab×Y→aq β} (h:RS (fun r r'=>Rl C k a r.1 r'.1∧P r.2 r'.2) x y)
  (hk:∀ v w a1,a≤a1→P v w→RS V (K (bL C.s C.T a1 C.b k none,v)) (K' (bL C.s' C.T' (a1+C.κ) C.b' k none,w))):RS V (aq.bind x K) (aq.bind y K'):=by
 refine RS.bind h fun r r' hr=>?_
 obtain ⟨p,v⟩:=r
 obtain ⟨p',w⟩:=r'
 obtain ⟨⟨a1,h1,h2,h3⟩,h5⟩:=hr
 dsimp only at h1 h2 h5
 subst h1 h2
 exact hk v w a1 h3 h5
theorem tn (h0:0≤a) {κ:Nat}:(a+κ).toNat=a.toNat+κ:=by omega
abbrev ST (t t':aK):Prop:=t'.Kind=t.Kind∧t'.Text=t.Text
theorem Fv {t t':aK} (h:ST t t') (x:List UInt8):bW t' x=bW t x:=by unfold bW;rw[h.1,h.2]
theorem CS {t t':aK} (h:ST t t') (x:List UInt8):ep t' x=ep t x:=by unfold ep;rw[h.1,h.2]
theorem BI {t t':aK} (h:ST t t') (x:List UInt8):fk m t' x=fk m t x:=by unfold fk;rw[h.1,h.2]
theorem yk {t t':aK} (h:ST t t'):eZ m t'=eZ m t:=by unfold eZ;rw[h.1,h.2]
theorem jg {t t':aK} (h:ST t t') {x:List UInt8} {K:Bool→aq α} {K':Bool→aq β} (hk:∀ r,(r=true→t.Kind=5∧t.Text=x)→RS V (K r) (K' r)):RS V (aq.bind (bW t x) K) (aq.bind (bW t' x) K'):=by
 rw[Fv h]
 refine RS.same fun r hr=>hk r fun e=>?_
 subst e
 unfold bW at hr
 cases h5:t.Kind==5 with
 | false=>rw[h5] at hr;simp[aq.br] at hr
 | true=>rw[h5] at hr;simp[aq.br] at hr;exact ⟨by simpa using h5,hr⟩
theorem pR {t t':aK} (h:ST t t') {x:List UInt8} {K:Bool→aq α} {K':Bool→aq β} (hk:∀ r,RS V (K r) (K' r)):RS V (aq.bind (ep t x) K) (aq.bind (ep t' x) K'):=by
 rw[CS h];exact RS.same fun r _=>hk r
theorem sy {t t':aK} (h:ST t t') {x:List UInt8} {K:Bool→aq α} {K':Bool→aq β} (hk:∀ r,RS V (K r) (K' r)):RS V (aq.bind (fk m t x) K) (aq.bind (fk m t' x) K'):=by
 rw[BI h];exact RS.same fun r _=>hk r
theorem uR {t t':aK} (h:ST t t') {K:Bool→aq α} {K':Bool→aq β} (hk:∀ r,RS V (K r) (K' r)):RS V (aq.bind (eZ m t) K) (aq.bind (eZ m t') K'):=by
 rw[yk h];exact RS.same fun r _=>hk r
theorem Ew (hC:C.kS) (_:0≤a):RS (fun r r'=>∃ a1 t t',r=(t,bL C.s C.T a1 C.b k q)∧r'=(t',bL C.s' C.T' (a1+C.κ) C.b' k q')∧a≤a1∧C.T[a1.toNat]?=some t∧C.T'[a1.toNat+C.κ]?=some t'∧ST t t')
  (aE m (bL C.s C.T a C.b k q)) (aE m (bL C.s' C.T' (a+C.κ) C.b' k q')):=by
 unfold aE
 refine RS.jn (fun v w=>∃ a1,v=bL C.s C.T a1 C.b k q∧w=bL C.s' C.T' (a1+C.κ) C.b' k q'∧a≤a1) (fun v w h=>?_) (fun j j' hj=>?_)
 ·obtain ⟨a1,rfl,rfl,h1⟩:=h
  refine RS.el fun t t' _ _ ht ht'=>RS.ok ?_
  dsimp only at ht ht'
  rw[tn (by omega)] at ht'
  exact ⟨a1,t,t',rfl,rfl,h1,ht,ht',hC.tok _ _ _ ht ht'⟩
 ·refine RS.iter (fun v w=>∃ a1,v=bL C.s C.T a1 C.b k q∧w=bL C.s' C.T' (a1+C.κ) C.b' k q'∧a≤a1) (fun v w h next next' hn=>?_) _ _ ⟨a,rfl,rfl,by omega⟩
  obtain ⟨a1,rfl,rfl,h1⟩:=h
  dsimp only
  refine RS.br rfl (fun _=>?_) (fun _=>hj _ _ ⟨a1,rfl,rfl,h1⟩)
  refine RS.el fun t t' _ _ ht ht'=>?_
  rw[tn (by omega)] at ht'
  have hs:=hC.tok _ _ _ ht ht'
  refine RS.br (by rw[hs.1]) (fun _=>?_) (fun _=>hj _ _ ⟨a1,rfl,rfl,h1⟩)
  exact RS.gd fun _ _=>hn _ _ ⟨a1+1,rfl,by congr 1;omega,by omega⟩
theorem fJ (hC:C.kS) (h0:0≤a) {K:aK×ab→aq α} {K':aK×ab→aq β} (hk:∀ a1 t t',a≤a1→C.T[a1.toNat]?=some t→C.T'[a1.toNat+C.κ]?=some t'→ST t t'→RS V (K (t,bL C.s C.T a1 C.b k q)) (K' (t',bL C.s' C.T' (a1+C.κ) C.b' k q'))) :
  RS V (aq.bind (aE m (bL C.s C.T a C.b k q)) K) (aq.bind (aE m (bL C.s' C.T' (a+C.κ) C.b' k q')) K'):=by
 refine RS.bind (Ew hC h0) fun r r' h=>?_
 obtain ⟨a1,t,t',rfl,rfl,h1,h2,h3,h4⟩:=h
 exact hk a1 t t' h1 h2 h3 h4
theorem lj (hC:C.kS) (h0:0≤a) {K:Int×ab→aq α} {K':Int×ab→aq β} (hk:∀ a1 v w,a≤a1→RS V (K (v,bL C.s C.T a1 C.b k q)) (K' (w,bL C.s' C.T' (a1+C.κ) C.b' k q'))) :
  RS V (aq.bind (bC m (bL C.s C.T a C.b k q)) K) (aq.bind (bC m (bL C.s' C.T' (a+C.κ) C.b' k q')) K'):=by
 refine RS.bind (W:=fun r r'=>∃ a1 v w,r=(v,bL C.s C.T a1 C.b k q)∧r'=(w,bL C.s' C.T' (a1+C.κ) C.b' k q')∧a≤a1) ?_ fun r r' h=>?_
 ·unfold bC
  exact fJ hC h0 fun a1 t t' h1 _ _ _=>RS.gd fun _ _=>RS.ok ⟨a1,_,_,rfl,rfl,h1⟩
 ·obtain ⟨a1,v,w,rfl,rfl,h1⟩:=h
  exact hk a1 v w h1
theorem wM {v:Int} {p:ab} {K:ab→aq α} {y:aq β}:RS V (aq.bind (dQ v p) K) y:=by unfold dQ;exact RS.ll
theorem jC {p:ab} {K:ab→aq α} {y:aq β}:RS V (aq.bind (be m p) K) y:=by
 intro a e
 unfold be dQ at e
 cases h:bC m p with
 | stuck=>rw[h] at e;cases e
 | ll _=>rw[h] at e;cases e
 | ok r=>rw[h] at e;cases e
theorem km (hC:C.kS) (h0:0≤a) {x:List UInt8} {K:Bool×ab→aq α} {K':Bool×ab→aq β}
  (ht:∀ a1 t,a<a1→C.T[(a1 - 1).toNat]?=some t→t.Kind=5→RS V (K (true,bL C.s C.T a1 C.b k q)) (K' (true,bL C.s' C.T' (a1+C.κ) C.b' k q')))
  (hf:∀ a1,a≤a1→RS V (K (false,bL C.s C.T a1 C.b k q)) (K' (false,bL C.s' C.T' (a1+C.κ) C.b' k q'))) :
  RS V (aq.bind (bG m x (bL C.s C.T a C.b k q)) K) (aq.bind (bG m x (bL C.s' C.T' (a+C.κ) C.b' k q')) K'):=by
 refine RS.bind (W:=fun r r'=>(∃ a1 t,r=(true,bL C.s C.T a1 C.b k q)∧r'=(true,bL C.s' C.T' (a1+C.κ) C.b' k q')∧a<a1∧C.T[(a1 - 1).toNat]?=some t∧t.Kind=5)∨∃ a1,r=(false,bL C.s C.T a1 C.b k q)∧r'=(false,bL C.s' C.T' (a1+C.κ) C.b' k q')∧a≤a1) ?_ fun r r' h=>?_
 ·unfold bG
  refine fJ hC h0 fun a1 t t' h1 h2 _ h4=>?_
  dsimp only
  refine jg h4 fun r hr=>RS.br rfl (fun _=>RS.ok (.inr ⟨a1,rfl,rfl,h1⟩)) (fun e=>?_)
  exact RS.gd fun _ _=>RS.ok (.inl ⟨a1+1,t,rfl,by congr 2;omega,by omega,by simpa using h2,(hr (by simpa using e)).1⟩)
 ·rcases h with ⟨a1,t,rfl,rfl,h1,h2,h3⟩|⟨a1,rfl,rfl,h1⟩
  ·exact ht a1 t h1 h2 h3
  ·exact hf a1 h1
theorem ja (hC:C.kS) (h0:0≤a) {x:List UInt8} {K:ab→aq α} {K':ab→aq β}
  (hk:∀ a1 t,a<a1→C.T[(a1 - 1).toNat]?=some t→t.Kind=5→RS V (K (bL C.s C.T a1 C.b k q)) (K' (bL C.s' C.T' (a1+C.κ) C.b' k q'))) :
  RS V (aq.bind (bI m x (bL C.s C.T a C.b k q)) K) (aq.bind (bI m x (bL C.s' C.T' (a+C.κ) C.b' k q')) K'):=by
 refine RS.bind (W:=fun r r'=>∃ a1 t,r=bL C.s C.T a1 C.b k q∧r'=bL C.s' C.T' (a1+C.κ) C.b' k q'∧a<a1∧C.T[(a1 - 1).toNat]?=some t∧t.Kind=5) ?_ fun r r' h=>?_
 ·unfold bI
  exact km hC h0 (fun a1 t h1 h2 h3=>RS.ok ⟨a1,t,rfl,rfl,h1,h2,h3⟩) (fun a1 _=>jC)
 ·obtain ⟨a1,t,rfl,rfl,h1,h2,h3⟩:=h
  exact hk a1 t h1 h2 h3
end
end Go.Abs
end
section
namespace Go.Abs
open aq
section
variable {C:Cx} {α β X Y:Type} {V:α→β→Prop} {m:Nat} {a:Int} {k:Bool} {q q':Option aj}
theorem ml (hC:C.kS) (h0:0≤a) {x:List UInt8} {K:ab→aq α} {K':ab→aq β} (hk:∀ a1,a≤a1→RS V (K (bL C.s C.T a1 C.b k q)) (K' (bL C.s' C.T' (a1+C.κ) C.b' k q'))) :
  RS V (aq.bind (cy m x (bL C.s C.T a C.b k q)) K) (aq.bind (cy m x (bL C.s' C.T' (a+C.κ) C.b' k q')) K'):=by
 refine RS.bind (W:=fun r r'=>∃ a1,r=(bL C.s C.T a1 C.b k q)∧r'=(bL C.s' C.T' (a1+C.κ) C.b' k q')∧a≤a1) ?_ fun r r' h=>?_
 ·unfold cy
  refine fJ hC h0 fun a1 t t' h1 _ _ h4=>?_
  dsimp only
  exact jg h4 fun r _=>RS.br rfl (fun _=>jC) (fun _=>RS.ok ⟨a1,rfl,rfl,h1⟩)
 ·obtain ⟨a1,rfl,rfl,h1⟩:=h
  exact hk a1 h1
theorem pS (hC:C.kS) (h0:0≤a) {x:List UInt8} {K:ab→aq α} {K':ab→aq β} (hk:∀ a1,a≤a1→RS V (K (bL C.s C.T a1 C.b k q)) (K' (bL C.s' C.T' (a1+C.κ) C.b' k q'))) :
  RS V (aq.bind (db m x (bL C.s C.T a C.b k q)) K) (aq.bind (db m x (bL C.s' C.T' (a+C.κ) C.b' k q')) K'):=by
 refine RS.bind (W:=fun r r'=>∃ a1,r=(bL C.s C.T a1 C.b k q)∧r'=(bL C.s' C.T' (a1+C.κ) C.b' k q')∧a≤a1) ?_ fun r r' h=>?_
 ·unfold db
  refine fJ hC h0 fun a1 t t' h1 _ _ h4=>?_
  dsimp only
  exact pR h4 fun r=>RS.br rfl (fun _=>jC) (fun _=>RS.gd fun _ _=>RS.ok ⟨a1+1,rfl,by congr 1;omega,by omega⟩)
 ·obtain ⟨a1,rfl,rfl,h1⟩:=h
  exact hk a1 h1
theorem tT (hC:C.kS) (h0:0≤a) {K:List UInt8×ab→aq α} {K':List UInt8×ab→aq β} (hk:∀ a1 x,a≤a1→RS V (K (x,(bL C.s C.T a1 C.b k q))) (K' (x,(bL C.s' C.T' (a1+C.κ) C.b' k q')))) :
  RS V (aq.bind (dc m (bL C.s C.T a C.b k q)) K) (aq.bind (dc m (bL C.s' C.T' (a+C.κ) C.b' k q')) K'):=by
 refine RS.bind (W:=fun r r'=>∃ a1 x,r=(x,(bL C.s C.T a1 C.b k q))∧r'=(x,(bL C.s' C.T' (a1+C.κ) C.b' k q'))∧a≤a1) ?_ fun r r' h=>?_
 ·unfold dc
  refine fJ hC h0 fun a1 t t' h1 _ _ h4=>?_
  dsimp only
  refine RS.jn (fun v w=>v=(bL C.s C.T a1 C.b k q)∧w=(bL C.s' C.T' (a1+C.κ) C.b' k q')) (fun v w h=>?_) (fun j j' hj=>?_)
  ·obtain ⟨rfl,rfl⟩:=h
   rw[h4.2]
   exact RS.gd fun _ _=>RS.ok ⟨a1+1,_,rfl,by dsimp only;congr 2;omega,by omega⟩
  ·refine RS.br (by rw[h4.1]) (fun _=>jC) (fun _=>?_)
   rw[h4.2]
   exact RS.same fun r _=>RS.br rfl (fun _=>jC) (fun _=>hj _ _ ⟨rfl,rfl⟩)
 ·obtain ⟨a1,x,rfl,rfl,h1⟩:=h
  exact hk a1 x h1
theorem xS (hC:C.kS) (h0:0≤a) {K:fY×ab→aq α} {K':fY×ab→aq β} (hk:∀ a1 x,a≤a1→RS V (K (x,(bL C.s C.T a1 C.b k q))) (K' (x,(bL C.s' C.T' (a1+C.κ) C.b' k q')))) :
  RS V (aq.bind (eJ m (bL C.s C.T a C.b k q)) K) (aq.bind (eJ m (bL C.s' C.T' (a+C.κ) C.b' k q')) K'):=by
 refine RS.bind (W:=fun r r'=>∃ a1 x,r=(x,(bL C.s C.T a1 C.b k q))∧r'=(x,(bL C.s' C.T' (a1+C.κ) C.b' k q'))∧a≤a1) ?_ fun r r' h=>?_
 ·unfold eJ
  refine tT hC h0 fun a1 x1 h1=>ja hC (by omega) fun a2 _ h2 _ _=>lj hC (by omega) fun a3 _ _ h3=>tT hC (by omega) fun a4 x4 h4=>?_
  exact RS.br rfl (fun _=>wM) (fun _=>RS.ok ⟨a4,_,rfl,rfl,by omega⟩)
 ·obtain ⟨a1,x,rfl,rfl,h1⟩:=h
  exact hk a1 x h1
theorem lI (hC:C.kS) {n:Int} {K:aK×ab→aq α} {K':aK×ab→aq β} (hk:∀ t t',ST t t'→RS V (K (t,(bL C.s C.T a C.b k q))) (K' (t',(bL C.s' C.T' (a+C.κ) C.b' k q')))) :
  RS V (aq.bind (cj n (bL C.s C.T a C.b k q)) K) (aq.bind (cj n (bL C.s' C.T' (a+C.κ) C.b' k q')) K'):=by
 refine RS.bind (W:=fun r r'=>∃ t t',r=(t,(bL C.s C.T a C.b k q))∧r'=(t',(bL C.s' C.T' (a+C.κ) C.b' k q'))∧ST t t') ?_ fun r r' h=>?_
 ·unfold cj
  dsimp only
  have hl:=hC.len
  refine RS.gd fun _ _=>RS.gd fun _ _=>RS.el fun t t' h1 h2 h3 h4=>RS.ok ⟨t,t',rfl,rfl,hC.tok _ _ _ h3 ?_⟩
  rw[← h4];congr 1
  split at h1<;>split<;>omega
 ·obtain ⟨t,t',rfl,rfl,h1⟩:=h
  exact hk t t' h1
def CU (C:Cx) (a:Int):Prop:=C.κ=0∨∃ (i:Nat) (t:aK),(i:Int)<a∧C.T[i]?=some t∧t.Kind≠7
theorem CU.mono {b:Int} (h:CU C a) (hab:a≤b):CU C b:=h.imp_right fun ⟨i,t,h1,h2⟩=>⟨i,t,by omega,h2⟩
theorem CU.of {t:aK} (h0:0<a) (h:C.T[(a - 1).toNat]?=some t) (hk:t.Kind=5):CU C a:=.inr ⟨_,t,by omega,h,by omega⟩
theorem BJ (hC:C.kS) (hB:CU C a) (h0:0≤a) {K:Bool×ab→aq α} {K':Bool×ab→aq β} (hk:∀ r,RS V (K (r,(bL C.s C.T a C.b k q))) (K' (r,(bL C.s' C.T' (a+C.κ) C.b' k q')))) :
  RS V (aq.bind (dB m (bL C.s C.T a C.b k q)) K) (aq.bind (dB m (bL C.s' C.T' (a+C.κ) C.b' k q')) K'):=by
 refine RS.bind (W:=fun r r'=>∃ x,r=(x,(bL C.s C.T a C.b k q))∧r'=(x,(bL C.s' C.T' (a+C.κ) C.b' k q'))) ?_ fun r r' h=>?_
 ·unfold dB
  dsimp only
  refine RS.gd fun _ _=>?_
  refine RS.iter (fun (x y:Int)=>y=x+C.κ∧-1≤x∧x<a∧(C.κ=0∨∃ (i:Nat) (t:aK),(i:Int)≤x∧C.T[i]?=some t∧t.Kind≠7)) (fun x y h next next' hn=>?_) _ _ ⟨by omega,by omega,by omega,hB.imp_right fun ⟨i,t,h1,h2⟩=>⟨i,t,by omega,h2⟩⟩
  obtain ⟨rfl,h1,h2,h3⟩:=h
  have e:decide (0≤x+(C.κ:Int))=decide (0≤x):=by
   rcases h3 with h3|⟨i,t,h4,_⟩
   ·rw[h3];simp
   ·rw[decide_eq_true (by omega),decide_eq_true (by omega)]
  refine RS.br e (fun hx=>?_) (fun _=>RS.ok ⟨_,rfl,rfl⟩)
  have hx:=of_decide_eq_true hx
  refine RS.el fun t t' _ _ ht ht'=>?_
  rw[tn (by omega)] at ht'
  have hs:=hC.tok _ _ _ ht ht'
  refine RS.br (by rw[hs.1]) (fun _=>?_) (fun h7=>?_)
  ·refine RS.el fun t2 t2' _ _ g1 g1'=>RS.el fun u u' _ _ g2 g2'=>RS.gd fun _ _=>?_
   rw[tn (by omega)] at g1' g2'
   refine RS.bind (hC.nl _ _ _ _ _ _ g1 g2 g1' g2') fun r r' h=>?_
   subst h
   exact RS.ok ⟨_,rfl,rfl⟩
  ·refine RS.gd fun _ _=>hn _ _ ⟨by omega,by omega,by omega,?_⟩
   refine h3.imp_right fun ⟨i,u,h4,h5,h6⟩=>⟨i,u,?_,h5,h6⟩
   have:(i:Int)≠x:=fun e=>by
    subst e
    simp only[Int.toNat_natCast] at ht
    rw[ht] at h5;cases h5;simp at h7;exact h6 h7
   omega
 ·obtain ⟨x,rfl,rfl⟩:=h
  exact hk x
theorem Ak (hC:C.kS) (_:0≤a) {e e':Int} (h1:1≤e) (he:e'=e+C.κ) {K:Bool×ab→aq α} {K':Bool×ab→aq β} (hk:∀ r,RS V (K (r,(bL C.s C.T a C.b k q))) (K' (r,(bL C.s' C.T' (a+C.κ) C.b' k q')))) :
  RS V (aq.bind (er m e (bL C.s C.T a C.b k q)) K) (aq.bind (er m e' (bL C.s' C.T' (a+C.κ) C.b' k q')) K'):=by
 refine RS.bind (W:=fun r r'=>∃ x,r=(x,(bL C.s C.T a C.b k q))∧r'=(x,(bL C.s' C.T' (a+C.κ) C.b' k q'))) ?_ fun r r' h=>?_
 ·unfold er
  dsimp only
  subst he
  refine RS.iter (fun (x y:Int)=>y=x+C.κ∧1≤x) (fun x y h next next' hn=>?_) _ _ ⟨rfl,h1⟩
  obtain ⟨rfl,h2⟩:=h
  refine RS.br (decide_eq_decide.2 (by omega)) (fun _=>?_) (fun _=>?_)
  ·refine RS.el fun t t' _ _ ht ht'=>?_
   rw[tn (by omega)] at ht'
   refine jg (hC.tok _ _ _ ht ht') fun r _=>RS.br rfl (fun _=>RS.ok ⟨_,rfl,rfl⟩) (fun _=>?_)
   exact RS.gd fun _ _=>hn _ _ ⟨by omega,by omega⟩
  ·refine RS.gd fun _ _=>RS.el fun t t' _ _ g1 g1'=>RS.el fun u u' _ _ g2 g2'=>RS.gd fun _ _=>?_
   rw[show (e+(C.κ:Int) - 1).toNat=(e - 1).toNat+C.κ by omega] at g1'
   rw[tn (by omega)] at g2'
   refine RS.bind (hC.nl _ _ _ _ _ _ g1 g2 g1' g2') fun r r' h=>?_
   subst h
   exact RS.ok ⟨_,rfl,rfl⟩
 ·obtain ⟨x,rfl,rfl⟩:=h
  exact hk x
theorem CV (hC:C.kS) (h0:0≤a) {K:Bool×ab→aq α} {K':Bool×ab→aq β} (hk:∀ a1 r,a≤a1→RS V (K (r,(bL C.s C.T a1 C.b k q))) (K' (r,(bL C.s' C.T' (a1+C.κ) C.b' k q')))) :
  RS V (aq.bind (dx m (bL C.s C.T a C.b k q)) K) (aq.bind (dx m (bL C.s' C.T' (a+C.κ) C.b' k q')) K'):=by
 refine RS.bind (W:=fun r r'=>∃ a1 x,r=(x,(bL C.s C.T a1 C.b k q))∧r'=(x,(bL C.s' C.T' (a1+C.κ) C.b' k q'))∧a≤a1) ?_ fun r r' h=>?_
 ·unfold dx
  refine fJ hC h0 fun a1 t t' h1 _ _ h4=>?_
  dsimp only
  refine RS.br (by rw[h4.1]) (fun _=>RS.ok ⟨a1,_,rfl,rfl,h1⟩) (fun _=>fJ hC (by omega) fun a2 t t' h1 _ _ h4=>?_)
  dsimp only
  exact jg h4 fun r _=>RS.ok ⟨a2,_,rfl,rfl,by omega⟩
 ·obtain ⟨a1,x,rfl,rfl,h1⟩:=h
  exact hk a1 x h1
theorem wN (hC:C.kS) (h0:0≤a) {K:Bool×ab→aq α} {K':Bool×ab→aq β} (hk:∀ a1 r,a≤a1→RS V (K (r,(bL C.s C.T a1 C.b k q))) (K' (r,(bL C.s' C.T' (a1+C.κ) C.b' k q')))) :
  RS V (aq.bind (ed m (bL C.s C.T a C.b k q)) K) (aq.bind (ed m (bL C.s' C.T' (a+C.κ) C.b' k q')) K'):=by
 refine RS.bind (W:=fun r r'=>∃ a1 x,r=(x,(bL C.s C.T a1 C.b k q))∧r'=(x,(bL C.s' C.T' (a1+C.κ) C.b' k q'))∧a≤a1) ?_ fun r r' h=>?_
 ·unfold ed
  refine fJ hC h0 fun a1 t t' h1 _ _ h4=>?_
  dsimp only
  refine jg h4 fun r _=>RS.br rfl (fun _=>RS.ok ⟨a1,_,rfl,rfl,h1⟩) (fun _=>?_)
  refine RS.jn (fun v w=>v.1=(bL C.s C.T a1 C.b k q)∧w.1=(bL C.s' C.T' (a1+C.κ) C.b' k q')∧w.2=v.2) (fun v w h=>?_) (fun j j' hj=>?_)
  ·refine RS.iter (fun (v:ab×Int) (w:ab×Int)=>v.1=(bL C.s C.T a1 C.b k q)∧w.1=(bL C.s' C.T' (a1+C.κ) C.b' k q')∧w.2=v.2) (fun v w h next next' hn=>?_) _ _ h
   obtain ⟨p,x⟩:=v
   obtain ⟨p',x'⟩:=w
   obtain ⟨g1,g2,g3⟩:=h
   dsimp only at g1 g2 g3
   subst g1 g2 g3
   dsimp only
   refine lI hC fun t t' hs=>?_
   dsimp only
   refine RS.br (by rw[hs.1]) (fun _=>RS.gd fun _ _=>hn _ _ ⟨rfl,rfl,rfl⟩) (fun _=>lI hC fun t t' hs=>?_)
   dsimp only
   refine jg hs fun r _=>RS.br rfl (fun _=>RS.gd fun _ _=>lI hC fun t t' hs=>?_) (fun _=>RS.ok ⟨a1,_,rfl,rfl,h1⟩)
   dsimp only
   exact jg hs fun r _=>RS.ok ⟨a1,_,rfl,rfl,h1⟩
  ·refine lI hC fun t t' hs=>?_
   dsimp only
   refine pR hs fun r=>RS.br rfl (fun _=>lI hC fun t t' hs=>?_) (fun _=>hj _ _ ⟨rfl,rfl,rfl⟩)
   dsimp only
   refine jg hs fun r _=>RS.br rfl (fun _=>RS.ok ⟨a1,_,rfl,rfl,h1⟩) (fun _=>lI hC fun t t' hs=>?_)
   dsimp only
   exact RS.br (by rw[hs.1]) (fun _=>RS.ok ⟨a1,_,rfl,rfl,h1⟩) (fun _=>hj _ _ ⟨rfl,rfl,rfl⟩)
 ·obtain ⟨a1,x,rfl,rfl,h1⟩:=h
  exact hk a1 x h1
theorem Al (hC:C.kS) (h0:0≤a) {d d':ax} (hd:DD d d') {K:ab×ax→aq α} {K':ab×ax→aq β}
  (hk:∀ a1 d d',a≤a1→DD d d'→RS V (K ((bL C.s C.T a1 C.b k none),d)) (K' ((bL C.s' C.T' (a1+C.κ) C.b' k none),d'))):RS V (aq.bind (fc m true (bL C.s C.T a C.b k none) d) K) (aq.bind (fc m true (bL C.s' C.T' (a+C.κ) C.b' k none) d') K'):=by
 refine vp (k:=k) (a:=a) (P:=DD) ?_ fun v w a1 h1 h3=>hk a1 v w h1 h3
 unfold fc
 refine vp (k:=true) (a:=a) (P:=DD) ?_ fun v w a1 h1 h3=>RS.ok ⟨.mk h1,h3⟩
 unfold gC
 dsimp only
 refine RS.jn (fun v w=>Rl C true a v.1 w.1∧DD v.2 w.2) (fun v w h=>?_) (fun j j' hj=>?_)
 ·obtain ⟨p,x⟩:=v
  obtain ⟨p',x'⟩:=w
  obtain ⟨⟨a1,g1,g2,g3⟩,g5⟩:=h
  dsimp only at g1 g2 g5
  subst g1 g2
  dsimp only
  refine RS.gd fun _ _=>?_
  rw[show a1+(C.κ:Int)+1=a1+1+C.κ by omega]
  exact ml hC (by omega) fun a2 h2=>RS.ok ⟨.mk (by omega),g5⟩
 ·refine km hC h0 (fun a1 t h1 _ _=>?_) (fun a1 h1=>?_)
  ·dsimp only
   refine RS.br rfl (fun _=>fJ hC (by omega) fun a2 t t' h2 _ _ hs=>?_) (fun h=>by cases h)
   dsimp only
   rw[hs.2]
   refine RS.same fun y _=>RS.br rfl (fun _=>jC) (fun _=>hj _ _ ⟨.mk (by omega),?_⟩)
   have hx:=hd.x
   dsimp only
   rw[hx.k,hx.p,hx.a,hx.b,hx.tl,hx.ld,hx.tr]
   exact .of hx.s hx.d
  ·exact RS.br rfl (fun h=>by cases h) (fun _=>hj _ _ ⟨.mk h1,hd⟩)
theorem rz {v v':Int}:∀ (n:Nat) {e e':aj} {p p':ab},EE e e'→RS (fun r r'=>r.2=p∧r'.2=p'∧EE r.1 r'.1) (bc n e v p) (bc n e' v' p')
 | 0,_,_,_,_,_=>RS.nil
 | n+1,e,e',p,p',he=>by
  have hx:=he.x
  show RS _ (ew n (et n) e v p) (ew n (et n) e' v' p')
  unfold ew
  rw[hx.k,hx.t,hx.n,hx.a,hx.b,hx.tl]
  refine RS.br rfl (fun _=>?_) (fun _=>RS.br rfl (fun _=>?_) (fun _=>RS.ok ⟨rfl,rfl,he⟩))
  ·refine RS.el fun x x' _ _ hx1 hx1'=>RS.el fun y y' _ _ hy1 hy1'=>?_
   refine RS.bind (rz n (hx.s.2 _ _ _ hx1 hx1')) fun r r' h=>?_
   rw[h.1,h.2.1]
   refine RS.bind (rz n (hx.s.2 _ _ _ hy1 hy1')) fun w w' h'=>RS.ok ⟨h'.1,h'.2.1,.of (.two h.2.2 h'.2.2) hx.d⟩
  ·refine RS.iter (fun (x:ab×List ax×Int) (y:ab×List ax×Int)=>x.1=p∧y.1=p'∧LR DD x.2.1 y.2.1∧y.2.2=x.2.2) (fun x y h next next' hn=>?_) _ _ ⟨rfl,rfl,.nil,rfl⟩
   obtain ⟨h1,h2,h3,h4⟩:=h
   rw[h4,← hx.d.1]
   refine RS.br rfl (fun _=>?_) (fun _=>RS.ok ⟨h1,h2,.of hx.s h3⟩)
   refine RS.el fun d d' _ _ hd hd'=>?_
   have hdr:=hx.d.2 _ _ _ hd hd'
   have hdx:=hdr.x
   refine RS.jn (fun x y=>x.1=p∧y.1=p'∧DD x.2 y.2) (fun x y h=>?_) (fun j j' hj=>?_)
   ·exact RS.gd fun _ _=>RS.gd fun _ _=>hn _ _ ⟨h.1,h.2.1,h3.snoc h.2.2,rfl⟩
   ·rw[hdx.k]
    refine RS.jn (fun x y=>y=x) (fun x y h=>?_) (fun j2 j2' hj2=>?_)
    ·subst h
     refine RS.br rfl (fun _=>wM) (fun _=>?_)
     refine RS.jn (fun x y=>y=x) (fun x y h=>?_) (fun j2 j2' hj2=>?_)
     ·subst h
      refine RS.br rfl (fun _=>?_) (fun _=>hj _ _ ⟨h1,h2,hdr⟩)
      refine RS.el fun x x' _ _ hx1 hx1'=>?_
      rw[h1,h2]
      refine RS.bind (rz n (hdx.s.2 _ _ _ hx1 hx1')) fun r r' h=>hj _ _ ⟨h.1,h.2.1,?_⟩
      dsimp only
      rw[hdx.p,hdx.t,hdx.a,hdx.b,hdx.tl,hdx.ld,hdx.tr]
      exact .of (.one h.2.2) hdx.d
     ·exact RS.br rfl (fun _=>hj2 _ _ rfl) (fun _=>RS.br rfl (fun _=>hj2 _ _ rfl) (fun _=>hj2 _ _ rfl))
    ·exact RS.br rfl (fun _=>hj2 _ _ rfl) (fun _=>hj2 _ _ rfl)
theorem o8 {e e':aj} (he:EE e e') {v v':Int} {p p':ab} {K:aj×ab→aq α} {K':aj×ab→aq β} (hk:∀ x x',EE x x'→RS V (K (x,p)) (K' (x',p'))) :
  RS V (aq.bind (bc m e v p) K) (aq.bind (bc m e' v' p') K'):=by
 refine RS.bind (rz m he) fun r r' h=>?_
 obtain ⟨x,p1⟩:=r
 obtain ⟨x',p1'⟩:=r'
 obtain ⟨h1,h2,h3⟩:=h
 dsimp only at h1 h2
 subst h1 h2
 exact hk x x' h3
end
end Go.Abs
end
section
namespace Go.Abs
open aq
section
variable {s:List UInt8} {T:List aK} {b:Int}
structure PG (s:List UInt8) (T:List aK) (b:Int) (K:Nat):Prop where
 expr:∀ {m:Nat→Nat} {a:Int} {k:Bool} {q:Option aj} {j:Bool},bZ m→0≤a→a<T.length→QS q→64*(T.length - a).toNat+13<K→Ev (fun i=>aD (m i) j (bL s T a b k q)) (fun r=>St s T b k a 0 r.2∧gT r.1) (PP (b+s.length))
 alt:∀ {m:Nat→Nat} {a:Int} {k:Bool} {q:Option aj} {j:Bool},bZ m→0≤a→a<T.length→QS q→64*(T.length - a).toNat+12<K→Ev (fun i=>bn (m i) j (bL s T a b k q)) (fun r=>St s T b k a 0 r.2∧gT r.1) (PP (b+s.length))
 wO:∀ {m:Nat→Nat} {a:Int} {k:Bool} {q:Option aj} {j:Bool},bZ m→0≤a→a<T.length→QS q→64*(T.length - a).toNat+11<K→Ev (fun i=>bo (m i) j (bL s T a b k q)) (fun r=>St s T b k a 0 r.2∧gT r.1) (PP (b+s.length))
 bin:∀ {m:Nat→Nat} {a l:Int} {k:Bool} {q:Option aj} {j:Bool},bZ m→0≤a→a<T.length→QS q→0≤l→l≤5→64*(T.length - a).toNat+(10 - l).toNat<K→Ev (fun i=>bH (m i) l j (bL s T a b k q)) (fun r=>St s T b k a 0 r.2∧gT r.1) (PP (b+s.length))
 unary:∀ {m:Nat→Nat} {a:Int} {k:Bool} {q:Option aj} {j:Bool},bZ m→0≤a→a<T.length→QS q→64*(T.length - a).toNat+4<K→Ev (fun i=>cf (m i) j (bL s T a b k q)) (fun r=>St s T b k a 0 r.2∧gT r.1) (PP (b+s.length))
 post:∀ {m:Nat→Nat} {a:Int} {k:Bool} {q:Option aj} {j:Bool},bZ m→0≤a→a<T.length→QS q→64*(T.length - a).toNat+3<K→Ev (fun i=>bT (m i) j (bL s T a b k q)) (fun r=>St s T b k a 0 r.2∧gT r.1) (PP (b+s.length))
 BK:∀ {m:Nat→Nat} {a:Int} {k:Bool} {q:Option aj} {j:Bool},bZ m→0≤a→a<T.length→QS q→64*(T.length - a).toNat+2<K→Ev (fun i=>cq (m i) j (bL s T a b k q)) (fun r=>St s T b k a 0 r.2∧gT r.1) (PP (b+s.length))
 named:∀ {m:Nat→Nat} {a:Int} {k:Bool} {q:Option aj} {t:aK},bZ m→0≤a→a<T.length→QS q→T[a.toNat]?=some t→t.Kind=1→64*(T.length - a).toNat+1<K→Ev (fun i=>cJ (m i) (bL s T a b k q)) (fun r=>St s T b k a 0 r.2∧gT r.1) (PP (b+s.length))
 uS:∀ {m:Nat→Nat} {a:Int} {k:Bool} {q:Option aj} {t:aK},bZ m→0≤a→a<T.length→T[a.toNat]?=some t→t.Kind=4→64*(T.length - a).toNat+1<K→Ev (fun i=>cE (m i) t (b+t.Pos) (bL s T a b k q)) (fun r=>r.2=bL s T a b k q∧gT r.1) (PP (b+s.length))
 parens:∀ {m:Nat→Nat} {a:Int} {k:Bool} {q:Option aj} {j:Bool},bZ m→0≤a→a<T.length→QS q→64*(T.length - a).toNat+1<K→Ev (fun i=>b1 (m i) j (bL s T a b k q)) (fun r=>St s T b k (a+1) 0 r.2∧gT r.1) (PP (b+s.length))
 uT:∀ {m:Nat→Nat} {a:Int} {k:Bool} {q:Option aj} {j:Bool},bZ m→0≤a→a<T.length→QS q→64*(T.length - a).toNat+1<K→Ev (fun i=>cD (m i) j (bL s T a b k q)) (fun r=>St s T b k a 0 r.2∧gT r.1) (PP (b+s.length))
 list:∀ {m:Nat→Nat} {a:Int} {k:Bool} {q:Option aj},bZ m→0≤a→a<T.length→QS q→64*(T.length - a).toNat+1<K→Ev (fun i=>cS (m i) (bL s T a b k q)) (fun r=>St s T b k a 0 r.2∧gT r.1) (PP (b+s.length))
 block:∀ {m:Nat→Nat} {a:Int} {k:Bool} {q:Option aj} {j:Bool},bZ m→0≤a→a<T.length→QS q→64*(T.length - a).toNat<K→Ev (fun i=>bS (m i) j (bL s T a b k q)) (fun r=>St s T b k a 0 r.2.2∧r.1.length≤70000∧(∀ d,d∈r.1→kR d)∧r.2.1.length≤70000∧∀ x,x∈r.2.1→x.length≤65536) (PP (b+s.length))
 args:∀ {m:Nat→Nat} {a:Int} {k:Bool} {q:Option aj},bZ m→0≤a→a<T.length→QS q→64*(T.length - a).toNat+1<K→Ev (fun i=>cQ (m i) (bL s T a b k q)) (fun r=>St s T b k a 0 r.2∧r.1.length≤70000∧∀ x,x∈r.1→gT x) (PP (b+s.length))
 item:∀ {m:Nat→Nat} {a:Int} {k:Bool} {q:Option aj},bZ m→0≤a→a<T.length→QS q→64*(T.length - a).toNat+14<K→Ev (fun i=>cR (m i) (bL s T a b k q)) (fun r=>St s T b k a 0 r.2∧gT r.1) (PP (b+s.length))
 field:∀ {m:Nat→Nat} {a:Int} {k:Bool} {q:Option aj} {j:Bool} {d:ax} {t:aK},bZ m→0≤a→a<T.length→QS q→kR d→T[a.toNat]?=some t→t.Kind≠0→t.Kind≠7→64*(T.length - a).toNat+14<K→Ev (fun i=>cA (m i) j (bL s T a b k q) d) (fun r=>St s T b k a 0 r.1∧kR r.2) (PP (b+s.length))
 pattern:∀ {m:Nat→Nat} {a:Int} {k:Bool} {q:Option aj} {j:Bool} {d:ax},bZ m→0≤a→a<T.length→QS q→kR d→xR T a→64*(T.length - a).toNat+14<K→Ev (fun i=>cn (m i) j (bL s T a b k q) d) (fun r=>St s T b k a 0 r.1∧kR r.2) (PP (b+s.length))
 sA:∀ {m:Nat→Nat} {a:Int} {k:Bool} {q:Option aj} {j:Bool} {d:ax},bZ m→0≤a→a<T.length→QS q→kR d→64*(T.length - a).toNat+14<K→Ev (fun i=>cm (m i) j (bL s T a b k q) d) (fun r=>St s T b k a 0 r.1∧kR r.2) (PP (b+s.length))
 decl:∀ {m:Nat→Nat} {a:Int} {k:Bool} {q:Option aj} {j:Bool} {t:aK},bZ m→0≤a→a<T.length→QS q→T[a.toNat]?=some t→t.Kind≠0→t.Kind≠7→64*(T.length - a).toNat+17<K→Ev (fun i=>bO (m i) j (bL s T a b k q)) (fun r=>St s T b k a 0 r.2∧kR r.1) (PP (b+s.length))
 decls:∀ {m:Nat→Nat} {a:Int} {k:Bool} {q:Option aj} {j:Bool},bZ m→0≤a→a<T.length→QS q→64*(T.length - a).toNat+18<K→Ev (fun i=>cV (m i) j (bL s T a b k q)) (fun r=>St s T b k a 0 r.2.2∧r.1.length≤70000∧(∀ d,d∈r.1→kR d)∧r.2.1.length≤70000∧∀ x,x∈r.2.1→x.length≤65536) (PP (b+s.length))
variable {K:Nat} {m:Nat→Nat} {a:Int} {k:Bool} {q:Option aj} {j:Bool}
theorem CW (hC:PC s T b) (ih:PG s T b K) (hm:bZ m) (h0:0≤a) (h1:a<T.length) (hq:QS q) (hK:64*(T.length - a).toNat+13<K+1) :
  Ev (fun i=>aD (m i) j (bL s T a b k q)) (fun r=>St s T b k a 0 r.2∧gT r.1) (PP (b+s.length)):=by
 refine Ev.grow (F:=fun n=>aD n j (bL s T a b k q)) hm fun m hm=>?_
 show Ev (fun i=>fh (m i) (ai (m i)) j (bL s T a b k q)) _ _
 unfold fh
 have hl:=hC.kT
 dsimp only
 refine Ev.jn (fun v=>St s T b k a 0 v.1) (fun v hv=>?_) (fun jj hj=>?_)
 ·obtain ⟨p,w⟩:=v
  obtain ⟨a1,q1,hp,h2,h3,hq1⟩:=hv
  dsimp only at hp;subst hp;dsimp only
  refine Ev.jn (fun v=>St s T b k a 0 v.1∧gT v.2) (fun v hv=>?_) (fun jj hj=>?_)
  ·obtain ⟨p,e⟩:=v
   obtain ⟨⟨a2,q2,hp,h4,h5,hq2⟩,he⟩:=hv
   dsimp only at hp he;subst hp;dsimp only
   refine Ev.jn (fun v=>St s T b k a 0 v) (fun v hv=>?_) (fun jj hj=>?_)
   ·obtain ⟨a3,q3,rfl,h6,h7,hq3⟩:=hv
    dsimp only
    refine Ev.jn (fun v=>St s T b k a 0 v) (fun v hv=>?_) (fun jj hj=>?_)
    ·obtain ⟨a4,q4,rfl,h8,h9,hq4⟩:=hv
     refine kt hm hC (by omega) (by omega) fun a5 t v h10 h11 _ _ _ h12 h13=>?_
     dsimp only
     refine o7 hm h12 h13 he fun x hx=>?_
     dsimp only
     refine Ev.iter hm (fun (x:ab×List aj)=>St s T b k a 0 x.1∧1≤x.2.length∧(x.2.length:Int)≤x.1.at_+1∧∀ e,e∈x.2→gT e) (fun x=>(T.length - x.1.at_).toNat) ⟨⟨_,q4,rfl,by omega,by omega,hq4⟩,by simp,by simp;omega,by simpa using hx⟩ ?_
     rintro ⟨p,l⟩ ⟨⟨a6,q6,hp,h14,h15,hq6⟩,hl1,hl2,hl3⟩ next hn
     dsimp only at hp hl1 hl2 hl3;subst hp;dsimp only at hn hl2 ⊢
     refine kj hm hC (by omega) (by omega) (fun a7 t h16 h17 _ _ _ _=>?_) (fun a7 t h16 h17 _ _ _ _=>?_)
     ·dsimp only
      refine Ev.cw (fu (ih.alt hm (by omega) h17 hq6 (by omega)) fun e a8 q8 h18 h19 hq8 he8=>?_)
      dsimp only
      refine Ev.gd (by (first|omega|(simp[cB,maxLen]<;>omega))) (hn _ ⟨⟨a8,q8,rfl,by omega,h19,hq8⟩,by simp,by simp;omega,fun z hz=>?_⟩ (by dsimp only;omega))
      rcases List.mem_append.1 hz with w|w
      ·exact hl3 z w
      ·simp at w;subst w;exact he8
     ·dsimp only
      refine Ev.b7 (Ev.el (by omega) (by omega) fun x hx=>Ev.ok ⟨⟨a7,q6,rfl,by omega,by omega,hq6⟩,.of (by omega) (by simp) hl3⟩)
    ·refine fm hm hC (by omega) (by omega) fun a4 t h8 h9 _ _ _=>?_
     dsimp only
     refine jf fun r _ _=>Ev.bh (fun _=>iW hm hC (by omega) h9 (by omega)) (fun _=>hj _ ⟨a4,q3,rfl,by omega,by omega,hq3⟩)
   ·refine Ev.bh (fun _=>?_) (fun _=>hj _ ⟨a2,q2,rfl,h4,h5,hq2⟩)
    refine fm hm hC (by omega) (by omega) fun a4 t h8 h9 _ _ _=>?_
    dsimp only
    exact jf fun r _ _=>Ev.bh (fun _=>Ev.ok ⟨⟨a4,q2,rfl,by omega,by omega,hq2⟩,he⟩) (fun _=>hj _ ⟨a4,q2,rfl,by omega,by omega,hq2⟩)
  ·refine Ev.br (fun _=>fu (ih.alt hm (by omega) (by omega) hq1 (by omega)) fun e a2 q2 h4 h5 hq2 he=>hj _ ⟨⟨a2,q2,rfl,by omega,h5,hq2⟩,he⟩) (fun _=>fu (ih.alt hm (by omega) (by omega) hq1 (by omega)) fun e a2 q2 h4 h5 hq2 he=>hj _ ⟨⟨a2,q2,rfl,by omega,h5,hq2⟩,he⟩)
 ·refine Ev.br (fun _=>?_) (fun _=>hj _ ⟨a,q,rfl,by omega,by omega,hq⟩)
  refine fm hm hC h0 h1 fun a4 t h8 h9 _ _ _=>?_
  dsimp only
  exact jf fun r _ _=>hj _ ⟨a4,q,rfl,by omega,by omega,hq⟩
theorem Ex (hC:PC s T b) (ih:PG s T b K) (hm:bZ m) (h0:0≤a) (h1:a<T.length) (hq:QS q) (hK:64*(T.length - a).toNat+12<K+1) :
  Ev (fun i=>bn (m i) j (bL s T a b k q)) (fun r=>St s T b k a 0 r.2∧gT r.1) (PP (b+s.length)):=by
 refine Ev.grow (F:=fun n=>bn n j (bL s T a b k q)) hm fun m hm=>?_
 show Ev (fun i=>dq (m i) (ai (m i)) j (bL s T a b k q)) _ _
 unfold dq
 have hl:=hC.kT
 dsimp only
 refine Ev.br (fun _=>?_) (fun _=>?_)
 ·refine kt hm hC h0 h1 fun a2 t v h2 h3 _ _ _ _ _=>?_
  dsimp only
  refine kj hm hC (by omega) h3 (fun a3 t h4 h5 _ _ _ _=>?_) (fun a3 t h4 h5 _ _ _ _=>?_)
  ·dsimp only
   exact Ev.cw (fu (ih.wO hm (by omega) h5 hq (by omega)) fun e a4 q4 h6 h7 hq4 he=>Ev.ok ⟨⟨a4,q4,rfl,by omega,h7,hq4⟩,.one (by decide) he⟩)
  ·dsimp only
   exact Ev.b7 (fu (ih.wO hm (by omega) h5 hq (by omega)) fun e a4 q4 h6 h7 hq4 he=>Ev.ok ⟨⟨a4,q4,rfl,by omega,h7,hq4⟩,he⟩)
 ·exact fu (ih.wO hm (by omega) h1 hq (by omega)) fun e a4 q4 h6 h7 hq4 he=>Ev.ok ⟨⟨a4,q4,rfl,by omega,h7,hq4⟩,he⟩
theorem CX (hC:PC s T b) (ih:PG s T b K) (hm:bZ m) (h0:0≤a) (h1:a<T.length) (hq:QS q) (hK:64*(T.length - a).toNat+11<K+1) :
  Ev (fun i=>bo (m i) j (bL s T a b k q)) (fun r=>St s T b k a 0 r.2∧gT r.1) (PP (b+s.length)):=by
 refine Ev.grow (F:=fun n=>bo n j (bL s T a b k q)) hm fun m hm=>?_
 show Ev (fun i=>dr (m i) (ai (m i)) j (bL s T a b k q)) _ _
 unfold dr
 refine fu (ih.bin hm h0 h1 hq (by omega) (by omega) (by omega)) fun e a2 q2 h2 h3 hq2 he=>?_
 dsimp only
 refine Ev.iter hm (fun (x:ab×aj)=>St s T b k a 0 x.1∧gT x.2) (fun x=>(T.length - x.1.at_).toNat) ⟨⟨a2,q2,rfl,h2,h3,hq2⟩,he⟩ ?_
 rintro ⟨p,e⟩ ⟨⟨a3,q3,hp,h4,h5,hq3⟩,he⟩ next hn
 dsimp only at hp he;subst hp;dsimp only at hn ⊢
 refine kj hm hC (by omega) (by omega) (fun a4 t h6 h7 _ _ _ _=>?_) (fun a4 t h6 h7 _ _ _ _=>?_)
 ·dsimp only
  exact Ev.cw (fu (ih.bin hm (by omega) h7 hq3 (by omega) (by omega) (by omega)) fun e2 a5 q5 h8 h9 hq5 he5=>hn _ ⟨⟨a5,q5,rfl,by omega,h9,hq5⟩,.two he he5⟩ (by dsimp only;omega))
 ·exact Ev.b7 (Ev.ok ⟨⟨a4,q3,rfl,by omega,by omega,hq3⟩,he⟩)
theorem wP {l:Int}:Ev (fun _=>kh l) (fun r=>r.length≤100) gh:=by
 unfold kh
 (repeat' (first|((with_reducible first|refine Ev.gd ?_ ?_|refine Ev.kc ?_ (fun _ _=>?_));(next=>(first|omega|(simp[bA,cB,cM,maxLen]<;>omega))))|(with_reducible first|refine Ev.cw ?_|refine Ev.b7 ?_|refine Ev.aU (fun _=>?_) (fun _=>?_)|refine Ev.bk (fun _=>?_) (fun _=>?_)|refine Ev.bN (fun _=>?_) (fun _=>?_)|refine Ev.bh (fun _=>?_) (fun _=>?_)|refine Ev.br (fun _=>?_) (fun _=>?_))|((with_reducible refine Ev.jd ?_);try dsimp only)))
 all_goals exact Ev.ok (by simp)
theorem Ey (hC:PC s T b) (ih:PG s T b K) {l:Int} (hm:bZ m) (h0:0≤a) (h1:a<T.length) (hq:QS q) (hl0:0≤l) (hl5:l≤5) (hK:64*(T.length - a).toNat+(10 - l).toNat<K+1) :
  Ev (fun i=>bH (m i) l j (bL s T a b k q)) (fun r=>St s T b k a 0 r.2∧gT r.1) (PP (b+s.length)):=by
 refine Ev.grow (F:=fun n=>bH n l j (bL s T a b k q)) hm fun m hm=>?_
 show Ev (fun i=>eB (m i) (ai (m i)) l j (bL s T a b k q)) _ _
 unfold eB
 have hl:=hC.kT
 refine Ev.aU (fun _=>fu (ih.unary hm h0 h1 hq (by omega)) fun e a4 q4 h6 h7 hq4 he=>Ev.ok ⟨⟨a4,q4,rfl,by omega,h7,hq4⟩,he⟩) (fun _=>?_)
 refine Ev.gd (by (first|omega|(simp[bA]<;>omega))) (fu (ih.bin hm h0 h1 hq (by omega) (by omega) (by omega)) fun e a2 q2 h2 h3 hq2 he=>?_)
 dsimp only
 refine Ev.iter hm (fun (x:ab×aj)=>St s T b k a 0 x.1∧gT x.2) (fun x=>(T.length - x.1.at_).toNat) ⟨⟨a2,q2,rfl,h2,h3,hq2⟩,he⟩ ?_
 rintro ⟨p,e⟩ ⟨⟨a3,q3,hp,h4,h5,hq3⟩,he⟩ next hn
 dsimp only at hp he;subst hp;dsimp only at hn ⊢
 refine fm hm hC (by omega) (by omega) fun a4 t h6 h7 ht h8 _=>?_
 dsimp only
 refine Ev.bind wP (fun _ q=>q.elim) fun ops hops=>sx hm (by omega) fun r hr=>Ev.br (fun hr1=>?_) (fun _=>Ev.ok ⟨⟨a4,q3,rfl,by omega,by omega,hq3⟩,he⟩)
 have hk5:=hr hr1
 have hnx:=hC.next (by omega) ht (by omega)
 refine kt hm hC (by omega) h7 fun a5 t5 v h9 h10 _ h11 _ h12 h13=>?_
 have e5:=h11 t ht h8
 subst e5
 dsimp only
 refine o7 hm h12 h13 he fun x hx=>?_
 dsimp only
 refine fm hm hC (by omega) h7 fun a6 t6 h14 h15 _ _ h16=>?_
 have e6:=h16 t ht h8
 subst e6
 dsimp only
 refine Ev.gd (by (first|omega|(simp[bA]<;>omega))) (Ev.gd (by (first|omega|(simp[bA]<;>omega))) (fu (ih.bin hm (by omega) hnx hq3 (by omega) (by omega) (by omega)) fun e2 a7 q7 h17 h18 hq7 he7=>hn _ ⟨⟨a7,q7,rfl,by omega,h18,hq7⟩,.two hx he7⟩ (by dsimp only;omega)))
theorem BL (hC:PC s T b) (ih:PG s T b K) (hm:bZ m) (h0:0≤a) (h1:a<T.length) (hq:QS q) (hK:64*(T.length - a).toNat+4<K+1) :
  Ev (fun i=>cf (m i) j (bL s T a b k q)) (fun r=>St s T b k a 0 r.2∧gT r.1) (PP (b+s.length)):=by
 refine Ev.grow (F:=fun n=>cf n j (bL s T a b k q)) hm fun m hm=>?_
 show Ev (fun i=>eP (m i) (ai (m i)) j (bL s T a b k q)) _ _
 unfold eP
 have hl:=hC.kT
 dsimp only
 refine Ev.br (fun _=>fu (ih.post hm h0 h1 hq (by omega)) fun e a4 q4 h6 h7 hq4 he=>Ev.ok ⟨⟨a4,q4,rfl,by omega,h7,hq4⟩,he⟩) (fun _=>?_)
 refine fm hm hC h0 h1 fun a2 t h2 h3 ht h4 _=>?_
 dsimp only
 refine kt hm hC (by omega) h3 fun a5 t5 v h9 h10 _ h11 _ h12 h13=>?_
 have e5:=h11 t ht h4
 subst e5
 dsimp only
 refine Ev.jn (fun v=>v≠16∧t.Kind=5) (fun w hw=>?_) (fun jj hj=>?_)
 ·have hnx:=hC.next (by omega) ht (by omega)
  exact Ev.gd (by (first|omega|(simp[bA]<;>omega))) (fu (ih.unary hm (by omega) hnx hq (by omega)) fun e a4 q4 h6 h7 hq4 he=>Ev.ok ⟨⟨a4,q4,rfl,by omega,h7,hq4⟩,.one hw.1 he⟩)
 ·refine sx hm (by simp) fun r hr=>Ev.br (fun hr1=>hj _ ⟨by decide,hr hr1⟩) (fun _=>?_)
  refine sx hm (by simp) fun r hr=>Ev.br (fun hr1=>hj _ ⟨by decide,hr hr1⟩) (fun _=>?_)
  exact fu (ih.post hm (by omega) h3 hq (by omega)) fun e a4 q4 h6 h7 hq4 he=>Ev.ok ⟨⟨a4,q4,rfl,by omega,h7,hq4⟩,he⟩
theorem BM (hC:PC s T b) (ih:PG s T b K) (hm:bZ m) (h0:0≤a) (h1:a<T.length) (hq:QS q) (hK:64*(T.length - a).toNat+13<K) {e:aj} (he:gT e) :
  Ev (fun i=>cL (m i) true (bL s T a b k q) e) (fun r=>St s T b k a 1 r.1∧gT r.2) (PP (b+s.length)):=by
 refine Ev.grow (F:=fun n=>cL n true (bL s T a b k q) e) hm fun m hm=>?_
 show Ev (fun i=>dH (m i) (ai (m i)) true (bL s T a b k q) e) _ _
 unfold dH
 dsimp only
 refine fu (k:=true) (a:=a) (d:=1) (P:=gT) ?_ fun x a' q' h2 h3 h4 h5=>Ev.ok ⟨⟨a',q',rfl,h2,h3,h4⟩,h5⟩
 refine Ev.grow (F:=fun n=>ef n e (bL s T a b true q)) hm fun m hm=>?_
 show Ev (fun i=>dE (m i) (ai (m i)) e (bL s T a b true q)) _ _
 unfold dE
 refine fu (ih.expr hm h0 h1 hq hK) fun x a2 q2 h2 h3 h4 h5=>?_
 dsimp only
 exact mh hm hC (by omega) (by omega) (by omega) fun a3 t h6 h7 _ _ _=>Ev.ok ⟨⟨a3,q2,rfl,by omega,h7,h4⟩,.two he h5⟩
theorem CY (hC:PC s T b) (ih:PG s T b K) (hm:bZ m) (h0:0≤a) (h1:a<T.length) (hq:QS q) (hK:64*(T.length - a).toNat+3<K+1) :
  Ev (fun i=>bT (m i) j (bL s T a b k q)) (fun r=>St s T b k a 0 r.2∧gT r.1) (PP (b+s.length)):=by
 refine Ev.grow (F:=fun n=>bT n j (bL s T a b k q)) hm fun m hm=>?_
 show Ev (fun i=>ej (m i) (ai (m i)) j (bL s T a b k q)) _ _
 unfold ej
 have hl:=hC.kT
 refine fu (ih.BK hm h0 h1 hq (by omega)) fun e a2 q2 h2 h3 hq2 he=>?_
 dsimp only
 refine Ev.iter hm (fun (x:ab×aj)=>St s T b k a 0 x.1∧gT x.2) (fun x=>(T.length - x.1.at_).toNat) ⟨⟨a2,q2,rfl,h2,h3,hq2⟩,he⟩ ?_
 rintro ⟨p,e⟩ ⟨⟨a3,q3,hp,h4,h5,hq3⟩,he⟩ next hn
 dsimp only at hp he;subst hp;dsimp only at hn ⊢
 refine fm hm hC (by omega) (by omega) fun a4 t h6 h7 ht h8 _=>?_
 dsimp only
 refine kt hm hC (by omega) h7 fun a5 t5 v h9 h10 _ h11 _ h12 h13=>?_
 have e5:=h11 t ht h8
 subst e5
 dsimp only
 refine jf fun r hr _=>Ev.br (fun hr1=>?_) (fun _=>?_)
 ·have hk5:=(hr hr1).1
  have hnx:=hC.next (by omega) ht (by omega)
  refine o7 hm h12 h13 he fun x hx=>?_
  dsimp only
  refine Ev.gd (by (first|omega|(simp[bA]<;>omega))) (fm hm hC (by omega) hnx fun a6 t6 h14 h15 ht6 _ _=>?_)
  dsimp only
  refine Ev.jn (fun v=>v=bL s T a6 b k q3∧t6.Kind≠0) (fun v hv=>?_) (fun jj hj=>?_)
  ·obtain ⟨rfl,h16⟩:=hv
   have hnx6:=hC.next (by omega) ht6 h16
   exact Ev.gd (by (first|omega|(simp[bA]<;>omega))) (hn _ ⟨⟨a6+1,q3,rfl,by omega,by omega,hq3⟩,.one (by decide) hx⟩ (by dsimp only;omega))
  ·exact uQ hm fun r hr=>Ev.bh (fun _=>iW hm hC (by omega) h15 (by omega)) (fun hr1=>hj _ ⟨rfl,by have:=hr hr1;omega⟩)
 ·refine jf fun r hr _=>Ev.br (fun hr1=>?_) (fun _=>Ev.ok ⟨⟨a5,q3,rfl,by omega,by omega,hq3⟩,he⟩)
  have hk5:=(hr hr1).1
  have hnx:=hC.next (by omega) ht (by omega)
  refine o7 hm h12 h13 he fun x hx=>?_
  dsimp only
  refine Ev.gd (by (first|omega|(simp[bA]<;>omega))) (rU (BM hC ih hm (by omega) hnx hq3 (by omega) hx) fun x a6 q6 h14 h15 hq6 hx6=>?_)
  dsimp only
  exact Ev.gd (by (first|omega|(simp[bA]<;>omega))) (hn _ ⟨⟨a6+1,q6,rfl,by omega,by omega,hq6⟩,hx6⟩ (by dsimp only;omega))
end
end Go.Abs
end
section
namespace Go.Abs
open aq
section
variable {s:List UInt8} {T:List aK} {b:Int} {K:Nat} {m:Nat→Nat} {a:Int} {k:Bool} {q:Option aj} {j:Bool}
theorem CZ (hC:PC s T b) (ih:PG s T b K) (hm:bZ m) (h0:0≤a) (h1:a<T.length) (hq:QS q) (hK:64*(T.length - a).toNat+2<K+1) :
  Ev (fun i=>cq (m i) j (bL s T a b k q)) (fun r=>St s T b k a 0 r.2∧gT r.1) (PP (b+s.length)):=by
 refine Ev.grow (F:=fun n=>cq n j (bL s T a b k q)) hm fun m hm=>?_
 show Ev (fun i=>ek (m i) (ai (m i)) j (bL s T a b k q)) _ _
 unfold ek
 have hl:=hC.kT
 dsimp only
 cases q with
 | some e=>exact Ev.cw (Ev.some rfl (Ev.ok ⟨⟨a,none,rfl,by omega,by omega,.none⟩,hq e rfl⟩))
 | none=>
  refine Ev.b7 ?_
  refine fm hm hC h0 h1 fun a2 t h2 h3 ht h4 _=>?_
  dsimp only
  refine kt hm hC (by omega) h3 fun a5 t5 v h9 h10 ht5 h11 hv h12 h13=>?_
  have e5:=h11 t ht h4
  subst e5
  rw[ht] at ht5;cases ht5
  dsimp only
  refine Ev.jn (fun v=>v.1=bL s T a5 b k none∧gT v.2∧t.Kind≠0) (fun w hw=>?_) (fun jj hj=>?_)
  ·obtain ⟨p,e⟩:=w
   obtain ⟨hp,he,hk⟩:=hw
   dsimp only at hp he;subst hp;dsimp only
   have hnx:=hC.next (by omega) ht hk
   exact Ev.gd (by (first|omega|(simp[bA]<;>omega))) (Ev.ok ⟨⟨a5+1,none,rfl,by omega,by omega,.none⟩,he⟩)
  ·refine Ev.bk (fun hk=>?_) (fun _=>?_)
   ·exact fu (ih.named hm (by omega) h3 .none ht hk (by omega)) fun e a4 q4 h6 h7 hq4 he=>Ev.ok ⟨⟨a4,q4,rfl,by omega,h7,hq4⟩,he⟩
   refine Ev.bk (fun hk=>?_) (fun _=>?_)
   ·exact Ev.bind (qU hm) (fun _ q=>q.elim) fun y _=>hj _ ⟨rfl,.leaf (by decide),by omega⟩
   refine Ev.bk (fun hk=>hj _ ⟨rfl,.leaf (by decide),by omega⟩) (fun _=>?_)
   refine Ev.bk (fun hk=>?_) (fun _=>?_)
   ·rw[hv]
    refine Ev.bind (ih.uS hm (by omega) h3 ht hk (by omega)) (fun _ q=>q) fun y hy=>?_
    exact hj _ ⟨hy.1,hy.2,by omega⟩
   refine jf fun r hr _=>Ev.br (fun hr1=>hj _ ⟨rfl,.leaf (by decide),by have:=(hr hr1).1;omega⟩) (fun _=>?_)
   refine jf fun r hr _=>Ev.br (fun hr1=>hj _ ⟨rfl,.leaf (by decide),by have:=(hr hr1).1;omega⟩) (fun _=>?_)
   refine jf fun r hr _=>Ev.br (fun hr1=>?_) (fun _=>?_)
   ·exact fu (ih.parens hm (by omega) h3 .none (by omega)) fun e a4 q4 h6 h7 hq4 he=>Ev.ok ⟨⟨a4,q4,rfl,by omega,h7,hq4⟩,he⟩
   refine jf fun r hr _=>Ev.br (fun hr1=>?_) (fun _=>?_)
   ·exact fu (ih.uT hm (by omega) h3 .none (by omega)) fun e a4 q4 h6 h7 hq4 he=>Ev.ok ⟨⟨a4,q4,rfl,by omega,h7,hq4⟩,he⟩
   refine jf fun r hr _=>Ev.br (fun hr1=>?_) (fun _=>?_)
   ·exact fu (ih.list hm (by omega) h3 .none (by omega)) fun e a4 q4 h6 h7 hq4 he=>Ev.ok ⟨⟨a4,q4,rfl,by omega,h7,hq4⟩,he⟩
   exact iW hm hC (by omega) h3 (by omega)
theorem BN (hC:PC s T b) (ih:PG s T b K) (hm:bZ m) (h0:0≤a) (h1:a<T.length) (hq:QS q) {t:aK} (ht:T[a.toNat]?=some t) (hk:t.Kind=1) (hK:64*(T.length - a).toNat+1<K+1) :
  Ev (fun i=>cJ (m i) (bL s T a b k q)) (fun r=>St s T b k a 0 r.2∧gT r.1) (PP (b+s.length)):=by
 refine Ev.grow (F:=fun n=>cJ n (bL s T a b k q)) hm fun m hm=>?_
 show Ev (fun i=>eO (m i) (ai (m i)) (bL s T a b k q)) _ _
 unfold eO
 have hl:=hC.kT
 have hnx:=hC.next (by omega) ht (by omega)
 refine fm hm hC h0 h1 fun a2 t2 h2 h3 ht2 h4 e2=>?_
 have e2:=e2 t ht (fun _=>by omega)
 subst e2
 rw[ht] at ht2;cases ht2
 dsimp only
 refine kt hm hC (by omega) h3 fun a5 t5 v h9 h10 ht5 h11 hv h12 h13=>?_
 have e5:=h11 t ht h4
 subst e5
 dsimp only
 refine Ev.jn (fun v=>v.Kind≠16) (fun w hw=>?_) (fun jj hj=>?_)
 ·exact Ev.gd (by (first|omega|(simp[bA]<;>omega))) (Ev.ok ⟨⟨a5+1,q,rfl,by omega,by omega,hq⟩,.leaf hw⟩)
 ·refine Ev.bk (fun _=>hj _ (by simp[aj.Kind])) (fun _=>?_)
  refine Ev.jn (fun _=>True) (fun w _=>?_) (fun j2 hj2=>?_)
  ·refine Ev.br (fun _=>Ev.bk (fun _=>hj _ (by simp[aj.Kind])) (fun _=>hj _ (by simp[aj.Kind]))) (fun _=>?_)
   refine Ev.jn (fun _=>True) (fun w _=>?_) (fun j2 hj2=>?_)
   ·refine Ev.br (fun _=>hj _ (by simp[aj.Kind])) (fun _=>?_)
    refine tS hm hC h0 h3 (by omega) fun a6 x h14 h15=>?_
    dsimp only
    refine fm hm hC (by omega) h15 fun a7 t7 h16 h17 _ _ _=>?_
    dsimp only
    refine jf fun r _ _=>Ev.br (fun _=>?_) (fun _=>Ev.ok ⟨⟨a7,q,rfl,by omega,by omega,hq⟩,.leaf (by decide)⟩)
    exact fu (P:=fun l:List aj=>l.length≤70000∧∀ x,x∈l→gT x) (ih.args hm (by omega) h17 hq (by omega)) fun e a4 q4 h6 h7 hq4 he=>Ev.ok ⟨⟨a4,q4,rfl,by omega,h7,hq4⟩,.of he.1 (by simp) he.2⟩
   ·refine Ev.bk (fun _=>hj2 _ trivial) (fun _=>Ev.bk (fun _=>hj2 _ trivial) (fun _=>Ev.bk (fun _=>hj2 _ trivial) (fun _=>hj2 _ trivial)))
  ·exact Ev.bk (fun _=>hj2 _ trivial) (fun _=>hj2 _ trivial)
def ta (s:List UInt8) (b:Int):Prop:=∀ {m:Nat→Nat} {x:List UInt8} {f:Int},bZ m→x.length<s.length→0≤f→f+x.length≤b+s.length→Ev (fun i=>fF (m i) x f) (fun r=>gT r.1) gh
theorem Am (hC:PC s T b) (hX:ta s b) (hm:bZ m) (_:0≤a) (_:a<T.length) {t:aK} (ht:T[a.toNat]?=some t) (hk:t.Kind=4) :
  Ev (fun i=>cE (m i) t (b+t.Pos) (bL s T a b k q)) (fun r=>r.2=bL s T a b k q∧gT r.1) (PP (b+s.length)):=by
 refine Ev.grow (F:=fun n=>cE n t (b+t.Pos) (bL s T a b k q)) hm fun m hm=>?_
 show Ev (fun i=>eD (m i) (ai (m i)) t (b+t.Pos) (bL s T a b k q)) _ _
 unfold eD
 have hbs:=hC.bs
 have hb0:=hC.b0
 obtain ⟨g0,g1,g2,g3,g4,_⟩:=hC.tok ht
 have g4:=g4 hk
 refine Ev.bind (p9 hm (by omega)) (fun _ q=>q.elim) fun y hy=>?_
 refine Ev.iter hm (fun (x:ab×aj×Int)=>x.1=bL s T a b k q∧0≤x.2.2∧x.2.2≤y.1.length∧x.2.1.aW.length≤x.2.2∧x.2.1.Kind=5∧∀ e,e∈x.2.1.aW→gT e) (fun x=>(y.1.length - x.2.2).toNat) ⟨rfl,by simp,by simp,by simp[TS],rfl,by simp[TS]⟩ ?_
 rintro ⟨p,e,i⟩ ⟨hp,h2,h3,h4,h5,h6⟩ next hn
 dsimp only at hp h2 h3 h4 h5 h6 hn ⊢
 subst hp
 have hyl:=hy.1
 refine Ev.aU (fun hlt=>?_) (fun _=>Ev.ok ⟨rfl,.of (by omega) (by omega) h6⟩)
 refine Ev.el (by omega) (by omega) fun x hx=>?_
 obtain ⟨x0,x1,x2⟩:=hy.2 x (List.mem_of_getElem? hx)
 refine Ev.gd (by (first|omega|(simp[bA]<;>omega))) (Ev.gd (by (first|omega|(simp[bA]<;>omega))) (Ev.bh (fun _=>?_) (fun hc=>?_)))
 ·refine Ev.gd (by (first|omega|(simp[cB,maxLen]<;>omega))) (Ev.gd (by (first|omega|(simp[bA]<;>omega))) (hn _ ⟨rfl,by dsimp only;omega,by dsimp only;omega,by simp[TS];omega,h5,fun z hz=>?_⟩ (by dsimp only;omega)))
  rcases List.mem_append.1 hz with w|w
  ·exact h6 z w
  ·simp at w;subst w;exact .leaf (by decide)
 ·have x2:=x2 hc
  refine Ev.bind (hX hm (x:=x.Text) (f:=b+t.Pos+1+x.Pos) (by omega) (by omega) (by omega)) (fun _ q=>q.elim) fun z hz=>?_
  refine Ev.bh (fun _=>tR (by omega) (by omega)) (fun _=>?_)
  refine Ev.gd (by (first|omega|(simp[cB,maxLen]<;>omega))) (Ev.gd (by (first|omega|(simp[bA]<;>omega))) (hn _ ⟨rfl,by dsimp only;omega,by dsimp only;omega,by simp[TS];omega,h5,fun z2 hz2=>?_⟩ (by dsimp only;omega)))
  rcases List.mem_append.1 hz2 with w|w
  ·exact h6 z2 w
  ·simp at w;subst w;exact hz
theorem An (hC:PC s T b) (ih:PG s T b K) (hm:bZ m) (h0:0≤a) (h1:a<T.length) (hq:QS q) (hK:64*(T.length - a).toNat+1<K+1) :
  Ev (fun i=>b1 (m i) j (bL s T a b k q)) (fun r=>St s T b k (a+1) 0 r.2∧gT r.1) (PP (b+s.length)):=by
 refine Ev.grow (F:=fun n=>b1 n j (bL s T a b k q)) hm fun m hm=>?_
 show Ev (fun i=>eF (m i) (ai (m i)) j (bL s T a b k q)) _ _
 unfold eF
 have hl:=hC.kT
 refine iX hm hC h0 h1 (by omega) fun a2 t h2 h3 _ _ _ _=>?_
 refine rU (s:=s) (T:=T) (b:=b) (k:=k) (a:=a+1) (d:=1) (P:=fun x:Bool×aj=>gT x.2) ?_ fun x a3 q3 h4 h5 hq3 he=>?_
 ·refine Ev.grow (F:=fun n=>c6 n true (bL s T a2 b k q) j (aj.mk 0 [] 0 [] [] [] [] [] 0)) hm fun m hm=>?_
  show Ev (fun i=>dG (m i) (ai (m i)) true (bL s T a2 b k q) j (aj.mk 0 [] 0 [] [] [] [] [] 0)) _ _
  unfold dG
  dsimp only
  refine Ev.bind (Q:=fun r=>St s T b true (a+1) 1 r.2.2∧gT r.2.1) (R':=PP (b+s.length)) ?_ (fun _ q=>q) fun r hr=>?_
  ·refine Ev.grow (F:=fun n=>ez n j (aj.mk 0 [] 0 [] [] [] [] [] 0) (bL s T a2 b true q)) hm fun m hm=>?_
   show Ev (fun i=>dS (m i) (ai (m i)) j (aj.mk 0 [] 0 [] [] [] [] [] 0) (bL s T a2 b true q)) _ _
   unfold dS
   refine fu (ih.expr hm (by omega) h3 hq (by omega)) fun x a3 q3 h4 h5 hq3 he=>?_
   dsimp only
   exact mh hm hC (by omega) (by omega) (by omega) fun a4 t h6 h7 _ _ _=>Ev.ok ⟨⟨a4,q3,rfl,by omega,h7,hq3⟩,he⟩
  ·obtain ⟨x,e,p⟩:=r
   obtain ⟨⟨a3,q3,hp,h4,h5,hq3⟩,he⟩:=hr
   dsimp only at hp he;subst hp
   exact Ev.ok ⟨⟨a3,q3,rfl,h4,h5,hq3⟩,he⟩
 ·dsimp only
  exact Ev.gd (by (first|omega|(simp[bA]<;>omega))) (Ev.ok ⟨⟨a3+1,q3,rfl,by omega,by omega,hq3⟩,he⟩)
theorem BO (hC:PC s T b) (ih:PG s T b K) (hm:bZ m) (h0:0≤a) (h1:a<T.length) (hq:QS q) (hK:64*(T.length - a).toNat<K+1) :
  Ev (fun i=>bS (m i) j (bL s T a b k q)) (fun r=>St s T b k a 0 r.2.2∧r.1.length≤70000∧(∀ d,d∈r.1→kR d)∧r.2.1.length≤70000∧∀ x,x∈r.2.1→x.length≤65536) (PP (b+s.length)):=by
 refine Ev.grow (F:=fun n=>bS n j (bL s T a b k q)) hm fun m hm=>?_
 show Ev (fun i=>eN (m i) (ai (m i)) j (bL s T a b k q)) _ _
 unfold eN
 have hl:=hC.kT
 refine iX hm hC h0 h1 (by omega) fun a2 t h2 h3 _ _ _ _=>?_
 refine rU (s:=s) (T:=T) (b:=b) (k:=k) (a:=a+1) (d:=1) (P:=fun r:Bool×List ax×List (List UInt8)=>r.2.1.length≤70000∧(∀ d,d∈r.2.1→kR d)∧r.2.2.length≤70000∧∀ x,x∈r.2.2→x.length≤65536) ?_ fun x a3 q3 h4 h5 hq3 he=>?_
 ·refine Ev.grow (F:=fun n=>cZ n false (bL s T a2 b k q) j [] []) hm fun m hm=>?_
  show Ev (fun i=>dF (m i) (ai (m i)) false (bL s T a2 b k q) j [] []) _ _
  unfold dF
  dsimp only
  refine Ev.bind (Q:=fun r=>St s T b false (a+1) 1 r.2.2.2∧r.2.1.length≤70000∧(∀ d,d∈r.2.1→kR d)∧r.2.2.1.length≤70000∧∀ x,x∈r.2.2.1→x.length≤65536) (R':=PP (b+s.length)) ?_ (fun _ q=>q) fun r hr=>?_
  ·refine Ev.grow (F:=fun n=>eM n j [] [] (bL s T a2 b false q)) hm fun m hm=>?_
   show Ev (fun i=>eg (m i) (ai (m i)) j [] [] (bL s T a2 b false q)) _ _
   unfold eg
   refine Ev.bind (ih.decls hm (by omega) h3 hq (by omega)) (fun _ q=>q) fun r hr=>?_
   obtain ⟨x,e,p⟩:=r
   obtain ⟨⟨a3,q3,hp,h4,h5,hq3⟩,he⟩:=hr
   dsimp only at hp he;subst hp
   dsimp only
   exact mh hm hC (by omega) (by omega) (by omega) fun a4 t h6 h7 _ _ _=>Ev.ok ⟨⟨a4,q3,rfl,by omega,h7,hq3⟩,he⟩
  ·obtain ⟨x,y,e,p⟩:=r
   obtain ⟨⟨a3,q3,hp,h4,h5,hq3⟩,he⟩:=hr
   dsimp only at hp he;subst hp
   exact Ev.ok ⟨⟨a3,q3,rfl,h4,h5,hq3⟩,he⟩
 ·dsimp only
  exact Ev.gd (by (first|omega|(simp[bA]<;>omega))) (Ev.ok ⟨⟨a3+1,q3,rfl,by omega,by omega,hq3⟩,he⟩)
theorem Ao (hC:PC s T b) (ih:PG s T b K) (hm:bZ m) (h0:0≤a) (h1:a<T.length) (hq:QS q) (hK:64*(T.length - a).toNat+1<K+1) :
  Ev (fun i=>cD (m i) j (bL s T a b k q)) (fun r=>St s T b k a 0 r.2∧gT r.1) (PP (b+s.length)):=by
 refine Ev.grow (F:=fun n=>cD n j (bL s T a b k q)) hm fun m hm=>?_
 show Ev (fun i=>eC (m i) (ai (m i)) j (bL s T a b k q)) _ _
 unfold eC
 refine kt hm hC h0 h1 fun a2 t v h2 h3 _ _ _ _ _=>?_
 dsimp only
 refine Ev.jn (fun v=>v.Kind≠16) (fun w hw=>?_) (fun jj hj=>?_)
 ·refine Ev.bind (ih.block hm (by omega) h3 hq (by omega)) (fun _ q=>q) fun r hr=>?_
  obtain ⟨x,e,p⟩:=r
  obtain ⟨⟨a3,q3,hp,h4,h5,hq3⟩,he1,he2,he3,he4⟩:=hr
  dsimp only at hp he1 he2 he3 he4;subst hp
  exact Ev.ok ⟨⟨a3,q3,rfl,by omega,h5,hq3⟩,.mk (by simp) he1 he3 he4 (fun q=>absurd q hw) (by simp) he2⟩
 ·exact Ev.br (fun _=>hj _ (by simp[aj.Kind])) (fun _=>hj _ (by simp[aj.Kind]))
theorem C0 (hC:PC s T b) (ih:PG s T b K) (hm:bZ m) (h0:0≤a) (h1:a<T.length) (hq:QS q) (hK:64*(T.length - a).toNat+1<K+1) :
  Ev (fun i=>cQ (m i) (bL s T a b k q)) (fun r=>St s T b k a 0 r.2∧r.1.length≤70000∧∀ x,x∈r.1→gT x) (PP (b+s.length)):=by
 refine Ev.grow (F:=fun n=>cQ n (bL s T a b k q)) hm fun m hm=>?_
 show Ev (fun i=>fg (m i) (ai (m i)) (bL s T a b k q)) _ _
 unfold fg
 have hl:=hC.kT
 refine iX hm hC h0 h1 (by omega) fun a2 t h2 h3 _ _ _ _=>?_
 refine rU (s:=s) (T:=T) (b:=b) (k:=k) (a:=a+1) (d:=1) (P:=fun r:List aj=>r.length≤70000∧∀ x,x∈r→gT x) ?_ fun x a3 q3 h4 h5 hq3 he=>?_
 ·refine Ev.grow (F:=fun n=>c8 n true (bL s T a2 b k q) []) hm fun m hm=>?_
  show Ev (fun i=>dJ (m i) (ai (m i)) true (bL s T a2 b k q) []) _ _
  unfold dJ
  dsimp only
  refine fu (k:=true) (a:=a+1) (d:=1) (P:=fun r:List aj=>r.length≤70000∧∀ x,x∈r→gT x) ?_ fun x a' q' h2 h3 h4 h5=>Ev.ok ⟨⟨a',q',rfl,h2,h3,h4⟩,h5⟩
  refine Ev.grow (F:=fun n=>fe n [] (bL s T a2 b true q)) hm fun m hm=>?_
  show Ev (fun i=>eA (m i) (ai (m i)) [] (bL s T a2 b true q)) _ _
  unfold eA
  refine fm hm hC (by omega) h3 fun a3 t3 h4 h5 _ _ _=>?_
  dsimp only
  refine jf fun r _ _=>Ev.bh (fun _=>?_) (fun _=>?_)
  ·refine fu (ih.expr hm (by omega) h5 hq (by omega)) fun x a4 q4 h6 h7 hq4 he=>?_
   dsimp only
   refine Ev.gd (by (first|omega|(simp[cB,maxLen]<;>omega))) ?_
   refine Ev.iter hm (fun (x:List aj×ab)=>St s T b true (a+1) 0 x.2∧(x.1.length:Int)≤x.2.at_+1∧∀ e,e∈x.1→gT e) (fun x=>(T.length - x.2.at_).toNat) ⟨⟨a4,q4,rfl,by omega,h7,hq4⟩,by simp;omega,by simpa using he⟩ ?_
   rintro ⟨l,p⟩ ⟨⟨a6,q6,hp,h14,h15,hq6⟩,hl2,hl3⟩ next hn
   dsimp only at hp hl2 hl3;subst hp;dsimp only at hn hl2 ⊢
   refine kj hm hC (by omega) (by omega) (fun a7 t h16 h17 _ _ _ _=>?_) (fun a7 t h16 h17 _ _ _ _=>?_)
   ·dsimp only
    refine Ev.cw (fu (ih.expr hm (by omega) h17 hq6 (by omega)) fun e a8 q8 h18 h19 hq8 he8=>?_)
    dsimp only
    refine Ev.gd (by (first|omega|(simp[cB,maxLen]<;>omega))) (hn _ ⟨⟨a8,q8,rfl,by omega,h19,hq8⟩,by simp;omega,fun z hz=>?_⟩ (by dsimp only;omega))
    rcases List.mem_append.1 hz with w|w
    ·exact hl3 z w
    ·simp at w;subst w;exact he8
   ·dsimp only
    refine Ev.b7 (mh hm hC (by omega) (by omega) (by omega) fun a8 t h18 h19 _ _ _=>Ev.ok ⟨⟨a8,q6,rfl,by omega,h19,hq6⟩,by dsimp only;omega,hl3⟩)
  ·exact mh hm hC (by omega) (by omega) (by omega) fun a8 t h18 h19 _ _ _=>Ev.ok ⟨⟨a8,q,rfl,by omega,h19,hq⟩,by simp,by simp⟩
 ·dsimp only
  exact Ev.gd (by (first|omega|(simp[bA]<;>omega))) (Ev.ok ⟨⟨a3+1,q3,rfl,by omega,by omega,hq3⟩,he⟩)
theorem C1 (hC:PC s T b) (ih:PG s T b K) (hm:bZ m) (h0:0≤a) (h1:a<T.length) (hq:QS q) (hK:64*(T.length - a).toNat+14<K+1) :
  Ev (fun i=>cR (m i) (bL s T a b k q)) (fun r=>St s T b k a 0 r.2∧gT r.1) (PP (b+s.length)):=by
 refine Ev.grow (F:=fun n=>cR n (bL s T a b k q)) hm fun m hm=>?_
 show Ev (fun i=>fi (m i) (ai (m i)) (bL s T a b k q)) _ _
 unfold fi
 refine kt hm hC h0 h1 fun a2 t v h2 h3 _ _ _ _ _=>?_
 dsimp only
 refine fm hm hC (by omega) h3 fun a3 t3 h4 h5 _ _ _=>?_
 dsimp only
 refine pL fun r _ _=>Ev.bh (fun _=>?_) (fun _=>?_)
 ·exact fu (ih.expr hm (by omega) h5 hq (by omega)) fun x a4 q4 h6 h7 hq4 he=>Ev.ok ⟨⟨a4,q4,rfl,by omega,h7,hq4⟩,he⟩
 refine pM hm hC (by omega) h5 (by omega) fun a4 h6 h7=>xQ hm hC (by omega) h7 (by omega) fun a5 nm h8 h9=>?_
 dsimp only
 refine pM hm hC (by omega) h9 (by omega) fun a6 h10 h11=>fu (ih.expr hm (by omega) h11 hq (by omega)) fun x a7 q7 h12 h13 hq7 he=>?_
 dsimp only
 refine Ev.gd (by (first|omega|(simp[cB,maxLen]<;>omega))) ?_
 refine Ev.jn (fun v=>St s T b k (a+1) 0 v.1∧v.2.aW.length≤2∧v.2.Kind=15∧∀ e,e∈v.2.aW→gT e) (fun w hw=>?_) (fun jj hj=>?_)
 ·obtain ⟨p,e⟩:=w
  obtain ⟨⟨a8,q8,hp,h14,h15,hq8⟩,hs1,hs2,hs3⟩:=hw
  dsimp only at hp hs1 hs2 hs3;subst hp;dsimp only
  refine iX hm hC (by omega) (by omega) (by omega) fun a9 t h16 h17 _ _ _ _=>fu (ih.expr hm (by omega) h17 hq8 (by omega)) fun x a10 q10 h18 h19 hq10 he10=>?_
  dsimp only
  refine Ev.gd (by (first|omega|(simp[cB,maxLen]<;>omega))) (Ev.ok ⟨⟨a10,q10,rfl,by omega,h19,hq10⟩,.of (by simp;omega) (by omega) fun z hz=>?_⟩)
  rcases List.mem_append.1 hz with w|w
  ·exact hs3 z w
  ·simp at w;subst w;exact he10
 ·refine fm hm hC (by omega) (by omega) fun a8 t8 h14 h15 _ _ _=>?_
  dsimp only
  refine pL fun r _ _=>Ev.br (fun _=>?_) (fun _=>hj _ ⟨⟨a8,q7,rfl,by omega,by omega,hq7⟩,by simp[TS],rfl,by simpa[TS] using he⟩)
  refine pM hm hC (by omega) h15 (by omega) fun a9 h16 h17=>fu (ih.expr hm (by omega) h17 hq7 (by omega)) fun x2 a10 q10 h18 h19 hq10 he10=>?_
  dsimp only
  refine Ev.gd (by (first|omega|(simp[cB,maxLen]<;>omega))) (hj _ ⟨⟨a10,q10,rfl,by omega,h19,hq10⟩,by simp[TS],rfl,?_⟩)
  simp only[TS]
  intro z hz
  simp at hz
  rcases hz with rfl|rfl
  ·exact he
  ·exact he10
theorem C2 (hC:PC s T b) (ih:PG s T b K) (hm:bZ m) (h0:0≤a) (h1:a<T.length) (hq:QS q) (hK:64*(T.length - a).toNat+1<K+1) :
  Ev (fun i=>cS (m i) (bL s T a b k q)) (fun r=>St s T b k a 0 r.2∧gT r.1) (PP (b+s.length)):=by
 refine Ev.grow (F:=fun n=>cS n (bL s T a b k q)) hm fun m hm=>?_
 show Ev (fun i=>fj (m i) (ai (m i)) (bL s T a b k q)) _ _
 unfold fj
 have hl:=hC.kT
 refine kt hm hC h0 h1 fun a1 t v h2 h3 _ _ _ _ _=>?_
 dsimp only
 refine iX hm hC (by omega) h3 (by omega) fun a2 t h4 h5 _ _ _ _=>?_
 refine rU (s:=s) (T:=T) (b:=b) (k:=k) (a:=a+1) (d:=1) (P:=gT) ?_ fun x a3 q3 h4 h5 hq3 he=>?_
 ·refine Ev.grow (F:=fun n=>c7 n true (bL s T a2 b k q) (aj.mk 14 [] 0 [] [] [] [] [] v)) hm fun m hm=>?_
  show Ev (fun i=>dI (m i) (ai (m i)) true (bL s T a2 b k q) (aj.mk 14 [] 0 [] [] [] [] [] v)) _ _
  unfold dI
  dsimp only
  refine fu (k:=true) (a:=a+1) (d:=1) (P:=gT) ?_ fun x a' q' h2 h3 h4 h5=>Ev.ok ⟨⟨a',q',rfl,h2,h3,h4⟩,h5⟩
  refine Ev.grow (F:=fun n=>ff n (aj.mk 14 [] 0 [] [] [] [] [] v) (bL s T a2 b true q)) hm fun m hm=>?_
  show Ev (fun i=>eE (m i) (ai (m i)) (aj.mk 14 [] 0 [] [] [] [] [] v) (bL s T a2 b true q)) _ _
  unfold eE
  refine Ev.iter hm (fun (x:aj×ab×Bool)=>St s T b true (a+1) 0 x.2.1∧x.1.Kind=14∧x.1.Decls=[]∧x.1.cd=[]∧(x.1.aW.length:Int)+(if x.2.2 then 1 else 0)≤x.2.1.at_+1∧∀ e,e∈x.1.aW→gT e) (fun x=>2*(T.length - x.2.1.at_).toNat+(if x.2.2 then 1 else 0)) ⟨⟨a2,q,rfl,by omega,by omega,hq⟩,rfl,rfl,rfl,by simp[TS];omega,by simp[TS]⟩ ?_
  rintro ⟨e,p,f⟩ ⟨⟨a6,q6,hp,h14,h15,hq6⟩,hk,hd,ht,hl2,hl3⟩ next hn
  dsimp only at hp hk hd ht hl2 hl3;subst hp;dsimp only at hn hl2 ⊢
  refine fm hm hC (by omega) (by omega) fun a7 t7 h16 h17 _ _ _=>?_
  dsimp only
  refine jf fun r _ _=>Ev.bh (fun _=>?_) (fun _=>?_)
  ·refine Ev.jn (fun p=>∃ a8,p=bL s T a8 b true q6∧a6≤a8∧a8<T.length∧(f=false→a6<a8)) (fun w hw=>?_) (fun jj hj=>?_)
   ·obtain ⟨a8,rfl,h18,h19,h20⟩:=hw
    have hf1:(e.aW.length:Int)≤a8:=by
     cases f with
     | true=>simp at hl2;omega
     | false=>have:=h20 rfl;simp at hl2;omega
    have hf2:∀ x:Int,a8≤x→2*(T.length - x).toNat+0<2*(T.length - a6).toNat+(if f=true then 1 else 0):=by
     intro x hx
     cases f with
     | true=>simp;omega
     | false=>have:=h20 rfl;simp;omega
    refine kt hm hC (by omega) h19 fun a9 t v h21 h22 _ _ _ _ _=>?_
    dsimp only
    refine kj hm hC (by omega) (by omega) (fun a10 t h23 h24 _ _ _ _=>?_) (fun a10 t h23 h24 _ _ _ _=>?_)
    ·dsimp only
     refine Ev.cw ?_
     refine Ev.jn (fun v=>St s T b true (a+1) 0 v.1∧gT v.2) (fun w hw=>?_) (fun jj hj=>?_)
     ·obtain ⟨p,x⟩:=w
      obtain ⟨⟨a11,q11,hp,h25,h26,hq11⟩,hx⟩:=hw
      dsimp only at hp hx;subst hp;dsimp only
      refine Ev.gd (by (first|omega|(simp[cB,maxLen]<;>omega))) (mh hm hC (by omega) (by omega) (by omega) fun a12 t h27 h28 _ _ _=>Ev.ok ⟨⟨a12,q11,rfl,by omega,h28,hq11⟩,?_⟩)
      dsimp only
      rw[hd,ht]
      refine .of (by simp;omega) (by omega) fun z hz=>?_
      rcases List.mem_append.1 hz with w|w
      ·exact hl3 z w
      ·simp at w;subst w;exact hx
     ·refine fm hm hC (by omega) (by omega) fun a11 t11 h25 h26 _ _ _=>?_
      dsimp only
      refine jf fun r _ _=>Ev.bh (fun _=>?_) (fun _=>hj _ ⟨⟨a11,q6,rfl,by omega,by omega,hq6⟩,.leaf (by decide)⟩)
      exact fu (ih.expr hm (by omega) h26 hq6 (by omega)) fun x a12 q12 h27 h28 hq12 he12=>hj _ ⟨⟨a12,q12,rfl,by omega,h28,hq12⟩,he12⟩
    ·dsimp only
     refine Ev.b7 (fu (ih.item hm (by omega) h24 hq6 (by omega)) fun x a12 q12 h27 h28 hq12 he12=>?_)
     dsimp only
     refine Ev.gd (by (first|omega|(simp[cB,maxLen]<;>omega))) (hn _ ⟨⟨a12,q12,rfl,by omega,h28,hq12⟩,hk,hd,ht,by simp[TS];omega,fun z hz=>?_⟩ (by have:=hf2 a12 (by omega);simpa using this))
     rcases List.mem_append.1 hz with w|w
     ·exact hl3 z w
     ·simp at w;subst w;exact he12
   ·refine Ev.bh (fun hf=>?_) (fun hf=>hj _ ⟨a7,rfl,h16,h17,fun h=>by rw[hf] at h;cases h⟩)
    exact iX hm hC (by omega) h17 (by omega) fun a8 t h18 h19 _ _ _ _=>hj _ ⟨a8,rfl,by omega,h19,fun _=>by omega⟩
  ·refine mh hm hC (by omega) (by omega) (by omega) fun a8 t h18 h19 _ _ _=>Ev.ok ⟨⟨a8,q6,rfl,by omega,h19,hq6⟩,?_⟩
   dsimp only
   cases e with
   | mk k0 t0 n0 x0 y0 s0 d0 tl0 p0=>
    simp only[aj.Kind,aj.Decls,aj.cd,aj.aW] at hk hd ht hl2 hl3
    subst hd ht
    refine .of ?_ (by omega) hl3
    have:(s0.length:Int)≤a6+1:=by
     cases f with
     | true=>simp at hl2;omega
     | false=>simp at hl2;omega
    omega
 ·dsimp only
  exact Ev.gd (by (first|omega|(simp[bA]<;>omega))) (Ev.ok ⟨⟨a3+1,q3,rfl,by omega,by omega,hq3⟩,he⟩)
end
end Go.Abs
end
section
namespace Go.Abs
open Go.Proofs aq
def jt (n:Nat) (p0:ab):aq (cx×ab):=
 aq.bind (bC n p0) fun y3=>gd (bA (y3.2.at_+1)) (jn (fun (v6:ab×cx)=>aq.bind (aE n v6.1) fun y10=>jn (fun (v11:ab)=>jn (fun (v15:ab×cx)=>gd (bA (v15.1.at_+1)) (aq.bind (iZ n (ab.mk v15.1.text v15.1.bd (v15.1.at_+1) v15.1.base v15.1.skip v15.1.pending)) fun y21=>.ok (v15.2,y21))) fun j16=>br (v6.2.Name==([]:List UInt8)) (aq.bind (strings_LastIndex y10.1.Text ([47]:List UInt8)) fun y26=>gd (bA (y26+1)) (gd ((0:Int)≤(y26+1)∧(y26+1)≤(List.length y10.1.Text:Int)) (aq.bind (fC n (dO y10.1.Text (y26+1))) fun y30=>br (!y30) (aq.bind (be n v11) fun y32=>j16 (y32,(cx.mk (dO y10.1.Text (y26+1)) y10.1.Text v6.2.Pos))) (j16 (v11,(cx.mk (dO y10.1.Text (y26+1)) y10.1.Text v6.2.Pos)))))) (j16 (v11,(cx.mk v6.2.Name y10.1.Text v6.2.Pos)))) fun j12=>br (y10.1.Kind !=3) (aq.bind (be n (ab.mk y10.2.text y10.2.bd y10.2.at_ v6.1.base y10.2.skip y10.2.pending)) fun y35=>j12 (y35)) (j12 ((ab.mk y10.2.text y10.2.bd y10.2.at_ v6.1.base y10.2.skip y10.2.pending)))) fun j7=>aq.bind (aE n (ab.mk y3.2.text y3.2.bd (y3.2.at_+1) y3.2.base y3.2.skip y3.2.pending)) fun y37=>br (y37.1.Kind==1) (aq.bind (dc n (ab.mk y37.2.text y37.2.bd y37.2.at_ y3.2.base y37.2.skip y37.2.pending)) fun y39=>j7 (y39.2,(cx.mk y39.1 [] y3.1))) (j7 ((ab.mk y37.2.text y37.2.bd y37.2.at_ y3.2.base y37.2.skip y37.2.pending),(cx.mk [] [] y3.1))))
theorem kB (n:Nat) (p0:ab):CT Tryz.prog 59 [.ptr 0 0] [.box (ah p0)] (jt n p0) (fun x=>.agg [aY x.1.Name,aY x.1.Path,I x.1.Pos]) (fun x=>[.box (ah x.2)]):=by
 refine zC Tryz.func59 rfl fun r hp h hr E hE=>ag fun _ hK1=>aa (aL 102 (hE _ rfl) ⟨rfl,rfl,rfl,rfl⟩ rfl ?_)
 refine zQ hK1 (ag fun _ hK2=>aa (zm rfl (zk hp hr h [0] Tryz.call75 (bY n p0) rfl (fun _=>rfl) fun y3 h=>an (bE rfl rfl rfl) rfl ?_)))
 refine aL 103 (hE _ rfl) ⟨rfl,rfl,rfl,rfl⟩ rfl ?_
 refine zs rfl (zQ hK2 (ag fun _ hK4=>aa (zm rfl (zn rfl (zf rfl (zl rfl (zd hr h fun hg5 h=>zo hg5 rfl (zn rfl (zf rfl (zs rfl (zQ hK4 (zM h (fun (v6:ab×cx)=>[(0,.ptr 0 0),(2,.ptr 102 0),(3,.ptr 103 0)]) (fun (v6:ab×cx)=>[(0,.box (ah v6.1)),(102,.box [aY [],aY [],I 0]),(103,.box [aY v6.2.Name,aY v6.2.Path,I v6.2.Pos])]) (fun v6 h=>?_) fun _ _ hK8 h=>?_))))))))))))
 · refine ag fun _ hK9=>aa (zm rfl (zk hp hr h [0] Tryz.call34 (aI n v6.1) rfl (fun _=>rfl) fun y10 h=>aL 104 (hE _ rfl) ⟨rfl,rfl,rfl,rfl⟩ rfl ?_))
   refine zs rfl (zQ hK9 (zM h (fun (v11:ab)=>[(0,.ptr 0 0),(2,.ptr 102 0),(3,.ptr 103 0),(4,.ptr 104 0)]) (fun (v11:ab)=>[(0,.box (ah v11)),(102,.box [aY [],aY [],I 0]),(103,.box [aY v6.2.Name,aY v6.2.Path,I v6.2.Pos]),(104,.box (fo y10.1))]) (fun v11 h=>?_) fun _ _ hK13 h=>?_))
   · refine ag fun _ hK14=>aa (zf rfl (zl rfl (zf rfl (zs rfl (zQ hK14 (zM h (fun (v15:ab×cx)=>[(0,.ptr 0 0),(2,.ptr 102 0),(3,.ptr 103 0)]) (fun (v15:ab×cx)=>[(0,.box (ah v15.1)),(102,.box [aY [],aY [],I 0]),(103,.box [aY v15.2.Name,aY v15.2.Path,I v15.2.Pos])]) (fun v15 h=>?_) fun _ _ hK17 h=>?_))))))
     · refine ag fun _ hK18=>aa (zm rfl (zn rfl (zf rfl (zl rfl (zd hr h fun hg19 h=>zo hg19 rfl (zn rfl (zf rfl (zs rfl (zQ hK18 (ag fun _ hK20=>aa (zm rfl (zk hp hr h [0] Tryz.call58 (kp n (ab.mk v15.1.text v15.1.bd (v15.1.at_+1) v15.1.base v15.1.skip v15.1.pending)) rfl (fun _=>rfl) fun y21 h=>zQ hK20 (ag fun _ hK22=>aa (zA rfl ?_))))))))))))))
       exact zs rfl (zQ hK22 (aw (zX (.cons (aT rfl rfl rfl) .nil) h rfl)))
     · refine ag fun _ hK23=>aa (zf rfl (zl rfl (an (iE rfl rfl) rfl (zQ hK23 (zB rfl h (fun _ h=>?_) fun _ h=>?_)))))
       · refine ag fun _ hK25=>bz [0,1,2,3,4,5,6,7,8] rfl (by kernel_rfl) (zD rfl (bD rfl) rfl (zD rfl (eW [.any,aY y10.1.Text,.any] rfl rfl ⟨.inr rfl,.inl rfl,.inr rfl,trivial⟩ rfl) rfl (zD rfl (bD rfl) rfl (zD rfl (ba rfl rfl rfl) rfl (du rfl (bM rfl) hr h [] Tryz.call104 (rA y10.1.Text ([47]:List UInt8)) ⟨rfl,rfl,rfl,rfl,rfl,rfl,trivial⟩ rfl rfl (fun _=>⟨rfl,rfl,rfl⟩) (fun _=>⟨rfl,rfl⟩) hp (fun y26 h=>⟨cC ⟨trivial,⟨trivial,⟨⟨⟨_,rfl,aZ.eR ⟨.inr rfl,.inl rfl,.inr rfl,trivial⟩⟩,trivial⟩,⟨trivial,trivial⟩⟩⟩⟩,?_⟩))))))
         refine zd hr h fun hg27 h=>zD rfl (kZ rfl rfl hg27) rfl (zd hr h fun hg28 h=>zD rfl (gO rfl rfl hg28.1 hg28.2) rfl (zD rfl (bD rfl) rfl (bV rfl ⟨rfl,rfl,rfl,rfl,rfl,rfl,rfl,rfl⟩ rfl (fun e8 he=>⟨aH rfl,?_⟩))))
         subst he
         refine cr (hK25 _ _ (ag fun _ hK29=>aa (zf rfl (zl rfl (zk hp hr h [] Tryz.call62 (fL n (dO y10.1.Text (y26+1))) rfl (fun _=>rfl) fun y30 h=>an (eG rfl) rfl (zQ hK29 (zB rfl h (fun _ h=>?_) fun _ h=>?_)))))))
         · exact aa (zm rfl (zk hp hr h [0] Tryz.call35 (bt n v11) rfl (fun _=>rfl) fun y32 h=>ao (hK17 _ _ _ h rfl)))
         · exact ar (hK17 _ _ _ h rfl)
       · exact ar (hK17 _ _ _ h rfl)
   · refine ag fun _ hK33=>aa (zf rfl (zl rfl (zc rfl (zQ hK33 (zB rfl h (fun _ h=>?_) fun _ h=>?_)))))
     · exact aa (zm rfl (zk hp hr h [0] Tryz.call35 (bt n (ab.mk y10.2.text y10.2.bd y10.2.at_ v6.1.base y10.2.skip y10.2.pending)) rfl (fun _=>rfl) fun y35 h=>ao (hK13 _ _ _ h rfl)))
     · exact ar (hK13 _ _ _ h rfl)
 · refine ag fun _ hK36=>aa (zm rfl (zk hp hr h [0] Tryz.call34 (aI n (ab.mk y3.2.text y3.2.bd (y3.2.at_+1) y3.2.base y3.2.skip y3.2.pending)) rfl (fun _=>rfl) fun y37 h=>an (jV rfl rfl) rfl ?_))
   refine zc rfl (zQ hK36 (zB rfl h (fun _ h=>?_) fun _ h=>?_))
   · exact aa (zm rfl (zk hp hr h [0] Tryz.call57 (fD n (ab.mk y37.2.text y37.2.bd y37.2.at_ y3.2.base y37.2.skip y37.2.pending)) rfl (fun _=>rfl) fun y39 h=>zf rfl (zs rfl (ao (hK8 _ _ _ h rfl)))))
   · exact ar (hK8 _ _ _ h rfl)
def ju (n:Nat) (p0:ab):aq (gJ×ab):=
 aq.bind (js n p0) fun y4=>jn (fun (v5:ab×gJ×(List (List UInt8)))=>jn (fun (v8:ab×gJ)=>aq.bind (dW n v5.2.2 true v8.1) fun y12=>aq.bind (aE n y12.2.2) fun y15=>br (y15.1.Kind !=0) (aq.bind (be n (ab.mk y15.2.text y15.2.bd y15.2.at_ y12.2.2.base y15.2.skip y15.2.pending)) fun y17=>.ok ((gJ.mk v8.2.ik v8.2.eT y12.1 y12.2.1),y17)) (.ok ((gJ.mk v8.2.ik v8.2.eT y12.1 y12.2.1),(ab.mk y15.2.text y15.2.bd y15.2.at_ y12.2.2.base y15.2.skip y15.2.pending)))) fun j9=>iter (fun next21 (v20:ab×gJ)=>aq.bind (aE n v20.1) fun y25=>aq.bind (ep y25.1 ([105,109,112,111,114,116]:List UInt8)) fun y26=>br y26 (br ((List.length v20.2.eT:Int)==0) (aq.bind (jt n (ab.mk y25.2.text y25.2.bd y25.2.at_ v20.1.base y25.2.skip y25.2.pending)) fun y29=>gd (cB 40 (List.length v20.2.eT) (List.length [y29.1])) (next21 (y29.2,(gJ.mk v20.2.ik (v20.2.eT++[y29.1]) [] [])))) (gd (bA (y25.2.at_ - 1)) (el y25.2.bd (y25.2.at_ - 1) fun x32=>br (x32.Kind !=6) (aq.bind (jt n (ab.mk y25.2.text y25.2.bd y25.2.at_ v20.1.base y25.2.skip y25.2.pending)) fun y37=>gd (cB 40 (List.length v20.2.eT) (List.length [y37.1])) (next21 (y37.2,(gJ.mk v20.2.ik (v20.2.eT++[y37.1]) [] [])))) (j9 ((ab.mk y25.2.text y25.2.bd y25.2.at_ v20.1.base y25.2.skip y25.2.pending),(gJ.mk v20.2.ik v20.2.eT [] [])))))) (j9 ((ab.mk y25.2.text y25.2.bd y25.2.at_ v20.1.base y25.2.skip y25.2.pending),(gJ.mk v20.2.ik v20.2.eT [] [])))) n (v5.1,(gJ.mk v5.2.1.ik [] [] []))) fun j6=>aq.bind (aE n y4.2) fun y40=>aq.bind (ep y40.1 ([112,97,99,107,97,103,101]:List UInt8)) fun y41=>br y41 (gd (bA (y40.2.at_+1)) (aq.bind (dc n (ab.mk y40.2.text y40.2.bd (y40.2.at_+1) y4.2.base y40.2.skip y40.2.pending)) fun y46=>aq.bind (iZ n y46.2) fun y48=>aq.bind (ko n y48) fun y49=>gd (cB 16 (List.length y4.1) (List.length y49.1)) (j6 (y49.2,(gJ.mk y46.1 [] [] []),y4.1++y49.1)))) (j6 ((ab.mk y40.2.text y40.2.bd y40.2.at_ y4.2.base y40.2.skip y40.2.pending),(gJ.mk [] [] [] []),y4.1))
theorem rk (n:Nat) (p0:ab):CT Tryz.prog 27 [.ptr 0 0] [.box (ah p0)] (ju n p0) (fun x=>.agg (mz x.1)) (fun x=>[.box (ah x.2)]):=by
 refine zC Tryz.func27 rfl fun r hp h hr E hE=>ag fun _ hK1=>aa (aL 102 (hE _ rfl) ⟨rfl,rfl,rfl,rfl⟩ rfl ?_)
 refine zQ hK1 (ag fun _ hK2=>aa (aL 103 (hE _ rfl) ⟨rfl,rfl,rfl,rfl⟩ rfl ?_))
 refine zQ hK2 (ag fun _ hK3=>aa (zm rfl (aS (Bk 3106 (sz:=1) (el:=9) (hE _ rfl) ⟨rfl,rfl,rfl⟩) ?_)))
 refine iQ hr h [0,3106] Tryz.call55 (oD n p0) ⟨rfl,rfl,rfl,rfl,rfl,rfl,⟨hE _ rfl,trivial⟩⟩ rfl (fun _=>⟨rfl,rfl,rfl⟩) (fun _=>⟨rfl,rfl⟩) hp (fun y4 h=>?_)
 refine za rfl (aS (kn 3106 10004 [(0,.ptr 0 0),(2,.ptr 102 0),(3,.ptr 103 0),(4,.arr 10004 (List.length y4.1))] [(0,.box (ah y4.2)),(102,.box [aY [],Sc (.slice none 0 0),Sc (.slice none 0 0),Sc (.slice none 0 0)]),(103,.box [aY [],Sc (.slice none 0 0),Sc (.slice none 0 0),Sc (.slice none 0 0)])] (hE _ rfl) rfl rfl ⟨rfl,rfl⟩ ⟨⟨_,rfl,rfl,rfl⟩,⟨_,rfl,rfl,rfl⟩,⟨_,rfl,rfl,rfl⟩,⟨_,rfl,rfl,rfl⟩,trivial⟩ ⟨⟨_,rfl,rfl,rfl,rfl,rfl⟩,⟨_,rfl,rfl,rfl,rfl,rfl⟩,⟨_,rfl,rfl,rfl,rfl,rfl⟩,trivial⟩) ?_)
 refine zQ hK3 (zM h (fun (v5:ab×gJ×(List (List UInt8)))=>[(0,.ptr 0 0),(2,.ptr 102 0),(3,.ptr 103 0),(4,.arr 10004 (List.length v5.2.2))]) (fun (v5:ab×gJ×(List (List UInt8)))=>[(0,.box (ah v5.1)),(102,.box [aY [],Sc (.slice none 0 0),Sc (.slice none 0 0),Sc (.slice none 0 0)]),(103,.box [aY v5.2.1.ik,Sc (.slice none 0 0),Sc (.slice none 0 0),Sc (.slice none 0 0)]),(10004,.app 9 1 (bX v5.2.2))]) (fun v5 h=>?_) fun _ _ hK7 h=>?_)
 · refine zM h (fun (v8:ab×gJ)=>[(0,.ptr 0 0),(2,.ptr 102 0),(3,.ptr 103 0),(4,.arr 10004 (List.length v5.2.2))]) (fun (v8:ab×gJ)=>[(0,.box (ah v8.1)),(102,.box [aY [],Sc (.slice none 0 0),Sc (.slice none 0 0),Sc (.slice none 0 0)]),(103,.box [aY v8.2.ik,.arr 26593 (List.length v8.2.eT),Sc (.slice none 0 0),Sc (.slice none 0 0)]),(10004,.app 9 1 (bX v5.2.2)),(26593,.app 65 3 (cx.Cs v8.2.eT))]) (fun v8 h=>?_) fun _ _ hK10 h=>?_
   · refine ag fun _ hK11=>aa (zm rfl (zm rfl (DZ [(0,.ptr 0 0),(2,.ptr 102 0),(3,.ptr 103 0),(58,.ptr 0 0)] ⟨rfl,rfl,rfl,rfl,trivial⟩ hr h [0,10004] Tryz.call60 (qu n v5.2.2 true v8.1) ⟨rfl,rfl,rfl,rfl,rfl,rfl,⟨hE _ rfl,trivial⟩⟩ rfl (fun _=>⟨rfl,rfl,rfl⟩) (fun _=>⟨rfl,rfl⟩) hp (fun y12 h=>?_))))
     refine zm rfl (zx rfl (zx rfl (zf rfl (zs rfl (zf rfl (zs rfl (zQ hK11 (ag fun _ hK13=>ag fun _ hK14=>aa (zm rfl (zk hp hr h [0] Tryz.call34 (aI n y12.2.2) rfl (fun _=>rfl) fun y15 h=>an (jV rfl rfl) rfl ?_))))))))))
     refine zc rfl (zQ hK14 (zB rfl h (fun _ h=>?_) fun _ h=>?_))
     · refine aa (zm rfl (zk hp hr h [0] Tryz.call35 (bt n (ab.mk y15.2.text y15.2.bd y15.2.at_ y12.2.2.base y15.2.skip y15.2.pending)) rfl (fun _=>rfl) fun y17 h=>zQ hK13 (ag fun _ hK18=>aa (aS (xm (j:=103) (off:=1) cx.bb cx.bP rfl rfl rfl rfl rfl) ?_))))
       refine zA rfl ?_
       exact zs rfl (zQ hK18 (aw (zX (.cons (aT rfl rfl rfl) .nil) h rfl)))
     · refine ar (hK13 _ _ (ag fun _ hK19=>aa (aS (xm (j:=103) (off:=1) cx.bb cx.bP rfl rfl rfl rfl rfl) ?_)))
       refine zA rfl ?_
       exact zs rfl (zQ hK19 (aw (zX (.cons (aT rfl rfl rfl) .nil) h rfl)))
   · refine aC (bQ (rn (j:=103) (off:=1) 26593 (sz:=3) (el:=65) (hE _ rfl) rfl rfl ⟨rfl,rfl,rfl⟩ rfl) ?_)
     refine zL hr h (fun (v20:ab×gJ)=>[(0,.ptr 0 0),(2,.ptr 102 0),(3,.ptr 103 0),(4,.arr 10004 (List.length v5.2.2))]) (fun (v20:ab×gJ)=>[(0,.box (ah v20.1)),(102,.box [aY [],Sc (.slice none 0 0),Sc (.slice none 0 0),Sc (.slice none 0 0)]),(103,.box [aY v20.2.ik,.arr 26593 (List.length v20.2.eT),Sc (.slice none 0 0),Sc (.slice none 0 0)]),(10004,.app 9 1 (bX v5.2.2)),(26593,.app 65 3 (cx.Cs v20.2.eT))]) rfl fun _ v20 _ hK22 h=>ag fun _ hK23=>ag fun _ hK24=>bz [0,1,2,3,4,5,6,7,8,9,10,11,12,13,14,15,16,17,18,19,20,21,22,23] rfl (by kernel_rfl) (zD rfl (au rfl) rfl (du rfl (bM rfl) hr h [0] Tryz.call34 (aI n v20.1) ⟨rfl,rfl,rfl,rfl,rfl,rfl,trivial⟩ rfl rfl (fun _=>⟨rfl,rfl,rfl⟩) (fun _=>⟨rfl,rfl⟩) hp (fun y25 h=>⟨aH rfl,?_⟩)))
     refine du rfl (bM rfl) hr h [] Tryz.call56 (gk y25.1 ([105,109,112,111,114,116]:List UInt8)) ⟨rfl,rfl,rfl,rfl,rfl,rfl,trivial⟩ rfl rfl (fun _=>⟨rfl,rfl,rfl⟩) (fun _=>⟨rfl,rfl⟩) hp (fun y26 h=>⟨aH rfl,?_⟩)
     refine zD rfl (au rfl) rfl (zb y26 (fun hb27=>?_) fun hb27=>?_)
     · refine z1 hb27 h fun h=>df hb27 rfl ⟨rfl,rfl⟩ (bD rfl) ⟨rfl,rfl,rfl⟩ ?_
       refine df hb27 rfl ⟨rfl,rfl⟩ (ni cx.bb cx.bP rfl rfl rfl rfl rfl) ⟨rfl,rfl,rfl⟩ ?_
       refine df hb27 rfl ⟨rfl,rfl⟩ (cg rfl) ⟨rfl,rfl,rfl⟩ ?_
       refine df hb27 rfl ⟨rfl,rfl⟩ (bg rfl rfl rfl) ⟨rfl,rfl,rfl⟩ ?_
       refine df hb27 rfl ⟨rfl,rfl⟩ (au rfl) ⟨rfl,rfl,rfl⟩ ?_
       refine zb ((List.length v20.2.eT:Int)==0) (fun hb28=>?_) fun hb28=>?_
       · refine z1 hb28 h fun h=>cG hb28 rfl ⟨rfl,rfl⟩ ⟨rfl,rfl⟩ ?_
         refine cG hb28 rfl ⟨rfl,rfl⟩ ⟨rfl,rfl⟩ ?_
         refine cG hb28 rfl ⟨rfl,rfl⟩ ⟨rfl,rfl⟩ ?_
         refine cG hb28 rfl ⟨rfl,rfl⟩ ⟨rfl,rfl⟩ ?_
         refine cG hb28 rfl ⟨rfl,rfl⟩ ⟨rfl,rfl⟩ ?_
         refine cG hb28 rfl ⟨rfl,rfl⟩ ⟨rfl,rfl⟩ ?_
         refine cG hb28 rfl ⟨rfl,rfl⟩ ⟨rfl,rfl⟩ ?_
         refine cG hb28 rfl ⟨rfl,rfl⟩ ⟨rfl,rfl⟩ ?_
         refine cG hb28 rfl ⟨rfl,rfl⟩ ⟨rfl,rfl⟩ ?_
         refine cG hb28 rfl ⟨rfl,rfl⟩ ⟨rfl,rfl⟩ ?_
         refine cG hb28 rfl ⟨rfl,rfl⟩ ⟨rfl,rfl⟩ ?_
         refine cG hb28 rfl ⟨rfl,rfl⟩ ⟨rfl,rfl⟩ ?_
         refine cG hb28 rfl ⟨rfl,rfl⟩ ⟨rfl,rfl⟩ ?_
         refine df hb27 rfl ⟨rfl,rfl⟩ (cT hb28 rfl rfl) ⟨rfl,rfl,rfl⟩ ?_
         refine zD rfl (cT hb27 rfl rfl) rfl (cr (hK24 _ _ (cN rfl (fun hc=>?_) (fun hc=>?_))))
         · refine ar (hK23 _ _ (aC (lY [] ?_)))
           refine bz [0,1,2,3,4,5,6,7] rfl (by kernel_rfl) (zD rfl (bD rfl) rfl (zD rfl (eW [.any,.arr 26593 (List.length v20.2.eT),.any,.any] rfl rfl ⟨.inr rfl,.inl rfl,.inr rfl,.inr rfl,trivial⟩ rfl) rfl (zD rfl (au rfl) rfl (du rfl (bM rfl) hr h [0] Tryz.call59 (kB n (ab.mk y25.2.text y25.2.bd y25.2.at_ v20.1.base y25.2.skip y25.2.pending)) ⟨rfl,rfl,rfl,rfl,rfl,rfl,trivial⟩ rfl rfl (fun _=>⟨rfl,rfl,rfl⟩) (fun _=>⟨rfl,rfl⟩) hp (fun y29 h=>⟨cC ⟨trivial,⟨⟨⟨_,rfl,aZ.eR ⟨.inr rfl,.inl rfl,.inr rfl,.inr rfl,trivial⟩⟩,trivial⟩,⟨trivial,trivial⟩⟩⟩,?_⟩)))))
           refine gU [y29.1] cx.bb rfl (bM rfl) ⟨rfl,rfl⟩ ⟨rfl,rfl⟩ ?_
           refine zd hr h fun hg30 h=>wx 155 rfl (bM rfl) ⟨jH.h,eu.h,cx.bb,cx.bP,cx.iS,hE _ rfl,rfl,rfl,(.inl rfl),⟨rfl,rfl,rfl⟩,hg30⟩ rfl rfl ⟨aH rfl,?_⟩
           refine zD rfl (bD rfl) rfl (bV rfl ⟨rfl,rfl,rfl,rfl,rfl,rfl,rfl,rfl⟩ rfl (fun e7 he=>⟨aH rfl,?_⟩))
           subst he
           refine fP (kn 155 26593 [(0,.ptr 0 0),(2,.ptr 102 0),(3,.ptr 103 0),(4,.arr 10004 (List.length v5.2.2))] [(10004,.app 9 1 (bX v5.2.2)),(0,.box (ah y29.2)),(102,.box [aY [],Sc (.slice none 0 0),Sc (.slice none 0 0),Sc (.slice none 0 0)]),(103,.box [aY v20.2.ik,.arr 26593 (List.length (v20.2.eT++[y29.1])),Sc (.slice none 0 0),Sc (.slice none 0 0)])] (hE _ rfl) rfl rfl ⟨rfl,rfl⟩ ⟨⟨_,rfl,rfl,rfl⟩,⟨_,rfl,rfl,rfl⟩,⟨_,rfl,rfl,rfl⟩,⟨_,rfl,rfl,rfl⟩,trivial⟩ ⟨⟨_,rfl,rfl,rfl,rfl,rfl⟩,⟨_,rfl,rfl,rfl,rfl,rfl⟩,⟨_,rfl,rfl,rfl,rfl,rfl⟩,⟨_,rfl,rfl,rfl,rfl,rfl⟩,trivial⟩) ?_
           exact hK22 _ _ _ h rfl
         · exact absurd (hc) (by simp)
       · refine z2 hb28 h fun h=>df hb28 rfl ⟨rfl,rfl⟩ (au rfl) ⟨rfl,rfl,rfl⟩ ?_
         refine df hb28 rfl ⟨rfl,rfl⟩ (cP rfl) ⟨rfl,rfl,rfl⟩ ?_
         refine df hb28 rfl ⟨rfl,rfl⟩ (bD rfl) ⟨rfl,rfl,rfl⟩ ?_
         refine df hb28 rfl ⟨rfl,rfl⟩ (ba rfl rfl rfl) ⟨rfl,rfl,rfl⟩ ?_
         refine df hb28 rfl ⟨rfl,rfl⟩ (au rfl) ⟨rfl,rfl,rfl⟩ ?_
         refine df hb28 rfl ⟨rfl,rfl⟩ (cP rfl) ⟨rfl,rfl,rfl⟩ ?_
         refine df hb28 rfl ⟨rfl,rfl⟩ (bD rfl) ⟨rfl,rfl,rfl⟩ ?_
         refine df hb28 rfl ⟨rfl,rfl⟩ (ba rfl rfl rfl) ⟨rfl,rfl,rfl⟩ ?_
         refine zd hr h fun hg31 h=>df hb28 rfl ⟨rfl,rfl⟩ (pX rfl rfl hg31) ⟨rfl,rfl,rfl⟩ ?_
         refine ze hr h fun x32 h33 h34 h35 h=>df hb28 rfl ⟨rfl,rfl⟩ (gx aK.bb aK.bP h33 h34 h35 rfl rfl rfl) ⟨rfl,rfl,rfl⟩ ?_
         refine df hb28 rfl ⟨rfl,rfl⟩ (kv rfl rfl) ⟨rfl,rfl,rfl⟩ ?_
         refine df hb28 rfl ⟨rfl,rfl⟩ (fO rfl rfl) ⟨rfl,rfl,rfl⟩ ?_
         refine df hb28 rfl ⟨rfl,rfl⟩ (bg rfl rfl rfl) ⟨rfl,rfl,rfl⟩ ?_
         refine df hb27 rfl ⟨rfl,rfl⟩ (cO hb28 rfl rfl) ⟨rfl,rfl,rfl⟩ ?_
         refine zD rfl (cT hb27 rfl rfl) rfl (cr (hK24 _ _ (zB rfl h (fun _ h=>?_) fun _ h=>?_)))
         · refine ar (hK23 _ _ (aC (lY [] ?_)))
           refine bz [0,1,2,3,4,5,6,7] rfl (by kernel_rfl) (zD rfl (bD rfl) rfl (zD rfl (eW [.any,.arr 26593 (List.length v20.2.eT),.any,.any] rfl rfl ⟨.inr rfl,.inl rfl,.inr rfl,.inr rfl,trivial⟩ rfl) rfl (zD rfl (au rfl) rfl (du rfl (bM rfl) hr h [0] Tryz.call59 (kB n (ab.mk y25.2.text y25.2.bd y25.2.at_ v20.1.base y25.2.skip y25.2.pending)) ⟨rfl,rfl,rfl,rfl,rfl,rfl,trivial⟩ rfl rfl (fun _=>⟨rfl,rfl,rfl⟩) (fun _=>⟨rfl,rfl⟩) hp (fun y37 h=>⟨cC ⟨trivial,⟨⟨⟨_,rfl,aZ.eR ⟨.inr rfl,.inl rfl,.inr rfl,.inr rfl,trivial⟩⟩,trivial⟩,⟨trivial,trivial⟩⟩⟩,?_⟩)))))
           refine gU [y37.1] cx.bb rfl (bM rfl) ⟨rfl,rfl⟩ ⟨rfl,rfl⟩ ?_
           refine zd hr h fun hg38 h=>wx 155 rfl (bM rfl) ⟨jH.h,eu.h,cx.bb,cx.bP,cx.iS,hE _ rfl,rfl,rfl,(.inl rfl),⟨rfl,rfl,rfl⟩,hg38⟩ rfl rfl ⟨aH rfl,?_⟩
           refine zD rfl (bD rfl) rfl (bV rfl ⟨rfl,rfl,rfl,rfl,rfl,rfl,rfl,rfl⟩ rfl (fun e7 he=>⟨aH rfl,?_⟩))
           subst he
           refine fP (kn 155 26593 [(0,.ptr 0 0),(2,.ptr 102 0),(3,.ptr 103 0),(4,.arr 10004 (List.length v5.2.2))] [(10004,.app 9 1 (bX v5.2.2)),(0,.box (ah y37.2)),(102,.box [aY [],Sc (.slice none 0 0),Sc (.slice none 0 0),Sc (.slice none 0 0)]),(103,.box [aY v20.2.ik,.arr 26593 (List.length (v20.2.eT++[y37.1])),Sc (.slice none 0 0),Sc (.slice none 0 0)])] (hE _ rfl) rfl rfl ⟨rfl,rfl⟩ ⟨⟨_,rfl,rfl,rfl⟩,⟨_,rfl,rfl,rfl⟩,⟨_,rfl,rfl,rfl⟩,⟨_,rfl,rfl,rfl⟩,trivial⟩ ⟨⟨_,rfl,rfl,rfl,rfl,rfl⟩,⟨_,rfl,rfl,rfl,rfl,rfl⟩,⟨_,rfl,rfl,rfl,rfl,rfl⟩,⟨_,rfl,rfl,rfl,rfl,rfl⟩,trivial⟩) ?_
           exact hK22 _ _ _ h rfl
         · exact bp (hK10 _ _ _ h rfl)
     · refine z2 hb27 h fun h=>cG hb27 rfl ⟨rfl,rfl⟩ ⟨rfl,rfl⟩ ?_
       refine cG hb27 rfl ⟨rfl,rfl⟩ ⟨rfl,rfl⟩ ?_
       refine cG hb27 rfl ⟨rfl,rfl⟩ ⟨rfl,rfl⟩ ?_
       refine cG hb27 rfl ⟨rfl,rfl⟩ ⟨rfl,rfl⟩ ?_
       refine cG hb27 rfl ⟨rfl,rfl⟩ ⟨rfl,rfl⟩ ?_
       refine oM rfl ⟨rfl,rfl⟩ ⟨rfl,rfl⟩ ?_
       refine oM rfl ⟨rfl,rfl⟩ ⟨rfl,rfl⟩ ?_
       refine oM rfl ⟨rfl,rfl⟩ ⟨rfl,rfl⟩ ?_
       refine oM rfl ⟨rfl,rfl⟩ ⟨rfl,rfl⟩ ?_
       refine oM rfl ⟨rfl,rfl⟩ ⟨rfl,rfl⟩ ?_
       refine oM rfl ⟨rfl,rfl⟩ ⟨rfl,rfl⟩ ?_
       refine oM rfl ⟨rfl,rfl⟩ ⟨rfl,rfl⟩ ?_
       refine oM rfl ⟨rfl,rfl⟩ ⟨rfl,rfl⟩ ?_
       refine oM rfl ⟨rfl,rfl⟩ ⟨rfl,rfl⟩ ?_
       refine oM rfl ⟨rfl,rfl⟩ ⟨rfl,rfl⟩ ?_
       refine oM rfl ⟨rfl,rfl⟩ ⟨rfl,rfl⟩ ?_
       refine oM rfl ⟨rfl,rfl⟩ ⟨rfl,rfl⟩ ?_
       refine oM rfl ⟨rfl,rfl⟩ ⟨rfl,rfl⟩ ?_
       refine cG hb27 rfl ⟨rfl,rfl⟩ ⟨rfl,rfl⟩ ?_
       refine zD rfl (cO hb27 rfl rfl) rfl (cr (hK24 _ _ (cN rfl (fun hc=>?_) (fun hc=>?_))))
       · exact absurd (hc) (by simp)
       · exact bp (hK10 _ _ _ h rfl)
 · refine ag fun _ hK39=>aa (zm rfl (zk hp hr h [0] Tryz.call34 (aI n y4.2) rfl (fun _=>rfl) fun y40 h=>zk hp hr h [] Tryz.call56 (gk y40.1 ([112,97,99,107,97,103,101]:List UInt8)) rfl (fun _=>rfl) fun y41 h=>zQ hK39 (zB rfl h (fun _ h=>?_) fun _ h=>?_)))
   · refine ag fun _ hK43=>aa (zm rfl (zn rfl (zf rfl (zl rfl (zd hr h fun hg44 h=>zo hg44 rfl (zn rfl (zf rfl (zs rfl (zQ hK43 (ag fun _ hK45=>aa (zm rfl (zk hp hr h [0] Tryz.call57 (fD n (ab.mk y40.2.text y40.2.bd (y40.2.at_+1) y4.2.base y40.2.skip y40.2.pending)) rfl (fun _=>rfl) fun y46 h=>zf rfl (zs rfl (zQ hK45 (ag fun _ hK47=>aa (zm rfl (zk hp hr h [0] Tryz.call58 (kp n y46.2) rfl (fun _=>rfl) fun y48 h=>zQ hK47 (aa ?_))))))))))))))))))
     refine zm rfl (zm rfl (zk hp hr h [0] Tryz.call55 (nb n y48) rfl (fun _=>rfl) fun y49 h=>zd hr h fun hg50 h=>lE 125 ⟨jH.h,eu.h,eX,gI,qP,hE _ rfl,rfl,rfl,(.inl rfl),⟨rfl,rfl,rfl⟩,hg50⟩ rfl ?_))
     refine za rfl (aS (kn 125 10004 [(0,.ptr 0 0),(2,.ptr 102 0),(3,.ptr 103 0),(4,.arr 10004 (List.length (y4.1++y49.1)))] [(0,.box (ah y49.2)),(102,.box [aY [],Sc (.slice none 0 0),Sc (.slice none 0 0),Sc (.slice none 0 0)]),(103,.box [aY y46.1,Sc (.slice none 0 0),Sc (.slice none 0 0),Sc (.slice none 0 0)])] (hE _ rfl) rfl rfl ⟨rfl,rfl⟩ ⟨⟨_,rfl,rfl,rfl⟩,⟨_,rfl,rfl,rfl⟩,⟨_,rfl,rfl,rfl⟩,⟨_,rfl,rfl,rfl⟩,trivial⟩ ⟨⟨_,rfl,rfl,rfl,rfl,rfl⟩,⟨_,rfl,rfl,rfl,rfl,rfl⟩,⟨_,rfl,rfl,rfl,rfl,rfl⟩,trivial⟩) ?_)
     exact ao (hK7 _ _ _ h rfl)
   · exact ar (hK7 _ _ _ h rfl)
def nc (n:Nat) (p0:gJ):aq (Int):=
 jn (fun (v3:al)=>iter (fun next9 (v8:al×Int)=>br (decide (v8.2<(List.length p0.eT:Int))) (el p0.eT v8.2 fun EY=>aq.bind (fC n EY.Name) fun y20=>aq.bind (aA n [y20] v8.1) fun y21=>gd (bA (v8.2+1)) (next9 (y21,v8.2+1))) (aq.bind (cF n p0.Decls true 1 v8.1) fun y24=>aq.bind (gw y24) fun y26=>.ok (y26.1))) n (v3,0)) fun j4=>br (p0.ik==([]:List UInt8)) (aq.bind (gp n p0.cd) fun y28=>aq.bind (aA n [true,y28] (al.mk false false)) fun y29=>j4 (y29)) (aq.bind (fC n p0.ik) fun y30=>aq.bind (gp n p0.cd) fun y31=>aq.bind (aA n [y30,y31] (al.mk false false)) fun y32=>j4 (y32))
theorem uU (n:Nat) (p0:gJ):CT Tryz.prog 28 [.agg (mz p0)] [] (nc n p0) (fun x=>I x) (fun _=>[]):=by
 refine zC Tryz.func28 rfl fun r hp h hr E hE=>ag fun _ hK1=>aa (dP 101 (hE _ rfl) ⟨rfl,rfl,rfl,rfl,rfl,rfl,rfl⟩ rfl ?_)
 refine za rfl (zQ hK1 (ag fun _ hK2=>aa (an (bE rfl rfl rfl) rfl ?_)))
 refine dP 107 (hE _ rfl) ⟨rfl,rfl,rfl,rfl,rfl,rfl,rfl⟩ rfl ?_
 refine za rfl (zQ hK2 (zM h (fun (v3:al)=>[(0,.agg (mz p0)),(1,.ptr 101 0),(3,.ptr 107 0)]) (fun (v3:al)=>[(101,.box (mz p0)),(107,.box (aG v3))]) (fun v3 h=>?_) fun _ _ hK5 h=>?_))
 · refine ag fun _ hK6=>ag fun _ hK7=>aa (zf rfl (zl rfl (an (cg rfl) rfl (zm rfl (zQ hK7 (aC (zL hr h (fun (v8:al×Int)=>[(0,.agg (mz p0)),(1,.ptr 101 0),(3,.ptr 107 0),(23,.pv (.sl (List.length p0.eT) (cx.Cs p0.eT))),(24,I (List.length p0.eT:Int)),(25,I v8.2)]) (fun (v8:al×Int)=>[(101,.box (mz p0)),(107,.box (aG v8.1))]) rfl fun _ v8 _ hK10 h=>ag fun _ hK11=>aa (zc rfl (zQ hK11 (ag fun _ hK12=>zB rfl h (fun _ h=>?_) fun _ h=>?_))))))))))
   · refine ar (hK12 _ _ (ag fun _ hK14=>aC (ag fun _ hK15=>aa (ze hr h fun EY h17 h18 h19 h=>an (gx cx.bb cx.bP h17 h18 h19 rfl rfl rfl) rfl (an (gN rfl rfl) rfl ?_)))))
     refine aL 105 (hE _ rfl) ⟨rfl,rfl,rfl,rfl⟩ rfl ?_
     refine zs rfl (zQ hK15 (aa (zm rfl (zf rfl (zl rfl (zk hp hr h [] Tryz.call62 (fL n EY.Name) rfl (fun _=>rfl) fun y20 h=>bR [y20] bu ⟨rfl,rfl⟩ rfl ?_))))))
     exact zk hp hr h [107] Tryz.call61 (az n [y20] v8.1) rfl (fun _=>rfl) fun y21 h=>zQ hK14 (aa (zd hr h fun hg22 h=>zo hg22 rfl (zm rfl (ao (hK10 _ _ _ h rfl)))))
   · exact bp (hK6 _ _ (ag fun _ hK23=>aa (zm rfl (zf rfl (zl rfl (zk hp hr h [107] Tryz.call64 (pQ n p0.Decls true 1 v8.1) rfl (fun _=>rfl) fun y24 h=>zQ hK23 (ag fun _ hK25=>aa (zm rfl (zk hp hr h [107] Tryz.call65 (lg y24) rfl (fun _=>rfl) fun y26 h=>za rfl (zQ hK25 (aw (zX (.cons (ay rfl) .nil) h rfl))))))))))))
 · refine bz [0,1,2,3,4,5,6,9,10,7,8,11,12,13] rfl (by kernel_rfl) (zD rfl (au rfl) rfl (zD rfl (bD rfl) rfl (zD rfl (ba rfl rfl rfl) rfl (zD rfl (iE rfl rfl) rfl (zD rfl (au rfl) rfl (zb (p0.ik==([]:List UInt8)) (fun hb27=>?_) fun hb27=>?_))))))
   · refine z1 hb27 h fun h=>cG hb27 rfl ⟨rfl,rfl⟩ ⟨rfl,rfl⟩ ?_
     refine cG hb27 rfl ⟨rfl,rfl⟩ ⟨rfl,rfl⟩ ?_
     refine zD rfl (bD rfl) rfl (zD rfl (eW [.any,.any,.any,.pv (.sl (List.length p0.cd) (bX p0.cd))] rfl rfl ⟨.inr rfl,.inr rfl,.inr rfl,.inl rfl,trivial⟩ rfl) rfl (lD hb27 rfl ⟨rfl,rfl⟩ ⟨rfl,rfl⟩ ?_))
     refine zD rfl (cT hb27 rfl rfl) rfl (du rfl (bM rfl) hr h [] Tryz.call63 (gZ n p0.cd) ⟨rfl,rfl,rfl,rfl,rfl,rfl,trivial⟩ rfl rfl (fun _=>⟨rfl,rfl,rfl⟩) (fun _=>⟨rfl,rfl⟩) hp (fun y28 h=>⟨aH rfl,?_⟩))
     refine gU [true,y28] bu rfl (bM rfl) ⟨rfl,rfl⟩ ⟨rfl,rfl⟩ ?_
     refine du rfl (bM rfl) hr h [107] Tryz.call61 (az n [true,y28] (al.mk false false)) ⟨rfl,rfl,rfl,rfl,rfl,rfl,trivial⟩ rfl rfl (fun _=>⟨rfl,rfl,rfl⟩) (fun _=>⟨rfl,rfl⟩) hp (fun y29 h=>⟨aH rfl,?_⟩)
     exact cr (hK5 _ _ _ h rfl)
   · refine z2 hb27 h fun h=>df hb27 rfl ⟨rfl,rfl⟩ (bD rfl) ⟨rfl,rfl,rfl⟩ ?_
     refine df hb27 rfl ⟨rfl,rfl⟩ (ba rfl rfl rfl) ⟨rfl,rfl,rfl⟩ ?_
     refine zD rfl (bD rfl) rfl (zD rfl (eW [.any,.any,.any,.pv (.sl (List.length p0.cd) (bX p0.cd))] rfl rfl ⟨.inr rfl,.inr rfl,.inr rfl,.inl rfl,trivial⟩ rfl) rfl (du rfl (uv hb27 rfl ⟨rfl,rfl⟩) hr h [] Tryz.call62 (fL n p0.ik) ⟨rfl,rfl,rfl,rfl,rfl,rfl,trivial⟩ rfl rfl (fun _=>⟨rfl,rfl,rfl⟩) (fun _=>⟨rfl,rfl⟩) hp (fun y30 h=>⟨cC ⟨⟨⟨_,rfl,aZ.eR ⟨.inr rfl,.inr rfl,.inr rfl,.inl rfl,trivial⟩⟩,trivial⟩,⟨trivial,⟨trivial,⟨trivial,⟨trivial,⟨trivial,⟨trivial,⟨trivial,⟨trivial,trivial⟩⟩⟩⟩⟩⟩⟩⟩⟩,?_⟩)))
     refine zD rfl (cO hb27 rfl rfl) rfl (du rfl (bM rfl) hr h [] Tryz.call63 (gZ n p0.cd) ⟨rfl,rfl,rfl,rfl,rfl,rfl,trivial⟩ rfl rfl (fun _=>⟨rfl,rfl,rfl⟩) (fun _=>⟨rfl,rfl⟩) hp (fun y31 h=>⟨aH rfl,?_⟩))
     refine gU [y30,y31] bu rfl (bM rfl) ⟨rfl,rfl⟩ ⟨rfl,rfl⟩ ?_
     refine du rfl (bM rfl) hr h [107] Tryz.call61 (az n [y30,y31] (al.mk false false)) ⟨rfl,rfl,rfl,rfl,rfl,rfl,trivial⟩ rfl rfl (fun _=>⟨rfl,rfl,rfl⟩) (fun _=>⟨rfl,rfl⟩) hp (fun y32 h=>⟨aH rfl,?_⟩)
     exact cr (hK5 _ _ _ h rfl)
def jh (n:Nat) (p0:(List UInt8)):aq (gJ×eb):=
 aq.bind (gD n p0) fun y3=>br (y3.2.Errno !=0) (.ok ((gJ.mk [] [] [] []),y3.2)) (nv (aq.bind (ju n (ab.mk p0 y3.1 0 0 false none)) fun y12=>aq.bind (nc n y12.1) fun y15=>br (y15==9) (.ok ((gJ.mk [] [] [] []),(eb.mk 9 0))) (.ok (y12.1,(eb.mk 0 0)))) (fun p=>r6 86 p fun v21=>aq.bind (oa v21) fun y22=>.ok (y22.1,y22.2)))
theorem kC (n:Nat) (p0:(List UInt8)):CT Tryz.prog 12 [aY p0] [] (jh n p0) (fun x=>.fH [.agg (mz x.1),.agg [I x.2.Errno,I x.2.At]]) (fun _=>[]):=by
 refine rq Tryz.func12 rfl rfl fun r h hr E hE=>?_
 refine ag fun _ hK1=>aa (aL 102 (hE _ rfl) ⟨rfl,rfl,rfl,rfl⟩ rfl ?_)
 refine aL 103 (hE _ rfl) ⟨rfl,rfl,rfl,rfl⟩ rfl ?_
 refine zQ hK1 (ag fun _ hK2=>aa (zm rfl (iQ hr h [] Tryz.call24 (pE n p0) ⟨rfl,rfl,rfl,rfl,rfl,rfl,trivial⟩ rfl (fun _=>⟨rfl,rfl,rfl⟩) (fun _=>⟨rfl,rfl⟩) (fun _ _ _ hd hp=>tP (P:=Tryz.prog) (fn:=Tryz.f12) hd hp) (fun y3 h=>?_))))
 refine zm rfl (zx rfl (zx rfl (za rfl (zs rfl (zQ hK2 (ag fun _ hK4=>ag fun _ hK5=>aa (zf rfl (zl rfl (zc rfl (zQ hK5 (zB rfl h (fun _ h=>?_) fun _ h=>?_)))))))))))
 · refine ag fun _ hK7=>bz [0,1,2,3] rfl (by kernel_rfl) (zD rfl (dm rfl rfl) rfl ?_)
   refine zD rfl (jy rfl rfl rfl rfl) rfl ?_
   refine bV rfl ⟨rfl,rfl,rfl,rfl,rfl,rfl,rfl,rfl⟩ rfl (fun e2 he=>⟨cC ⟨⟨⟨_,rfl,aZ.le_refl _⟩,trivial⟩,⟨trivial,trivial⟩⟩,?_⟩)
   subst he
   refine bV rfl ⟨rfl,rfl,rfl,rfl,rfl,rfl,rfl,rfl⟩ rfl (fun e3 he=>⟨aH rfl,?_⟩)
   subst he
   refine cr (hK7 _ _ (bQ (jb 102 rfl rfl) ?_))
   exact aw (ss (n:=Tryz.f12.ntmps) (.inl rfl) (lX (.inl rfl) _ (.cons (aT rfl rfl rfl) (.cons (aT rfl rfl rfl) .nil)) h.symm (AV.le_refl _) trivial))
 · refine ar (hK4 _ _ (ag fun _ hK8=>aa (an (oO rfl rfl) rfl ?_)))
   refine wy rfl ?_
   have hrO:=hr
   obtain ⟨r,hr,h,hc⟩:=tO hr h
   refine zQ hK8 (ag fun _ hK9=>aa (zm rfl (zm rfl (an (dm rfl rfl) rfl ?_))))
   refine dP 121 (hE _ rfl) ⟨rfl,rfl,rfl,rfl,rfl,rfl,rfl⟩ rfl ?_
   refine za rfl (zQ hK9 (ag fun _ hK10=>aa (zm rfl (an (oO rfl rfl) rfl ?_))))
   refine za rfl (zQ hK10 (ag fun _ hK11=>aa (zm rfl (aS (jb 121 rfl rfl) ?_))))
   refine oj hr h [121] Tryz.call27 (rk n (ab.mk p0 y3.1 0 0 false none)) ⟨rfl,rfl,rfl,rfl,rfl,rfl,trivial⟩ rfl rfl (fun _=>⟨rfl,rfl,rfl⟩) (fun _=>⟨rfl,rfl⟩) rfl (fun p hp=>?_) (fun y12 h=>?_)
   · obtain ⟨v20,rfl,hc⟩:=lF hrO (k2 hc hp)
     obtain ⟨hns,hok,_⟩:=jU hrO hc
     repeat (first|refine k3 ?_|refine jW ?_)
     refine gV (n:=Tryz.f12.ntmps) [102,103] Tryz.call25 (mK v20) hns rfl ⟨rfl,rfl,rfl,rfl⟩ (fun _=>⟨rfl,rfl⟩) (fun x hx=>?_)
     exact fw (.inl rfl) _ (.cons (aT rfl rfl rfl) (.cons (aT rfl rfl rfl) .nil)) (hok x hx).symm (AV.le_refl _) trivial
   · refine zs rfl (zQ hK11 (ag fun _ hK13=>ag fun _ hK14=>aa (zA rfl ?_)))
     refine oj hr h [] Tryz.call28 (uU n y12.1) ⟨rfl,rfl,rfl,rfl,rfl,rfl,trivial⟩ rfl rfl (fun _=>⟨rfl,rfl,rfl⟩) (fun _=>⟨rfl,rfl⟩) rfl (fun p hp=>?_) (fun y15 h=>?_)
     · obtain ⟨v19,rfl,hc⟩:=lF hrO (k2 hc hp)
       obtain ⟨hns,hok,_⟩:=jU hrO hc
       repeat (first|refine k3 ?_|refine jW ?_)
       refine gV (n:=Tryz.f12.ntmps) [102,103] Tryz.call25 (mK v19) hns rfl ⟨rfl,rfl,rfl,rfl⟩ (fun _=>⟨rfl,rfl⟩) (fun x hx=>?_)
       exact fw (.inl rfl) _ (.cons (aT rfl rfl rfl) (.cons (aT rfl rfl rfl) .nil)) (hok x hx).symm (AV.le_refl _) trivial
     · refine zc rfl (zQ hK14 (zB rfl h (fun _ h=>?_) fun _ h=>?_))
       · refine ag fun _ hK17=>aa (an (dm rfl rfl) rfl ?_)
         refine an (bE rfl rfl rfl) rfl ?_
         refine zs rfl (zs rfl (zQ hK17 (bQ (jb 102 rfl rfl) ?_)))
         refine aw (kL (n:=Tryz.f12.ntmps) (.inl rfl) [102,103] Tryz.call25 (lA [.box [aY [],.pv (.sl (List.length ([]:List cx)) (cx.Cs [])),.pv (.sl (List.length ([]:List ax)) (ax.Cs [])),.pv (.sl (List.length ([]:List (List UInt8))) (bX []))],.box [I 9,I 0]]) ⟨rfl,rfl,rfl,rfl⟩ rfl rfl ?_)
         exact fw (.inl rfl) _ (.cons (aT rfl rfl rfl) (.cons (aT rfl rfl rfl) .nil)) (pr hc h.symm) (AV.le_refl _) trivial
       · refine ar (hK13 _ _ (ag fun _ hK18=>aa (zA rfl ?_)))
         refine an (bE rfl rfl rfl) rfl ?_
         refine zs rfl (zs rfl (zQ hK18 (aw (kL (n:=Tryz.f12.ntmps) (.inl rfl) [102,103] Tryz.call25 (lA [.box (mz y12.1),.box [I 0,I 0]]) ⟨rfl,rfl,rfl,rfl⟩ rfl rfl ?_))))
         exact fw (.inl rfl) _ (.cons (aT rfl rfl rfl) (.cons (aT rfl rfl rfl) .nil)) (pr hc h.symm) (AV.le_refl _) trivial
def kb (n:Nat):aq (Bool):=
 aq.bind (jh n ([97,58,32,49,44,32,98,58,32,97,32,38,32,105,110,116]:List UInt8)) fun y3=>aq.bind (mj n ([42,49]:List UInt8)) fun y5=>aq.bind (jh n ([97,58,32,42,49]:List UInt8)) fun y7=>aq.bind (jh n ([120,58,32,123,121,58,32,122,125]:List UInt8)) fun y9=>aq.bind (jh n ([120,58,32,49,32,124,32,123,121,58,32,122,125]:List UInt8)) fun y11=>jn (fun (v13:Bool)=>br v13 (.ok (false)) (br ((y5.2.Errno==8)&&(y5.2.At==2)) (br ((y7.2.Errno==8)&&(y7.2.At==5)) (el y3.1.Decls 1 fun x21=>el x21.aW 0 fun x25=>br (x25.Kind==16) (el y9.1.Decls 0 fun x30=>el x30.aW 0 fun x34=>br (x34.Kind==13) (el y11.1.Decls 0 fun x39=>el x39.aW 0 fun x43=>el x43.aW 1 fun x47=>.ok ((x47.Kind==22))) (.ok (false))) (.ok (false))) (.ok (false))) (.ok (false)))) fun j14=>br (y3.2.Errno !=0) (j14 (true)) (br (y9.2.Errno !=0) (j14 (true)) (br (y11.2.Errno !=0) (j14 (true)) (br ((List.length y3.1.Decls:Int) !=2) (j14 (true)) (br ((List.length y9.1.Decls:Int) !=1) (j14 (true)) (br ((List.length y11.1.Decls:Int) !=1) (j14 (true)) (el y3.1.Decls 1 fun x57=>br ((List.length x57.aW:Int) !=1) (j14 (true)) (el y9.1.Decls 0 fun x62=>br ((List.length x62.aW:Int) !=1) (j14 (true)) (el y11.1.Decls 0 fun x67=>br ((List.length x67.aW:Int) !=1) (j14 (true)) (el y11.1.Decls 0 fun x72=>el x72.aW 0 fun x76=>j14 (((List.length x76.aW:Int) !=2)))))))))))
theorem lP (n:Nat):CT Tryz.prog 11 [] [] (kb n) (fun x=>Bo x) (fun _=>[]):=by
 refine zC Tryz.func11 rfl fun r hp h hr E hE=>ag fun _ hK1=>aa (za rfl (zQ hK1 (ag fun _ hK2=>aa (zk hp hr h [] Tryz.call12 (kC n ([97,58,32,49,44,32,98,58,32,97,32,38,32,105,110,116]:List UInt8)) rfl (fun _=>rfl) fun y3 h=>zm rfl (zx rfl (zx rfl (aL 101 (hE _ rfl) ⟨rfl,rfl,rfl,rfl⟩ rfl ?_)))))))
 refine aL 102 (hE _ rfl) ⟨rfl,rfl,rfl,rfl⟩ rfl ?_
 refine zs rfl (zs rfl (zQ hK2 (ag fun _ hK4=>aa (zk hp hr h [] Tryz.call15 (rT n ([42,49]:List UInt8)) rfl (fun _=>rfl) fun y5 h=>zm rfl (zx rfl (zx rfl (aL 103 (hE _ rfl) ⟨rfl,rfl,rfl,rfl⟩ rfl ?_)))))))
 refine aL 104 (hE _ rfl) ⟨rfl,rfl,rfl,rfl⟩ rfl ?_
 refine zs rfl (zs rfl (zQ hK4 (ag fun _ hK6=>aa (zk hp hr h [] Tryz.call12 (kC n ([97,58,32,42,49]:List UInt8)) rfl (fun _=>rfl) fun y7 h=>zm rfl (zx rfl (zx rfl (aL 105 (hE _ rfl) ⟨rfl,rfl,rfl,rfl⟩ rfl ?_)))))))
 refine aL 106 (hE _ rfl) ⟨rfl,rfl,rfl,rfl⟩ rfl ?_
 refine zs rfl (zs rfl (zQ hK6 (ag fun _ hK8=>aa (zk hp hr h [] Tryz.call12 (kC n ([120,58,32,123,121,58,32,122,125]:List UInt8)) rfl (fun _=>rfl) fun y9 h=>zm rfl (zx rfl (zx rfl (aL 107 (hE _ rfl) ⟨rfl,rfl,rfl,rfl⟩ rfl ?_)))))))
 refine aL 108 (hE _ rfl) ⟨rfl,rfl,rfl,rfl⟩ rfl ?_
 refine zs rfl (zs rfl (zQ hK8 (ag fun _ hK10=>aa (zk hp hr h [] Tryz.call12 (kC n ([120,58,32,49,32,124,32,123,121,58,32,122,125]:List UInt8)) rfl (fun _=>rfl) fun y11 h=>zm rfl (zx rfl (zx rfl (aL 109 (hE _ rfl) ⟨rfl,rfl,rfl,rfl⟩ rfl ?_)))))))
 refine aL 110 (hE _ rfl) ⟨rfl,rfl,rfl,rfl⟩ rfl ?_
 refine zs rfl (zs rfl (zQ hK10 (ag fun _ hK12=>zM h (fun (v13:Bool)=>[(1,.ptr 101 0),(4,.ptr 104 0),(6,.ptr 106 0),(7,.ptr 107 0),(9,.ptr 109 0),(100,Bo v13)]) (fun (v13:Bool)=>[(101,.box (mz y3.1)),(104,.box [I y5.2.Errno,I y5.2.At]),(106,.box [I y7.2.Errno,I y7.2.At]),(107,.box (mz y9.1)),(109,.box (mz y11.1))]) (fun v13 h=>?_) fun _ _ hK15 h=>?_)))
 · refine zB rfl h (fun _ h=>?_) fun _ h=>?_
   · exact ag fun _ hK17=>aa (za rfl (zQ hK17 (aw (zX (.cons (ay rfl) .nil) h rfl))))
   · refine ar (hK12 _ _ (ag fun _ hK18=>aa (zA rfl ?_)))
     refine an (bE rfl rfl rfl) rfl ?_
     refine an (Dw rfl rfl) rfl (zm rfl (zb ((y5.2.Errno==8)&&(y5.2.At==2)) (fun hb19=>?_) fun hb19=>?_))
     · refine z1 hb19 h fun h=>zG hb19 rfl (jy rfl rfl rfl rfl) ?_
       refine zG hb19 rfl (bE rfl rfl rfl) ?_
       refine zG hb19 rfl (Dw rfl rfl) (zy hb19 rfl (zm rfl (zb ((y7.2.Errno==8)&&(y7.2.At==5)) (fun hb20=>?_) fun hb20=>?_)))
       · refine z1 hb20 h fun h=>zG hb20 rfl (bD rfl) (zG hb20 rfl (ba rfl rfl rfl) (ze hr h fun x21 h22 h23 h24 h=>zG hb20 rfl (gx ax.bb ax.bP h22 h23 h24 rfl rfl rfl) (zG hb20 rfl (kv rfl rfl) (zG hb20 rfl (fO rfl rfl) (ze hr h fun x25 h26 h27 h28 h=>zG hb20 rfl (gx aj.bb aj.bP h26 h27 h28 rfl rfl rfl) (zG hb20 rfl (kv rfl rfl) (zG hb20 rfl (fO rfl rfl) (zG hb20 rfl (bg rfl rfl rfl) (zy hb20 rfl (zm rfl (zb (x25.Kind==16) (fun hb29=>?_) fun hb29=>?_)))))))))))
         · refine z1 hb29 h fun h=>zG hb29 rfl (bD rfl) (zG hb29 rfl (ba rfl rfl rfl) (ze hr h fun x30 h31 h32 h33 h=>zG hb29 rfl (gx ax.bb ax.bP h31 h32 h33 rfl rfl rfl) (zG hb29 rfl (kv rfl rfl) (zG hb29 rfl (fO rfl rfl) (ze hr h fun x34 h35 h36 h37 h=>zG hb29 rfl (gx aj.bb aj.bP h35 h36 h37 rfl rfl rfl) (zG hb29 rfl (kv rfl rfl) (zG hb29 rfl (fO rfl rfl) (zG hb29 rfl (bg rfl rfl rfl) (zy hb29 rfl (zm rfl (zb (x34.Kind==13) (fun hb38=>?_) fun hb38=>?_)))))))))))
           · exact z1 hb38 h fun h=>zG hb38 rfl (bD rfl) (zG hb38 rfl (ba rfl rfl rfl) (ze hr h fun x39 h40 h41 h42 h=>zG hb38 rfl (gx ax.bb ax.bP h40 h41 h42 rfl rfl rfl) (zG hb38 rfl (kv rfl rfl) (zG hb38 rfl (fO rfl rfl) (ze hr h fun x43 h44 h45 h46 h=>zG hb38 rfl (gx aj.bb aj.bP h44 h45 h46 rfl rfl rfl) (zG hb38 rfl (kv rfl rfl) (zG hb38 rfl (fO rfl rfl) (ze hr h fun x47 h48 h49 h50 h=>zG hb38 rfl (gx aj.bb aj.bP h48 h49 h50 rfl rfl rfl) (zG hb38 rfl (kv rfl rfl) (zG hb38 rfl (fO rfl rfl) (zG hb38 rfl (bg rfl rfl rfl) (zy hb38 rfl (za rfl (zQ hK18 (aw (zX (.cons (ay rfl) .nil) h rfl))))))))))))))))
           · exact z2 hb38 h fun h=>zg hb38 rfl (zg hb38 rfl (zg hb38 rfl (zg hb38 rfl (zg hb38 rfl (zg hb38 rfl (zg hb38 rfl (zg hb38 rfl (zg hb38 rfl (zg hb38 rfl (zg hb38 rfl (zg hb38 rfl (zw hb38 rfl (za rfl (zQ hK18 (aw (zX (.cons (ay rfl) .nil) h rfl))))))))))))))))
         · refine z2 hb29 h fun h=>zg hb29 rfl (zg hb29 rfl (zg hb29 rfl (zg hb29 rfl (zg hb29 rfl (zg hb29 rfl (zg hb29 rfl (zg hb29 rfl (zg hb29 rfl (zw hb29 rfl (zm rfl (zg rfl rfl (zg rfl rfl (zg rfl rfl (zg rfl rfl (zg rfl rfl (zg rfl rfl (zg rfl rfl (zg rfl rfl (zg rfl rfl (zg rfl rfl (zg rfl rfl (zg rfl rfl (an (dv rfl rfl) rfl ?_)))))))))))))))))))))))
           exact za rfl (zQ hK18 (aw (zX (.cons (ay rfl) .nil) h rfl)))
       · refine z2 hb20 h fun h=>zg hb20 rfl (zg hb20 rfl (zg hb20 rfl (zg hb20 rfl (zg hb20 rfl (zg hb20 rfl (zg hb20 rfl (zg hb20 rfl (zg hb20 rfl (zw hb20 rfl (zm rfl (zg rfl rfl (zg rfl rfl (zg rfl rfl (zg rfl rfl (zg rfl rfl (zg rfl rfl (zg rfl rfl (zg rfl rfl (zg rfl rfl (an (dv rfl rfl) rfl (zm rfl (zg rfl rfl (zg rfl rfl ?_)))))))))))))))))))))))
         exact zg rfl rfl (zg rfl rfl (zg rfl rfl (zg rfl rfl (zg rfl rfl (zg rfl rfl (zg rfl rfl (zg rfl rfl (zg rfl rfl (zg rfl rfl (an (dv rfl rfl) rfl (za rfl (zQ hK18 (aw (zX (.cons (ay rfl) .nil) h rfl))))))))))))))
     · refine z2 hb19 h fun h=>zg hb19 rfl (zg hb19 rfl (zg hb19 rfl (zw hb19 rfl (zm rfl (zg rfl rfl (zg rfl rfl (zg rfl rfl (zg rfl rfl (zg rfl rfl (zg rfl rfl (zg rfl rfl (zg rfl rfl (zg rfl rfl (an (dv rfl rfl) rfl (zm rfl (zg rfl rfl (zg rfl rfl (zg rfl rfl (zg rfl rfl (zg rfl rfl (zg rfl rfl (zg rfl rfl (zg rfl rfl ?_)))))))))))))))))))))))
       exact zg rfl rfl (an (dv rfl rfl) rfl (zm rfl (zg rfl rfl (zg rfl rfl (zg rfl rfl (zg rfl rfl (zg rfl rfl (zg rfl rfl (zg rfl rfl (zg rfl rfl (zg rfl rfl (zg rfl rfl (zg rfl rfl (zg rfl rfl (an (dv rfl rfl) rfl (za rfl (zQ hK18 (aw (zX (.cons (ay rfl) .nil) h rfl)))))))))))))))))))
 · refine aa (zf rfl (zl rfl (zc rfl (zm rfl (zb (y3.2.Errno !=0) (fun hb51=>?_) fun hb51=>?_)))))
   · refine z1 hb51 h fun h=>zg hb51 rfl (zg hb51 rfl (zg hb51 rfl (zy hb51 rfl (zm rfl (zg rfl rfl (zg rfl rfl (zg rfl rfl (zt rfl (zm rfl (zg rfl rfl (zg rfl rfl (zg rfl rfl (zg rfl rfl (zt rfl (zm rfl (zg rfl rfl (zg rfl rfl (zg rfl rfl (zg rfl rfl (zt rfl (zm rfl (zg rfl rfl (zg rfl rfl ?_)))))))))))))))))))))))
     refine zg rfl rfl (zg rfl rfl (zt rfl (zm rfl (zg rfl rfl (zg rfl rfl (zg rfl rfl (zg rfl rfl (zg rfl rfl (zg rfl rfl (zg rfl rfl (zt rfl (zm rfl (zg rfl rfl (zg rfl rfl (zg rfl rfl (zg rfl rfl (zg rfl rfl (zg rfl rfl (zg rfl rfl (zt rfl (zm rfl (zg rfl rfl (zg rfl rfl (zg rfl rfl ?_))))))))))))))))))))))))
     exact zg rfl rfl (zg rfl rfl (zg rfl rfl (zg rfl rfl (zt rfl (zm rfl (zg rfl rfl (zg rfl rfl (zg rfl rfl (zg rfl rfl (zg rfl rfl (zg rfl rfl (zg rfl rfl (zg rfl rfl (zg rfl rfl (zg rfl rfl (zt rfl (ao (hK15 _ _ _ h rfl))))))))))))))))))
   · refine z2 hb51 h fun h=>zG hb51 rfl (bD rfl) (zG hb51 rfl (ba rfl rfl rfl) (zG hb51 rfl (bg rfl rfl rfl) (zw hb51 rfl (zm rfl (zb (y9.2.Errno !=0) (fun hb52=>?_) fun hb52=>?_)))))
     · refine z1 hb52 h fun h=>zg hb52 rfl (zg hb52 rfl (zg hb52 rfl (zy hb52 rfl (zm rfl (zg rfl rfl (zg rfl rfl (zg rfl rfl (zg rfl rfl (zt rfl (zm rfl (zg rfl rfl (zg rfl rfl (zg rfl rfl (zg rfl rfl (zt rfl (zm rfl (zg rfl rfl (zg rfl rfl (zg rfl rfl (zg rfl rfl (zt rfl (zm rfl (zg rfl rfl ?_)))))))))))))))))))))))
       refine zg rfl rfl (zg rfl rfl (zg rfl rfl (zg rfl rfl (zg rfl rfl (zg rfl rfl (zt rfl (zm rfl (zg rfl rfl (zg rfl rfl (zg rfl rfl (zg rfl rfl (zg rfl rfl (zg rfl rfl (zg rfl rfl (zt rfl (zm rfl (zg rfl rfl (zg rfl rfl (zg rfl rfl (zg rfl rfl (zg rfl rfl (zg rfl rfl (zg rfl rfl (zt rfl ?_))))))))))))))))))))))))
       exact zm rfl (zg rfl rfl (zg rfl rfl (zg rfl rfl (zg rfl rfl (zg rfl rfl (zg rfl rfl (zg rfl rfl (zg rfl rfl (zg rfl rfl (zg rfl rfl (zt rfl (ao (hK15 _ _ _ h rfl)))))))))))))
     · refine z2 hb52 h fun h=>zG hb52 rfl (bD rfl) (zG hb52 rfl (ba rfl rfl rfl) (zG hb52 rfl (bg rfl rfl rfl) (zw hb52 rfl (zm rfl (zb (y11.2.Errno !=0) (fun hb53=>?_) fun hb53=>?_)))))
       · refine z1 hb53 h fun h=>zg hb53 rfl (zg hb53 rfl (zg hb53 rfl (zg hb53 rfl (zy hb53 rfl (zm rfl (zg rfl rfl (zg rfl rfl (zg rfl rfl (zg rfl rfl (zt rfl (zm rfl (zg rfl rfl (zg rfl rfl (zg rfl rfl (zg rfl rfl (zt rfl (zm rfl (zg rfl rfl (zg rfl rfl (zg rfl rfl (zg rfl rfl (zg rfl rfl (zg rfl rfl ?_)))))))))))))))))))))))
         refine zg rfl rfl (zt rfl (zm rfl (zg rfl rfl (zg rfl rfl (zg rfl rfl (zg rfl rfl (zg rfl rfl (zg rfl rfl (zg rfl rfl (zt rfl (zm rfl (zg rfl rfl (zg rfl rfl (zg rfl rfl (zg rfl rfl (zg rfl rfl (zg rfl rfl (zg rfl rfl (zt rfl (zm rfl (zg rfl rfl (zg rfl rfl (zg rfl rfl (zg rfl rfl ?_))))))))))))))))))))))))
         exact zg rfl rfl (zg rfl rfl (zg rfl rfl (zg rfl rfl (zg rfl rfl (zg rfl rfl (zt rfl (ao (hK15 _ _ _ h rfl))))))))
       · refine z2 hb53 h fun h=>zG hb53 rfl (bD rfl) (zG hb53 rfl (ba rfl rfl rfl) (zG hb53 rfl (cg rfl) (zG hb53 rfl (bg rfl rfl rfl) (zw hb53 rfl (zm rfl (zb ((List.length y3.1.Decls:Int) !=2) (fun hb54=>?_) fun hb54=>?_))))))
         · refine z1 hb54 h fun h=>zg hb54 rfl (zg hb54 rfl (zg hb54 rfl (zg hb54 rfl (zy hb54 rfl (zm rfl (zg rfl rfl (zg rfl rfl (zg rfl rfl (zg rfl rfl (zt rfl (zm rfl (zg rfl rfl (zg rfl rfl (zg rfl rfl (zg rfl rfl (zg rfl rfl (zg rfl rfl (zg rfl rfl (zt rfl (zm rfl (zg rfl rfl (zg rfl rfl (zg rfl rfl ?_)))))))))))))))))))))))
           refine zg rfl rfl (zg rfl rfl (zg rfl rfl (zg rfl rfl (zt rfl (zm rfl (zg rfl rfl (zg rfl rfl (zg rfl rfl (zg rfl rfl (zg rfl rfl (zg rfl rfl (zg rfl rfl (zt rfl (zm rfl (zg rfl rfl (zg rfl rfl (zg rfl rfl (zg rfl rfl (zg rfl rfl (zg rfl rfl (zg rfl rfl (zg rfl rfl (zg rfl rfl (zg rfl rfl ?_))))))))))))))))))))))))
           exact zt rfl (ao (hK15 _ _ _ h rfl))
         · refine z2 hb54 h fun h=>zG hb54 rfl (bD rfl) (zG hb54 rfl (ba rfl rfl rfl) (zG hb54 rfl (cg rfl) (zG hb54 rfl (bg rfl rfl rfl) (zw hb54 rfl (zm rfl (zb ((List.length y9.1.Decls:Int) !=1) (fun hb55=>?_) fun hb55=>?_))))))
           · refine z1 hb55 h fun h=>zg hb55 rfl (zg hb55 rfl (zg hb55 rfl (zg hb55 rfl (zy hb55 rfl (zm rfl (zg rfl rfl (zg rfl rfl (zg rfl rfl (zg rfl rfl (zg rfl rfl (zg rfl rfl (zg rfl rfl (zt rfl (zm rfl (zg rfl rfl (zg rfl rfl (zg rfl rfl (zg rfl rfl (zg rfl rfl (zg rfl rfl (zg rfl rfl (zt rfl (zm rfl ?_)))))))))))))))))))))))
             exact zg rfl rfl (zg rfl rfl (zg rfl rfl (zg rfl rfl (zg rfl rfl (zg rfl rfl (zg rfl rfl (zt rfl (zm rfl (zg rfl rfl (zg rfl rfl (zg rfl rfl (zg rfl rfl (zg rfl rfl (zg rfl rfl (zg rfl rfl (zg rfl rfl (zg rfl rfl (zg rfl rfl (zt rfl (ao (hK15 _ _ _ h rfl)))))))))))))))))))))
           · refine z2 hb55 h fun h=>zG hb55 rfl (bD rfl) (zG hb55 rfl (ba rfl rfl rfl) (zG hb55 rfl (cg rfl) (zG hb55 rfl (bg rfl rfl rfl) (zw hb55 rfl (zm rfl (zb ((List.length y11.1.Decls:Int) !=1) (fun hb56=>?_) fun hb56=>?_))))))
             · refine z1 hb56 h fun h=>zg hb56 rfl (zg hb56 rfl (zg hb56 rfl (zg hb56 rfl (zg hb56 rfl (zg hb56 rfl (zg hb56 rfl (zy hb56 rfl (zm rfl (zg rfl rfl (zg rfl rfl (zg rfl rfl (zg rfl rfl (zg rfl rfl (zg rfl rfl (zg rfl rfl (zt rfl (zm rfl (zg rfl rfl (zg rfl rfl (zg rfl rfl (zg rfl rfl (zg rfl rfl (zg rfl rfl ?_)))))))))))))))))))))))
               exact zg rfl rfl (zt rfl (zm rfl (zg rfl rfl (zg rfl rfl (zg rfl rfl (zg rfl rfl (zg rfl rfl (zg rfl rfl (zg rfl rfl (zg rfl rfl (zg rfl rfl (zg rfl rfl (zt rfl (ao (hK15 _ _ _ h rfl)))))))))))))))
             · refine z2 hb56 h fun h=>zG hb56 rfl (bD rfl) (zG hb56 rfl (ba rfl rfl rfl) (ze hr h fun x57 h58 h59 h60 h=>zG hb56 rfl (gx ax.bb ax.bP h58 h59 h60 rfl rfl rfl) (zG hb56 rfl (kv rfl rfl) (zG hb56 rfl (fO rfl rfl) (zG hb56 rfl (cg rfl) (zG hb56 rfl (bg rfl rfl rfl) (zw hb56 rfl (zm rfl (zb ((List.length x57.aW:Int) !=1) (fun hb61=>?_) fun hb61=>?_)))))))))
               · refine z1 hb61 h fun h=>zg hb61 rfl (zg hb61 rfl (zg hb61 rfl (zg hb61 rfl (zg hb61 rfl (zg hb61 rfl (zg hb61 rfl (zy hb61 rfl (zm rfl (zg rfl rfl (zg rfl rfl (zg rfl rfl (zg rfl rfl (zg rfl rfl (zg rfl rfl (zg rfl rfl (zt rfl (zm rfl (zg rfl rfl (zg rfl rfl (zg rfl rfl (zg rfl rfl (zg rfl rfl (zg rfl rfl ?_)))))))))))))))))))))))
                 exact zg rfl rfl (zg rfl rfl (zg rfl rfl (zg rfl rfl (zt rfl (ao (hK15 _ _ _ h rfl))))))
               · refine z2 hb61 h fun h=>zG hb61 rfl (bD rfl) (zG hb61 rfl (ba rfl rfl rfl) (ze hr h fun x62 h63 h64 h65 h=>zG hb61 rfl (gx ax.bb ax.bP h63 h64 h65 rfl rfl rfl) (zG hb61 rfl (kv rfl rfl) (zG hb61 rfl (fO rfl rfl) (zG hb61 rfl (cg rfl) (zG hb61 rfl (bg rfl rfl rfl) (zw hb61 rfl (zm rfl (zb ((List.length x62.aW:Int) !=1) (fun hb66=>?_) fun hb66=>?_)))))))))
                 · exact z1 hb66 h fun h=>zg hb66 rfl (zg hb66 rfl (zg hb66 rfl (zg hb66 rfl (zg hb66 rfl (zg hb66 rfl (zg hb66 rfl (zy hb66 rfl (zm rfl (zg rfl rfl (zg rfl rfl (zg rfl rfl (zg rfl rfl (zg rfl rfl (zg rfl rfl (zg rfl rfl (zg rfl rfl (zg rfl rfl (zg rfl rfl (zt rfl (ao (hK15 _ _ _ h rfl)))))))))))))))))))))
                 · refine z2 hb66 h fun h=>zG hb66 rfl (bD rfl) (zG hb66 rfl (ba rfl rfl rfl) (ze hr h fun x67 h68 h69 h70 h=>zG hb66 rfl (gx ax.bb ax.bP h68 h69 h70 rfl rfl rfl) (zG hb66 rfl (kv rfl rfl) (zG hb66 rfl (fO rfl rfl) (zG hb66 rfl (cg rfl) (zG hb66 rfl (bg rfl rfl rfl) (zw hb66 rfl (zm rfl (zb ((List.length x67.aW:Int) !=1) (fun hb71=>?_) fun hb71=>?_)))))))))
                   · exact z1 hb71 h fun h=>zg hb71 rfl (zg hb71 rfl (zg hb71 rfl (zg hb71 rfl (zg hb71 rfl (zg hb71 rfl (zg hb71 rfl (zg hb71 rfl (zg hb71 rfl (zg hb71 rfl (zy hb71 rfl (ao (hK15 _ _ _ h rfl))))))))))))
                   · exact z2 hb71 h fun h=>zG hb71 rfl (bD rfl) (zG hb71 rfl (ba rfl rfl rfl) (ze hr h fun x72 h73 h74 h75 h=>zG hb71 rfl (gx ax.bb ax.bP h73 h74 h75 rfl rfl rfl) (zG hb71 rfl (kv rfl rfl) (zG hb71 rfl (fO rfl rfl) (ze hr h fun x76 h77 h78 h79 h=>zG hb71 rfl (gx aj.bb aj.bP h77 h78 h79 rfl rfl rfl) (zG hb71 rfl (kv rfl rfl) (zG hb71 rfl (fO rfl rfl) (zG hb71 rfl (cg rfl) (zG hb71 rfl (bg rfl rfl rfl) (zw hb71 rfl (ao (hK15 _ _ _ h rfl))))))))))))
def hZ (n:Nat) (p0:(List (List UInt8))) (p1:(List (List UInt8))):aq (Bool):=
 br ((List.length p0:Int) !=(List.length p1:Int)) (.ok (false)) (iter (fun next9 (v8:Int)=>br (decide (v8<(List.length p0:Int))) (el p0 v8 fun tb=>el p1 v8 fun x21=>br (tb !=x21) (.ok (false)) (gd (bA (v8+1)) (next9 (v8+1)))) (.ok (true))) n (0))
theorem lk (n:Nat) (p0:(List (List UInt8))) (p1:(List (List UInt8))):CT Tryz.prog 51 [.pv (.sl (List.length p0) (bX p0)),.pv (.sl (List.length p1) (bX p1))] [] (hZ n p0 p1) (fun x=>Bo x) (fun _=>[]):=by
 refine zC Tryz.func51 rfl fun r hp h hr E hE=>ag fun _ hK1=>aa (za rfl (zQ hK1 (ag fun _ hK2=>ag fun _ hK3=>aa (zm rfl (an (cg rfl) rfl (zm rfl (an (cg rfl) rfl (zc rfl (zQ hK3 (zB rfl h (fun _ h=>?_) fun _ h=>?_))))))))))
 · exact ag fun _ hK5=>aa (za rfl (zQ hK5 (aw (zX (.cons (ay rfl) .nil) h rfl))))
 · refine ar (hK2 _ _ (ag fun _ hK6=>ag fun _ hK7=>aa (zm rfl (an (cg rfl) rfl (zm rfl (zQ hK7 (aC (zL hr h (fun (v8:Int)=>[(0,.pv (.sl (List.length p0) (bX p0))),(1,.pv (.sl (List.length p1) (bX p1))),(12,I (List.length p0:Int)),(13,I v8)]) (fun (v8:Int)=>[]) rfl fun _ v8 _ hK10 h=>ag fun _ hK11=>aa (zc rfl (zQ hK11 (ag fun _ hK12=>zB rfl h (fun _ h=>?_) fun _ h=>?_)))))))))))
   · refine ar (hK12 _ _ (ag fun _ hK14=>aC (ag fun _ hK15=>aa (zm rfl (za rfl (zQ hK15 (ag fun _ hK16=>bz [0,1,2,3,4,5,6,7,8] rfl (by kernel_rfl) (zD rfl (au rfl) rfl (zD rfl (au rfl) rfl (ze hr h fun tb h18 h19 h20 h=>zD rfl (gx eX gI h18 h19 h20 rfl rfl rfl) rfl (zD rfl (fO rfl rfl) rfl (zD rfl (au rfl) rfl (zD rfl (au rfl) rfl (ze hr h fun x21 h22 h23 h24 h=>zD rfl (gx eX gI h22 h23 h24 rfl rfl rfl) rfl (zD rfl (fO rfl rfl) rfl (zD rfl (tp rfl rfl) rfl (cr (hK16 _ _ (zB rfl h (fun _ h=>?_) fun _ h=>?_)))))))))))))))))))
     · exact ag fun _ hK26=>aa (za rfl (zQ hK26 (aw (zX (.cons (ay rfl) .nil) h rfl))))
     · exact ar (hK14 _ _ (aa (zd hr h fun hg27 h=>zo hg27 rfl (zm rfl (ao (hK10 _ _ _ h rfl))))))
   · exact bp (hK6 _ _ (ag fun _ hK28=>aa (za rfl (zQ hK28 (aw (zX (.cons (ay rfl) .nil) h rfl))))))
end Go.Abs
end
section
namespace Go.Abs
open aq
structure Fw (d:ax):Prop where
 l2:d.Body.length≤70000
 l3:d.cd.length≤70000
 l4:∀ x,x∈d.cd→x.length≤65536
 l5:d.jk.length≤70000
 l6:∀ x,x∈d.jk→x.length≤65536
 l7:d.Trail.length≤65536
 d:∀ x,x∈d.Body→kR x
theorem kR.w {d:ax} (h:kR d):Fw d:=⟨h.l2,h.l3,h.l4,h.l5,h.l6,h.l7,h.d⟩
theorem Fw.one {k p:Int} {lb a b:List UInt8} {x:aj} {d:ax} {pos:Int} (h:Fw d) (hx:gT x):kR (ax.mk k p lb a b [x] d.Body d.cd d.jk d.Trail pos):=
 .mk (by simp) h.l2 h.l3 h.l4 h.l5 h.l6 h.l7 (fun _=>by simp) (by simpa using hx) h.d
theorem kR.new {k p:Int} {lb a b:List UInt8} {l:List aj} {body:List ax} {tail:List (List UInt8)} {pos:Int} (h1:l.length≤70000) (h2:body.length≤70000) (h3:tail.length≤70000) (h4:∀ x,x∈tail→x.length≤65536)
  (h8:k=1∨k=2∨k=3→1≤l.length) (hs:∀ x,x∈l→gT x) (hd:∀ x,x∈body→kR x):kR (ax.mk k p lb a b l body tail [] [] pos):=
 .mk h1 h2 h3 h4 (by simp) (by simp) (by simp) h8 hs hd
section
variable {s:List UInt8} {T:List aK} {b:Int} {K:Nat} {m:Nat→Nat} {a:Int} {k:Bool} {q:Option aj} {j:Bool}
theorem BP (hC:PC s T b) (ih:PG s T b K) (hm:bZ m) (h0:0≤a) (h1:a<T.length) (hq:QS q) {d:ax} (hd:kR d) {t:aK} (ht:T[a.toNat]?=some t) (hk:t.Kind≠0) (hk7:t.Kind≠7) (hK:64*(T.length - a).toNat+14<K+1) :
  Ev (fun i=>cA (m i) j (bL s T a b k q) d) (fun r=>St s T b k a 0 r.1∧kR r.2) (PP (b+s.length)):=by
 refine Ev.grow (F:=fun n=>cA n j (bL s T a b k q) d) hm fun m hm=>?_
 show Ev (fun i=>dy (m i) (ai (m i)) j (bL s T a b k q) d) _ _
 unfold dy
 have hl:=hC.kT
 have hnx:=hC.next h0 ht hk
 have hw:=hd.w
 refine fm hm hC h0 h1 fun a2 t2 h2 h3 ht2 h4 e2=>?_
 have e2:=e2 t ht (fun _=>hk7)
 subst e2
 dsimp only
 refine Ev.gd (by (first|omega|(simp[bA]<;>omega))) ?_
 refine Ev.jn (fun v=>St s T b k (a2+1) 0 v.1∧Fw v.2) (fun w hw=>?_) (fun jj hj=>?_)
 ·obtain ⟨p,e⟩:=w
  obtain ⟨⟨a3,q3,hp,h5,h6,hq3⟩,he⟩:=hw
  dsimp only at hp he;subst hp;dsimp only
  refine iX hm hC (by omega) (by omega) (by omega) fun a4 t h7 h8 _ _ _ _=>fu (ih.expr hm (by omega) h8 hq3 (by omega)) fun x a5 q5 h9 h10 hq5 hx=>?_
  exact Ev.ok ⟨⟨a5,q5,rfl,by omega,h10,hq5⟩,he.one hx⟩
 ·refine kj hm hC (by omega) hnx (fun a4 t h7 h8 _ _ _ _=>?_) (fun a4 t h7 h8 _ _ _ _=>?_)
  ·exact Ev.cw (hj _ ⟨⟨a4,q,rfl,by omega,by omega,hq⟩,hw.l2,hw.l3,hw.l4,hw.l5,hw.l6,hw.l7,hw.d⟩)
  ·dsimp only
   refine Ev.b7 ?_
   refine kj hm hC (by omega) h8 (fun a5 t h9 h10 _ _ _ _=>?_) (fun a5 t h9 h10 _ _ _ _=>?_)
   ·exact Ev.cw (hj _ ⟨⟨a5,q,rfl,by omega,by omega,hq⟩,hw.l2,hw.l3,hw.l4,hw.l5,hw.l6,hw.l7,hw.d⟩)
   ·exact Ev.b7 (hj _ ⟨⟨a5,q,rfl,by omega,by omega,hq⟩,hw.l2,hw.l3,hw.l4,hw.l5,hw.l6,hw.l7,hw.d⟩)
theorem yl (hC:PC s T b) (ih:PG s T b K) (hm:bZ m) (h0:0≤a) (h1:a<T.length) (hq:QS q) {d:ax} (hd:kR d) (hp:xR T a) (hK:64*(T.length - a).toNat+14<K+1) :
  Ev (fun i=>cn (m i) j (bL s T a b k q) d) (fun r=>St s T b k a 0 r.1∧kR r.2) (PP (b+s.length)):=by
 refine Ev.grow (F:=fun n=>cn n j (bL s T a b k q) d) hm fun m hm=>?_
 show Ev (fun i=>ei (m i) (ai (m i)) j (bL s T a b k q) d) _ _
 unfold ei
 have hl:=hC.kT
 have hw:=hd.w
 obtain ⟨t,u,p1,p2,p3,p4,p5,p6⟩:=hp
 refine iX hm hC h0 h1 (by omega) fun a2 t2 h2 h3 _ _ _ e2=>?_
 have e2:=e2 t p1 (fun _=>by omega)
 subst e2
 refine rU (d:=1) (P:=Fw) ((s9 hm hC (by omega) (Int.le_refl _) hq p3 p4 p5 (fun h=>by obtain ⟨w,w1,w2⟩:=p6 h;exact ⟨w,by rw[show a+1+1=a+2 by omega];exact w1,w2⟩)).Bv fun r hr=>⟨hr.1,?_⟩) fun x a3 q3 h4 h5 hq3 hxw=>?_
 ·rcases hr.2 with h|⟨l,h⟩
  ·rw[h];exact ⟨hw.l2,hw.l3,hw.l4,hw.l5,hw.l6,hw.l7,hw.d⟩
  ·rw[h];exact ⟨hw.l2,hw.l3,hw.l4,hw.l5,hw.l6,hw.l7,hw.d⟩
 dsimp only
 refine Ev.gd (by (first|omega|(simp[bA]<;>omega))) (iX hm hC (by omega) (by omega) (by omega) fun a4 t h7 h8 _ _ _ _=>fu (ih.expr hm (by omega) h8 hq3 (by omega)) fun y a5 q5 h9 h10 hq5 hy=>?_)
 exact Ev.ok ⟨⟨a5,q5,rfl,by omega,h10,hq5⟩,hxw.one hy⟩
theorem ym (hC:PC s T b) (ih:PG s T b K) (hm:bZ m) (h0:0≤a) (h1:a<T.length) (hq:QS q) {d:ax} (hd:kR d) (hK:64*(T.length - a).toNat+14<K+1) :
  Ev (fun i=>cm (m i) j (bL s T a b k q) d) (fun r=>St s T b k a 0 r.1∧kR r.2) (PP (b+s.length)):=by
 refine Ev.grow (F:=fun n=>cm n j (bL s T a b k q) d) hm fun m hm=>?_
 show Ev (fun i=>eh (m i) (ai (m i)) j (bL s T a b k q) d) _ _
 unfold eh
 have hl:=hC.kT
 have hw:=hd.w
 refine fu (ih.parens hm h0 h1 hq (by omega)) fun e a2 q2 h2 h3 hq2 he=>?_
 dsimp only
 refine fm hm hC (by omega) (by omega) fun a3 t h4 h5 ht h6 _=>?_
 dsimp only
 refine jf fun r hr _=>Ev.br (fun hr1=>?_) (fun _=>?_)
 ·have hk5:=(hr hr1).1
  have hnx:=hC.next (by omega) ht (by omega)
  refine kt hm hC (by omega) h5 fun a5 t5 v h9 h10 _ h11 _ h12 h13=>?_
  have e5:=h11 t ht h6
  subst e5
  dsimp only
  refine o7 hm h12 h13 he fun x hx=>?_
  dsimp only
  refine Ev.gd (by (first|omega|(simp[bA]<;>omega))) (fu (ih.expr hm (by omega) hnx hq2 (by omega)) fun y a5 q5 h9 h10 hq5 hy=>?_)
  exact Ev.ok ⟨⟨a5,q5,rfl,by omega,h10,hq5⟩,.mk (by simp) hw.l2 hw.l3 hw.l4 hw.l5 hw.l6 hw.l7 (fun _=>by simp) (by simp;exact ⟨hx,hy⟩) hw.d⟩
 ·refine fu (ih.expr (q:=some e) hm (by omega) h5 (fun x hx=>by cases hx;exact he) (by omega)) fun y a5 q5 h9 h10 hq5 hy=>?_
  exact Ev.ok ⟨⟨a5,q5,rfl,by omega,h10,hq5⟩,hw.one hy⟩
theorem C3 (hC:PC s T b) (ih:PG s T b K) (hm:bZ m) (h0:0≤a) (h1:a<T.length) (hq:QS q) {t:aK} (ht:T[a.toNat]?=some t) (hk:t.Kind≠0) (hk7:t.Kind≠7) (hK:64*(T.length - a).toNat+17<K+1) :
  Ev (fun i=>bO (m i) j (bL s T a b k q)) (fun r=>St s T b k a 0 r.2∧kR r.1) (PP (b+s.length)):=by
 refine Ev.grow (F:=fun n=>bO n j (bL s T a b k q)) hm fun m hm=>?_
 show Ev (fun i=>dM (m i) (ai (m i)) j (bL s T a b k q)) _ _
 unfold dM
 have hl:=hC.kT
 have hnx:=hC.next h0 ht hk
 refine fm hm hC h0 h1 fun a2 t2 h2 h3 ht2 h4 e2=>?_
 have e2:=e2 t ht (fun _=>hk7)
 subst e2
 rw[ht] at ht2;cases ht2
 dsimp only
 refine kt hm hC (by omega) h3 fun a5 t5 v h9 h10 _ h11 _ h12 h13=>?_
 have e5:=h11 t ht h4
 subst e5
 dsimp only
 refine lH hC (by omega) h3 (by omega) (by omega) fun u _=>?_
 dsimp only
 have hd0:kR (ax.mk 0 0 [] [] [] [] [] [] [] [] v):=.new (by simp) (by simp) (by simp) (by simp) (by simp) (by simp) (by simp)
 refine Ev.jn (fun w=>St s T b k a5 0 w.1∧kR w.2) (fun w hw=>Ev.ok ⟨hw.1,hw.2⟩) (fun jj hj=>?_)
 refine Ev.jn (fun _=>True) (fun w _=>?_) (fun j2 hj2=>?_)
 ·refine Ev.br (fun _=>?_) (fun _=>?_)
  ·exact rU (ih.field hm (by omega) h3 hq hd0 ht hk hk7 (by omega)) fun x a6 q6 h14 h15 hq6 hx=>hj _ ⟨⟨a6,q6,rfl,h14,h15,hq6⟩,hx⟩
  refine wL hm hC (by omega) h3 fun a6 r h14 h15 e6 hp=>?_
  have e6:=e6 t ht h4
  subst e6
  dsimp only
  refine Ev.br (fun hr=>?_) (fun _=>?_)
  ·exact rU (ih.pattern hm (by omega) h3 hq hd0 (hp hr) (by omega)) fun x a6 q6 h14 h15 hq6 hx=>hj _ ⟨⟨a6,q6,rfl,by omega,h15,hq6⟩,hx⟩
  refine pL fun r _ _=>Ev.br (fun _=>?_) (fun _=>?_)
  ·refine Ev.jn (fun p=>p=bL s T a6 b k q) (fun p hp=>?_) (fun j3 hj3=>?_)
   ·subst hp
    dsimp only
    refine Ev.gd (by (first|omega|(simp[bA]<;>omega))) (tS hm hC (by omega) hnx (by omega) fun a7 x h16 h17=>?_)
    dsimp only
    refine iX hm hC (by omega) h17 (by omega) fun a8 t8 h18 h19 _ _ _ _=>fu (ih.expr hm (by omega) h19 hq (by omega)) fun x a9 q9 h20 h21 hq9 hx=>?_
    exact hj _ ⟨⟨a9,q9,rfl,by omega,h21,hq9⟩,.new (by simp) (by simp) (by simp) (by simp) (by simp) (by simpa using hx) (by simp)⟩
   ·exact Ev.bh (fun _=>iW hm hC (by omega) h3 (by omega)) (fun _=>hj3 _ rfl)
  refine jf fun r _ _=>Ev.br (fun _=>?_) (fun _=>?_)
  ·refine Ev.jn (fun p=>p=bL s T a6 b k q) (fun p hp=>?_) (fun j3 hj3=>?_)
   ·subst hp
    dsimp only
    exact Ev.gd (by (first|omega|(simp[bA]<;>omega))) (hj _ ⟨⟨a6+1,q,rfl,by omega,by omega,hq⟩,.new (by simp) (by simp) (by simp) (by simp) (by simp) (by simp) (by simp)⟩)
   ·exact Ev.bh (fun _=>iW hm hC (by omega) h3 (by omega)) (fun _=>hj3 _ rfl)
  refine pL fun r _ _=>Ev.br (fun _=>?_) (fun _=>?_)
  ·refine Ev.gd (by (first|omega|(simp[bA]<;>omega))) (fu (ih.expr hm (by omega) hnx hq (by omega)) fun x a9 q9 h20 h21 hq9 hx=>?_)
   dsimp only
   refine Ev.bind (ih.block hm (by omega) (by omega) hq9 (by omega)) (fun _ q=>q) fun r hr=>?_
   obtain ⟨l,tl,p⟩:=r
   obtain ⟨⟨a3,q3,hp,h4,h5,hq3⟩,he1,he2,he3,he4⟩:=hr
   dsimp only at hp he1 he2 he3 he4;subst hp
   exact hj _ ⟨⟨a3,q3,rfl,by omega,h5,hq3⟩,.new (by simp) he1 he3 he4 (by simp) (by simpa using hx) he2⟩
  refine pL fun r _ _=>Ev.br (fun _=>?_) (fun _=>?_)
  ·refine Ev.gd (by (first|omega|(simp[bA]<;>omega))) (xQ hm hC (by omega) hnx (by omega) fun a7 nm h16 h17=>?_)
   dsimp only
   refine pM hm hC (by omega) h17 (by omega) fun a8 h18 h19=>fu (ih.expr hm (by omega) h19 hq (by omega)) fun x a9 q9 h20 h21 hq9 hx=>?_
   dsimp only
   refine Ev.bind (ih.block hm (by omega) (by omega) hq9 (by omega)) (fun _ q=>q) fun r hr=>?_
   obtain ⟨l,tl,p⟩:=r
   obtain ⟨⟨a3,q3,hp,h4,h5,hq3⟩,he1,he2,he3,he4⟩:=hr
   dsimp only at hp he1 he2 he3 he4;subst hp
   exact hj _ ⟨⟨a3,q3,rfl,by omega,h5,hq3⟩,.new (by simp) he1 he3 he4 (by simp) (by simpa using hx) he2⟩
  refine jf fun r _ _=>Ev.br (fun _=>?_) (fun _=>?_)
  ·exact rU (ih.sA hm (by omega) h3 hq hd0 (by omega)) fun x a6 q6 h14 h15 hq6 hx=>hj _ ⟨⟨a6,q6,rfl,by omega,h15,hq6⟩,hx⟩
  ·exact fu (ih.expr hm (by omega) h3 hq (by omega)) fun x a9 q9 h20 h21 hq9 hx=>hj _ ⟨⟨a9,q9,rfl,by omega,h21,hq9⟩,.new (by simp) (by simp) (by simp) (by simp) (by simp) (by simpa using hx) (by simp)⟩
 ·refine uQ hm fun r _=>Ev.br (fun _=>sx hm (by simp) fun r _=>hj2 _ trivial) (fun _=>hj2 _ trivial)
end
end Go.Abs
end
