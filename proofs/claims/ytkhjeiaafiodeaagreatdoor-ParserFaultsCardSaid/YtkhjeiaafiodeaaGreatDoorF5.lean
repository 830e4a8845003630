/- PROVED: lemmas of the proof that configlanglaw26.ParserFaults returns true for every input. CONDITIONS: as each lemma states. (Put together by a program of my own out of my own texts.) -/
import Derived.Test.YtkhjeiaafiodeaaGreatDoorF4
section
namespace Go.Abs
open Go.Proofs ay
def fO (p0:ak):ay (Int×ak):=
 br p0.vH (.ok (11,p0)) (br p0.deep (.ok (9,p0)) (.ok (0,p0)))
theorem lf (p0:ak):CT Tryz.prog 65 [.ptr 0 0] [.box (aF p0)] (fO p0) (fun x=>I x.1) (fun x=>[.box (aF x.2)]):=by
 refine zC Tryz.func65 rfl fun r hp h hr E hE=>ab fun _ hK1=>aa (za rfl (zQ hK1 (ab fun _ hK2=>aB (ab fun _ hK3=>aa (zm rfl (zn rfl (zf rfl (zl rfl (za rfl (zQ hK3 (zB rfl h (fun _ h=>?_) fun _ h=>?_)))))))))))
 · exact ab fun _ hK5=>aa (za rfl (zQ hK5 (ar (zX (.cons (aw rfl) .nil) h rfl))))
 · refine ab fun _ hK6=>aa (zm rfl (zn rfl (zf rfl (zl rfl (za rfl (zQ hK6 (zB rfl h (fun _ h=>?_) fun _ h=>?_)))))))
   · exact ab fun _ hK8=>aa (za rfl (zQ hK8 (ar (zX (.cons (aw rfl) .nil) h rfl))))
   · exact an (hK2 _ _ (ab fun _ hK9=>aa (za rfl (zQ hK9 (ar (zX (.cons (aw rfl) .nil) h rfl))))))
def lg (n:Nat) (p0:(List Bool)) (p1:Bool):ay (Int):=
 iter (fun next5 (v4:Int)=>br (decide (v4<(List.length p0:Int))) (el p0 v4 fun vI=>br (p1==vI) (.ok (v4)) (gd (aD (v4+1)) (next5 (v4+1)))) (.ok ((-1)))) n (0)
theorem rz (n:Nat) (p0:(List Bool)) (p1:Bool):CT Tryz.prog 160 [.pv (.sl (List.length p0) (uw p0)),Bo p1] [] (lg n p0 p1) (fun x=>I x) (fun _=>[]):=by
 refine zC Tryz.func160 rfl fun r hp h hr E hE=>ab fun _ hK1=>aa (za rfl (zQ hK1 (ab fun _ hK2=>ab fun _ hK3=>aa (zm rfl (al (bQ rfl) rfl (zm rfl (zQ hK3 (aB (zL hr h (fun (v4:Int)=>[(0,.pv (.sl (List.length p0) (uw p0))),(1,Bo p1),(7,I (List.length p0:Int)),(8,I v4)]) (fun (v4:Int)=>[]) rfl fun _ v4 _ hK6 h=>ab fun _ hK7=>aa (zc rfl (zQ hK7 (ab fun _ hK8=>zB rfl h (fun _ h=>?_) fun _ h=>?_))))))))))))
 · refine an (hK8 _ _ (ab fun _ hK10=>aB (ab fun _ hK11=>aa (zm rfl (za rfl (zQ hK11 (ab fun _ hK12=>aa (zm rfl (zm rfl (zm rfl (ze hr h fun vI h14 h15 h16 h=>al (eE bw zS h14 h15 h16 rfl rfl rfl) rfl (al (dM rfl rfl) rfl (al (DM rfl rfl) rfl (zQ hK12 (zB rfl h (fun _ h=>?_) fun _ h=>?_)))))))))))))))
   · exact ab fun _ hK18=>aa (zm rfl (za rfl (zQ hK18 (ar (zX (.cons (aw rfl) .nil) h rfl)))))
   · exact an (hK10 _ _ (aa (zd hr h fun hg19 h=>zo hg19 rfl (zm rfl (ao (hK6 _ _ _ h rfl))))))
 · exact bh (hK2 _ _ (ab fun _ hK20=>aa (za rfl (zQ hK20 (ar (zX (.cons (aw rfl) .nil) h rfl))))))
def iA (n:Nat) (p0:(List Bool)) (p1:Bool):ay (Bool):=
 ay.bind (lg n p0 p1) fun y3=>.ok ((decide (y3≥0)))
theorem pG (n:Nat) (p0:(List Bool)) (p1:Bool):CT Tryz.prog 108 [.pv (.sl (List.length p0) (uw p0)),Bo p1] [] (iA n p0 p1) (fun x=>Bo x) (fun _=>[]):=by
 exact zC Tryz.func108 rfl fun r hp h hr E hE=>ab fun _ hK1=>aa (za rfl (zQ hK1 (ab fun _ hK2=>aa (zm rfl (zm rfl (zk hp hr h [] Tryz.call160 (rz n p0 p1) rfl (fun _=>rfl) fun y3 h=>zc rfl (za rfl (zQ hK2 (ar (zX (.cons (aw rfl) .nil) h rfl))))))))))
def aA (n:Nat) (p0:(List Bool)) (p1:ak):ay (ak):=
 br p1.vH (.ok ((ak.mk true p1.deep))) (ay.bind (iA n p0 false) fun y2=>.ok ((ak.mk y2 p1.deep)))
theorem az (n:Nat) (p0:(List Bool)) (p1:ak):CT Tryz.prog 61 [.ptr 0 0,.pv (.sl (List.length p0) (uw p0))] [.box (aF p1)] (aA n p0 p1) (fun _=>.eT []) (fun x=>[.box (aF x)]):=by
 refine zC Tryz.func61 rfl fun r hp h hr E hE=>aa (zm rfl (zm rfl (zn rfl (zf rfl (zl rfl (zm rfl (zb p1.vH (fun hb1=>?_) fun hb1=>?_)))))))
 · exact z1 hb1 h fun h=>zg hb1 rfl (zg hb1 rfl (zy hb1 rfl (zn rfl (zf rfl (zs rfl (ao (zY .nil h rfl)))))))
 · exact z2 hb1 h fun h=>zG hb1 rfl (aq rfl) (zK hb1 rfl hp hr h [] Tryz.call108 (pG n p0 false) rfl (fun _=>rfl) fun y2 h=>zw hb1 rfl (zn rfl (zf rfl (zs rfl (ao (zY .nil h rfl))))))
def kx (n:Nat) (p0:fS):ay (Bool):=
 ay.bind (eO n p0.x0) fun y3=>br y3 (ay.bind (eO n p0.x1) fun y5=>br y5 (.ok ((p0.x0 !=p0.x1))) (.ok (false))) (.ok (false))
theorem pT (n:Nat) (p0:fS):CT Tryz.prog 164 [.agg [bd p0.x0,bd p0.x1]] [] (kx n p0) (fun x=>Bo x) (fun _=>[]):=by
 refine zC Tryz.func164 rfl fun r hp h hr E hE=>ab fun _ hK1=>aa (cM 101 (hE _ rfl) ⟨rfl,rfl,rfl,rfl,rfl,rfl,rfl⟩ rfl ?_)
 refine za rfl (zQ hK1 (ab fun _ hK2=>aa (al (hZ rfl rfl (by decide) (by decide)) rfl (zl rfl (zk hp hr h [] Tryz.call62 (eY n p0.x0) rfl (fun _=>rfl) fun y3 h=>zm rfl (zb y3 (fun hb4=>?_) fun hb4=>?_))))))
 · refine z1 hb4 h fun h=>zG hb4 rfl (hZ rfl rfl (by decide) (by decide)) (zG hb4 rfl (aX rfl rfl rfl) (zK hb4 rfl hp hr h [] Tryz.call62 (eY n p0.x1) rfl (fun _=>rfl) fun y5 h=>zy hb4 rfl (zm rfl (zb y5 (fun hb6=>?_) fun hb6=>?_))))
   · exact z1 hb6 h fun h=>zG hb6 rfl (hZ rfl rfl (by decide) (by decide)) (zG hb6 rfl (aX rfl rfl rfl) (zG hb6 rfl (hZ rfl rfl (by decide) (by decide)) (zG hb6 rfl (aX rfl rfl rfl) (zG hb6 rfl (qy rfl rfl) (zy hb6 rfl (za rfl (zQ hK2 (ar (zX (.cons (aw rfl) .nil) h rfl)))))))))
   · exact z2 hb6 h fun h=>zg hb6 rfl (zg hb6 rfl (zg hb6 rfl (zg hb6 rfl (zg hb6 rfl (zw hb6 rfl (za rfl (zQ hK2 (ar (zX (.cons (aw rfl) .nil) h rfl)))))))))
 · exact z2 hb4 h fun h=>zg hb4 rfl (zg hb4 rfl (zg hb4 rfl (zw hb4 rfl (zm rfl (zg rfl rfl (zg rfl rfl (zg rfl rfl (zg rfl rfl (zg rfl rfl (al (dj rfl rfl) rfl (za rfl (zQ hK2 (ar (zX (.cons (aw rfl) .nil) h rfl))))))))))))))
def nE (p0:(List UInt8)):ay (Bool):=
 ay.bind (strings_Contains p0 ([10]:List UInt8)) fun y3=>.ok (y3)
theorem s8 (p0:(List UInt8)):CT Tryz.prog 112 [bd p0] [] (nE p0) (fun x=>Bo x) (fun _=>[]):=by
 exact zC Tryz.func112 rfl fun r hp h hr E hE=>ab fun _ hK1=>aa (za rfl (zQ hK1 (ab fun _ hK2=>aa (zm rfl (zk hp hr h [] Tryz.call94 (ji p0 ([10]:List UInt8)) rfl (fun _=>rfl) fun y3 h=>za rfl (zQ hK2 (ar (zX (.cons (aw rfl) .nil) h rfl))))))))
def jb (n:Nat) (p0:(List (List UInt8))):ay (Int):=
 iter (fun next5 (v4:Int)=>br (decide (v4<(List.length p0:Int))) (el p0 v4 fun vI=>ay.bind (nE vI) fun y17=>br y17 (.ok (v4)) (gd (aD (v4+1)) (next5 (v4+1)))) (.ok ((-1)))) n (0)
theorem nO (n:Nat) (p0:(List (List UInt8))):CT Tryz.prog 162 [.pv (.sl (List.length p0) (bS p0)),.fn 112 [] []] [] (jb n p0) (fun x=>I x) (fun _=>[]):=by
 refine zC Tryz.func162 rfl fun r hp h hr E hE=>ab fun _ hK1=>aa (za rfl (zQ hK1 (ab fun _ hK2=>ab fun _ hK3=>aa (zm rfl (al (bQ rfl) rfl (zm rfl (zQ hK3 (aB (zL hr h (fun (v4:Int)=>[(0,.pv (.sl (List.length p0) (bS p0))),(1,.fn 112 [] []),(7,I (List.length p0:Int)),(8,I v4)]) (fun (v4:Int)=>[]) rfl fun _ v4 _ hK6 h=>ab fun _ hK7=>aa (zc rfl (zQ hK7 (ab fun _ hK8=>zB rfl h (fun _ h=>?_) fun _ h=>?_))))))))))))
 · refine an (hK8 _ _ (ab fun _ hK10=>aB (ab fun _ hK11=>aa (zm rfl (za rfl (zQ hK11 (ab fun _ hK12=>aa (zm rfl (zm rfl (zm rfl (ze hr h fun vI h14 h15 h16 h=>al (eE ej gk h14 h15 h16 rfl rfl rfl) rfl (al (dM rfl rfl) rfl (zk hp hr h [] Tryz.call112 (s8 vI) rfl (fun _=>rfl) fun y17 h=>zQ hK12 (zB rfl h (fun _ h=>?_) fun _ h=>?_))))))))))))))
   · exact ab fun _ hK19=>aa (zm rfl (za rfl (zQ hK19 (ar (zX (.cons (aw rfl) .nil) h rfl)))))
   · exact an (hK10 _ _ (aa (zd hr h fun hg20 h=>zo hg20 rfl (zm rfl (ao (hK6 _ _ _ h rfl))))))
 · exact bh (hK2 _ _ (ab fun _ hK21=>aa (za rfl (zQ hK21 (ar (zX (.cons (aw rfl) .nil) h rfl))))))
def gO (n:Nat) (p0:(List (List UInt8))):ay (Bool):=
 ay.bind (jb n p0) fun y3=>.ok ((decide (y3≥0)))
theorem my (n:Nat) (p0:(List (List UInt8))):CT Tryz.prog 111 [.pv (.sl (List.length p0) (bS p0)),.fn 112 [] []] [] (gO n p0) (fun x=>Bo x) (fun _=>[]):=by
 exact zC Tryz.func111 rfl fun r hp h hr E hE=>ab fun _ hK1=>aa (za rfl (zQ hK1 (ab fun _ hK2=>aa (zm rfl (zm rfl (zk hp hr h [] Tryz.call162 (nO n p0) rfl (fun _=>rfl) fun y3 h=>zc rfl (za rfl (zQ hK2 (ar (zX (.cons (aw rfl) .nil) h rfl))))))))))
def fI (n:Nat) (p0:(List (List UInt8))):ay (Bool):=
 ay.bind (gO n p0) fun y3=>.ok ((!y3))
theorem gP (n:Nat) (p0:(List (List UInt8))):CT Tryz.prog 63 [.pv (.sl (List.length p0) (bS p0))] [] (fI n p0) (fun x=>Bo x) (fun _=>[]):=by
 exact zC Tryz.func63 rfl fun r hp h hr E hE=>ab fun _ hK1=>aa (za rfl (zQ hK1 (ab fun _ hK2=>aa (zm rfl (zk hp hr h [] Tryz.call111 (my n p0) rfl (fun _=>rfl) fun y3 h=>al (du rfl) rfl (za rfl (zQ hK2 (ar (zX (.cons (aw rfl) .nil) h rfl)))))))))
def mc (p0:fS):ay (Bool):=
 .ok (((p0.x0==[])&&(p0.x1==[])))
theorem om (p0:fS):CT Tryz.prog 165 [.agg [bd p0.x0,bd p0.x1]] [] (mc p0) (fun x=>Bo x) (fun _=>[]):=by
 refine zC Tryz.func165 rfl fun r hp h hr E hE=>ab fun _ hK1=>aa (cM 101 (hE _ rfl) ⟨rfl,rfl,rfl,rfl,rfl,rfl,rfl⟩ rfl ?_)
 refine za rfl (zQ hK1 (ab fun _ hK2=>aa (zA rfl ?_)))
 refine al (bA rfl rfl rfl) rfl ?_
 exact al (Ds rfl rfl) rfl (za rfl (zQ hK2 (ar (zX (.cons (aw rfl) .nil) h rfl))))
def fJ (n:Nat) (p0:ai) (p1:ak):ay (ak):=
 ay.bind (eO n p0.Text) fun y3=>ay.bind (aA n [y3] p1) fun y4=>br (p0.bk==([]:List UInt8)) (ay.bind (mc (fS.mk p0.bk p0.bt)) fun y8=>ay.bind (aA n [y8,(p0.jD==0),((List.length p0.bc:Int)==0)] y4) fun y9=>.ok (y9)) (br (p0.bk==([108,101,116]:List UInt8)) (ay.bind (aA n [((List.length p0.bc:Int)==1),(p0.bt==([]:List UInt8)),(decide (p0.jD≥0))] y4) fun y12=>.ok (y12)) (jn (fun (v13:Bool)=>br v13 (ay.bind (aA n [((List.length p0.bc:Int)==0),(p0.bt==([]:List UInt8)),(decide (p0.jD≥0))] y4) fun y17=>.ok (y17)) (ay.bind (aA n [false] y4) fun y18=>.ok (y18))) fun j14=>br (p0.bk==([102,105,101,108,100]:List UInt8)) (j14 ((p0.bk==([102,105,101,108,100]:List UInt8)))) (br (p0.bk==([108,111,111,112]:List UInt8)) (j14 ((p0.bk==([108,111,111,112]:List UInt8)))) (br (p0.bk==([112,97,99,107,97,103,101]:List UInt8)) (j14 ((p0.bk==([112,97,99,107,97,103,101]:List UInt8)))) (j14 ((p0.bk==([117,110,107,110,111,119,110]:List UInt8))))))))
theorem nF (n:Nat) (p0:ai) (p1:ak):CT Tryz.prog 177 [.ptr 0 0,.agg (aV p0)] [.box (aF p1)] (fJ n p0 p1) (fun _=>.eT []) (fun x=>[.box (aF x)]):=by
 refine zC Tryz.func177 rfl fun r hp h hr E hE=>ab fun _ hK1=>aa (cM 103 (hE _ rfl) ⟨rfl,rfl,rfl,rfl,rfl,rfl,rfl⟩ rfl ?_)
 refine zQ hK1 (ab fun _ hK2=>aa (zm rfl (zf rfl (zl rfl (zk hp hr h [] Tryz.call62 (eY n p0.Text) rfl (fun _=>rfl) fun y3 h=>bL [y3] bw ⟨rfl,rfl⟩ rfl ?_)))))
 refine zk hp hr h [0] Tryz.call61 (az n [y3] p1) rfl (fun _=>rfl) fun y4 h=>zQ hK2 (ab fun _ hK5=>aa (zf rfl (al (hZ rfl rfl (by decide) (by decide)) rfl (zl rfl (zQ hK5 (aB (ab fun _ hK6=>aa (al (iQ rfl rfl) rfl (za rfl (zQ hK6 (zB rfl h (fun _ h=>?_) fun _ h=>?_)))))))))))
 · refine bo [0,1,2,4,5,6,7,8,9,10,3,11,12] rfl (by kernel_rfl) (zD rfl (aq rfl) rfl (zD rfl (bn rfl) rfl (zD rfl (hY rfl rfl rfl rfl) rfl ?_)))
   refine zD rfl (bn rfl) rfl (zD rfl (ei [.any,.any,I p0.jD,.any,.any,.any,.any,.any,.any] rfl rfl ⟨.inr rfl,.inr rfl,.inl rfl,.inr rfl,.inr rfl,.inr rfl,.inr rfl,.inr rfl,.inr rfl,trivial⟩ rfl) rfl (zD rfl (bf rfl rfl rfl) rfl (zD rfl (bn rfl) rfl (zD rfl (ei [.any,.any,.any,.any,.any,.pv (.sl (List.length p0.bc) (ai.Cs p0.bc)),.any,.any,.any] rfl rfl ⟨.inr rfl,.inr rfl,.inr rfl,.inr rfl,.inr rfl,.inl rfl,.inr rfl,.inr rfl,.inr rfl,trivial⟩ rfl) rfl (zD rfl (bQ rfl) rfl (zD rfl (bf rfl rfl rfl) rfl (cS rfl (bF rfl) hr h [] Tryz.call165 (om (fS.mk p0.bk p0.bt)) ⟨rfl,rfl,rfl,rfl,rfl,rfl,trivial⟩ rfl rfl (fun _=>⟨rfl,rfl,rfl⟩) (fun _=>⟨rfl,rfl⟩) hp (fun y8 h=>⟨ch ⟨trivial,⟨trivial,⟨⟨⟨_,rfl,be.ed ⟨.inr rfl,.inr rfl,.inr rfl,.inr rfl,.inr rfl,.inl rfl,.inr rfl,.inr rfl,.inr rfl,trivial⟩⟩,trivial⟩,⟨trivial,⟨trivial,⟨⟨⟨_,rfl,be.ed ⟨.inr rfl,.inr rfl,.inl rfl,.inr rfl,.inr rfl,.inr rfl,.inr rfl,.inr rfl,.inr rfl,trivial⟩⟩,trivial⟩,⟨trivial,⟨trivial,⟨trivial,⟨trivial,trivial⟩⟩⟩⟩⟩⟩⟩⟩⟩⟩,?_⟩))))))))
   refine gI [y8,(p0.jD==0),((List.length p0.bc:Int)==0)] bw rfl (bF rfl) ⟨rfl,rfl⟩ ⟨rfl,rfl⟩ ?_
   refine cS rfl (bF rfl) hr h [0] Tryz.call61 (az n [y8,(p0.jD==0),((List.length p0.bc:Int)==0)] y4) ⟨rfl,rfl,rfl,rfl,rfl,rfl,trivial⟩ rfl rfl (fun _=>⟨rfl,rfl,rfl⟩) (fun _=>⟨rfl,rfl⟩) hp (fun y9 h=>⟨aJ rfl,?_⟩)
   exact b4 (zY .nil h rfl)
 · refine ab fun _ hK10=>aa (al (iQ rfl rfl) rfl (za rfl (zQ hK10 (zB rfl h (fun _ h=>?_) fun _ h=>?_))))
   · refine aa (zm rfl (zf rfl (zl rfl (al (bQ rfl) rfl (zc rfl (zf rfl (al (hZ rfl rfl (by decide) (by decide)) rfl (zl rfl (al (iQ rfl rfl) rfl (zf rfl (zl rfl (zc rfl (bL [((List.length p0.bc:Int)==1),(p0.bt==([]:List UInt8)),(decide (p0.jD≥0))] bw ⟨rfl,rfl⟩ rfl ?_)))))))))))))
     exact zk hp hr h [0] Tryz.call61 (az n [((List.length p0.bc:Int)==1),(p0.bt==([]:List UInt8)),(decide (p0.jD≥0))] y4) rfl (fun _=>rfl) fun y12 h=>ao (zY .nil h rfl)
   · refine zM h (fun (v13:Bool)=>[(0,.ptr 0 0),(1,.agg (aV p0)),(3,.ptr 103 0),(47,Bo v13)]) (fun (v13:Bool)=>[(0,.box (aF y4)),(103,.box (aV p0))]) (fun v13 h=>?_) fun _ _ hK15 h=>?_
     · refine zB rfl h (fun _ h=>?_) fun _ h=>?_
       · refine aa (zm rfl (zf rfl (zl rfl (al (bQ rfl) rfl (zc rfl (zf rfl (al (hZ rfl rfl (by decide) (by decide)) rfl (zl rfl (al (iQ rfl rfl) rfl (zf rfl (zl rfl (zc rfl (bL [((List.length p0.bc:Int)==0),(p0.bt==([]:List UInt8)),(decide (p0.jD≥0))] bw ⟨rfl,rfl⟩ rfl ?_)))))))))))))
         exact zk hp hr h [0] Tryz.call61 (az n [((List.length p0.bc:Int)==0),(p0.bt==([]:List UInt8)),(decide (p0.jD≥0))] y4) rfl (fun _=>rfl) fun y17 h=>ao (zY .nil h rfl)
       · refine aa (zm rfl (bL [false] bw ⟨rfl,rfl⟩ rfl ?_))
         exact zk hp hr h [0] Tryz.call61 (az n [false] y4) rfl (fun _=>rfl) fun y18 h=>ao (zY .nil h rfl)
     · refine ab fun _ hK19=>aa (al (iQ rfl rfl) rfl (za rfl (zQ hK19 (zB rfl h (fun _ h=>?_) fun _ h=>?_))))
       · exact an (hK15 _ _ _ h rfl)
       · refine ab fun _ hK21=>aa (al (iQ rfl rfl) rfl (za rfl (zQ hK21 (zB rfl h (fun _ h=>?_) fun _ h=>?_))))
         · exact an (hK15 _ _ _ h rfl)
         · refine ab fun _ hK23=>aa (al (iQ rfl rfl) rfl (za rfl (zQ hK23 (zB rfl h (fun _ h=>?_) fun _ h=>?_))))
           · exact an (hK15 _ _ _ h rfl)
           · exact aa (al (iQ rfl rfl) rfl (za rfl (ao (hK15 _ _ _ h rfl))))
def iJ (n:Nat) (p0:ai) (p1:ak):ay (ak):=
 jn (fun (v4:Bool)=>br v4 (.ok (p1)) (br (p0.Kind==5) (ay.bind (aA n [(decide ((List.length p0.bc:Int)≥1))] p1) fun y10=>.ok (y10)) (jn (fun (v11:Bool)=>br v11 (ay.bind (aA n [((List.length p0.bc:Int)==1)] p1) fun y15=>.ok (y15)) (jn (fun (v16:Bool)=>br v16 (ay.bind (aA n [((List.length p0.bc:Int)==2)] p1) fun y20=>.ok (y20)) (br (p0.Kind==15) (br ((List.length p0.bc:Int)==2) (ay.bind (aA n [true] p1) fun y24=>.ok (y24)) (ay.bind (aA n [((List.length p0.bc:Int)==3)] p1) fun y25=>.ok (y25))) (br (p0.Kind==17) (ay.bind (aA n [(decide ((List.length p0.bc:Int)≥2))] p1) fun y28=>.ok (y28)) (br (p0.Kind==14) (ay.bind (aA n [(decide ((List.length p0.bc:Int)≥(AN .i64 p0.jD 1)))] p1) fun y31=>.ok (y31)) (ay.bind (aA n [((List.length p0.bc:Int)==0)] p1) fun y32=>.ok (y32)))))) fun j17=>br (p0.Kind==12) (j17 ((p0.Kind==12))) (br (p0.Kind==16) (j17 ((p0.Kind==16))) (j17 ((p0.Kind==20)))))) fun j12=>br (p0.Kind==9) (j12 ((p0.Kind==9))) (br (p0.Kind==11) (j12 ((p0.Kind==11))) (br (p0.Kind==18) (j12 ((p0.Kind==18))) (j12 ((p0.Kind==19)))))))) fun j5=>br (p0.Kind==10) (j5 ((p0.Kind==10))) (j5 ((p0.Kind==21)))
theorem qd (n:Nat) (p0:ai) (p1:ak):CT Tryz.prog 175 [.ptr 0 0,.agg (aV p0)] [.box (aF p1)] (iJ n p0 p1) (fun _=>.eT []) (fun x=>[.box (aF x)]):=by
 refine zC Tryz.func175 rfl fun r hp h hr E hE=>ab fun _ hK1=>aa (cM 103 (hE _ rfl) ⟨rfl,rfl,rfl,rfl,rfl,rfl,rfl⟩ rfl ?_)
 refine zQ hK1 (ab fun _ hK2=>aa (zf rfl (zl rfl (al (bQ rfl) rfl (za rfl (zQ hK2 (ab fun _ hK3=>aa (zf rfl (zl rfl (zQ hK3 (aB (zM h (fun (v4:Bool)=>[(0,.ptr 0 0),(1,.agg (aV p0)),(3,.ptr 103 0),(4,I (List.length p0.bc:Int)),(9,I p0.Kind),(15,Bo v4)]) (fun (v4:Bool)=>[(0,.box (aF p1)),(103,.box (aV p0))]) (fun v4 h=>?_) fun _ _ hK6 h=>?_))))))))))))
 · refine zB rfl h (fun _ h=>?_) fun _ h=>?_
   · exact an (zY .nil h rfl)
   · refine ab fun _ hK8=>aa (zc rfl (za rfl (zQ hK8 (zB rfl h (fun _ h=>?_) fun _ h=>?_))))
     · refine aa (zm rfl (zm rfl (zc rfl (bL [(decide ((List.length p0.bc:Int)≥1))] bw ⟨rfl,rfl⟩ rfl ?_))))
       exact zk hp hr h [0] Tryz.call61 (az n [(decide ((List.length p0.bc:Int)≥1))] p1) rfl (fun _=>rfl) fun y10 h=>ao (zY .nil h rfl)
     · refine zM h (fun (v11:Bool)=>[(0,.ptr 0 0),(1,.agg (aV p0)),(3,.ptr 103 0),(4,I (List.length p0.bc:Int)),(9,I p0.Kind),(25,Bo v11)]) (fun (v11:Bool)=>[(0,.box (aF p1)),(103,.box (aV p0))]) (fun v11 h=>?_) fun _ _ hK13 h=>?_
       · refine zB rfl h (fun _ h=>?_) fun _ h=>?_
         · refine aa (zm rfl (zm rfl (zc rfl (bL [((List.length p0.bc:Int)==1)] bw ⟨rfl,rfl⟩ rfl ?_))))
           exact zk hp hr h [0] Tryz.call61 (az n [((List.length p0.bc:Int)==1)] p1) rfl (fun _=>rfl) fun y15 h=>ao (zY .nil h rfl)
         · refine zM h (fun (v16:Bool)=>[(0,.ptr 0 0),(1,.agg (aV p0)),(3,.ptr 103 0),(4,I (List.length p0.bc:Int)),(9,I p0.Kind),(35,Bo v16)]) (fun (v16:Bool)=>[(0,.box (aF p1)),(103,.box (aV p0))]) (fun v16 h=>?_) fun _ _ hK18 h=>?_
           · refine zB rfl h (fun _ h=>?_) fun _ h=>?_
             · refine aa (zm rfl (zm rfl (zc rfl (bL [((List.length p0.bc:Int)==2)] bw ⟨rfl,rfl⟩ rfl ?_))))
               exact zk hp hr h [0] Tryz.call61 (az n [((List.length p0.bc:Int)==2)] p1) rfl (fun _=>rfl) fun y20 h=>ao (zY .nil h rfl)
             · refine ab fun _ hK21=>aa (zc rfl (za rfl (zQ hK21 (zB rfl h (fun _ h=>?_) fun _ h=>?_))))
               · refine aa (zm rfl (zm rfl (zc rfl (zm rfl (zb ((List.length p0.bc:Int)==2) (fun hb23=>?_) fun hb23=>?_)))))
                 · refine z1 hb23 h fun h=>zg hb23 rfl (zg hb23 rfl (zy hb23 rfl (bL [true] bw ⟨rfl,rfl⟩ rfl ?_)))
                   exact zk hp hr h [0] Tryz.call61 (az n [true] p1) rfl (fun _=>rfl) fun y24 h=>ao (zY .nil h rfl)
                 · refine z2 hb23 h fun h=>zG hb23 rfl (aq rfl) (zG hb23 rfl (bf rfl rfl rfl) (zw hb23 rfl (bL [((List.length p0.bc:Int)==3)] bw ⟨rfl,rfl⟩ rfl ?_)))
                   exact zk hp hr h [0] Tryz.call61 (az n [((List.length p0.bc:Int)==3)] p1) rfl (fun _=>rfl) fun y25 h=>ao (zY .nil h rfl)
               · refine ab fun _ hK26=>aa (zc rfl (za rfl (zQ hK26 (zB rfl h (fun _ h=>?_) fun _ h=>?_))))
                 · refine aa (zm rfl (zm rfl (zc rfl (bL [(decide ((List.length p0.bc:Int)≥2))] bw ⟨rfl,rfl⟩ rfl ?_))))
                   exact zk hp hr h [0] Tryz.call61 (az n [(decide ((List.length p0.bc:Int)≥2))] p1) rfl (fun _=>rfl) fun y28 h=>ao (zY .nil h rfl)
                 · refine ab fun _ hK29=>aa (zc rfl (za rfl (zQ hK29 (zB rfl h (fun _ h=>?_) fun _ h=>?_))))
                   · refine aa (zm rfl (zm rfl (zf rfl (zl rfl (al (C6 rfl rfl) rfl (zc rfl (bL [(decide ((List.length p0.bc:Int)≥(AN .i64 p0.jD 1)))] bw ⟨rfl,rfl⟩ rfl ?_)))))))
                     exact zk hp hr h [0] Tryz.call61 (az n [(decide ((List.length p0.bc:Int)≥(AN .i64 p0.jD 1)))] p1) rfl (fun _=>rfl) fun y31 h=>ao (zY .nil h rfl)
                   · refine aa (zm rfl (zm rfl (zc rfl (bL [((List.length p0.bc:Int)==0)] bw ⟨rfl,rfl⟩ rfl ?_))))
                     exact zk hp hr h [0] Tryz.call61 (az n [((List.length p0.bc:Int)==0)] p1) rfl (fun _=>rfl) fun y32 h=>ao (zY .nil h rfl)
           · refine ab fun _ hK33=>aa (zc rfl (za rfl (zQ hK33 (zB rfl h (fun _ h=>?_) fun _ h=>?_))))
             · exact an (hK18 _ _ _ h rfl)
             · refine ab fun _ hK35=>aa (zc rfl (za rfl (zQ hK35 (zB rfl h (fun _ h=>?_) fun _ h=>?_))))
               · exact an (hK18 _ _ _ h rfl)
               · exact aa (zc rfl (za rfl (ao (hK18 _ _ _ h rfl))))
       · refine ab fun _ hK37=>aa (zc rfl (za rfl (zQ hK37 (zB rfl h (fun _ h=>?_) fun _ h=>?_))))
         · exact an (hK13 _ _ _ h rfl)
         · refine ab fun _ hK39=>aa (zc rfl (za rfl (zQ hK39 (zB rfl h (fun _ h=>?_) fun _ h=>?_))))
           · exact an (hK13 _ _ _ h rfl)
           · refine ab fun _ hK41=>aa (zc rfl (za rfl (zQ hK41 (zB rfl h (fun _ h=>?_) fun _ h=>?_))))
             · exact an (hK13 _ _ _ h rfl)
             · exact aa (zc rfl (za rfl (ao (hK13 _ _ _ h rfl))))
 · refine ab fun _ hK43=>aa (zc rfl (za rfl (zQ hK43 (zB rfl h (fun _ h=>?_) fun _ h=>?_))))
   · exact an (hK6 _ _ _ h rfl)
   · exact aa (zc rfl (za rfl (ao (hK6 _ _ _ h rfl))))
def gb (n:Nat) (p0:(List UInt8)) (p1:(List UInt8)):ay (Bool):=
 br (p0 !=([]:List UInt8)) (ay.bind (strings_Split p1 ([32]:List UInt8)) fun y4=>ay.bind (slices_Contains_string n y4 p0) fun y5=>.ok (y5)) (.ok (false))
theorem jL (n:Nat) (p0:(List UInt8)) (p1:(List UInt8)):CT Tryz.prog 216 [bd p0,bd p1] [] (gb n p0 p1) (fun x=>Bo x) (fun _=>[]):=by
 refine zC Tryz.func216 rfl fun r hp h hr E hE=>ab fun _ hK1=>aa (za rfl (zQ hK1 (ab fun _ hK2=>aa (zm rfl (al (qy rfl rfl) rfl (zm rfl (zb (p0 !=([]:List UInt8)) (fun hb3=>?_) fun hb3=>?_)))))))
 · exact z1 hb3 h fun h=>zG hb3 rfl (aq rfl) (zK hb3 rfl hp hr h [] Tryz.call146 (mo p1 ([32]:List UInt8)) rfl (fun _=>rfl) fun y4 h=>zG hb3 rfl (aq rfl) (zK hb3 rfl hp hr h [] Tryz.call109 (iD n y4 p0) rfl (fun _=>rfl) fun y5 h=>zy hb3 rfl (za rfl (zQ hK2 (ar (zX (.cons (aw rfl) .nil) h rfl))))))
 · exact z2 hb3 h fun h=>zg hb3 rfl (zg hb3 rfl (zg hb3 rfl (zg hb3 rfl (zw hb3 rfl (za rfl (zQ hK2 (ar (zX (.cons (aw rfl) .nil) h rfl))))))))
def iK (n:Nat) (p0:ai) (p1:ak):ay (ak):=
 jn (fun (v3:Bool)=>br v3 (.ok (p1)) (br (p0.Kind==8) (ay.bind (gb n p0.Text ([110,117,108,108,32,98,111,111,108,32,105,110,116,32,110,117,109,98,101,114,32,115,116,114,105,110,103]:List UInt8)) fun y9=>ay.bind (aA n [y9] p1) fun y10=>.ok (y10)) (br (p0.Kind==9) (ay.bind (gb n p0.Text ([60,32,60,61,32,62,32,62,61,32,33,61,32,61,126,32,33,126]:List UInt8)) fun y13=>ay.bind (aA n [y13] p1) fun y14=>.ok (y14)) (br (p0.Kind==19) (ay.bind (gb n p0.Text ([45,32,33]:List UInt8)) fun y17=>ay.bind (aA n [y17] p1) fun y18=>.ok (y18)) (br (p0.Kind==20) (ay.bind (gb n p0.Text ([43,32,45,32,42,32,47,32,37,32,61,61,32,33,61,32,60,32,60,61,32,62,32,62,61,32,38,38,32,124,124]:List UInt8)) fun y21=>ay.bind (aA n [y21] p1) fun y22=>.ok (y22)) (br (p0.Kind==21) (ay.bind (eO n p0.Text) fun y25=>ay.bind (aA n [y25] p1) fun y26=>.ok (y26)) (ay.bind (aA n [(p0.Text==([]:List UInt8))] p1) fun y27=>.ok (y27)))))))) fun j4=>br (p0.Kind==10) (j4 ((p0.Kind==10))) (br (p0.Kind==4) (j4 ((p0.Kind==4))) (j4 ((p0.Kind==11))))
theorem qe (n:Nat) (p0:ai) (p1:ak):CT Tryz.prog 176 [.ptr 0 0,.agg (aV p0)] [.box (aF p1)] (iK n p0 p1) (fun _=>.eT []) (fun x=>[.box (aF x)]):=by
 refine zC Tryz.func176 rfl fun r hp h hr E hE=>ab fun _ hK1=>aa (cM 103 (hE _ rfl) ⟨rfl,rfl,rfl,rfl,rfl,rfl,rfl⟩ rfl ?_)
 refine zQ hK1 (ab fun _ hK2=>aa (zf rfl (zl rfl (zQ hK2 (aB (zM h (fun (v3:Bool)=>[(0,.ptr 0 0),(1,.agg (aV p0)),(3,.ptr 103 0),(5,I p0.Kind),(12,Bo v3)]) (fun (v3:Bool)=>[(0,.box (aF p1)),(103,.box (aV p0))]) (fun v3 h=>?_) fun _ _ hK5 h=>?_))))))
 · refine zB rfl h (fun _ h=>?_) fun _ h=>?_
   · exact an (zY .nil h rfl)
   · refine ab fun _ hK7=>aa (zc rfl (za rfl (zQ hK7 (zB rfl h (fun _ h=>?_) fun _ h=>?_))))
     · refine aa (zm rfl (zf rfl (zl rfl (zk hp hr h [] Tryz.call216 (jL n p0.Text ([110,117,108,108,32,98,111,111,108,32,105,110,116,32,110,117,109,98,101,114,32,115,116,114,105,110,103]:List UInt8)) rfl (fun _=>rfl) fun y9 h=>bL [y9] bw ⟨rfl,rfl⟩ rfl ?_))))
       exact zk hp hr h [0] Tryz.call61 (az n [y9] p1) rfl (fun _=>rfl) fun y10 h=>ao (zY .nil h rfl)
     · refine ab fun _ hK11=>aa (zc rfl (za rfl (zQ hK11 (zB rfl h (fun _ h=>?_) fun _ h=>?_))))
       · refine aa (zm rfl (zf rfl (zl rfl (zk hp hr h [] Tryz.call216 (jL n p0.Text ([60,32,60,61,32,62,32,62,61,32,33,61,32,61,126,32,33,126]:List UInt8)) rfl (fun _=>rfl) fun y13 h=>bL [y13] bw ⟨rfl,rfl⟩ rfl ?_))))
         exact zk hp hr h [0] Tryz.call61 (az n [y13] p1) rfl (fun _=>rfl) fun y14 h=>ao (zY .nil h rfl)
       · refine ab fun _ hK15=>aa (zc rfl (za rfl (zQ hK15 (zB rfl h (fun _ h=>?_) fun _ h=>?_))))
         · refine aa (zm rfl (zf rfl (zl rfl (zk hp hr h [] Tryz.call216 (jL n p0.Text ([45,32,33]:List UInt8)) rfl (fun _=>rfl) fun y17 h=>bL [y17] bw ⟨rfl,rfl⟩ rfl ?_))))
           exact zk hp hr h [0] Tryz.call61 (az n [y17] p1) rfl (fun _=>rfl) fun y18 h=>ao (zY .nil h rfl)
         · refine ab fun _ hK19=>aa (zc rfl (za rfl (zQ hK19 (zB rfl h (fun _ h=>?_) fun _ h=>?_))))
           · refine aa (zm rfl (zf rfl (zl rfl (zk hp hr h [] Tryz.call216 (jL n p0.Text ([43,32,45,32,42,32,47,32,37,32,61,61,32,33,61,32,60,32,60,61,32,62,32,62,61,32,38,38,32,124,124]:List UInt8)) rfl (fun _=>rfl) fun y21 h=>bL [y21] bw ⟨rfl,rfl⟩ rfl ?_))))
             exact zk hp hr h [0] Tryz.call61 (az n [y21] p1) rfl (fun _=>rfl) fun y22 h=>ao (zY .nil h rfl)
           · refine ab fun _ hK23=>aa (zc rfl (za rfl (zQ hK23 (zB rfl h (fun _ h=>?_) fun _ h=>?_))))
             · refine aa (zm rfl (zf rfl (zl rfl (zk hp hr h [] Tryz.call62 (eY n p0.Text) rfl (fun _=>rfl) fun y25 h=>bL [y25] bw ⟨rfl,rfl⟩ rfl ?_))))
               exact zk hp hr h [0] Tryz.call61 (az n [y25] p1) rfl (fun _=>rfl) fun y26 h=>ao (zY .nil h rfl)
             · refine aa (zm rfl (zf rfl (zl rfl (al (iQ rfl rfl) rfl (bL [(p0.Text==([]:List UInt8))] bw ⟨rfl,rfl⟩ rfl ?_)))))
               exact zk hp hr h [0] Tryz.call61 (az n [(p0.Text==([]:List UInt8))] p1) rfl (fun _=>rfl) fun y27 h=>ao (zY .nil h rfl)
 · refine ab fun _ hK28=>aa (zc rfl (za rfl (zQ hK28 (zB rfl h (fun _ h=>?_) fun _ h=>?_))))
   · exact an (hK5 _ _ _ h rfl)
   · refine ab fun _ hK30=>aa (zc rfl (za rfl (zQ hK30 (zB rfl h (fun _ h=>?_) fun _ h=>?_))))
     · exact an (hK5 _ _ _ h rfl)
     · exact aa (zc rfl (za rfl (ao (hK5 _ _ _ h rfl))))
def jq (n:Nat) (p0:ai) (p1:aR) (p2:ak):ay (ak):=
 jn (fun (v2:ak)=>ay.bind (iJ n p0 v2) fun y6=>ay.bind (iK n p0 y6) fun y8=>jn (fun (v9:Bool)=>jn (fun (v12:ak)=>jn (fun (v15:ak)=>jn (fun (v18:ak)=>jn (fun (v21:ak)=>br p1.kZ (br (!p1.kZ) (ay.bind (aA n [true,true] v21) fun y26=>.ok (y26)) (ay.bind (aA n [true,(p0.Kind !=22)] v21) fun y27=>.ok (y27))) (br (!p1.kZ) (ay.bind (aA n [(p0.Kind !=13),true] v21) fun y29=>.ok (y29)) (ay.bind (aA n [(p0.Kind !=13),(p0.Kind !=22)] v21) fun y30=>.ok (y30)))) fun j22=>br p1.Dr (br p1.ux (ay.bind (aA n [true,true] v18) fun y33=>j22 (y33)) (ay.bind (aA n [true,(p0.Kind !=15)] v18) fun y34=>j22 (y34))) (br p1.ux (ay.bind (aA n [(p0.Kind !=18),true] v18) fun y36=>j22 (y36)) (ay.bind (aA n [(p0.Kind !=18),(p0.Kind !=15)] v18) fun y37=>j22 (y37)))) fun j19=>br (p0.Kind==15) (ay.bind (kx n (fS.mk p0.bk p0.bt)) fun y40=>ay.bind (aA n [y40] v15) fun y41=>j19 (y41)) (ay.bind (mc (fS.mk p0.bk p0.bt)) fun y42=>ay.bind (aA n [y42] v15) fun y43=>j19 (y43))) fun j16=>br (p0.Kind==10) (ay.bind (fJ n p0 v12) fun y48=>.ok (y48)) (jn (fun (v49:Bool)=>br v49 (br (p0.jD==0) (ay.bind (aA n [true] v12) fun y54=>j16 (y54)) (ay.bind (aA n [(p0.jD==1)] v12) fun y55=>j16 (y55))) (br (p0.Kind==3) (ay.bind (kO p0.jD) fun y58=>ay.bind (aA n [(decide (p0.jD≥0)),y58] v12) fun y59=>j16 (y59)) (ay.bind (aA n [(p0.jD==0)] v12) fun y60=>j16 (y60)))) fun j50=>br (p0.Kind==2) (j50 ((p0.Kind==2))) (j50 ((p0.Kind==14))))) fun j13=>br v9 (ay.bind (fI n p0.b3) fun y64=>ay.bind (aA n [true,y64] y8) fun y65=>j13 (y65)) (gd (aD ((List.length p0.Decls:Int)+(List.length p0.b3:Int))) (ay.bind (fI n p0.b3) fun y67=>ay.bind (aA n [(((List.length p0.Decls:Int)+(List.length p0.b3:Int))==0),y67] y8) fun y68=>j13 (y68)))) fun j10=>br (p0.Kind==13) (j10 (true)) (j10 ((p0.Kind==22)))) fun j3=>br (decide (p0.Kind≥1)) (ay.bind (aA n [(decide (p0.Kind≤22))] p2) fun y71=>j3 (y71)) (ay.bind (aA n [false] p2) fun y72=>j3 (y72))
theorem qV (n:Nat) (p0:ai) (p1:aR) (p2:ak):CT Tryz.prog 120 [.ptr 0 0,.agg (aV p0),.agg (bC p1)] [.box (aF p2)] (jq n p0 p1 p2) (fun _=>.eT []) (fun x=>[.box (aF x)]):=by
 refine zC Tryz.func120 rfl fun r hp h hr E hE=>ab fun _ hK1=>aa (cM 104 (hE _ rfl) ⟨rfl,rfl,rfl,rfl,rfl,rfl,rfl⟩ rfl ?_)
 refine cM 105 (hE _ rfl) ⟨rfl,rfl,rfl,rfl,rfl,rfl,rfl⟩ rfl ?_
 refine zQ hK1 (zM h (fun (v2:ak)=>[(0,.ptr 0 0),(1,.agg (aV p0)),(2,.agg (bC p1)),(4,.ptr 104 0),(5,.ptr 105 0)]) (fun (v2:ak)=>[(0,.box (aF v2)),(104,.box (aV p0)),(105,.box (bC p1))]) (fun v2 h=>?_) fun _ _ hK4 h=>?_)
 · refine ab fun _ hK5=>aa (zm rfl (zA rfl ?_))
   refine zk hp hr h [0] Tryz.call175 (qd n p0 v2) rfl (fun _=>rfl) fun y6 h=>zQ hK5 (ab fun _ hK7=>aa (zm rfl (zA rfl ?_)))
   refine zk hp hr h [0] Tryz.call176 (qe n p0 y6) rfl (fun _=>rfl) fun y8 h=>zQ hK7 (zM h (fun (v9:Bool)=>[(0,.ptr 0 0),(1,.agg (aV p0)),(2,.agg (bC p1)),(4,.ptr 104 0),(5,.ptr 105 0),(6,Bo v9)]) (fun (v9:Bool)=>[(0,.box (aF y8)),(104,.box (aV p0)),(105,.box (bC p1))]) (fun v9 h=>?_) fun _ _ hK11 h=>?_)
   · refine zM h (fun (v12:ak)=>[(0,.ptr 0 0),(1,.agg (aV p0)),(2,.agg (bC p1)),(4,.ptr 104 0),(5,.ptr 105 0)]) (fun (v12:ak)=>[(0,.box (aF v12)),(104,.box (aV p0)),(105,.box (bC p1))]) (fun v12 h=>?_) fun _ _ hK14 h=>?_
     · refine zM h (fun (v15:ak)=>[(0,.ptr 0 0),(1,.agg (aV p0)),(2,.agg (bC p1)),(4,.ptr 104 0),(5,.ptr 105 0)]) (fun (v15:ak)=>[(0,.box (aF v15)),(104,.box (aV p0)),(105,.box (bC p1))]) (fun v15 h=>?_) fun _ _ hK17 h=>?_
       · refine zM h (fun (v18:ak)=>[(0,.ptr 0 0),(1,.agg (aV p0)),(2,.agg (bC p1)),(4,.ptr 104 0),(5,.ptr 105 0)]) (fun (v18:ak)=>[(0,.box (aF v18)),(104,.box (aV p0)),(105,.box (bC p1))]) (fun v18 h=>?_) fun _ _ hK20 h=>?_
         · refine zM h (fun (v21:ak)=>[(0,.ptr 0 0),(1,.agg (aV p0)),(2,.agg (bC p1)),(4,.ptr 104 0),(5,.ptr 105 0)]) (fun (v21:ak)=>[(0,.box (aF v21)),(104,.box (aV p0)),(105,.box (bC p1))]) (fun v21 h=>?_) fun _ _ hK23 h=>?_
           · refine aa (zm rfl (zf rfl (zl rfl (zm rfl (zb p1.kZ (fun hb24=>?_) fun hb24=>?_)))))
             · refine z1 hb24 h fun h=>zg hb24 rfl (zg hb24 rfl (zg hb24 rfl (zy hb24 rfl (zf rfl (zl rfl (al (du rfl) rfl (zm rfl (zb (!p1.kZ) (fun hb25=>?_) fun hb25=>?_))))))))
               · refine z1 hb25 h fun h=>zg hb25 rfl (zg hb25 rfl (zg hb25 rfl (zy hb25 rfl (bL [true,true] bw ⟨rfl,rfl⟩ rfl ?_))))
                 exact zk hp hr h [0] Tryz.call61 (az n [true,true] v21) rfl (fun _=>rfl) fun y26 h=>ao (zY .nil h rfl)
               · refine z2 hb25 h fun h=>zG hb25 rfl (bn rfl) (zG hb25 rfl (aX rfl rfl rfl) (zG hb25 rfl (bf rfl rfl rfl) (zw hb25 rfl (bL [true,(p0.Kind !=22)] bw ⟨rfl,rfl⟩ rfl ?_))))
                 exact zk hp hr h [0] Tryz.call61 (az n [true,(p0.Kind !=22)] v21) rfl (fun _=>rfl) fun y27 h=>ao (zY .nil h rfl)
             · refine z2 hb24 h fun h=>zG hb24 rfl (bn rfl) (zG hb24 rfl (aX rfl rfl rfl) (zG hb24 rfl (bf rfl rfl rfl) (zw hb24 rfl (zf rfl (zl rfl (al (du rfl) rfl (zm rfl (zb (!p1.kZ) (fun hb28=>?_) fun hb28=>?_))))))))
               · refine z1 hb28 h fun h=>zg hb28 rfl (zg hb28 rfl (zg hb28 rfl (zy hb28 rfl (bL [(p0.Kind !=13),true] bw ⟨rfl,rfl⟩ rfl ?_))))
                 exact zk hp hr h [0] Tryz.call61 (az n [(p0.Kind !=13),true] v21) rfl (fun _=>rfl) fun y29 h=>ao (zY .nil h rfl)
               · refine z2 hb28 h fun h=>zG hb28 rfl (bn rfl) (zG hb28 rfl (aX rfl rfl rfl) (zG hb28 rfl (bf rfl rfl rfl) (zw hb28 rfl (bL [(p0.Kind !=13),(p0.Kind !=22)] bw ⟨rfl,rfl⟩ rfl ?_))))
                 exact zk hp hr h [0] Tryz.call61 (az n [(p0.Kind !=13),(p0.Kind !=22)] v21) rfl (fun _=>rfl) fun y30 h=>ao (zY .nil h rfl)
           · refine aa (zm rfl (zf rfl (zl rfl (zm rfl (zb p1.Dr (fun hb31=>?_) fun hb31=>?_)))))
             · refine z1 hb31 h fun h=>zg hb31 rfl (zg hb31 rfl (zg hb31 rfl (zy hb31 rfl (zf rfl (zl rfl (zm rfl (zb p1.ux (fun hb32=>?_) fun hb32=>?_)))))))
               · refine z1 hb32 h fun h=>zg hb32 rfl (zg hb32 rfl (zg hb32 rfl (zy hb32 rfl (bL [true,true] bw ⟨rfl,rfl⟩ rfl ?_))))
                 exact zk hp hr h [0] Tryz.call61 (az n [true,true] v18) rfl (fun _=>rfl) fun y33 h=>ao (hK23 _ _ _ h rfl)
               · refine z2 hb32 h fun h=>zG hb32 rfl (bn rfl) (zG hb32 rfl (aX rfl rfl rfl) (zG hb32 rfl (bf rfl rfl rfl) (zw hb32 rfl (bL [true,(p0.Kind !=15)] bw ⟨rfl,rfl⟩ rfl ?_))))
                 exact zk hp hr h [0] Tryz.call61 (az n [true,(p0.Kind !=15)] v18) rfl (fun _=>rfl) fun y34 h=>ao (hK23 _ _ _ h rfl)
             · refine z2 hb31 h fun h=>zG hb31 rfl (bn rfl) (zG hb31 rfl (aX rfl rfl rfl) (zG hb31 rfl (bf rfl rfl rfl) (zw hb31 rfl (zf rfl (zl rfl (zm rfl (zb p1.ux (fun hb35=>?_) fun hb35=>?_)))))))
               · refine z1 hb35 h fun h=>zg hb35 rfl (zg hb35 rfl (zg hb35 rfl (zy hb35 rfl (bL [(p0.Kind !=18),true] bw ⟨rfl,rfl⟩ rfl ?_))))
                 exact zk hp hr h [0] Tryz.call61 (az n [(p0.Kind !=18),true] v18) rfl (fun _=>rfl) fun y36 h=>ao (hK23 _ _ _ h rfl)
               · refine z2 hb35 h fun h=>zG hb35 rfl (bn rfl) (zG hb35 rfl (aX rfl rfl rfl) (zG hb35 rfl (bf rfl rfl rfl) (zw hb35 rfl (bL [(p0.Kind !=18),(p0.Kind !=15)] bw ⟨rfl,rfl⟩ rfl ?_))))
                 exact zk hp hr h [0] Tryz.call61 (az n [(p0.Kind !=18),(p0.Kind !=15)] v18) rfl (fun _=>rfl) fun y37 h=>ao (hK23 _ _ _ h rfl)
         · refine ab fun _ hK38=>aa (zf rfl (zl rfl (zc rfl (zQ hK38 (zB rfl h (fun _ h=>?_) fun _ h=>?_)))))
           · refine aa (zm rfl (zf rfl (zA rfl ?_)))
             refine zk hp hr h [] Tryz.call164 (pT n (fS.mk p0.bk p0.bt)) rfl (fun _=>rfl) fun y40 h=>bL [y40] bw ⟨rfl,rfl⟩ rfl ?_
             exact zk hp hr h [0] Tryz.call61 (az n [y40] v15) rfl (fun _=>rfl) fun y41 h=>ao (hK20 _ _ _ h rfl)
           · refine aa (zm rfl (zf rfl (zA rfl ?_)))
             refine zk hp hr h [] Tryz.call165 (om (fS.mk p0.bk p0.bt)) rfl (fun _=>rfl) fun y42 h=>bL [y42] bw ⟨rfl,rfl⟩ rfl ?_
             exact zk hp hr h [0] Tryz.call61 (az n [y42] v15) rfl (fun _=>rfl) fun y43 h=>ao (hK20 _ _ _ h rfl)
       · refine ab fun _ hK44=>aa (zf rfl (zl rfl (zQ hK44 (aB (ab fun _ hK45=>aa (zc rfl (za rfl (zQ hK45 (zB rfl h (fun _ h=>?_) fun _ h=>?_)))))))))
         · refine ab fun _ hK47=>aa (zm rfl (zA rfl ?_))
           exact zk hp hr h [0] Tryz.call177 (nF n p0 v12) rfl (fun _=>rfl) fun y48 h=>zQ hK47 (ar (zX .nil h rfl))
         · refine zM h (fun (v49:Bool)=>[(0,.ptr 0 0),(1,.agg (aV p0)),(2,.agg (bC p1)),(4,.ptr 104 0),(5,.ptr 105 0),(50,I p0.Kind),(62,Bo v49)]) (fun (v49:Bool)=>[(0,.box (aF v12)),(104,.box (aV p0)),(105,.box (bC p1))]) (fun v49 h=>?_) fun _ _ hK51 h=>?_
           · refine zB rfl h (fun _ h=>?_) fun _ h=>?_
             · refine aa (zm rfl (zf rfl (zl rfl (zc rfl (zm rfl (zb (p0.jD==0) (fun hb53=>?_) fun hb53=>?_))))))
               · refine z1 hb53 h fun h=>zg hb53 rfl (zg hb53 rfl (zg hb53 rfl (zy hb53 rfl (bL [true] bw ⟨rfl,rfl⟩ rfl ?_))))
                 exact zk hp hr h [0] Tryz.call61 (az n [true] v12) rfl (fun _=>rfl) fun y54 h=>ao (hK17 _ _ _ h rfl)
               · refine z2 hb53 h fun h=>zG hb53 rfl (bn rfl) (zG hb53 rfl (aX rfl rfl rfl) (zG hb53 rfl (bf rfl rfl rfl) (zw hb53 rfl (bL [(p0.jD==1)] bw ⟨rfl,rfl⟩ rfl ?_))))
                 exact zk hp hr h [0] Tryz.call61 (az n [(p0.jD==1)] v12) rfl (fun _=>rfl) fun y55 h=>ao (hK17 _ _ _ h rfl)
             · refine ab fun _ hK56=>aa (zc rfl (za rfl (zQ hK56 (zB rfl h (fun _ h=>?_) fun _ h=>?_))))
               · refine bo [0,1,2,3,4,5,6,7,8] rfl (by kernel_rfl) (zD rfl (aq rfl) rfl (zD rfl (bn rfl) rfl (zD rfl (ei [.any,.any,I p0.jD,.any,.any,.any,.any,.any,.any] rfl rfl ⟨.inr rfl,.inr rfl,.inl rfl,.inr rfl,.inr rfl,.inr rfl,.inr rfl,.inr rfl,.inr rfl,trivial⟩ rfl) rfl (zD rfl (bf rfl rfl rfl) rfl (zD rfl (bn rfl) rfl (zD rfl (aX rfl rfl rfl) rfl (cS rfl (bF rfl) hr h [] Tryz.call141 (n8 p0.jD) ⟨rfl,rfl,rfl,rfl,rfl,rfl,trivial⟩ rfl rfl (fun _=>⟨rfl,rfl,rfl⟩) (fun _=>⟨rfl,rfl⟩) hp (fun y58 h=>⟨ch ⟨trivial,⟨trivial,⟨trivial,⟨⟨⟨_,rfl,be.ed ⟨.inr rfl,.inr rfl,.inl rfl,.inr rfl,.inr rfl,.inr rfl,.inr rfl,.inr rfl,.inr rfl,trivial⟩⟩,trivial⟩,⟨trivial,⟨trivial,trivial⟩⟩⟩⟩⟩⟩,?_⟩))))))))
                 refine gI [(decide (p0.jD≥0)),y58] bw rfl (bF rfl) ⟨rfl,rfl⟩ ⟨rfl,rfl⟩ ?_
                 refine cS rfl (bF rfl) hr h [0] Tryz.call61 (az n [(decide (p0.jD≥0)),y58] v12) ⟨rfl,rfl,rfl,rfl,rfl,rfl,trivial⟩ rfl rfl (fun _=>⟨rfl,rfl,rfl⟩) (fun _=>⟨rfl,rfl⟩) hp (fun y59 h=>⟨aJ rfl,?_⟩)
                 exact b4 (hK17 _ _ _ h rfl)
               · refine aa (zm rfl (zf rfl (zl rfl (zc rfl (bL [(p0.jD==0)] bw ⟨rfl,rfl⟩ rfl ?_)))))
                 exact zk hp hr h [0] Tryz.call61 (az n [(p0.jD==0)] v12) rfl (fun _=>rfl) fun y60 h=>ao (hK17 _ _ _ h rfl)
           · refine ab fun _ hK61=>aa (zc rfl (za rfl (zQ hK61 (zB rfl h (fun _ h=>?_) fun _ h=>?_))))
             · exact an (hK51 _ _ _ h rfl)
             · exact aa (zc rfl (za rfl (ao (hK51 _ _ _ h rfl))))
     · refine bo [0,1,2,3,4,5,6,7,8,9,10,11,12,13,14,15,16] rfl (by kernel_rfl) (zD rfl (aq rfl) rfl (zD rfl (aq rfl) rfl (zD rfl (aq rfl) rfl (zb v9 (fun hb63=>?_) fun hb63=>?_))))
       · refine z1 hb63 h fun h=>cl hb63 rfl ⟨rfl,rfl⟩ ⟨rfl,rfl⟩ ?_
         refine cl hb63 rfl ⟨rfl,rfl⟩ ⟨rfl,rfl⟩ ?_
         refine cl hb63 rfl ⟨rfl,rfl⟩ ⟨rfl,rfl⟩ ?_
         refine cl hb63 rfl ⟨rfl,rfl⟩ ⟨rfl,rfl⟩ ?_
         refine cl hb63 rfl ⟨rfl,rfl⟩ ⟨rfl,rfl⟩ ?_
         refine cl hb63 rfl ⟨rfl,rfl⟩ ⟨rfl,rfl⟩ ?_
         refine cl hb63 rfl ⟨rfl,rfl⟩ ⟨rfl,rfl⟩ ?_
         refine cl hb63 rfl ⟨rfl,rfl⟩ ⟨rfl,rfl⟩ ?_
         refine zD rfl (cx hb63 rfl rfl) rfl (zD rfl (bn rfl) rfl (zD rfl (aX rfl rfl rfl) rfl (cS rfl (bF rfl) hr h [] Tryz.call63 (gP n p0.b3) ⟨rfl,rfl,rfl,rfl,rfl,rfl,trivial⟩ rfl rfl (fun _=>⟨rfl,rfl,rfl⟩) (fun _=>⟨rfl,rfl⟩) hp (fun y64 h=>⟨aJ rfl,?_⟩))))
         refine gI [true,y64] bw rfl (bF rfl) ⟨rfl,rfl⟩ ⟨rfl,rfl⟩ ?_
         refine cS rfl (bF rfl) hr h [0] Tryz.call61 (az n [true,y64] y8) ⟨rfl,rfl,rfl,rfl,rfl,rfl,trivial⟩ rfl rfl (fun _=>⟨rfl,rfl,rfl⟩) (fun _=>⟨rfl,rfl⟩) hp (fun y65 h=>⟨aJ rfl,?_⟩)
         exact b4 (hK14 _ _ _ h rfl)
       · refine z2 hb63 h fun h=>cn hb63 rfl ⟨rfl,rfl⟩ (bn rfl) ⟨rfl,rfl,rfl⟩ ?_
         refine cn hb63 rfl ⟨rfl,rfl⟩ (ei [.any,.any,.any,.any,.any,.any,.pv (.sl (List.length p0.Decls) (ax.Cs p0.Decls)),.any,.any] rfl rfl ⟨.inr rfl,.inr rfl,.inr rfl,.inr rfl,.inr rfl,.inr rfl,.inl rfl,.inr rfl,.inr rfl,trivial⟩ rfl) ⟨rfl,rfl,rfl⟩ ?_
         refine cn hb63 rfl ⟨rfl,rfl⟩ (bQ rfl) ⟨rfl,rfl,rfl⟩ ?_
         refine cn hb63 rfl ⟨rfl,rfl⟩ (bn rfl) ⟨rfl,rfl,rfl⟩ ?_
         refine cn hb63 rfl ⟨rfl,rfl⟩ (ei [.any,.any,.any,.any,.any,.any,.any,.pv (.sl (List.length p0.b3) (bS p0.b3)),.any] rfl rfl ⟨.inr rfl,.inr rfl,.inr rfl,.inr rfl,.inr rfl,.inr rfl,.inr rfl,.inl rfl,.inr rfl,trivial⟩ rfl) ⟨rfl,rfl,rfl⟩ ?_
         refine cn hb63 rfl ⟨rfl,rfl⟩ (bQ rfl) ⟨rfl,rfl,rfl⟩ ?_
         refine zd hr h fun hg66 h=>cn hb63 rfl ⟨rfl,rfl⟩ (kV rfl rfl hg66) ⟨rfl,rfl,rfl⟩ ?_
         refine cn hb63 rfl ⟨rfl,rfl⟩ (bf rfl rfl rfl) ⟨rfl,rfl,rfl⟩ ?_
         refine zD rfl (ct hb63 rfl rfl) rfl (zD rfl (bn rfl) rfl (zD rfl (aX rfl rfl rfl) rfl (cS rfl (bF rfl) hr h [] Tryz.call63 (gP n p0.b3) ⟨rfl,rfl,rfl,rfl,rfl,rfl,trivial⟩ rfl rfl (fun _=>⟨rfl,rfl,rfl⟩) (fun _=>⟨rfl,rfl⟩) hp (fun y67 h=>⟨ch ⟨trivial,⟨trivial,⟨trivial,⟨trivial,⟨trivial,⟨trivial,⟨⟨⟨_,rfl,be.ed ⟨.inr rfl,.inr rfl,.inr rfl,.inr rfl,.inr rfl,.inr rfl,.inr rfl,.inl rfl,.inr rfl,trivial⟩⟩,trivial⟩,⟨trivial,⟨trivial,⟨⟨⟨_,rfl,be.ed ⟨.inr rfl,.inr rfl,.inr rfl,.inr rfl,.inr rfl,.inr rfl,.inl rfl,.inr rfl,.inr rfl,trivial⟩⟩,trivial⟩,⟨trivial,⟨trivial,⟨trivial,⟨trivial,trivial⟩⟩⟩⟩⟩⟩⟩⟩⟩⟩⟩⟩⟩⟩,?_⟩))))
         refine gI [(((List.length p0.Decls:Int)+(List.length p0.b3:Int))==0),y67] bw rfl (bF rfl) ⟨rfl,rfl⟩ ⟨rfl,rfl⟩ ?_
         refine cS rfl (bF rfl) hr h [0] Tryz.call61 (az n [(((List.length p0.Decls:Int)+(List.length p0.b3:Int))==0),y67] y8) ⟨rfl,rfl,rfl,rfl,rfl,rfl,trivial⟩ rfl rfl (fun _=>⟨rfl,rfl,rfl⟩) (fun _=>⟨rfl,rfl⟩) hp (fun y68 h=>⟨aJ rfl,?_⟩)
         exact b4 (hK14 _ _ _ h rfl)
   · refine aa (zf rfl (zl rfl (zc rfl (zm rfl (zb (p0.Kind==13) (fun hb69=>?_) fun hb69=>?_)))))
     · exact z1 hb69 h fun h=>zg hb69 rfl (zg hb69 rfl (zg hb69 rfl (zy hb69 rfl (za rfl (ao (hK11 _ _ _ h rfl))))))
     · exact z2 hb69 h fun h=>zG hb69 rfl (bn rfl) (zG hb69 rfl (aX rfl rfl rfl) (zG hb69 rfl (bf rfl rfl rfl) (zw hb69 rfl (za rfl (ao (hK11 _ _ _ h rfl))))))
 · refine aa (zm rfl (zf rfl (zl rfl (zc rfl (zm rfl (zb (decide (p0.Kind≥1)) (fun hb70=>?_) fun hb70=>?_))))))
   · refine z1 hb70 h fun h=>zG hb70 rfl (bn rfl) (zG hb70 rfl (aX rfl rfl rfl) (zG hb70 rfl (bf rfl rfl rfl) (zy hb70 rfl (bL [(decide (p0.Kind≤22))] bw ⟨rfl,rfl⟩ rfl ?_))))
     exact zk hp hr h [0] Tryz.call61 (az n [(decide (p0.Kind≤22))] p2) rfl (fun _=>rfl) fun y71 h=>ao (hK4 _ _ _ h rfl)
   · refine z2 hb70 h fun h=>zg hb70 rfl (zg hb70 rfl (zg hb70 rfl (zw hb70 rfl (bL [false] bw ⟨rfl,rfl⟩ rfl ?_))))
     exact zk hp hr h [0] Tryz.call61 (az n [false] p2) rfl (fun _=>rfl) fun y72 h=>ao (hK4 _ _ _ h rfl)
end Go.Abs
end
section
namespace Go.Abs
open Go.Proofs ay
structure dc where
 dX:ax→Bool→Int→ak→ay (ak)
 ck:(List ax)→Bool→Int→ak→ay (ak)
 aP:ai→aR→ak→ay (ak)
def gX (n:Nat) (T:dc) (p0:ax) (p1:Bool) (p2:Int) (p3:ak):ay (ak):=
 jn (fun (v2:ak)=>jn (fun (v5:Bool)=>jn (fun (v8:ak)=>jn (fun (v11:ak)=>jn (fun (v14:ak)=>jn (fun (v17:ak)=>jn (fun (v20:ak)=>jn (fun (v24:Int)=>ay.bind (aA n [((List.length p0.bc:Int)==v24)] v20) fun y28=>jn (fun (v29:Bool)=>iter (fun next35 (v34:ak×Int)=>br (decide (v34.2<(List.length p0.bc:Int))) (el p0.bc v34.2 fun x42=>br p1 (br v29 (ay.bind (T.aP x42 (aR.mk (v34.2==0) false false (IntKind.wrap .i64 (p2+1))) v34.1) fun y48=>gd (aD (v34.2+1)) (next35 (y48,v34.2+1))) (ay.bind (T.aP x42 (aR.mk false false false (IntKind.wrap .i64 (p2+1))) v34.1) fun y50=>gd (aD (v34.2+1)) (next35 (y50,v34.2+1)))) (ay.bind (T.aP x42 (aR.mk false false false (IntKind.wrap .i64 (p2+1))) v34.1) fun y52=>gd (aD (v34.2+1)) (next35 (y52,v34.2+1)))) (ay.bind (T.ck p0.Body false (IntKind.wrap .i64 (p2+1)) v34.1) fun y54=>.ok (y54))) n (y28,0)) fun j30=>br (p0.Kind==1) (j30 (true)) (br (p0.Kind==2) (j30 (true)) (br (p0.Kind==3) (j30 (true)) (j30 ((p0.Kind==4)))))) fun j25=>br (p0.Kind==7) (j25 (2)) (br (p0.Kind==8) (j25 (0)) (j25 (1)))) fun j21=>br (p0.Kind==6) (ay.bind (kx n (fS.mk p0.bk p0.bt)) fun y65=>ay.bind (aA n [y65] v17) fun y66=>j21 (y66)) (ay.bind (mc (fS.mk p0.bk p0.bt)) fun y67=>ay.bind (aA n [y67] v17) fun y68=>j21 (y68))) fun j18=>br (p0.Kind==1) (j18 (v14)) (br (p0.Kind==2) (ay.bind (lZ n p0.Label) fun y75=>ay.bind (aA n [(y75.2.Errno==0)] v14) fun y76=>j18 (y76)) (br (p0.Kind==4) (ay.bind (eO n p0.Label) fun y79=>ay.bind (aA n [p1,y79] v14) fun y80=>j18 (y80)) (br p1 (ay.bind (aA n [(p0.Label==([]:List UInt8)),true] v14) fun y82=>j18 (y82)) (ay.bind (aA n [(p0.Label==([]:List UInt8)),(p0.Kind !=8)] v14) fun y83=>j18 (y83)))))) fun j15=>br (p0.Kind==1) (br (decide (p0.cj≥1)) (ay.bind (aA n [(decide (p0.cj≤3))] v11) fun y88=>j15 (y88)) (ay.bind (aA n [false] v11) fun y89=>j15 (y89))) (ay.bind (aA n [(p0.cj==0)] v11) fun y90=>j15 (y90))) fun j12=>ay.bind (fI n p0.jG) fun y91=>ay.bind (fI n p0.b3) fun y92=>ay.bind (fI n [p0.Trail]) fun y93=>br v5 (ay.bind (aA n [y91,y92,y93,true] v8) fun y95=>j12 (y95)) (gd (aD ((List.length p0.Body:Int)+(List.length p0.b3:Int))) (ay.bind (aA n [y91,y92,y93,(((List.length p0.Body:Int)+(List.length p0.b3:Int))==0)] v8) fun y97=>j12 (y97)))) fun j9=>br (decide (p0.Kind≥1)) (ay.bind (aA n [(decide (p0.Kind≤8))] v2) fun y99=>j9 (y99)) (ay.bind (aA n [false] v2) fun y100=>j9 (y100))) fun j6=>br (p0.Kind==5) (j6 (true)) (j6 ((p0.Kind==6)))) fun j3=>br (decide (p2>16)) (j3 ((ak.mk p3.vH true))) (j3 (p3))
def gC (n:Nat) (T:dc) (p0:(List ax)) (p1:Bool) (p2:Int) (p3:ak):ay (ak):=
 iter (fun next3 (v2:ak×Int)=>br (decide (v2.2<(List.length p0:Int))) (el p0 v2.2 fun Dy=>ay.bind (T.dX Dy p1 p2 v2.1) fun y14=>gd (aD (v2.2+1)) (next3 (y14,v2.2+1))) (.ok (v2.1))) n (p3,0)
def gY (n:Nat) (T:dc) (p0:ai) (p1:aR) (p2:ak):ay (ak):=
 jn (fun (v2:ak)=>ay.bind (jq n p0 p1 v2) fun y6=>iter (fun next10 (v9:ak×Int)=>br (decide (v9.2<(List.length p0.bc:Int))) (jn (fun (v15:ak)=>gd (aD (v9.2+1)) (next10 (v15,v9.2+1))) fun j16=>el p0.bc v9.2 fun x20=>br (p0.Kind==16) (br p1.kZ (br (p0.Kind==14) (br (p0.jD==0) (ay.bind (T.aP x20 (aR.mk true (p0.Kind==17) true (IntKind.wrap .i64 (p1.level+1))) v9.1) fun y28=>j16 (y28)) (gd (aD (v9.2+1)) (ay.bind (T.aP x20 (aR.mk true (p0.Kind==17) (decide ((v9.2+1)<(List.length p0.bc:Int))) (IntKind.wrap .i64 (p1.level+1))) v9.1) fun y30=>j16 (y30)))) (ay.bind (T.aP x20 (aR.mk true (p0.Kind==17) false (IntKind.wrap .i64 (p1.level+1))) v9.1) fun y31=>j16 (y31))) (br (p0.Kind==14) (br (p0.jD==0) (ay.bind (T.aP x20 (aR.mk (p0.Kind==10) (p0.Kind==17) true (IntKind.wrap .i64 (p1.level+1))) v9.1) fun y34=>j16 (y34)) (gd (aD (v9.2+1)) (ay.bind (T.aP x20 (aR.mk (p0.Kind==10) (p0.Kind==17) (decide ((v9.2+1)<(List.length p0.bc:Int))) (IntKind.wrap .i64 (p1.level+1))) v9.1) fun y36=>j16 (y36)))) (ay.bind (T.aP x20 (aR.mk (p0.Kind==10) (p0.Kind==17) false (IntKind.wrap .i64 (p1.level+1))) v9.1) fun y37=>j16 (y37)))) (br (p0.Kind==14) (br (p0.jD==0) (ay.bind (T.aP x20 (aR.mk (p0.Kind==10) (p0.Kind==17) true (IntKind.wrap .i64 (p1.level+1))) v9.1) fun y40=>j16 (y40)) (gd (aD (v9.2+1)) (ay.bind (T.aP x20 (aR.mk (p0.Kind==10) (p0.Kind==17) (decide ((v9.2+1)<(List.length p0.bc:Int))) (IntKind.wrap .i64 (p1.level+1))) v9.1) fun y42=>j16 (y42)))) (ay.bind (T.aP x20 (aR.mk (p0.Kind==10) (p0.Kind==17) false (IntKind.wrap .i64 (p1.level+1))) v9.1) fun y43=>j16 (y43)))) (ay.bind (T.ck p0.Decls (p0.Kind==13) (IntKind.wrap .i64 (p1.level+1)) v9.1) fun y44=>.ok (y44))) n (y6,0)) fun j3=>br (decide (p1.level>16)) (j3 ((ak.mk p2.vH true))) (j3 (p2))
def bW:Nat→dc
 | 0=>⟨fun _ _ _ _=>.stuck,fun _ _ _ _=>.stuck,fun _ _ _=>.stuck⟩
 | n+1=>⟨gX n (bW n),gC n (bW n),gY n (bW n)⟩
def dX (n:Nat) (p0:ax) (p1:Bool) (p2:Int) (p3:ak):ay (ak):=(bW n).dX p0 p1 p2 p3
def ck (n:Nat) (p0:(List ax)) (p1:Bool) (p2:Int) (p3:ak):ay (ak):=(bW n).ck p0 p1 p2 p3
def aP (n:Nat) (p0:ai) (p1:aR) (p2:ak):ay (ak):=(bW n).aP p0 p1 p2
structure fv (T:dc):Prop where
 dX:∀ (p0:ax) (p1:Bool) (p2:Int) (p3:ak),CT Tryz.prog 113 [.ptr 0 0,.agg (cU p0),Bo p1,I p2] [.box (aF p3)] (T.dX p0 p1 p2 p3) (fun _=>.eT []) (fun x=>[.box (aF x)])
 ck:∀ (p0:(List ax)) (p1:Bool) (p2:Int) (p3:ak),CT Tryz.prog 64 [.ptr 0 0,.pv (.sl (List.length p0) (ax.Cs p0)),Bo p1,I p2] [.box (aF p3)] (T.ck p0 p1 p2 p3) (fun _=>.eT []) (fun x=>[.box (aF x)])
 aP:∀ (p0:ai) (p1:aR) (p2:ak),CT Tryz.prog 78 [.ptr 0 0,.agg (aV p0),.agg (bC p1)] [.box (aF p2)] (T.aP p0 p1 p2) (fun _=>.eT []) (fun x=>[.box (aF x)])
theorem pH (n:Nat) (T:dc) (hT:fv T) (p0:ax) (p1:Bool) (p2:Int) (p3:ak):CT Tryz.prog 113 [.ptr 0 0,.agg (cU p0),Bo p1,I p2] [.box (aF p3)] (gX n T p0 p1 p2 p3) (fun _=>.eT []) (fun x=>[.box (aF x)]):=by
 refine zC Tryz.func113 rfl fun r hp h hr E hE=>ab fun _ hK1=>aa (cM 105 (hE _ rfl) ⟨rfl,rfl,rfl,rfl,rfl,rfl,rfl⟩ rfl ?_)
 refine zQ hK1 (zM h (fun (v2:ak)=>[(0,.ptr 0 0),(1,.agg (cU p0)),(2,Bo p1),(3,I p2),(5,.ptr 105 0)]) (fun (v2:ak)=>[(0,.box (aF v2)),(105,.box (cU p0))]) (fun v2 h=>?_) fun _ _ hK4 h=>?_)
 · refine zM h (fun (v5:Bool)=>[(0,.ptr 0 0),(1,.agg (cU p0)),(2,Bo p1),(3,I p2),(5,.ptr 105 0),(8,Bo v5)]) (fun (v5:Bool)=>[(0,.box (aF v2)),(105,.box (cU p0))]) (fun v5 h=>?_) fun _ _ hK7 h=>?_
   · refine zM h (fun (v8:ak)=>[(0,.ptr 0 0),(1,.agg (cU p0)),(2,Bo p1),(3,I p2),(5,.ptr 105 0),(8,Bo v5)]) (fun (v8:ak)=>[(0,.box (aF v8)),(105,.box (cU p0))]) (fun v8 h=>?_) fun _ _ hK10 h=>?_
     · refine zM h (fun (v11:ak)=>[(0,.ptr 0 0),(1,.agg (cU p0)),(2,Bo p1),(3,I p2),(5,.ptr 105 0)]) (fun (v11:ak)=>[(0,.box (aF v11)),(105,.box (cU p0))]) (fun v11 h=>?_) fun _ _ hK13 h=>?_
       · refine zM h (fun (v14:ak)=>[(0,.ptr 0 0),(1,.agg (cU p0)),(2,Bo p1),(3,I p2),(5,.ptr 105 0)]) (fun (v14:ak)=>[(0,.box (aF v14)),(105,.box (cU p0))]) (fun v14 h=>?_) fun _ _ hK16 h=>?_
         · refine zM h (fun (v17:ak)=>[(0,.ptr 0 0),(1,.agg (cU p0)),(2,Bo p1),(3,I p2),(5,.ptr 105 0)]) (fun (v17:ak)=>[(0,.box (aF v17)),(105,.box (cU p0))]) (fun v17 h=>?_) fun _ _ hK19 h=>?_
           · refine zM h (fun (v20:ak)=>[(0,.ptr 0 0),(1,.agg (cU p0)),(2,Bo p1),(3,I p2),(5,.ptr 105 0)]) (fun (v20:ak)=>[(0,.box (aF v20)),(105,.box (cU p0))]) (fun v20 h=>?_) fun _ _ hK22 h=>?_
             · refine ab fun _ hK23=>aa (za rfl (zQ hK23 (zM h (fun (v24:Int)=>[(0,.ptr 0 0),(1,.agg (cU p0)),(2,Bo p1),(3,I p2),(5,.ptr 105 0),(11,I v24)]) (fun (v24:Int)=>[(0,.box (aF v20)),(105,.box (cU p0))]) (fun v24 h=>?_) fun _ _ hK26 h=>?_)))
               · refine ab fun _ hK27=>aa (zm rfl (zf rfl (zl rfl (al (bQ rfl) rfl (zm rfl (zc rfl (bL [((List.length p0.bc:Int)==v24)] bw ⟨rfl,rfl⟩ rfl ?_)))))))
                 refine zk hp hr h [0] Tryz.call61 (az n [((List.length p0.bc:Int)==v24)] v20) rfl (fun _=>rfl) fun y28 h=>zQ hK27 (zM h (fun (v29:Bool)=>[(0,.ptr 0 0),(1,.agg (cU p0)),(2,Bo p1),(3,I p2),(5,.ptr 105 0),(12,Bo v29)]) (fun (v29:Bool)=>[(0,.box (aF y28)),(105,.box (cU p0))]) (fun v29 h=>?_) fun _ _ hK31 h=>?_)
                 · refine ab fun _ hK32=>ab fun _ hK33=>aa (zf rfl (zl rfl (al (bQ rfl) rfl (zm rfl (zQ hK33 (aB (zL hr h (fun (v34:ak×Int)=>[(0,.ptr 0 0),(1,.agg (cU p0)),(2,Bo p1),(3,I p2),(5,.ptr 105 0),(12,Bo v29),(171,.pv (.sl (List.length p0.bc) (ai.Cs p0.bc))),(172,I (List.length p0.bc:Int)),(173,I v34.2)]) (fun (v34:ak×Int)=>[(0,.box (aF v34.1)),(105,.box (cU p0))]) rfl fun _ v34 _ hK36 h=>ab fun _ hK37=>aa (zc rfl (zQ hK37 (ab fun _ hK38=>zB rfl h (fun _ h=>?_) fun _ h=>?_))))))))))
                   · refine an (hK38 _ _ (ab fun _ hK40=>aB (ab fun _ hK41=>aa (zm rfl (ze hr h fun x42 h43 h44 h45 h=>al (eE ai.bb ai.bE h43 h44 h45 rfl rfl rfl) rfl (al (fi rfl rfl) rfl ?_))))))
                     refine aM 114 (hE _ rfl) ⟨rfl,rfl,rfl,rfl⟩ rfl ?_
                     refine za rfl (zs rfl (zQ hK41 (aa (zm rfl (zA rfl ?_)))))
                     refine zm rfl (zm rfl (zb p1 (fun hb46=>?_) fun hb46=>?_))
                     · refine z1 hb46 h fun h=>zG hb46 rfl (aq rfl) (zy hb46 rfl (zm rfl (zb v29 (fun hb47=>?_) fun hb47=>?_)))
                       · refine z1 hb47 h fun h=>zG hb47 rfl (aq rfl) (zG hb47 rfl (bf rfl rfl rfl) (zy hb47 rfl (zm rfl (al (iS rfl rfl) rfl (al (bA rfl rfl rfl) rfl ?_)))))
                         exact zk hp hr h [0] Tryz.call78 (hT.aP x42 (aR.mk (v34.2==0) false false (IntKind.wrap .i64 (p2+1))) v34.1) rfl (fun _=>rfl) fun y48 h=>zQ hK40 (aa (zd hr h fun hg49 h=>zo hg49 rfl (zm rfl (ao (hK36 _ _ _ h rfl)))))
                       · refine z2 hb47 h fun h=>zg hb47 rfl (zg hb47 rfl (zw hb47 rfl (zm rfl (al (iS rfl rfl) rfl (al (bA rfl rfl rfl) rfl ?_)))))
                         exact zk hp hr h [0] Tryz.call78 (hT.aP x42 (aR.mk false false false (IntKind.wrap .i64 (p2+1))) v34.1) rfl (fun _=>rfl) fun y50 h=>zQ hK40 (aa (zd hr h fun hg51 h=>zo hg51 rfl (zm rfl (ao (hK36 _ _ _ h rfl)))))
                     · refine z2 hb46 h fun h=>zg hb46 rfl (zw hb46 rfl (zm rfl (zg rfl rfl (zg rfl rfl (al (dj rfl rfl) rfl (zm rfl (al (iS rfl rfl) rfl (al (bA rfl rfl rfl) rfl ?_))))))))
                       exact zk hp hr h [0] Tryz.call78 (hT.aP x42 (aR.mk false false false (IntKind.wrap .i64 (p2+1))) v34.1) rfl (fun _=>rfl) fun y52 h=>zQ hK40 (aa (zd hr h fun hg53 h=>zo hg53 rfl (zm rfl (ao (hK36 _ _ _ h rfl)))))
                   · exact bh (hK32 _ _ (aa (zm rfl (zf rfl (zl rfl (zm rfl (al (iS rfl rfl) rfl (zk hp hr h [0] Tryz.call64 (hT.ck p0.Body false (IntKind.wrap .i64 (p2+1)) v34.1) rfl (fun _=>rfl) fun y54 h=>ao (zY .nil h rfl)))))))))
                 · refine aa (zf rfl (zl rfl (zc rfl (zm rfl (zb (p0.Kind==1) (fun hb55=>?_) fun hb55=>?_)))))
                   · exact z1 hb55 h fun h=>zg hb55 rfl (zg hb55 rfl (zg hb55 rfl (zy hb55 rfl (zm rfl (zg rfl rfl (zg rfl rfl (zg rfl rfl (zt rfl (zm rfl (zg rfl rfl (zg rfl rfl (zg rfl rfl (zt rfl (za rfl (ao (hK31 _ _ _ h rfl))))))))))))))))
                   · refine z2 hb55 h fun h=>zG hb55 rfl (bn rfl) (zG hb55 rfl (aX rfl rfl rfl) (zG hb55 rfl (bf rfl rfl rfl) (zw hb55 rfl (zm rfl (zb (p0.Kind==2) (fun hb56=>?_) fun hb56=>?_)))))
                     · exact z1 hb56 h fun h=>zg hb56 rfl (zg hb56 rfl (zg hb56 rfl (zy hb56 rfl (zm rfl (zg rfl rfl (zg rfl rfl (zg rfl rfl (zt rfl (za rfl (ao (hK31 _ _ _ h rfl)))))))))))
                     · refine z2 hb56 h fun h=>zG hb56 rfl (bn rfl) (zG hb56 rfl (aX rfl rfl rfl) (zG hb56 rfl (bf rfl rfl rfl) (zw hb56 rfl (zm rfl (zb (p0.Kind==3) (fun hb57=>?_) fun hb57=>?_)))))
                       · exact z1 hb57 h fun h=>zg hb57 rfl (zg hb57 rfl (zg hb57 rfl (zy hb57 rfl (za rfl (ao (hK31 _ _ _ h rfl))))))
                       · exact z2 hb57 h fun h=>zG hb57 rfl (bn rfl) (zG hb57 rfl (aX rfl rfl rfl) (zG hb57 rfl (bf rfl rfl rfl) (zw hb57 rfl (za rfl (ao (hK31 _ _ _ h rfl))))))
               · refine ab fun _ hK58=>aa (zf rfl (zl rfl (zQ hK58 (aB (ab fun _ hK59=>aa (zc rfl (za rfl (zQ hK59 (zB rfl h (fun _ h=>?_) fun _ h=>?_)))))))))
                 · exact aa (za rfl (ao (hK26 _ _ _ h rfl)))
                 · refine ab fun _ hK61=>aa (zc rfl (za rfl (zQ hK61 (zB rfl h (fun _ h=>?_) fun _ h=>?_))))
                   · exact aa (za rfl (ao (hK26 _ _ _ h rfl)))
                   · exact an (hK26 _ _ _ h rfl)
             · refine ab fun _ hK63=>aa (zf rfl (zl rfl (zc rfl (zQ hK63 (zB rfl h (fun _ h=>?_) fun _ h=>?_)))))
               · refine aa (zm rfl (zf rfl (zA rfl ?_)))
                 refine zk hp hr h [] Tryz.call164 (pT n (fS.mk p0.bk p0.bt)) rfl (fun _=>rfl) fun y65 h=>bL [y65] bw ⟨rfl,rfl⟩ rfl ?_
                 exact zk hp hr h [0] Tryz.call61 (az n [y65] v17) rfl (fun _=>rfl) fun y66 h=>ao (hK22 _ _ _ h rfl)
               · refine aa (zm rfl (zf rfl (zA rfl ?_)))
                 refine zk hp hr h [] Tryz.call165 (om (fS.mk p0.bk p0.bt)) rfl (fun _=>rfl) fun y67 h=>bL [y67] bw ⟨rfl,rfl⟩ rfl ?_
                 exact zk hp hr h [0] Tryz.call61 (az n [y67] v17) rfl (fun _=>rfl) fun y68 h=>ao (hK22 _ _ _ h rfl)
           · refine ab fun _ hK69=>aa (zf rfl (zl rfl (zQ hK69 (aB (ab fun _ hK70=>aa (zc rfl (za rfl (zQ hK70 (zB rfl h (fun _ h=>?_) fun _ h=>?_)))))))))
             · exact an (hK19 _ _ _ h rfl)
             · refine ab fun _ hK72=>aa (zc rfl (za rfl (zQ hK72 (zB rfl h (fun _ h=>?_) fun _ h=>?_))))
               · refine ab fun _ hK74=>aa (zf rfl (zl rfl (zk hp hr h [] Tryz.call163 (rL n p0.Label) rfl (fun _=>rfl) fun y75 h=>zm rfl (zx rfl (zx rfl (aM 109 (hE _ rfl) ⟨rfl,rfl,rfl,rfl⟩ rfl ?_))))))
                 refine aM 110 (hE _ rfl) ⟨rfl,rfl,rfl,rfl⟩ rfl ?_
                 refine zs rfl (zs rfl (zQ hK74 (aa (zm rfl (zf rfl (zl rfl (zc rfl (bL [(y75.2.Errno==0)] bw ⟨rfl,rfl⟩ rfl ?_))))))))
                 exact zk hp hr h [0] Tryz.call61 (az n [(y75.2.Errno==0)] v14) rfl (fun _=>rfl) fun y76 h=>ao (hK19 _ _ _ h rfl)
               · refine ab fun _ hK77=>aa (zc rfl (za rfl (zQ hK77 (zB rfl h (fun _ h=>?_) fun _ h=>?_))))
                 · refine aa (zm rfl (zm rfl (zf rfl (zl rfl (zk hp hr h [] Tryz.call62 (eY n p0.Label) rfl (fun _=>rfl) fun y79 h=>bL [p1,y79] bw ⟨rfl,rfl⟩ rfl ?_)))))
                   exact zk hp hr h [0] Tryz.call61 (az n [p1,y79] v14) rfl (fun _=>rfl) fun y80 h=>ao (hK19 _ _ _ h rfl)
                 · refine aa (zm rfl (zf rfl (zl rfl (al (iQ rfl rfl) rfl (zm rfl (zm rfl (zb p1 (fun hb81=>?_) fun hb81=>?_)))))))
                   · refine z1 hb81 h fun h=>zg hb81 rfl (zg hb81 rfl (zg hb81 rfl (zy hb81 rfl (bL [(p0.Label==([]:List UInt8)),true] bw ⟨rfl,rfl⟩ rfl ?_))))
                     exact zk hp hr h [0] Tryz.call61 (az n [(p0.Label==([]:List UInt8)),true] v14) rfl (fun _=>rfl) fun y82 h=>ao (hK19 _ _ _ h rfl)
                   · refine z2 hb81 h fun h=>zG hb81 rfl (bn rfl) (zG hb81 rfl (aX rfl rfl rfl) (zG hb81 rfl (bf rfl rfl rfl) (zw hb81 rfl (bL [(p0.Label==([]:List UInt8)),(p0.Kind !=8)] bw ⟨rfl,rfl⟩ rfl ?_))))
                     exact zk hp hr h [0] Tryz.call61 (az n [(p0.Label==([]:List UInt8)),(p0.Kind !=8)] v14) rfl (fun _=>rfl) fun y83 h=>ao (hK19 _ _ _ h rfl)
         · refine ab fun _ hK84=>aa (zf rfl (zl rfl (zQ hK84 (aB (ab fun _ hK85=>aa (zc rfl (za rfl (zQ hK85 (zB rfl h (fun _ h=>?_) fun _ h=>?_)))))))))
           · refine aa (zm rfl (zf rfl (zl rfl (zc rfl (zm rfl (zb (decide (p0.cj≥1)) (fun hb87=>?_) fun hb87=>?_))))))
             · refine z1 hb87 h fun h=>zG hb87 rfl (bn rfl) (zG hb87 rfl (aX rfl rfl rfl) (zG hb87 rfl (bf rfl rfl rfl) (zy hb87 rfl (bL [(decide (p0.cj≤3))] bw ⟨rfl,rfl⟩ rfl ?_))))
               exact zk hp hr h [0] Tryz.call61 (az n [(decide (p0.cj≤3))] v11) rfl (fun _=>rfl) fun y88 h=>ao (hK16 _ _ _ h rfl)
             · refine z2 hb87 h fun h=>zg hb87 rfl (zg hb87 rfl (zg hb87 rfl (zw hb87 rfl (bL [false] bw ⟨rfl,rfl⟩ rfl ?_))))
               exact zk hp hr h [0] Tryz.call61 (az n [false] v11) rfl (fun _=>rfl) fun y89 h=>ao (hK16 _ _ _ h rfl)
           · refine aa (zm rfl (zf rfl (zl rfl (zc rfl (bL [(p0.cj==0)] bw ⟨rfl,rfl⟩ rfl ?_)))))
             exact zk hp hr h [0] Tryz.call61 (az n [(p0.cj==0)] v11) rfl (fun _=>rfl) fun y90 h=>ao (hK16 _ _ _ h rfl)
       · refine bo [0,1,2,4,5,7,8,9,11,3,6,10,12,13,14,15,16,17,18,19,20,21,22,23] rfl (by kernel_rfl) (zD rfl (aq rfl) rfl (zD rfl (bn rfl) rfl (zD rfl (aX rfl rfl rfl) rfl (zD rfl (bn rfl) rfl (zD rfl (ei [.any,.any,.any,.any,.any,.any,.any,.pv (.sl (List.length p0.b3) (bS p0.b3)),.any,.any,.any] rfl rfl ⟨.inr rfl,.inr rfl,.inr rfl,.inr rfl,.inr rfl,.inr rfl,.inr rfl,.inl rfl,.inr rfl,.inr rfl,.inr rfl,trivial⟩ rfl) rfl (zD rfl (bn rfl) rfl (zD rfl (ei [.any,.any,.any,.any,.any,.any,.any,.any,.any,bd p0.Trail,.any] rfl rfl ⟨.inr rfl,.inr rfl,.inr rfl,.inr rfl,.inr rfl,.inr rfl,.inr rfl,.inr rfl,.inr rfl,.inl rfl,.inr rfl,trivial⟩ rfl) rfl (gI [p0.Trail] ej rfl (bF rfl) ⟨rfl,rfl⟩ ⟨rfl,rfl⟩ ?_))))))))
         refine zD rfl (aq rfl) rfl (cS rfl (bF rfl) hr h [] Tryz.call63 (gP n p0.jG) ⟨rfl,rfl,rfl,rfl,rfl,rfl,trivial⟩ rfl rfl (fun _=>⟨rfl,rfl,rfl⟩) (fun _=>⟨rfl,rfl⟩) hp (fun y91 h=>⟨ch ⟨trivial,⟨trivial,⟨⟨⟨_,rfl,be.ed ⟨.inr rfl,.inr rfl,.inr rfl,.inr rfl,.inr rfl,.inr rfl,.inr rfl,.inr rfl,.inr rfl,.inl rfl,.inr rfl,trivial⟩⟩,trivial⟩,⟨trivial,⟨⟨⟨_,rfl,be.ed ⟨.inr rfl,.inr rfl,.inr rfl,.inr rfl,.inr rfl,.inr rfl,.inr rfl,.inl rfl,.inr rfl,.inr rfl,.inr rfl,trivial⟩⟩,trivial⟩,⟨trivial,⟨trivial,⟨trivial,⟨trivial,trivial⟩⟩⟩⟩⟩⟩⟩⟩⟩,?_⟩))
         refine cS rfl (bF rfl) hr h [] Tryz.call63 (gP n p0.b3) ⟨rfl,rfl,rfl,rfl,rfl,rfl,trivial⟩ rfl rfl (fun _=>⟨rfl,rfl,rfl⟩) (fun _=>⟨rfl,rfl⟩) hp (fun y92 h=>⟨ch ⟨trivial,⟨trivial,⟨⟨⟨_,rfl,be.ed ⟨.inr rfl,.inr rfl,.inr rfl,.inr rfl,.inr rfl,.inr rfl,.inr rfl,.inr rfl,.inr rfl,.inl rfl,.inr rfl,trivial⟩⟩,trivial⟩,⟨trivial,⟨trivial,⟨trivial,⟨trivial,⟨trivial,⟨trivial,trivial⟩⟩⟩⟩⟩⟩⟩⟩⟩,?_⟩)
         refine cS rfl (bF rfl) hr h [] Tryz.call63 (gP n [p0.Trail]) ⟨rfl,rfl,rfl,rfl,rfl,rfl,trivial⟩ rfl rfl (fun _=>⟨rfl,rfl,rfl⟩) (fun _=>⟨rfl,rfl⟩) hp (fun y93 h=>⟨aJ rfl,?_⟩)
         refine zD rfl (aq rfl) rfl (zb v5 (fun hb94=>?_) fun hb94=>?_)
         · refine z1 hb94 h fun h=>cl hb94 rfl ⟨rfl,rfl⟩ ⟨rfl,rfl⟩ ?_
           refine cl hb94 rfl ⟨rfl,rfl⟩ ⟨rfl,rfl⟩ ?_
           refine cl hb94 rfl ⟨rfl,rfl⟩ ⟨rfl,rfl⟩ ?_
           refine cl hb94 rfl ⟨rfl,rfl⟩ ⟨rfl,rfl⟩ ?_
           refine cl hb94 rfl ⟨rfl,rfl⟩ ⟨rfl,rfl⟩ ?_
           refine cl hb94 rfl ⟨rfl,rfl⟩ ⟨rfl,rfl⟩ ?_
           refine cl hb94 rfl ⟨rfl,rfl⟩ ⟨rfl,rfl⟩ ?_
           refine cl hb94 rfl ⟨rfl,rfl⟩ ⟨rfl,rfl⟩ ?_
           refine zD rfl (cx hb94 rfl rfl) rfl (gI [y91,y92,y93,true] bw rfl (bF rfl) ⟨rfl,rfl⟩ ⟨rfl,rfl⟩ ?_)
           refine cS rfl (bF rfl) hr h [0] Tryz.call61 (az n [y91,y92,y93,true] v8) ⟨rfl,rfl,rfl,rfl,rfl,rfl,trivial⟩ rfl rfl (fun _=>⟨rfl,rfl,rfl⟩) (fun _=>⟨rfl,rfl⟩) hp (fun y95 h=>⟨aJ rfl,?_⟩)
           exact b4 (hK13 _ _ _ h rfl)
         · refine z2 hb94 h fun h=>cn hb94 rfl ⟨rfl,rfl⟩ (bn rfl) ⟨rfl,rfl,rfl⟩ ?_
           refine cn hb94 rfl ⟨rfl,rfl⟩ (aX rfl rfl rfl) ⟨rfl,rfl,rfl⟩ ?_
           refine cn hb94 rfl ⟨rfl,rfl⟩ (bQ rfl) ⟨rfl,rfl,rfl⟩ ?_
           refine cn hb94 rfl ⟨rfl,rfl⟩ (bn rfl) ⟨rfl,rfl,rfl⟩ ?_
           refine cn hb94 rfl ⟨rfl,rfl⟩ (aX rfl rfl rfl) ⟨rfl,rfl,rfl⟩ ?_
           refine cn hb94 rfl ⟨rfl,rfl⟩ (bQ rfl) ⟨rfl,rfl,rfl⟩ ?_
           refine zd hr h fun hg96 h=>cn hb94 rfl ⟨rfl,rfl⟩ (kV rfl rfl hg96) ⟨rfl,rfl,rfl⟩ ?_
           refine cn hb94 rfl ⟨rfl,rfl⟩ (bf rfl rfl rfl) ⟨rfl,rfl,rfl⟩ ?_
           refine zD rfl (ct hb94 rfl rfl) rfl (gI [y91,y92,y93,(((List.length p0.Body:Int)+(List.length p0.b3:Int))==0)] bw rfl (bF rfl) ⟨rfl,rfl⟩ ⟨rfl,rfl⟩ ?_)
           refine cS rfl (bF rfl) hr h [0] Tryz.call61 (az n [y91,y92,y93,(((List.length p0.Body:Int)+(List.length p0.b3:Int))==0)] v8) ⟨rfl,rfl,rfl,rfl,rfl,rfl,trivial⟩ rfl rfl (fun _=>⟨rfl,rfl,rfl⟩) (fun _=>⟨rfl,rfl⟩) hp (fun y97 h=>⟨aJ rfl,?_⟩)
           exact b4 (hK13 _ _ _ h rfl)
     · refine aa (zm rfl (zf rfl (zl rfl (zc rfl (zm rfl (zb (decide (p0.Kind≥1)) (fun hb98=>?_) fun hb98=>?_))))))
       · refine z1 hb98 h fun h=>zG hb98 rfl (bn rfl) (zG hb98 rfl (aX rfl rfl rfl) (zG hb98 rfl (bf rfl rfl rfl) (zy hb98 rfl (bL [(decide (p0.Kind≤8))] bw ⟨rfl,rfl⟩ rfl ?_))))
         exact zk hp hr h [0] Tryz.call61 (az n [(decide (p0.Kind≤8))] v2) rfl (fun _=>rfl) fun y99 h=>ao (hK10 _ _ _ h rfl)
       · refine z2 hb98 h fun h=>zg hb98 rfl (zg hb98 rfl (zg hb98 rfl (zw hb98 rfl (bL [false] bw ⟨rfl,rfl⟩ rfl ?_))))
         exact zk hp hr h [0] Tryz.call61 (az n [false] v2) rfl (fun _=>rfl) fun y100 h=>ao (hK10 _ _ _ h rfl)
   · refine aa (zf rfl (zl rfl (zc rfl (zm rfl (zb (p0.Kind==5) (fun hb101=>?_) fun hb101=>?_)))))
     · exact z1 hb101 h fun h=>zg hb101 rfl (zg hb101 rfl (zg hb101 rfl (zy hb101 rfl (za rfl (ao (hK7 _ _ _ h rfl))))))
     · exact z2 hb101 h fun h=>zG hb101 rfl (bn rfl) (zG hb101 rfl (aX rfl rfl rfl) (zG hb101 rfl (bf rfl rfl rfl) (zw hb101 rfl (za rfl (ao (hK7 _ _ _ h rfl))))))
 · refine ab fun _ hK102=>aa (zm rfl (zc rfl (zQ hK102 (zB rfl h (fun _ h=>?_) fun _ h=>?_))))
   · exact aa (zm rfl (zn rfl (zf rfl (zs rfl (ao (hK4 _ _ _ h rfl))))))
   · exact an (hK4 _ _ _ h rfl)
theorem oW (n:Nat) (T:dc) (hT:fv T) (p0:(List ax)) (p1:Bool) (p2:Int) (p3:ak):CT Tryz.prog 64 [.ptr 0 0,.pv (.sl (List.length p0) (ax.Cs p0)),Bo p1,I p2] [.box (aF p3)] (gC n T p0 p1 p2 p3) (fun _=>.eT []) (fun x=>[.box (aF x)]):=by
 refine zC Tryz.func64 rfl fun r hp h hr E hE=>ab fun _ hK1=>aa (zm rfl (al (bQ rfl) rfl (zm rfl (zQ hK1 (aB (zL hr h (fun (v2:ak×Int)=>[(0,.ptr 0 0),(1,.pv (.sl (List.length p0) (ax.Cs p0))),(2,Bo p1),(3,I p2),(10,.pv (.sl (List.length p0) (ax.Cs p0))),(11,I (List.length p0:Int)),(12,I v2.2)]) (fun (v2:ak×Int)=>[(0,.box (aF v2.1))]) rfl fun _ v2 _ hK4 h=>ab fun _ hK5=>aa (zc rfl (zQ hK5 (ab fun _ hK6=>zB rfl h (fun _ h=>?_) fun _ h=>?_)))))))))
 · refine an (hK6 _ _ (ab fun _ hK8=>aB (ab fun _ hK9=>aa (ze hr h fun Dy h11 h12 h13 h=>al (eE ax.bb ax.bE h11 h12 h13 rfl rfl rfl) rfl (al (fi rfl rfl) rfl ?_)))))
   refine aM 109 (hE _ rfl) ⟨rfl,rfl,rfl,rfl⟩ rfl ?_
   refine zs rfl (zQ hK9 (aa (zm rfl (zA rfl ?_))))
   exact zm rfl (zm rfl (zk hp hr h [0] Tryz.call113 (hT.dX Dy p1 p2 v2.1) rfl (fun _=>rfl) fun y14 h=>zQ hK8 (aa (zd hr h fun hg15 h=>zo hg15 rfl (zm rfl (ao (hK4 _ _ _ h rfl)))))))
 · exact bh (zY .nil h rfl)
theorem pI (n:Nat) (T:dc) (hT:fv T) (p0:ai) (p1:aR) (p2:ak):CT Tryz.prog 78 [.ptr 0 0,.agg (aV p0),.agg (bC p1)] [.box (aF p2)] (gY n T p0 p1 p2) (fun _=>.eT []) (fun x=>[.box (aF x)]):=by
 refine zC Tryz.func78 rfl fun r hp h hr E hE=>ab fun _ hK1=>aa (cM 104 (hE _ rfl) ⟨rfl,rfl,rfl,rfl,rfl,rfl,rfl⟩ rfl ?_)
 refine cM 105 (hE _ rfl) ⟨rfl,rfl,rfl,rfl,rfl,rfl,rfl⟩ rfl ?_
 refine zQ hK1 (zM h (fun (v2:ak)=>[(0,.ptr 0 0),(1,.agg (aV p0)),(2,.agg (bC p1)),(4,.ptr 104 0),(5,.ptr 105 0)]) (fun (v2:ak)=>[(0,.box (aF v2)),(104,.box (aV p0)),(105,.box (bC p1))]) (fun v2 h=>?_) fun _ _ hK4 h=>?_)
 · refine ab fun _ hK5=>aa (zm rfl (zA rfl ?_))
   refine zA rfl ?_
   refine zk hp hr h [0] Tryz.call120 (qV n p0 p1 v2) rfl (fun _=>rfl) fun y6 h=>zQ hK5 (ab fun _ hK7=>ab fun _ hK8=>aa (zf rfl (zl rfl (al (bQ rfl) rfl (zm rfl (zQ hK8 (aB (zL hr h (fun (v9:ak×Int)=>[(0,.ptr 0 0),(1,.agg (aV p0)),(2,.agg (bC p1)),(4,.ptr 104 0),(5,.ptr 105 0),(19,.pv (.sl (List.length p0.bc) (ai.Cs p0.bc))),(20,I (List.length p0.bc:Int)),(21,I v9.2)]) (fun (v9:ak×Int)=>[(0,.box (aF v9.1)),(104,.box (aV p0)),(105,.box (bC p1))]) rfl fun _ v9 _ hK11 h=>ab fun _ hK12=>aa (zc rfl (zQ hK12 (ab fun _ hK13=>zB rfl h (fun _ h=>?_) fun _ h=>?_)))))))))))
   · refine an (hK13 _ _ (zM h (fun (v15:ak)=>[(0,.ptr 0 0),(1,.agg (aV p0)),(2,.agg (bC p1)),(4,.ptr 104 0),(5,.ptr 105 0),(19,.pv (.sl (List.length p0.bc) (ai.Cs p0.bc))),(20,I (List.length p0.bc:Int)),(21,I v9.2)]) (fun (v15:ak)=>[(0,.box (aF v15)),(104,.box (aV p0)),(105,.box (bC p1))]) (fun v15 h=>?_) fun _ _ hK17 h=>?_))
     · exact aa (zd hr h fun hg18 h=>zo hg18 rfl (zm rfl (ao (hK11 _ _ _ h rfl))))
     · refine aB (ab fun _ hK19=>aa (zm rfl (ze hr h fun x20 h21 h22 h23 h=>al (eE ai.bb ai.bE h21 h22 h23 rfl rfl rfl) rfl (al (fi rfl rfl) rfl ?_))))
       refine aM 107 (hE _ rfl) ⟨rfl,rfl,rfl,rfl⟩ rfl ?_
       refine za rfl (zs rfl (zQ hK19 (aa (zm rfl (zA rfl ?_)))))
       refine zf rfl (zl rfl (zc rfl (zm rfl (zb (p0.Kind==16) (fun hb24=>?_) fun hb24=>?_))))
       · refine z1 hb24 h fun h=>zG hb24 rfl (bn rfl) (zG hb24 rfl (aX rfl rfl rfl) (zy hb24 rfl (zm rfl (zb p1.kZ (fun hb25=>?_) fun hb25=>?_))))
         · refine z1 hb25 h fun h=>zg hb25 rfl (zg hb25 rfl (zg hb25 rfl (zy hb25 rfl (zf rfl (zl rfl (zc rfl (zf rfl (zl rfl (zc rfl (zm rfl (zb (p0.Kind==14) (fun hb26=>?_) fun hb26=>?_)))))))))))
           · refine z1 hb26 h fun h=>zG hb26 rfl (bn rfl) (zG hb26 rfl (aX rfl rfl rfl) (zG hb26 rfl (bf rfl rfl rfl) (zG hb26 rfl (aq rfl) (zb (p0.jD==0) (fun hb27=>?_) fun hb27=>?_))))
             · refine z1 hb27 h fun h=>zg hb27 rfl (zg hb27 rfl (zg hb27 rfl (zg hb27 rfl (zg hb27 rfl (zg hb27 rfl (zG hb26 rfl (cx hb27 rfl rfl) (zy hb26 rfl (zf rfl (zl rfl (al (iS rfl rfl) rfl (al (bA rfl rfl rfl) rfl ?_)))))))))))
               exact zk hp hr h [0] Tryz.call78 (hT.aP x20 (aR.mk true (p0.Kind==17) true (IntKind.wrap .i64 (p1.level+1))) v9.1) rfl (fun _=>rfl) fun y28 h=>ao (hK17 _ _ _ h rfl)
             · refine z2 hb27 h fun h=>zG hb27 rfl (aq rfl) (zd hr h fun hg29 h=>zG hb27 rfl (kV rfl rfl hg29) (zG hb27 rfl (bn rfl) (zG hb27 rfl (aX rfl rfl rfl) (zG hb27 rfl (bQ rfl) (zG hb27 rfl (bf rfl rfl rfl) (zG hb26 rfl (ct hb27 rfl rfl) (zy hb26 rfl (zf rfl (zl rfl (al (iS rfl rfl) rfl (al (bA rfl rfl rfl) rfl ?_)))))))))))
               exact zk hp hr h [0] Tryz.call78 (hT.aP x20 (aR.mk true (p0.Kind==17) (decide ((v9.2+1)<(List.length p0.bc:Int))) (IntKind.wrap .i64 (p1.level+1))) v9.1) rfl (fun _=>rfl) fun y30 h=>ao (hK17 _ _ _ h rfl)
           · refine z2 hb26 h fun h=>zg hb26 rfl (zg hb26 rfl (zg hb26 rfl (zg hb26 rfl (zu rfl (zu rfl (zu rfl (zu rfl (zu rfl (zu rfl (zg hb26 rfl (zw hb26 rfl (zf rfl (zl rfl (al (iS rfl rfl) rfl (al (bA rfl rfl rfl) rfl ?_)))))))))))))))
             exact zk hp hr h [0] Tryz.call78 (hT.aP x20 (aR.mk true (p0.Kind==17) false (IntKind.wrap .i64 (p1.level+1))) v9.1) rfl (fun _=>rfl) fun y31 h=>ao (hK17 _ _ _ h rfl)
         · refine z2 hb25 h fun h=>zG hb25 rfl (bn rfl) (zG hb25 rfl (aX rfl rfl rfl) (zG hb25 rfl (bf rfl rfl rfl) (zw hb25 rfl (zf rfl (zl rfl (zc rfl (zf rfl (zl rfl (zc rfl (zm rfl (zb (p0.Kind==14) (fun hb32=>?_) fun hb32=>?_)))))))))))
           · refine z1 hb32 h fun h=>zG hb32 rfl (bn rfl) (zG hb32 rfl (aX rfl rfl rfl) (zG hb32 rfl (bf rfl rfl rfl) (zG hb32 rfl (aq rfl) (zb (p0.jD==0) (fun hb33=>?_) fun hb33=>?_))))
             · refine z1 hb33 h fun h=>zg hb33 rfl (zg hb33 rfl (zg hb33 rfl (zg hb33 rfl (zg hb33 rfl (zg hb33 rfl (zG hb32 rfl (cx hb33 rfl rfl) (zy hb32 rfl (zf rfl (zl rfl (al (iS rfl rfl) rfl (al (bA rfl rfl rfl) rfl ?_)))))))))))
               exact zk hp hr h [0] Tryz.call78 (hT.aP x20 (aR.mk (p0.Kind==10) (p0.Kind==17) true (IntKind.wrap .i64 (p1.level+1))) v9.1) rfl (fun _=>rfl) fun y34 h=>ao (hK17 _ _ _ h rfl)
             · refine z2 hb33 h fun h=>zG hb33 rfl (aq rfl) (zd hr h fun hg35 h=>zG hb33 rfl (kV rfl rfl hg35) (zG hb33 rfl (bn rfl) (zG hb33 rfl (aX rfl rfl rfl) (zG hb33 rfl (bQ rfl) (zG hb33 rfl (bf rfl rfl rfl) (zG hb32 rfl (ct hb33 rfl rfl) (zy hb32 rfl (zf rfl (zl rfl (al (iS rfl rfl) rfl (al (bA rfl rfl rfl) rfl ?_)))))))))))
               exact zk hp hr h [0] Tryz.call78 (hT.aP x20 (aR.mk (p0.Kind==10) (p0.Kind==17) (decide ((v9.2+1)<(List.length p0.bc:Int))) (IntKind.wrap .i64 (p1.level+1))) v9.1) rfl (fun _=>rfl) fun y36 h=>ao (hK17 _ _ _ h rfl)
           · refine z2 hb32 h fun h=>zg hb32 rfl (zg hb32 rfl (zg hb32 rfl (zg hb32 rfl (zu rfl (zu rfl (zu rfl (zu rfl (zu rfl (zu rfl (zg hb32 rfl (zw hb32 rfl (zf rfl (zl rfl (al (iS rfl rfl) rfl (al (bA rfl rfl rfl) rfl ?_)))))))))))))))
             exact zk hp hr h [0] Tryz.call78 (hT.aP x20 (aR.mk (p0.Kind==10) (p0.Kind==17) false (IntKind.wrap .i64 (p1.level+1))) v9.1) rfl (fun _=>rfl) fun y37 h=>ao (hK17 _ _ _ h rfl)
       · refine z2 hb24 h fun h=>zg hb24 rfl (zg hb24 rfl (zw hb24 rfl (zm rfl (zG rfl rfl (bn rfl) (zG rfl rfl (aX rfl rfl rfl) (zG rfl rfl (bf rfl rfl rfl) (al (dj rfl rfl) rfl (zf rfl (zl rfl (zc rfl (zf rfl (zl rfl (zc rfl (zm rfl (zb (p0.Kind==14) (fun hb38=>?_) fun hb38=>?_)))))))))))))))
         · refine z1 hb38 h fun h=>zG hb38 rfl (bn rfl) (zG hb38 rfl (aX rfl rfl rfl) (zG hb38 rfl (bf rfl rfl rfl) (zG hb38 rfl (aq rfl) (zb (p0.jD==0) (fun hb39=>?_) fun hb39=>?_))))
           · refine z1 hb39 h fun h=>zg hb39 rfl (zg hb39 rfl (zg hb39 rfl (zg hb39 rfl (zg hb39 rfl (zg hb39 rfl (zG hb38 rfl (cx hb39 rfl rfl) (zy hb38 rfl (zf rfl (zl rfl (al (iS rfl rfl) rfl (al (bA rfl rfl rfl) rfl ?_)))))))))))
             exact zk hp hr h [0] Tryz.call78 (hT.aP x20 (aR.mk (p0.Kind==10) (p0.Kind==17) true (IntKind.wrap .i64 (p1.level+1))) v9.1) rfl (fun _=>rfl) fun y40 h=>ao (hK17 _ _ _ h rfl)
           · refine z2 hb39 h fun h=>zG hb39 rfl (aq rfl) (zd hr h fun hg41 h=>zG hb39 rfl (kV rfl rfl hg41) (zG hb39 rfl (bn rfl) (zG hb39 rfl (aX rfl rfl rfl) (zG hb39 rfl (bQ rfl) (zG hb39 rfl (bf rfl rfl rfl) (zG hb38 rfl (ct hb39 rfl rfl) (zy hb38 rfl (zf rfl (zl rfl (al (iS rfl rfl) rfl (al (bA rfl rfl rfl) rfl ?_)))))))))))
             exact zk hp hr h [0] Tryz.call78 (hT.aP x20 (aR.mk (p0.Kind==10) (p0.Kind==17) (decide ((v9.2+1)<(List.length p0.bc:Int))) (IntKind.wrap .i64 (p1.level+1))) v9.1) rfl (fun _=>rfl) fun y42 h=>ao (hK17 _ _ _ h rfl)
         · refine z2 hb38 h fun h=>zg hb38 rfl (zg hb38 rfl (zg hb38 rfl (zg hb38 rfl (zu rfl (zu rfl (zu rfl (zu rfl (zu rfl (zu rfl (zg hb38 rfl (zw hb38 rfl (zf rfl (zl rfl (al (iS rfl rfl) rfl (al (bA rfl rfl rfl) rfl ?_)))))))))))))))
           exact zk hp hr h [0] Tryz.call78 (hT.aP x20 (aR.mk (p0.Kind==10) (p0.Kind==17) false (IntKind.wrap .i64 (p1.level+1))) v9.1) rfl (fun _=>rfl) fun y43 h=>ao (hK17 _ _ _ h rfl)
   · exact bh (hK7 _ _ (aa (zm rfl (zf rfl (zl rfl (zf rfl (zl rfl (zc rfl (zf rfl (zl rfl (al (iS rfl rfl) rfl (zk hp hr h [0] Tryz.call64 (hT.ck p0.Decls (p0.Kind==13) (IntKind.wrap .i64 (p1.level+1)) v9.1) rfl (fun _=>rfl) fun y44 h=>ao (zY .nil h rfl)))))))))))))
 · refine ab fun _ hK45=>aa (zf rfl (zl rfl (zc rfl (zQ hK45 (zB rfl h (fun _ h=>?_) fun _ h=>?_)))))
   · exact aa (zm rfl (zn rfl (zf rfl (zs rfl (ao (hK4 _ _ _ h rfl))))))
   · exact an (hK4 _ _ _ h rfl)
theorem eb:∀ n,fv (bW n)
 | 0=>⟨fun _ _ _ _=>bY,fun _ _ _ _=>bY,fun _ _ _=>bY⟩
 | n+1=>⟨fun p0 p1 p2 p3=>pH n _ (eb n) p0 p1 p2 p3,fun p0 p1 p2 p3=>oW n _ (eb n) p0 p1 p2 p3,fun p0 p1 p2=>pI n _ (eb n) p0 p1 p2⟩
theorem pJ (n:Nat) (p0:(List ax)) (p1:Bool) (p2:Int) (p3:ak):CT Tryz.prog 64 [.ptr 0 0,.pv (.sl (List.length p0) (ax.Cs p0)),Bo p1,I p2] [.box (aF p3)] (ck n p0 p1 p2 p3) (fun _=>.eT []) (fun x=>[.box (aF x)]):=(eb n).ck p0 p1 p2 p3
theorem qg (n:Nat) (p0:ai) (p1:aR) (p2:ak):CT Tryz.prog 78 [.ptr 0 0,.agg (aV p0),.agg (bC p1)] [.box (aF p2)] (aP n p0 p1 p2) (fun _=>.eT []) (fun x=>[.box (aF x)]):=(eb n).aP p0 p1 p2
def ki (n:Nat) (p0:ai):ay (Int):=
 ay.bind (aP n p0 (aR.mk true false false 1) (ak.mk false false)) fun y4=>ay.bind (fO y4) fun y6=>.ok (y6.1)
theorem r9 (n:Nat) (p0:ai):CT Tryz.prog 36 [.agg (aV p0)] [] (ki n p0) (fun x=>I x) (fun _=>[]):=by
 refine zC Tryz.func36 rfl fun r hp h hr E hE=>ab fun _ hK1=>aa (cM 101 (hE _ rfl) ⟨rfl,rfl,rfl,rfl,rfl,rfl,rfl⟩ rfl ?_)
 refine za rfl (zQ hK1 (ab fun _ hK2=>aa (al (bA rfl rfl rfl) rfl ?_)))
 refine cM 105 (hE _ rfl) ⟨rfl,rfl,rfl,rfl,rfl,rfl,rfl⟩ rfl ?_
 refine za rfl (zQ hK2 (ab fun _ hK3=>aa (zm rfl (zA rfl ?_))))
 refine al (bA rfl rfl rfl) rfl ?_
 exact zk hp hr h [105] Tryz.call78 (qg n p0 (aR.mk true false false 1) (ak.mk false false)) rfl (fun _=>rfl) fun y4 h=>zQ hK3 (ab fun _ hK5=>aa (zm rfl (zk hp hr h [105] Tryz.call65 (lf y4) rfl (fun _=>rfl) fun y6 h=>za rfl (zQ hK5 (ar (zX (.cons (aw rfl) .nil) h rfl))))))
def me (n:Nat) (p0:(List UInt8)):ay (ai×et):=
 ay.bind (lC n p0) fun y3=>br (y3.2.Errno !=0) (.ok ((ai.mk 0 [] 0 [] [] [] [] [] 0),y3.2)) (pc (ay.bind (aG n true (ag.mk p0 y3.1 0 0 false none)) fun y11=>jn (fun (v12:ag)=>jn (fun (_:Unit)=>ay.bind (ki n y11.1) fun y20=>br (y20==9) (.ok ((ai.mk 0 [] 0 [] [] [] [] [] 0),(et.mk 9 0))) (.ok (y11.1,(et.mk 0 0)))) fun j16=>ay.bind (aH n v12) fun y26=>br (y26.1.Kind !=0) (ay.bind (bp n (ag.mk y26.2.text y26.2.bg y26.2.at_ v12.base y26.2.skip y26.2.pending)) fun _=>j16 ()) (j16 ())) fun j13=>ay.bind (aH n y11.2) fun y32=>br (y32.1.Kind==7) (gd (aD (y32.2.at_+1)) (j13 ((ag.mk y32.2.text y32.2.bg (y32.2.at_+1) y11.2.base y32.2.skip y32.2.pending)))) (j13 ((ag.mk y32.2.text y32.2.bg y32.2.at_ y11.2.base y32.2.skip y32.2.pending)))) (fun p=>ss 86 p fun v37=>ay.bind (k2 v37) fun y38=>.ok (y38.1,y38.2)))
theorem rN (n:Nat) (p0:(List UInt8)):CT Tryz.prog 15 [bd p0] [] (me n p0) (fun x=>.eT [.agg (aV x.1),.agg [I x.2.Errno,I x.2.At]]) (fun _=>[]):=by
 refine rj Tryz.func15 rfl rfl fun r h hr E hE=>?_
 refine ab fun _ hK1=>aa (aM 102 (hE _ rfl) ⟨rfl,rfl,rfl,rfl⟩ rfl ?_)
 refine aM 103 (hE _ rfl) ⟨rfl,rfl,rfl,rfl⟩ rfl ?_
 refine zQ hK1 (ab fun _ hK2=>aa (zm rfl (iT hr h [] Tryz.call24 (py n p0) ⟨rfl,rfl,rfl,rfl,rfl,rfl,trivial⟩ rfl (fun _=>⟨rfl,rfl,rfl⟩) (fun _=>⟨rfl,rfl⟩) (fun _ _ _ hd hp=>tO (P:=Tryz.prog) (fn:=Tryz.f15) hd hp) (fun y3 h=>?_))))
 refine zm rfl (zx rfl (zx rfl (za rfl (zs rfl (zQ hK2 (ab fun _ hK4=>ab fun _ hK5=>aa (zf rfl (zl rfl (zc rfl (zQ hK5 (zB rfl h (fun _ h=>?_) fun _ h=>?_)))))))))))
 · refine ab fun _ hK7=>bo [0,1,2,3] rfl (by kernel_rfl) (zD rfl (cT rfl rfl) rfl ?_)
   refine zD rfl (hY rfl rfl rfl rfl) rfl ?_
   refine bR rfl ⟨rfl,rfl,rfl,rfl,rfl,rfl,rfl,rfl⟩ rfl (fun e2 he=>⟨ch ⟨⟨⟨_,rfl,be.le_refl _⟩,trivial⟩,⟨trivial,trivial⟩⟩,?_⟩)
   subst he
   refine bR rfl ⟨rfl,rfl,rfl,rfl,rfl,rfl,rfl,rfl⟩ rfl (fun e3 he=>⟨aJ rfl,?_⟩)
   subst he
   refine b4 (hK7 _ _ (bK (jd 102 rfl rfl) ?_))
   exact ar (sw (n:=Tryz.f15.ntmps) (.inl rfl) (lS (.inl rfl) _ (.cons (aZ rfl rfl rfl) (.cons (aZ rfl rfl rfl) .nil)) h.symm (AV.le_refl _) trivial))
 · refine an (hK4 _ _ (ab fun _ hK8=>aa (al (oG rfl rfl) rfl ?_)))
   refine wu rfl ?_
   have hrO:=hr
   obtain ⟨r,hr,h,hc⟩:=tN hr h
   refine zQ hK8 (ab fun _ hK9=>aa (zm rfl (zm rfl (al (cT rfl rfl) rfl ?_))))
   refine cM 120 (hE _ rfl) ⟨rfl,rfl,rfl,rfl,rfl,rfl,rfl⟩ rfl ?_
   refine za rfl (zQ hK9 (ab fun _ hK10=>aa (zm rfl (aY (jd 120 rfl rfl) ?_))))
   refine n7 hr h [120] Tryz.call33 (qS n true (ag.mk p0 y3.1 0 0 false none)) ⟨rfl,rfl,rfl,rfl,rfl,rfl,trivial⟩ rfl rfl (fun _=>⟨rfl,rfl,rfl⟩) (fun _=>⟨rfl,rfl⟩) rfl (fun p hp=>?_) (fun y11 h=>?_)
   · obtain ⟨v36,rfl,hc⟩:=nr hrO (kX hc hp)
     obtain ⟨hns,hok,_⟩:=jT hrO hc
     repeat (first|refine kY ?_|refine jV ?_)
     refine gJ (n:=Tryz.f15.ntmps) [102,103] Tryz.call32 (gm v36) hns rfl ⟨rfl,rfl,rfl,rfl⟩ (fun _=>⟨rfl,rfl⟩) (fun x hx=>?_)
     exact eG (.inl rfl) _ (.cons (aZ rfl rfl rfl) (.cons (aZ rfl rfl rfl) .nil)) (hok x hx).symm (AV.le_refl _) trivial
   · refine zs rfl (zQ hK10 (zM h (fun (v12:ag)=>[(0,bd p0),(2,.ptr 102 0),(3,.ptr 103 0),(5,.ptr 120 0)]) (fun (v12:ag)=>[(102,.box (aV y11.1)),(103,.box [I y3.2.Errno,I y3.2.At]),(120,.box (ah v12))]) (fun v12 h=>?_) fun _ _ hK14 h=>?_))
     · refine zM h (fun (v15:Unit)=>[(0,bd p0),(2,.ptr 102 0),(3,.ptr 103 0)]) (fun (v15:Unit)=>[(102,.box (aV y11.1)),(103,.box [I y3.2.Errno,I y3.2.At])]) (fun v15 h=>?_) fun _ _ hK17 h=>?_
       · refine ab fun _ hK18=>ab fun _ hK19=>aa (zA rfl ?_)
         refine n7 hr h [] Tryz.call36 (r9 n y11.1) ⟨rfl,rfl,rfl,rfl,rfl,rfl,trivial⟩ rfl rfl (fun _=>⟨rfl,rfl,rfl⟩) (fun _=>⟨rfl,rfl⟩) rfl (fun p hp=>?_) (fun y20 h=>?_)
         · obtain ⟨v24,rfl,hc⟩:=nr hrO (kX hc hp)
           obtain ⟨hns,hok,_⟩:=jT hrO hc
           repeat (first|refine kY ?_|refine jV ?_)
           refine gJ (n:=Tryz.f15.ntmps) [102,103] Tryz.call32 (gm v24) hns rfl ⟨rfl,rfl,rfl,rfl⟩ (fun _=>⟨rfl,rfl⟩) (fun x hx=>?_)
           exact eG (.inl rfl) _ (.cons (aZ rfl rfl rfl) (.cons (aZ rfl rfl rfl) .nil)) (hok x hx).symm (AV.le_refl _) trivial
         · refine zc rfl (zQ hK19 (zB rfl h (fun _ h=>?_) fun _ h=>?_))
           · refine ab fun _ hK22=>aa (al (cT rfl rfl) rfl ?_)
             refine al (bA rfl rfl rfl) rfl ?_
             refine zs rfl (zs rfl (zQ hK22 (bK (jd 102 rfl rfl) ?_)))
             refine ar (kJ (n:=Tryz.f15.ntmps) (.inl rfl) [102,103] Tryz.call32 (lr [.box [I 0,bd [],I 0,bd [],bd [],.pv (.sl (List.length ([]:List ai)) (ai.Cs [])),.pv (.sl (List.length ([]:List ax)) (ax.Cs [])),.pv (.sl (List.length ([]:List (List UInt8))) (bS [])),I 0],.box [I 9,I 0]]) ⟨rfl,rfl,rfl,rfl⟩ rfl rfl ?_)
             exact eG (.inl rfl) _ (.cons (aZ rfl rfl rfl) (.cons (aZ rfl rfl rfl) .nil)) (pg hc h.symm) (AV.le_refl _) trivial
           · refine an (hK18 _ _ (ab fun _ hK23=>aa (zA rfl ?_)))
             refine al (bA rfl rfl rfl) rfl ?_
             refine zs rfl (zs rfl (zQ hK23 (ar (kJ (n:=Tryz.f15.ntmps) (.inl rfl) [102,103] Tryz.call32 (lr [.box (aV y11.1),.box [I 0,I 0]]) ⟨rfl,rfl,rfl,rfl⟩ rfl rfl ?_))))
             exact eG (.inl rfl) _ (.cons (aZ rfl rfl rfl) (.cons (aZ rfl rfl rfl) .nil)) (pg hc h.symm) (AV.le_refl _) trivial
       · refine ab fun _ hK25=>aa (zm rfl (n7 hr h [120] Tryz.call34 (aI n v12) ⟨rfl,rfl,rfl,rfl,rfl,rfl,trivial⟩ rfl rfl (fun _=>⟨rfl,rfl,rfl⟩) (fun _=>⟨rfl,rfl⟩) rfl (fun p hp=>?_) (fun y26 h=>?_)))
         · obtain ⟨v30,rfl,hc⟩:=nr hrO (kX hc hp)
           obtain ⟨hns,hok,_⟩:=jT hrO hc
           repeat (first|refine kY ?_|refine jV ?_)
           refine gJ (n:=Tryz.f15.ntmps) [102,103] Tryz.call32 (gm v30) hns rfl ⟨rfl,rfl,rfl,rfl⟩ (fun _=>⟨rfl,rfl⟩) (fun x hx=>?_)
           exact eG (.inl rfl) _ (.cons (aZ rfl rfl rfl) (.cons (aZ rfl rfl rfl) .nil)) (hok x hx).symm (AV.le_refl _) trivial
         · refine al (jU rfl rfl) rfl ?_
           refine zc rfl (zQ hK25 (zB rfl h (fun _ h=>?_) fun _ h=>?_))
           · refine aa (zm rfl (n7 hr h [120] Tryz.call35 (bu n (ag.mk y26.2.text y26.2.bg y26.2.at_ v12.base y26.2.skip y26.2.pending)) ⟨rfl,rfl,rfl,rfl,rfl,rfl,trivial⟩ rfl rfl (fun _=>⟨rfl,rfl,rfl⟩) (fun _=>⟨rfl,rfl⟩) rfl (fun p hp=>?_) (fun y28 h=>?_)))
             · obtain ⟨v29,rfl,hc⟩:=nr hrO (kX hc hp)
               obtain ⟨hns,hok,_⟩:=jT hrO hc
               repeat (first|refine kY ?_|refine jV ?_)
               refine gJ (n:=Tryz.f15.ntmps) [102,103] Tryz.call32 (gm v29) hns rfl ⟨rfl,rfl,rfl,rfl⟩ (fun _=>⟨rfl,rfl⟩) (fun x hx=>?_)
               exact eG (.inl rfl) _ (.cons (aZ rfl rfl rfl) (.cons (aZ rfl rfl rfl) .nil)) (hok x hx).symm (AV.le_refl _) trivial
             · exact ao (hK17 _ _ _ h rfl)
           · exact an (hK17 _ _ _ h rfl)
     · refine ab fun _ hK31=>aa (zm rfl (n7 hr h [120] Tryz.call34 (aI n y11.2) ⟨rfl,rfl,rfl,rfl,rfl,rfl,trivial⟩ rfl rfl (fun _=>⟨rfl,rfl,rfl⟩) (fun _=>⟨rfl,rfl⟩) rfl (fun p hp=>?_) (fun y32 h=>?_)))
       · obtain ⟨v35,rfl,hc⟩:=nr hrO (kX hc hp)
         obtain ⟨hns,hok,_⟩:=jT hrO hc
         repeat (first|refine kY ?_|refine jV ?_)
         refine gJ (n:=Tryz.f15.ntmps) [102,103] Tryz.call32 (gm v35) hns rfl ⟨rfl,rfl,rfl,rfl⟩ (fun _=>⟨rfl,rfl⟩) (fun x hx=>?_)
         exact eG (.inl rfl) _ (.cons (aZ rfl rfl rfl) (.cons (aZ rfl rfl rfl) .nil)) (hok x hx).symm (AV.le_refl _) trivial
       · refine al (jU rfl rfl) rfl ?_
         refine zc rfl (zQ hK31 (zB rfl h (fun _ h=>?_) fun _ h=>?_))
         · exact aa (zm rfl (zn rfl (zf rfl (zl rfl (zd hr h fun hg34 h=>zo hg34 rfl (zn rfl (zf rfl (zs rfl (ao (hK14 _ _ _ h rfl))))))))))
         · exact an (hK14 _ _ _ h rfl)
def lh (v:Int):ay (eI×et):=
 ay.bind (iC (fD.mk v)) fun y2=>.ok ((eI.mk [] [] [] []),y2)
theorem mC (v:Int):zr Tryz.prog 25 [.ptr 0 0,.ptr 1 0] [.box [.any,.any,.any,.any],.box [.any,.any]] (some (.iface 86 (.agg #[.int .i64 v]))) (lh v) (fun x=>[.box (ga x.1),.box [I x.2.Errno,I x.2.At]]):=by
 refine lV (m:=some (.iface 86 (.agg #[.int .i64 v]))) (mv:=.ln 86 (.agg [I v])) (fun g=>.ln 86 (.agg (.cons (.pv (.sc _)) .nil))) Tryz.func25 rfl rfl rfl fun r h hr E hE=>?_
 refine ab fun _ hK1=>aa (zm rfl (al (sX rfl rfl) rfl (zQ hK1 (cg rfl (fun hc=>?_) (fun hc=>?_)))))
 · refine aa (al (cT rfl rfl) rfl ?_)
   refine zm rfl (A0 hr h [] Tryz.call26 (pN (fD.mk v)) ⟨rfl,rfl,rfl,rfl,rfl,rfl,trivial⟩ rfl (fun _=>⟨rfl,rfl,rfl⟩) (fun _=>⟨rfl,rfl⟩) (oK (fD.mk v)) (fun y2 h=>?_))
   refine zs rfl (zs rfl (aY (jd 0 rfl rfl) ?_))
   exact ao (rk (.inr rfl) _ h.symm ⟨rfl,rfl,trivial⟩)
 · exact absurd (hc) (by simp)
theorem lx (es:List be):zr Tryz.prog 25 [.ptr 0 0,.ptr 1 0] es none (ay.ok ()) (fun _=>es):=by
 refine lV (m:=none) (mv:=Sc .nilIface) (fun g=>.pv (.sc _)) Tryz.func25 rfl rfl rfl fun r h hr E hE=>?_
 refine ab fun _ hK1=>aa (zm rfl (al (sY rfl) rfl (zQ hK1 (cg rfl (fun hc=>?_) (fun hc=>?_)))))
 · exact absurd (hc) (by simp)
 · exact an (nS h)
def gD (n:Nat) (p0:ag):ay ((List (List UInt8))×ag):=
 iter (fun next5 (v4:ag×(List (List UInt8)))=>ay.bind (aH n v4.1) fun y9=>br (y9.1.Kind==6) (jn (fun (v11:ag)=>ay.bind (aH n v11) fun y15=>gd (aL 16 (List.length v4.2) (List.length [y15.1.Text])) (gd (aD (y15.2.at_+1)) (next5 ((ag.mk y15.2.text y15.2.bg (y15.2.at_+1) v11.base y15.2.skip y15.2.pending),v4.2++[y15.1.Text])))) fun j12=>ay.bind (ez n (ag.mk y9.2.text y9.2.bg y9.2.at_ v4.1.base y9.2.skip y9.2.pending)) fun y19=>br (!y19.1) (ay.bind (bp n y19.2) fun y21=>j12 (y21)) (j12 (y19.2))) (.ok (v4.2,(ag.mk y9.2.text y9.2.bg y9.2.at_ v4.1.base y9.2.skip y9.2.pending)))) n (p0,[])
theorem oo (n:Nat) (p0:ag):CT Tryz.prog 55 [.ptr 0 0] [.box (ah p0),.app 9 1 (bS [])] (gD n p0) (fun x=>.arr 1 (List.length x.1)) (fun x=>[.box (ah x.2),.app 9 1 (bS x.1)]):=by
 refine zC Tryz.func55 rfl fun r hp h hr E hE=>ab fun _ hK1=>aa (za rfl (zQ hK1 (ab fun _ hK2=>aa (za rfl (zQ hK2 (ab fun _ hK3=>aB (bK (rZ (d:=3) 10003 (sz:=1) (el:=9) (hE _ rfl) rfl ⟨rfl,rfl,rfl⟩) ?_)))))))
 refine zL hr h (fun (v4:ag×(List (List UInt8)))=>[(0,.ptr 0 0),(3,.arr 10003 (List.length v4.2))]) (fun (v4:ag×(List (List UInt8)))=>[(0,.box (ah v4.1)),(10003,.app 9 1 (bS v4.2))]) rfl fun _ v4 _ hK6 h=>ab fun _ hK7=>ab fun _ hK8=>aa (zm rfl (zk hp hr h [0] Tryz.call34 (aI n v4.1) rfl (fun _=>rfl) fun y9 h=>al (jU rfl rfl) rfl ?_))
 refine zc rfl (zQ hK8 (zB rfl h (fun _ h=>?_) fun _ h=>?_))
 · refine an (hK7 _ _ (aB (zM h (fun (v11:ag)=>[(0,.ptr 0 0),(3,.arr 10003 (List.length v4.2))]) (fun (v11:ag)=>[(0,.box (ah v11)),(10003,.app 9 1 (bS v4.2))]) (fun v11 h=>?_) fun _ _ hK13 h=>?_)))
   · refine ab fun _ hK14=>aa (zm rfl (zm rfl (zk hp hr h [0] Tryz.call34 (aI n v11) rfl (fun _=>rfl) fun y15 h=>al (jU rfl rfl) rfl ?_)))
     refine bL [y15.1.Text] ej ⟨rfl,rfl⟩ rfl ?_
     refine zd hr h fun hg16 h=>lA 118 ⟨jC.h,dL.h,ej,gk,qF,hE _ rfl,rfl,rfl,(.inl rfl),⟨rfl,rfl,rfl⟩,hg16⟩ rfl ?_
     refine za rfl (aY (kj 118 10003 [(0,.ptr 0 0),(3,.arr 10003 (List.length (v4.2++[y15.1.Text])))] [(0,.box [bd y15.2.text,.pv (.sl (List.length y15.2.bg) (aS.Cs y15.2.bg)),I y15.2.at_,I v11.base,Bo y15.2.skip,.pv (.pt (Option.map ai.C y15.2.pending))])] (hE _ rfl) rfl rfl ⟨rfl,rfl⟩ ⟨⟨_,rfl,rfl,rfl⟩,⟨_,rfl,rfl,rfl⟩,trivial⟩ ⟨⟨_,rfl,rfl,rfl,rfl,rfl⟩,trivial⟩) ?_)
     exact zQ hK14 (aa (zm rfl (zn rfl (zf rfl (zl rfl (zd hr h fun hg17 h=>zo hg17 rfl (zn rfl (zf rfl (zs rfl (ao (hK6 _ _ _ h rfl)))))))))))
   · refine ab fun _ hK18=>aa (zm rfl (zk hp hr h [0] Tryz.call103 (gR n (ag.mk y9.2.text y9.2.bg y9.2.at_ v4.1.base y9.2.skip y9.2.pending)) rfl (fun _=>rfl) fun y19 h=>al (du rfl) rfl (zQ hK18 (zB rfl h (fun _ h=>?_) fun _ h=>?_))))
     · exact aa (zm rfl (zk hp hr h [0] Tryz.call35 (bu n y19.2) rfl (fun _=>rfl) fun y21 h=>ao (hK13 _ _ _ h rfl)))
     · exact an (hK13 _ _ _ h rfl)
 · refine bh (hK3 _ _ (ab fun _ hK22=>aa (zm rfl (za rfl (zQ hK22 (bK (kj 10003 1 [(0,.ptr 0 0),(2,.arr 1 (List.length v4.2))] [(0,.box [bd y9.2.text,.pv (.sl (List.length y9.2.bg) (aS.Cs y9.2.bg)),I y9.2.at_,I v4.1.base,Bo y9.2.skip,.pv (.pt (Option.map ai.C y9.2.pending))])] (hE _ rfl) rfl rfl ⟨rfl,rfl⟩ ⟨⟨_,rfl,rfl,rfl⟩,⟨_,rfl,rfl,rfl⟩,trivial⟩ ⟨⟨_,rfl,rfl,rfl,rfl,rfl⟩,trivial⟩) ?_))))))
   exact ar (zX (.cons (aw rfl) .nil) h rfl)
def kl (n:Nat) (p0:ag):ay ((List (List UInt8))×ag):=
 iter (fun next5 (v4:ag×(List (List UInt8)))=>ay.bind (aH n v4.1) fun y9=>br (y9.1.Kind==6) (jn (fun (v11:ag)=>ay.bind (aH n v11) fun y15=>gd (aL 16 (List.length v4.2) (List.length [y15.1.Text])) (gd (aD (y15.2.at_+1)) (next5 ((ag.mk y15.2.text y15.2.bg (y15.2.at_+1) v11.base y15.2.skip y15.2.pending),v4.2++[y15.1.Text])))) fun j12=>ay.bind (ez n (ag.mk y9.2.text y9.2.bg y9.2.at_ v4.1.base y9.2.skip y9.2.pending)) fun y19=>br (!y19.1) (ay.bind (bp n y19.2) fun y21=>j12 (y21)) (j12 (y19.2))) (.ok (v4.2,(ag.mk y9.2.text y9.2.bg y9.2.at_ v4.1.base y9.2.skip y9.2.pending)))) n (p0,[])
theorem mV (n:Nat) (p0:ag):CT Tryz.prog 55 [.ptr 0 0] [.box (ah p0)] (kl n p0) (fun x=>.pv (.sl (List.length x.1) (bS x.1))) (fun x=>[.box (ah x.2)]):=by
 refine zC Tryz.func55 rfl fun r hp h hr E hE=>ab fun _ hK1=>aa (za rfl (zQ hK1 (ab fun _ hK2=>aa (za rfl (zQ hK2 (ab fun _ hK3=>aB (bK (rZ (d:=3) 10003 (sz:=1) (el:=9) (hE _ rfl) rfl ⟨rfl,rfl,rfl⟩) ?_)))))))
 refine zL hr h (fun (v4:ag×(List (List UInt8)))=>[(0,.ptr 0 0),(3,.arr 10003 (List.length v4.2))]) (fun (v4:ag×(List (List UInt8)))=>[(0,.box (ah v4.1)),(10003,.app 9 1 (bS v4.2))]) rfl fun _ v4 _ hK6 h=>ab fun _ hK7=>ab fun _ hK8=>aa (zm rfl (zk hp hr h [0] Tryz.call34 (aI n v4.1) rfl (fun _=>rfl) fun y9 h=>al (jU rfl rfl) rfl ?_))
 refine zc rfl (zQ hK8 (zB rfl h (fun _ h=>?_) fun _ h=>?_))
 · refine an (hK7 _ _ (aB (zM h (fun (v11:ag)=>[(0,.ptr 0 0),(3,.arr 10003 (List.length v4.2))]) (fun (v11:ag)=>[(0,.box (ah v11)),(10003,.app 9 1 (bS v4.2))]) (fun v11 h=>?_) fun _ _ hK13 h=>?_)))
   · refine ab fun _ hK14=>aa (zm rfl (zm rfl (zk hp hr h [0] Tryz.call34 (aI n v11) rfl (fun _=>rfl) fun y15 h=>al (jU rfl rfl) rfl ?_)))
     refine bL [y15.1.Text] ej ⟨rfl,rfl⟩ rfl ?_
     refine zd hr h fun hg16 h=>lA 118 ⟨jC.h,dL.h,ej,gk,qF,hE _ rfl,rfl,rfl,(.inl rfl),⟨rfl,rfl,rfl⟩,hg16⟩ rfl ?_
     refine za rfl (aY (kj 118 10003 [(0,.ptr 0 0),(3,.arr 10003 (List.length (v4.2++[y15.1.Text])))] [(0,.box [bd y15.2.text,.pv (.sl (List.length y15.2.bg) (aS.Cs y15.2.bg)),I y15.2.at_,I v11.base,Bo y15.2.skip,.pv (.pt (Option.map ai.C y15.2.pending))])] (hE _ rfl) rfl rfl ⟨rfl,rfl⟩ ⟨⟨_,rfl,rfl,rfl⟩,⟨_,rfl,rfl,rfl⟩,trivial⟩ ⟨⟨_,rfl,rfl,rfl,rfl,rfl⟩,trivial⟩) ?_)
     exact zQ hK14 (aa (zm rfl (zn rfl (zf rfl (zl rfl (zd hr h fun hg17 h=>zo hg17 rfl (zn rfl (zf rfl (zs rfl (ao (hK6 _ _ _ h rfl)))))))))))
   · refine ab fun _ hK18=>aa (zm rfl (zk hp hr h [0] Tryz.call103 (gR n (ag.mk y9.2.text y9.2.bg y9.2.at_ v4.1.base y9.2.skip y9.2.pending)) rfl (fun _=>rfl) fun y19 h=>al (du rfl) rfl (zQ hK18 (zB rfl h (fun _ h=>?_) fun _ h=>?_))))
     · exact aa (zm rfl (zk hp hr h [0] Tryz.call35 (bu n y19.2) rfl (fun _=>rfl) fun y21 h=>ao (hK13 _ _ _ h rfl)))
     · exact an (hK13 _ _ _ h rfl)
 · refine bh (hK3 _ _ (ab fun _ hK22=>aa (al (lH ej gk rfl rfl rfl) rfl ?_)))
   exact za rfl (zQ hK22 (ar (zX (.cons (aw rfl) .nil) h rfl)))
def iL (n:Nat) (p0:(List (List UInt8))) (p1:Bool) (p2:ag):ay ((List ax)×(List (List UInt8))×ag):=
 iter (fun next7 (v6:ag×(List (List UInt8))×(List ax)×Int×Bool)=>ay.bind (gL n v6.1) fun y11=>br (!y11.1) (ay.bind (aH n y11.2) fun y14=>jn (fun (v15:Bool)=>br v15 (gd (aD (y14.2.at_+1)) (next7 ((ag.mk y14.2.text y14.2.bg (y14.2.at_+1) y11.2.base y14.2.skip y14.2.pending),v6.2.1,v6.2.2.1,v6.2.2.2.1,true))) (jn (fun (v21:ag×Bool)=>br v21.2 (gd (aD ((List.length v6.2.2.1:Int) - 1)) (el v6.2.2.1 ((List.length v6.2.2.1:Int) - 1) fun x27=>gd (aD (v21.1.at_+1)) (next7 ((ag.mk v21.1.text v21.1.bg (v21.1.at_+1) v21.1.base v21.1.skip v21.1.pending),v6.2.1,List.set v6.2.2.1 ((List.length v6.2.2.1:Int) - 1).toNat (ax.mk x27.Kind x27.cj x27.Label x27.bk x27.bt x27.bc x27.Body x27.b3 x27.jG y14.1.Text x27.Pos),v6.2.2.2.1,v6.2.2.2.2)))) (jn (fun (v32:ag×Bool)=>br v32.2 (gd (aL 16 (List.length v6.2.1) (List.length [y14.1.Text])) (gd (aD (v32.1.at_+1)) (next7 ((ag.mk v32.1.text v32.1.bg (v32.1.at_+1) v32.1.base v32.1.skip v32.1.pending),v6.2.1++[y14.1.Text],v6.2.2.1,v6.2.2.2.1,v6.2.2.2.2)))) (jn (fun (v39:Bool)=>br v39 (ay.bind (bp n v32.1) fun y43=>next7 (y43,v6.2.1,v6.2.2.1,v6.2.2.2.1,v6.2.2.2.2)) (ay.bind (cF n p1 v32.1) fun y45=>gd (aL 184 (List.length v6.2.2.1) (List.length [(ax.mk y45.1.Kind y45.1.cj y45.1.Label y45.1.bk y45.1.bt y45.1.bc y45.1.Body y45.1.b3 v6.2.1 y45.1.Trail y45.1.Pos)])) (next7 (y45.2,[],v6.2.2.1++[(ax.mk y45.1.Kind y45.1.cj y45.1.Label y45.1.bk y45.1.bt y45.1.bc y45.1.Body y45.1.b3 v6.2.1 y45.1.Trail y45.1.Pos)],y45.2.at_,false)))) fun j40=>br (y14.1.Kind==6) (j40 (true)) (j40 ((!v6.2.2.2.2))))) fun j33=>br (y14.1.Kind==6) (ay.bind (ez n v21.1) fun y52=>j33 (y52.2,y52.1)) (j33 (v21.1,false)))) fun j22=>br (y14.1.Kind==6) (br (decide (v6.2.2.2.1>0)) (ay.bind (fN n v6.2.2.2.1 (ag.mk y14.2.text y14.2.bg y14.2.at_ y11.2.base y14.2.skip y14.2.pending)) fun y55=>j22 (y55.2,y55.1)) (j22 ((ag.mk y14.2.text y14.2.bg y14.2.at_ y11.2.base y14.2.skip y14.2.pending),false))) (j22 ((ag.mk y14.2.text y14.2.bg y14.2.at_ y11.2.base y14.2.skip y14.2.pending),false)))) fun j16=>br (y14.1.Kind==7) (j16 (true)) (ay.bind (cE y14.1 ([44]:List UInt8)) fun y57=>j16 (y57))) (.ok (v6.2.2.1,v6.2.1,y11.2))) n (p2,p0,[],(-1),true)
theorem qh (n:Nat) (p0:(List (List UInt8))) (p1:Bool) (p2:ag):CT Tryz.prog 60 [.ptr 0 0,.arr 1 (List.length p0),Bo p1] [.box (ah p2),.app 9 1 (bS p0)] (iL n p0 p1 p2) (fun x=>.eT [.pv (.sl (List.length x.1) (ax.Cs x.1)),.pv (.sl (List.length x.2.1) (bS x.2.1))]) (fun x=>[.box (ah x.2.2),.app 9 1 (bS [])]):=by
 refine zC Tryz.func60 rfl fun r hp h hr E hE=>ab fun _ hK1=>aa (za rfl (za rfl (zQ hK1 (ab fun _ hK2=>aa (za rfl (zQ hK2 (ab fun _ hK3=>aa (za rfl (zQ hK3 (ab fun _ hK4=>aa (za rfl (zQ hK4 (ab fun _ hK5=>aB (bK (yJ (d:=8) 10008 (sz:=11) (el:=53) (hE _ rfl) rfl ⟨rfl,rfl,rfl⟩) ?_))))))))))))))
 refine bK (kj 1 10001 [(0,.ptr 0 0),(1,.arr 10001 (List.length p0)),(2,Bo p1),(8,.arr 10008 (List.length ([]:List ax))),(9,I (-1)),(10,Bo true)] [(0,.box (ah p2)),(10008,.arr 53 11 (ax.Cs []))] (hE _ rfl) rfl rfl ⟨rfl,rfl⟩ ⟨⟨_,rfl,rfl,rfl⟩,⟨_,rfl,rfl,rfl⟩,⟨_,rfl,rfl,rfl⟩,⟨_,rfl,rfl,rfl⟩,⟨_,rfl,rfl,rfl⟩,⟨_,rfl,rfl,rfl⟩,trivial⟩ ⟨⟨_,rfl,rfl,rfl,rfl,rfl⟩,⟨_,rfl,rfl,rfl,rfl,rfl⟩,trivial⟩) ?_
 refine zL hr h (fun (v6:ag×(List (List UInt8))×(List ax)×Int×Bool)=>[(0,.ptr 0 0),(1,.arr 10001 (List.length v6.2.1)),(2,Bo p1),(8,.arr 10008 (List.length v6.2.2.1)),(9,I v6.2.2.2.1),(10,Bo v6.2.2.2.2)]) (fun (v6:ag×(List (List UInt8))×(List ax)×Int×Bool)=>[(0,.box (ah v6.1)),(10001,.app 9 1 (bS v6.2.1)),(10008,.arr 53 11 (ax.Cs v6.2.2.1))]) rfl fun _ v6 _ hK8 h=>ab fun _ hK9=>ab fun _ hK10=>aa (zm rfl (zk hp hr h [0] Tryz.call105 (l0 n v6.1) rfl (fun _=>rfl) fun y11 h=>al (du rfl) rfl (zQ hK10 (zB rfl h (fun _ h=>?_) fun _ h=>?_))))
 · refine an (hK9 _ _ (aB (ab fun _ hK13=>aa (zm rfl (zk hp hr h [0] Tryz.call34 (aI n y11.2) rfl (fun _=>rfl) fun y14 h=>aM 111 (hE _ rfl) ⟨rfl,rfl,rfl,rfl⟩ rfl ?_)))))
   refine zs rfl (zQ hK13 (aB (zM h (fun (v15:Bool)=>[(0,.ptr 0 0),(1,.arr 10001 (List.length v6.2.1)),(2,Bo p1),(8,.arr 10008 (List.length v6.2.2.1)),(9,I v6.2.2.2.1),(10,Bo v6.2.2.2.2),(11,.ptr 111 0),(31,Bo v15)]) (fun (v15:Bool)=>[(0,.box [bd y14.2.text,.pv (.sl (List.length y14.2.bg) (aS.Cs y14.2.bg)),I y14.2.at_,I y11.2.base,Bo y14.2.skip,.pv (.pt (Option.map ai.C y14.2.pending))]),(111,.box (eA y14.1)),(10001,.app 9 1 (bS v6.2.1)),(10008,.arr 53 11 (ax.Cs v6.2.2.1))]) (fun v15 h=>?_) fun _ _ hK17 h=>?_)))
   · refine zB rfl h (fun _ h=>?_) fun _ h=>?_
     · exact ab fun _ hK19=>aa (za rfl (zQ hK19 (aa (zm rfl (zn rfl (zf rfl (zl rfl (zd hr h fun hg20 h=>zo hg20 rfl (zn rfl (zf rfl (zs rfl (ao (hK8 _ _ _ h rfl)))))))))))))
     · refine zM h (fun (v21:ag×Bool)=>[(0,.ptr 0 0),(1,.arr 10001 (List.length v6.2.1)),(2,Bo p1),(8,.arr 10008 (List.length v6.2.2.1)),(9,I v6.2.2.2.1),(10,Bo v6.2.2.2.2),(11,.ptr 111 0),(46,Bo v21.2)]) (fun (v21:ag×Bool)=>[(0,.box (ah v21.1)),(111,.box (eA y14.1)),(10001,.app 9 1 (bS v6.2.1)),(10008,.arr 53 11 (ax.Cs v6.2.2.1))]) (fun v21 h=>?_) fun _ _ hK23 h=>?_
       · refine zB rfl h (fun _ h=>?_) fun _ h=>?_
         · refine ab fun _ hK25=>aa (zm rfl (zm rfl (al (lQ rfl) rfl (zd hr h fun hg26 h=>al (pM rfl rfl hg26) rfl (zf rfl (zl rfl (ze hr h fun x27 h28 h29 h30 h=>al (lP rfl rfl h28 h29) rfl (zf rfl (AX (⟨ax.bb,ax.bE,h28,h30,rfl,rfl,rfl,rfl,rfl,lp.h,rfl,rfl,rfl⟩:uY _ _ _ _ _ _ _ _ _ 9 _ _ _ _ _ _ (ax.mk x27.Kind x27.cj x27.Label x27.bk x27.bt x27.bc x27.Body x27.b3 x27.jG y14.1.Text x27.Pos) _ [.sc (S y14.1.Text)]) ?_)))))))))
           refine aY (A4 8 (m':=List.length (List.set v6.2.2.1 ((List.length v6.2.2.1:Int) - 1).toNat (ax.mk x27.Kind x27.cj x27.Label x27.bk x27.bt x27.bc x27.Body x27.b3 x27.jG y14.1.Text x27.Pos))) rfl (by simp)) ?_
           exact zQ hK25 (aa (zm rfl (zn rfl (zf rfl (zl rfl (zd hr h fun hg31 h=>zo hg31 rfl (zn rfl (zf rfl (zs rfl (ao (hK8 _ _ _ h rfl)))))))))))
         · refine zM h (fun (v32:ag×Bool)=>[(0,.ptr 0 0),(1,.arr 10001 (List.length v6.2.1)),(2,Bo p1),(8,.arr 10008 (List.length v6.2.2.1)),(9,I v6.2.2.2.1),(10,Bo v6.2.2.2.2),(11,.ptr 111 0),(74,Bo v32.2)]) (fun (v32:ag×Bool)=>[(0,.box (ah v32.1)),(111,.box (eA y14.1)),(10001,.app 9 1 (bS v6.2.1)),(10008,.arr 53 11 (ax.Cs v6.2.2.1))]) (fun v32 h=>?_) fun _ _ hK34 h=>?_
           · refine zB rfl h (fun _ h=>?_) fun _ h=>?_
             · refine ab fun _ hK36=>aa (zm rfl (zf rfl (zl rfl (bL [y14.1.Text] ej ⟨rfl,rfl⟩ rfl ?_))))
               refine zd hr h fun hg37 h=>lA 186 ⟨jC.h,dL.h,ej,gk,qF,hE _ rfl,rfl,rfl,(.inl rfl),⟨rfl,rfl,rfl⟩,hg37⟩ rfl ?_
               refine za rfl (aY (kj 186 10001 [(0,.ptr 0 0),(1,.arr 10001 (List.length (v6.2.1++[y14.1.Text]))),(2,Bo p1),(8,.arr 10008 (List.length v6.2.2.1)),(9,I v6.2.2.2.1),(10,Bo v6.2.2.2.2)] [(10008,.arr 53 11 (ax.Cs v6.2.2.1)),(0,.box (ah v32.1))] (hE _ rfl) rfl rfl ⟨rfl,rfl⟩ ⟨⟨_,rfl,rfl,rfl⟩,⟨_,rfl,rfl,rfl⟩,⟨_,rfl,rfl,rfl⟩,⟨_,rfl,rfl,rfl⟩,⟨_,rfl,rfl,rfl⟩,⟨_,rfl,rfl,rfl⟩,trivial⟩ ⟨⟨_,rfl,rfl,rfl,rfl,rfl⟩,⟨_,rfl,rfl,rfl,rfl,rfl⟩,trivial⟩) ?_)
               exact zQ hK36 (aa (zm rfl (zn rfl (zf rfl (zl rfl (zd hr h fun hg38 h=>zo hg38 rfl (zn rfl (zf rfl (zs rfl (ao (hK8 _ _ _ h rfl)))))))))))
             · refine zM h (fun (v39:Bool)=>[(0,.ptr 0 0),(1,.arr 10001 (List.length v6.2.1)),(2,Bo p1),(8,.arr 10008 (List.length v6.2.2.1)),(9,I v6.2.2.2.1),(10,Bo v6.2.2.2.2),(94,Bo v39)]) (fun (v39:Bool)=>[(0,.box (ah v32.1)),(10001,.app 9 1 (bS v6.2.1)),(10008,.arr 53 11 (ax.Cs v6.2.2.1))]) (fun v39 h=>?_) fun _ _ hK41 h=>?_
               · refine zB rfl h (fun _ h=>?_) fun _ h=>?_
                 · exact aa (zm rfl (zk hp hr h [0] Tryz.call35 (bu n v32.1) rfl (fun _=>rfl) fun y43 h=>ao (hK8 _ _ _ h rfl)))
                 · refine ab fun _ hK44=>aa (zm rfl (zm rfl (zk hp hr h [0] Tryz.call107 (qR n p1 v32.1) rfl (fun _=>rfl) fun y45 h=>aM 112 (hE _ rfl) ⟨rfl,rfl,rfl,rfl⟩ rfl ?_)))
                   refine zs rfl (zQ hK44 (ab fun _ hK46=>aa (al (lH ej gk rfl rfl rfl) rfl ?_)))
                   refine zf rfl (zs rfl (zQ hK46 (ab fun _ hK47=>aa (za rfl (zQ hK47 (ab fun _ hK48=>aa (zm rfl (zA rfl ?_))))))))
                   refine bL [(ax.mk y45.1.Kind y45.1.cj y45.1.Label y45.1.bk y45.1.bt y45.1.bc y45.1.Body y45.1.b3 v6.2.1 y45.1.Trail y45.1.Pos)] ax.bb ⟨rfl,rfl⟩ rfl ?_
                   refine zd hr h fun hg49 h=>su 126 ⟨jC.h,dL.h,ax.bb,ax.bE,ax.iV,hE _ rfl,rfl,rfl,(.inl rfl),⟨rfl,rfl,rfl⟩,hg49⟩ rfl ?_
                   refine za rfl (aY (iU 126 10008 [(0,.ptr 0 0),(1,Sc (.slice none 0 0)),(2,Bo p1),(8,.arr 10008 (List.length (v6.2.2.1++[(ax.mk y45.1.Kind y45.1.cj y45.1.Label y45.1.bk y45.1.bt y45.1.bc y45.1.Body y45.1.b3 v6.2.1 y45.1.Trail y45.1.Pos)])))] [(0,.box (ah y45.2))] (hE _ rfl) rfl rfl ⟨rfl,rfl⟩ ⟨⟨_,rfl,rfl,rfl⟩,⟨_,rfl,rfl,rfl⟩,⟨_,rfl,rfl,rfl⟩,⟨_,rfl,rfl,rfl⟩,trivial⟩ ⟨⟨_,rfl,rfl,rfl,rfl,rfl⟩,trivial⟩) ?_)
                   refine zQ hK48 (aa (zm rfl (zn rfl (zf rfl (zl rfl (za rfl (za rfl (aY (rZ (d:=1) 10001 (sz:=1) (el:=9) (hE _ rfl) rfl ⟨rfl,rfl,rfl⟩) ?_))))))))
                   exact ao (hK8 _ _ _ h rfl)
               · refine aa (zf rfl (zl rfl (zc rfl (zm rfl (zb (y14.1.Kind==6) (fun hb50=>?_) fun hb50=>?_)))))
                 · exact z1 hb50 h fun h=>zg hb50 rfl (zg hb50 rfl (zy hb50 rfl (za rfl (ao (hK41 _ _ _ h rfl)))))
                 · exact z2 hb50 h fun h=>zG hb50 rfl (aq rfl) (zG hb50 rfl (du rfl) (zw hb50 rfl (za rfl (ao (hK41 _ _ _ h rfl)))))
           · refine aa (zf rfl (zl rfl (zc rfl (zm rfl (zb (y14.1.Kind==6) (fun hb51=>?_) fun hb51=>?_)))))
             · exact z1 hb51 h fun h=>zG hb51 rfl (aq rfl) (zK hb51 rfl hp hr h [0] Tryz.call103 (gR n v21.1) rfl (fun _=>rfl) fun y52 h=>zy hb51 rfl (za rfl (ao (hK34 _ _ _ h rfl))))
             · exact z2 hb51 h fun h=>zg hb51 rfl (zg hb51 rfl (zw hb51 rfl (za rfl (ao (hK34 _ _ _ h rfl)))))
       · refine aa (zf rfl (zl rfl (zc rfl (zm rfl (zb (y14.1.Kind==6) (fun hb53=>?_) fun hb53=>?_)))))
         · refine z1 hb53 h fun h=>zG hb53 rfl (aq rfl) (zG hb53 rfl (bf rfl rfl rfl) (zy hb53 rfl (zm rfl (zb (decide (v6.2.2.2.1>0)) (fun hb54=>?_) fun hb54=>?_))))
           · exact z1 hb54 h fun h=>zG hb54 rfl (aq rfl) (zG hb54 rfl (aq rfl) (zK hb54 rfl hp hr h [0] Tryz.call106 (k6 n v6.2.2.2.1 (ag.mk y14.2.text y14.2.bg y14.2.at_ y11.2.base y14.2.skip y14.2.pending)) rfl (fun _=>rfl) fun y55 h=>zy hb54 rfl (za rfl (ao (hK23 _ _ _ h rfl)))))
           · exact z2 hb54 h fun h=>zg hb54 rfl (zg hb54 rfl (zg hb54 rfl (zw hb54 rfl (za rfl (ao (hK23 _ _ _ h rfl))))))
         · exact z2 hb53 h fun h=>zg hb53 rfl (zg hb53 rfl (zw hb53 rfl (zm rfl (zg rfl rfl (zg rfl rfl (zg rfl rfl (al (dj rfl rfl) rfl (za rfl (ao (hK23 _ _ _ h rfl))))))))))
   · refine aa (zf rfl (zl rfl (zc rfl (zm rfl (zb (y14.1.Kind==7) (fun hb56=>?_) fun hb56=>?_)))))
     · exact z1 hb56 h fun h=>zg hb56 rfl (zg hb56 rfl (zy hb56 rfl (za rfl (ao (hK17 _ _ _ h rfl)))))
     · refine z2 hb56 h fun h=>zG hb56 rfl (hY rfl rfl rfl rfl) ?_
       exact zK hb56 rfl hp hr h [] Tryz.call72 (cd y14.1 ([44]:List UInt8)) rfl (fun _=>rfl) fun y57 h=>zw hb56 rfl (za rfl (ao (hK17 _ _ _ h rfl)))
 · refine bh (hK5 _ _ (ab fun _ hK58=>aa (zm rfl (al (lH ej gk rfl rfl rfl) rfl ?_))))
   refine za rfl (za rfl (zQ hK58 (bK (AT (d:=6) ax.bb ax.bE rfl rfl rfl (hE _ rfl)) ?_)))
   refine bK (Dc 1 (el:=9) (sz:=1) [(0,.ptr 0 0),(1,.arr 10001 (List.length v6.2.1)),(2,Bo p1),(6,.pv (.sl (List.length v6.2.2.1) (ax.Cs v6.2.2.1))),(7,.pv (.sl (List.length v6.2.1) (bS v6.2.1)))] [(0,.box (ah y11.2))] (hE _ rfl) ⟨rfl,rfl,rfl,rfl,rfl,trivial⟩ ⟨rfl,trivial⟩ ⟨rfl,rfl,rfl⟩) ?_
   exact ar (zX (.cons (aw rfl) (.cons (aw rfl) .nil)) h rfl)
def eR (n:Nat) (p0:ag):ay (ag):=
 jn (fun (v1:ag)=>gd (aD (v1.at_+1)) (.ok ((ag.mk v1.text v1.bg (v1.at_+1) v1.base v1.skip v1.pending)))) fun j2=>ay.bind (aH n p0) fun y6=>br (y6.1.Kind !=7) (ay.bind (aH n (ag.mk y6.2.text y6.2.bg y6.2.at_ p0.base y6.2.skip y6.2.pending)) fun y8=>ay.bind (cE y8.1 ([44]:List UInt8)) fun y9=>br (!y9) (ay.bind (bp n (ag.mk y8.2.text y8.2.bg y8.2.at_ p0.base y8.2.skip y8.2.pending)) fun y11=>j2 (y11)) (j2 ((ag.mk y8.2.text y8.2.bg y8.2.at_ p0.base y8.2.skip y8.2.pending)))) (j2 ((ag.mk y6.2.text y6.2.bg y6.2.at_ p0.base y6.2.skip y6.2.pending)))
theorem km (n:Nat) (p0:ag):CT Tryz.prog 58 [.ptr 0 0] [.box (ah p0)] (eR n p0) (fun _=>.eT []) (fun x=>[.box (ah x)]):=by
 refine zC Tryz.func58 rfl fun r hp h hr E hE=>zM h (fun (v1:ag)=>[(0,.ptr 0 0)]) (fun (v1:ag)=>[(0,.box (ah v1))]) (fun v1 h=>?_) fun _ _ hK3 h=>?_
 · exact aa (zm rfl (zn rfl (zf rfl (zl rfl (zd hr h fun hg4 h=>zo hg4 rfl (zn rfl (zf rfl (zs rfl (ao (zY .nil h rfl))))))))))
 · refine ab fun _ hK5=>aa (zm rfl (zk hp hr h [0] Tryz.call34 (aI n p0) rfl (fun _=>rfl) fun y6 h=>al (jU rfl rfl) rfl ?_))
   refine zc rfl (zm rfl (zb (y6.1.Kind !=7) (fun hb7=>?_) fun hb7=>?_))
   · refine z1 hb7 h fun h=>zG hb7 rfl (aq rfl) (zK hb7 rfl hp hr h [0] Tryz.call34 (aI n (ag.mk y6.2.text y6.2.bg y6.2.at_ p0.base y6.2.skip y6.2.pending)) rfl (fun _=>rfl) fun y8 h=>zK hb7 rfl hp hr h [] Tryz.call72 (cd y8.1 ([44]:List UInt8)) rfl (fun _=>rfl) fun y9 h=>zG hb7 rfl (du rfl) (zy hb7 rfl (zQ hK5 (zB rfl h (fun _ h=>?_) fun _ h=>?_))))
     · exact aa (zm rfl (zk hp hr h [0] Tryz.call35 (bu n (ag.mk y8.2.text y8.2.bg y8.2.at_ p0.base y8.2.skip y8.2.pending)) rfl (fun _=>rfl) fun y11 h=>ao (hK3 _ _ _ h rfl)))
     · exact an (hK3 _ _ _ h rfl)
   · refine z2 hb7 h fun h=>zg hb7 rfl (zg hb7 rfl (zg hb7 rfl (zg hb7 rfl (zw hb7 rfl (zQ hK5 (cg rfl (fun hc=>?_) (fun hc=>?_)))))))
     · exact absurd (hc) (by simp)
     · exact an (hK3 _ _ _ h rfl)
end Go.Abs
end
section
namespace Go.Abs
open ay
mutual
inductive gQ:ai→Prop where
 | mk {k:Int} {t:List UInt8} {n:Int} {a b:List UInt8} {subs:List ai} {decls:List ax} {tail:List (List UInt8)} {pos:Int} (h1:subs.length≤70000) (h2:decls.length≤70000) (h3:tail.length≤70000)
   (h4:∀ x,x∈tail→x.length≤65536) (h5:k=16→2≤subs.length) (hs:∀ x,x∈subs→gQ x) (hd:∀ x,x∈decls→kQ x):gQ (ai.mk k t n a b subs decls tail pos)
inductive kQ:ax→Prop where
 | mk {k p:Int} {lb a b:List UInt8} {subs:List ai} {body:List ax} {tail lead:List (List UInt8)} {trail:List UInt8} {pos:Int} (h1:subs.length≤70000) (h2:body.length≤70000) (h3:tail.length≤70000)
   (h4:∀ x,x∈tail→x.length≤65536) (h5:lead.length≤70000) (h6:∀ x,x∈lead→x.length≤65536) (h7:trail.length≤65536) (h8:k=1∨k=2∨k=3→1≤subs.length)
   (hs:∀ x,x∈subs→gQ x) (hd:∀ x,x∈body→kQ x):kQ (ax.mk k p lb a b subs body tail lead trail pos)
end
theorem gQ.l1 {e:ai} (h:gQ e):e.bc.length≤70000:=by cases h;assumption
theorem gQ.l2 {e:ai} (h:gQ e):e.Decls.length≤70000:=by cases h;assumption
theorem gQ.l3 {e:ai} (h:gQ e):e.b3.length≤70000:=by cases h;assumption
theorem gQ.l4 {e:ai} (h:gQ e):∀ x,x∈e.b3→x.length≤65536:=by cases h;assumption
theorem gQ.kd {e:ai} (h:gQ e):e.Kind=16→2≤e.bc.length:=by cases h;assumption
theorem gQ.s {e:ai} (h:gQ e):∀ x,x∈e.bc→gQ x:=by cases h;assumption
theorem gQ.d {e:ai} (h:gQ e):∀ x,x∈e.Decls→kQ x:=by cases h;assumption
theorem kQ.l1 {e:ax} (h:kQ e):e.bc.length≤70000:=by cases h;assumption
theorem kQ.l2 {e:ax} (h:kQ e):e.Body.length≤70000:=by cases h;assumption
theorem kQ.l3 {e:ax} (h:kQ e):e.b3.length≤70000:=by cases h;assumption
theorem kQ.l4 {e:ax} (h:kQ e):∀ x,x∈e.b3→x.length≤65536:=by cases h;assumption
theorem kQ.l5 {e:ax} (h:kQ e):e.jG.length≤70000:=by cases h;assumption
theorem kQ.l6 {e:ax} (h:kQ e):∀ x,x∈e.jG→x.length≤65536:=by cases h;assumption
theorem kQ.l7 {e:ax} (h:kQ e):e.Trail.length≤65536:=by cases h;assumption
theorem kQ.kd {e:ax} (h:kQ e):e.Kind=1∨e.Kind=2∨e.Kind=3→1≤e.bc.length:=by cases h;assumption
theorem kQ.s {e:ax} (h:kQ e):∀ x,x∈e.bc→gQ x:=by cases h;assumption
theorem kQ.d {e:ax} (h:kQ e):∀ x,x∈e.Body→kQ x:=by cases h;assumption
theorem TS {k:Int} {t:List UInt8} {n:Int} {a b:List UInt8} {l:List ai} {d:List ax} {tl:List (List UInt8)} {p:Int}:(ai.mk k t n a b l d tl p).bc=l:=rfl
theorem gQ.of {k:Int} {t:List UInt8} {n:Int} {a b:List UInt8} {subs:List ai} {pos:Int} (h1:subs.length≤70000) (h5:k=16→2≤subs.length) (hs:∀ x,x∈subs→gQ x):gQ (ai.mk k t n a b subs [] [] pos):=
 .mk h1 (by simp) (by simp) (by simp) h5 hs (by simp)
theorem gQ.leaf {k:Int} {t:List UInt8} {n:Int} {a b:List UInt8} {pos:Int} (h5:k≠16):gQ (ai.mk k t n a b [] [] [] pos):=.of (by simp) (fun q=>absurd q h5) (by simp)
theorem gQ.one {k:Int} {t:List UInt8} {n:Int} {a b:List UInt8} {x:ai} {pos:Int} (h5:k≠16) (hx:gQ x):gQ (ai.mk k t n a b [x] [] [] pos):=.of (by simp) (fun q=>absurd q h5) (by simpa using hx)
theorem gQ.two {k:Int} {t:List UInt8} {n:Int} {a b:List UInt8} {x y:ai} {pos:Int} (hx:gQ x) (hy:gQ y):gQ (ai.mk k t n a b [x,y] [] [] pos):=.of (by simp) (fun _=>by simp) (by simp;exact ⟨hx,hy⟩)
theorem Be {e x:ai} (h:x∈e.bc):SizeOf.sizeOf x<SizeOf.sizeOf e:=by
 cases e;have:=List.sizeOf_lt_of_mem h;simp only[ai.bc] at this;simp;omega
theorem Bf {e:ai} {x:ax} (h:x∈e.Decls):SizeOf.sizeOf x<SizeOf.sizeOf e:=by
 cases e;have:=List.sizeOf_lt_of_mem h;simp only[ai.Decls] at this;simp;omega
theorem CG {e:ax} {x:ai} (h:x∈e.bc):SizeOf.sizeOf x<SizeOf.sizeOf e:=by
 cases e;have:=List.sizeOf_lt_of_mem h;simp only[ax.bc] at this;simp;omega
theorem DB {e x:ax} (h:x∈e.Body):SizeOf.sizeOf x<SizeOf.sizeOf e:=by
 cases e;have:=List.sizeOf_lt_of_mem h;simp only[ax.Body] at this;simp;omega
theorem s9 {c v:Int} (h0:0≤v) (h1:v≤c) {p:ag}:∀ (N:Nat) {m:Nat→Nat} {e:ai},b1 m→SizeOf.sizeOf e<N→gQ e→Ev (fun i=>bB (m i) e v p) (fun r=>r.2=p∧gQ r.1) (PP c):=by
 intro N
 induction N with
 | zero=>intro m e _ h;exact absurd h (Nat.not_lt_zero _)
 | succ N ih=>
  intro m e hm hN he
  refine Ev.grow (F:=fun n=>bB n e v p) hm fun m hm=>?_
  show Ev (fun i=>gv (m i) (fk (m i)) e v p) _ _
  unfold gv
  refine Ev.bm (fun hk=>?_) (fun _=>?_)
  ·have h2:=he.kd hk
   refine Ev.el (by omega) (by omega) fun x hx=>Ev.el (by omega) (by omega) fun y hy=>?_
   have hx:=List.mem_of_getElem? hx
   have hy:=List.mem_of_getElem? hy
   refine Ev.bind (ih hm (by have:=Be hx;omega) (he.s _ hx)) (fun _ q=>q) fun x2 hx2=>?_
   rw[hx2.1]
   refine Ev.bind (ih hm (by have:=Be hy;omega) (he.s _ hy)) (fun _ q=>q) fun y2 hy2=>?_
   exact Ev.ok ⟨hy2.1,.mk (by simp) he.l2 he.l3 he.l4 (fun _=>by simp) (by simp;exact ⟨hx2.2,hy2.2⟩) he.d⟩
  ·refine Ev.bm (fun _=>?_) (fun _=>Ev.ok ⟨rfl,he⟩)
   have hl:=he.l2
   refine Ev.iter hm (fun (x:ag×List ax×Int)=>x.1=p∧0≤x.2.2∧x.2.2≤e.Decls.length∧x.2.1.length=x.2.2∧∀ d,d∈x.2.1→kQ d) (fun x=>(e.Decls.length - x.2.2).toNat) ⟨rfl,by simp,by simp,by simp,by simp⟩ ?_
   rintro x ⟨hx1,hx2,hx3,hx4,hx5⟩ next hn
   refine Ev.aW (fun hlt=>?_) (fun _=>Ev.ok ⟨hx1,.mk he.l1 (by omega) he.l3 he.l4 (by simp) he.s hx5⟩)
   refine Ev.el (by omega) (by omega) fun d hd=>?_
   have hd:=List.mem_of_getElem? hd
   have hds:=he.d _ hd
   refine Ev.jn (fun w=>w.1=p∧kQ w.2) (fun w hw=>?_) (fun j hj=>?_)
   ·refine Ev.gd (by (first|omega|(simp only[aL,maxLen,List.length_cons,List.length_nil]<;>omega)|(simp[aD,aL,aN,maxLen]<;>omega))) (Ev.gd (by (first|omega|(simp only[aD]<;>omega)|(simp[aD,aL,aN,maxLen]<;>omega))) (hn _ ⟨hw.1,by dsimp only;omega,by dsimp only;omega,by simp;omega,fun z hz=>?_⟩ (by dsimp only;omega)))
    rcases List.mem_append.1 hz with q|q
    ·exact hx5 z q
    ·simp at q;subst q;exact hw.2
   ·refine Ev.jn (fun _=>True) (fun w _=>?_) (fun j2 hj2=>?_)
    ·refine Ev.br (fun _=>tQ h0 h1) (fun _=>?_)
     refine Ev.jn (fun w=>w=true→d.Kind=1∨d.Kind=2∨d.Kind=3) (fun w hw=>?_) (fun j2 hj2=>?_)
     ·refine Ev.br (fun hw2=>?_) (fun _=>hj _ ⟨hx1,hds⟩)
      have:=hds.kd (hw hw2)
      refine Ev.el (by omega) (by omega) fun y hy=>?_
      have hy:=List.mem_of_getElem? hy
      rw[hx1]
      refine Ev.bind (ih hm (by have:=CG hy;have:=Bf hd;omega) (hds.s _ hy)) (fun _ q=>q) fun y2 hy2=>?_
      exact hj _ ⟨hy2.1,.mk (by simp) hds.l2 hds.l3 hds.l4 hds.l5 hds.l6 hds.l7 (fun _=>by simp) (by simpa using hy2.2) hds.d⟩
     ·refine Ev.bm (fun h=>hj2 _ fun _=>.inl h) (fun _=>Ev.bm (fun h=>hj2 _ fun _=>.inr (.inl h)) (fun _=>hj2 _ fun h=>.inr (.inr (by simpa using h))))
    ·(repeat' (first|((with_reducible refine Ev.gd ?_ ?_);(next=>(first|omega|(simp only[aD,aL,aN,maxLen,List.length_append,List.length_cons,List.length_nil]<;>omega)|(simp[aD,aL,aN,maxLen]<;>omega))))|with_reducible refine Ev.cq ?_|with_reducible refine Ev.cr ?_|with_reducible refine Ev.aW (fun _=>?_) (fun _=>?_)|with_reducible refine Ev.bm (fun _=>?_) (fun _=>?_)|with_reducible refine Ev.bM (fun _=>?_) (fun _=>?_)|with_reducible refine Ev.bj (fun _=>?_) (fun _=>?_)|with_reducible refine Ev.br (fun _=>?_) (fun _=>?_)|((with_reducible refine Ev.el ?_ ?_ (fun _ _=>?_));(next=>(first|omega|(simp only[aD,aL,aN,maxLen,List.length_append,List.length_cons,List.length_nil]<;>omega)|(simp[aD,aL,aN,maxLen]<;>omega)));(next=>(first|omega|(simp only[aD,aL,aN,maxLen,List.length_append,List.length_cons,List.length_nil]<;>omega)|(simp[aD,aL,aN,maxLen]<;>omega))))|((with_reducible refine Ev.ka ?_);try dsimp only)))
     all_goals exact hj2 _ trivial
section
variable {s:List UInt8} {T:List aS} {b:Int} {α X:Type} {Q:α→Prop} {R:rX→Prop} {m:Nat→Nat} {a:Int} {k:Bool} {q:Option ai} {c:Int}
def QS (q:Option ai):Prop:=∀ e,q=some e→gQ e
theorem QS.none:QS none:=fun _ h=>by cases h
def St (s:List UInt8) (T:List aS) (b:Int) (k:Bool) (a d:Int) (p:ag):Prop:=∃ a' q',p=dh s T a' b k q'∧a≤a'∧a'+d<T.length∧QS q'
theorem ey {d:Int} {F:Nat→ay (X×ag)} {P:X→Prop} {K:Nat→X×ag→ay α} (h:Ev F (fun r=>St s T b k a d r.2∧P r.1) (PP c))
  (hk:∀ x a' q',a≤a'→a'+d<T.length→QS q'→P x→Ev (fun i=>K i (x,dh s T a' b k q')) Q (PP c)):Ev (fun i=>ay.bind (F i) (K i)) Q (PP c):=by
 refine Ev.bind h (fun _ q=>q) fun r hr=>?_
 obtain ⟨x,p⟩:=r
 obtain ⟨⟨a',q',hp,h1,h2,h3⟩,h4⟩:=hr
 dsimp only at hp
 subst hp
 exact hk x a' q' h1 h2 h3 h4
theorem rP {d:Int} {F:Nat→ay (ag×X)} {P:X→Prop} {K:Nat→ag×X→ay α} (h:Ev F (fun r=>St s T b k a d r.1∧P r.2) (PP c))
  (hk:∀ x a' q',a≤a'→a'+d<T.length→QS q'→P x→Ev (fun i=>K i (dh s T a' b k q',x)) Q (PP c)):Ev (fun i=>ay.bind (F i) (K i)) Q (PP c):=by
 refine Ev.bind h (fun _ q=>q) fun r hr=>?_
 obtain ⟨p,x⟩:=r
 obtain ⟨⟨a',q',hp,h1,h2,h3⟩,h4⟩:=hr
 dsimp only at hp
 subst hp
 exact hk x a' q' h1 h2 h3 h4
theorem oX (hm:b1 m) {v:Int} (h0:0≤v) (h1:v≤c) {e:ai} (he:gQ e) {p:ag} {K:Nat→ai×ag→ay α} (hk:∀ x,gQ x→Ev (fun i=>K i (x,p)) Q (PP c)) :
  Ev (fun i=>ay.bind (bB (m i) e v p) (K i)) Q (PP c):=by
 refine Ev.bind (s9 h0 h1 _ hm (Nat.lt_succ_self _) he) (fun _ q=>q) fun r hr=>?_
 obtain ⟨x,p'⟩:=r
 obtain ⟨h1,h2⟩:=hr
 dsimp only at h1
 subst h1
 exact hk x h2
def xI (T:List aS) (a:Int):Prop:=∃ t u,T[a.toNat]?=some t∧t.Kind=5∧T[(a+1).toNat]?=some u∧u.Kind≠0∧u.Kind≠7∧(u.Kind=5→∃ w,T[(a+2).toNat]?=some w∧w.Kind=3)
theorem wI (hm:b1 m) (hC:PC s T b) (h0:0≤a) (h1:a<T.length) {K:Nat→Bool×ag→ay α}
  (hk:∀ a' r,a≤a'→a'<T.length→(∀ u,T[a.toNat]?=some u→(k=true→u.Kind≠7)→a'=a)→(r=true→xI T a')→Ev (fun i=>K i (r,dh s T a' b k q)) Q R):Ev (fun i=>ay.bind (fT (m i) (dh s T a b k q)) (K i)) Q R:=by
 refine Ev.bind (Q:=fun r=>∃ a' x,r=(x,dh s T a' b k q)∧a≤a'∧a'<T.length∧(∀ u,T[a.toNat]?=some u→(k=true→u.Kind≠7)→a'=a)∧(x=true→xI T a')) (R':=gp) ?_ (fun _ q=>q.elim) fun r hr=>?_
 ·unfold fT
  have hl:=hC.kL
  refine dI hm hC h0 h1 fun a' t h2 h3 h4 h5 h6=>?_
  dsimp only
  refine iZ fun r hr1 hr2=>Ev.bj (fun _=>Ev.ok ⟨a',_,rfl,h2,h3,h6,by simp⟩) (fun hr=>?_)
  obtain ⟨g1,g2⟩:=hr1 hr
  refine Ev.jn (fun v=>v.1=dh s T a' b k q∧2≤v.2∧v.2≤3∧xI T a') (fun v hv=>?_) (fun j hj=>?_)
  ·refine Ev.iter hm (fun (x:ag×Int)=>x.1=dh s T a' b k q∧2≤x.2∧x.2≤T.length+3) (fun x=>(T.length+4 - x.2).toNat) ⟨hv.1,hv.2.1,by dsimp only;omega⟩ ?_
   rintro x ⟨hx1,hx2,hx3⟩ next hn
   rw[hx1]
   refine lD hC (by omega) h3 (by omega) (by omega) fun u hu=>?_
   dsimp only
   refine Ev.bm (fun h7=>?_) (fun _=>?_)
   ·have:=(hu (by omega)).2
    exact Ev.gd (by (first|omega|(simp only[aD]<;>omega)|(simp[aD,aL,aN,maxLen]<;>omega))) (hn _ ⟨rfl,by dsimp only;omega,by dsimp only;omega⟩ (by dsimp only;omega))
   ·refine lD hC (by omega) h3 (by omega) (by omega) fun u hu=>?_
    dsimp only
    refine iZ fun r _ _=>Ev.br (fun _=>?_) (fun _=>Ev.ok ⟨a',_,rfl,h2,h3,h6,by simp⟩)
    refine Ev.gd (by (first|omega|(simp only[aD]<;>omega)|(simp[aD,aL,aN,maxLen]<;>omega))) (lD hC (by omega) h3 (by omega) (by omega) fun u hu=>?_)
    dsimp only
    exact iZ fun r _ _=>Ev.ok ⟨a',_,rfl,h2,h3,h6,fun _=>hv.2.2.2⟩
  ·refine lD hC (by omega) h3 (by omega) (by omega) fun u hu=>?_
   dsimp only
   refine mU fun r hr1 hr2=>Ev.bj (fun _=>?_) (fun hr=>?_)
   ·refine lD hC (by omega) h3 (by omega) (by omega) fun u hu=>?_
    dsimp only
    refine iZ fun r hr1 hr2=>Ev.bj (fun _=>Ev.ok ⟨a',_,rfl,h2,h3,h6,by simp⟩) (fun hr=>?_)
    obtain ⟨q1,q2⟩:=hr1 hr
    refine lD hC (by omega) h3 (by omega) (by omega) fun w hw=>?_
    dsimp only
    refine Ev.bM (fun _=>Ev.ok ⟨a',_,rfl,h2,h3,h6,by simp⟩) (fun h3=>?_)
    exact hj _ ⟨rfl,by simp,by simp,t,u,h4,g1,(hu (by omega)).1,by omega,by omega,fun _=>⟨w,(hw (by omega)).1,h3⟩⟩
   ·obtain ⟨q1,q2⟩:=hr1 hr
    exact hj _ ⟨rfl,by simp,by simp,t,u,h4,g1,(hu (by omega)).1,by omega,by omega,fun _=>by omega⟩
 ·obtain ⟨a',x,rfl,h⟩:=hr
  exact hk a' x h.1 h.2.1 h.2.2.1 h.2.2.2
theorem ta (hm:b1 m) (hC:PC s T b) (h0:0≤a) (hc:b+s.length≤c) (hq:QS q) {u:aS} (hu:T[a.toNat]?=some u) (hk0:u.Kind≠0) (hk7:u.Kind≠7) (hw:u.Kind=5→∃ w,T[(a+1).toNat]?=some w∧w.Kind=3) {d:ax} :
  Ev (fun i=>il (m i) true (dh s T a b k q) d) (fun r=>St s T b k a 1 r.1∧(r.2=d∨∃ l,r.2=ax.mk d.Kind d.cj l d.bk d.bt d.bc d.Body d.b3 d.jG d.Trail d.Pos)) (PP c):=by
 have hl:=hC.kL
 have h1:a<T.length:=by have:=(List.getElem?_eq_some_iff.1 hu).1;omega
 unfold il
 refine rP (b:=b) (T:=T) (s:=s) (k:=true) (a:=a) (d:=1) (P:=fun x=>x=d∨∃ l,x=ax.mk d.Kind d.cj l d.bk d.bt d.bc d.Body d.b3 d.jG d.Trail d.Pos) ?_ fun x a' q' h2 h3 h4 h5=>Ev.ok ⟨⟨a',q',rfl,h2,h3,h4⟩,h5⟩
 unfold iX
 dsimp only
 refine Ev.jn (fun v=>(∃ a',v.1=dh s T a' b true q∧a≤a'∧a'+1<T.length)∧(v.2=d∨∃ l,v.2=ax.mk d.Kind d.cj l d.bk d.bt d.bc d.Body d.b3 d.jG d.Trail d.Pos)) (fun v hv=>?_) (fun j hj=>?_)
 ·obtain ⟨⟨a',hv1,hv2,hv3⟩,hv4⟩:=hv
  rw[hv1]
  refine Ev.gd (by (first|omega|(simp only[aD]<;>omega)|(simp[aD,aL,aN,maxLen]<;>omega))) (mb hm hC (by dsimp only;omega) (by dsimp only;omega) hc fun a2 t h2 h3 h4 h5 _=>Ev.ok ⟨⟨a2,q,rfl,by dsimp only at h2;omega,h3,hq⟩,hv4⟩)
 ·refine kh hm hC h0 h1 (fun a' t h2 h3 h4 h5 h6 h7=>?_) (fun a' t h2 h3 h4 h5 h6 h7=>?_)
  ·dsimp only
   have ha:=h7 u hu (fun _=>hk7)
   subst ha
   have:u=t:=by
    have e:a+1 - 1=a:=by omega
    rw[e,hu] at h4;cases h4;rfl
   subst this
   obtain ⟨w,hw1,hw2⟩:=hw h5
   refine Ev.cq ?_
   refine dI hm hC (by omega) h3 fun a2 t2 h8 h9 h10 h11 h12=>?_
   dsimp only
   have ha2:=h12 w hw1 (fun _=>by omega)
   subst ha2
   have hnx:=hC.next (by omega) hw1 (by omega)
   refine Ev.bind (qU hm) (fun _ q=>q.elim) fun y _=>?_
   refine Ev.bM (fun _=>fy hm hC (by omega) h9 hc) (fun _=>hj _ ⟨⟨_,rfl,by omega,by omega⟩,.inr ⟨_,rfl⟩⟩)
  ·dsimp only
   have ha:=h7 u hu (fun _=>hk7)
   subst ha
   have hnx:=hC.next (by omega) hu hk0
   exact Ev.cr (hj _ ⟨⟨_,rfl,by omega,by omega⟩,.inl rfl⟩)
end
end Go.Abs
end
section
namespace Go.Abs
open ay
section
variable {s:List UInt8} {T:List aS} {b:Int}
structure PG (s:List UInt8) (T:List aS) (b:Int) (K:Nat):Prop where
 expr:∀ {m:Nat→Nat} {a:Int} {k:Bool} {q:Option ai} {j:Bool},b1 m→0≤a→a<T.length→QS q→64*(T.length - a).toNat+13<K→Ev (fun i=>aG (m i) j (dh s T a b k q)) (fun r=>St s T b k a 0 r.2∧gQ r.1) (PP (b+s.length))
 alt:∀ {m:Nat→Nat} {a:Int} {k:Bool} {q:Option ai} {j:Bool},b1 m→0≤a→a<T.length→QS q→64*(T.length - a).toNat+12<K→Ev (fun i=>bH (m i) j (dh s T a b k q)) (fun r=>St s T b k a 0 r.2∧gQ r.1) (PP (b+s.length))
 Cd:∀ {m:Nat→Nat} {a:Int} {k:Bool} {q:Option ai} {j:Bool},b1 m→0≤a→a<T.length→QS q→64*(T.length - a).toNat+11<K→Ev (fun i=>bI (m i) j (dh s T a b k q)) (fun r=>St s T b k a 0 r.2∧gQ r.1) (PP (b+s.length))
 bin:∀ {m:Nat→Nat} {a l:Int} {k:Bool} {q:Option ai} {j:Bool},b1 m→0≤a→a<T.length→QS q→0≤l→l≤5→64*(T.length - a).toNat+(10 - l).toNat<K→Ev (fun i=>bU (m i) l j (dh s T a b k q)) (fun r=>St s T b k a 0 r.2∧gQ r.1) (PP (b+s.length))
 unary:∀ {m:Nat→Nat} {a:Int} {k:Bool} {q:Option ai} {j:Bool},b1 m→0≤a→a<T.length→QS q→64*(T.length - a).toNat+4<K→Ev (fun i=>cQ (m i) j (dh s T a b k q)) (fun r=>St s T b k a 0 r.2∧gQ r.1) (PP (b+s.length))
 post:∀ {m:Nat→Nat} {a:Int} {k:Bool} {q:Option ai} {j:Bool},b1 m→0≤a→a<T.length→QS q→64*(T.length - a).toNat+3<K→Ev (fun i=>cA (m i) j (dh s T a b k q)) (fun r=>St s T b k a 0 r.2∧gQ r.1) (PP (b+s.length))
 Eh:∀ {m:Nat→Nat} {a:Int} {k:Bool} {q:Option ai} {j:Bool},b1 m→0≤a→a<T.length→QS q→64*(T.length - a).toNat+2<K→Ev (fun i=>c8 (m i) j (dh s T a b k q)) (fun r=>St s T b k a 0 r.2∧gQ r.1) (PP (b+s.length))
 named:∀ {m:Nat→Nat} {a:Int} {k:Bool} {q:Option ai} {t:aS},b1 m→0≤a→a<T.length→QS q→T[a.toNat]?=some t→t.Kind=1→64*(T.length - a).toNat+1<K→Ev (fun i=>dy (m i) (dh s T a b k q)) (fun r=>St s T b k a 0 r.2∧gQ r.1) (PP (b+s.length))
 Bg:∀ {m:Nat→Nat} {a:Int} {k:Bool} {q:Option ai} {t:aS},b1 m→0≤a→a<T.length→T[a.toNat]?=some t→t.Kind=4→64*(T.length - a).toNat+1<K→Ev (fun i=>dq (m i) t (b+t.Pos) (dh s T a b k q)) (fun r=>r.2=dh s T a b k q∧gQ r.1) (PP (b+s.length))
 parens:∀ {m:Nat→Nat} {a:Int} {k:Bool} {q:Option ai} {j:Bool},b1 m→0≤a→a<T.length→QS q→64*(T.length - a).toNat+1<K→Ev (fun i=>cI (m i) j (dh s T a b k q)) (fun r=>St s T b k (a+1) 0 r.2∧gQ r.1) (PP (b+s.length))
 Bh:∀ {m:Nat→Nat} {a:Int} {k:Bool} {q:Option ai} {j:Bool},b1 m→0≤a→a<T.length→QS q→64*(T.length - a).toNat+1<K→Ev (fun i=>dn (m i) j (dh s T a b k q)) (fun r=>St s T b k a 0 r.2∧gQ r.1) (PP (b+s.length))
 list:∀ {m:Nat→Nat} {a:Int} {k:Bool} {q:Option ai},b1 m→0≤a→a<T.length→QS q→64*(T.length - a).toNat+1<K→Ev (fun i=>dR (m i) (dh s T a b k q)) (fun r=>St s T b k a 0 r.2∧gQ r.1) (PP (b+s.length))
 block:∀ {m:Nat→Nat} {a:Int} {k:Bool} {q:Option ai} {j:Bool},b1 m→0≤a→a<T.length→QS q→64*(T.length - a).toNat<K→Ev (fun i=>cw (m i) j (dh s T a b k q)) (fun r=>St s T b k a 0 r.2.2∧r.1.length≤70000∧(∀ d,d∈r.1→kQ d)∧r.2.1.length≤70000∧∀ x,x∈r.2.1→x.length≤65536) (PP (b+s.length))
 args:∀ {m:Nat→Nat} {a:Int} {k:Bool} {q:Option ai},b1 m→0≤a→a<T.length→QS q→64*(T.length - a).toNat+1<K→Ev (fun i=>dP (m i) (dh s T a b k q)) (fun r=>St s T b k a 0 r.2∧r.1.length≤70000∧∀ x,x∈r.1→gQ x) (PP (b+s.length))
 item:∀ {m:Nat→Nat} {a:Int} {k:Bool} {q:Option ai},b1 m→0≤a→a<T.length→QS q→64*(T.length - a).toNat+14<K→Ev (fun i=>dQ (m i) (dh s T a b k q)) (fun r=>St s T b k a 0 r.2∧gQ r.1) (PP (b+s.length))
 field:∀ {m:Nat→Nat} {a:Int} {k:Bool} {q:Option ai} {j:Bool} {d:ax} {t:aS},b1 m→0≤a→a<T.length→QS q→kQ d→T[a.toNat]?=some t→t.Kind≠0→t.Kind≠7→64*(T.length - a).toNat+14<K→Ev (fun i=>dx (m i) j (dh s T a b k q) d) (fun r=>St s T b k a 0 r.1∧kQ r.2) (PP (b+s.length))
 pattern:∀ {m:Nat→Nat} {a:Int} {k:Bool} {q:Option ai} {j:Bool} {d:ax},b1 m→0≤a→a<T.length→QS q→kQ d→xI T a→64*(T.length - a).toNat+14<K→Ev (fun i=>c7 (m i) j (dh s T a b k q) d) (fun r=>St s T b k a 0 r.1∧kQ r.2) (PP (b+s.length))
 yW:∀ {m:Nat→Nat} {a:Int} {k:Bool} {q:Option ai} {j:Bool} {d:ax},b1 m→0≤a→a<T.length→QS q→kQ d→64*(T.length - a).toNat+14<K→Ev (fun i=>c6 (m i) j (dh s T a b k q) d) (fun r=>St s T b k a 0 r.1∧kQ r.2) (PP (b+s.length))
 decl:∀ {m:Nat→Nat} {a:Int} {k:Bool} {q:Option ai} {j:Bool} {t:aS},b1 m→0≤a→a<T.length→QS q→T[a.toNat]?=some t→t.Kind≠0→t.Kind≠7→64*(T.length - a).toNat+17<K→Ev (fun i=>cF (m i) j (dh s T a b k q)) (fun r=>St s T b k a 0 r.2∧kQ r.1) (PP (b+s.length))
 decls:∀ {m:Nat→Nat} {a:Int} {k:Bool} {q:Option ai} {j:Bool},b1 m→0≤a→a<T.length→QS q→64*(T.length - a).toNat+18<K→Ev (fun i=>dp (m i) j (dh s T a b k q)) (fun r=>St s T b k a 0 r.2.2∧r.1.length≤70000∧(∀ d,d∈r.1→kQ d)∧r.2.1.length≤70000∧∀ x,x∈r.2.1→x.length≤65536) (PP (b+s.length))
variable {K:Nat} {m:Nat→Nat} {a:Int} {k:Bool} {q:Option ai} {j:Bool}
theorem Ce (hC:PC s T b) (ih:PG s T b K) (hm:b1 m) (h0:0≤a) (h1:a<T.length) (hq:QS q) (hK:64*(T.length - a).toNat+13<K+1) :
  Ev (fun i=>aG (m i) j (dh s T a b k q)) (fun r=>St s T b k a 0 r.2∧gQ r.1) (PP (b+s.length)):=by
 refine Ev.grow (F:=fun n=>aG n j (dh s T a b k q)) hm fun m hm=>?_
 show Ev (fun i=>iw (m i) (au (m i)) j (dh s T a b k q)) _ _
 unfold iw
 have hl:=hC.kL
 dsimp only
 refine Ev.jn (fun v=>St s T b k a 0 v.1) (fun v hv=>?_) (fun jj hj=>?_)
 ·obtain ⟨p,w⟩:=v
  obtain ⟨a1,q1,hp,h2,h3,hq1⟩:=hv
  dsimp only at hp;subst hp;dsimp only
  refine Ev.jn (fun v=>St s T b k a 0 v.1∧gQ v.2) (fun v hv=>?_) (fun jj hj=>?_)
  ·obtain ⟨p,e⟩:=v
   obtain ⟨⟨a2,q2,hp,h4,h5,hq2⟩,he⟩:=hv
   dsimp only at hp he;subst hp;dsimp only
   refine Ev.jn (fun v=>St s T b k a 0 v) (fun v hv=>?_) (fun jj hj=>?_)
   ·obtain ⟨a3,q3,rfl,h6,h7,hq3⟩:=hv
    dsimp only
    refine Ev.jn (fun v=>St s T b k a 0 v) (fun v hv=>?_) (fun jj hj=>?_)
    ·obtain ⟨a4,q4,rfl,h8,h9,hq4⟩:=hv
     refine kp hm hC (by omega) (by omega) fun a5 t v h10 h11 _ _ _ h12 h13=>?_
     dsimp only
     refine oX hm h12 h13 he fun x hx=>?_
     dsimp only
     refine Ev.iter hm (fun (x:ag×List ai)=>St s T b k a 0 x.1∧1≤x.2.length∧(x.2.length:Int)≤x.1.at_+1∧∀ e,e∈x.2→gQ e) (fun x=>(T.length - x.1.at_).toNat) ⟨⟨_,q4,rfl,by omega,by omega,hq4⟩,by simp,by simp;omega,by simpa using hx⟩ ?_
     rintro ⟨p,l⟩ ⟨⟨a6,q6,hp,h14,h15,hq6⟩,hl1,hl2,hl3⟩ next hn
     dsimp only at hp hl1 hl2 hl3;subst hp;dsimp only at hn hl2 ⊢
     refine kh hm hC (by omega) (by omega) (fun a7 t h16 h17 _ _ _ _=>?_) (fun a7 t h16 h17 _ _ _ _=>?_)
     ·dsimp only
      refine Ev.cq (ey (ih.alt hm (by omega) h17 hq6 (by omega)) fun e a8 q8 h18 h19 hq8 he8=>?_)
      dsimp only
      refine Ev.gd (by (first|omega|(simp only[aL,maxLen,List.length_cons,List.length_nil]<;>omega)|(simp[aD,aL,aN,maxLen]<;>omega))) (hn _ ⟨⟨a8,q8,rfl,by omega,h19,hq8⟩,by simp,by simp;omega,fun z hz=>?_⟩ (by dsimp only;omega))
      rcases List.mem_append.1 hz with w|w
      ·exact hl3 z w
      ·simp at w;subst w;exact he8
     ·dsimp only
      refine Ev.cr (Ev.el (by omega) (by omega) fun x hx=>Ev.ok ⟨⟨a7,q6,rfl,by omega,by omega,hq6⟩,.of (by omega) (by simp) hl3⟩)
    ·refine dI hm hC (by omega) (by omega) fun a4 t h8 h9 _ _ _=>?_
     dsimp only
     refine iZ fun r _ _=>Ev.bj (fun _=>fy hm hC (by omega) h9 (by omega)) (fun _=>hj _ ⟨a4,q3,rfl,by omega,by omega,hq3⟩)
   ·refine Ev.bj (fun _=>?_) (fun _=>hj _ ⟨a2,q2,rfl,h4,h5,hq2⟩)
    refine dI hm hC (by omega) (by omega) fun a4 t h8 h9 _ _ _=>?_
    dsimp only
    exact iZ fun r _ _=>Ev.bj (fun _=>Ev.ok ⟨⟨a4,q2,rfl,by omega,by omega,hq2⟩,he⟩) (fun _=>hj _ ⟨a4,q2,rfl,by omega,by omega,hq2⟩)
  ·refine Ev.br (fun _=>ey (ih.alt hm (by omega) (by omega) hq1 (by omega)) fun e a2 q2 h4 h5 hq2 he=>hj _ ⟨⟨a2,q2,rfl,by omega,h5,hq2⟩,he⟩) (fun _=>ey (ih.alt hm (by omega) (by omega) hq1 (by omega)) fun e a2 q2 h4 h5 hq2 he=>hj _ ⟨⟨a2,q2,rfl,by omega,h5,hq2⟩,he⟩)
 ·refine Ev.br (fun _=>?_) (fun _=>hj _ ⟨a,q,rfl,by omega,by omega,hq⟩)
  refine dI hm hC h0 h1 fun a4 t h8 h9 _ _ _=>?_
  dsimp only
  exact iZ fun r _ _=>hj _ ⟨a4,q,rfl,by omega,by omega,hq⟩
theorem DC (hC:PC s T b) (ih:PG s T b K) (hm:b1 m) (h0:0≤a) (h1:a<T.length) (hq:QS q) (hK:64*(T.length - a).toNat+12<K+1) :
  Ev (fun i=>bH (m i) j (dh s T a b k q)) (fun r=>St s T b k a 0 r.2∧gQ r.1) (PP (b+s.length)):=by
 refine Ev.grow (F:=fun n=>bH n j (dh s T a b k q)) hm fun m hm=>?_
 show Ev (fun i=>eV (m i) (au (m i)) j (dh s T a b k q)) _ _
 unfold eV
 have hl:=hC.kL
 dsimp only
 refine Ev.br (fun _=>?_) (fun _=>?_)
 ·refine kp hm hC h0 h1 fun a2 t v h2 h3 _ _ _ _ _=>?_
  dsimp only
  refine kh hm hC (by omega) h3 (fun a3 t h4 h5 _ _ _ _=>?_) (fun a3 t h4 h5 _ _ _ _=>?_)
  ·dsimp only
   exact Ev.cq (ey (ih.Cd hm (by omega) h5 hq (by omega)) fun e a4 q4 h6 h7 hq4 he=>Ev.ok ⟨⟨a4,q4,rfl,by omega,h7,hq4⟩,.one (by decide) he⟩)
  ·dsimp only
   exact Ev.cr (ey (ih.Cd hm (by omega) h5 hq (by omega)) fun e a4 q4 h6 h7 hq4 he=>Ev.ok ⟨⟨a4,q4,rfl,by omega,h7,hq4⟩,he⟩)
 ·exact ey (ih.Cd hm (by omega) h1 hq (by omega)) fun e a4 q4 h6 h7 hq4 he=>Ev.ok ⟨⟨a4,q4,rfl,by omega,h7,hq4⟩,he⟩
theorem Cf (hC:PC s T b) (ih:PG s T b K) (hm:b1 m) (h0:0≤a) (h1:a<T.length) (hq:QS q) (hK:64*(T.length - a).toNat+11<K+1) :
  Ev (fun i=>bI (m i) j (dh s T a b k q)) (fun r=>St s T b k a 0 r.2∧gQ r.1) (PP (b+s.length)):=by
 refine Ev.grow (F:=fun n=>bI n j (dh s T a b k q)) hm fun m hm=>?_
 show Ev (fun i=>eW (m i) (au (m i)) j (dh s T a b k q)) _ _
 unfold eW
 refine ey (ih.bin hm h0 h1 hq (by omega) (by omega) (by omega)) fun e a2 q2 h2 h3 hq2 he=>?_
 dsimp only
 refine Ev.iter hm (fun (x:ag×ai)=>St s T b k a 0 x.1∧gQ x.2) (fun x=>(T.length - x.1.at_).toNat) ⟨⟨a2,q2,rfl,h2,h3,hq2⟩,he⟩ ?_
 rintro ⟨p,e⟩ ⟨⟨a3,q3,hp,h4,h5,hq3⟩,he⟩ next hn
 dsimp only at hp he;subst hp;dsimp only at hn ⊢
 refine kh hm hC (by omega) (by omega) (fun a4 t h6 h7 _ _ _ _=>?_) (fun a4 t h6 h7 _ _ _ _=>?_)
 ·dsimp only
  exact Ev.cq (ey (ih.bin hm (by omega) h7 hq3 (by omega) (by omega) (by omega)) fun e2 a5 q5 h8 h9 hq5 he5=>hn _ ⟨⟨a5,q5,rfl,by omega,h9,hq5⟩,.two he he5⟩ (by dsimp only;omega))
 ·exact Ev.cr (Ev.ok ⟨⟨a4,q3,rfl,by omega,by omega,hq3⟩,he⟩)
theorem wJ {l:Int}:Ev (fun _=>kf l) (fun r=>r.length≤100) gp:=by
 unfold kf
 (repeat' (first|((with_reducible refine Ev.gd ?_ ?_);(next=>(first|omega|(simp only[aD,aL,aN,maxLen,List.length_append,List.length_cons,List.length_nil]<;>omega)|(simp[aD,aL,aN,maxLen]<;>omega))))|with_reducible refine Ev.cq ?_|with_reducible refine Ev.cr ?_|with_reducible refine Ev.aW (fun _=>?_) (fun _=>?_)|with_reducible refine Ev.bm (fun _=>?_) (fun _=>?_)|with_reducible refine Ev.bM (fun _=>?_) (fun _=>?_)|with_reducible refine Ev.bj (fun _=>?_) (fun _=>?_)|with_reducible refine Ev.br (fun _=>?_) (fun _=>?_)|((with_reducible refine Ev.el ?_ ?_ (fun _ _=>?_));(next=>(first|omega|(simp only[aD,aL,aN,maxLen,List.length_append,List.length_cons,List.length_nil]<;>omega)|(simp[aD,aL,aN,maxLen]<;>omega)));(next=>(first|omega|(simp only[aD,aL,aN,maxLen,List.length_append,List.length_cons,List.length_nil]<;>omega)|(simp[aD,aL,aN,maxLen]<;>omega))))|((with_reducible refine Ev.ka ?_);try dsimp only)))
 all_goals exact Ev.ok (by simp)
theorem DD (hC:PC s T b) (ih:PG s T b K) {l:Int} (hm:b1 m) (h0:0≤a) (h1:a<T.length) (hq:QS q) (hl0:0≤l) (hl5:l≤5) (hK:64*(T.length - a).toNat+(10 - l).toNat<K+1) :
  Ev (fun i=>bU (m i) l j (dh s T a b k q)) (fun r=>St s T b k a 0 r.2∧gQ r.1) (PP (b+s.length)):=by
 refine Ev.grow (F:=fun n=>bU n l j (dh s T a b k q)) hm fun m hm=>?_
 show Ev (fun i=>gx (m i) (au (m i)) l j (dh s T a b k q)) _ _
 unfold gx
 have hl:=hC.kL
 refine Ev.aW (fun _=>ey (ih.unary hm h0 h1 hq (by omega)) fun e a4 q4 h6 h7 hq4 he=>Ev.ok ⟨⟨a4,q4,rfl,by omega,h7,hq4⟩,he⟩) (fun _=>?_)
 refine Ev.gd (by (first|omega|(simp only[aD]<;>omega)|(simp[aD,aL,aN,maxLen]<;>omega))) (ey (ih.bin hm h0 h1 hq (by omega) (by omega) (by omega)) fun e a2 q2 h2 h3 hq2 he=>?_)
 dsimp only
 refine Ev.iter hm (fun (x:ag×ai)=>St s T b k a 0 x.1∧gQ x.2) (fun x=>(T.length - x.1.at_).toNat) ⟨⟨a2,q2,rfl,h2,h3,hq2⟩,he⟩ ?_
 rintro ⟨p,e⟩ ⟨⟨a3,q3,hp,h4,h5,hq3⟩,he⟩ next hn
 dsimp only at hp he;subst hp;dsimp only at hn ⊢
 refine dI hm hC (by omega) (by omega) fun a4 t h6 h7 ht h8 _=>?_
 dsimp only
 refine Ev.bind wJ (fun _ q=>q.elim) fun ops hops=>sB hm (by omega) fun r hr=>Ev.br (fun hr1=>?_) (fun _=>Ev.ok ⟨⟨a4,q3,rfl,by omega,by omega,hq3⟩,he⟩)
 have hk5:=hr hr1
 have hnx:=hC.next (by omega) ht (by omega)
 refine kp hm hC (by omega) h7 fun a5 t5 v h9 h10 _ h11 _ h12 h13=>?_
 have e5:=h11 t ht h8
 subst e5
 dsimp only
 refine oX hm h12 h13 he fun x hx=>?_
 dsimp only
 refine dI hm hC (by omega) h7 fun a6 t6 h14 h15 _ _ h16=>?_
 have e6:=h16 t ht h8
 subst e6
 dsimp only
 refine Ev.gd (by (first|omega|(simp only[aD]<;>omega)|(simp[aD,aL,aN,maxLen]<;>omega))) (Ev.gd (by (first|omega|(simp only[aD]<;>omega)|(simp[aD,aL,aN,maxLen]<;>omega))) (ey (ih.bin hm (by omega) hnx hq3 (by omega) (by omega) (by omega)) fun e2 a7 q7 h17 h18 hq7 he7=>hn _ ⟨⟨a7,q7,rfl,by omega,h18,hq7⟩,.two hx he7⟩ (by dsimp only;omega)))
theorem Bi (hC:PC s T b) (ih:PG s T b K) (hm:b1 m) (h0:0≤a) (h1:a<T.length) (hq:QS q) (hK:64*(T.length - a).toNat+4<K+1) :
  Ev (fun i=>cQ (m i) j (dh s T a b k q)) (fun r=>St s T b k a 0 r.2∧gQ r.1) (PP (b+s.length)):=by
 refine Ev.grow (F:=fun n=>cQ n j (dh s T a b k q)) hm fun m hm=>?_
 show Ev (fun i=>gW (m i) (au (m i)) j (dh s T a b k q)) _ _
 unfold gW
 have hl:=hC.kL
 dsimp only
 refine Ev.br (fun _=>ey (ih.post hm h0 h1 hq (by omega)) fun e a4 q4 h6 h7 hq4 he=>Ev.ok ⟨⟨a4,q4,rfl,by omega,h7,hq4⟩,he⟩) (fun _=>?_)
 refine dI hm hC h0 h1 fun a2 t h2 h3 ht h4 _=>?_
 dsimp only
 refine kp hm hC (by omega) h3 fun a5 t5 v h9 h10 _ h11 _ h12 h13=>?_
 have e5:=h11 t ht h4
 subst e5
 dsimp only
 refine Ev.jn (fun v=>v≠16∧t.Kind=5) (fun w hw=>?_) (fun jj hj=>?_)
 ·have hnx:=hC.next (by omega) ht (by omega)
  exact Ev.gd (by (first|omega|(simp only[aD]<;>omega)|(simp[aD,aL,aN,maxLen]<;>omega))) (ey (ih.unary hm (by omega) hnx hq (by omega)) fun e a4 q4 h6 h7 hq4 he=>Ev.ok ⟨⟨a4,q4,rfl,by omega,h7,hq4⟩,.one hw.1 he⟩)
 ·refine sB hm (by simp) fun r hr=>Ev.br (fun hr1=>hj _ ⟨by decide,hr hr1⟩) (fun _=>?_)
  refine sB hm (by simp) fun r hr=>Ev.br (fun hr1=>hj _ ⟨by decide,hr hr1⟩) (fun _=>?_)
  exact ey (ih.post hm (by omega) h3 hq (by omega)) fun e a4 q4 h6 h7 hq4 he=>Ev.ok ⟨⟨a4,q4,rfl,by omega,h7,hq4⟩,he⟩
theorem Bj (hC:PC s T b) (ih:PG s T b K) (hm:b1 m) (h0:0≤a) (h1:a<T.length) (hq:QS q) (hK:64*(T.length - a).toNat+13<K) {e:ai} (he:gQ e) :
  Ev (fun i=>db (m i) true (dh s T a b k q) e) (fun r=>St s T b k a 1 r.1∧gQ r.2) (PP (b+s.length)):=by
 refine Ev.grow (F:=fun n=>db n true (dh s T a b k q) e) hm fun m hm=>?_
 show Ev (fun i=>fp (m i) (au (m i)) true (dh s T a b k q) e) _ _
 unfold fp
 dsimp only
 refine ey (k:=true) (a:=a) (d:=1) (P:=gQ) ?_ fun x a' q' h2 h3 h4 h5=>Ev.ok ⟨⟨a',q',rfl,h2,h3,h4⟩,h5⟩
 refine Ev.grow (F:=fun n=>dD n e (dh s T a b true q)) hm fun m hm=>?_
 show Ev (fun i=>fl (m i) (au (m i)) e (dh s T a b true q)) _ _
 unfold fl
 refine ey (ih.expr hm h0 h1 hq hK) fun x a2 q2 h2 h3 h4 h5=>?_
 dsimp only
 exact mb hm hC (by omega) (by omega) (by omega) fun a3 t h6 h7 _ _ _=>Ev.ok ⟨⟨a3,q2,rfl,by omega,h7,h4⟩,.two he h5⟩
theorem Cg (hC:PC s T b) (ih:PG s T b K) (hm:b1 m) (h0:0≤a) (h1:a<T.length) (hq:QS q) (hK:64*(T.length - a).toNat+3<K+1) :
  Ev (fun i=>cA (m i) j (dh s T a b k q)) (fun r=>St s T b k a 0 r.2∧gQ r.1) (PP (b+s.length)):=by
 refine Ev.grow (F:=fun n=>cA n j (dh s T a b k q)) hm fun m hm=>?_
 show Ev (fun i=>fY (m i) (au (m i)) j (dh s T a b k q)) _ _
 unfold fY
 have hl:=hC.kL
 refine ey (ih.Eh hm h0 h1 hq (by omega)) fun e a2 q2 h2 h3 hq2 he=>?_
 dsimp only
 refine Ev.iter hm (fun (x:ag×ai)=>St s T b k a 0 x.1∧gQ x.2) (fun x=>(T.length - x.1.at_).toNat) ⟨⟨a2,q2,rfl,h2,h3,hq2⟩,he⟩ ?_
 rintro ⟨p,e⟩ ⟨⟨a3,q3,hp,h4,h5,hq3⟩,he⟩ next hn
 dsimp only at hp he;subst hp;dsimp only at hn ⊢
 refine dI hm hC (by omega) (by omega) fun a4 t h6 h7 ht h8 _=>?_
 dsimp only
 refine kp hm hC (by omega) h7 fun a5 t5 v h9 h10 _ h11 _ h12 h13=>?_
 have e5:=h11 t ht h8
 subst e5
 dsimp only
 refine iZ fun r hr _=>Ev.br (fun hr1=>?_) (fun _=>?_)
 ·have hk5:=(hr hr1).1
  have hnx:=hC.next (by omega) ht (by omega)
  refine oX hm h12 h13 he fun x hx=>?_
  dsimp only
  refine Ev.gd (by (first|omega|(simp only[aD]<;>omega)|(simp[aD,aL,aN,maxLen]<;>omega))) (dI hm hC (by omega) hnx fun a6 t6 h14 h15 ht6 _ _=>?_)
  dsimp only
  refine Ev.jn (fun v=>v=dh s T a6 b k q3∧t6.Kind≠0) (fun v hv=>?_) (fun jj hj=>?_)
  ·obtain ⟨rfl,h16⟩:=hv
   have hnx6:=hC.next (by omega) ht6 h16
   exact Ev.gd (by (first|omega|(simp only[aD]<;>omega)|(simp[aD,aL,aN,maxLen]<;>omega))) (hn _ ⟨⟨a6+1,q3,rfl,by omega,by omega,hq3⟩,.one (by decide) hx⟩ (by dsimp only;omega))
  ·exact uL hm fun r hr=>Ev.bj (fun _=>fy hm hC (by omega) h15 (by omega)) (fun hr1=>hj _ ⟨rfl,by have:=hr hr1;omega⟩)
 ·refine iZ fun r hr _=>Ev.br (fun hr1=>?_) (fun _=>Ev.ok ⟨⟨a5,q3,rfl,by omega,by omega,hq3⟩,he⟩)
  have hk5:=(hr hr1).1
  have hnx:=hC.next (by omega) ht (by omega)
  refine oX hm h12 h13 he fun x hx=>?_
  dsimp only
  refine Ev.gd (by (first|omega|(simp only[aD]<;>omega)|(simp[aD,aL,aN,maxLen]<;>omega))) (rP (Bj hC ih hm (by omega) hnx hq3 (by omega) hx) fun x a6 q6 h14 h15 hq6 hx6=>?_)
  dsimp only
  exact Ev.gd (by (first|omega|(simp only[aD]<;>omega)|(simp[aD,aL,aN,maxLen]<;>omega))) (hn _ ⟨⟨a6+1,q6,rfl,by omega,by omega,hq6⟩,hx6⟩ (by dsimp only;omega))
end
end Go.Abs
end
section
namespace Go.Abs
open ay
section
variable {s:List UInt8} {T:List aS} {b:Int} {K:Nat} {m:Nat→Nat} {a:Int} {k:Bool} {q:Option ai} {j:Bool}
theorem Ch (hC:PC s T b) (ih:PG s T b K) (hm:b1 m) (h0:0≤a) (h1:a<T.length) (hq:QS q) (hK:64*(T.length - a).toNat+2<K+1) :
  Ev (fun i=>c8 (m i) j (dh s T a b k q)) (fun r=>St s T b k a 0 r.2∧gQ r.1) (PP (b+s.length)):=by
 refine Ev.grow (F:=fun n=>c8 n j (dh s T a b k q)) hm fun m hm=>?_
 show Ev (fun i=>fZ (m i) (au (m i)) j (dh s T a b k q)) _ _
 unfold fZ
 have hl:=hC.kL
 dsimp only
 cases q with
 | some e=>exact Ev.cq (Ev.some rfl (Ev.ok ⟨⟨a,none,rfl,by omega,by omega,.none⟩,hq e rfl⟩))
 | none=>
  refine Ev.cr ?_
  refine dI hm hC h0 h1 fun a2 t h2 h3 ht h4 _=>?_
  dsimp only
  refine kp hm hC (by omega) h3 fun a5 t5 v h9 h10 ht5 h11 hv h12 h13=>?_
  have e5:=h11 t ht h4
  subst e5
  rw[ht] at ht5;cases ht5
  dsimp only
  refine Ev.jn (fun v=>v.1=dh s T a5 b k none∧gQ v.2∧t.Kind≠0) (fun w hw=>?_) (fun jj hj=>?_)
  ·obtain ⟨p,e⟩:=w
   obtain ⟨hp,he,hk⟩:=hw
   dsimp only at hp he;subst hp;dsimp only
   have hnx:=hC.next (by omega) ht hk
   exact Ev.gd (by (first|omega|(simp only[aD]<;>omega)|(simp[aD,aL,aN,maxLen]<;>omega))) (Ev.ok ⟨⟨a5+1,none,rfl,by omega,by omega,.none⟩,he⟩)
  ·refine Ev.bm (fun hk=>?_) (fun _=>?_)
   ·exact ey (ih.named hm (by omega) h3 .none ht hk (by omega)) fun e a4 q4 h6 h7 hq4 he=>Ev.ok ⟨⟨a4,q4,rfl,by omega,h7,hq4⟩,he⟩
   refine Ev.bm (fun hk=>?_) (fun _=>?_)
   ·exact Ev.bind (qK hm) (fun _ q=>q.elim) fun y _=>hj _ ⟨rfl,.leaf (by decide),by omega⟩
   refine Ev.bm (fun hk=>hj _ ⟨rfl,.leaf (by decide),by omega⟩) (fun _=>?_)
   refine Ev.bm (fun hk=>?_) (fun _=>?_)
   ·rw[hv]
    refine Ev.bind (ih.Bg hm (by omega) h3 ht hk (by omega)) (fun _ q=>q) fun y hy=>?_
    exact hj _ ⟨hy.1,hy.2,by omega⟩
   refine iZ fun r hr _=>Ev.br (fun hr1=>hj _ ⟨rfl,.leaf (by decide),by have:=(hr hr1).1;omega⟩) (fun _=>?_)
   refine iZ fun r hr _=>Ev.br (fun hr1=>hj _ ⟨rfl,.leaf (by decide),by have:=(hr hr1).1;omega⟩) (fun _=>?_)
   refine iZ fun r hr _=>Ev.br (fun hr1=>?_) (fun _=>?_)
   ·exact ey (ih.parens hm (by omega) h3 .none (by omega)) fun e a4 q4 h6 h7 hq4 he=>Ev.ok ⟨⟨a4,q4,rfl,by omega,h7,hq4⟩,he⟩
   refine iZ fun r hr _=>Ev.br (fun hr1=>?_) (fun _=>?_)
   ·exact ey (ih.Bh hm (by omega) h3 .none (by omega)) fun e a4 q4 h6 h7 hq4 he=>Ev.ok ⟨⟨a4,q4,rfl,by omega,h7,hq4⟩,he⟩
   refine iZ fun r hr _=>Ev.br (fun hr1=>?_) (fun _=>?_)
   ·exact ey (ih.list hm (by omega) h3 .none (by omega)) fun e a4 q4 h6 h7 hq4 he=>Ev.ok ⟨⟨a4,q4,rfl,by omega,h7,hq4⟩,he⟩
   exact fy hm hC (by omega) h3 (by omega)
theorem Bk (hC:PC s T b) (ih:PG s T b K) (hm:b1 m) (h0:0≤a) (h1:a<T.length) (hq:QS q) {t:aS} (ht:T[a.toNat]?=some t) (hk:t.Kind=1) (hK:64*(T.length - a).toNat+1<K+1) :
  Ev (fun i=>dy (m i) (dh s T a b k q)) (fun r=>St s T b k a 0 r.2∧gQ r.1) (PP (b+s.length)):=by
 refine Ev.grow (F:=fun n=>dy n (dh s T a b k q)) hm fun m hm=>?_
 show Ev (fun i=>gV (m i) (au (m i)) (dh s T a b k q)) _ _
 unfold gV
 have hl:=hC.kL
 have hnx:=hC.next (by omega) ht (by omega)
 refine dI hm hC h0 h1 fun a2 t2 h2 h3 ht2 h4 e2=>?_
 have e2:=e2 t ht (fun _=>by omega)
 subst e2
 rw[ht] at ht2;cases ht2
 dsimp only
 refine kp hm hC (by omega) h3 fun a5 t5 v h9 h10 ht5 h11 hv h12 h13=>?_
 have e5:=h11 t ht h4
 subst e5
 dsimp only
 refine Ev.jn (fun v=>v.Kind≠16) (fun w hw=>?_) (fun jj hj=>?_)
 ·exact Ev.gd (by (first|omega|(simp only[aD]<;>omega)|(simp[aD,aL,aN,maxLen]<;>omega))) (Ev.ok ⟨⟨a5+1,q,rfl,by omega,by omega,hq⟩,.leaf hw⟩)
 ·refine Ev.bm (fun _=>hj _ (by simp[ai.Kind])) (fun _=>?_)
  refine Ev.jn (fun _=>True) (fun w _=>?_) (fun j2 hj2=>?_)
  ·refine Ev.br (fun _=>Ev.bm (fun _=>hj _ (by simp[ai.Kind])) (fun _=>hj _ (by simp[ai.Kind]))) (fun _=>?_)
   refine Ev.jn (fun _=>True) (fun w _=>?_) (fun j2 hj2=>?_)
   ·refine Ev.br (fun _=>hj _ (by simp[ai.Kind])) (fun _=>?_)
    refine rp hm hC h0 h3 (by omega) fun a6 x h14 h15=>?_
    dsimp only
    refine dI hm hC (by omega) h15 fun a7 t7 h16 h17 _ _ _=>?_
    dsimp only
    refine iZ fun r _ _=>Ev.br (fun _=>?_) (fun _=>Ev.ok ⟨⟨a7,q,rfl,by omega,by omega,hq⟩,.leaf (by decide)⟩)
    exact ey (P:=fun l:List ai=>l.length≤70000∧∀ x,x∈l→gQ x) (ih.args hm (by omega) h17 hq (by omega)) fun e a4 q4 h6 h7 hq4 he=>Ev.ok ⟨⟨a4,q4,rfl,by omega,h7,hq4⟩,.of he.1 (by simp) he.2⟩
   ·refine Ev.bm (fun _=>hj2 _ trivial) (fun _=>Ev.bm (fun _=>hj2 _ trivial) (fun _=>Ev.bm (fun _=>hj2 _ trivial) (fun _=>hj2 _ trivial)))
  ·exact Ev.bm (fun _=>hj2 _ trivial) (fun _=>hj2 _ trivial)
def sa (s:List UInt8) (b:Int):Prop:=∀ {m:Nat→Nat} {x:List UInt8} {f:Int},b1 m→x.length<s.length→0≤f→f+x.length≤b+s.length→Ev (fun i=>ir (m i) x f) (fun r=>gQ r.1) gp
theorem zU (hC:PC s T b) (hX:sa s b) (hm:b1 m) (_:0≤a) (_:a<T.length) {t:aS} (ht:T[a.toNat]?=some t) (hk:t.Kind=4) :
  Ev (fun i=>dq (m i) t (b+t.Pos) (dh s T a b k q)) (fun r=>r.2=dh s T a b k q∧gQ r.1) (PP (b+s.length)):=by
 refine Ev.grow (F:=fun n=>dq n t (b+t.Pos) (dh s T a b k q)) hm fun m hm=>?_
 show Ev (fun i=>gz (m i) (au (m i)) t (b+t.Pos) (dh s T a b k q)) _ _
 unfold gz
 have hbs:=hC.bs
 have hb0:=hC.b0
 obtain ⟨g0,g1,g2,g3,g4,_⟩:=hC.tok ht
 have g4:=g4 hk
 refine Ev.bind (pR hm (by omega)) (fun _ q=>q.elim) fun y hy=>?_
 refine Ev.iter hm (fun (x:ag×ai×Int)=>x.1=dh s T a b k q∧0≤x.2.2∧x.2.2≤y.1.length∧x.2.1.bc.length≤x.2.2∧x.2.1.Kind=5∧∀ e,e∈x.2.1.bc→gQ e) (fun x=>(y.1.length - x.2.2).toNat) ⟨rfl,by simp,by simp,by simp[TS],rfl,by simp[TS]⟩ ?_
 rintro ⟨p,e,i⟩ ⟨hp,h2,h3,h4,h5,h6⟩ next hn
 dsimp only at hp h2 h3 h4 h5 h6 hn ⊢
 subst hp
 have hyl:=hy.1
 refine Ev.aW (fun hlt=>?_) (fun _=>Ev.ok ⟨rfl,.of (by omega) (by omega) h6⟩)
 refine Ev.el (by omega) (by omega) fun x hx=>?_
 obtain ⟨x0,x1,x2⟩:=hy.2 x (List.mem_of_getElem? hx)
 refine Ev.gd (by (first|omega|(simp only[aD]<;>omega)|(simp[aD,aL,aN,maxLen]<;>omega))) (Ev.gd (by (first|omega|(simp only[aD]<;>omega)|(simp[aD,aL,aN,maxLen]<;>omega))) (Ev.bj (fun _=>?_) (fun hc=>?_)))
 ·refine Ev.gd (by (first|omega|(simp only[aL,maxLen,List.length_cons,List.length_nil]<;>omega)|(simp[aD,aL,aN,maxLen]<;>omega))) (Ev.gd (by (first|omega|(simp only[aD]<;>omega)|(simp[aD,aL,aN,maxLen]<;>omega))) (hn _ ⟨rfl,by dsimp only;omega,by dsimp only;omega,by simp[TS];omega,h5,fun z hz=>?_⟩ (by dsimp only;omega)))
  rcases List.mem_append.1 hz with w|w
  ·exact h6 z w
  ·simp at w;subst w;exact .leaf (by decide)
 ·have x2:=x2 hc
  refine Ev.bind (hX hm (x:=x.Text) (f:=b+t.Pos+1+x.Pos) (by omega) (by omega) (by omega)) (fun _ q=>q.elim) fun z hz=>?_
  refine Ev.bj (fun _=>tQ (by omega) (by omega)) (fun _=>?_)
  refine Ev.gd (by (first|omega|(simp only[aL,maxLen,List.length_cons,List.length_nil]<;>omega)|(simp[aD,aL,aN,maxLen]<;>omega))) (Ev.gd (by (first|omega|(simp only[aD]<;>omega)|(simp[aD,aL,aN,maxLen]<;>omega))) (hn _ ⟨rfl,by dsimp only;omega,by dsimp only;omega,by simp[TS];omega,h5,fun z2 hz2=>?_⟩ (by dsimp only;omega)))
  rcases List.mem_append.1 hz2 with w|w
  ·exact h6 z2 w
  ·simp at w;subst w;exact hz
theorem zV (hC:PC s T b) (ih:PG s T b K) (hm:b1 m) (h0:0≤a) (h1:a<T.length) (hq:QS q) (hK:64*(T.length - a).toNat+1<K+1) :
  Ev (fun i=>cI (m i) j (dh s T a b k q)) (fun r=>St s T b k (a+1) 0 r.2∧gQ r.1) (PP (b+s.length)):=by
 refine Ev.grow (F:=fun n=>cI n j (dh s T a b k q)) hm fun m hm=>?_
 show Ev (fun i=>gB (m i) (au (m i)) j (dh s T a b k q)) _ _
 unfold gB
 have hl:=hC.kL
 refine ja hm hC h0 h1 (by omega) fun a2 t h2 h3 _ _ _ _=>?_
 refine rP (s:=s) (T:=T) (b:=b) (k:=k) (a:=a+1) (d:=1) (P:=fun x:Bool×ai=>gQ x.2) ?_ fun x a3 q3 h4 h5 hq3 he=>?_
 ·refine Ev.grow (F:=fun n=>dF n true (dh s T a2 b k q) j (ai.mk 0 [] 0 [] [] [] [] [] 0)) hm fun m hm=>?_
  show Ev (fun i=>fo (m i) (au (m i)) true (dh s T a2 b k q) j (ai.mk 0 [] 0 [] [] [] [] [] 0)) _ _
  unfold fo
  dsimp only
  refine Ev.bind (Q:=fun r=>St s T b true (a+1) 1 r.2.2∧gQ r.2.1) (R':=PP (b+s.length)) ?_ (fun _ q=>q) fun r hr=>?_
  ·refine Ev.grow (F:=fun n=>dS n j (ai.mk 0 [] 0 [] [] [] [] [] 0) (dh s T a2 b true q)) hm fun m hm=>?_
   show Ev (fun i=>fH (m i) (au (m i)) j (ai.mk 0 [] 0 [] [] [] [] [] 0) (dh s T a2 b true q)) _ _
   unfold fH
   refine ey (ih.expr hm (by omega) h3 hq (by omega)) fun x a3 q3 h4 h5 hq3 he=>?_
   dsimp only
   exact mb hm hC (by omega) (by omega) (by omega) fun a4 t h6 h7 _ _ _=>Ev.ok ⟨⟨a4,q3,rfl,by omega,h7,hq3⟩,he⟩
  ·obtain ⟨x,e,p⟩:=r
   obtain ⟨⟨a3,q3,hp,h4,h5,hq3⟩,he⟩:=hr
   dsimp only at hp he;subst hp
   exact Ev.ok ⟨⟨a3,q3,rfl,h4,h5,hq3⟩,he⟩
 ·dsimp only
  exact Ev.gd (by (first|omega|(simp only[aD]<;>omega)|(simp[aD,aL,aN,maxLen]<;>omega))) (Ev.ok ⟨⟨a3+1,q3,rfl,by omega,by omega,hq3⟩,he⟩)
theorem Bl (hC:PC s T b) (ih:PG s T b K) (hm:b1 m) (h0:0≤a) (h1:a<T.length) (hq:QS q) (hK:64*(T.length - a).toNat<K+1) :
  Ev (fun i=>cw (m i) j (dh s T a b k q)) (fun r=>St s T b k a 0 r.2.2∧r.1.length≤70000∧(∀ d,d∈r.1→kQ d)∧r.2.1.length≤70000∧∀ x,x∈r.2.1→x.length≤65536) (PP (b+s.length)):=by
 refine Ev.grow (F:=fun n=>cw n j (dh s T a b k q)) hm fun m hm=>?_
 show Ev (fun i=>gT (m i) (au (m i)) j (dh s T a b k q)) _ _
 unfold gT
 have hl:=hC.kL
 refine ja hm hC h0 h1 (by omega) fun a2 t h2 h3 _ _ _ _=>?_
 refine rP (s:=s) (T:=T) (b:=b) (k:=k) (a:=a+1) (d:=1) (P:=fun r:Bool×List ax×List (List UInt8)=>r.2.1.length≤70000∧(∀ d,d∈r.2.1→kQ d)∧r.2.2.length≤70000∧∀ x,x∈r.2.2→x.length≤65536) ?_ fun x a3 q3 h4 h5 hq3 he=>?_
 ·refine Ev.grow (F:=fun n=>dE n false (dh s T a2 b k q) j [] []) hm fun m hm=>?_
  show Ev (fun i=>fm (m i) (au (m i)) false (dh s T a2 b k q) j [] []) _ _
  unfold fm
  dsimp only
  refine Ev.bind (Q:=fun r=>St s T b false (a+1) 1 r.2.2.2∧r.2.1.length≤70000∧(∀ d,d∈r.2.1→kQ d)∧r.2.2.1.length≤70000∧∀ x,x∈r.2.2.1→x.length≤65536) (R':=PP (b+s.length)) ?_ (fun _ q=>q) fun r hr=>?_
  ·refine Ev.grow (F:=fun n=>dZ n j [] [] (dh s T a2 b false q)) hm fun m hm=>?_
   show Ev (fun i=>fV (m i) (au (m i)) j [] [] (dh s T a2 b false q)) _ _
   unfold fV
   refine Ev.bind (ih.decls hm (by omega) h3 hq (by omega)) (fun _ q=>q) fun r hr=>?_
   obtain ⟨x,e,p⟩:=r
   obtain ⟨⟨a3,q3,hp,h4,h5,hq3⟩,he⟩:=hr
   dsimp only at hp he;subst hp
   dsimp only
   exact mb hm hC (by omega) (by omega) (by omega) fun a4 t h6 h7 _ _ _=>Ev.ok ⟨⟨a4,q3,rfl,by omega,h7,hq3⟩,he⟩
  ·obtain ⟨x,y,e,p⟩:=r
   obtain ⟨⟨a3,q3,hp,h4,h5,hq3⟩,he⟩:=hr
   dsimp only at hp he;subst hp
   exact Ev.ok ⟨⟨a3,q3,rfl,h4,h5,hq3⟩,he⟩
 ·dsimp only
  exact Ev.gd (by (first|omega|(simp only[aD]<;>omega)|(simp[aD,aL,aN,maxLen]<;>omega))) (Ev.ok ⟨⟨a3+1,q3,rfl,by omega,by omega,hq3⟩,he⟩)
theorem zW (hC:PC s T b) (ih:PG s T b K) (hm:b1 m) (h0:0≤a) (h1:a<T.length) (hq:QS q) (hK:64*(T.length - a).toNat+1<K+1) :
  Ev (fun i=>dn (m i) j (dh s T a b k q)) (fun r=>St s T b k a 0 r.2∧gQ r.1) (PP (b+s.length)):=by
 refine Ev.grow (F:=fun n=>dn n j (dh s T a b k q)) hm fun m hm=>?_
 show Ev (fun i=>gy (m i) (au (m i)) j (dh s T a b k q)) _ _
 unfold gy
 refine kp hm hC h0 h1 fun a2 t v h2 h3 _ _ _ _ _=>?_
 dsimp only
 refine Ev.jn (fun v=>v.Kind≠16) (fun w hw=>?_) (fun jj hj=>?_)
 ·refine Ev.bind (ih.block hm (by omega) h3 hq (by omega)) (fun _ q=>q) fun r hr=>?_
  obtain ⟨x,e,p⟩:=r
  obtain ⟨⟨a3,q3,hp,h4,h5,hq3⟩,he1,he2,he3,he4⟩:=hr
  dsimp only at hp he1 he2 he3 he4;subst hp
  exact Ev.ok ⟨⟨a3,q3,rfl,by omega,h5,hq3⟩,.mk (by simp) he1 he3 he4 (fun q=>absurd q hw) (by simp) he2⟩
 ·exact Ev.br (fun _=>hj _ (by simp[ai.Kind])) (fun _=>hj _ (by simp[ai.Kind]))
theorem Ci (hC:PC s T b) (ih:PG s T b K) (hm:b1 m) (h0:0≤a) (h1:a<T.length) (hq:QS q) (hK:64*(T.length - a).toNat+1<K+1) :
  Ev (fun i=>dP (m i) (dh s T a b k q)) (fun r=>St s T b k a 0 r.2∧r.1.length≤70000∧∀ x,x∈r.1→gQ x) (PP (b+s.length)):=by
 refine Ev.grow (F:=fun n=>dP n (dh s T a b k q)) hm fun m hm=>?_
 show Ev (fun i=>iu (m i) (au (m i)) (dh s T a b k q)) _ _
 unfold iu
 have hl:=hC.kL
 refine ja hm hC h0 h1 (by omega) fun a2 t h2 h3 _ _ _ _=>?_
 refine rP (s:=s) (T:=T) (b:=b) (k:=k) (a:=a+1) (d:=1) (P:=fun r:List ai=>r.length≤70000∧∀ x,x∈r→gQ x) ?_ fun x a3 q3 h4 h5 hq3 he=>?_
 ·refine Ev.grow (F:=fun n=>dH n true (dh s T a2 b k q) []) hm fun m hm=>?_
  show Ev (fun i=>fu (m i) (au (m i)) true (dh s T a2 b k q) []) _ _
  unfold fu
  dsimp only
  refine ey (k:=true) (a:=a+1) (d:=1) (P:=fun r:List ai=>r.length≤70000∧∀ x,x∈r→gQ x) ?_ fun x a' q' h2 h3 h4 h5=>Ev.ok ⟨⟨a',q',rfl,h2,h3,h4⟩,h5⟩
  refine Ev.grow (F:=fun n=>ep n [] (dh s T a2 b true q)) hm fun m hm=>?_
  show Ev (fun i=>gw (m i) (au (m i)) [] (dh s T a2 b true q)) _ _
  unfold gw
  refine dI hm hC (by omega) h3 fun a3 t3 h4 h5 _ _ _=>?_
  dsimp only
  refine iZ fun r _ _=>Ev.bj (fun _=>?_) (fun _=>?_)
  ·refine ey (ih.expr hm (by omega) h5 hq (by omega)) fun x a4 q4 h6 h7 hq4 he=>?_
   dsimp only
   refine Ev.gd (by (first|omega|(simp only[aL,maxLen,List.length_cons,List.length_nil]<;>omega)|(simp[aD,aL,aN,maxLen]<;>omega))) ?_
   refine Ev.iter hm (fun (x:List ai×ag)=>St s T b true (a+1) 0 x.2∧(x.1.length:Int)≤x.2.at_+1∧∀ e,e∈x.1→gQ e) (fun x=>(T.length - x.2.at_).toNat) ⟨⟨a4,q4,rfl,by omega,h7,hq4⟩,by simp;omega,by simpa using he⟩ ?_
   rintro ⟨l,p⟩ ⟨⟨a6,q6,hp,h14,h15,hq6⟩,hl2,hl3⟩ next hn
   dsimp only at hp hl2 hl3;subst hp;dsimp only at hn hl2 ⊢
   refine kh hm hC (by omega) (by omega) (fun a7 t h16 h17 _ _ _ _=>?_) (fun a7 t h16 h17 _ _ _ _=>?_)
   ·dsimp only
    refine Ev.cq (ey (ih.expr hm (by omega) h17 hq6 (by omega)) fun e a8 q8 h18 h19 hq8 he8=>?_)
    dsimp only
    refine Ev.gd (by (first|omega|(simp only[aL,maxLen,List.length_cons,List.length_nil]<;>omega)|(simp[aD,aL,aN,maxLen]<;>omega))) (hn _ ⟨⟨a8,q8,rfl,by omega,h19,hq8⟩,by simp;omega,fun z hz=>?_⟩ (by dsimp only;omega))
    rcases List.mem_append.1 hz with w|w
    ·exact hl3 z w
    ·simp at w;subst w;exact he8
   ·dsimp only
    refine Ev.cr (mb hm hC (by omega) (by omega) (by omega) fun a8 t h18 h19 _ _ _=>Ev.ok ⟨⟨a8,q6,rfl,by omega,h19,hq6⟩,by dsimp only;omega,hl3⟩)
  ·exact mb hm hC (by omega) (by omega) (by omega) fun a8 t h18 h19 _ _ _=>Ev.ok ⟨⟨a8,q,rfl,by omega,h19,hq⟩,by simp,by simp⟩
 ·dsimp only
  exact Ev.gd (by (first|omega|(simp only[aD]<;>omega)|(simp[aD,aL,aN,maxLen]<;>omega))) (Ev.ok ⟨⟨a3+1,q3,rfl,by omega,by omega,hq3⟩,he⟩)
theorem Cj (hC:PC s T b) (ih:PG s T b K) (hm:b1 m) (h0:0≤a) (h1:a<T.length) (hq:QS q) (hK:64*(T.length - a).toNat+14<K+1) :
  Ev (fun i=>dQ (m i) (dh s T a b k q)) (fun r=>St s T b k a 0 r.2∧gQ r.1) (PP (b+s.length)):=by
 refine Ev.grow (F:=fun n=>dQ n (dh s T a b k q)) hm fun m hm=>?_
 show Ev (fun i=>iy (m i) (au (m i)) (dh s T a b k q)) _ _
 unfold iy
 refine kp hm hC h0 h1 fun a2 t v h2 h3 _ _ _ _ _=>?_
 dsimp only
 refine dI hm hC (by omega) h3 fun a3 t3 h4 h5 _ _ _=>?_
 dsimp only
 refine mU fun r _ _=>Ev.bj (fun _=>?_) (fun _=>?_)
 ·exact ey (ih.expr hm (by omega) h5 hq (by omega)) fun x a4 q4 h6 h7 hq4 he=>Ev.ok ⟨⟨a4,q4,rfl,by omega,h7,hq4⟩,he⟩
 refine pF hm hC (by omega) h5 (by omega) fun a4 h6 h7=>xH hm hC (by omega) h7 (by omega) fun a5 nm h8 h9=>?_
 dsimp only
 refine pF hm hC (by omega) h9 (by omega) fun a6 h10 h11=>ey (ih.expr hm (by omega) h11 hq (by omega)) fun x a7 q7 h12 h13 hq7 he=>?_
 dsimp only
 refine Ev.gd (by (first|omega|(simp only[aL,maxLen,List.length_cons,List.length_nil]<;>omega)|(simp[aD,aL,aN,maxLen]<;>omega))) ?_
 refine Ev.jn (fun v=>St s T b k (a+1) 0 v.1∧v.2.bc.length≤2∧v.2.Kind=15∧∀ e,e∈v.2.bc→gQ e) (fun w hw=>?_) (fun jj hj=>?_)
 ·obtain ⟨p,e⟩:=w
  obtain ⟨⟨a8,q8,hp,h14,h15,hq8⟩,hs1,hs2,hs3⟩:=hw
  dsimp only at hp hs1 hs2 hs3;subst hp;dsimp only
  refine ja hm hC (by omega) (by omega) (by omega) fun a9 t h16 h17 _ _ _ _=>ey (ih.expr hm (by omega) h17 hq8 (by omega)) fun x a10 q10 h18 h19 hq10 he10=>?_
  dsimp only
  refine Ev.gd (by (first|omega|(simp only[aL,maxLen,List.length_cons,List.length_nil]<;>omega)|(simp[aD,aL,aN,maxLen]<;>omega))) (Ev.ok ⟨⟨a10,q10,rfl,by omega,h19,hq10⟩,.of (by simp;omega) (by omega) fun z hz=>?_⟩)
  rcases List.mem_append.1 hz with w|w
  ·exact hs3 z w
  ·simp at w;subst w;exact he10
 ·refine dI hm hC (by omega) (by omega) fun a8 t8 h14 h15 _ _ _=>?_
  dsimp only
  refine mU fun r _ _=>Ev.br (fun _=>?_) (fun _=>hj _ ⟨⟨a8,q7,rfl,by omega,by omega,hq7⟩,by simp[TS],rfl,by simpa[TS] using he⟩)
  refine pF hm hC (by omega) h15 (by omega) fun a9 h16 h17=>ey (ih.expr hm (by omega) h17 hq7 (by omega)) fun x2 a10 q10 h18 h19 hq10 he10=>?_
  dsimp only
  refine Ev.gd (by (first|omega|(simp only[aL,maxLen,List.length_append,List.length_cons,List.length_nil]<;>omega)|(simp[aD,aL,aN,maxLen]<;>omega))) (hj _ ⟨⟨a10,q10,rfl,by omega,h19,hq10⟩,by simp[TS],rfl,?_⟩)
  simp only[TS]
  intro z hz
  simp at hz
  rcases hz with rfl|rfl
  ·exact he
  ·exact he10
theorem Ck (hC:PC s T b) (ih:PG s T b K) (hm:b1 m) (h0:0≤a) (h1:a<T.length) (hq:QS q) (hK:64*(T.length - a).toNat+1<K+1) :
  Ev (fun i=>dR (m i) (dh s T a b k q)) (fun r=>St s T b k a 0 r.2∧gQ r.1) (PP (b+s.length)):=by
 refine Ev.grow (F:=fun n=>dR n (dh s T a b k q)) hm fun m hm=>?_
 show Ev (fun i=>iz (m i) (au (m i)) (dh s T a b k q)) _ _
 unfold iz
 have hl:=hC.kL
 refine kp hm hC h0 h1 fun a1 t v h2 h3 _ _ _ _ _=>?_
 dsimp only
 refine ja hm hC (by omega) h3 (by omega) fun a2 t h4 h5 _ _ _ _=>?_
 refine rP (s:=s) (T:=T) (b:=b) (k:=k) (a:=a+1) (d:=1) (P:=gQ) ?_ fun x a3 q3 h4 h5 hq3 he=>?_
 ·refine Ev.grow (F:=fun n=>dG n true (dh s T a2 b k q) (ai.mk 14 [] 0 [] [] [] [] [] v)) hm fun m hm=>?_
  show Ev (fun i=>fq (m i) (au (m i)) true (dh s T a2 b k q) (ai.mk 14 [] 0 [] [] [] [] [] v)) _ _
  unfold fq
  dsimp only
  refine ey (k:=true) (a:=a+1) (d:=1) (P:=gQ) ?_ fun x a' q' h2 h3 h4 h5=>Ev.ok ⟨⟨a',q',rfl,h2,h3,h4⟩,h5⟩
  refine Ev.grow (F:=fun n=>er n (ai.mk 14 [] 0 [] [] [] [] [] v) (dh s T a2 b true q)) hm fun m hm=>?_
  show Ev (fun i=>gA (m i) (au (m i)) (ai.mk 14 [] 0 [] [] [] [] [] v) (dh s T a2 b true q)) _ _
  unfold gA
  refine Ev.iter hm (fun (x:ai×ag×Bool)=>St s T b true (a+1) 0 x.2.1∧x.1.Kind=14∧x.1.Decls=[]∧x.1.b3=[]∧(x.1.bc.length:Int)+(if x.2.2 then 1 else 0)≤x.2.1.at_+1∧∀ e,e∈x.1.bc→gQ e) (fun x=>2*(T.length - x.2.1.at_).toNat+(if x.2.2 then 1 else 0)) ⟨⟨a2,q,rfl,by omega,by omega,hq⟩,rfl,rfl,rfl,by simp[TS];omega,by simp[TS]⟩ ?_
  rintro ⟨e,p,f⟩ ⟨⟨a6,q6,hp,h14,h15,hq6⟩,hk,hd,ht,hl2,hl3⟩ next hn
  dsimp only at hp hk hd ht hl2 hl3;subst hp;dsimp only at hn hl2 ⊢
  refine dI hm hC (by omega) (by omega) fun a7 t7 h16 h17 _ _ _=>?_
  dsimp only
  refine iZ fun r _ _=>Ev.bj (fun _=>?_) (fun _=>?_)
  ·refine Ev.jn (fun p=>∃ a8,p=dh s T a8 b true q6∧a6≤a8∧a8<T.length∧(f=false→a6<a8)) (fun w hw=>?_) (fun jj hj=>?_)
   ·obtain ⟨a8,rfl,h18,h19,h20⟩:=hw
    have hf1:(e.bc.length:Int)≤a8:=by
     cases f with
     | true=>simp at hl2;omega
     | false=>have:=h20 rfl;simp at hl2;omega
    have hf2:∀ x:Int,a8≤x→2*(T.length - x).toNat+0<2*(T.length - a6).toNat+(if f=true then 1 else 0):=by
     intro x hx
     cases f with
     | true=>simp;omega
     | false=>have:=h20 rfl;simp;omega
    refine kp hm hC (by omega) h19 fun a9 t v h21 h22 _ _ _ _ _=>?_
    dsimp only
    refine kh hm hC (by omega) (by omega) (fun a10 t h23 h24 _ _ _ _=>?_) (fun a10 t h23 h24 _ _ _ _=>?_)
    ·dsimp only
     refine Ev.cq ?_
     refine Ev.jn (fun v=>St s T b true (a+1) 0 v.1∧gQ v.2) (fun w hw=>?_) (fun jj hj=>?_)
     ·obtain ⟨p,x⟩:=w
      obtain ⟨⟨a11,q11,hp,h25,h26,hq11⟩,hx⟩:=hw
      dsimp only at hp hx;subst hp;dsimp only
      refine Ev.gd (by (first|omega|(simp only[aL,maxLen,List.length_cons,List.length_nil]<;>omega)|(simp[aD,aL,aN,maxLen]<;>omega))) (mb hm hC (by omega) (by omega) (by omega) fun a12 t h27 h28 _ _ _=>Ev.ok ⟨⟨a12,q11,rfl,by omega,h28,hq11⟩,?_⟩)
      dsimp only
      rw[hd,ht]
      refine .of (by simp;omega) (by omega) fun z hz=>?_
      rcases List.mem_append.1 hz with w|w
      ·exact hl3 z w
      ·simp at w;subst w;exact hx
     ·refine dI hm hC (by omega) (by omega) fun a11 t11 h25 h26 _ _ _=>?_
      dsimp only
      refine iZ fun r _ _=>Ev.bj (fun _=>?_) (fun _=>hj _ ⟨⟨a11,q6,rfl,by omega,by omega,hq6⟩,.leaf (by decide)⟩)
      exact ey (ih.expr hm (by omega) h26 hq6 (by omega)) fun x a12 q12 h27 h28 hq12 he12=>hj _ ⟨⟨a12,q12,rfl,by omega,h28,hq12⟩,he12⟩
    ·dsimp only
     refine Ev.cr (ey (ih.item hm (by omega) h24 hq6 (by omega)) fun x a12 q12 h27 h28 hq12 he12=>?_)
     dsimp only
     refine Ev.gd (by (first|omega|(simp only[aL,maxLen,List.length_cons,List.length_nil]<;>omega)|(simp[aD,aL,aN,maxLen]<;>omega))) (hn _ ⟨⟨a12,q12,rfl,by omega,h28,hq12⟩,hk,hd,ht,by simp[TS];omega,fun z hz=>?_⟩ (by have:=hf2 a12 (by omega);simpa using this))
     rcases List.mem_append.1 hz with w|w
     ·exact hl3 z w
     ·simp at w;subst w;exact he12
   ·refine Ev.bj (fun hf=>?_) (fun hf=>hj _ ⟨a7,rfl,h16,h17,fun h=>by rw[hf] at h;cases h⟩)
    exact ja hm hC (by omega) h17 (by omega) fun a8 t h18 h19 _ _ _ _=>hj _ ⟨a8,rfl,by omega,h19,fun _=>by omega⟩
  ·refine mb hm hC (by omega) (by omega) (by omega) fun a8 t h18 h19 _ _ _=>Ev.ok ⟨⟨a8,q6,rfl,by omega,h19,hq6⟩,?_⟩
   dsimp only
   cases e with
   | mk k0 t0 n0 x0 y0 s0 d0 tl0 p0=>
    simp only[ai.Kind,ai.Decls,ai.b3,ai.bc] at hk hd ht hl2 hl3
    subst hd ht
    refine .of ?_ (by omega) hl3
    have:(s0.length:Int)≤a6+1:=by
     cases f with
     | true=>simp at hl2;omega
     | false=>simp at hl2;omega
    omega
 ·dsimp only
  exact Ev.gd (by (first|omega|(simp only[aD]<;>omega)|(simp[aD,aL,aN,maxLen]<;>omega))) (Ev.ok ⟨⟨a3+1,q3,rfl,by omega,by omega,hq3⟩,he⟩)
end
end Go.Abs
end
section
namespace Go.Abs
open Go.Proofs ay
def ew (n:Nat) (p0:ag):ay (bJ×ag):=
 ay.bind (bO n p0) fun y3=>gd (aD (y3.2.at_+1)) (jn (fun (v6:ag×bJ)=>ay.bind (aH n v6.1) fun y10=>jn (fun (v11:ag)=>jn (fun (v15:ag×bJ)=>gd (aD (v15.1.at_+1)) (ay.bind (eR n (ag.mk v15.1.text v15.1.bg (v15.1.at_+1) v15.1.base v15.1.skip v15.1.pending)) fun y21=>.ok (v15.2,y21))) fun j16=>br (v6.2.Name==([]:List UInt8)) (ay.bind (strings_LastIndex y10.1.Text ([47]:List UInt8)) fun y26=>gd (aD (y26+1)) (gd ((0:Int)≤(y26+1)∧(y26+1)≤(List.length y10.1.Text:Int)) (ay.bind (eO n (dK y10.1.Text (y26+1))) fun y30=>br (!y30) (ay.bind (bp n v11) fun y32=>j16 (y32,(bJ.mk (dK y10.1.Text (y26+1)) y10.1.Text v6.2.Pos))) (j16 (v11,(bJ.mk (dK y10.1.Text (y26+1)) y10.1.Text v6.2.Pos)))))) (j16 (v11,(bJ.mk v6.2.Name y10.1.Text v6.2.Pos)))) fun j12=>br (y10.1.Kind !=3) (ay.bind (bp n (ag.mk y10.2.text y10.2.bg y10.2.at_ v6.1.base y10.2.skip y10.2.pending)) fun y35=>j12 (y35)) (j12 ((ag.mk y10.2.text y10.2.bg y10.2.at_ v6.1.base y10.2.skip y10.2.pending)))) fun j7=>ay.bind (aH n (ag.mk y3.2.text y3.2.bg (y3.2.at_+1) y3.2.base y3.2.skip y3.2.pending)) fun y37=>br (y37.1.Kind==1) (ay.bind (dO n (ag.mk y37.2.text y37.2.bg y37.2.at_ y3.2.base y37.2.skip y37.2.pending)) fun y39=>j7 (y39.2,(bJ.mk y39.1 [] y3.1))) (j7 ((ag.mk y37.2.text y37.2.bg y37.2.at_ y3.2.base y37.2.skip y37.2.pending),(bJ.mk [] [] y3.1))))
theorem ky (n:Nat) (p0:ag):CT Tryz.prog 59 [.ptr 0 0] [.box (ah p0)] (ew n p0) (fun x=>.agg [bd x.1.Name,bd x.1.Path,I x.1.Pos]) (fun x=>[.box (ah x.2)]):=by
 refine zC Tryz.func59 rfl fun r hp h hr E hE=>ab fun _ hK1=>aa (aM 102 (hE _ rfl) ⟨rfl,rfl,rfl,rfl⟩ rfl ?_)
 refine zQ hK1 (ab fun _ hK2=>aa (zm rfl (zk hp hr h [0] Tryz.call75 (bT n p0) rfl (fun _=>rfl) fun y3 h=>al (bA rfl rfl rfl) rfl ?_)))
 refine aM 103 (hE _ rfl) ⟨rfl,rfl,rfl,rfl⟩ rfl ?_
 refine zs rfl (zQ hK2 (ab fun _ hK4=>aa (zm rfl (zn rfl (zf rfl (zl rfl (zd hr h fun hg5 h=>zo hg5 rfl (zn rfl (zf rfl (zs rfl (zQ hK4 (zM h (fun (v6:ag×bJ)=>[(0,.ptr 0 0),(2,.ptr 102 0),(3,.ptr 103 0)]) (fun (v6:ag×bJ)=>[(0,.box (ah v6.1)),(102,.box [bd [],bd [],I 0]),(103,.box [bd v6.2.Name,bd v6.2.Path,I v6.2.Pos])]) (fun v6 h=>?_) fun _ _ hK8 h=>?_))))))))))))
 · refine ab fun _ hK9=>aa (zm rfl (zk hp hr h [0] Tryz.call34 (aI n v6.1) rfl (fun _=>rfl) fun y10 h=>aM 104 (hE _ rfl) ⟨rfl,rfl,rfl,rfl⟩ rfl ?_))
   refine zs rfl (zQ hK9 (zM h (fun (v11:ag)=>[(0,.ptr 0 0),(2,.ptr 102 0),(3,.ptr 103 0),(4,.ptr 104 0)]) (fun (v11:ag)=>[(0,.box (ah v11)),(102,.box [bd [],bd [],I 0]),(103,.box [bd v6.2.Name,bd v6.2.Path,I v6.2.Pos]),(104,.box (eA y10.1))]) (fun v11 h=>?_) fun _ _ hK13 h=>?_))
   · refine ab fun _ hK14=>aa (zf rfl (zl rfl (zf rfl (zs rfl (zQ hK14 (zM h (fun (v15:ag×bJ)=>[(0,.ptr 0 0),(2,.ptr 102 0),(3,.ptr 103 0)]) (fun (v15:ag×bJ)=>[(0,.box (ah v15.1)),(102,.box [bd [],bd [],I 0]),(103,.box [bd v15.2.Name,bd v15.2.Path,I v15.2.Pos])]) (fun v15 h=>?_) fun _ _ hK17 h=>?_))))))
     · refine ab fun _ hK18=>aa (zm rfl (zn rfl (zf rfl (zl rfl (zd hr h fun hg19 h=>zo hg19 rfl (zn rfl (zf rfl (zs rfl (zQ hK18 (ab fun _ hK20=>aa (zm rfl (zk hp hr h [0] Tryz.call58 (km n (ag.mk v15.1.text v15.1.bg (v15.1.at_+1) v15.1.base v15.1.skip v15.1.pending)) rfl (fun _=>rfl) fun y21 h=>zQ hK20 (ab fun _ hK22=>aa (zA rfl ?_))))))))))))))
       exact zs rfl (zQ hK22 (ar (zX (.cons (aZ rfl rfl rfl) .nil) h rfl)))
     · refine ab fun _ hK23=>aa (zf rfl (zl rfl (al (iQ rfl rfl) rfl (zQ hK23 (zB rfl h (fun _ h=>?_) fun _ h=>?_)))))
       · refine ab fun _ hK25=>bo [0,1,2,3,4,5,6,7,8] rfl (by kernel_rfl) (zD rfl (bn rfl) rfl (zD rfl (ei [.any,bd y10.1.Text,.any] rfl rfl ⟨.inr rfl,.inl rfl,.inr rfl,trivial⟩ rfl) rfl (zD rfl (bn rfl) rfl (zD rfl (aX rfl rfl rfl) rfl (cS rfl (bF rfl) hr h [] Tryz.call104 (rq y10.1.Text ([47]:List UInt8)) ⟨rfl,rfl,rfl,rfl,rfl,rfl,trivial⟩ rfl rfl (fun _=>⟨rfl,rfl,rfl⟩) (fun _=>⟨rfl,rfl⟩) hp (fun y26 h=>⟨ch ⟨trivial,⟨trivial,⟨⟨⟨_,rfl,be.ed ⟨.inr rfl,.inl rfl,.inr rfl,trivial⟩⟩,trivial⟩,⟨trivial,trivial⟩⟩⟩⟩,?_⟩))))))
         refine zd hr h fun hg27 h=>zD rfl (kV rfl rfl hg27) rfl (zd hr h fun hg28 h=>zD rfl (gu rfl rfl hg28.1 hg28.2) rfl (zD rfl (bn rfl) rfl (bR rfl ⟨rfl,rfl,rfl,rfl,rfl,rfl,rfl,rfl⟩ rfl (fun e8 he=>⟨aJ rfl,?_⟩))))
         subst he
         refine b4 (hK25 _ _ (ab fun _ hK29=>aa (zf rfl (zl rfl (zk hp hr h [] Tryz.call62 (eY n (dK y10.1.Text (y26+1))) rfl (fun _=>rfl) fun y30 h=>al (du rfl) rfl (zQ hK29 (zB rfl h (fun _ h=>?_) fun _ h=>?_)))))))
         · exact aa (zm rfl (zk hp hr h [0] Tryz.call35 (bu n v11) rfl (fun _=>rfl) fun y32 h=>ao (hK17 _ _ _ h rfl)))
         · exact an (hK17 _ _ _ h rfl)
       · exact an (hK17 _ _ _ h rfl)
   · refine ab fun _ hK33=>aa (zf rfl (zl rfl (zc rfl (zQ hK33 (zB rfl h (fun _ h=>?_) fun _ h=>?_)))))
     · exact aa (zm rfl (zk hp hr h [0] Tryz.call35 (bu n (ag.mk y10.2.text y10.2.bg y10.2.at_ v6.1.base y10.2.skip y10.2.pending)) rfl (fun _=>rfl) fun y35 h=>ao (hK13 _ _ _ h rfl)))
     · exact an (hK13 _ _ _ h rfl)
 · refine ab fun _ hK36=>aa (zm rfl (zk hp hr h [0] Tryz.call34 (aI n (ag.mk y3.2.text y3.2.bg (y3.2.at_+1) y3.2.base y3.2.skip y3.2.pending)) rfl (fun _=>rfl) fun y37 h=>al (jU rfl rfl) rfl ?_))
   refine zc rfl (zQ hK36 (zB rfl h (fun _ h=>?_) fun _ h=>?_))
   · exact aa (zm rfl (zk hp hr h [0] Tryz.call57 (eP n (ag.mk y37.2.text y37.2.bg y37.2.at_ y3.2.base y37.2.skip y37.2.pending)) rfl (fun _=>rfl) fun y39 h=>zf rfl (zs rfl (ao (hK8 _ _ _ h rfl)))))
   · exact an (hK8 _ _ _ h rfl)
def jr (n:Nat) (p0:ag):ay (eI×ag):=
 ay.bind (gD n p0) fun y4=>jn (fun (v5:ag×eI×(List (List UInt8)))=>jn (fun (v8:ag×eI)=>ay.bind (iL n v5.2.2 true v8.1) fun y12=>ay.bind (aH n y12.2.2) fun y15=>br (y15.1.Kind !=0) (ay.bind (bp n (ag.mk y15.2.text y15.2.bg y15.2.at_ y12.2.2.base y15.2.skip y15.2.pending)) fun y17=>.ok ((eI.mk v8.2.fC v8.2.cB y12.1 y12.2.1),y17)) (.ok ((eI.mk v8.2.fC v8.2.cB y12.1 y12.2.1),(ag.mk y15.2.text y15.2.bg y15.2.at_ y12.2.2.base y15.2.skip y15.2.pending)))) fun j9=>iter (fun next21 (v20:ag×eI)=>ay.bind (aH n v20.1) fun y25=>ay.bind (fg y25.1 ([105,109,112,111,114,116]:List UInt8)) fun y26=>br y26 (br ((List.length v20.2.cB:Int)==0) (ay.bind (ew n (ag.mk y25.2.text y25.2.bg y25.2.at_ v20.1.base y25.2.skip y25.2.pending)) fun y29=>gd (aL 40 (List.length v20.2.cB) (List.length [y29.1])) (next21 (y29.2,(eI.mk v20.2.fC (v20.2.cB++[y29.1]) [] [])))) (gd (aD (y25.2.at_ - 1)) (el y25.2.bg (y25.2.at_ - 1) fun x32=>br (x32.Kind !=6) (ay.bind (ew n (ag.mk y25.2.text y25.2.bg y25.2.at_ v20.1.base y25.2.skip y25.2.pending)) fun y37=>gd (aL 40 (List.length v20.2.cB) (List.length [y37.1])) (next21 (y37.2,(eI.mk v20.2.fC (v20.2.cB++[y37.1]) [] [])))) (j9 ((ag.mk y25.2.text y25.2.bg y25.2.at_ v20.1.base y25.2.skip y25.2.pending),(eI.mk v20.2.fC v20.2.cB [] [])))))) (j9 ((ag.mk y25.2.text y25.2.bg y25.2.at_ v20.1.base y25.2.skip y25.2.pending),(eI.mk v20.2.fC v20.2.cB [] [])))) n (v5.1,(eI.mk v5.2.1.fC [] [] []))) fun j6=>ay.bind (aH n y4.2) fun y40=>ay.bind (fg y40.1 ([112,97,99,107,97,103,101]:List UInt8)) fun y41=>br y41 (gd (aD (y40.2.at_+1)) (ay.bind (dO n (ag.mk y40.2.text y40.2.bg (y40.2.at_+1) y4.2.base y40.2.skip y40.2.pending)) fun y46=>ay.bind (eR n y46.2) fun y48=>ay.bind (kl n y48) fun y49=>gd (aL 16 (List.length y4.1) (List.length y49.1)) (j6 (y49.2,(eI.mk y46.1 [] [] []),y4.1++y49.1)))) (j6 ((ag.mk y40.2.text y40.2.bg y40.2.at_ y4.2.base y40.2.skip y40.2.pending),(eI.mk [] [] [] []),y4.1))
theorem qW (n:Nat) (p0:ag):CT Tryz.prog 27 [.ptr 0 0] [.box (ah p0)] (jr n p0) (fun x=>.agg (ga x.1)) (fun x=>[.box (ah x.2)]):=by
 refine zC Tryz.func27 rfl fun r hp h hr E hE=>ab fun _ hK1=>aa (aM 102 (hE _ rfl) ⟨rfl,rfl,rfl,rfl⟩ rfl ?_)
 refine zQ hK1 (ab fun _ hK2=>aa (aM 103 (hE _ rfl) ⟨rfl,rfl,rfl,rfl⟩ rfl ?_))
 refine zQ hK2 (ab fun _ hK3=>aa (zm rfl (aY (AU 3106 (sz:=1) (el:=9) (hE _ rfl) ⟨rfl,rfl,rfl⟩) ?_)))
 refine iT hr h [0,3106] Tryz.call55 (oo n p0) ⟨rfl,rfl,rfl,rfl,rfl,rfl,⟨hE _ rfl,trivial⟩⟩ rfl (fun _=>⟨rfl,rfl,rfl⟩) (fun _=>⟨rfl,rfl⟩) hp (fun y4 h=>?_)
 refine za rfl (aY (kj 3106 10004 [(0,.ptr 0 0),(2,.ptr 102 0),(3,.ptr 103 0),(4,.arr 10004 (List.length y4.1))] [(0,.box (ah y4.2)),(102,.box [bd [],Sc (.slice none 0 0),Sc (.slice none 0 0),Sc (.slice none 0 0)]),(103,.box [bd [],Sc (.slice none 0 0),Sc (.slice none 0 0),Sc (.slice none 0 0)])] (hE _ rfl) rfl rfl ⟨rfl,rfl⟩ ⟨⟨_,rfl,rfl,rfl⟩,⟨_,rfl,rfl,rfl⟩,⟨_,rfl,rfl,rfl⟩,⟨_,rfl,rfl,rfl⟩,trivial⟩ ⟨⟨_,rfl,rfl,rfl,rfl,rfl⟩,⟨_,rfl,rfl,rfl,rfl,rfl⟩,⟨_,rfl,rfl,rfl,rfl,rfl⟩,trivial⟩) ?_)
 refine zQ hK3 (zM h (fun (v5:ag×eI×(List (List UInt8)))=>[(0,.ptr 0 0),(2,.ptr 102 0),(3,.ptr 103 0),(4,.arr 10004 (List.length v5.2.2))]) (fun (v5:ag×eI×(List (List UInt8)))=>[(0,.box (ah v5.1)),(102,.box [bd [],Sc (.slice none 0 0),Sc (.slice none 0 0),Sc (.slice none 0 0)]),(103,.box [bd v5.2.1.fC,Sc (.slice none 0 0),Sc (.slice none 0 0),Sc (.slice none 0 0)]),(10004,.app 9 1 (bS v5.2.2))]) (fun v5 h=>?_) fun _ _ hK7 h=>?_)
 · refine zM h (fun (v8:ag×eI)=>[(0,.ptr 0 0),(2,.ptr 102 0),(3,.ptr 103 0),(4,.arr 10004 (List.length v5.2.2))]) (fun (v8:ag×eI)=>[(0,.box (ah v8.1)),(102,.box [bd [],Sc (.slice none 0 0),Sc (.slice none 0 0),Sc (.slice none 0 0)]),(103,.box [bd v8.2.fC,.arr 26593 (List.length v8.2.cB),Sc (.slice none 0 0),Sc (.slice none 0 0)]),(10004,.app 9 1 (bS v5.2.2)),(26593,.app 65 3 (bJ.Cs v8.2.cB))]) (fun v8 h=>?_) fun _ _ hK10 h=>?_
   · refine ab fun _ hK11=>aa (zm rfl (zm rfl (C5 [(0,.ptr 0 0),(2,.ptr 102 0),(3,.ptr 103 0),(58,.ptr 0 0)] ⟨rfl,rfl,rfl,rfl,trivial⟩ hr h [0,10004] Tryz.call60 (qh n v5.2.2 true v8.1) ⟨rfl,rfl,rfl,rfl,rfl,rfl,⟨hE _ rfl,trivial⟩⟩ rfl (fun _=>⟨rfl,rfl,rfl⟩) (fun _=>⟨rfl,rfl⟩) hp (fun y12 h=>?_))))
     refine zm rfl (zx rfl (zx rfl (zf rfl (zs rfl (zf rfl (zs rfl (zQ hK11 (ab fun _ hK13=>ab fun _ hK14=>aa (zm rfl (zk hp hr h [0] Tryz.call34 (aI n y12.2.2) rfl (fun _=>rfl) fun y15 h=>al (jU rfl rfl) rfl ?_))))))))))
     refine zc rfl (zQ hK14 (zB rfl h (fun _ h=>?_) fun _ h=>?_))
     · refine aa (zm rfl (zk hp hr h [0] Tryz.call35 (bu n (ag.mk y15.2.text y15.2.bg y15.2.at_ y12.2.2.base y15.2.skip y15.2.pending)) rfl (fun _=>rfl) fun y17 h=>zQ hK13 (ab fun _ hK18=>aa (aY (xf (j:=103) (off:=1) bJ.bb bJ.bE rfl rfl rfl rfl rfl) ?_))))
       refine zA rfl ?_
       exact zs rfl (zQ hK18 (ar (zX (.cons (aZ rfl rfl rfl) .nil) h rfl)))
     · refine an (hK13 _ _ (ab fun _ hK19=>aa (aY (xf (j:=103) (off:=1) bJ.bb bJ.bE rfl rfl rfl rfl rfl) ?_)))
       refine zA rfl ?_
       exact zs rfl (zQ hK19 (ar (zX (.cons (aZ rfl rfl rfl) .nil) h rfl)))
   · refine aB (bK (rf (j:=103) (off:=1) 26593 (sz:=3) (el:=65) (hE _ rfl) rfl rfl ⟨rfl,rfl,rfl⟩ rfl) ?_)
     refine zL hr h (fun (v20:ag×eI)=>[(0,.ptr 0 0),(2,.ptr 102 0),(3,.ptr 103 0),(4,.arr 10004 (List.length v5.2.2))]) (fun (v20:ag×eI)=>[(0,.box (ah v20.1)),(102,.box [bd [],Sc (.slice none 0 0),Sc (.slice none 0 0),Sc (.slice none 0 0)]),(103,.box [bd v20.2.fC,.arr 26593 (List.length v20.2.cB),Sc (.slice none 0 0),Sc (.slice none 0 0)]),(10004,.app 9 1 (bS v5.2.2)),(26593,.app 65 3 (bJ.Cs v20.2.cB))]) rfl fun _ v20 _ hK22 h=>ab fun _ hK23=>ab fun _ hK24=>bo [0,1,2,3,4,5,6,7,8,9,10,11,12,13,14,15,16,17,18,19,20,21,22,23] rfl (by kernel_rfl) (zD rfl (aq rfl) rfl (cS rfl (bF rfl) hr h [0] Tryz.call34 (aI n v20.1) ⟨rfl,rfl,rfl,rfl,rfl,rfl,trivial⟩ rfl rfl (fun _=>⟨rfl,rfl,rfl⟩) (fun _=>⟨rfl,rfl⟩) hp (fun y25 h=>⟨aJ rfl,?_⟩)))
     refine cS rfl (bF rfl) hr h [] Tryz.call56 (fF y25.1 ([105,109,112,111,114,116]:List UInt8)) ⟨rfl,rfl,rfl,rfl,rfl,rfl,trivial⟩ rfl rfl (fun _=>⟨rfl,rfl,rfl⟩) (fun _=>⟨rfl,rfl⟩) hp (fun y26 h=>⟨aJ rfl,?_⟩)
     refine zD rfl (aq rfl) rfl (zb y26 (fun hb27=>?_) fun hb27=>?_)
     · refine z1 hb27 h fun h=>cn hb27 rfl ⟨rfl,rfl⟩ (bn rfl) ⟨rfl,rfl,rfl⟩ ?_
       refine cn hb27 rfl ⟨rfl,rfl⟩ (nb bJ.bb bJ.bE rfl rfl rfl rfl rfl) ⟨rfl,rfl,rfl⟩ ?_
       refine cn hb27 rfl ⟨rfl,rfl⟩ (bQ rfl) ⟨rfl,rfl,rfl⟩ ?_
       refine cn hb27 rfl ⟨rfl,rfl⟩ (bf rfl rfl rfl) ⟨rfl,rfl,rfl⟩ ?_
       refine cn hb27 rfl ⟨rfl,rfl⟩ (aq rfl) ⟨rfl,rfl,rfl⟩ ?_
       refine zb ((List.length v20.2.cB:Int)==0) (fun hb28=>?_) fun hb28=>?_
       · refine z1 hb28 h fun h=>cl hb28 rfl ⟨rfl,rfl⟩ ⟨rfl,rfl⟩ ?_
         refine cl hb28 rfl ⟨rfl,rfl⟩ ⟨rfl,rfl⟩ ?_
         refine cl hb28 rfl ⟨rfl,rfl⟩ ⟨rfl,rfl⟩ ?_
         refine cl hb28 rfl ⟨rfl,rfl⟩ ⟨rfl,rfl⟩ ?_
         refine cl hb28 rfl ⟨rfl,rfl⟩ ⟨rfl,rfl⟩ ?_
         refine cl hb28 rfl ⟨rfl,rfl⟩ ⟨rfl,rfl⟩ ?_
         refine cl hb28 rfl ⟨rfl,rfl⟩ ⟨rfl,rfl⟩ ?_
         refine cl hb28 rfl ⟨rfl,rfl⟩ ⟨rfl,rfl⟩ ?_
         refine cl hb28 rfl ⟨rfl,rfl⟩ ⟨rfl,rfl⟩ ?_
         refine cl hb28 rfl ⟨rfl,rfl⟩ ⟨rfl,rfl⟩ ?_
         refine cl hb28 rfl ⟨rfl,rfl⟩ ⟨rfl,rfl⟩ ?_
         refine cl hb28 rfl ⟨rfl,rfl⟩ ⟨rfl,rfl⟩ ?_
         refine cl hb28 rfl ⟨rfl,rfl⟩ ⟨rfl,rfl⟩ ?_
         refine cn hb27 rfl ⟨rfl,rfl⟩ (cx hb28 rfl rfl) ⟨rfl,rfl,rfl⟩ ?_
         refine zD rfl (cx hb27 rfl rfl) rfl (b4 (hK24 _ _ (cg rfl (fun hc=>?_) (fun hc=>?_))))
         · refine an (hK23 _ _ (aB (lT [] ?_)))
           refine bo [0,1,2,3,4,5,6,7] rfl (by kernel_rfl) (zD rfl (bn rfl) rfl (zD rfl (ei [.any,.arr 26593 (List.length v20.2.cB),.any,.any] rfl rfl ⟨.inr rfl,.inl rfl,.inr rfl,.inr rfl,trivial⟩ rfl) rfl (zD rfl (aq rfl) rfl (cS rfl (bF rfl) hr h [0] Tryz.call59 (ky n (ag.mk y25.2.text y25.2.bg y25.2.at_ v20.1.base y25.2.skip y25.2.pending)) ⟨rfl,rfl,rfl,rfl,rfl,rfl,trivial⟩ rfl rfl (fun _=>⟨rfl,rfl,rfl⟩) (fun _=>⟨rfl,rfl⟩) hp (fun y29 h=>⟨ch ⟨trivial,⟨⟨⟨_,rfl,be.ed ⟨.inr rfl,.inl rfl,.inr rfl,.inr rfl,trivial⟩⟩,trivial⟩,⟨trivial,trivial⟩⟩⟩,?_⟩)))))
           refine gI [y29.1] bJ.bb rfl (bF rfl) ⟨rfl,rfl⟩ ⟨rfl,rfl⟩ ?_
           refine zd hr h fun hg30 h=>wq 155 rfl (bF rfl) ⟨jC.h,dL.h,bJ.bb,bJ.bE,bJ.iV,hE _ rfl,rfl,rfl,(.inl rfl),⟨rfl,rfl,rfl⟩,hg30⟩ rfl rfl ⟨aJ rfl,?_⟩
           refine zD rfl (bn rfl) rfl (bR rfl ⟨rfl,rfl,rfl,rfl,rfl,rfl,rfl,rfl⟩ rfl (fun e7 he=>⟨aJ rfl,?_⟩))
           subst he
           refine fb (kj 155 26593 [(0,.ptr 0 0),(2,.ptr 102 0),(3,.ptr 103 0),(4,.arr 10004 (List.length v5.2.2))] [(10004,.app 9 1 (bS v5.2.2)),(0,.box (ah y29.2)),(102,.box [bd [],Sc (.slice none 0 0),Sc (.slice none 0 0),Sc (.slice none 0 0)]),(103,.box [bd v20.2.fC,.arr 26593 (List.length (v20.2.cB++[y29.1])),Sc (.slice none 0 0),Sc (.slice none 0 0)])] (hE _ rfl) rfl rfl ⟨rfl,rfl⟩ ⟨⟨_,rfl,rfl,rfl⟩,⟨_,rfl,rfl,rfl⟩,⟨_,rfl,rfl,rfl⟩,⟨_,rfl,rfl,rfl⟩,trivial⟩ ⟨⟨_,rfl,rfl,rfl,rfl,rfl⟩,⟨_,rfl,rfl,rfl,rfl,rfl⟩,⟨_,rfl,rfl,rfl,rfl,rfl⟩,⟨_,rfl,rfl,rfl,rfl,rfl⟩,trivial⟩) ?_
           exact hK22 _ _ _ h rfl
         · exact absurd (hc) (by simp)
       · refine z2 hb28 h fun h=>cn hb28 rfl ⟨rfl,rfl⟩ (aq rfl) ⟨rfl,rfl,rfl⟩ ?_
         refine cn hb28 rfl ⟨rfl,rfl⟩ (cC rfl) ⟨rfl,rfl,rfl⟩ ?_
         refine cn hb28 rfl ⟨rfl,rfl⟩ (bn rfl) ⟨rfl,rfl,rfl⟩ ?_
         refine cn hb28 rfl ⟨rfl,rfl⟩ (aX rfl rfl rfl) ⟨rfl,rfl,rfl⟩ ?_
         refine cn hb28 rfl ⟨rfl,rfl⟩ (aq rfl) ⟨rfl,rfl,rfl⟩ ?_
         refine cn hb28 rfl ⟨rfl,rfl⟩ (cC rfl) ⟨rfl,rfl,rfl⟩ ?_
         refine cn hb28 rfl ⟨rfl,rfl⟩ (bn rfl) ⟨rfl,rfl,rfl⟩ ?_
         refine cn hb28 rfl ⟨rfl,rfl⟩ (aX rfl rfl rfl) ⟨rfl,rfl,rfl⟩ ?_
         refine zd hr h fun hg31 h=>cn hb28 rfl ⟨rfl,rfl⟩ (pM rfl rfl hg31) ⟨rfl,rfl,rfl⟩ ?_
         refine ze hr h fun x32 h33 h34 h35 h=>cn hb28 rfl ⟨rfl,rfl⟩ (eE aS.bb aS.bE h33 h34 h35 rfl rfl rfl) ⟨rfl,rfl,rfl⟩ ?_
         refine cn hb28 rfl ⟨rfl,rfl⟩ (gH rfl rfl) ⟨rfl,rfl,rfl⟩ ?_
         refine cn hb28 rfl ⟨rfl,rfl⟩ (dM rfl rfl) ⟨rfl,rfl,rfl⟩ ?_
         refine cn hb28 rfl ⟨rfl,rfl⟩ (bf rfl rfl rfl) ⟨rfl,rfl,rfl⟩ ?_
         refine cn hb27 rfl ⟨rfl,rfl⟩ (ct hb28 rfl rfl) ⟨rfl,rfl,rfl⟩ ?_
         refine zD rfl (cx hb27 rfl rfl) rfl (b4 (hK24 _ _ (zB rfl h (fun _ h=>?_) fun _ h=>?_)))
         · refine an (hK23 _ _ (aB (lT [] ?_)))
           refine bo [0,1,2,3,4,5,6,7] rfl (by kernel_rfl) (zD rfl (bn rfl) rfl (zD rfl (ei [.any,.arr 26593 (List.length v20.2.cB),.any,.any] rfl rfl ⟨.inr rfl,.inl rfl,.inr rfl,.inr rfl,trivial⟩ rfl) rfl (zD rfl (aq rfl) rfl (cS rfl (bF rfl) hr h [0] Tryz.call59 (ky n (ag.mk y25.2.text y25.2.bg y25.2.at_ v20.1.base y25.2.skip y25.2.pending)) ⟨rfl,rfl,rfl,rfl,rfl,rfl,trivial⟩ rfl rfl (fun _=>⟨rfl,rfl,rfl⟩) (fun _=>⟨rfl,rfl⟩) hp (fun y37 h=>⟨ch ⟨trivial,⟨⟨⟨_,rfl,be.ed ⟨.inr rfl,.inl rfl,.inr rfl,.inr rfl,trivial⟩⟩,trivial⟩,⟨trivial,trivial⟩⟩⟩,?_⟩)))))
           refine gI [y37.1] bJ.bb rfl (bF rfl) ⟨rfl,rfl⟩ ⟨rfl,rfl⟩ ?_
           refine zd hr h fun hg38 h=>wq 155 rfl (bF rfl) ⟨jC.h,dL.h,bJ.bb,bJ.bE,bJ.iV,hE _ rfl,rfl,rfl,(.inl rfl),⟨rfl,rfl,rfl⟩,hg38⟩ rfl rfl ⟨aJ rfl,?_⟩
           refine zD rfl (bn rfl) rfl (bR rfl ⟨rfl,rfl,rfl,rfl,rfl,rfl,rfl,rfl⟩ rfl (fun e7 he=>⟨aJ rfl,?_⟩))
           subst he
           refine fb (kj 155 26593 [(0,.ptr 0 0),(2,.ptr 102 0),(3,.ptr 103 0),(4,.arr 10004 (List.length v5.2.2))] [(10004,.app 9 1 (bS v5.2.2)),(0,.box (ah y37.2)),(102,.box [bd [],Sc (.slice none 0 0),Sc (.slice none 0 0),Sc (.slice none 0 0)]),(103,.box [bd v20.2.fC,.arr 26593 (List.length (v20.2.cB++[y37.1])),Sc (.slice none 0 0),Sc (.slice none 0 0)])] (hE _ rfl) rfl rfl ⟨rfl,rfl⟩ ⟨⟨_,rfl,rfl,rfl⟩,⟨_,rfl,rfl,rfl⟩,⟨_,rfl,rfl,rfl⟩,⟨_,rfl,rfl,rfl⟩,trivial⟩ ⟨⟨_,rfl,rfl,rfl,rfl,rfl⟩,⟨_,rfl,rfl,rfl,rfl,rfl⟩,⟨_,rfl,rfl,rfl,rfl,rfl⟩,⟨_,rfl,rfl,rfl,rfl,rfl⟩,trivial⟩) ?_
           exact hK22 _ _ _ h rfl
         · exact bh (hK10 _ _ _ h rfl)
     · refine z2 hb27 h fun h=>cl hb27 rfl ⟨rfl,rfl⟩ ⟨rfl,rfl⟩ ?_
       refine cl hb27 rfl ⟨rfl,rfl⟩ ⟨rfl,rfl⟩ ?_
       refine cl hb27 rfl ⟨rfl,rfl⟩ ⟨rfl,rfl⟩ ?_
       refine cl hb27 rfl ⟨rfl,rfl⟩ ⟨rfl,rfl⟩ ?_
       refine cl hb27 rfl ⟨rfl,rfl⟩ ⟨rfl,rfl⟩ ?_
       refine oE rfl ⟨rfl,rfl⟩ ⟨rfl,rfl⟩ ?_
       refine oE rfl ⟨rfl,rfl⟩ ⟨rfl,rfl⟩ ?_
       refine oE rfl ⟨rfl,rfl⟩ ⟨rfl,rfl⟩ ?_
       refine oE rfl ⟨rfl,rfl⟩ ⟨rfl,rfl⟩ ?_
       refine oE rfl ⟨rfl,rfl⟩ ⟨rfl,rfl⟩ ?_
       refine oE rfl ⟨rfl,rfl⟩ ⟨rfl,rfl⟩ ?_
       refine oE rfl ⟨rfl,rfl⟩ ⟨rfl,rfl⟩ ?_
       refine oE rfl ⟨rfl,rfl⟩ ⟨rfl,rfl⟩ ?_
       refine oE rfl ⟨rfl,rfl⟩ ⟨rfl,rfl⟩ ?_
       refine oE rfl ⟨rfl,rfl⟩ ⟨rfl,rfl⟩ ?_
       refine oE rfl ⟨rfl,rfl⟩ ⟨rfl,rfl⟩ ?_
       refine oE rfl ⟨rfl,rfl⟩ ⟨rfl,rfl⟩ ?_
       refine oE rfl ⟨rfl,rfl⟩ ⟨rfl,rfl⟩ ?_
       refine cl hb27 rfl ⟨rfl,rfl⟩ ⟨rfl,rfl⟩ ?_
       refine zD rfl (ct hb27 rfl rfl) rfl (b4 (hK24 _ _ (cg rfl (fun hc=>?_) (fun hc=>?_))))
       · exact absurd (hc) (by simp)
       · exact bh (hK10 _ _ _ h rfl)
 · refine ab fun _ hK39=>aa (zm rfl (zk hp hr h [0] Tryz.call34 (aI n y4.2) rfl (fun _=>rfl) fun y40 h=>zk hp hr h [] Tryz.call56 (fF y40.1 ([112,97,99,107,97,103,101]:List UInt8)) rfl (fun _=>rfl) fun y41 h=>zQ hK39 (zB rfl h (fun _ h=>?_) fun _ h=>?_)))
   · refine ab fun _ hK43=>aa (zm rfl (zn rfl (zf rfl (zl rfl (zd hr h fun hg44 h=>zo hg44 rfl (zn rfl (zf rfl (zs rfl (zQ hK43 (ab fun _ hK45=>aa (zm rfl (zk hp hr h [0] Tryz.call57 (eP n (ag.mk y40.2.text y40.2.bg (y40.2.at_+1) y4.2.base y40.2.skip y40.2.pending)) rfl (fun _=>rfl) fun y46 h=>zf rfl (zs rfl (zQ hK45 (ab fun _ hK47=>aa (zm rfl (zk hp hr h [0] Tryz.call58 (km n y46.2) rfl (fun _=>rfl) fun y48 h=>zQ hK47 (aa ?_))))))))))))))))))
     refine zm rfl (zm rfl (zk hp hr h [0] Tryz.call55 (mV n y48) rfl (fun _=>rfl) fun y49 h=>zd hr h fun hg50 h=>lA 125 ⟨jC.h,dL.h,ej,gk,qF,hE _ rfl,rfl,rfl,(.inl rfl),⟨rfl,rfl,rfl⟩,hg50⟩ rfl ?_))
     refine za rfl (aY (kj 125 10004 [(0,.ptr 0 0),(2,.ptr 102 0),(3,.ptr 103 0),(4,.arr 10004 (List.length (y4.1++y49.1)))] [(0,.box (ah y49.2)),(102,.box [bd [],Sc (.slice none 0 0),Sc (.slice none 0 0),Sc (.slice none 0 0)]),(103,.box [bd y46.1,Sc (.slice none 0 0),Sc (.slice none 0 0),Sc (.slice none 0 0)])] (hE _ rfl) rfl rfl ⟨rfl,rfl⟩ ⟨⟨_,rfl,rfl,rfl⟩,⟨_,rfl,rfl,rfl⟩,⟨_,rfl,rfl,rfl⟩,⟨_,rfl,rfl,rfl⟩,trivial⟩ ⟨⟨_,rfl,rfl,rfl,rfl,rfl⟩,⟨_,rfl,rfl,rfl,rfl,rfl⟩,⟨_,rfl,rfl,rfl,rfl,rfl⟩,trivial⟩) ?_)
     exact ao (hK7 _ _ _ h rfl)
   · exact an (hK7 _ _ _ h rfl)
def mW (n:Nat) (p0:eI):ay (Int):=
 jn (fun (v3:ak)=>iter (fun next9 (v8:ak×Int)=>br (decide (v8.2<(List.length p0.cB:Int))) (el p0.cB v8.2 fun DK=>ay.bind (eO n DK.Name) fun y20=>ay.bind (aA n [y20] v8.1) fun y21=>gd (aD (v8.2+1)) (next9 (y21,v8.2+1))) (ay.bind (ck n p0.Decls true 1 v8.1) fun y24=>ay.bind (fO y24) fun y26=>.ok (y26.1))) n (v3,0)) fun j4=>br (p0.fC==([]:List UInt8)) (ay.bind (fI n p0.b3) fun y28=>ay.bind (aA n [true,y28] (ak.mk false false)) fun y29=>j4 (y29)) (ay.bind (eO n p0.fC) fun y30=>ay.bind (fI n p0.b3) fun y31=>ay.bind (aA n [y30,y31] (ak.mk false false)) fun y32=>j4 (y32))
theorem uM (n:Nat) (p0:eI):CT Tryz.prog 28 [.agg (ga p0)] [] (mW n p0) (fun x=>I x) (fun _=>[]):=by
 refine zC Tryz.func28 rfl fun r hp h hr E hE=>ab fun _ hK1=>aa (cM 101 (hE _ rfl) ⟨rfl,rfl,rfl,rfl,rfl,rfl,rfl⟩ rfl ?_)
 refine za rfl (zQ hK1 (ab fun _ hK2=>aa (al (bA rfl rfl rfl) rfl ?_)))
 refine cM 107 (hE _ rfl) ⟨rfl,rfl,rfl,rfl,rfl,rfl,rfl⟩ rfl ?_
 refine za rfl (zQ hK2 (zM h (fun (v3:ak)=>[(0,.agg (ga p0)),(1,.ptr 101 0),(3,.ptr 107 0)]) (fun (v3:ak)=>[(101,.box (ga p0)),(107,.box (aF v3))]) (fun v3 h=>?_) fun _ _ hK5 h=>?_))
 · refine ab fun _ hK6=>ab fun _ hK7=>aa (zf rfl (zl rfl (al (bQ rfl) rfl (zm rfl (zQ hK7 (aB (zL hr h (fun (v8:ak×Int)=>[(0,.agg (ga p0)),(1,.ptr 101 0),(3,.ptr 107 0),(23,.pv (.sl (List.length p0.cB) (bJ.Cs p0.cB))),(24,I (List.length p0.cB:Int)),(25,I v8.2)]) (fun (v8:ak×Int)=>[(101,.box (ga p0)),(107,.box (aF v8.1))]) rfl fun _ v8 _ hK10 h=>ab fun _ hK11=>aa (zc rfl (zQ hK11 (ab fun _ hK12=>zB rfl h (fun _ h=>?_) fun _ h=>?_))))))))))
   · refine an (hK12 _ _ (ab fun _ hK14=>aB (ab fun _ hK15=>aa (ze hr h fun DK h17 h18 h19 h=>al (eE bJ.bb bJ.bE h17 h18 h19 rfl rfl rfl) rfl (al (fi rfl rfl) rfl ?_)))))
     refine aM 105 (hE _ rfl) ⟨rfl,rfl,rfl,rfl⟩ rfl ?_
     refine zs rfl (zQ hK15 (aa (zm rfl (zf rfl (zl rfl (zk hp hr h [] Tryz.call62 (eY n DK.Name) rfl (fun _=>rfl) fun y20 h=>bL [y20] bw ⟨rfl,rfl⟩ rfl ?_))))))
     exact zk hp hr h [107] Tryz.call61 (az n [y20] v8.1) rfl (fun _=>rfl) fun y21 h=>zQ hK14 (aa (zd hr h fun hg22 h=>zo hg22 rfl (zm rfl (ao (hK10 _ _ _ h rfl)))))
   · exact bh (hK6 _ _ (ab fun _ hK23=>aa (zm rfl (zf rfl (zl rfl (zk hp hr h [107] Tryz.call64 (pJ n p0.Decls true 1 v8.1) rfl (fun _=>rfl) fun y24 h=>zQ hK23 (ab fun _ hK25=>aa (zm rfl (zk hp hr h [107] Tryz.call65 (lf y24) rfl (fun _=>rfl) fun y26 h=>za rfl (zQ hK25 (ar (zX (.cons (aw rfl) .nil) h rfl))))))))))))
 · refine bo [0,1,2,3,4,5,6,9,10,7,8,11,12,13] rfl (by kernel_rfl) (zD rfl (aq rfl) rfl (zD rfl (bn rfl) rfl (zD rfl (aX rfl rfl rfl) rfl (zD rfl (iQ rfl rfl) rfl (zD rfl (aq rfl) rfl (zb (p0.fC==([]:List UInt8)) (fun hb27=>?_) fun hb27=>?_))))))
   · refine z1 hb27 h fun h=>cl hb27 rfl ⟨rfl,rfl⟩ ⟨rfl,rfl⟩ ?_
     refine cl hb27 rfl ⟨rfl,rfl⟩ ⟨rfl,rfl⟩ ?_
     refine zD rfl (bn rfl) rfl (zD rfl (ei [.any,.any,.any,.pv (.sl (List.length p0.b3) (bS p0.b3))] rfl rfl ⟨.inr rfl,.inr rfl,.inr rfl,.inl rfl,trivial⟩ rfl) rfl (rY hb27 rfl ⟨rfl,rfl⟩ ⟨rfl,rfl⟩ ?_))
     refine zD rfl (cx hb27 rfl rfl) rfl (cS rfl (bF rfl) hr h [] Tryz.call63 (gP n p0.b3) ⟨rfl,rfl,rfl,rfl,rfl,rfl,trivial⟩ rfl rfl (fun _=>⟨rfl,rfl,rfl⟩) (fun _=>⟨rfl,rfl⟩) hp (fun y28 h=>⟨aJ rfl,?_⟩))
     refine gI [true,y28] bw rfl (bF rfl) ⟨rfl,rfl⟩ ⟨rfl,rfl⟩ ?_
     refine cS rfl (bF rfl) hr h [107] Tryz.call61 (az n [true,y28] (ak.mk false false)) ⟨rfl,rfl,rfl,rfl,rfl,rfl,trivial⟩ rfl rfl (fun _=>⟨rfl,rfl,rfl⟩) (fun _=>⟨rfl,rfl⟩) hp (fun y29 h=>⟨aJ rfl,?_⟩)
     exact b4 (hK5 _ _ _ h rfl)
   · refine z2 hb27 h fun h=>cn hb27 rfl ⟨rfl,rfl⟩ (bn rfl) ⟨rfl,rfl,rfl⟩ ?_
     refine cn hb27 rfl ⟨rfl,rfl⟩ (aX rfl rfl rfl) ⟨rfl,rfl,rfl⟩ ?_
     refine zD rfl (bn rfl) rfl (zD rfl (ei [.any,.any,.any,.pv (.sl (List.length p0.b3) (bS p0.b3))] rfl rfl ⟨.inr rfl,.inr rfl,.inr rfl,.inl rfl,trivial⟩ rfl) rfl (cS rfl (vw hb27 rfl ⟨rfl,rfl⟩) hr h [] Tryz.call62 (eY n p0.fC) ⟨rfl,rfl,rfl,rfl,rfl,rfl,trivial⟩ rfl rfl (fun _=>⟨rfl,rfl,rfl⟩) (fun _=>⟨rfl,rfl⟩) hp (fun y30 h=>⟨ch ⟨⟨⟨_,rfl,be.ed ⟨.inr rfl,.inr rfl,.inr rfl,.inl rfl,trivial⟩⟩,trivial⟩,⟨trivial,⟨trivial,⟨trivial,⟨trivial,⟨trivial,⟨trivial,⟨trivial,⟨trivial,trivial⟩⟩⟩⟩⟩⟩⟩⟩⟩,?_⟩)))
     refine zD rfl (ct hb27 rfl rfl) rfl (cS rfl (bF rfl) hr h [] Tryz.call63 (gP n p0.b3) ⟨rfl,rfl,rfl,rfl,rfl,rfl,trivial⟩ rfl rfl (fun _=>⟨rfl,rfl,rfl⟩) (fun _=>⟨rfl,rfl⟩) hp (fun y31 h=>⟨aJ rfl,?_⟩))
     refine gI [y30,y31] bw rfl (bF rfl) ⟨rfl,rfl⟩ ⟨rfl,rfl⟩ ?_
     refine cS rfl (bF rfl) hr h [107] Tryz.call61 (az n [y30,y31] (ak.mk false false)) ⟨rfl,rfl,rfl,rfl,rfl,rfl,trivial⟩ rfl rfl (fun _=>⟨rfl,rfl,rfl⟩) (fun _=>⟨rfl,rfl⟩) hp (fun y32 h=>⟨aJ rfl,?_⟩)
     exact b4 (hK5 _ _ _ h rfl)
def jg (n:Nat) (p0:(List UInt8)):ay (eI×et):=
 ay.bind (lC n p0) fun y3=>br (y3.2.Errno !=0) (.ok ((eI.mk [] [] [] []),y3.2)) (pc (ay.bind (jr n (ag.mk p0 y3.1 0 0 false none)) fun y12=>ay.bind (mW n y12.1) fun y15=>br (y15==9) (.ok ((eI.mk [] [] [] []),(et.mk 9 0))) (.ok (y12.1,(et.mk 0 0)))) (fun p=>ss 86 p fun v21=>ay.bind (lh v21) fun y22=>.ok (y22.1,y22.2)))
theorem kz (n:Nat) (p0:(List UInt8)):CT Tryz.prog 12 [bd p0] [] (jg n p0) (fun x=>.eT [.agg (ga x.1),.agg [I x.2.Errno,I x.2.At]]) (fun _=>[]):=by
 refine rj Tryz.func12 rfl rfl fun r h hr E hE=>?_
 refine ab fun _ hK1=>aa (aM 102 (hE _ rfl) ⟨rfl,rfl,rfl,rfl⟩ rfl ?_)
 refine aM 103 (hE _ rfl) ⟨rfl,rfl,rfl,rfl⟩ rfl ?_
 refine zQ hK1 (ab fun _ hK2=>aa (zm rfl (iT hr h [] Tryz.call24 (py n p0) ⟨rfl,rfl,rfl,rfl,rfl,rfl,trivial⟩ rfl (fun _=>⟨rfl,rfl,rfl⟩) (fun _=>⟨rfl,rfl⟩) (fun _ _ _ hd hp=>tO (P:=Tryz.prog) (fn:=Tryz.f12) hd hp) (fun y3 h=>?_))))
 refine zm rfl (zx rfl (zx rfl (za rfl (zs rfl (zQ hK2 (ab fun _ hK4=>ab fun _ hK5=>aa (zf rfl (zl rfl (zc rfl (zQ hK5 (zB rfl h (fun _ h=>?_) fun _ h=>?_)))))))))))
 · refine ab fun _ hK7=>bo [0,1,2,3] rfl (by kernel_rfl) (zD rfl (cT rfl rfl) rfl ?_)
   refine zD rfl (hY rfl rfl rfl rfl) rfl ?_
   refine bR rfl ⟨rfl,rfl,rfl,rfl,rfl,rfl,rfl,rfl⟩ rfl (fun e2 he=>⟨ch ⟨⟨⟨_,rfl,be.le_refl _⟩,trivial⟩,⟨trivial,trivial⟩⟩,?_⟩)
   subst he
   refine bR rfl ⟨rfl,rfl,rfl,rfl,rfl,rfl,rfl,rfl⟩ rfl (fun e3 he=>⟨aJ rfl,?_⟩)
   subst he
   refine b4 (hK7 _ _ (bK (jd 102 rfl rfl) ?_))
   exact ar (sw (n:=Tryz.f12.ntmps) (.inl rfl) (lS (.inl rfl) _ (.cons (aZ rfl rfl rfl) (.cons (aZ rfl rfl rfl) .nil)) h.symm (AV.le_refl _) trivial))
 · refine an (hK4 _ _ (ab fun _ hK8=>aa (al (oG rfl rfl) rfl ?_)))
   refine wu rfl ?_
   have hrO:=hr
   obtain ⟨r,hr,h,hc⟩:=tN hr h
   refine zQ hK8 (ab fun _ hK9=>aa (zm rfl (zm rfl (al (cT rfl rfl) rfl ?_))))
   refine cM 121 (hE _ rfl) ⟨rfl,rfl,rfl,rfl,rfl,rfl,rfl⟩ rfl ?_
   refine za rfl (zQ hK9 (ab fun _ hK10=>aa (zm rfl (al (oG rfl rfl) rfl ?_))))
   refine za rfl (zQ hK10 (ab fun _ hK11=>aa (zm rfl (aY (jd 121 rfl rfl) ?_))))
   refine n7 hr h [121] Tryz.call27 (qW n (ag.mk p0 y3.1 0 0 false none)) ⟨rfl,rfl,rfl,rfl,rfl,rfl,trivial⟩ rfl rfl (fun _=>⟨rfl,rfl,rfl⟩) (fun _=>⟨rfl,rfl⟩) rfl (fun p hp=>?_) (fun y12 h=>?_)
   · obtain ⟨v20,rfl,hc⟩:=nr hrO (kX hc hp)
     obtain ⟨hns,hok,_⟩:=jT hrO hc
     repeat (first|refine kY ?_|refine jV ?_)
     refine gJ (n:=Tryz.f12.ntmps) [102,103] Tryz.call25 (mC v20) hns rfl ⟨rfl,rfl,rfl,rfl⟩ (fun _=>⟨rfl,rfl⟩) (fun x hx=>?_)
     exact eG (.inl rfl) _ (.cons (aZ rfl rfl rfl) (.cons (aZ rfl rfl rfl) .nil)) (hok x hx).symm (AV.le_refl _) trivial
   · refine zs rfl (zQ hK11 (ab fun _ hK13=>ab fun _ hK14=>aa (zA rfl ?_)))
     refine n7 hr h [] Tryz.call28 (uM n y12.1) ⟨rfl,rfl,rfl,rfl,rfl,rfl,trivial⟩ rfl rfl (fun _=>⟨rfl,rfl,rfl⟩) (fun _=>⟨rfl,rfl⟩) rfl (fun p hp=>?_) (fun y15 h=>?_)
     · obtain ⟨v19,rfl,hc⟩:=nr hrO (kX hc hp)
       obtain ⟨hns,hok,_⟩:=jT hrO hc
       repeat (first|refine kY ?_|refine jV ?_)
       refine gJ (n:=Tryz.f12.ntmps) [102,103] Tryz.call25 (mC v19) hns rfl ⟨rfl,rfl,rfl,rfl⟩ (fun _=>⟨rfl,rfl⟩) (fun x hx=>?_)
       exact eG (.inl rfl) _ (.cons (aZ rfl rfl rfl) (.cons (aZ rfl rfl rfl) .nil)) (hok x hx).symm (AV.le_refl _) trivial
     · refine zc rfl (zQ hK14 (zB rfl h (fun _ h=>?_) fun _ h=>?_))
       · refine ab fun _ hK17=>aa (al (cT rfl rfl) rfl ?_)
         refine al (bA rfl rfl rfl) rfl ?_
         refine zs rfl (zs rfl (zQ hK17 (bK (jd 102 rfl rfl) ?_)))
         refine ar (kJ (n:=Tryz.f12.ntmps) (.inl rfl) [102,103] Tryz.call25 (lx [.box [bd [],.pv (.sl (List.length ([]:List bJ)) (bJ.Cs [])),.pv (.sl (List.length ([]:List ax)) (ax.Cs [])),.pv (.sl (List.length ([]:List (List UInt8))) (bS []))],.box [I 9,I 0]]) ⟨rfl,rfl,rfl,rfl⟩ rfl rfl ?_)
         exact eG (.inl rfl) _ (.cons (aZ rfl rfl rfl) (.cons (aZ rfl rfl rfl) .nil)) (pg hc h.symm) (AV.le_refl _) trivial
       · refine an (hK13 _ _ (ab fun _ hK18=>aa (zA rfl ?_)))
         refine al (bA rfl rfl rfl) rfl ?_
         refine zs rfl (zs rfl (zQ hK18 (ar (kJ (n:=Tryz.f12.ntmps) (.inl rfl) [102,103] Tryz.call25 (lx [.box (ga y12.1),.box [I 0,I 0]]) ⟨rfl,rfl,rfl,rfl⟩ rfl rfl ?_))))
         exact eG (.inl rfl) _ (.cons (aZ rfl rfl rfl) (.cons (aZ rfl rfl rfl) .nil)) (pg hc h.symm) (AV.le_refl _) trivial
def iB (n:Nat):ay (Bool):=
 ay.bind (jg n ([97,58,32,49,44,32,98,58,32,97,32,38,32,105,110,116]:List UInt8)) fun y3=>ay.bind (me n ([42,49]:List UInt8)) fun y5=>ay.bind (jg n ([97,58,32,42,49]:List UInt8)) fun y7=>ay.bind (jg n ([120,58,32,123,121,58,32,122,125]:List UInt8)) fun y9=>ay.bind (jg n ([120,58,32,49,32,124,32,123,121,58,32,122,125]:List UInt8)) fun y11=>jn (fun (v13:Bool)=>br v13 (.ok (false)) (br ((y5.2.Errno==8)&&(y5.2.At==2)) (br ((y7.2.Errno==8)&&(y7.2.At==5)) (el y3.1.Decls 1 fun x21=>el x21.bc 0 fun x25=>br (x25.Kind==16) (el y9.1.Decls 0 fun x30=>el x30.bc 0 fun x34=>br (x34.Kind==13) (el y11.1.Decls 0 fun x39=>el x39.bc 0 fun x43=>el x43.bc 1 fun x47=>.ok ((x47.Kind==22))) (.ok (false))) (.ok (false))) (.ok (false))) (.ok (false)))) fun j14=>br (y3.2.Errno !=0) (j14 (true)) (br (y9.2.Errno !=0) (j14 (true)) (br (y11.2.Errno !=0) (j14 (true)) (br ((List.length y3.1.Decls:Int) !=2) (j14 (true)) (br ((List.length y9.1.Decls:Int) !=1) (j14 (true)) (br ((List.length y11.1.Decls:Int) !=1) (j14 (true)) (el y3.1.Decls 1 fun x57=>br ((List.length x57.bc:Int) !=1) (j14 (true)) (el y9.1.Decls 0 fun x62=>br ((List.length x62.bc:Int) !=1) (j14 (true)) (el y11.1.Decls 0 fun x67=>br ((List.length x67.bc:Int) !=1) (j14 (true)) (el y11.1.Decls 0 fun x72=>el x72.bc 0 fun x76=>j14 (((List.length x76.bc:Int) !=2)))))))))))
theorem kA (n:Nat):CT Tryz.prog 11 [] [] (iB n) (fun x=>Bo x) (fun _=>[]):=by
 refine zC Tryz.func11 rfl fun r hp h hr E hE=>ab fun _ hK1=>aa (za rfl (zQ hK1 (ab fun _ hK2=>aa (zk hp hr h [] Tryz.call12 (kz n ([97,58,32,49,44,32,98,58,32,97,32,38,32,105,110,116]:List UInt8)) rfl (fun _=>rfl) fun y3 h=>zm rfl (zx rfl (zx rfl (aM 101 (hE _ rfl) ⟨rfl,rfl,rfl,rfl⟩ rfl ?_)))))))
 refine aM 102 (hE _ rfl) ⟨rfl,rfl,rfl,rfl⟩ rfl ?_
 refine zs rfl (zs rfl (zQ hK2 (ab fun _ hK4=>aa (zk hp hr h [] Tryz.call15 (rN n ([42,49]:List UInt8)) rfl (fun _=>rfl) fun y5 h=>zm rfl (zx rfl (zx rfl (aM 103 (hE _ rfl) ⟨rfl,rfl,rfl,rfl⟩ rfl ?_)))))))
 refine aM 104 (hE _ rfl) ⟨rfl,rfl,rfl,rfl⟩ rfl ?_
 refine zs rfl (zs rfl (zQ hK4 (ab fun _ hK6=>aa (zk hp hr h [] Tryz.call12 (kz n ([97,58,32,42,49]:List UInt8)) rfl (fun _=>rfl) fun y7 h=>zm rfl (zx rfl (zx rfl (aM 105 (hE _ rfl) ⟨rfl,rfl,rfl,rfl⟩ rfl ?_)))))))
 refine aM 106 (hE _ rfl) ⟨rfl,rfl,rfl,rfl⟩ rfl ?_
 refine zs rfl (zs rfl (zQ hK6 (ab fun _ hK8=>aa (zk hp hr h [] Tryz.call12 (kz n ([120,58,32,123,121,58,32,122,125]:List UInt8)) rfl (fun _=>rfl) fun y9 h=>zm rfl (zx rfl (zx rfl (aM 107 (hE _ rfl) ⟨rfl,rfl,rfl,rfl⟩ rfl ?_)))))))
 refine aM 108 (hE _ rfl) ⟨rfl,rfl,rfl,rfl⟩ rfl ?_
 refine zs rfl (zs rfl (zQ hK8 (ab fun _ hK10=>aa (zk hp hr h [] Tryz.call12 (kz n ([120,58,32,49,32,124,32,123,121,58,32,122,125]:List UInt8)) rfl (fun _=>rfl) fun y11 h=>zm rfl (zx rfl (zx rfl (aM 109 (hE _ rfl) ⟨rfl,rfl,rfl,rfl⟩ rfl ?_)))))))
 refine aM 110 (hE _ rfl) ⟨rfl,rfl,rfl,rfl⟩ rfl ?_
 refine zs rfl (zs rfl (zQ hK10 (ab fun _ hK12=>zM h (fun (v13:Bool)=>[(1,.ptr 101 0),(4,.ptr 104 0),(6,.ptr 106 0),(7,.ptr 107 0),(9,.ptr 109 0),(100,Bo v13)]) (fun (v13:Bool)=>[(101,.box (ga y3.1)),(104,.box [I y5.2.Errno,I y5.2.At]),(106,.box [I y7.2.Errno,I y7.2.At]),(107,.box (ga y9.1)),(109,.box (ga y11.1))]) (fun v13 h=>?_) fun _ _ hK15 h=>?_)))
 · refine zB rfl h (fun _ h=>?_) fun _ h=>?_
   · exact ab fun _ hK17=>aa (za rfl (zQ hK17 (ar (zX (.cons (aw rfl) .nil) h rfl))))
   · refine an (hK12 _ _ (ab fun _ hK18=>aa (zA rfl ?_)))
     refine al (bA rfl rfl rfl) rfl ?_
     refine al (CE rfl rfl) rfl (zm rfl (zb ((y5.2.Errno==8)&&(y5.2.At==2)) (fun hb19=>?_) fun hb19=>?_))
     · refine z1 hb19 h fun h=>zG hb19 rfl (hY rfl rfl rfl rfl) ?_
       refine zG hb19 rfl (bA rfl rfl rfl) ?_
       refine zG hb19 rfl (CE rfl rfl) (zy hb19 rfl (zm rfl (zb ((y7.2.Errno==8)&&(y7.2.At==5)) (fun hb20=>?_) fun hb20=>?_)))
       · refine z1 hb20 h fun h=>zG hb20 rfl (bn rfl) (zG hb20 rfl (aX rfl rfl rfl) (ze hr h fun x21 h22 h23 h24 h=>zG hb20 rfl (eE ax.bb ax.bE h22 h23 h24 rfl rfl rfl) (zG hb20 rfl (gH rfl rfl) (zG hb20 rfl (dM rfl rfl) (ze hr h fun x25 h26 h27 h28 h=>zG hb20 rfl (eE ai.bb ai.bE h26 h27 h28 rfl rfl rfl) (zG hb20 rfl (gH rfl rfl) (zG hb20 rfl (dM rfl rfl) (zG hb20 rfl (bf rfl rfl rfl) (zy hb20 rfl (zm rfl (zb (x25.Kind==16) (fun hb29=>?_) fun hb29=>?_)))))))))))
         · refine z1 hb29 h fun h=>zG hb29 rfl (bn rfl) (zG hb29 rfl (aX rfl rfl rfl) (ze hr h fun x30 h31 h32 h33 h=>zG hb29 rfl (eE ax.bb ax.bE h31 h32 h33 rfl rfl rfl) (zG hb29 rfl (gH rfl rfl) (zG hb29 rfl (dM rfl rfl) (ze hr h fun x34 h35 h36 h37 h=>zG hb29 rfl (eE ai.bb ai.bE h35 h36 h37 rfl rfl rfl) (zG hb29 rfl (gH rfl rfl) (zG hb29 rfl (dM rfl rfl) (zG hb29 rfl (bf rfl rfl rfl) (zy hb29 rfl (zm rfl (zb (x34.Kind==13) (fun hb38=>?_) fun hb38=>?_)))))))))))
           · exact z1 hb38 h fun h=>zG hb38 rfl (bn rfl) (zG hb38 rfl (aX rfl rfl rfl) (ze hr h fun x39 h40 h41 h42 h=>zG hb38 rfl (eE ax.bb ax.bE h40 h41 h42 rfl rfl rfl) (zG hb38 rfl (gH rfl rfl) (zG hb38 rfl (dM rfl rfl) (ze hr h fun x43 h44 h45 h46 h=>zG hb38 rfl (eE ai.bb ai.bE h44 h45 h46 rfl rfl rfl) (zG hb38 rfl (gH rfl rfl) (zG hb38 rfl (dM rfl rfl) (ze hr h fun x47 h48 h49 h50 h=>zG hb38 rfl (eE ai.bb ai.bE h48 h49 h50 rfl rfl rfl) (zG hb38 rfl (gH rfl rfl) (zG hb38 rfl (dM rfl rfl) (zG hb38 rfl (bf rfl rfl rfl) (zy hb38 rfl (za rfl (zQ hK18 (ar (zX (.cons (aw rfl) .nil) h rfl))))))))))))))))
           · exact z2 hb38 h fun h=>zg hb38 rfl (zg hb38 rfl (zg hb38 rfl (zg hb38 rfl (zg hb38 rfl (zg hb38 rfl (zg hb38 rfl (zg hb38 rfl (zg hb38 rfl (zg hb38 rfl (zg hb38 rfl (zg hb38 rfl (zw hb38 rfl (za rfl (zQ hK18 (ar (zX (.cons (aw rfl) .nil) h rfl))))))))))))))))
         · refine z2 hb29 h fun h=>zg hb29 rfl (zg hb29 rfl (zg hb29 rfl (zg hb29 rfl (zg hb29 rfl (zg hb29 rfl (zg hb29 rfl (zg hb29 rfl (zg hb29 rfl (zw hb29 rfl (zm rfl (zg rfl rfl (zg rfl rfl (zg rfl rfl (zg rfl rfl (zg rfl rfl (zg rfl rfl (zg rfl rfl (zg rfl rfl (zg rfl rfl (zg rfl rfl (zg rfl rfl (zg rfl rfl (al (dj rfl rfl) rfl ?_)))))))))))))))))))))))
           exact za rfl (zQ hK18 (ar (zX (.cons (aw rfl) .nil) h rfl)))
       · refine z2 hb20 h fun h=>zg hb20 rfl (zg hb20 rfl (zg hb20 rfl (zg hb20 rfl (zg hb20 rfl (zg hb20 rfl (zg hb20 rfl (zg hb20 rfl (zg hb20 rfl (zw hb20 rfl (zm rfl (zg rfl rfl (zg rfl rfl (zg rfl rfl (zg rfl rfl (zg rfl rfl (zg rfl rfl (zg rfl rfl (zg rfl rfl (zg rfl rfl (al (dj rfl rfl) rfl (zm rfl (zg rfl rfl (zg rfl rfl ?_)))))))))))))))))))))))
         exact zg rfl rfl (zg rfl rfl (zg rfl rfl (zg rfl rfl (zg rfl rfl (zg rfl rfl (zg rfl rfl (zg rfl rfl (zg rfl rfl (zg rfl rfl (al (dj rfl rfl) rfl (za rfl (zQ hK18 (ar (zX (.cons (aw rfl) .nil) h rfl))))))))))))))
     · refine z2 hb19 h fun h=>zg hb19 rfl (zg hb19 rfl (zg hb19 rfl (zw hb19 rfl (zm rfl (zg rfl rfl (zg rfl rfl (zg rfl rfl (zg rfl rfl (zg rfl rfl (zg rfl rfl (zg rfl rfl (zg rfl rfl (zg rfl rfl (al (dj rfl rfl) rfl (zm rfl (zg rfl rfl (zg rfl rfl (zg rfl rfl (zg rfl rfl (zg rfl rfl (zg rfl rfl (zg rfl rfl (zg rfl rfl ?_)))))))))))))))))))))))
       exact zg rfl rfl (al (dj rfl rfl) rfl (zm rfl (zg rfl rfl (zg rfl rfl (zg rfl rfl (zg rfl rfl (zg rfl rfl (zg rfl rfl (zg rfl rfl (zg rfl rfl (zg rfl rfl (zg rfl rfl (zg rfl rfl (zg rfl rfl (al (dj rfl rfl) rfl (za rfl (zQ hK18 (ar (zX (.cons (aw rfl) .nil) h rfl)))))))))))))))))))
 · refine aa (zf rfl (zl rfl (zc rfl (zm rfl (zb (y3.2.Errno !=0) (fun hb51=>?_) fun hb51=>?_)))))
   · refine z1 hb51 h fun h=>zg hb51 rfl (zg hb51 rfl (zg hb51 rfl (zy hb51 rfl (zm rfl (zg rfl rfl (zg rfl rfl (zg rfl rfl (zt rfl (zm rfl (zg rfl rfl (zg rfl rfl (zg rfl rfl (zg rfl rfl (zt rfl (zm rfl (zg rfl rfl (zg rfl rfl (zg rfl rfl (zg rfl rfl (zt rfl (zm rfl (zg rfl rfl (zg rfl rfl ?_)))))))))))))))))))))))
     refine zg rfl rfl (zg rfl rfl (zt rfl (zm rfl (zg rfl rfl (zg rfl rfl (zg rfl rfl (zg rfl rfl (zg rfl rfl (zg rfl rfl (zg rfl rfl (zt rfl (zm rfl (zg rfl rfl (zg rfl rfl (zg rfl rfl (zg rfl rfl (zg rfl rfl (zg rfl rfl (zg rfl rfl (zt rfl (zm rfl (zg rfl rfl (zg rfl rfl (zg rfl rfl ?_))))))))))))))))))))))))
     exact zg rfl rfl (zg rfl rfl (zg rfl rfl (zg rfl rfl (zt rfl (zm rfl (zg rfl rfl (zg rfl rfl (zg rfl rfl (zg rfl rfl (zg rfl rfl (zg rfl rfl (zg rfl rfl (zg rfl rfl (zg rfl rfl (zg rfl rfl (zt rfl (ao (hK15 _ _ _ h rfl))))))))))))))))))
   · refine z2 hb51 h fun h=>zG hb51 rfl (bn rfl) (zG hb51 rfl (aX rfl rfl rfl) (zG hb51 rfl (bf rfl rfl rfl) (zw hb51 rfl (zm rfl (zb (y9.2.Errno !=0) (fun hb52=>?_) fun hb52=>?_)))))
     · refine z1 hb52 h fun h=>zg hb52 rfl (zg hb52 rfl (zg hb52 rfl (zy hb52 rfl (zm rfl (zg rfl rfl (zg rfl rfl (zg rfl rfl (zg rfl rfl (zt rfl (zm rfl (zg rfl rfl (zg rfl rfl (zg rfl rfl (zg rfl rfl (zt rfl (zm rfl (zg rfl rfl (zg rfl rfl (zg rfl rfl (zg rfl rfl (zt rfl (zm rfl (zg rfl rfl ?_)))))))))))))))))))))))
       refine zg rfl rfl (zg rfl rfl (zg rfl rfl (zg rfl rfl (zg rfl rfl (zg rfl rfl (zt rfl (zm rfl (zg rfl rfl (zg rfl rfl (zg rfl rfl (zg rfl rfl (zg rfl rfl (zg rfl rfl (zg rfl rfl (zt rfl (zm rfl (zg rfl rfl (zg rfl rfl (zg rfl rfl (zg rfl rfl (zg rfl rfl (zg rfl rfl (zg rfl rfl (zt rfl ?_))))))))))))))))))))))))
       exact zm rfl (zg rfl rfl (zg rfl rfl (zg rfl rfl (zg rfl rfl (zg rfl rfl (zg rfl rfl (zg rfl rfl (zg rfl rfl (zg rfl rfl (zg rfl rfl (zt rfl (ao (hK15 _ _ _ h rfl)))))))))))))
     · refine z2 hb52 h fun h=>zG hb52 rfl (bn rfl) (zG hb52 rfl (aX rfl rfl rfl) (zG hb52 rfl (bf rfl rfl rfl) (zw hb52 rfl (zm rfl (zb (y11.2.Errno !=0) (fun hb53=>?_) fun hb53=>?_)))))
       · refine z1 hb53 h fun h=>zg hb53 rfl (zg hb53 rfl (zg hb53 rfl (zg hb53 rfl (zy hb53 rfl (zm rfl (zg rfl rfl (zg rfl rfl (zg rfl rfl (zg rfl rfl (zt rfl (zm rfl (zg rfl rfl (zg rfl rfl (zg rfl rfl (zg rfl rfl (zt rfl (zm rfl (zg rfl rfl (zg rfl rfl (zg rfl rfl (zg rfl rfl (zg rfl rfl (zg rfl rfl ?_)))))))))))))))))))))))
         refine zg rfl rfl (zt rfl (zm rfl (zg rfl rfl (zg rfl rfl (zg rfl rfl (zg rfl rfl (zg rfl rfl (zg rfl rfl (zg rfl rfl (zt rfl (zm rfl (zg rfl rfl (zg rfl rfl (zg rfl rfl (zg rfl rfl (zg rfl rfl (zg rfl rfl (zg rfl rfl (zt rfl (zm rfl (zg rfl rfl (zg rfl rfl (zg rfl rfl (zg rfl rfl ?_))))))))))))))))))))))))
         exact zg rfl rfl (zg rfl rfl (zg rfl rfl (zg rfl rfl (zg rfl rfl (zg rfl rfl (zt rfl (ao (hK15 _ _ _ h rfl))))))))
       · refine z2 hb53 h fun h=>zG hb53 rfl (bn rfl) (zG hb53 rfl (aX rfl rfl rfl) (zG hb53 rfl (bQ rfl) (zG hb53 rfl (bf rfl rfl rfl) (zw hb53 rfl (zm rfl (zb ((List.length y3.1.Decls:Int) !=2) (fun hb54=>?_) fun hb54=>?_))))))
         · refine z1 hb54 h fun h=>zg hb54 rfl (zg hb54 rfl (zg hb54 rfl (zg hb54 rfl (zy hb54 rfl (zm rfl (zg rfl rfl (zg rfl rfl (zg rfl rfl (zg rfl rfl (zt rfl (zm rfl (zg rfl rfl (zg rfl rfl (zg rfl rfl (zg rfl rfl (zg rfl rfl (zg rfl rfl (zg rfl rfl (zt rfl (zm rfl (zg rfl rfl (zg rfl rfl (zg rfl rfl ?_)))))))))))))))))))))))
           refine zg rfl rfl (zg rfl rfl (zg rfl rfl (zg rfl rfl (zt rfl (zm rfl (zg rfl rfl (zg rfl rfl (zg rfl rfl (zg rfl rfl (zg rfl rfl (zg rfl rfl (zg rfl rfl (zt rfl (zm rfl (zg rfl rfl (zg rfl rfl (zg rfl rfl (zg rfl rfl (zg rfl rfl (zg rfl rfl (zg rfl rfl (zg rfl rfl (zg rfl rfl (zg rfl rfl ?_))))))))))))))))))))))))
           exact zt rfl (ao (hK15 _ _ _ h rfl))
         · refine z2 hb54 h fun h=>zG hb54 rfl (bn rfl) (zG hb54 rfl (aX rfl rfl rfl) (zG hb54 rfl (bQ rfl) (zG hb54 rfl (bf rfl rfl rfl) (zw hb54 rfl (zm rfl (zb ((List.length y9.1.Decls:Int) !=1) (fun hb55=>?_) fun hb55=>?_))))))
           · refine z1 hb55 h fun h=>zg hb55 rfl (zg hb55 rfl (zg hb55 rfl (zg hb55 rfl (zy hb55 rfl (zm rfl (zg rfl rfl (zg rfl rfl (zg rfl rfl (zg rfl rfl (zg rfl rfl (zg rfl rfl (zg rfl rfl (zt rfl (zm rfl (zg rfl rfl (zg rfl rfl (zg rfl rfl (zg rfl rfl (zg rfl rfl (zg rfl rfl (zg rfl rfl (zt rfl (zm rfl ?_)))))))))))))))))))))))
             exact zg rfl rfl (zg rfl rfl (zg rfl rfl (zg rfl rfl (zg rfl rfl (zg rfl rfl (zg rfl rfl (zt rfl (zm rfl (zg rfl rfl (zg rfl rfl (zg rfl rfl (zg rfl rfl (zg rfl rfl (zg rfl rfl (zg rfl rfl (zg rfl rfl (zg rfl rfl (zg rfl rfl (zt rfl (ao (hK15 _ _ _ h rfl)))))))))))))))))))))
           · refine z2 hb55 h fun h=>zG hb55 rfl (bn rfl) (zG hb55 rfl (aX rfl rfl rfl) (zG hb55 rfl (bQ rfl) (zG hb55 rfl (bf rfl rfl rfl) (zw hb55 rfl (zm rfl (zb ((List.length y11.1.Decls:Int) !=1) (fun hb56=>?_) fun hb56=>?_))))))
             · refine z1 hb56 h fun h=>zg hb56 rfl (zg hb56 rfl (zg hb56 rfl (zg hb56 rfl (zg hb56 rfl (zg hb56 rfl (zg hb56 rfl (zy hb56 rfl (zm rfl (zg rfl rfl (zg rfl rfl (zg rfl rfl (zg rfl rfl (zg rfl rfl (zg rfl rfl (zg rfl rfl (zt rfl (zm rfl (zg rfl rfl (zg rfl rfl (zg rfl rfl (zg rfl rfl (zg rfl rfl (zg rfl rfl ?_)))))))))))))))))))))))
               exact zg rfl rfl (zt rfl (zm rfl (zg rfl rfl (zg rfl rfl (zg rfl rfl (zg rfl rfl (zg rfl rfl (zg rfl rfl (zg rfl rfl (zg rfl rfl (zg rfl rfl (zg rfl rfl (zt rfl (ao (hK15 _ _ _ h rfl)))))))))))))))
             · refine z2 hb56 h fun h=>zG hb56 rfl (bn rfl) (zG hb56 rfl (aX rfl rfl rfl) (ze hr h fun x57 h58 h59 h60 h=>zG hb56 rfl (eE ax.bb ax.bE h58 h59 h60 rfl rfl rfl) (zG hb56 rfl (gH rfl rfl) (zG hb56 rfl (dM rfl rfl) (zG hb56 rfl (bQ rfl) (zG hb56 rfl (bf rfl rfl rfl) (zw hb56 rfl (zm rfl (zb ((List.length x57.bc:Int) !=1) (fun hb61=>?_) fun hb61=>?_)))))))))
               · refine z1 hb61 h fun h=>zg hb61 rfl (zg hb61 rfl (zg hb61 rfl (zg hb61 rfl (zg hb61 rfl (zg hb61 rfl (zg hb61 rfl (zy hb61 rfl (zm rfl (zg rfl rfl (zg rfl rfl (zg rfl rfl (zg rfl rfl (zg rfl rfl (zg rfl rfl (zg rfl rfl (zt rfl (zm rfl (zg rfl rfl (zg rfl rfl (zg rfl rfl (zg rfl rfl (zg rfl rfl (zg rfl rfl ?_)))))))))))))))))))))))
                 exact zg rfl rfl (zg rfl rfl (zg rfl rfl (zg rfl rfl (zt rfl (ao (hK15 _ _ _ h rfl))))))
               · refine z2 hb61 h fun h=>zG hb61 rfl (bn rfl) (zG hb61 rfl (aX rfl rfl rfl) (ze hr h fun x62 h63 h64 h65 h=>zG hb61 rfl (eE ax.bb ax.bE h63 h64 h65 rfl rfl rfl) (zG hb61 rfl (gH rfl rfl) (zG hb61 rfl (dM rfl rfl) (zG hb61 rfl (bQ rfl) (zG hb61 rfl (bf rfl rfl rfl) (zw hb61 rfl (zm rfl (zb ((List.length x62.bc:Int) !=1) (fun hb66=>?_) fun hb66=>?_)))))))))
                 · exact z1 hb66 h fun h=>zg hb66 rfl (zg hb66 rfl (zg hb66 rfl (zg hb66 rfl (zg hb66 rfl (zg hb66 rfl (zg hb66 rfl (zy hb66 rfl (zm rfl (zg rfl rfl (zg rfl rfl (zg rfl rfl (zg rfl rfl (zg rfl rfl (zg rfl rfl (zg rfl rfl (zg rfl rfl (zg rfl rfl (zg rfl rfl (zt rfl (ao (hK15 _ _ _ h rfl)))))))))))))))))))))
                 · refine z2 hb66 h fun h=>zG hb66 rfl (bn rfl) (zG hb66 rfl (aX rfl rfl rfl) (ze hr h fun x67 h68 h69 h70 h=>zG hb66 rfl (eE ax.bb ax.bE h68 h69 h70 rfl rfl rfl) (zG hb66 rfl (gH rfl rfl) (zG hb66 rfl (dM rfl rfl) (zG hb66 rfl (bQ rfl) (zG hb66 rfl (bf rfl rfl rfl) (zw hb66 rfl (zm rfl (zb ((List.length x67.bc:Int) !=1) (fun hb71=>?_) fun hb71=>?_)))))))))
                   · exact z1 hb71 h fun h=>zg hb71 rfl (zg hb71 rfl (zg hb71 rfl (zg hb71 rfl (zg hb71 rfl (zg hb71 rfl (zg hb71 rfl (zg hb71 rfl (zg hb71 rfl (zg hb71 rfl (zy hb71 rfl (ao (hK15 _ _ _ h rfl))))))))))))
                   · exact z2 hb71 h fun h=>zG hb71 rfl (bn rfl) (zG hb71 rfl (aX rfl rfl rfl) (ze hr h fun x72 h73 h74 h75 h=>zG hb71 rfl (eE ax.bb ax.bE h73 h74 h75 rfl rfl rfl) (zG hb71 rfl (gH rfl rfl) (zG hb71 rfl (dM rfl rfl) (ze hr h fun x76 h77 h78 h79 h=>zG hb71 rfl (eE ai.bb ai.bE h77 h78 h79 rfl rfl rfl) (zG hb71 rfl (gH rfl rfl) (zG hb71 rfl (dM rfl rfl) (zG hb71 rfl (bQ rfl) (zG hb71 rfl (bf rfl rfl rfl) (zw hb71 rfl (ao (hK15 _ _ _ h rfl))))))))))))
def gg (n:Nat) (p0:(List (List UInt8))) (p1:(List (List UInt8))):ay (Bool):=
 br ((List.length p0:Int) !=(List.length p1:Int)) (.ok (false)) (iter (fun next9 (v8:Int)=>br (decide (v8<(List.length p0:Int))) (el p0 v8 fun sb=>el p1 v8 fun x21=>br (sb !=x21) (.ok (false)) (gd (aD (v8+1)) (next9 (v8+1)))) (.ok (true))) n (0))
theorem jM (n:Nat) (p0:(List (List UInt8))) (p1:(List (List UInt8))):CT Tryz.prog 51 [.pv (.sl (List.length p0) (bS p0)),.pv (.sl (List.length p1) (bS p1))] [] (gg n p0 p1) (fun x=>Bo x) (fun _=>[]):=by
 refine zC Tryz.func51 rfl fun r hp h hr E hE=>ab fun _ hK1=>aa (za rfl (zQ hK1 (ab fun _ hK2=>ab fun _ hK3=>aa (zm rfl (al (bQ rfl) rfl (zm rfl (al (bQ rfl) rfl (zc rfl (zQ hK3 (zB rfl h (fun _ h=>?_) fun _ h=>?_))))))))))
 · exact ab fun _ hK5=>aa (za rfl (zQ hK5 (ar (zX (.cons (aw rfl) .nil) h rfl))))
 · refine an (hK2 _ _ (ab fun _ hK6=>ab fun _ hK7=>aa (zm rfl (al (bQ rfl) rfl (zm rfl (zQ hK7 (aB (zL hr h (fun (v8:Int)=>[(0,.pv (.sl (List.length p0) (bS p0))),(1,.pv (.sl (List.length p1) (bS p1))),(12,I (List.length p0:Int)),(13,I v8)]) (fun (v8:Int)=>[]) rfl fun _ v8 _ hK10 h=>ab fun _ hK11=>aa (zc rfl (zQ hK11 (ab fun _ hK12=>zB rfl h (fun _ h=>?_) fun _ h=>?_)))))))))))
   · refine an (hK12 _ _ (ab fun _ hK14=>aB (ab fun _ hK15=>aa (zm rfl (za rfl (zQ hK15 (ab fun _ hK16=>bo [0,1,2,3,4,5,6,7,8] rfl (by kernel_rfl) (zD rfl (aq rfl) rfl (zD rfl (aq rfl) rfl (ze hr h fun sb h18 h19 h20 h=>zD rfl (eE ej gk h18 h19 h20 rfl rfl rfl) rfl (zD rfl (dM rfl rfl) rfl (zD rfl (aq rfl) rfl (zD rfl (aq rfl) rfl (ze hr h fun x21 h22 h23 h24 h=>zD rfl (eE ej gk h22 h23 h24 rfl rfl rfl) rfl (zD rfl (dM rfl rfl) rfl (zD rfl (qy rfl rfl) rfl (b4 (hK16 _ _ (zB rfl h (fun _ h=>?_) fun _ h=>?_)))))))))))))))))))
     · exact ab fun _ hK26=>aa (za rfl (zQ hK26 (ar (zX (.cons (aw rfl) .nil) h rfl))))
     · exact an (hK14 _ _ (aa (zd hr h fun hg27 h=>zo hg27 rfl (zm rfl (ao (hK10 _ _ _ h rfl))))))
   · exact bh (hK6 _ _ (ab fun _ hK28=>aa (za rfl (zQ hK28 (ar (zX (.cons (aw rfl) .nil) h rfl))))))
end Go.Abs
end
section
namespace Go.Abs
open ay
structure Ei (d:ax):Prop where
 l2:d.Body.length≤70000
 l3:d.b3.length≤70000
 l4:∀ x,x∈d.b3→x.length≤65536
 l5:d.jG.length≤70000
 l6:∀ x,x∈d.jG→x.length≤65536
 l7:d.Trail.length≤65536
 d:∀ x,x∈d.Body→kQ x
theorem kQ.w {d:ax} (h:kQ d):Ei d:=⟨h.l2,h.l3,h.l4,h.l5,h.l6,h.l7,h.d⟩
theorem Ei.one {k p:Int} {lb a b:List UInt8} {x:ai} {d:ax} {pos:Int} (h:Ei d) (hx:gQ x):kQ (ax.mk k p lb a b [x] d.Body d.b3 d.jG d.Trail pos):=
 .mk (by simp) h.l2 h.l3 h.l4 h.l5 h.l6 h.l7 (fun _=>by simp) (by simpa using hx) h.d
theorem kQ.new {k p:Int} {lb a b:List UInt8} {l:List ai} {body:List ax} {tail:List (List UInt8)} {pos:Int} (h1:l.length≤70000) (h2:body.length≤70000) (h3:tail.length≤70000) (h4:∀ x,x∈tail→x.length≤65536)
  (h8:k=1∨k=2∨k=3→1≤l.length) (hs:∀ x,x∈l→gQ x) (hd:∀ x,x∈body→kQ x):kQ (ax.mk k p lb a b l body tail [] [] pos):=
 .mk h1 h2 h3 h4 (by simp) (by simp) (by simp) h8 hs hd
section
variable {s:List UInt8} {T:List aS} {b:Int} {K:Nat} {m:Nat→Nat} {a:Int} {k:Bool} {q:Option ai} {j:Bool}
theorem Bm (hC:PC s T b) (ih:PG s T b K) (hm:b1 m) (h0:0≤a) (h1:a<T.length) (hq:QS q) {d:ax} (hd:kQ d) {t:aS} (ht:T[a.toNat]?=some t) (hk:t.Kind≠0) (hk7:t.Kind≠7) (hK:64*(T.length - a).toNat+14<K+1) :
  Ev (fun i=>dx (m i) j (dh s T a b k q) d) (fun r=>St s T b k a 0 r.1∧kQ r.2) (PP (b+s.length)):=by
 refine Ev.grow (F:=fun n=>dx n j (dh s T a b k q) d) hm fun m hm=>?_
 show Ev (fun i=>gU (m i) (au (m i)) j (dh s T a b k q) d) _ _
 unfold gU
 have hl:=hC.kL
 have hnx:=hC.next h0 ht hk
 have hw:=hd.w
 refine dI hm hC h0 h1 fun a2 t2 h2 h3 ht2 h4 e2=>?_
 have e2:=e2 t ht (fun _=>hk7)
 subst e2
 dsimp only
 refine Ev.gd (by (first|omega|(simp only[aD]<;>omega)|(simp[aD,aL,aN,maxLen]<;>omega))) ?_
 refine Ev.jn (fun v=>St s T b k (a2+1) 0 v.1∧Ei v.2) (fun w hw=>?_) (fun jj hj=>?_)
 ·obtain ⟨p,e⟩:=w
  obtain ⟨⟨a3,q3,hp,h5,h6,hq3⟩,he⟩:=hw
  dsimp only at hp he;subst hp;dsimp only
  refine ja hm hC (by omega) (by omega) (by omega) fun a4 t h7 h8 _ _ _ _=>ey (ih.expr hm (by omega) h8 hq3 (by omega)) fun x a5 q5 h9 h10 hq5 hx=>?_
  exact Ev.ok ⟨⟨a5,q5,rfl,by omega,h10,hq5⟩,he.one hx⟩
 ·refine kh hm hC (by omega) hnx (fun a4 t h7 h8 _ _ _ _=>?_) (fun a4 t h7 h8 _ _ _ _=>?_)
  ·exact Ev.cq (hj _ ⟨⟨a4,q,rfl,by omega,by omega,hq⟩,hw.l2,hw.l3,hw.l4,hw.l5,hw.l6,hw.l7,hw.d⟩)
  ·dsimp only
   refine Ev.cr ?_
   refine kh hm hC (by omega) h8 (fun a5 t h9 h10 _ _ _ _=>?_) (fun a5 t h9 h10 _ _ _ _=>?_)
   ·exact Ev.cq (hj _ ⟨⟨a5,q,rfl,by omega,by omega,hq⟩,hw.l2,hw.l3,hw.l4,hw.l5,hw.l6,hw.l7,hw.d⟩)
   ·exact Ev.cr (hj _ ⟨⟨a5,q,rfl,by omega,by omega,hq⟩,hw.l2,hw.l3,hw.l4,hw.l5,hw.l6,hw.l7,hw.d⟩)
theorem x8 (hC:PC s T b) (ih:PG s T b K) (hm:b1 m) (h0:0≤a) (h1:a<T.length) (hq:QS q) {d:ax} (hd:kQ d) (hp:xI T a) (hK:64*(T.length - a).toNat+14<K+1) :
  Ev (fun i=>c7 (m i) j (dh s T a b k q) d) (fun r=>St s T b k a 0 r.1∧kQ r.2) (PP (b+s.length)):=by
 refine Ev.grow (F:=fun n=>c7 n j (dh s T a b k q) d) hm fun m hm=>?_
 show Ev (fun i=>fX (m i) (au (m i)) j (dh s T a b k q) d) _ _
 unfold fX
 have hl:=hC.kL
 have hw:=hd.w
 obtain ⟨t,u,p1,p2,p3,p4,p5,p6⟩:=hp
 refine ja hm hC h0 h1 (by omega) fun a2 t2 h2 h3 _ _ _ e2=>?_
 have e2:=e2 t p1 (fun _=>by omega)
 subst e2
 refine rP (d:=1) (P:=Ei) ((ta hm hC (by omega) (Int.le_refl _) hq p3 p4 p5 (fun h=>by obtain ⟨w,w1,w2⟩:=p6 h;exact ⟨w,by rw[show a+1+1=a+2 by omega];exact w1,w2⟩)).CC fun r hr=>⟨hr.1,?_⟩) fun x a3 q3 h4 h5 hq3 hxw=>?_
 ·rcases hr.2 with h|⟨l,h⟩
  ·rw[h];exact ⟨hw.l2,hw.l3,hw.l4,hw.l5,hw.l6,hw.l7,hw.d⟩
  ·rw[h];exact ⟨hw.l2,hw.l3,hw.l4,hw.l5,hw.l6,hw.l7,hw.d⟩
 dsimp only
 refine Ev.gd (by (first|omega|(simp only[aD]<;>omega)|(simp[aD,aL,aN,maxLen]<;>omega))) (ja hm hC (by omega) (by omega) (by omega) fun a4 t h7 h8 _ _ _ _=>ey (ih.expr hm (by omega) h8 hq3 (by omega)) fun y a5 q5 h9 h10 hq5 hy=>?_)
 exact Ev.ok ⟨⟨a5,q5,rfl,by omega,h10,hq5⟩,hxw.one hy⟩
theorem x9 (hC:PC s T b) (ih:PG s T b K) (hm:b1 m) (h0:0≤a) (h1:a<T.length) (hq:QS q) {d:ax} (hd:kQ d) (hK:64*(T.length - a).toNat+14<K+1) :
  Ev (fun i=>c6 (m i) j (dh s T a b k q) d) (fun r=>St s T b k a 0 r.1∧kQ r.2) (PP (b+s.length)):=by
 refine Ev.grow (F:=fun n=>c6 n j (dh s T a b k q) d) hm fun m hm=>?_
 show Ev (fun i=>fW (m i) (au (m i)) j (dh s T a b k q) d) _ _
 unfold fW
 have hl:=hC.kL
 have hw:=hd.w
 refine ey (ih.parens hm h0 h1 hq (by omega)) fun e a2 q2 h2 h3 hq2 he=>?_
 dsimp only
 refine dI hm hC (by omega) (by omega) fun a3 t h4 h5 ht h6 _=>?_
 dsimp only
 refine iZ fun r hr _=>Ev.br (fun hr1=>?_) (fun _=>?_)
 ·have hk5:=(hr hr1).1
  have hnx:=hC.next (by omega) ht (by omega)
  refine kp hm hC (by omega) h5 fun a5 t5 v h9 h10 _ h11 _ h12 h13=>?_
  have e5:=h11 t ht h6
  subst e5
  dsimp only
  refine oX hm h12 h13 he fun x hx=>?_
  dsimp only
  refine Ev.gd (by (first|omega|(simp only[aD]<;>omega)|(simp[aD,aL,aN,maxLen]<;>omega))) (ey (ih.expr hm (by omega) hnx hq2 (by omega)) fun y a5 q5 h9 h10 hq5 hy=>?_)
  exact Ev.ok ⟨⟨a5,q5,rfl,by omega,h10,hq5⟩,.mk (by simp) hw.l2 hw.l3 hw.l4 hw.l5 hw.l6 hw.l7 (fun _=>by simp) (by simp;exact ⟨hx,hy⟩) hw.d⟩
 ·refine ey (ih.expr (q:=some e) hm (by omega) h5 (fun x hx=>by cases hx;exact he) (by omega)) fun y a5 q5 h9 h10 hq5 hy=>?_
  exact Ev.ok ⟨⟨a5,q5,rfl,by omega,h10,hq5⟩,hw.one hy⟩
theorem Cl (hC:PC s T b) (ih:PG s T b K) (hm:b1 m) (h0:0≤a) (h1:a<T.length) (hq:QS q) {t:aS} (ht:T[a.toNat]?=some t) (hk:t.Kind≠0) (hk7:t.Kind≠7) (hK:64*(T.length - a).toNat+17<K+1) :
  Ev (fun i=>cF (m i) j (dh s T a b k q)) (fun r=>St s T b k a 0 r.2∧kQ r.1) (PP (b+s.length)):=by
 refine Ev.grow (F:=fun n=>cF n j (dh s T a b k q)) hm fun m hm=>?_
 show Ev (fun i=>iv (m i) (au (m i)) j (dh s T a b k q)) _ _
 unfold iv
 have hl:=hC.kL
 have hnx:=hC.next h0 ht hk
 refine dI hm hC h0 h1 fun a2 t2 h2 h3 ht2 h4 e2=>?_
 have e2:=e2 t ht (fun _=>hk7)
 subst e2
 rw[ht] at ht2;cases ht2
 dsimp only
 refine kp hm hC (by omega) h3 fun a5 t5 v h9 h10 _ h11 _ h12 h13=>?_
 have e5:=h11 t ht h4
 subst e5
 dsimp only
 refine lD hC (by omega) h3 (by omega) (by omega) fun u _=>?_
 dsimp only
 have hd0:kQ (ax.mk 0 0 [] [] [] [] [] [] [] [] v):=.new (by simp) (by simp) (by simp) (by simp) (by simp) (by simp) (by simp)
 refine Ev.jn (fun w=>St s T b k a5 0 w.1∧kQ w.2) (fun w hw=>Ev.ok ⟨hw.1,hw.2⟩) (fun jj hj=>?_)
 refine Ev.jn (fun _=>True) (fun w _=>?_) (fun j2 hj2=>?_)
 ·refine Ev.br (fun _=>?_) (fun _=>?_)
  ·exact rP (ih.field hm (by omega) h3 hq hd0 ht hk hk7 (by omega)) fun x a6 q6 h14 h15 hq6 hx=>hj _ ⟨⟨a6,q6,rfl,h14,h15,hq6⟩,hx⟩
  refine wI hm hC (by omega) h3 fun a6 r h14 h15 e6 hp=>?_
  have e6:=e6 t ht h4
  subst e6
  dsimp only
  refine Ev.br (fun hr=>?_) (fun _=>?_)
  ·exact rP (ih.pattern hm (by omega) h3 hq hd0 (hp hr) (by omega)) fun x a6 q6 h14 h15 hq6 hx=>hj _ ⟨⟨a6,q6,rfl,by omega,h15,hq6⟩,hx⟩
  refine mU fun r _ _=>Ev.br (fun _=>?_) (fun _=>?_)
  ·refine Ev.jn (fun p=>p=dh s T a6 b k q) (fun p hp=>?_) (fun j3 hj3=>?_)
   ·subst hp
    dsimp only
    refine Ev.gd (by (first|omega|(simp only[aD]<;>omega)|(simp[aD,aL,aN,maxLen]<;>omega))) (rp hm hC (by omega) hnx (by omega) fun a7 x h16 h17=>?_)
    dsimp only
    refine ja hm hC (by omega) h17 (by omega) fun a8 t8 h18 h19 _ _ _ _=>ey (ih.expr hm (by omega) h19 hq (by omega)) fun x a9 q9 h20 h21 hq9 hx=>?_
    exact hj _ ⟨⟨a9,q9,rfl,by omega,h21,hq9⟩,.new (by simp) (by simp) (by simp) (by simp) (by simp) (by simpa using hx) (by simp)⟩
   ·exact Ev.bj (fun _=>fy hm hC (by omega) h3 (by omega)) (fun _=>hj3 _ rfl)
  refine iZ fun r _ _=>Ev.br (fun _=>?_) (fun _=>?_)
  ·refine Ev.jn (fun p=>p=dh s T a6 b k q) (fun p hp=>?_) (fun j3 hj3=>?_)
   ·subst hp
    dsimp only
    exact Ev.gd (by (first|omega|(simp only[aD]<;>omega)|(simp[aD,aL,aN,maxLen]<;>omega))) (hj _ ⟨⟨a6+1,q,rfl,by omega,by omega,hq⟩,.new (by simp) (by simp) (by simp) (by simp) (by simp) (by simp) (by simp)⟩)
   ·exact Ev.bj (fun _=>fy hm hC (by omega) h3 (by omega)) (fun _=>hj3 _ rfl)
  refine mU fun r _ _=>Ev.br (fun _=>?_) (fun _=>?_)
  ·refine Ev.gd (by (first|omega|(simp only[aD]<;>omega)|(simp[aD,aL,aN,maxLen]<;>omega))) (ey (ih.expr hm (by omega) hnx hq (by omega)) fun x a9 q9 h20 h21 hq9 hx=>?_)
   dsimp only
   refine Ev.bind (ih.block hm (by omega) (by omega) hq9 (by omega)) (fun _ q=>q) fun r hr=>?_
   obtain ⟨l,tl,p⟩:=r
   obtain ⟨⟨a3,q3,hp,h4,h5,hq3⟩,he1,he2,he3,he4⟩:=hr
   dsimp only at hp he1 he2 he3 he4;subst hp
   exact hj _ ⟨⟨a3,q3,rfl,by omega,h5,hq3⟩,.new (by simp) he1 he3 he4 (by simp) (by simpa using hx) he2⟩
  refine mU fun r _ _=>Ev.br (fun _=>?_) (fun _=>?_)
  ·refine Ev.gd (by (first|omega|(simp only[aD]<;>omega)|(simp[aD,aL,aN,maxLen]<;>omega))) (xH hm hC (by omega) hnx (by omega) fun a7 nm h16 h17=>?_)
   dsimp only
   refine pF hm hC (by omega) h17 (by omega) fun a8 h18 h19=>ey (ih.expr hm (by omega) h19 hq (by omega)) fun x a9 q9 h20 h21 hq9 hx=>?_
   dsimp only
   refine Ev.bind (ih.block hm (by omega) (by omega) hq9 (by omega)) (fun _ q=>q) fun r hr=>?_
   obtain ⟨l,tl,p⟩:=r
   obtain ⟨⟨a3,q3,hp,h4,h5,hq3⟩,he1,he2,he3,he4⟩:=hr
   dsimp only at hp he1 he2 he3 he4;subst hp
   exact hj _ ⟨⟨a3,q3,rfl,by omega,h5,hq3⟩,.new (by simp) he1 he3 he4 (by simp) (by simpa using hx) he2⟩
  refine iZ fun r _ _=>Ev.br (fun _=>?_) (fun _=>?_)
  ·exact rP (ih.yW hm (by omega) h3 hq hd0 (by omega)) fun x a6 q6 h14 h15 hq6 hx=>hj _ ⟨⟨a6,q6,rfl,by omega,h15,hq6⟩,hx⟩
  ·exact ey (ih.expr hm (by omega) h3 hq (by omega)) fun x a9 q9 h20 h21 hq9 hx=>hj _ ⟨⟨a9,q9,rfl,by omega,h21,hq9⟩,.new (by simp) (by simp) (by simp) (by simp) (by simp) (by simpa using hx) (by simp)⟩
 ·refine uL hm fun r _=>Ev.br (fun _=>sB hm (by simp) fun r _=>hj2 _ trivial) (fun _=>hj2 _ trivial)
end
end Go.Abs
end
section
namespace Go.Abs
open ay
section
variable {s:List UInt8} {T:List aS} {b:Int} {K:Nat} {m:Nat→Nat} {a:Int} {k:Bool} {q:Option ai} {j:Bool}
theorem xJ (hC:PC s T b) (hm:b1 m) (h0:0≤a) (h1:a<T.length) (hq:QS q) {lead:List (List UInt8)} (hl1:(lead.length:Int)≤a+1) (hl2:∀ x,x∈lead→x.length≤65536)
  (Hd:∀ {m:Nat→Nat} {a':Int} {q:Option ai} {t:aS},b1 m→a≤a'→a'<T.length→QS q→T[a'.toNat]?=some t→t.Kind≠0→t.Kind≠7→Ev (fun i=>cF (m i) j (dh s T a' b k q)) (fun r=>St s T b k a' 0 r.2∧kQ r.1) (PP (b+s.length))) :
  Ev (fun i=>iL (m i) lead j (dh s T a b k q)) (fun r=>St s T b k a 0 r.2.2∧r.1.length≤70000∧(∀ d,d∈r.1→kQ d)∧r.2.1.length≤70000∧∀ x,x∈r.2.1→x.length≤65536) (PP (b+s.length)):=by
 unfold iL
 have hl:=hC.kL
 refine Ev.iter hm (fun (x:ag×(List (List UInt8))×(List ax)×Int×Bool)=>St s T b k a 0 x.1∧(x.2.1.length:Int)≤x.1.at_+1∧(∀ z,z∈x.2.1→z.length≤65536)∧(x.2.2.1.length:Int)≤x.1.at_+(if x.2.2.2.2 then 0 else 1)∧(∀ d,d∈x.2.2.1→kQ d)∧x.2.2.2.1≤x.1.at_∧(0<x.2.2.2.1→1≤x.2.2.1.length))
  (fun x=>2*(T.length - x.1.at_).toNat+(if x.2.2.2.2 then 1 else 0)) ⟨⟨a,q,rfl,by omega,by omega,hq⟩,by dsimp only;omega,hl2,by simp;omega,by simp,by dsimp only;omega,by simp⟩ ?_
 rintro ⟨p,lead,out,e,sep⟩ ⟨⟨a1,q1,hp,h2,h3,hq1⟩,i1,i2,i3,i4,i5,i6⟩ next hn
 dsimp only at hp i1 i2 i3 i4 i5 i6;subst hp;dsimp only at hn i1 i3 i5 ⊢
 have ho3:out.length≤70000:=by cases sep<;>simp at i3<;>omega
 refine Cc hm hC (by omega) (by omega) fun a2 t r h4 h5 ht hr h7=>?_
 dsimp only
 refine Ev.bj (fun hrf=>?_) (fun _=>Ev.ok ⟨⟨a2,q1,rfl,by omega,by omega,hq1⟩,ho3,i4,by dsimp only;omega,i2⟩)
 have hk0:=hr hrf
 have hnx:=hC.next (by omega) ht hk0
 have htt:=(hC.tok ht).2.2.2.1
 refine dI hm hC (by omega) h5 fun a3 t3 h8 h9 ht3 h10 e3=>?_
 have e3:=e3 t ht h7
 subst e3
 rw[ht] at ht3;cases ht3
 dsimp only
 refine Ev.jn (fun v=>v=false→t.Kind≠7) (fun v hv=>?_) (fun j1 hj1=>?_)
 ·refine Ev.br (fun _=>?_) (fun hvf=>?_)
  ·refine Ev.gd (by (first|omega|(simp only[aD]<;>omega)|(simp[aD,aL,aN,maxLen]<;>omega))) (hn _ ⟨⟨a3+1,q1,rfl,by omega,by omega,hq1⟩,by dsimp only;omega,i2,?_,i4,by dsimp only;omega,i6⟩ ?_)
   ·dsimp only;cases sep<;>simp at i3 ⊢<;>omega
   ·dsimp only;cases sep<;>simp<;>omega
  have hk7:=hv hvf
  refine Ev.jn (fun v=>v.1=dh s T a3 b k q1∧(v.2=true→0<e)) (fun v hv=>?_) (fun j2 hj2=>?_)
  ·obtain ⟨p,w⟩:=v
   obtain ⟨hp,hw⟩:=hv
   dsimp only at hp hw;subst hp;dsimp only
   refine Ev.br (fun hwt=>?_) (fun _=>?_)
   ·have ho:=i6 (hw hwt)
    have ho2:(out.length:Int)≤65540:=by cases sep<;>simp at i3<;>omega
    refine Ev.gd (by (first|omega|(simp only[aD]<;>omega)|(simp[aD,aL,aN,maxLen]<;>omega))) (Ev.el (by omega) (by omega) fun x hx=>?_)
    have hxd:=i4 x (List.mem_of_getElem? hx)
    refine Ev.gd (by (first|omega|(simp only[aD]<;>omega)|(simp[aD,aL,aN,maxLen]<;>omega))) (hn _ ⟨⟨a3+1,q1,rfl,by omega,by omega,hq1⟩,by dsimp only;omega,i2,?_,fun d hd=>?_,by dsimp only;omega,fun _=>by simpa using ho⟩ ?_)
    ·dsimp only;cases sep<;>simp at i3 ⊢<;>omega
    ·dsimp only at hd
     rcases List.mem_or_eq_of_mem_set hd with w|w
     ·exact i4 d w
     ·subst w;exact .mk hxd.l1 hxd.l2 hxd.l3 hxd.l4 hxd.l5 hxd.l6 htt hxd.kd hxd.s hxd.d
    ·dsimp only;cases sep<;>simp<;>omega
   ·refine Ev.jn (fun v=>v.1=dh s T a3 b k q1) (fun v hv=>?_) (fun j3 hj3=>?_)
    ·obtain ⟨p,w⟩:=v
     dsimp only at hv;subst hv;dsimp only
     refine Ev.br (fun _=>?_) (fun _=>?_)
     ·refine Ev.gd (by (first|omega|(simp only[aL,maxLen,List.length_cons,List.length_nil]<;>omega)|(simp[aD,aL,aN,maxLen]<;>omega))) (Ev.gd (by (first|omega|(simp only[aD]<;>omega)|(simp[aD,aL,aN,maxLen]<;>omega))) (hn _ ⟨⟨a3+1,q1,rfl,by omega,by omega,hq1⟩,by simp;omega,fun z hz=>?_,?_,i4,by dsimp only;omega,i6⟩ ?_))
      ·rcases List.mem_append.1 hz with w|w
       ·exact i2 z w
       ·simp at w;subst w;exact htt
      ·dsimp only;cases sep<;>simp at i3 ⊢<;>omega
      ·dsimp only;cases sep<;>simp<;>omega
     ·refine Ev.jn (fun v=>v=false→sep=true) (fun v hv=>?_) (fun j4 hj4=>?_)
      ·refine Ev.br (fun _=>fy hm hC (by omega) h9 (by omega)) (fun hvf=>?_)
       have hsep:=hv hvf
       subst hsep
       simp at i3
       refine ey (Hd hm (by omega) h9 hq1 ht hk0 hk7) fun d a4 q4 h11 h12 hq4 hd=>?_
       dsimp only
       refine Ev.gd (by (first|omega|(simp only[aL,maxLen,List.length_cons,List.length_nil]<;>omega)|(simp[aD,aL,aN,maxLen]<;>omega))) (hn _ ⟨⟨a4,q4,rfl,by omega,h12,hq4⟩,by simp;omega,by simp,by simp;omega,fun z hz=>?_,by dsimp only;omega,fun _=>by simp⟩ (by simp;omega))
       rcases List.mem_append.1 hz with w|w
       ·exact i4 z w
       ·simp at w;subst w
        exact .mk hd.l1 hd.l2 hd.l3 hd.l4 (by omega) i2 hd.l7 hd.kd hd.s hd.d
      ·refine Ev.bm (fun _=>hj4 _ (by simp)) (fun _=>hj4 _ (by simp))
    ·refine Ev.bm (fun _=>?_) (fun _=>hj3 _ rfl)
     exact Ev.bind (pS hm hC (by omega) h9) (fun _ q=>q.elim) fun r hr=>hj3 _ hr
  ·refine Ev.bm (fun _=>Ev.aW (fun he=>?_) (fun _=>hj2 _ ⟨rfl,by simp⟩)) (fun _=>hj2 _ ⟨rfl,by simp⟩)
   exact Ev.bind (s7 hm hC (by omega) h9 (by omega) (by omega)) (fun _ q=>q.elim) fun r hr=>hj2 _ ⟨hr,fun _=>by omega⟩
 ·refine Ev.bm (fun _=>hj1 _ (by simp)) (fun hk7=>iZ fun r _ _=>hj1 _ fun _=>hk7)
theorem ya (hC:PC s T b) (hX:sa s b):∀ K,PG s T b K:=by
 intro K
 induction K with
 | zero=>
  constructor
  all_goals (intros;exact absurd ‹_<0› (Nat.not_lt_zero _))
 | succ K ih=>
  exact {
      expr:=fun hm h0 h1 hq hK=>Ce hC ih hm h0 h1 hq hK
      alt:=fun hm h0 h1 hq hK=>DC hC ih hm h0 h1 hq hK
      Cd:=fun hm h0 h1 hq hK=>Cf hC ih hm h0 h1 hq hK
      bin:=fun hm h0 h1 hq hl0 hl5 hK=>DD hC ih hm h0 h1 hq hl0 hl5 hK
      unary:=fun hm h0 h1 hq hK=>Bi hC ih hm h0 h1 hq hK
      post:=fun hm h0 h1 hq hK=>Cg hC ih hm h0 h1 hq hK
      Eh:=fun hm h0 h1 hq hK=>Ch hC ih hm h0 h1 hq hK
      named:=fun hm h0 h1 hq ht hk hK=>Bk hC ih hm h0 h1 hq ht hk hK
      Bg:=fun hm h0 h1 ht hk _=>zU hC hX hm h0 h1 ht hk
      parens:=fun hm h0 h1 hq hK=>zV hC ih hm h0 h1 hq hK
      Bh:=fun hm h0 h1 hq hK=>zW hC ih hm h0 h1 hq hK
      list:=fun hm h0 h1 hq hK=>Ck hC ih hm h0 h1 hq hK
      block:=fun hm h0 h1 hq hK=>Bl hC ih hm h0 h1 hq hK
      args:=fun hm h0 h1 hq hK=>Ci hC ih hm h0 h1 hq hK
      item:=fun hm h0 h1 hq hK=>Cj hC ih hm h0 h1 hq hK
      field:=fun hm h0 h1 hq hd ht hk hk7 hK=>Bm hC ih hm h0 h1 hq hd ht hk hk7 hK
      pattern:=fun hm h0 h1 hq hd hp hK=>x8 hC ih hm h0 h1 hq hd hp hK
      yW:=fun hm h0 h1 hq hd hK=>x9 hC ih hm h0 h1 hq hd hK
      decl:=fun hm h0 h1 hq ht hk hk7 hK=>Cl hC ih hm h0 h1 hq ht hk hk7 hK
      decls:=fun {m a k q j} hm h0 h1 hq hK=>by
       refine Ev.grow (F:=fun n=>dp n j (dh s T a b k q)) hm fun m hm=>?_
       exact xJ (lead:=[]) hC hm h0 h1 hq (by simp;omega) (by simp) fun hm2 ha h2 hq2 ht hk hk7=>ih.decl hm2 (by omega) h2 hq2 ht hk hk7 (by omega) }
end
theorem wK {m:Nat→Nat} (hm:b1 m) {l:List aS} (hl:l.length≤70000):Ev (fun i=>eC (m i) l) (fun _=>True) gp:=by
 unfold eC
 refine Ev.bind (Q:=fun _=>True) (R':=gp) ?_ (fun _ q=>q) fun y _=>Ev.ok trivial
 unfold gN
 refine Ev.iter hm (fun (x:Int)=>0≤x∧x≤l.length) (fun x=>(l.length - x).toNat) (by omega) ?_
 intro x hx next hn
 refine Ev.aW (fun _=>?_) (fun _=>Ev.ok trivial)
 refine Ev.el (by omega) (by omega) fun t _=>Ev.vD (by unfold n9;rfl) ?_
 refine Ev.br (fun _=>Ev.ok trivial) (fun _=>Ev.gd (by (first|omega|(simp only[aD]<;>omega)|(simp[aD,aL,aN,maxLen]<;>omega))) (hn _ (by omega) (by omega)))
theorem Cm:∀ (N:Nat) {m:Nat→Nat} {x:List UInt8} {f:Int},b1 m→x.length<N→0≤f→f+x.length≤65536→Ev (fun i=>ir (m i) x f) (fun r=>gQ r.1) gp:=by
 intro N
 induction N with
 | zero=>intro m x f _ h;exact absurd h (Nat.not_lt_zero _)
 | succ N ih=>
  intro m x f hm hN h0 h1
  refine Ev.grow (F:=fun n=>ir n x f) hm fun m hm=>?_
  show Ev (fun i=>lJ (m i) (au (m i)) x f) _ _
  unfold lJ
  refine Ev.bind (oj hm) (fun _ q=>q) fun y hy=>?_
  refine Ev.bM (fun _=>Ev.ok (.leaf (by decide))) (fun he=>?_)
  have hT:=(hy.2.2 he).2
  have hC:PC x y.1 f:=⟨hT,h0,h1⟩
  have hX:sa x f:=fun hm2 hlt h2 h3=>ih hm2 (by omega) h2 (by omega)
  have hl:=hC.kL
  have hp:=hC.pos
  refine Ev.bind (wK hm (by omega)) (fun _ q=>q) fun z _=>?_
  refine Ev.br (fun _=>Ev.ok (.leaf (by decide))) (fun _=>?_)
  refine Ev.yQ (R':=PP (f+x.length)) ?_ ?_
  ·refine ey (s:=x) (T:=y.1) (b:=f) (k:=true) (a:=0) (d:=0) (P:=gQ) ((ya hC hX _).expr hm (Int.le_refl _) (by omega) .none (Nat.lt_succ_self _)) fun e a2 q2 h2 h3 hq2 he=>?_
   dsimp only
   exact dI hm hC (by omega) (by omega) fun a3 t h4 h5 _ _ _=>Ev.ok he
  ·rintro p ⟨v,rfl,_,_⟩
   refine Ev.ss ?_
   unfold k7
   exact Ev.ok (.leaf (by decide))
theorem uN {s:List UInt8} {b:Int} (h1:b+s.length≤65536):sa s b:=fun hm h h2 h3=>Cm _ hm (Nat.lt_succ_self _) h2 (by omega)
end Go.Abs
end
