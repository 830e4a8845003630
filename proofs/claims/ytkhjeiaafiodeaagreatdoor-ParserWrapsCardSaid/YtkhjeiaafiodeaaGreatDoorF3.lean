/- PROVED: lemmas of the proof of: configlanglaw26.ParserWraps returns true for every input. CONDITIONS: as each lemma states. (Put together by a program of my own out of my own texts.) -/
import Derived.Test.YtkhjeiaafiodeaaGreatDoorF2
section
namespace Go.Abs
open Go.Proofs aq
structure bq where
 cb:ak→aq (aM×ak)
 fp:ak→aq (aM×ak)
 ct:ak→aq (aM×ak)
 b3:(List aM)→ak→aq ((List aM)×ak)
 fa:ak→aq (aM×ak)
 fb:ak→aq (aM×ak)
def fI (n:Nat) (T:bq) (p0:ak):aq (aM×ak):=
 aq.bind (T.ct p0) fun y3=>iter (fun next6 (v5:ak×(List aM))=>aq.bind (ck v5.1) fun y10=>br (y10.1==124) (gd (bA (y10.2.at_+1)) (aq.bind (T.ct (ak.mk y10.2.text (y10.2.at_+1))) fun y14=>gd (cB 64 (List.length v5.2) (List.length [y14.1])) (next6 (y14.2,v5.2++[y14.1])))) (aq.bind (kM 4 v5.2) fun y17=>.ok (y17,y10.2))) n (y3.2,[y3.1])
def iH (n:Nat) (T:bq) (p0:ak):aq (aM×ak):=
 aq.bind (ck p0) fun y3=>jn (fun (v4:ak)=>gd (bA (v4.at_+1)) (aq.bind (nj n y3.1) fun y10=>.ok (y10,(ak.mk v4.text (v4.at_+1))))) fun j5=>br (decide (y3.2.at_≥(List.length y3.2.text:Int))) (aq.bind (cY (List.length y3.2.text:Int) y3.2) fun y13=>j5 (y13)) (br (y3.1==40) (aq.bind (T.fa y3.2) fun y17=>.ok (y17.1,y17.2)) (br (y3.1==91) (aq.bind (ki n y3.2) fun y21=>.ok (y21.1,y21.2)) (br (y3.1==46) (gd (bA (y3.2.at_+1)) (aq.bind (fS n 0 255) fun y27=>.ok ((aM.mk 2 y27.x0 y27.x1 y27.x2 y27.x3 []),(ak.mk y3.2.text (y3.2.at_+1))))) (br (y3.1==92) (gd (bA (y3.2.at_+1)) (br (decide ((y3.2.at_+1)<(List.length y3.2.text:Int))) (gd (bA (y3.2.at_+1)) (el y3.2.text (y3.2.at_+1) fun b36=>aq.bind (nZ n (b36.toNat:Int)) fun y40=>br y40.2 (gd (bA (y3.2.at_+2)) (.ok ((aM.mk 2 y40.1.x0 y40.1.x1 y40.1.x2 y40.1.x3 []),(ak.mk y3.2.text (y3.2.at_+2))))) (aq.bind (fE n 0 y3.2) fun y47=>aq.bind (nj n y47.1) fun y48=>.ok (y48,y47.2)))) (aq.bind (fE n 0 y3.2) fun y50=>aq.bind (nj n y50.1) fun y51=>.ok (y51,y50.2)))) (jn (fun (v52:Bool)=>br v52 (aq.bind (cY y3.2.at_ y3.2) fun y56=>j5 (y56)) (j5 (y3.2))) fun j53=>br (decide (y3.1<32)) (j53 (true)) (br (decide (y3.1>126)) (j53 (true)) (aq.bind (strings_IndexByte ([40,41,91,93,123,125,124,42,43,63,46,92]:List UInt8) y3.1) fun y59=>j53 ((decide (y59≥0))))))))))
def fA (n:Nat) (T:bq) (p0:ak):aq (aM×ak):=
 aq.bind (T.b3 [] p0) fun y5=>iter (fun next8 (v7:ak×(List aM))=>br (decide (v7.1.at_<(List.length v7.1.text:Int))) (aq.bind (ck v7.1) fun y13=>br (y13.1 !=124) (aq.bind (ck y13.2) fun y15=>br (y15.1 !=41) (aq.bind (T.b3 v7.2 y15.2) fun y17=>next8 (y17.2,y17.1)) (aq.bind (kM 3 v7.2) fun y19=>.ok (y19,y15.2))) (aq.bind (kM 3 v7.2) fun y21=>.ok (y21,y13.2))) (aq.bind (kM 3 v7.2) fun y23=>.ok (y23,v7.1))) n (y5.2,y5.1)
def fl (_:Nat) (T:bq) (p0:(List aM)) (p1:ak):aq ((List aM)×ak):=
 aq.bind (T.fb p1) fun y1=>gd (cB 64 (List.length p0) (List.length [(aM.mk 0 0 0 0 0 [])])) (.ok (p0++[y1.1],y1.2))
def iu (_:Nat) (T:bq) (p0:ak):aq (aM×ak):=
 gd (bA (p0.at_+1)) (aq.bind (ck (ak.mk p0.text (p0.at_+1))) fun y6=>br (y6.1==41) (gd (bA (y6.2.at_+1)) (.ok ((aM.mk 1 0 0 0 0 []),(ak.mk y6.2.text (y6.2.at_+1))))) (aq.bind (T.cb y6.2) fun y12=>jn (fun (v13:ak)=>gd (bA (v13.at_+1)) (.ok (y12.1,(ak.mk v13.text (v13.at_+1))))) fun j14=>aq.bind (ck y12.2) fun y20=>br (y20.1 !=41) (aq.bind (cY y20.2.at_ y20.2) fun y22=>j14 (y22)) (j14 (y20.2))))
def iv (n:Nat) (T:bq) (p0:ak):aq (aM×ak):=
 aq.bind (T.fp p0) fun y3=>iter (fun next5 (v4:ak×aM)=>jn (fun (v8:ak×aM)=>gd (bA (v8.1.at_+1)) (next5 ((ak.mk v8.1.text (v8.1.at_+1)),v8.2))) fun j9=>aq.bind (ck v4.1) fun y13=>br (y13.1==42) (j9 (y13.2,(aM.mk 5 0 0 0 0 [v4.2]))) (br (y13.1==43) (j9 (y13.2,(aM.mk 3 0 0 0 0 [v4.2,(aM.mk 5 0 0 0 0 [v4.2])]))) (br (y13.1==63) (j9 (y13.2,(aM.mk 4 0 0 0 0 [v4.2,(aM.mk 1 0 0 0 0 [])]))) (.ok (v4.2,y13.2))))) n (y3.2,y3.1)
def aR:Nat→bq
 | 0=>⟨fun _=>.stuck,fun _=>.stuck,fun _=>.stuck,fun _ _=>.stuck,fun _=>.stuck,fun _=>.stuck⟩
 | n+1=>⟨fI n (aR n),iH n (aR n),fA n (aR n),fl n (aR n),iu n (aR n),iv n (aR n)⟩
def cb (n:Nat) (p0:ak):aq (aM×ak):=(aR n).cb p0
def fp (n:Nat) (p0:ak):aq (aM×ak):=(aR n).fp p0
def ct (n:Nat) (p0:ak):aq (aM×ak):=(aR n).ct p0
def b3 (n:Nat) (p0:(List aM)) (p1:ak):aq ((List aM)×ak):=(aR n).b3 p0 p1
def fa (n:Nat) (p0:ak):aq (aM×ak):=(aR n).fa p0
def fb (n:Nat) (p0:ak):aq (aM×ak):=(aR n).fb p0
structure cK (T:bq):Prop where
 cb:∀ (p0:ak),CT Tryz.prog 206 [.ptr 0 0] [.box (aJ p0)] (T.cb p0) (fun x=>.agg (eo x.1)) (fun x=>[.box (aJ x.2)])
 fp:∀ (p0:ak),CT Tryz.prog 275 [.ptr 0 0] [.box (aJ p0)] (T.fp p0) (fun x=>.agg (eo x.1)) (fun x=>[.box (aJ x.2)])
 ct:∀ (p0:ak),CT Tryz.prog 238 [.ptr 0 0] [.box (aJ p0)] (T.ct p0) (fun x=>.agg (eo x.1)) (fun x=>[.box (aJ x.2)])
 b3:∀ (p0:(List aM)) (p1:ak),CT Tryz.prog 262 [.ptr 0 0,.ptr 1 0] [.box [.arr 2 (List.length p0)],.box [.ptr 3 0],.arr 137 6 (aM.Cs p0),.box (aJ p1)] (T.b3 p0 p1) (fun _=>.fH []) (fun x=>[.box [.arr 2 (List.length x.1)],.box [.ptr 3 0],.arr 137 6 (aM.Cs x.1),.box (aJ x.2)])
 fa:∀ (p0:ak),CT Tryz.prog 290 [.ptr 0 0] [.box (aJ p0)] (T.fa p0) (fun x=>.agg (eo x.1)) (fun x=>[.box (aJ x.2)])
 fb:∀ (p0:ak),CT Tryz.prog 263 [.ptr 0 0] [.box (aJ p0)] (T.fb p0) (fun x=>.agg (eo x.1)) (fun x=>[.box (aJ x.2)])
theorem mB (n:Nat) (T:bq) (hT:cK T) (p0:ak):CT Tryz.prog 206 [.ptr 0 0] [.box (aJ p0)] (fI n T p0) (fun x=>.agg (eo x.1)) (fun x=>[.box (aJ x.2)]):=by
 refine zC Tryz.func206 rfl fun r hp h hr E hE=>ag fun _ hK1=>aa (aL 102 (hE _ rfl) ⟨rfl,rfl,rfl,rfl⟩ rfl ?_)
 refine zQ hK1 (ag fun _ hK2=>aa (zm rfl (zk hp hr h [0] Tryz.call238 (hT.ct p0) rfl (fun _=>rfl) fun y3 h=>Ea 106 [y3.1] aM.bb aM.bP (hE _ rfl) ⟨rfl,rfl,rfl,rfl⟩ ⟨rfl,rfl,rfl⟩ rfl ?_)))
 refine za rfl (aS (kn 106 10003 [(0,.ptr 0 0),(2,.ptr 102 0),(3,.arr 10003 (List.length [y3.1]))] [(0,.box (aJ y3.2)),(102,.box [I 0,Sc (.int .u64 0),Sc (.int .u64 0),Sc (.int .u64 0),Sc (.int .u64 0),Sc (.slice none 0 0)])] (hE _ rfl) rfl rfl ⟨rfl,rfl⟩ ⟨⟨_,rfl,rfl,rfl⟩,⟨_,rfl,rfl,rfl⟩,⟨_,rfl,rfl,rfl⟩,trivial⟩ ⟨⟨_,rfl,rfl,rfl,rfl,rfl⟩,⟨_,rfl,rfl,rfl,rfl,rfl⟩,trivial⟩) ?_)
 refine zQ hK2 (ag fun _ hK4=>aC (zL hr h (fun (v5:ak×(List aM))=>[(0,.ptr 0 0),(2,.ptr 102 0),(3,.arr 10003 (List.length v5.2))]) (fun (v5:ak×(List aM))=>[(0,.box (aJ v5.1)),(102,.box [I 0,Sc (.int .u64 0),Sc (.int .u64 0),Sc (.int .u64 0),Sc (.int .u64 0),Sc (.slice none 0 0)]),(10003,.app 137 6 (aM.Cs v5.2))]) rfl fun _ v5 _ hK7 h=>ag fun _ hK8=>ag fun _ hK9=>aa (zm rfl (zk hp hr h [0] Tryz.call239 (cz v5.1) rfl (fun _=>rfl) fun y10 h=>zc rfl (zQ hK9 (zB rfl h (fun _ h=>?_) fun _ h=>?_))))))
 · refine ar (hK8 _ _ (aC (ag fun _ hK12=>aa (zm rfl (zn rfl (zf rfl (zl rfl (zd hr h fun hg13 h=>zo hg13 rfl (zn rfl (zf rfl (zs rfl (zQ hK12 (aa (zm rfl (zm rfl (zk hp hr h [0] Tryz.call238 (hT.ct (ak.mk y10.2.text (y10.2.at_+1))) rfl (fun _=>rfl) fun y14 h=>bR [y14.1] aM.bb ⟨rfl,rfl⟩ rfl ?_))))))))))))))))
   refine zd hr h fun hg15 h=>lE 121 ⟨jH.h,eu.h,aM.bb,aM.bP,aM.iS,hE _ rfl,rfl,rfl,(.inl rfl),⟨rfl,rfl,rfl⟩,hg15⟩ rfl ?_
   refine za rfl (aS (kn 121 10003 [(0,.ptr 0 0),(2,.ptr 102 0),(3,.arr 10003 (List.length (v5.2++[y14.1])))] [(0,.box (aJ y14.2)),(102,.box [I 0,Sc (.int .u64 0),Sc (.int .u64 0),Sc (.int .u64 0),Sc (.int .u64 0),Sc (.slice none 0 0)])] (hE _ rfl) rfl rfl ⟨rfl,rfl⟩ ⟨⟨_,rfl,rfl,rfl⟩,⟨_,rfl,rfl,rfl⟩,⟨_,rfl,rfl,rfl⟩,trivial⟩ ⟨⟨_,rfl,rfl,rfl,rfl,rfl⟩,⟨_,rfl,rfl,rfl,rfl,rfl⟩,trivial⟩) ?_)
   exact ao (hK7 _ _ _ h rfl)
 · refine bp (hK4 _ _ (ag fun _ hK16=>aa (an (lM aM.bb aM.bP rfl rfl rfl) rfl ?_)))
   exact zk hp hr h [] Tryz.call240 (mW 4 v5.2) rfl (fun _=>rfl) fun y17 h=>zs rfl (zQ hK16 (aw (zX (.cons (aT rfl rfl rfl) .nil) h rfl)))
theorem qX (n:Nat) (T:bq) (hT:cK T) (p0:ak):CT Tryz.prog 275 [.ptr 0 0] [.box (aJ p0)] (iH n T p0) (fun x=>.agg (eo x.1)) (fun x=>[.box (aJ x.2)]):=by
 refine zC Tryz.func275 rfl fun r hp h hr E hE=>?_
 refine ag fun _ hK1=>?_
 refine aa ?_
 refine aL 102 (hE _ rfl) ⟨rfl,rfl,rfl,rfl⟩ rfl ?_
 refine zQ hK1 ?_
 refine ag fun _ hK2=>?_
 refine aa ?_
 refine zm rfl ?_
 refine zk hp hr h [0] Tryz.call239 (cz p0) rfl (fun _=>rfl) fun y3 h=>?_
 refine za rfl ?_
 refine zQ hK2 ?_
 refine zM h (fun (v4:ak)=>[(0,.ptr 0 0),(2,.ptr 102 0),(3,Sc (.int .u8 y3.1))]) (fun (v4:ak)=>[(0,.box (aJ v4)),(102,.box [I 0,Sc (.int .u64 0),Sc (.int .u64 0),Sc (.int .u64 0),Sc (.int .u64 0),Sc (.slice none 0 0)])]) (fun v4 h=>?_) fun _ _ hK6 h=>?_
 · refine ag fun _ hK7=>?_
   refine aa ?_
   refine zm rfl ?_
   refine zn rfl ?_
   refine zf rfl ?_
   refine zl rfl ?_
   refine zd hr h fun hg8 h=>?_
   refine zo hg8 rfl ?_
   refine zn rfl ?_
   refine zf rfl ?_
   refine zs rfl ?_
   refine zQ hK7 ?_
   refine ag fun _ hK9=>?_
   refine aa ?_
   refine zm rfl ?_
   refine zk hp hr h [] Tryz.call294 (qW n y3.1) rfl (fun _=>rfl) fun y10 h=>?_
   refine zs rfl ?_
   refine zQ hK9 ?_
   refine aw ?_
   exact zX (.cons (aT rfl rfl rfl) .nil) h rfl
 · refine aC ?_
   refine ag fun _ hK11=>?_
   refine bz [0,1,2,3,4,5,6,7,8,9,10] rfl (by kernel_rfl) ?_
   refine zD rfl (au rfl) rfl ?_
   refine zD rfl (cP rfl) rfl ?_
   refine zD rfl (bD rfl) rfl ?_
   refine zD rfl (ba rfl rfl rfl) rfl ?_
   refine zD rfl (au rfl) rfl ?_
   refine zD rfl (cP rfl) rfl ?_
   refine zD rfl (bD rfl) rfl ?_
   refine zD rfl (ba rfl rfl rfl) rfl ?_
   refine zD rfl (cX rfl) rfl ?_
   refine zD rfl (bg rfl rfl rfl) rfl ?_
   refine ea rfl rfl rfl (aH rfl) rfl ?_
   refine cr ?_
   refine hK11 _ _ ?_
   refine zB rfl h (fun _ h=>?_) fun _ h=>?_
   · refine aa ?_
     refine zm rfl ?_
     refine zm rfl ?_
     refine zn rfl ?_
     refine zf rfl ?_
     refine zl rfl ?_
     refine an (cX rfl) rfl ?_
     refine zk hp hr h [0] Tryz.call207 (dC (List.length y3.2.text:Int) y3.2) rfl (fun _=>rfl) fun y13 h=>?_
     refine ao ?_
     exact hK6 _ _ _ h rfl
   · refine ag fun _ hK14=>?_
     refine aa ?_
     refine zm rfl ?_
     refine zc rfl ?_
     refine za rfl ?_
     refine zQ hK14 ?_
     refine zB rfl h (fun _ h=>?_) fun _ h=>?_
     · refine ag fun _ hK16=>?_
       refine aa ?_
       refine zm rfl ?_
       refine zk hp hr h [0] Tryz.call290 (hT.fa y3.2) rfl (fun _=>rfl) fun y17 h=>?_
       refine zs rfl ?_
       refine zQ hK16 ?_
       refine aw ?_
       exact zX (.cons (aT rfl rfl rfl) .nil) h rfl
     · refine ag fun _ hK18=>?_
       refine aa ?_
       refine zm rfl ?_
       refine zc rfl ?_
       refine za rfl ?_
       refine zQ hK18 ?_
       refine zB rfl h (fun _ h=>?_) fun _ h=>?_
       · refine ag fun _ hK20=>?_
         refine aa ?_
         refine zm rfl ?_
         refine zk hp hr h [0] Tryz.call291 (sb n y3.2) rfl (fun _=>rfl) fun y21 h=>?_
         refine zs rfl ?_
         refine zQ hK20 ?_
         refine aw ?_
         exact zX (.cons (aT rfl rfl rfl) .nil) h rfl
       · refine ag fun _ hK22=>?_
         refine aa ?_
         refine zm rfl ?_
         refine zc rfl ?_
         refine za rfl ?_
         refine zQ hK22 ?_
         refine zB rfl h (fun _ h=>?_) fun _ h=>?_
         · refine ag fun _ hK24=>?_
           refine aa ?_
           refine zm rfl ?_
           refine zn rfl ?_
           refine zf rfl ?_
           refine zl rfl ?_
           refine zd hr h fun hg25 h=>?_
           refine zo hg25 rfl ?_
           refine zn rfl ?_
           refine zf rfl ?_
           refine zs rfl ?_
           refine zQ hK24 ?_
           refine ag fun _ hK26=>?_
           refine aa ?_
           refine zk hp hr h [] Tryz.call292 (fT n 0 255) rfl (fun _=>rfl) fun y27 h=>?_
           refine an (dm rfl rfl) rfl ?_
           refine zs rfl ?_
           refine zQ hK26 ?_
           refine bQ (jb 102 rfl rfl) ?_
           refine aw ?_
           exact zX (.cons (aT rfl rfl rfl) .nil) h rfl
         · refine ag fun _ hK28=>?_
           refine aa ?_
           refine zm rfl ?_
           refine zc rfl ?_
           refine za rfl ?_
           refine zQ hK28 ?_
           refine zB rfl h (fun _ h=>?_) fun _ h=>?_
           · refine ag fun _ hK30=>?_
             refine ag fun _ hK31=>?_
             refine bz [0,1,2,3,4,5,6,7,8,9,10] rfl (by kernel_rfl) ?_
             refine zD rfl (au rfl) rfl ?_
             refine zD rfl (cP rfl) rfl ?_
             refine zD rfl (bD rfl) rfl ?_
             refine zD rfl (ba rfl rfl rfl) rfl ?_
             refine zd hr h fun hg32 h=>?_
             refine zD rfl (kZ rfl rfl hg32) rfl ?_
             refine zD rfl (au rfl) rfl ?_
             refine zD rfl (cP rfl) rfl ?_
             refine zD rfl (bD rfl) rfl ?_
             refine zD rfl (ba rfl rfl rfl) rfl ?_
             refine zD rfl (cX rfl) rfl ?_
             refine zD rfl (bg rfl rfl rfl) rfl ?_
             refine cr ?_
             refine hK31 _ _ ?_
             refine zB rfl h (fun _ h=>?_) fun _ h=>?_
             · refine ag fun _ hK34=>?_
               refine bz [0,1,2,3,4,5,6,7,8,9,14,10,11,12,13,15,16] rfl (by kernel_rfl) ?_
               refine zD rfl (au rfl) rfl ?_
               refine zD rfl (cP rfl) rfl ?_
               refine zD rfl (bD rfl) rfl ?_
               refine zD rfl (ba rfl rfl rfl) rfl ?_
               refine zD rfl (au rfl) rfl ?_
               refine zD rfl (cP rfl) rfl ?_
               refine zD rfl (bD rfl) rfl ?_
               refine zD rfl (ba rfl rfl rfl) rfl ?_
               refine zd hr h fun hg35 h=>?_
               refine zD rfl (kZ rfl rfl hg35) rfl ?_
               refine ze hr h fun b36 h37 h38 h39 h=>?_
               refine zD rfl (dL rfl rfl h37 h39) rfl ?_
               refine sr rfl (bM rfl) 104 (hE _ rfl) ⟨rfl,rfl,rfl,rfl,rfl⟩ ⟨rfl,rfl,rfl,rfl⟩ ?_
               refine du rfl (bM rfl) hr h [] Tryz.call293 (vh n (b36.toNat:Int)) ⟨rfl,rfl,rfl,rfl,rfl,rfl,trivial⟩ rfl rfl (fun _=>⟨rfl,rfl,rfl⟩) (fun _=>⟨rfl,rfl⟩) hp (fun y40 h=>⟨aH rfl,?_⟩)
               refine zD rfl (au rfl) rfl ?_
               refine zD rfl (oI rfl rfl) rfl ?_
               refine zD rfl (oI rfl rfl) rfl ?_
               refine rp rfl ⟨rfl,rfl,rfl,rfl,rfl,rfl,rfl,rfl⟩ rfl (fun e15 he=>⟨aH rfl,?_⟩)
               subst he
               refine r7 rfl rfl rfl (aH rfl) rfl ?_
               refine cr ?_
               refine hK34 _ _ ?_
               refine ag fun _ hK41=>?_
               refine aa ?_
               refine zm rfl ?_
               refine zQ hK41 ?_
               refine zB rfl h (fun _ h=>?_) fun _ h=>?_
               · refine ag fun _ hK43=>?_
                 refine aa ?_
                 refine zm rfl ?_
                 refine zn rfl ?_
                 refine zf rfl ?_
                 refine zl rfl ?_
                 refine zd hr h fun hg44 h=>?_
                 refine zo hg44 rfl ?_
                 refine zn rfl ?_
                 refine zf rfl ?_
                 refine zs rfl ?_
                 refine zQ hK43 ?_
                 refine ag fun _ hK45=>?_
                 refine aa ?_
                 refine zA rfl ?_
                 refine an (dm rfl rfl) rfl ?_
                 refine zs rfl ?_
                 refine zQ hK45 ?_
                 refine bQ (jb 102 rfl rfl) ?_
                 refine aw ?_
                 exact zX (.cons (aT rfl rfl rfl) .nil) h rfl
               · refine ar ?_
                 refine hK30 _ _ ?_
                 refine ag fun _ hK46=>?_
                 refine aa ?_
                 refine zm rfl ?_
                 refine zk hp hr h [0] Tryz.call295 (jo n 0 y3.2) rfl (fun _=>rfl) fun y47 h=>?_
                 refine zk hp hr h [] Tryz.call294 (qW n y47.1) rfl (fun _=>rfl) fun y48 h=>?_
                 refine zs rfl ?_
                 refine zQ hK46 ?_
                 refine aw ?_
                 exact zX (.cons (aT rfl rfl rfl) .nil) h rfl
             · refine ar ?_
               refine hK30 _ _ ?_
               refine ag fun _ hK49=>?_
               refine aa ?_
               refine zm rfl ?_
               refine zk hp hr h [0] Tryz.call295 (jo n 0 y3.2) rfl (fun _=>rfl) fun y50 h=>?_
               refine zk hp hr h [] Tryz.call294 (qW n y50.1) rfl (fun _=>rfl) fun y51 h=>?_
               refine zs rfl ?_
               refine zQ hK49 ?_
               refine aw ?_
               exact zX (.cons (aT rfl rfl rfl) .nil) h rfl
           · refine zM h (fun (v52:Bool)=>[(0,.ptr 0 0),(2,.ptr 102 0),(3,Sc (.int .u8 y3.1)),(89,Bo v52)]) (fun (v52:Bool)=>[(0,.box (aJ y3.2)),(102,.box [I 0,Sc (.int .u64 0),Sc (.int .u64 0),Sc (.int .u64 0),Sc (.int .u64 0),Sc (.slice none 0 0)])]) (fun v52 h=>?_) fun _ _ hK54 h=>?_
             · refine zB rfl h (fun _ h=>?_) fun _ h=>?_
               · refine aa ?_
                 refine zm rfl ?_
                 refine zm rfl ?_
                 refine zn rfl ?_
                 refine zf rfl ?_
                 refine zl rfl ?_
                 refine zk hp hr h [0] Tryz.call207 (dC y3.2.at_ y3.2) rfl (fun _=>rfl) fun y56 h=>?_
                 refine ao ?_
                 exact hK6 _ _ _ h rfl
               · refine ar ?_
                 exact hK6 _ _ _ h rfl
             · refine aa ?_
               refine zm rfl ?_
               refine zc rfl ?_
               refine zm rfl ?_
               refine zb (decide (y3.1<32)) (fun hb57=>?_) fun hb57=>?_
               · refine z1 hb57 h fun h=>?_
                 refine zg hb57 rfl ?_
                 refine zg hb57 rfl ?_
                 refine zy hb57 rfl ?_
                 refine zm rfl ?_
                 refine zg rfl rfl ?_
                 refine zg rfl rfl ?_
                 refine zg rfl rfl ?_
                 refine zt rfl ?_
                 refine za rfl ?_
                 refine ao ?_
                 exact hK54 _ _ _ h rfl
               · refine z2 hb57 h fun h=>?_
                 refine zG hb57 rfl (au rfl) ?_
                 refine zG hb57 rfl (bg rfl rfl rfl) ?_
                 refine zw hb57 rfl ?_
                 refine zm rfl ?_
                 refine zb (decide (y3.1>126)) (fun hb58=>?_) fun hb58=>?_
                 · refine z1 hb58 h fun h=>?_
                   refine zg hb58 rfl ?_
                   refine zg hb58 rfl ?_
                   refine zg hb58 rfl ?_
                   refine zy hb58 rfl ?_
                   refine za rfl ?_
                   refine ao ?_
                   exact hK54 _ _ _ h rfl
                 · refine z2 hb58 h fun h=>?_
                   refine zG hb58 rfl (au rfl) ?_
                   refine zK hb58 rfl hp hr h [] Tryz.call296 (kq ([40,41,91,93,123,125,124,42,43,63,46,92]:List UInt8) y3.1) rfl (fun _=>rfl) fun y59 h=>?_
                   refine zG hb58 rfl (bg rfl rfl rfl) ?_
                   refine zw hb58 rfl ?_
                   refine za rfl ?_
                   refine ao ?_
                   exact hK54 _ _ _ h rfl
theorem ma (n:Nat) (T:bq) (hT:cK T) (p0:ak):CT Tryz.prog 238 [.ptr 0 0] [.box (aJ p0)] (fA n T p0) (fun x=>.agg (eo x.1)) (fun x=>[.box (aJ x.2)]):=by
 refine zC Tryz.func238 rfl fun r hp h hr E hE=>ag fun _ hK1=>aa (dP 101 (hE _ rfl) ⟨rfl,rfl,rfl,rfl,rfl,rfl,rfl⟩ rfl ?_)
 refine aL 102 (hE _ rfl) ⟨rfl,rfl,rfl,rfl⟩ rfl ?_
 refine zQ hK1 (ag fun _ hK2=>aa (aL 103 (hE _ rfl) ⟨rfl,rfl,rfl,rfl⟩ rfl ?_))
 refine zQ hK2 (ag fun _ hK3=>aa (an (oO rfl rfl) rfl ?_))
 refine za rfl (zQ hK3 (ag fun _ hK4=>aa (zm rfl (aS (qN (j:=103) (off:=0) 26592 (sz:=6) (el:=137) (hE _ rfl) rfl rfl ⟨rfl,rfl,rfl⟩ rfl rfl) ?_))))
 refine iQ hr h [103,101,26592,0] Tryz.call262 (hT.b3 [] p0) ⟨rfl,rfl,rfl,rfl,rfl,rfl,⟨hE _ rfl,trivial⟩⟩ rfl (fun _=>⟨rfl,rfl,rfl⟩) (fun _=>⟨rfl,rfl⟩) hp (fun y5 h=>?_)
 refine zQ hK4 (ag fun _ hK6=>aC (zL hr h (fun (v7:ak×(List aM))=>[(0,.ptr 0 0),(1,.ptr 101 0),(2,.ptr 102 0),(3,.ptr 103 0),(4,.fn 262 [] [.ptr 103 0,.ptr 101 0])]) (fun (v7:ak×(List aM))=>[(0,.box (aJ v7.1)),(101,.box [.ptr 0 0]),(102,.box [I 0,Sc (.int .u64 0),Sc (.int .u64 0),Sc (.int .u64 0),Sc (.int .u64 0),Sc (.slice none 0 0)]),(103,.box [.arr 26592 (List.length v7.2)]),(26592,.arr 137 6 (aM.Cs v7.2))]) rfl fun _ v7 _ hK9 h=>ag fun _ hK10=>ag fun _ hK11=>bz [0,1,2,3,4,5,6,7,8,9,10,11,12,13,14,15,16,17,18,19] rfl (by kernel_rfl) (zD rfl (ba rfl rfl rfl) rfl (zD rfl (cP rfl) rfl (zD rfl (bD rfl) rfl (zD rfl (ba rfl rfl rfl) rfl (zD rfl (ba rfl rfl rfl) rfl (zD rfl (cP rfl) rfl (zD rfl (bD rfl) rfl (zD rfl (ba rfl rfl rfl) rfl (zD rfl (cX rfl) rfl (zD rfl (bg rfl rfl rfl) rfl (zD rfl (au rfl) rfl (zb (decide (v7.1.at_<(List.length v7.1.text:Int))) (fun hb12=>?_) fun hb12=>?_))))))))))))))
 · refine z1 hb12 h fun h=>df hb12 rfl ⟨rfl,rfl⟩ (ba rfl rfl rfl) ⟨rfl,rfl,rfl⟩ ?_
   refine du rfl (uv hb12 rfl ⟨rfl,rfl⟩) hr h [0] Tryz.call239 (cz v7.1) ⟨rfl,rfl,rfl,rfl,rfl,rfl,trivial⟩ rfl rfl (fun _=>⟨rfl,rfl,rfl⟩) (fun _=>⟨rfl,rfl⟩) hp (fun y13 h=>⟨aH rfl,?_⟩)
   refine df hb12 rfl ⟨rfl,rfl⟩ (bg rfl rfl rfl) ⟨rfl,rfl,rfl⟩ ?_
   refine zD rfl (cT hb12 rfl rfl) rfl (zD rfl (au rfl) rfl (zb (y13.1 !=124) (fun hb14=>?_) fun hb14=>?_))
   · refine z1 hb14 h fun h=>df hb14 rfl ⟨rfl,rfl⟩ (ba rfl rfl rfl) ⟨rfl,rfl,rfl⟩ ?_
     refine du rfl (uv hb14 rfl ⟨rfl,rfl⟩) hr h [0] Tryz.call239 (cz y13.2) ⟨rfl,rfl,rfl,rfl,rfl,rfl,trivial⟩ rfl rfl (fun _=>⟨rfl,rfl,rfl⟩) (fun _=>⟨rfl,rfl⟩) hp (fun y15 h=>⟨aH rfl,?_⟩)
     refine df hb14 rfl ⟨rfl,rfl⟩ (bg rfl rfl rfl) ⟨rfl,rfl,rfl⟩ ?_
     refine zD rfl (cT hb14 rfl rfl) rfl (cr (hK11 _ _ (zB rfl h (fun _ h=>?_) fun _ h=>?_)))
     · refine ar (hK10 _ _ (aC (aa (zm rfl (iQ hr h [103,101,26592,0] Tryz.call262 (hT.b3 v7.2 y15.2) ⟨rfl,rfl,rfl,rfl,rfl,rfl,⟨hE _ rfl,trivial⟩⟩ rfl (fun _=>⟨rfl,rfl,rfl⟩) (fun _=>⟨rfl,rfl⟩) hp (fun y17 h=>?_))))))
       exact ao (hK9 _ _ _ h rfl)
     · refine bp (hK6 _ _ (ag fun _ hK18=>aa (aS (po (j:=103) (off:=0) aM.bb aM.bP rfl rfl rfl rfl (hE _ rfl) rfl) ?_)))
       exact zl rfl (zk hp hr h [] Tryz.call240 (mW 3 v7.2) rfl (fun _=>rfl) fun y19 h=>zs rfl (zQ hK18 (aw (zX (.cons (aT rfl rfl rfl) .nil) h rfl))))
   · refine z2 hb14 h fun h=>cG hb14 rfl ⟨rfl,rfl⟩ ⟨rfl,rfl⟩ ?_
     refine lD hb14 rfl ⟨rfl,rfl⟩ ⟨rfl,rfl⟩ ?_
     refine cG hb14 rfl ⟨rfl,rfl⟩ ⟨rfl,rfl⟩ ?_
     refine zD rfl (cO hb14 rfl rfl) rfl (cr (hK11 _ _ (cN rfl (fun hc=>?_) (fun hc=>?_))))
     · exact absurd (hc) (by simp)
     · refine bp (hK6 _ _ (ag fun _ hK20=>aa (aS (po (j:=103) (off:=0) aM.bb aM.bP rfl rfl rfl rfl (hE _ rfl) rfl) ?_)))
       exact zl rfl (zk hp hr h [] Tryz.call240 (mW 3 v7.2) rfl (fun _=>rfl) fun y21 h=>zs rfl (zQ hK20 (aw (zX (.cons (aT rfl rfl rfl) .nil) h rfl))))
 · refine z2 hb12 h fun h=>cG hb12 rfl ⟨rfl,rfl⟩ ⟨rfl,rfl⟩ ?_
   refine lD hb12 rfl ⟨rfl,rfl⟩ ⟨rfl,rfl⟩ ?_
   refine cG hb12 rfl ⟨rfl,rfl⟩ ⟨rfl,rfl⟩ ?_
   refine zD rfl (cO hb12 rfl rfl) rfl (zD rfl (au rfl) rfl (cG rfl rfl ⟨rfl,rfl⟩ ⟨rfl,rfl⟩ ?_))
   refine lD rfl rfl ⟨rfl,rfl⟩ ⟨rfl,rfl⟩ ?_
   refine cG rfl rfl ⟨rfl,rfl⟩ ⟨rfl,rfl⟩ ?_
   refine zD rfl (dv rfl rfl) rfl (cr (hK11 _ _ (cN rfl (fun hc=>?_) (fun hc=>?_))))
   · exact absurd (hc) (by simp)
   · refine bp (hK6 _ _ (ag fun _ hK22=>aa (aS (po (j:=103) (off:=0) aM.bb aM.bP rfl rfl rfl rfl (hE _ rfl) rfl) ?_)))
     exact zl rfl (zk hp hr h [] Tryz.call240 (mW 3 v7.2) rfl (fun _=>rfl) fun y23 h=>zs rfl (zQ hK22 (aw (zX (.cons (aT rfl rfl rfl) .nil) h rfl))))
theorem lp (n:Nat) (T:bq) (hT:cK T) (p0:(List aM)) (p1:ak):CT Tryz.prog 262 [.ptr 0 0,.ptr 1 0] [.box [.arr 2 (List.length p0)],.box [.ptr 3 0],.arr 137 6 (aM.Cs p0),.box (aJ p1)] (fl n T p0 p1) (fun _=>.fH []) (fun x=>[.box [.arr 2 (List.length x.1)],.box [.ptr 3 0],.arr 137 6 (aM.Cs x.1),.box (aJ x.2)]):=by
 refine zC Tryz.func262 rfl fun r hp h hr E hE=>lY [] ?_
 refine oL [0,1,3,4,2,5,6] 7 8 rfl (by kernel_rfl) ?_
 refine zD rfl (eW [.arr 2 (List.length p0)] rfl rfl ⟨.inl rfl,trivial⟩ rfl) rfl (zD rfl (ba rfl rfl rfl) rfl (zD rfl (lV rfl) rfl (sY [(aM.mk 0 0 0 0 0 [])] aM.bb rfl (bM rfl) ⟨rfl,rfl,rfl⟩ ⟨rfl,rfl⟩ ?_)))
 refine du rfl (bM rfl) hr h [3] Tryz.call263 (hT.fb p1) ⟨rfl,rfl,rfl,rfl,rfl,rfl,trivial⟩ rfl rfl (fun _=>⟨rfl,rfl,rfl⟩) (fun _=>⟨rfl,rfl⟩) hp (fun y1 h=>⟨cC ⟨trivial,⟨trivial,⟨trivial,⟨⟨⟨_,rfl,aZ.eR ⟨.inl rfl,trivial⟩⟩,trivial⟩,trivial⟩⟩⟩⟩,?_⟩)
 refine zd hr h fun hg2 h=>mU 107 rfl (bM rfl) ⟨jH.h,eu.h,aM.bb,aM.bP,aM.iS,hE _ rfl,rfl,rfl,(.inl rfl),⟨rfl,rfl,rfl⟩,hg2⟩ rfl rfl ⟨aH rfl,?_⟩
 refine zD rfl (lU rfl rfl (Int.natCast_nonneg _) (ru _ _)) rfl (rv ?_ ?_)
 · refine mw p0 rfl (⟨aM.bb,aM.bP,Int.natCast_nonneg _,jA _ _,rfl,rfl,rfl,rfl,rfl,ls.h,rfl,rfl,rfl⟩:u6 _ _ _ _ _ _ _ _ _ 0 _ _ _ _ _ _ y1.1 _ (aM.C y1.1)) rfl ⟨aH rfl,?_⟩
   refine bV rfl ⟨rfl,rfl,rfl,rfl,rfl,rfl,rfl,rfl⟩ rfl (fun e8 he=>⟨aH rfl,?_⟩)
   subst he
   refine fP (eH.trans (mx 0 0 (m':=List.length (p0++[y1.1])) rfl rfl (by simp) rfl) (iR 107 2 [(0,.ptr 0 0),(1,.ptr 1 0)] [(0,.box [.arr 2 (List.length (p0++[y1.1]))]),(1,.box [.ptr 3 0]),(3,.box (aJ y1.2))] (hE _ rfl) rfl rfl ⟨rfl,rfl⟩ ⟨⟨_,rfl,rfl,rfl⟩,⟨_,rfl,rfl,rfl⟩,trivial⟩ ⟨⟨_,rfl,rfl,rfl,rfl,rfl⟩,⟨_,rfl,rfl,rfl,rfl,rfl⟩,⟨_,rfl,rfl,rfl,rfl,rfl⟩,trivial⟩)) ?_
   exact zY .nil h rfl
 · refine bV rfl ⟨rfl,rfl,rfl,rfl,rfl,rfl,rfl,rfl⟩ rfl (fun e7 he=>⟨aH rfl,?_⟩)
   subst he
   refine mw p0 rfl (⟨aM.bb,aM.bP,Int.natCast_nonneg _,jA _ _,rfl,rfl,rfl,rfl,rfl,ls.h,rfl,rfl,rfl⟩:u6 _ _ _ _ _ _ _ _ _ 0 _ _ _ _ _ _ y1.1 _ (aM.C y1.1)) rfl ⟨aH rfl,?_⟩
   refine fP (eH.trans (mx 0 0 (m':=List.length (p0++[y1.1])) rfl rfl (by simp) rfl) (iR 107 2 [(0,.ptr 0 0),(1,.ptr 1 0)] [(0,.box [.arr 2 (List.length (p0++[y1.1]))]),(1,.box [.ptr 3 0]),(3,.box (aJ y1.2))] (hE _ rfl) rfl rfl ⟨rfl,rfl⟩ ⟨⟨_,rfl,rfl,rfl⟩,⟨_,rfl,rfl,rfl⟩,trivial⟩ ⟨⟨_,rfl,rfl,rfl,rfl,rfl⟩,⟨_,rfl,rfl,rfl,rfl,rfl⟩,⟨_,rfl,rfl,rfl,rfl,rfl⟩,trivial⟩)) ?_
   exact zY .nil h rfl
theorem qg (n:Nat) (T:bq) (hT:cK T) (p0:ak):CT Tryz.prog 290 [.ptr 0 0] [.box (aJ p0)] (iu n T p0) (fun x=>.agg (eo x.1)) (fun x=>[.box (aJ x.2)]):=by
 refine zC Tryz.func290 rfl fun r hp h hr E hE=>ag fun _ hK1=>aa (aL 102 (hE _ rfl) ⟨rfl,rfl,rfl,rfl⟩ rfl ?_)
 refine zQ hK1 (ag fun _ hK2=>aa (zm rfl (zn rfl (zf rfl (zl rfl (zd hr h fun hg3 h=>zo hg3 rfl (zn rfl (zf rfl (zs rfl (zQ hK2 (ag fun _ hK4=>ag fun _ hK5=>aa (zm rfl (zk hp hr h [0] Tryz.call239 (cz (ak.mk p0.text (p0.at_+1))) rfl (fun _=>rfl) fun y6 h=>zc rfl (zQ hK5 (zB rfl h (fun _ h=>?_) fun _ h=>?_)))))))))))))))
 · refine ag fun _ hK8=>aa (zm rfl (zn rfl (zf rfl (zl rfl (zd hr h fun hg9 h=>zo hg9 rfl (zn rfl (zf rfl (zs rfl (zQ hK8 (ag fun _ hK10=>aa (an (dm rfl rfl) rfl ?_)))))))))))
   refine zs rfl (zQ hK10 (bQ (jb 102 rfl rfl) ?_))
   exact aw (zX (.cons (aT rfl rfl rfl) .nil) h rfl)
 · refine ar (hK4 _ _ (ag fun _ hK11=>aa (zm rfl (zk hp hr h [0] Tryz.call206 (hT.cb y6.2) rfl (fun _=>rfl) fun y12 h=>aL 103 (hE _ rfl) ⟨rfl,rfl,rfl,rfl⟩ rfl ?_))))
   refine zs rfl (zQ hK11 (zM h (fun (v13:ak)=>[(0,.ptr 0 0),(2,.ptr 102 0),(3,.ptr 103 0)]) (fun (v13:ak)=>[(0,.box (aJ v13)),(102,.box [I 0,Sc (.int .u64 0),Sc (.int .u64 0),Sc (.int .u64 0),Sc (.int .u64 0),Sc (.slice none 0 0)]),(103,.box (eo y12.1))]) (fun v13 h=>?_) fun _ _ hK15 h=>?_))
   · refine ag fun _ hK16=>aa (zm rfl (zn rfl (zf rfl (zl rfl (zd hr h fun hg17 h=>zo hg17 rfl (zn rfl (zf rfl (zs rfl (zQ hK16 (ag fun _ hK18=>aa (zA rfl ?_)))))))))))
     exact zs rfl (zQ hK18 (aw (zX (.cons (aT rfl rfl rfl) .nil) h rfl)))
   · refine ag fun _ hK19=>aa (zm rfl (zk hp hr h [0] Tryz.call239 (cz y12.2) rfl (fun _=>rfl) fun y20 h=>zc rfl (zQ hK19 (zB rfl h (fun _ h=>?_) fun _ h=>?_))))
     · exact aa (zm rfl (zm rfl (zn rfl (zf rfl (zl rfl (zk hp hr h [0] Tryz.call207 (dC y20.2.at_ y20.2) rfl (fun _=>rfl) fun y22 h=>ao (hK15 _ _ _ h rfl)))))))
     · exact ar (hK15 _ _ _ h rfl)
theorem qh (n:Nat) (T:bq) (hT:cK T) (p0:ak):CT Tryz.prog 263 [.ptr 0 0] [.box (aJ p0)] (iv n T p0) (fun x=>.agg (eo x.1)) (fun x=>[.box (aJ x.2)]):=by
 refine zC Tryz.func263 rfl fun r hp h hr E hE=>ag fun _ hK1=>aa (aL 102 (hE _ rfl) ⟨rfl,rfl,rfl,rfl⟩ rfl ?_)
 refine zQ hK1 (ag fun _ hK2=>aa (zm rfl (zk hp hr h [0] Tryz.call275 (hT.fp p0) rfl (fun _=>rfl) fun y3 h=>aL 103 (hE _ rfl) ⟨rfl,rfl,rfl,rfl⟩ rfl ?_)))
 refine zs rfl (zQ hK2 (aC (zL hr h (fun (v4:ak×aM)=>[(0,.ptr 0 0),(2,.ptr 102 0),(3,.ptr 103 0)]) (fun (v4:ak×aM)=>[(0,.box (aJ v4.1)),(102,.box [I 0,Sc (.int .u64 0),Sc (.int .u64 0),Sc (.int .u64 0),Sc (.int .u64 0),Sc (.slice none 0 0)]),(103,.box (eo v4.2))]) rfl fun _ v4 _ hK6 h=>aC (ag fun _ hK7=>aa (zA rfl ?_)))))
 refine bR [v4.2] aM.bb ⟨rfl,rfl⟩ rfl ?_
 refine an (bE rfl rfl rfl) rfl ?_
 refine aL 104 (hE _ rfl) ⟨rfl,rfl,rfl,rfl⟩ rfl ?_
 refine zs rfl (zQ hK7 (zM h (fun (v8:ak×aM)=>[(0,.ptr 0 0),(2,.ptr 102 0),(3,.ptr 103 0)]) (fun (v8:ak×aM)=>[(0,.box (aJ v8.1)),(102,.box [I 0,Sc (.int .u64 0),Sc (.int .u64 0),Sc (.int .u64 0),Sc (.int .u64 0),Sc (.slice none 0 0)]),(103,.box (eo v8.2))]) (fun v8 h=>?_) fun _ _ hK10 h=>?_))
 · exact aa (zm rfl (zn rfl (zf rfl (zl rfl (zd hr h fun hg11 h=>zo hg11 rfl (zn rfl (zf rfl (zs rfl (ao (hK6 _ _ _ h rfl))))))))))
 · refine ag fun _ hK12=>aa (zm rfl (zk hp hr h [0] Tryz.call239 (cz v4.1) rfl (fun _=>rfl) fun y13 h=>zQ hK12 (aC (ag fun _ hK14=>aa (zc rfl (za rfl (zQ hK14 (zB rfl h (fun _ h=>?_) fun _ h=>?_))))))))
   · refine aa (zA rfl ?_)
     exact zs rfl (ao (hK10 _ _ _ h rfl))
   · refine ag fun _ hK16=>aa (zc rfl (za rfl (zQ hK16 (zB rfl h (fun _ h=>?_) fun _ h=>?_))))
     · refine aa (zA rfl ?_)
       refine zA rfl ?_
       refine bR [v4.2,(aM.mk 5 0 0 0 0 [v4.2])] aM.bb ⟨rfl,rfl⟩ rfl ?_
       refine an (bE rfl rfl rfl) rfl ?_
       exact zs rfl (ao (hK10 _ _ _ h rfl))
     · refine ag fun _ hK18=>aa (zc rfl (za rfl (zQ hK18 (zB rfl h (fun _ h=>?_) fun _ h=>?_))))
       · refine aa (zA rfl ?_)
         refine an (bE rfl rfl rfl) rfl ?_
         refine bR [v4.2,(aM.mk 1 0 0 0 0 [])] aM.bb ⟨rfl,rfl⟩ rfl ?_
         refine an (bE rfl rfl rfl) rfl ?_
         exact zs rfl (ao (hK10 _ _ _ h rfl))
       · refine ag fun _ hK20=>aa (zA rfl ?_)
         exact zs rfl (zQ hK20 (aw (zX (.cons (aT rfl rfl rfl) .nil) h rfl)))
theorem cH:∀ n,cK (aR n)
 | 0=>⟨fun _=>ch,fun _=>ch,fun _=>ch,fun _ _=>ch,fun _=>ch,fun _=>ch⟩
 | n+1=>⟨fun p0=>mB n _ (cH n) p0,fun p0=>qX n _ (cH n) p0,fun p0=>ma n _ (cH n) p0,fun p0 p1=>lp n _ (cH n) p0 p1,fun p0=>qg n _ (cH n) p0,fun p0=>qh n _ (cH n) p0⟩
theorem mX (n:Nat) (p0:ak):CT Tryz.prog 206 [.ptr 0 0] [.box (aJ p0)] (cb n p0) (fun x=>.agg (eo x.1)) (fun x=>[.box (aJ x.2)]):=(cH n).cb p0
def mb (n:Nat) (p0:(List UInt8)):aq (aM×eb):=
 br (decide ((List.length p0:Int)>1000)) (.ok ((aM.mk 0 0 0 0 0 []),(eb.mk 2 0))) (nv (aq.bind (cb n (ak.mk p0 0)) fun y9=>jn (fun (_:ak)=>aq.bind (qV n y9.1) fun y15=>br (y15==9) (.ok ((aM.mk 0 0 0 0 0 []),(eb.mk 9 0))) (.ok (y9.1,(eb.mk 0 0)))) fun j11=>br (decide (y9.2.at_<(List.length p0:Int))) (aq.bind (cY y9.2.at_ y9.2) fun y22=>j11 (y22)) (j11 (y9.2))) (fun p=>r6 202 p fun v25=>aq.bind (k8 v25) fun y26=>.ok (y26.1,y26.2)))
theorem rR (n:Nat) (p0:(List UInt8)):CT Tryz.prog 163 [aY p0] [] (mb n p0) (fun x=>.fH [.agg (eo x.1),.agg [I x.2.Errno,I x.2.At]]) (fun _=>[]):=by
 refine rq Tryz.func163 rfl rfl fun r h hr E hE=>?_
 refine ag fun _ hK1=>aa (aL 102 (hE _ rfl) ⟨rfl,rfl,rfl,rfl⟩ rfl ?_)
 refine aL 103 (hE _ rfl) ⟨rfl,rfl,rfl,rfl⟩ rfl ?_
 refine zQ hK1 (ag fun _ hK2=>ag fun _ hK3=>aa (zm rfl (an (cX rfl) rfl (zc rfl (zQ hK3 (zB rfl h (fun _ h=>?_) fun _ h=>?_))))))
 · refine ag fun _ hK5=>aa (an (dm rfl rfl) rfl ?_)
   refine an (bE rfl rfl rfl) rfl ?_
   refine zs rfl (zs rfl (zQ hK5 (bQ (jb 102 rfl rfl) ?_)))
   exact aw (ss (n:=Tryz.f163.ntmps) (.inl rfl) (lX (.inl rfl) _ (.cons (aT rfl rfl rfl) (.cons (aT rfl rfl rfl) .nil)) h.symm (AV.le_refl _) trivial))
 · refine ar (hK2 _ _ (ag fun _ hK6=>aa (zm rfl (an (bE rfl rfl rfl) rfl ?_))))
   refine dP 112 (hE _ rfl) ⟨rfl,rfl,rfl,rfl,rfl,rfl,rfl⟩ rfl ?_
   refine aL 104 (hE _ rfl) ⟨rfl,rfl,rfl,rfl⟩ rfl ?_
   refine zs rfl (zQ hK6 (ag fun _ hK7=>aa (an (oO rfl rfl) rfl ?_)))
   refine wy rfl ?_
   have hrO:=hr
   obtain ⟨r,hr,h,hc⟩:=tO hr h
   refine zQ hK7 (ag fun _ hK8=>aa (zl rfl (oj hr h [112] Tryz.call206 (mX n (ak.mk p0 0)) ⟨rfl,rfl,rfl,rfl,rfl,rfl,trivial⟩ rfl rfl (fun _=>⟨rfl,rfl,rfl⟩) (fun _=>⟨rfl,rfl⟩) rfl (fun p hp=>?_) (fun y9 h=>?_))))
   · obtain ⟨v24,rfl,hc⟩:=lF hrO (k2 hc hp)
     obtain ⟨hns,hok,_⟩:=jU hrO hc
     repeat (first|refine k3 ?_|refine jW ?_)
     refine gV (n:=Tryz.f163.ntmps) [104,102,103,112] Tryz.call205 (kr v24) hns rfl ⟨rfl,rfl,rfl,rfl⟩ (fun _=>⟨rfl,rfl⟩) (fun x hx=>?_)
     exact fw (.inl rfl) _ (.cons (aT rfl rfl rfl) (.cons (aT rfl rfl rfl) .nil)) (hok x hx).symm (AV.le_refl _) trivial
   · refine zs rfl (zQ hK8 (zM h (fun (v10:ak)=>[(0,aY p0),(2,.ptr 102 0),(3,.ptr 103 0)]) (fun (v10:ak)=>[(102,.box (eo y9.1)),(103,.box [I 0,I 0]),(104,.box [.ptr 112 0]),(112,.box (aJ v10))]) (fun v10 h=>?_) fun _ _ hK12 h=>?_))
     · refine ag fun _ hK13=>ag fun _ hK14=>aa (zA rfl ?_)
       refine oj hr h [] Tryz.call208 (vg n y9.1) ⟨rfl,rfl,rfl,rfl,rfl,rfl,trivial⟩ rfl rfl (fun _=>⟨rfl,rfl,rfl⟩) (fun _=>⟨rfl,rfl⟩) rfl (fun p hp=>?_) (fun y15 h=>?_)
       · obtain ⟨v19,rfl,hc⟩:=lF hrO (k2 hc hp)
         obtain ⟨hns,hok,_⟩:=jU hrO hc
         repeat (first|refine k3 ?_|refine jW ?_)
         refine gV (n:=Tryz.f163.ntmps) [104,102,103,112] Tryz.call205 (kr v19) hns rfl ⟨rfl,rfl,rfl,rfl⟩ (fun _=>⟨rfl,rfl⟩) (fun x hx=>?_)
         exact fw (.inl rfl) _ (.cons (aT rfl rfl rfl) (.cons (aT rfl rfl rfl) .nil)) (hok x hx).symm (AV.le_refl _) trivial
       · refine zc rfl (zQ hK14 (zB rfl h (fun _ h=>?_) fun _ h=>?_))
         · refine ag fun _ hK17=>aa (an (dm rfl rfl) rfl ?_)
           refine an (bE rfl rfl rfl) rfl ?_
           refine zs rfl (zs rfl (zQ hK17 (bQ (jb 102 rfl rfl) ?_)))
           refine aw (kL (n:=Tryz.f163.ntmps) (.inl rfl) [104,102,103,112] Tryz.call205 (lz [.box [.ptr 3 0],.box [I 0,Sc (.int .u64 0),Sc (.int .u64 0),Sc (.int .u64 0),Sc (.int .u64 0),.pv (.sl (List.length ([]:List aM)) (aM.Cs []))],.box [I 9,I 0],.box (aJ v10)]) ⟨rfl,rfl,rfl,rfl⟩ rfl rfl ?_)
           exact fw (.inl rfl) _ (.cons (aT rfl rfl rfl) (.cons (aT rfl rfl rfl) .nil)) (pr hc h.symm) (AV.le_refl _) trivial
         · refine ar (hK13 _ _ (ag fun _ hK18=>aa (zA rfl ?_)))
           refine an (bE rfl rfl rfl) rfl ?_
           refine zs rfl (zs rfl (zQ hK18 (aw (kL (n:=Tryz.f163.ntmps) (.inl rfl) [104,102,103,112] Tryz.call205 (lz [.box [.ptr 3 0],.box (eo y9.1),.box [I 0,I 0],.box (aJ v10)]) ⟨rfl,rfl,rfl,rfl⟩ rfl rfl ?_))))
           exact fw (.inl rfl) _ (.cons (aT rfl rfl rfl) (.cons (aT rfl rfl rfl) .nil)) (pr hc h.symm) (AV.le_refl _) trivial
     · refine ag fun _ hK20=>aa (zl rfl (zn rfl (zf rfl (zl rfl (zm rfl (an (cX rfl) rfl (zc rfl (zQ hK20 (zB rfl h (fun _ h=>?_) fun _ h=>?_)))))))))
       · refine bz [0,1,2,3,4,5] rfl (by kernel_rfl) (zD rfl (ba rfl rfl rfl) rfl (zD rfl (ba rfl rfl rfl) rfl (zD rfl (cP rfl) rfl (zD rfl (bD rfl) rfl (zD rfl (ba rfl rfl rfl) rfl (Ec rfl (bM rfl) rfl hr h [112] Tryz.call207 (dC y9.2.at_ y9.2) ⟨rfl,rfl,rfl,rfl,rfl,rfl,trivial⟩ rfl rfl (fun _=>⟨rfl,rfl,rfl⟩) (fun _=>⟨rfl,rfl⟩) rfl (fun p hp=>?_) (fun y22 h=>?_)))))))
         · obtain ⟨v23,rfl,hc⟩:=lF hrO (k2 hc hp)
           obtain ⟨hns,hok,_⟩:=jU hrO hc
           repeat (first|refine k3 ?_|refine jW ?_)
           refine gV (n:=Tryz.f163.ntmps) [104,102,103,112] Tryz.call205 (kr v23) hns rfl ⟨rfl,rfl,rfl,rfl⟩ (fun _=>⟨rfl,rfl⟩) (fun x hx=>?_)
           exact fw (.inl rfl) _ (.cons (aT rfl rfl rfl) (.cons (aT rfl rfl rfl) .nil)) (hok x hx).symm (AV.le_refl _) trivial
         · exact cr (hK12 _ _ _ h rfl)
       · exact ar (hK12 _ _ _ h rfl)
def gC (n:Nat) (p0:ab) (p1:ax):aq (ab×ax):=
 jn (fun (v1:ab×ax)=>gd (bA (v1.1.at_+1)) (aq.bind (cy n ([93]:List UInt8) (ab.mk v1.1.text v1.1.bd (v1.1.at_+1) v1.1.base v1.1.skip v1.1.pending)) fun y6=>.ok (y6,v1.2))) fun j2=>aq.bind (bG n ([61,126]:List UInt8) p0) fun y8=>br y8.1 (aq.bind (aE n y8.2) fun y11=>aq.bind (mb n y11.1.Text) fun y13=>br (y13.2.Errno !=0) (aq.bind (be n (ab.mk y11.2.text y11.2.bd y11.2.at_ y8.2.base y11.2.skip y11.2.pending)) fun y16=>j2 (y16,(ax.mk p1.Kind p1.ca y11.1.Text p1.bf p1.bj p1.aW p1.Body p1.cd p1.jk p1.Trail p1.Pos))) (j2 ((ab.mk y11.2.text y11.2.bd y11.2.at_ y8.2.base y11.2.skip y11.2.pending),(ax.mk p1.Kind p1.ca y11.1.Text p1.bf p1.bj p1.aW p1.Body p1.cd p1.jk p1.Trail p1.Pos)))) (j2 (y8.2,p1))
theorem nO (n:Nat) (p0:ab) (p1:ax):CT Tryz.prog 201 [.ptr 0 0,.ptr 1 0] [.box [.ptr 2 0],.box [.ptr 3 0],.box (ah p0),.box (dp p1)] (gC n p0 p1) (fun _=>.fH []) (fun x=>[.box [.ptr 2 0],.box [.ptr 3 0],.box (ah x.1),.box (dp x.2)]):=by
 refine zC Tryz.func201 rfl fun r hp h hr E hE=>zM h (fun (v1:ab×ax)=>[(0,.ptr 0 0),(1,.ptr 1 0)]) (fun (v1:ab×ax)=>[(0,.box [.ptr 2 0]),(1,.box [.ptr 3 0]),(2,.box (ah v1.1)),(3,.box (dp v1.2))]) (fun v1 h=>?_) fun _ _ hK3 h=>?_
 · exact ag fun _ hK4=>aa (zl rfl (zn rfl (zf rfl (zl rfl (zd hr h fun hg5 h=>zo hg5 rfl (zn rfl (zf rfl (zs rfl (zQ hK4 (aa (zl rfl (zk hp hr h [2] Tryz.call202 (da n ([93]:List UInt8) (ab.mk v1.1.text v1.1.bd (v1.1.at_+1) v1.1.base v1.1.skip v1.1.pending)) rfl (fun _=>rfl) fun y6 h=>ao (zY .nil h rfl)))))))))))))
 · refine ag fun _ hK7=>aa (zl rfl (zk hp hr h [2] Tryz.call76 (cU n ([61,126]:List UInt8) p0) rfl (fun _=>rfl) fun y8 h=>zQ hK7 (zB rfl h (fun _ h=>?_) fun _ h=>?_)))
   · refine ag fun _ hK10=>bz [0,1,2,3,4,5,6] rfl (by kernel_rfl) (zD rfl (eW [.ptr 3 0] rfl rfl ⟨.inl rfl,trivial⟩ rfl) rfl (zD rfl (ba rfl rfl rfl) rfl (du rfl (bM rfl) hr h [2] Tryz.call34 (aI n y8.2) ⟨rfl,rfl,rfl,rfl,rfl,rfl,trivial⟩ rfl rfl (fun _=>⟨rfl,rfl,rfl⟩) (fun _=>⟨rfl,rfl⟩) hp (fun y11 h=>⟨cC ⟨trivial,⟨⟨⟨_,rfl,aZ.eR ⟨.inl rfl,trivial⟩⟩,trivial⟩,trivial⟩⟩,?_⟩))))
     refine zD rfl (jV rfl rfl) rfl ?_
     refine zD rfl (cP rfl) rfl (zD rfl (bD rfl) rfl (bV rfl ⟨rfl,rfl,rfl,rfl,rfl,rfl,rfl,rfl⟩ rfl (fun e6 he=>⟨aH rfl,?_⟩)))
     subst he
     refine cr (hK10 _ _ (ag fun _ hK12=>aa (zl rfl (zn rfl (zf rfl (zl rfl (zk hp hr h [] Tryz.call163 (rR n y11.1.Text) rfl (fun _=>rfl) fun y13 h=>zm rfl (zx rfl (zx rfl (aL 102 (hE _ rfl) ⟨rfl,rfl,rfl,rfl⟩ rfl ?_))))))))))
     refine aL 103 (hE _ rfl) ⟨rfl,rfl,rfl,rfl⟩ rfl ?_
     refine zs rfl (zs rfl (zQ hK12 (ag fun _ hK14=>aa (zf rfl (zl rfl (zc rfl (zQ hK14 (zB rfl h (fun _ h=>?_) fun _ h=>?_))))))))
     · exact aa (zl rfl (zk hp hr h [2] Tryz.call35 (bt n (ab.mk y11.2.text y11.2.bd y11.2.at_ y8.2.base y11.2.skip y11.2.pending)) rfl (fun _=>rfl) fun y16 h=>ao (hK3 _ _ _ h rfl)))
     · exact ar (hK3 _ _ _ h rfl)
   · exact ar (hK3 _ _ _ h rfl)
def fc (n:Nat) (p0:Bool) (p1:ab) (p2:ax):aq (ab×ax):=
 aq.bind (gC n (ab.mk p1.text p1.bd p1.at_ p1.base p0 p1.pending) p2) fun y4=>.ok ((ab.mk y4.1.text y4.1.bd y4.1.at_ y4.1.base p1.skip y4.1.pending),y4.2)
theorem pA (n:Nat) (p0:Bool) (p1:ab) (p2:ax):CT Tryz.prog 200 [.ptr 0 0,Bo p0,.fn 201 [] [.ptr 1 0,.ptr 2 0]] [.box (ah p1),.box [.ptr 0 0],.box [.ptr 3 0],.box (dp p2)] (fc n p0 p1 p2) (fun _=>.fH []) (fun x=>[.box (ah x.1),.box [.ptr 0 0],.box [.ptr 3 0],.box (dp x.2)]):=by
 refine zC Tryz.func200 rfl fun r hp h hr E hE=>ag fun _ hK1=>aa (zm rfl (zn rfl (zf rfl (zl rfl (za rfl (zQ hK1 (ag fun _ hK2=>aa (zm rfl (zm rfl (zn rfl (zf rfl (zs rfl (zQ hK2 (ag fun _ hK3=>aa (zm rfl (zk hp hr h [1,2,0,3] Tryz.call201 (nO n (ab.mk p1.text p1.bd p1.at_ p1.base p0 p1.pending) p2) rfl (fun _=>rfl) fun y4 h=>zQ hK3 (aa (zm rfl (zm rfl ?_)))))))))))))))))))
 exact zn rfl (zf rfl (zs rfl (ao (zY .nil h rfl))))
def dx (n:Nat) (p0:ab):aq (Bool×ab):=
 aq.bind (aE n p0) fun y3=>br (y3.1.Kind==0) (.ok (true,(ab.mk y3.2.text y3.2.bd y3.2.at_ p0.base y3.2.skip y3.2.pending))) (aq.bind (aE n (ab.mk y3.2.text y3.2.bd y3.2.at_ p0.base y3.2.skip y3.2.pending)) fun y5=>aq.bind (bW y5.1 ([125]:List UInt8)) fun y6=>.ok (y6,(ab.mk y5.2.text y5.2.bd y5.2.at_ p0.base y5.2.skip y5.2.pending)))
theorem mc (n:Nat) (p0:ab):CT Tryz.prog 105 [.ptr 0 0] [.box (ah p0)] (dx n p0) (fun x=>Bo x.1) (fun x=>[.box (ah x.2)]):=by
 refine zC Tryz.func105 rfl fun r hp h hr E hE=>ag fun _ hK1=>aa (za rfl (zQ hK1 (ag fun _ hK2=>aa (zm rfl (zk hp hr h [0] Tryz.call34 (aI n p0) rfl (fun _=>rfl) fun y3 h=>an (jV rfl rfl) rfl ?_)))))
 refine zc rfl (zm rfl (zb (y3.1.Kind==0) (fun hb4=>?_) fun hb4=>?_))
 · exact z1 hb4 h fun h=>zg hb4 rfl (zg hb4 rfl (zg hb4 rfl (zy hb4 rfl (za rfl (zQ hK2 (aw (zX (.cons (ay rfl) .nil) h rfl)))))))
 · exact z2 hb4 h fun h=>zG hb4 rfl (au rfl) (zK hb4 rfl hp hr h [0] Tryz.call34 (aI n (ab.mk y3.2.text y3.2.bd y3.2.at_ p0.base y3.2.skip y3.2.pending)) rfl (fun _=>rfl) fun y5 h=>zK hb4 rfl hp hr h [] Tryz.call72 (cu y5.1 ([125]:List UInt8)) rfl (fun _=>rfl) fun y6 h=>zw hb4 rfl (za rfl (zQ hK2 (aw (zX (.cons (ay rfl) .nil) h rfl)))))
def er (n:Nat) (p0:Int) (p1:ab):aq (Bool×ab):=
 iter (fun next5 (v4:Int)=>br (decide (v4<p1.at_)) (el p1.bd v4 fun Es=>aq.bind (bW Es ([44]:List UInt8)) fun y16=>br (!y16) (.ok (false,p1)) (gd (bA (v4+1)) (next5 (v4+1)))) (gd (bA (p0 - 1)) (el p1.bd (p0 - 1) fun x22=>el p1.bd p1.at_ fun x26=>gd ((0:Int)≤x22.End∧(x22.End:Int)≤x26.Pos∧x26.Pos≤(List.length p1.text:Int)) (aq.bind (strings_Contains (sub p1.text x22.End x26.Pos) ([10]:List UInt8)) fun y31=>.ok ((!y31),p1))))) n (p0)
theorem k9 (n:Nat) (p0:Int) (p1:ab):CT Tryz.prog 106 [.ptr 0 0,I p0] [.box (ah p1)] (er n p0 p1) (fun x=>Bo x.1) (fun x=>[.box (ah x.2)]):=by
 refine zC Tryz.func106 rfl fun r hp h hr E hE=>ag fun _ hK1=>aa (za rfl (zQ hK1 (ag fun _ hK2=>ag fun _ hK3=>aa (zm rfl (za rfl (zQ hK3 (aC (zL hr h (fun (v4:Int)=>[(0,.ptr 0 0),(1,I p0),(5,I v4)]) (fun (v4:Int)=>[(0,.box (ah p1))]) rfl fun _ v4 _ hK6 h=>ag fun _ hK7=>ag fun _ hK8=>aa (zm rfl (zm rfl (zn rfl (zf rfl (zl rfl (zc rfl (zQ hK8 (zB rfl h (fun _ h=>?_) fun _ h=>?_))))))))))))))))
 · refine ar (hK7 _ _ (ag fun _ hK10=>aC (ag fun _ hK11=>aa (zm rfl (zn rfl (zf rfl (zl rfl (zm rfl (ze hr h fun Es h13 h14 h15 h=>an (gx aK.bb aK.bP h13 h14 h15 rfl rfl rfl) rfl (an (gN rfl rfl) rfl ?_))))))))))
   refine zk hp hr h [] Tryz.call72 (cu Es ([44]:List UInt8)) rfl (fun _=>rfl) fun y16 h=>an (eG rfl) rfl (zQ hK11 (zB rfl h (fun _ h=>?_) fun _ h=>?_))
   · exact ag fun _ hK18=>aa (za rfl (zQ hK18 (aw (zX (.cons (ay rfl) .nil) h rfl))))
   · exact ar (hK10 _ _ (aa (zm rfl (zd hr h fun hg19 h=>zo hg19 rfl (za rfl (ao (hK6 _ _ _ h rfl)))))))
 · refine bp (hK2 _ _ (ag fun _ hK20=>bz [0,1,2,3,4,5,6,7,8,9,10,11,12,13,14,15,16,17,18,19,20,21,22,23,24,25,26,27] rfl (by kernel_rfl) (zD rfl (au rfl) rfl (zD rfl (cP rfl) rfl (zD rfl (bD rfl) rfl (zD rfl (ba rfl rfl rfl) rfl (zD rfl (au rfl) rfl (zD rfl (cP rfl) rfl (zD rfl (bD rfl) rfl (zD rfl (ba rfl rfl rfl) rfl (zD rfl (au rfl) rfl (zd hr h fun hg21 h=>zD rfl (pX rfl rfl hg21) rfl (ze hr h fun x22 h23 h24 h25 h=>zD rfl (gx aK.bb aK.bP h23 h24 h25 rfl rfl rfl) rfl (zD rfl (kv rfl rfl) rfl (zD rfl (fO rfl rfl) rfl (zD rfl (au rfl) rfl (zD rfl (cP rfl) rfl (zD rfl (bD rfl) rfl (zD rfl (ba rfl rfl rfl) rfl (zD rfl (au rfl) rfl (zD rfl (cP rfl) rfl ?_)))))))))))))))))))))
   refine zD rfl (bD rfl) rfl (zD rfl (ba rfl rfl rfl) rfl (ze hr h fun x26 h27 h28 h29 h=>zD rfl (gx aK.bb aK.bP h27 h28 h29 rfl rfl rfl) rfl (zD rfl (kv rfl rfl) rfl (zD rfl (fO rfl rfl) rfl (zd hr h fun hg30 h=>zD rfl (uj rfl rfl rfl hg30.1 hg30.2.1 hg30.2.2) rfl (du rfl (bM rfl) hr h [] Tryz.call94 (jl (sub p1.text x22.End x26.Pos) ([10]:List UInt8)) ⟨rfl,rfl,rfl,rfl,rfl,rfl,trivial⟩ rfl rfl (fun _=>⟨rfl,rfl,rfl⟩) (fun _=>⟨rfl,rfl⟩) hp (fun y31 h=>⟨aH rfl,?_⟩)))))))
   exact zD rfl (eG rfl) rfl (ea rfl rfl rfl (aH rfl) rfl (cr (hK20 _ _ (aw (zX (.cons (ay rfl) .nil) h rfl)))))
def fU (_:Int):aq (aj×Bool):=
 .ok ((aj.mk 0 [] 0 [] [] [] [] [] 0),false)
theorem rB (v:Int):z7 Tryz.prog 316 [.ptr 0 0,.ptr 1 0] [.box [.any,.any,.any,.any,.any,.any,.any,.any,.any],.box [.any]] (some (.iface 86 (.agg #[.int .i64 v]))) (fU v) (fun x=>[.box (aX x.1),.box [Bo x.2]]):=by
 refine l0 (m:=some (.iface 86 (.agg #[.int .i64 v]))) (mv:=.lr 86 (.agg [I v])) (fun g=>.lr 86 (.agg (.cons (.pv (.sc _)) .nil))) Tryz.func316 rfl rfl rfl fun r h hr E hE=>?_
 refine ag fun _ hK1=>aa (zm rfl (an (sW rfl rfl) rfl (zQ hK1 (cN rfl (fun hc=>?_) (fun hc=>?_)))))
 · refine aa (an (dm rfl rfl) rfl ?_)
   refine zs rfl (zs rfl (aS (jb 0 rfl rfl) ?_))
   exact ao (rr (.inr rfl) _ h.symm ⟨rfl,rfl,trivial⟩)
 · exact absurd (hc) (by simp)
theorem qi (es:List aZ):z7 Tryz.prog 316 [.ptr 0 0,.ptr 1 0] es none (aq.ok ()) (fun _=>es):=by
 refine l0 (m:=none) (mv:=Sc .nilIface) (fun g=>.pv (.sc _)) Tryz.func316 rfl rfl rfl fun r h hr E hE=>?_
 refine ag fun _ hK1=>aa (zm rfl (an (sX rfl) rfl (zQ hK1 (cN rfl (fun hc=>?_) (fun hc=>?_)))))
 · exact absurd (hc) (by simp)
 · exact ar (nV h)
def oo (p0:aK):aq (Bool):=
 .ok ((p0.Kind==6))
theorem tB (p0:aK):CT Tryz.prog 314 [.agg (fo p0)] [] (oo p0) (fun x=>Bo x) (fun _=>[]):=by
 refine zC Tryz.func314 rfl fun r hp h hr E hE=>ag fun _ hK1=>aa (dP 101 (hE _ rfl) ⟨rfl,rfl,rfl,rfl,rfl,rfl,rfl⟩ rfl ?_)
 exact za rfl (zQ hK1 (ag fun _ hK2=>aa (zf rfl (zl rfl (zc rfl (za rfl (zQ hK2 (aw (zX (.cons (ay rfl) .nil) h rfl)))))))))
def gX (n:Nat) (p0:(List aK)):aq (Int):=
 iter (fun next5 (v4:Int)=>br (decide (v4<(List.length p0:Int))) (el p0 v4 fun xZ=>aq.bind (oo xZ) fun y17=>br y17 (.ok (v4)) (gd (bA (v4+1)) (next5 (v4+1)))) (.ok ((-1)))) n (0)
theorem mC (n:Nat) (p0:(List aK)):CT Tryz.prog 319 [.pv (.sl (List.length p0) (aK.Cs p0)),.fn 314 [] []] [] (gX n p0) (fun x=>I x) (fun _=>[]):=by
 refine zC Tryz.func319 rfl fun r hp h hr E hE=>ag fun _ hK1=>aa (za rfl (zQ hK1 (ag fun _ hK2=>ag fun _ hK3=>aa (zm rfl (an (cg rfl) rfl (zm rfl (zQ hK3 (aC (zL hr h (fun (v4:Int)=>[(0,.pv (.sl (List.length p0) (aK.Cs p0))),(1,.fn 314 [] []),(7,I (List.length p0:Int)),(8,I v4)]) (fun (v4:Int)=>[]) rfl fun _ v4 _ hK6 h=>ag fun _ hK7=>aa (zc rfl (zQ hK7 (ag fun _ hK8=>zB rfl h (fun _ h=>?_) fun _ h=>?_))))))))))))
 · refine ar (hK8 _ _ (ag fun _ hK10=>aC (ag fun _ hK11=>aa (zm rfl (za rfl (zQ hK11 (ag fun _ hK12=>aa (zm rfl (zm rfl (zm rfl (ze hr h fun xZ h14 h15 h16 h=>an (gx aK.bb aK.bP h14 h15 h16 rfl rfl rfl) rfl (an (gN rfl rfl) rfl ?_))))))))))))
   refine zk hp hr h [] Tryz.call314 (tB xZ) rfl (fun _=>rfl) fun y17 h=>zQ hK12 (zB rfl h (fun _ h=>?_) fun _ h=>?_)
   · exact ag fun _ hK19=>aa (zm rfl (za rfl (zQ hK19 (aw (zX (.cons (ay rfl) .nil) h rfl)))))
   · exact ar (hK10 _ _ (aa (zd hr h fun hg20 h=>zo hg20 rfl (zm rfl (ao (hK6 _ _ _ h rfl))))))
 · exact bp (hK2 _ _ (ag fun _ hK21=>aa (za rfl (zQ hK21 (aw (zX (.cons (ay rfl) .nil) h rfl))))))
def fq (n:Nat) (p0:(List aK)):aq (Bool):=
 aq.bind (gX n p0) fun y3=>.ok ((decide (y3≥0)))
theorem lq (n:Nat) (p0:(List aK)):CT Tryz.prog 315 [.pv (.sl (List.length p0) (aK.Cs p0)),.fn 314 [] []] [] (fq n p0) (fun x=>Bo x) (fun _=>[]):=by
 exact zC Tryz.func315 rfl fun r hp h hr E hE=>ag fun _ hK1=>aa (za rfl (zQ hK1 (ag fun _ hK2=>aa (zm rfl (zm rfl (zk hp hr h [] Tryz.call319 (mC n p0) rfl (fun _=>rfl) fun y3 h=>zc rfl (za rfl (zQ hK2 (aw (zX (.cons (ay rfl) .nil) h rfl))))))))))
def bJ (p0:Int) (p1:(List UInt8)) (p2:Int) (p3:bm):aq (bm):=
 gd (bA (p3.at_+p2)) (gd (cB 40 (List.length p3.out) (List.length [(aK.mk p0 p1 p3.at_ (p3.at_+p2))])) (gd (bA (p3.at_+p2)) (br (p0==6) (.ok ((bm.mk p3.text (p3.at_+p2) (p3.out++[(aK.mk p0 p1 p3.at_ (p3.at_+p2))]) p3.line))) (jn (fun (v9:Bool)=>br v9 (.ok ((bm.mk p3.text (p3.at_+p2) (p3.out++[(aK.mk p0 p1 p3.at_ (p3.at_+p2))]) true))) (br (p0==5) (gd (cM ([32]:List UInt8) p1) (gd (cM (([32]:List UInt8)++p1) ([32]:List UInt8)) (aq.bind (strings_Contains ([32,95,124,95,32,95,32,46,46,46,32,41,32,93,32,125,32,63,32]:List UInt8) ((([32]:List UInt8)++p1)++([32]:List UInt8))) fun y16=>.ok ((bm.mk p3.text (p3.at_+p2) (p3.out++[(aK.mk p0 p1 p3.at_ (p3.at_+p2))]) y16))))) (.ok ((bm.mk p3.text (p3.at_+p2) (p3.out++[(aK.mk p0 p1 p3.at_ (p3.at_+p2))]) false))))) fun j10=>br (p0==1) (j10 ((p0==1))) (br (p0==2) (j10 ((p0==2))) (br (p0==3) (j10 ((p0==3))) (j10 ((p0==4)))))))))
theorem eK (p0:Int) (p1:(List UInt8)) (p2:Int) (p3:bm):CT Tryz.prog 53 [.ptr 0 0,I p0,aY p1,I p2] [.box [aY p3.text,I p3.at_,.arr 1 (List.length p3.out),Bo p3.line],.app 49 4 (aK.Cs p3.out)] (bJ p0 p1 p2 p3) (fun _=>.fH []) (fun x=>[.box [aY x.text,I x.at_,.arr 1 (List.length x.out),Bo x.line],.app 49 4 (aK.Cs x.out)]):=by
 refine zC Tryz.func53 rfl fun r hp h hr E hE=>ag fun _ hK1=>lY [] ?_
 refine bz [0,1,2,3,4,5,6,7,8,9,10,11,12,13,14,15,16,17,18,19,20,21,22] rfl (by kernel_rfl) (zD rfl (au rfl) rfl (zD rfl (au rfl) rfl (zD rfl (cP rfl) rfl (zD rfl (bD rfl) rfl (zD rfl (ba rfl rfl rfl) rfl (zD rfl (au rfl) rfl (zD rfl (au rfl) rfl (zD rfl (au rfl) rfl (zD rfl (cP rfl) rfl (zD rfl (bD rfl) rfl (zD rfl (ba rfl rfl rfl) rfl (zD rfl (au rfl) rfl (zD rfl (cP rfl) rfl (zD rfl (bD rfl) rfl (zD rfl (ba rfl rfl rfl) rfl (zD rfl (au rfl) rfl (zd hr h fun hg2 h=>zD rfl (kZ rfl rfl hg2) rfl (zD rfl (bE rfl rfl rfl) rfl ?_))))))))))))))))))
 refine gU [(aK.mk p0 p1 p3.at_ (p3.at_+p2))] aK.bb rfl (bM rfl) ⟨rfl,rfl⟩ ⟨rfl,rfl⟩ ?_
 refine zd hr h fun hg3 h=>wx 127 rfl (bM rfl) ⟨jH.h,eu.h,aK.bb,aK.bP,aK.iS,hE _ rfl,rfl,rfl,(.inl rfl),⟨rfl,rfl,rfl⟩,hg3⟩ rfl rfl ⟨aH rfl,?_⟩
 refine zD rfl (cP rfl) rfl (zD rfl (bD rfl) rfl (bV rfl ⟨rfl,rfl,rfl,rfl,rfl,rfl,rfl,rfl⟩ rfl (fun e22 he=>⟨aH rfl,?_⟩)))
 subst he
 refine fP (kn 127 1 [(0,.ptr 0 0),(1,I p0),(2,aY p1),(3,I p2)] [(0,.box [aY p3.text,I p3.at_,.arr 1 (List.length (p3.out++[(aK.mk p0 p1 p3.at_ (p3.at_+p2))])),Bo p3.line])] (hE _ rfl) rfl rfl ⟨rfl,rfl⟩ ⟨⟨_,rfl,rfl,rfl⟩,⟨_,rfl,rfl,rfl⟩,⟨_,rfl,rfl,rfl⟩,⟨_,rfl,rfl,rfl⟩,trivial⟩ ⟨⟨_,rfl,rfl,rfl,rfl,rfl⟩,trivial⟩) ?_
 refine hK1 _ _ (ag fun _ hK4=>aa (zm rfl (zn rfl (zf rfl (zl rfl (zm rfl (zd hr h fun hg5 h=>zo hg5 rfl (zn rfl (zf rfl (zs rfl (zQ hK4 (ag fun _ hK6=>aa (zm rfl (zQ hK6 (aC (ag fun _ hK7=>aa (zc rfl (za rfl (zQ hK7 (zB rfl h (fun _ h=>?_) fun _ h=>?_))))))))))))))))))))
 · exact ar (zY .nil h rfl)
 · refine zM h (fun (v9:Bool)=>[(0,.ptr 0 0),(1,I p0),(2,aY p1),(3,I p2),(52,Bo v9)]) (fun (v9:Bool)=>[(0,.box [aY p3.text,I (p3.at_+p2),.arr 1 (List.length (p3.out++[(aK.mk p0 p1 p3.at_ (p3.at_+p2))])),Bo p3.line]),(1,.app 49 4 (aK.Cs (p3.out++[(aK.mk p0 p1 p3.at_ (p3.at_+p2))])))]) (fun v9 h=>?_) fun _ _ hK11 h=>?_
   · refine zB rfl h (fun _ h=>?_) fun _ h=>?_
     · exact aa (zm rfl (zn rfl (zf rfl (zs rfl (ao (zY .nil h rfl))))))
     · refine aa (zm rfl (zm rfl (zc rfl (zm rfl (zb (p0==5) (fun hb13=>?_) fun hb13=>?_)))))
       · exact z1 hb13 h fun h=>zG hb13 rfl (au rfl) (zd hr h fun hg14 h=>zG hb13 rfl (oh rfl rfl hg14) (zd hr h fun hg15 h=>zG hb13 rfl (oh rfl rfl hg15) (zK hb13 rfl hp hr h [] Tryz.call94 (jl ([32,95,124,95,32,95,32,46,46,46,32,41,32,93,32,125,32,63,32]:List UInt8) ((([32]:List UInt8)++p1)++([32]:List UInt8))) rfl (fun _=>rfl) fun y16 h=>zy hb13 rfl (zn rfl (zf rfl (zs rfl (ao (zY .nil h rfl))))))))
       · exact z2 hb13 h fun h=>zg hb13 rfl (zg hb13 rfl (zg hb13 rfl (zg hb13 rfl (zw hb13 rfl (zn rfl (zf rfl (zs rfl (ao (zY .nil h rfl)))))))))
   · refine ag fun _ hK17=>aa (zc rfl (za rfl (zQ hK17 (zB rfl h (fun _ h=>?_) fun _ h=>?_))))
     · exact ar (hK11 _ _ _ h rfl)
     · refine ag fun _ hK19=>aa (zc rfl (za rfl (zQ hK19 (zB rfl h (fun _ h=>?_) fun _ h=>?_))))
       · exact ar (hK11 _ _ _ h rfl)
       · refine ag fun _ hK21=>aa (zc rfl (za rfl (zQ hK21 (zB rfl h (fun _ h=>?_) fun _ h=>?_))))
         · exact ar (hK11 _ _ _ h rfl)
         · exact aa (zc rfl (za rfl (ao (hK11 _ _ _ h rfl))))
def stringslite_HasPrefix (p0:(List UInt8)) (p1:(List UInt8)):aq (Bool):=
 br (decide ((List.length p0:Int)≥(List.length p1:Int))) (gd ((0:Int)≤(List.length p1:Int)∧(List.length p1:Int)≤(List.length p0:Int)) (.ok (((jJ p0 (List.length p1:Int))==p1)))) (.ok (false))
theorem oV (p0:(List UInt8)) (p1:(List UInt8)):CT Tryz.prog 137 [aY p0,aY p1] [] (stringslite_HasPrefix p0 p1) (fun x=>Bo x) (fun _=>[]):=by
 refine zC Tryz.func137 rfl fun r hp h hr E hE=>ag fun _ hK1=>aa (za rfl (zQ hK1 (ag fun _ hK2=>aa (zm rfl (an (cX rfl) rfl (zm rfl (an (cX rfl) rfl (zc rfl (zm rfl (zb (decide ((List.length p0:Int)≥(List.length p1:Int))) (fun hb3=>?_) fun hb3=>?_))))))))))
 · exact z1 hb3 h fun h=>zG hb3 rfl (au rfl) (zG hb3 rfl (au rfl) (zG hb3 rfl (cX rfl) (zd hr h fun hg4 h=>zG hb3 rfl (pg rfl rfl hg4.1 hg4.2) (zG hb3 rfl (au rfl) (zG hb3 rfl (iE rfl rfl) (zy hb3 rfl (za rfl (zQ hK2 (aw (zX (.cons (ay rfl) .nil) h rfl))))))))))
 · exact z2 hb3 h fun h=>zg hb3 rfl (zg hb3 rfl (zg hb3 rfl (zg hb3 rfl (zg hb3 rfl (zg hb3 rfl (zw hb3 rfl (za rfl (zQ hK2 (aw (zX (.cons (ay rfl) .nil) h rfl))))))))))
def strings_HasPrefix (p0:(List UInt8)) (p1:(List UInt8)):aq (Bool):=
 aq.bind (stringslite_HasPrefix p0 p1) fun y3=>.ok (y3)
theorem iI (p0:(List UInt8)) (p1:(List UInt8)):CT Tryz.prog 95 [aY p0,aY p1] [] (strings_HasPrefix p0 p1) (fun x=>Bo x) (fun _=>[]):=by
 exact zC Tryz.func95 rfl fun r hp h hr E hE=>ag fun _ hK1=>aa (za rfl (zQ hK1 (ag fun _ hK2=>aa (zm rfl (zm rfl (zk hp hr h [] Tryz.call137 (oV p0 p1) rfl (fun _=>rfl) fun y3 h=>za rfl (zQ hK2 (aw (zX (.cons (ay rfl) .nil) h rfl)))))))))
def gv (p0:Int):aq (Bool):=
 br (decide (p0≥48)) (.ok ((decide (p0≤57)))) (.ok (false))
theorem kx (p0:Int):CT Tryz.prog 98 [Sc (.int .u8 p0)] [] (gv p0) (fun x=>Bo x) (fun _=>[]):=by
 refine zC Tryz.func98 rfl fun r hp h hr E hE=>ag fun _ hK1=>aa (za rfl (zQ hK1 (ag fun _ hK2=>aa (zm rfl (zc rfl (zm rfl (zb (decide (p0≥48)) (fun hb3=>?_) fun hb3=>?_)))))))
 · exact z1 hb3 h fun h=>zG hb3 rfl (au rfl) (zG hb3 rfl (bg rfl rfl rfl) (zy hb3 rfl (za rfl (zQ hK2 (aw (zX (.cons (ay rfl) .nil) h rfl))))))
 · exact z2 hb3 h fun h=>zg hb3 rfl (zg hb3 rfl (zw hb3 rfl (za rfl (zQ hK2 (aw (zX (.cons (ay rfl) .nil) h rfl))))))
def mY (n:Nat) (p0:(List UInt8)):aq (Int):=
 jn (fun (v3:Int)=>jn (fun (v7:Bool)=>br v7 (gd (bA (v3+1)) (iter (fun next14 (v13:Int)=>br (decide (v13<(List.length p0:Int))) (el p0 v13 fun b19=>aq.bind (gv (b19.toNat:Int)) fun y23=>br y23 (gd (bA (v13+1)) (next14 (v13+1))) (.ok (v13))) (.ok (v13))) n (v3+1))) (.ok (v3))) fun j8=>gd (bA (v3+1)) (br (decide ((v3+1)<(List.length p0:Int))) (el p0 v3 fun b31=>br ((b31.toNat:Int)==46) (gd (bA (v3+1)) (el p0 (v3+1) fun b37=>aq.bind (gv (b37.toNat:Int)) fun y41=>j8 (y41))) (j8 (false))) (j8 (false)))) fun j4=>iter (fun next43 (v42:Int)=>br (decide (v42<(List.length p0:Int))) (el p0 v42 fun b48=>aq.bind (gv (b48.toNat:Int)) fun y52=>br y52 (gd (bA (v42+1)) (next43 (v42+1))) (j4 (v42))) (j4 (v42))) n (0)
theorem uI (n:Nat) (p0:(List UInt8)):CT Tryz.prog 99 [aY p0] [] (mY n p0) (fun x=>I x) (fun _=>[]):=by
 refine zC Tryz.func99 rfl fun r hp h hr E hE=>ag fun _ hK1=>aa (za rfl (zQ hK1 (ag fun _ hK2=>aa (za rfl (zQ hK2 (zM h (fun (v3:Int)=>[(0,aY p0),(3,I v3)]) (fun (v3:Int)=>[]) (fun v3 h=>?_) fun _ _ hK5 h=>?_))))))
 · refine ag fun _ hK6=>zM h (fun (v7:Bool)=>[(0,aY p0),(3,I v3),(33,Bo v7)]) (fun (v7:Bool)=>[]) (fun v7 h=>?_) fun _ _ hK9 h=>?_
   · refine zB rfl h (fun _ h=>?_) fun _ h=>?_
     · refine ag fun _ hK11=>aa (zm rfl (zd hr h fun hg12 h=>zo hg12 rfl (za rfl (zQ hK11 (aC (zL hr h (fun (v13:Int)=>[(0,aY p0),(3,I v13)]) (fun (v13:Int)=>[]) rfl fun _ v13 _ hK15 h=>ag fun _ hK16=>ag fun _ hK17=>aa (zm rfl (zm rfl (an (cX rfl) rfl (zc rfl (zm rfl (zb (decide (v13<(List.length p0:Int))) (fun hb18=>?_) fun hb18=>?_))))))))))))
       · refine z1 hb18 h fun h=>zG hb18 rfl (au rfl) (zG hb18 rfl (au rfl) (ze hr h fun b19 h20 h21 h22 h=>zG hb18 rfl (dL rfl rfl h20 h22) (zK hb18 rfl hp hr h [] Tryz.call98 (kx (b19.toNat:Int)) rfl (fun _=>rfl) fun y23 h=>zy hb18 rfl (zQ hK17 (zB rfl h (fun _ h=>?_) fun _ h=>?_)))))
         · exact ar (hK16 _ _ (aC (aa (zm rfl (zd hr h fun hg25 h=>zo hg25 rfl (za rfl (ao (hK15 _ _ _ h rfl))))))))
         · exact bp (hK6 _ _ (ag fun _ hK26=>aa (zm rfl (za rfl (zQ hK26 (aw (zX (.cons (ay rfl) .nil) h rfl)))))))
       · refine z2 hb18 h fun h=>zg hb18 rfl (zg hb18 rfl (zg hb18 rfl (zg hb18 rfl (zw hb18 rfl (zQ hK17 (cN rfl (fun hc=>?_) (fun hc=>?_)))))))
         · exact absurd (hc) (by simp)
         · exact bp (hK6 _ _ (ag fun _ hK27=>aa (zm rfl (za rfl (zQ hK27 (aw (zX (.cons (ay rfl) .nil) h rfl)))))))
     · exact ar (hK6 _ _ (ag fun _ hK28=>aa (zm rfl (za rfl (zQ hK28 (aw (zX (.cons (ay rfl) .nil) h rfl)))))))
   · refine aa (zm rfl (zd hr h fun hg29 h=>zo hg29 rfl (zm rfl (an (cX rfl) rfl (zc rfl (zm rfl (zb (decide ((v3+1)<(List.length p0:Int))) (fun hb30=>?_) fun hb30=>?_)))))))
     · refine z1 hb30 h fun h=>zG hb30 rfl (au rfl) (zG hb30 rfl (au rfl) (ze hr h fun b31 h32 h33 h34 h=>zG hb30 rfl (dL rfl rfl h32 h34) (zG hb30 rfl (bg rfl rfl rfl) (zy hb30 rfl (zm rfl (zb ((b31.toNat:Int)==46) (fun hb35=>?_) fun hb35=>?_))))))
       · exact z1 hb35 h fun h=>zG hb35 rfl (au rfl) (zG hb35 rfl (au rfl) (zd hr h fun hg36 h=>zG hb35 rfl (kZ rfl rfl hg36) (ze hr h fun b37 h38 h39 h40 h=>zG hb35 rfl (dL rfl rfl h38 h40) (zK hb35 rfl hp hr h [] Tryz.call98 (kx (b37.toNat:Int)) rfl (fun _=>rfl) fun y41 h=>zy hb35 rfl (ao (hK9 _ _ _ h rfl))))))
       · exact z2 hb35 h fun h=>zg hb35 rfl (zg hb35 rfl (zg hb35 rfl (zg hb35 rfl (zg hb35 rfl (zw hb35 rfl (ao (hK9 _ _ _ h rfl)))))))
     · exact z2 hb30 h fun h=>zg hb30 rfl (zg hb30 rfl (zg hb30 rfl (zg hb30 rfl (zw hb30 rfl (zm rfl (zg rfl rfl (zg rfl rfl (zg rfl rfl (zg rfl rfl (zg rfl rfl (an (dv rfl rfl) rfl (ao (hK9 _ _ _ h rfl)))))))))))))
 · refine aC (zL hr h (fun (v42:Int)=>[(0,aY p0),(3,I v42)]) (fun (v42:Int)=>[]) rfl fun _ v42 _ hK44 h=>ag fun _ hK45=>ag fun _ hK46=>aa (zm rfl (zm rfl (an (cX rfl) rfl (zc rfl (zm rfl (zb (decide (v42<(List.length p0:Int))) (fun hb47=>?_) fun hb47=>?_)))))))
   · refine z1 hb47 h fun h=>zG hb47 rfl (au rfl) (zG hb47 rfl (au rfl) (ze hr h fun b48 h49 h50 h51 h=>zG hb47 rfl (dL rfl rfl h49 h51) (zK hb47 rfl hp hr h [] Tryz.call98 (kx (b48.toNat:Int)) rfl (fun _=>rfl) fun y52 h=>zy hb47 rfl (zQ hK46 (zB rfl h (fun _ h=>?_) fun _ h=>?_)))))
     · exact ar (hK45 _ _ (aC (aa (zm rfl (zd hr h fun hg54 h=>zo hg54 rfl (za rfl (ao (hK44 _ _ _ h rfl))))))))
     · exact bp (hK5 _ _ _ h rfl)
   · refine z2 hb47 h fun h=>zg hb47 rfl (zg hb47 rfl (zg hb47 rfl (zg hb47 rfl (zw hb47 rfl (zQ hK46 (cN rfl (fun hc=>?_) (fun hc=>?_)))))))
     · exact absurd (hc) (by simp)
     · exact bp (hK5 _ _ _ h rfl)
def iU (n:Nat) (p0:(List UInt8)):aq ((List UInt8)):=
 iter (fun next5 (v4:Int)=>br (decide (v4<(List.length [([95,124,95,32,46,46,46]:List UInt8),([61,61,32,33,61,32,60,61,32,62,61,32,61,126,32,33,126,32,38,38,32,124,124]:List UInt8),([95,32,40,32,41,32,91,32,93,32,123,32,125,32,58,32,44,32,46,32,63,32,33,32,42,32,38,32,124,32,61,32,60,32,62,32,43,32,45,32,47,32,37]:List UInt8)]:Int))) (el [([95,124,95,32,46,46,46]:List UInt8),([61,61,32,33,61,32,60,61,32,62,61,32,61,126,32,33,126,32,38,38,32,124,124]:List UInt8),([95,32,40,32,41,32,91,32,93,32,123,32,125,32,58,32,44,32,46,32,63,32,33,32,42,32,38,32,124,32,61,32,60,32,62,32,43,32,45,32,47,32,37]:List UInt8)] v4 fun Es=>aq.bind (strings_Split Es ([32]:List UInt8)) fun y17=>iter (fun next19 (v18:Int)=>br (decide (v18<(List.length y17:Int))) (el y17 v18 fun x26=>aq.bind (strings_HasPrefix p0 x26) fun y31=>br y31 (.ok (x26)) (gd (bA (v18+1)) (next19 (v18+1)))) (gd (bA (v4+1)) (next5 (v4+1)))) n (0)) (.ok (([]:List UInt8)))) n (0)
theorem s3 (n:Nat) (p0:(List UInt8)):CT Tryz.prog 102 [aY p0] [] (iU n p0) (fun x=>aY x) (fun _=>[]):=by
 refine zC Tryz.func102 rfl fun r hp h hr E hE=>ag fun _ hK1=>aa (za rfl (zQ hK1 (ag fun _ hK2=>ag fun _ hK3=>aa (bR [([95,124,95,32,46,46,46]:List UInt8),([61,61,32,33,61,32,60,61,32,62,61,32,61,126,32,33,126,32,38,38,32,124,124]:List UInt8),([95,32,40,32,41,32,91,32,93,32,123,32,125,32,58,32,44,32,46,32,63,32,33,32,42,32,38,32,124,32,61,32,60,32,62,32,43,32,45,32,47,32,37]:List UInt8)] eX ⟨rfl,rfl⟩ rfl ?_))))
 refine an (cg rfl) rfl (zm rfl (zQ hK3 (aC (zL hr h (fun (v4:Int)=>[(0,aY p0),(7,.pv (.sl (List.length [([95,124,95,32,46,46,46]:List UInt8),([61,61,32,33,61,32,60,61,32,62,61,32,61,126,32,33,126,32,38,38,32,124,124]:List UInt8),([95,32,40,32,41,32,91,32,93,32,123,32,125,32,58,32,44,32,46,32,63,32,33,32,42,32,38,32,124,32,61,32,60,32,62,32,43,32,45,32,47,32,37]:List UInt8)]) (bX [([95,124,95,32,46,46,46]:List UInt8),([61,61,32,33,61,32,60,61,32,62,61,32,61,126,32,33,126,32,38,38,32,124,124]:List UInt8),([95,32,40,32,41,32,91,32,93,32,123,32,125,32,58,32,44,32,46,32,63,32,33,32,42,32,38,32,124,32,61,32,60,32,62,32,43,32,45,32,47,32,37]:List UInt8)]))),(8,I (List.length [([95,124,95,32,46,46,46]:List UInt8),([61,61,32,33,61,32,60,61,32,62,61,32,61,126,32,33,126,32,38,38,32,124,124]:List UInt8),([95,32,40,32,41,32,91,32,93,32,123,32,125,32,58,32,44,32,46,32,63,32,33,32,42,32,38,32,124,32,61,32,60,32,62,32,43,32,45,32,47,32,37]:List UInt8)]:Int)),(9,I v4)]) (fun (v4:Int)=>[]) rfl fun _ v4 _ hK6 h=>ag fun _ hK7=>aa (zc rfl (zQ hK7 (ag fun _ hK8=>zB rfl h (fun _ h=>?_) fun _ h=>?_)))))))
 · refine ar (hK8 _ _ (ag fun _ hK10=>aC (ag fun _ hK11=>aa (ze hr h fun Es h13 h14 h15 h=>an (gx eX gI h13 h14 h15 rfl rfl rfl) rfl (an (fO rfl rfl) rfl (za rfl (zQ hK11 (ag fun _ hK16=>aa (zm rfl (zk hp hr h [] Tryz.call146 (mA Es ([32]:List UInt8)) rfl (fun _=>rfl) fun y17 h=>an (cg rfl) rfl (zm rfl (zQ hK16 (aC (zL hr h (fun (v18:Int)=>[(0,aY p0),(7,.pv (.sl (List.length [([95,124,95,32,46,46,46]:List UInt8),([61,61,32,33,61,32,60,61,32,62,61,32,61,126,32,33,126,32,38,38,32,124,124]:List UInt8),([95,32,40,32,41,32,91,32,93,32,123,32,125,32,58,32,44,32,46,32,63,32,33,32,42,32,38,32,124,32,61,32,60,32,62,32,43,32,45,32,47,32,37]:List UInt8)]) (bX [([95,124,95,32,46,46,46]:List UInt8),([61,61,32,33,61,32,60,61,32,62,61,32,61,126,32,33,126,32,38,38,32,124,124]:List UInt8),([95,32,40,32,41,32,91,32,93,32,123,32,125,32,58,32,44,32,46,32,63,32,33,32,42,32,38,32,124,32,61,32,60,32,62,32,43,32,45,32,47,32,37]:List UInt8)]))),(8,I (List.length [([95,124,95,32,46,46,46]:List UInt8),([61,61,32,33,61,32,60,61,32,62,61,32,61,126,32,33,126,32,38,38,32,124,124]:List UInt8),([95,32,40,32,41,32,91,32,93,32,123,32,125,32,58,32,44,32,46,32,63,32,33,32,42,32,38,32,124,32,61,32,60,32,62,32,43,32,45,32,47,32,37]:List UInt8)]:Int)),(9,I v4),(14,.pv (.sl (List.length y17) (bX y17))),(15,I (List.length y17:Int)),(16,I v18)]) (fun (v18:Int)=>[]) rfl fun _ v18 _ hK20 h=>ag fun _ hK21=>aa (zc rfl (zQ hK21 (ag fun _ hK22=>?_)))))))))))))))))
   refine zB rfl h (fun _ h=>?_) fun _ h=>?_
   · refine ar (hK22 _ _ (ag fun _ hK24=>aC (ag fun _ hK25=>aa (ze hr h fun x26 h27 h28 h29 h=>an (gx eX gI h27 h28 h29 rfl rfl rfl) rfl (an (fO rfl rfl) rfl (za rfl (zQ hK25 (ag fun _ hK30=>aa (zm rfl (zm rfl (zk hp hr h [] Tryz.call95 (iI p0 x26) rfl (fun _=>rfl) fun y31 h=>zQ hK30 (zB rfl h (fun _ h=>?_) fun _ h=>?_))))))))))))
     · exact ag fun _ hK33=>aa (zm rfl (za rfl (zQ hK33 (aw (zX (.cons (ay rfl) .nil) h rfl)))))
     · exact ar (hK24 _ _ (aa (zd hr h fun hg34 h=>zo hg34 rfl (zm rfl (ao (hK20 _ _ _ h rfl))))))
   · exact bp (hK10 _ _ (aa (zd hr h fun hg35 h=>zo hg35 rfl (zm rfl (ao (hK6 _ _ _ h rfl))))))
 · exact bp (hK2 _ _ (ag fun _ hK36=>aa (za rfl (zQ hK36 (aw (zX (.cons (ay rfl) .nil) h rfl))))))
def dR (p0:Int):aq (Int):=
 .ok (vG .u8 p0 32)
theorem dw (p0:Int):CT Tryz.prog 250 [Sc (.int .u8 p0)] [] (dR p0) (fun x=>Sc (.int .u8 x)) (fun _=>[]):=by
 exact zC Tryz.func250 rfl fun r hp h hr E hE=>ag fun _ hK1=>aa (za rfl (zQ hK1 (ag fun _ hK2=>aa (zm rfl (an (xq rfl rfl) rfl (za rfl (zQ hK2 (aw (zX (.cons (ay rfl) .nil) h rfl)))))))))
end Go.Abs
end
section
namespace Go.Abs
open Go.Proofs aq
def me (n:Nat) (p0:(List UInt8)):aq (Bool):=
 jn (fun (v4:(List UInt8))=>jn (fun (v8:Int×Int×Bool)=>iter (fun next13 (v12:Int×Int)=>br (decide (v12.2<(List.length v4:Int))) (jn (fun (v18:Int)=>gd (bA (v12.2+1)) (next13 (v18,v12.2+1))) fun j19=>jn (fun (_:Unit)=>el v4 v12.2 fun b27=>br ((b27.toNat:Int)==95) (br (v12.1 !=48) (.ok (false)) (j19 (95))) (br (v12.1==95) (.ok (false)) (j19 (33)))) fun j23=>el v4 v12.2 fun b42=>br (decide (48≤(b42.toNat:Int))) (el v4 v12.2 fun b47=>br (decide ((b47.toNat:Int)≤57)) (j19 (48)) (br v8.2.2 (el v4 v12.2 fun b54=>aq.bind (dR (b54.toNat:Int)) fun y58=>br (decide (97≤y58)) (el v4 v12.2 fun b60=>aq.bind (dR (b60.toNat:Int)) fun y64=>br (decide (y64≤102)) (j19 (48)) (j23 ())) (j23 ())) (j23 ()))) (br v8.2.2 (el v4 v12.2 fun b68=>aq.bind (dR (b68.toNat:Int)) fun y72=>br (decide (97≤y72)) (el v4 v12.2 fun b74=>aq.bind (dR (b74.toNat:Int)) fun y78=>br (decide (y78≤102)) (j19 (48)) (j23 ())) (j23 ())) (j23 ()))) (.ok ((v12.1 !=95)))) n (v8.1,v8.2.1)) fun j9=>jn (fun (v82:Bool)=>br v82 (el v4 1 fun b88=>aq.bind (dR (b88.toNat:Int)) fun y92=>j9 (48,2,(y92==120))) (j9 (94,0,false))) fun j83=>br (decide ((List.length v4:Int)≥2)) (el v4 0 fun b94=>br ((b94.toNat:Int)==48) (el v4 1 fun b99=>aq.bind (dR (b99.toNat:Int)) fun y103=>br (y103==98) (j83 (true)) (el v4 1 fun b105=>aq.bind (dR (b105.toNat:Int)) fun y109=>br (y109==111) (j83 (true)) (el v4 1 fun b111=>aq.bind (dR (b111.toNat:Int)) fun y115=>j83 ((y115==120))))) (j83 (false))) (j83 (false))) fun j5=>br (decide ((List.length p0:Int)≥1)) (el p0 0 fun b118=>br ((b118.toNat:Int)==45) (gd ((0:Int)≤1∧1≤(List.length p0:Int)) (j5 (dO p0 1))) (el p0 0 fun b124=>br ((b124.toNat:Int)==43) (gd ((0:Int)≤1∧1≤(List.length p0:Int)) (j5 (dO p0 1))) (j5 (p0)))) (j5 (p0))
theorem pB (n:Nat) (p0:(List UInt8)):CT Tryz.prog 251 [aY p0] [] (me n p0) (fun x=>Bo x) (fun _=>[]):=by
 refine zC Tryz.func251 rfl fun r hp h hr E hE=>ag fun _ hK1=>aa (za rfl (zQ hK1 (ag fun _ hK2=>aa (za rfl (zQ hK2 (ag fun _ hK3=>aa (za rfl (zQ hK3 (zM h (fun (v4:(List UInt8))=>[(0,aY v4),(3,Sc (.int .i32 94)),(4,I 0)]) (fun (v4:(List UInt8))=>[]) (fun v4 h=>?_) fun _ _ hK6 h=>?_)))))))))
 · refine ag fun _ hK7=>aa (za rfl (zQ hK7 (zM h (fun (v8:Int×Int×Bool)=>[(0,aY v4),(3,Sc (.int .i32 v8.1)),(4,I v8.2.1),(5,Bo v8.2.2)]) (fun (v8:Int×Int×Bool)=>[]) (fun v8 h=>?_) fun _ _ hK10 h=>?_)))
   · refine ag fun _ hK11=>aC (zL hr h (fun (v12:Int×Int)=>[(0,aY v4),(3,Sc (.int .i32 v12.1)),(4,I v12.2),(5,Bo v8.2.2)]) (fun (v12:Int×Int)=>[]) rfl fun _ v12 _ hK14 h=>ag fun _ hK15=>ag fun _ hK16=>aa (zm rfl (zm rfl (an (cX rfl) rfl (zc rfl (zQ hK16 (zB rfl h (fun _ h=>?_) fun _ h=>?_)))))))
     · refine ar (hK15 _ _ (zM h (fun (v18:Int)=>[(0,aY v4),(3,Sc (.int .i32 v18)),(4,I v12.2),(5,Bo v8.2.2)]) (fun (v18:Int)=>[]) (fun v18 h=>?_) fun _ _ hK20 h=>?_))
       · exact aa (zm rfl (zd hr h fun hg21 h=>zo hg21 rfl (za rfl (ao (hK14 _ _ _ h rfl)))))
       · refine aC (zM h (fun (v22:Unit)=>[(0,aY v4),(3,Sc (.int .i32 v12.1)),(4,I v12.2),(5,Bo v8.2.2)]) (fun (v22:Unit)=>[]) (fun v22 h=>?_) fun _ _ hK24 h=>?_)
         · refine ag fun _ hK25=>ag fun _ hK26=>aa (zm rfl (zm rfl (ze hr h fun b27 h28 h29 h30 h=>an (dL rfl rfl h28 h30) rfl (zc rfl (zQ hK26 (zB rfl h (fun _ h=>?_) fun _ h=>?_))))))
           · refine ag fun _ hK32=>ag fun _ hK33=>aa (zm rfl (zc rfl (zQ hK33 (zB rfl h (fun _ h=>?_) fun _ h=>?_))))
             · exact ag fun _ hK35=>aa (za rfl (zQ hK35 (aw (zX (.cons (ay rfl) .nil) h rfl))))
             · exact ar (hK32 _ _ (ag fun _ hK36=>aa (za rfl (zQ hK36 (bp (hK20 _ _ _ h rfl))))))
           · refine ar (hK25 _ _ (ag fun _ hK37=>ag fun _ hK38=>aa (zm rfl (zc rfl (zQ hK38 (zB rfl h (fun _ h=>?_) fun _ h=>?_))))))
             · exact ag fun _ hK40=>aa (za rfl (zQ hK40 (aw (zX (.cons (ay rfl) .nil) h rfl))))
             · exact ar (hK37 _ _ (aa (za rfl (ao (hK20 _ _ _ h rfl)))))
         · refine ag fun _ hK41=>aa (zm rfl (zm rfl (ze hr h fun b42 h43 h44 h45 h=>an (dL rfl rfl h43 h45) rfl (zc rfl (zm rfl (zb (decide (48≤(b42.toNat:Int))) (fun hb46=>?_) fun hb46=>?_))))))
           · refine z1 hb46 h fun h=>zG hb46 rfl (au rfl) (zG hb46 rfl (au rfl) (ze hr h fun b47 h48 h49 h50 h=>zG hb46 rfl (dL rfl rfl h48 h50) (zG hb46 rfl (bg rfl rfl rfl) (zy hb46 rfl (zm rfl (zb (decide ((b47.toNat:Int)≤57)) (fun hb51=>?_) fun hb51=>?_))))))
             · refine z1 hb51 h fun h=>zg hb51 rfl (zg hb51 rfl (zu rfl (zu rfl (zu rfl (zu rfl (zu rfl (zg hb51 rfl (zg hb51 rfl (zu rfl (zu rfl (zu rfl (zu rfl (zu rfl (zg hb51 rfl (zy hb51 rfl (zQ hK41 (cN rfl (fun hc=>?_) (fun hc=>?_))))))))))))))))))
               · exact ag fun _ hK52=>aa (za rfl (zQ hK52 (bp (hK20 _ _ _ h rfl))))
               · exact absurd (hc) (by simp)
             · refine z2 hb51 h fun h=>zG hb51 rfl (au rfl) (zG hb51 rfl (au rfl) (zb v8.2.2 (fun hb53=>?_) fun hb53=>?_))
               · refine z1 hb53 h fun h=>zG hb53 rfl (au rfl) (zG hb53 rfl (au rfl) (ze hr h fun b54 h55 h56 h57 h=>zG hb53 rfl (dL rfl rfl h55 h57) (zK hb53 rfl hp hr h [] Tryz.call250 (dw (b54.toNat:Int)) rfl (fun _=>rfl) fun y58 h=>zG hb53 rfl (bg rfl rfl rfl) (zG hb51 rfl (cT hb53 rfl rfl) (zG hb51 rfl (au rfl) (zb (decide (97≤y58)) (fun hb59=>?_) fun hb59=>?_))))))
                 · refine z1 hb59 h fun h=>zG hb59 rfl (au rfl) (zG hb59 rfl (au rfl) (ze hr h fun b60 h61 h62 h63 h=>zG hb59 rfl (dL rfl rfl h61 h63) (zK hb59 rfl hp hr h [] Tryz.call250 (dw (b60.toNat:Int)) rfl (fun _=>rfl) fun y64 h=>zG hb59 rfl (bg rfl rfl rfl) (zG hb51 rfl (cT hb59 rfl rfl) (zw hb51 rfl (zQ hK41 (zB rfl h (fun _ h=>?_) fun _ h=>?_)))))))
                   · exact ag fun _ hK66=>aa (za rfl (zQ hK66 (bp (hK20 _ _ _ h rfl))))
                   · exact ar (hK24 _ _ _ h rfl)
                 · refine z2 hb59 h fun h=>zg hb59 rfl (zg hb59 rfl (zg hb59 rfl (zg hb59 rfl (zg hb59 rfl (zG hb51 rfl (cO hb59 rfl rfl) (zw hb51 rfl (zQ hK41 (cN rfl (fun hc=>?_) (fun hc=>?_)))))))))
                   · exact absurd (hc) (by simp)
                   · exact ar (hK24 _ _ _ h rfl)
               · refine z2 hb53 h fun h=>zg hb53 rfl (zg hb53 rfl (zg hb53 rfl (zg hb53 rfl (zg hb53 rfl (zG hb51 rfl (cO hb53 rfl rfl) (zG hb51 rfl (au rfl) (zg rfl rfl (zg rfl rfl (zg rfl rfl (zg rfl rfl (zg rfl rfl (zG hb51 rfl (dv rfl rfl) (zw hb51 rfl (zQ hK41 (cN rfl (fun hc=>?_) (fun hc=>?_))))))))))))))))
                 · exact absurd (hc) (by simp)
                 · exact ar (hK24 _ _ _ h rfl)
           · refine z2 hb46 h fun h=>zg hb46 rfl (zg hb46 rfl (zg hb46 rfl (zg hb46 rfl (zw hb46 rfl (zm rfl (zG rfl rfl (au rfl) (zG rfl rfl (au rfl) (zb v8.2.2 (fun hb67=>?_) fun hb67=>?_))))))))
             · refine z1 hb67 h fun h=>zG hb67 rfl (au rfl) (zG hb67 rfl (au rfl) (ze hr h fun b68 h69 h70 h71 h=>zG hb67 rfl (dL rfl rfl h69 h71) (zK hb67 rfl hp hr h [] Tryz.call250 (dw (b68.toNat:Int)) rfl (fun _=>rfl) fun y72 h=>zG hb67 rfl (bg rfl rfl rfl) (zG rfl rfl (cT hb67 rfl rfl) (zG rfl rfl (au rfl) (zb (decide (97≤y72)) (fun hb73=>?_) fun hb73=>?_))))))
               · refine z1 hb73 h fun h=>zG hb73 rfl (au rfl) (zG hb73 rfl (au rfl) (ze hr h fun b74 h75 h76 h77 h=>zG hb73 rfl (dL rfl rfl h75 h77) (zK hb73 rfl hp hr h [] Tryz.call250 (dw (b74.toNat:Int)) rfl (fun _=>rfl) fun y78 h=>zG hb73 rfl (bg rfl rfl rfl) (zG rfl rfl (cT hb73 rfl rfl) (an (dv rfl rfl) rfl (zQ hK41 (zB rfl h (fun _ h=>?_) fun _ h=>?_)))))))
                 · exact ag fun _ hK80=>aa (za rfl (zQ hK80 (bp (hK20 _ _ _ h rfl))))
                 · exact ar (hK24 _ _ _ h rfl)
               · refine z2 hb73 h fun h=>zg hb73 rfl (zg hb73 rfl (zg hb73 rfl (zg hb73 rfl (zg hb73 rfl (zG rfl rfl (cO hb73 rfl rfl) (an (dv rfl rfl) rfl (zQ hK41 (cN rfl (fun hc=>?_) (fun hc=>?_)))))))))
                 · exact absurd (hc) (by simp)
                 · exact ar (hK24 _ _ _ h rfl)
             · refine z2 hb67 h fun h=>zg hb67 rfl (zg hb67 rfl (zg hb67 rfl (zg hb67 rfl (zg hb67 rfl (zG rfl rfl (cO hb67 rfl rfl) (zG rfl rfl (au rfl) (zg rfl rfl (zg rfl rfl (zg rfl rfl (zg rfl rfl (zg rfl rfl (zG rfl rfl (dv rfl rfl) (an (dv rfl rfl) rfl (zQ hK41 (cN rfl (fun hc=>?_) (fun hc=>?_))))))))))))))))
               · exact absurd (hc) (by simp)
               · exact ar (hK24 _ _ _ h rfl)
     · exact bp (hK11 _ _ (ag fun _ hK81=>aa (zm rfl (zc rfl (za rfl (zQ hK81 (aw (zX (.cons (ay rfl) .nil) h rfl))))))))
   · refine zM h (fun (v82:Bool)=>[(0,aY v4),(3,Sc (.int .i32 94)),(4,I 0),(5,Bo false),(46,Bo v82)]) (fun (v82:Bool)=>[]) (fun v82 h=>?_) fun _ _ hK84 h=>?_
     · refine zB rfl h (fun _ h=>?_) fun _ h=>?_
       · exact ag fun _ hK86=>aa (za rfl (zQ hK86 (ag fun _ hK87=>aa (za rfl (zQ hK87 (aa (zm rfl (ze hr h fun b88 h89 h90 h91 h=>an (dL rfl rfl h89 h91) rfl (zk hp hr h [] Tryz.call250 (dw (b88.toNat:Int)) rfl (fun _=>rfl) fun y92 h=>zc rfl (za rfl (ao (hK10 _ _ _ h rfl))))))))))))
       · exact ar (hK10 _ _ _ h rfl)
     · refine aa (zm rfl (an (cX rfl) rfl (zc rfl (zm rfl (zb (decide ((List.length v4:Int)≥2)) (fun hb93=>?_) fun hb93=>?_)))))
       · refine z1 hb93 h fun h=>zG hb93 rfl (au rfl) (ze hr h fun b94 h95 h96 h97 h=>zG hb93 rfl (dL rfl rfl h95 h97) (zG hb93 rfl (bg rfl rfl rfl) (zy hb93 rfl (zm rfl (zb ((b94.toNat:Int)==48) (fun hb98=>?_) fun hb98=>?_)))))
         · refine z1 hb98 h fun h=>zG hb98 rfl (au rfl) (ze hr h fun b99 h100 h101 h102 h=>zG hb98 rfl (dL rfl rfl h100 h102) (zK hb98 rfl hp hr h [] Tryz.call250 (dw (b99.toNat:Int)) rfl (fun _=>rfl) fun y103 h=>zG hb98 rfl (bg rfl rfl rfl) (zG hb98 rfl (au rfl) (zb (y103==98) (fun hb104=>?_) fun hb104=>?_))))
           · exact z1 hb104 h fun h=>zg hb104 rfl (zg hb104 rfl (zg hb104 rfl (zg hb104 rfl (zG hb98 rfl (cT hb104 rfl rfl) (zG hb98 rfl (au rfl) (zg rfl rfl (zg rfl rfl (zg rfl rfl (zg rfl rfl (zG hb98 rfl (tJ rfl rfl) (zy hb98 rfl (ao (hK84 _ _ _ h rfl)))))))))))))
           · refine z2 hb104 h fun h=>zG hb104 rfl (au rfl) (ze hr h fun b105 h106 h107 h108 h=>zG hb104 rfl (dL rfl rfl h106 h108) (zK hb104 rfl hp hr h [] Tryz.call250 (dw (b105.toNat:Int)) rfl (fun _=>rfl) fun y109 h=>zG hb104 rfl (bg rfl rfl rfl) (zG hb98 rfl (cO hb104 rfl rfl) (zG hb98 rfl (au rfl) (zb (y109==111) (fun hb110=>?_) fun hb110=>?_)))))
             · exact z1 hb110 h fun h=>zg hb110 rfl (zg hb110 rfl (zg hb110 rfl (zg hb110 rfl (zG hb98 rfl (cT hb110 rfl rfl) (zy hb98 rfl (ao (hK84 _ _ _ h rfl)))))))
             · exact z2 hb110 h fun h=>zG hb110 rfl (au rfl) (ze hr h fun b111 h112 h113 h114 h=>zG hb110 rfl (dL rfl rfl h112 h114) (zK hb110 rfl hp hr h [] Tryz.call250 (dw (b111.toNat:Int)) rfl (fun _=>rfl) fun y115 h=>zG hb110 rfl (bg rfl rfl rfl) (zG hb98 rfl (cO hb110 rfl rfl) (zy hb98 rfl (ao (hK84 _ _ _ h rfl))))))
         · exact z2 hb98 h fun h=>zg hb98 rfl (zg hb98 rfl (zg hb98 rfl (zg hb98 rfl (zg hb98 rfl (zu rfl (zu rfl (zu rfl (zu rfl (zg hb98 rfl (zg hb98 rfl (zu rfl (zu rfl (zu rfl (zu rfl (zg hb98 rfl (zw hb98 rfl (ao (hK84 _ _ _ h rfl))))))))))))))))))
       · exact z2 hb93 h fun h=>zg hb93 rfl (zg hb93 rfl (zg hb93 rfl (zw hb93 rfl (zm rfl (zg rfl rfl (zg rfl rfl (zg rfl rfl (zg rfl rfl (zg rfl rfl (zu rfl (zu rfl (zu rfl (zu rfl (zg rfl rfl (zg rfl rfl (zu rfl (zu rfl (zu rfl (zu rfl (zg rfl rfl (an (dv rfl rfl) rfl (ao (hK84 _ _ _ h rfl)))))))))))))))))))))))
 · refine ag fun _ hK116=>aa (zm rfl (an (cX rfl) rfl (zc rfl (zm rfl (zb (decide ((List.length p0:Int)≥1)) (fun hb117=>?_) fun hb117=>?_)))))
   · refine z1 hb117 h fun h=>zG hb117 rfl (au rfl) (ze hr h fun b118 h119 h120 h121 h=>zG hb117 rfl (dL rfl rfl h119 h121) (zG hb117 rfl (bg rfl rfl rfl) (zG hb117 rfl (au rfl) (zb ((b118.toNat:Int)==45) (fun hb122=>?_) fun hb122=>?_))))
     · refine z1 hb122 h fun h=>zg hb122 rfl (zg hb122 rfl (zg hb122 rfl (zG hb117 rfl (cT hb122 rfl rfl) (zy hb117 rfl (zQ hK116 (cN rfl (fun hc=>?_) (fun hc=>?_)))))))
       · exact aa (zm rfl (zd hr h fun hg123 h=>an (gO rfl rfl hg123.1 hg123.2) rfl (za rfl (ao (hK6 _ _ _ h rfl)))))
       · exact absurd (hc) (by simp)
     · refine z2 hb122 h fun h=>zG hb122 rfl (au rfl) (ze hr h fun b124 h125 h126 h127 h=>zG hb122 rfl (dL rfl rfl h125 h127) (zG hb122 rfl (bg rfl rfl rfl) (zG hb117 rfl (cO hb122 rfl rfl) (zy hb117 rfl (zQ hK116 (zB rfl h (fun _ h=>?_) fun _ h=>?_))))))
       · exact aa (zm rfl (zd hr h fun hg129 h=>an (gO rfl rfl hg129.1 hg129.2) rfl (za rfl (ao (hK6 _ _ _ h rfl)))))
       · exact ar (hK6 _ _ _ h rfl)
   · refine z2 hb117 h fun h=>zg hb117 rfl (zg hb117 rfl (zg hb117 rfl (zg hb117 rfl (zu rfl (zu rfl (zu rfl (zg hb117 rfl (zw hb117 rfl (zQ hK116 (cN rfl (fun hc=>?_) (fun hc=>?_)))))))))))
     · exact absurd (hc) (by simp)
     · exact ar (hK6 _ _ _ h rfl)
def iw (n:Nat) (p0:(List UInt8)) (p1:Int) (p2:Int):aq (Int×Int):=
 br (p0==([]:List UInt8)) (.ok (0,2)) (jn (fun (v8:(List UInt8)×Int)=>jn (fun (v11:Int)=>jn (fun (v15:Int)=>gd ((0:Int)≤(IntKind.wrap .u64 v11)) (iter (fun next25 (v24:Bool×Int×Int)=>br (decide (v24.2.2<(List.length (ofBytes v8.1):Int))) (el (ofBytes v8.1) v24.2.2 fun x32=>jn (fun (v37:Int)=>br (decide (v37≥(IntKind.wrap .u8 v8.2))) (.ok (0,2)) (br (decide (v24.2.1≥v15)) (.ok (IntKind.wrap .u64 ((ny .u64 1 (IntKind.wrap .u64 v11)) - 1),1)) (br (decide ((IntKind.wrap .u64 ((IntKind.wrap .u64 (v24.2.1*(IntKind.wrap .u64 v8.2)))+(IntKind.wrap .u64 v37)))<(IntKind.wrap .u64 (v24.2.1*(IntKind.wrap .u64 v8.2))))) (.ok (IntKind.wrap .u64 ((ny .u64 1 (IntKind.wrap .u64 v11)) - 1),1)) (br (decide ((IntKind.wrap .u64 ((IntKind.wrap .u64 (v24.2.1*(IntKind.wrap .u64 v8.2)))+(IntKind.wrap .u64 v37)))>(IntKind.wrap .u64 ((ny .u64 1 (IntKind.wrap .u64 v11)) - 1)))) (.ok (IntKind.wrap .u64 ((ny .u64 1 (IntKind.wrap .u64 v11)) - 1),1)) (gd (bA (v24.2.2+1)) (next25 (v24.1,IntKind.wrap .u64 ((IntKind.wrap .u64 (v24.2.1*(IntKind.wrap .u64 v8.2)))+(IntKind.wrap .u64 v37)),v24.2.2+1))))))) fun j38=>jn (fun (v57:Bool)=>br v57 (gd (bA (v24.2.2+1)) (next25 (true,v24.2.1,v24.2.2+1))) (jn (fun (v63:Bool)=>br v63 (j38 (IntKind.wrap .u8 (x32 - 48))) (aq.bind (dR x32) fun y68=>br (decide (97≤y68)) (aq.bind (dR x32) fun y70=>br (decide (y70≤122)) (aq.bind (dR x32) fun y72=>j38 (IntKind.wrap .u8 ((IntKind.wrap .u8 (y72 - 97))+10))) (.ok (0,2))) (.ok (0,2)))) fun j64=>br (decide (48≤x32)) (j64 ((decide (x32≤57)))) (j64 (false)))) fun j58=>br (x32==95) (j58 ((p1==0))) (j58 (false))) (br v24.1 (aq.bind (me n p0) fun y80=>br (!y80) (.ok (0,2)) (.ok (v24.2.1,0))) (.ok (v24.2.1,0)))) n (false,0,0))) fun j16=>br (v8.2==10) (j16 (1844674407370955162)) (br (v8.2==16) (j16 (1152921504606846976)) (gd (((IntKind.wrap .u64 v8.2):Int)≠0) (j16 (IntKind.wrap .u64 ((IntKind.wrap .u64 (Int.tdiv 18446744073709551615 (IntKind.wrap .u64 v8.2)))+1)))))) fun j12=>br (p2==0) (j12 (64)) (br (decide (p2<0)) (.ok (0,4)) (br (decide (p2>64)) (.ok (0,4)) (j12 (p2))))) fun j9=>jn (fun (v98:Bool)=>br v98 (j9 (p0,p1)) (br (p1==0) (el p0 0 fun b106=>br ((b106.toNat:Int)==48) (jn (fun (v111:Bool)=>br v111 (gd ((0:Int)≤2∧2≤(List.length p0:Int)) (j9 (dO p0 2,2))) (jn (fun (v117:Bool)=>br v117 (gd ((0:Int)≤2∧2≤(List.length p0:Int)) (j9 (dO p0 2,8))) (br (decide ((List.length p0:Int)≥3)) (el p0 1 fun b125=>aq.bind (dR (b125.toNat:Int)) fun y129=>br (y129==120) (gd ((0:Int)≤2∧2≤(List.length p0:Int)) (j9 (dO p0 2,16))) (gd ((0:Int)≤1∧1≤(List.length p0:Int)) (j9 (dO p0 1,8)))) (gd ((0:Int)≤1∧1≤(List.length p0:Int)) (j9 (dO p0 1,8))))) fun j118=>br (decide ((List.length p0:Int)≥3)) (el p0 1 fun b138=>aq.bind (dR (b138.toNat:Int)) fun y142=>j118 ((y142==111))) (j118 (false)))) fun j112=>br (decide ((List.length p0:Int)≥3)) (el p0 1 fun b144=>aq.bind (dR (b144.toNat:Int)) fun y148=>j112 ((y148==98))) (j112 (false))) (j9 (p0,10))) (.ok (0,3)))) fun j99=>br (decide (2≤p1)) (j99 ((decide (p1≤36)))) (j99 (false)))
theorem pC (n:Nat) (p0:(List UInt8)) (p1:Int) (p2:Int):CT Tryz.prog 228 [aY p0,I p1,I p2] [] (iw n p0 p1 p2) (fun x=>.fH [Sc (.int .u64 x.1),Oi x.2]) (fun _=>[]):=by
 refine zC Tryz.func228 rfl fun r hp h hr E hE=>ag fun _ hK1=>aa (za rfl (za rfl (zQ hK1 (ag fun _ hK2=>ag fun _ hK3=>aa (zm rfl (an (iE rfl rfl) rfl (zQ hK3 (zB rfl h (fun _ h=>?_) fun _ h=>?_))))))))
 · refine ag fun _ hK5=>aa (an (oN rfl) rfl ?_)
   exact za rfl (za rfl (zQ hK5 (aw (zX (.cons (ay rfl) (.cons (ay rfl) .nil)) h rfl))))
 · refine ar (hK2 _ _ (ag fun _ hK6=>aa (zm rfl (zc rfl (za rfl (zQ hK6 (ag fun _ hK7=>aa (zm rfl (za rfl (zQ hK7 (zM h (fun (v8:(List UInt8)×Int)=>[(0,aY v8.1),(1,I v8.2),(2,I p2),(8,Bo (p1==0)),(9,aY p0)]) (fun (v8:(List UInt8)×Int)=>[]) (fun v8 h=>?_) fun _ _ hK10 h=>?_)))))))))))
   · refine zM h (fun (v11:Int)=>[(0,aY v8.1),(1,I v8.2),(2,I v11),(8,Bo (p1==0)),(9,aY p0)]) (fun (v11:Int)=>[]) (fun v11 h=>?_) fun _ _ hK13 h=>?_
     · refine ag fun _ hK14=>aa (za rfl (zQ hK14 (zM h (fun (v15:Int)=>[(0,aY v8.1),(1,I v8.2),(2,I v11),(8,Bo (p1==0)),(9,aY p0),(10,Sc (.int .u64 v15))]) (fun (v15:Int)=>[]) (fun v15 h=>?_) fun _ _ hK17 h=>?_)))
       · refine ag fun _ hK18=>aa (zm rfl (an (lL rfl) rfl (zd hr h fun hg19 h=>an (wz rfl rfl hg19) rfl (an (sU rfl rfl) rfl (za rfl (zQ hK18 (ag fun _ hK20=>aa (za rfl (zQ hK20 (ag fun _ hK21=>aa (za rfl (zQ hK21 (ag fun _ hK22=>ag fun _ hK23=>aa (zm rfl (Eg (Cs:=r8) rfl (fun _=>rfl) rfl ?_)))))))))))))))
         refine an (cg rfl) rfl (zm rfl (zQ hK23 (aC (zL hr h (fun (v24:Bool×Int×Int)=>[(0,aY v8.1),(1,I v8.2),(2,I v11),(8,Bo (p1==0)),(9,aY p0),(10,Sc (.int .u64 v15)),(11,Sc (.int .u64 (IntKind.wrap .u64 ((ny .u64 1 (IntKind.wrap .u64 v11)) - 1)))),(12,Bo v24.1),(13,Sc (.int .u64 v24.2.1)),(99,.pv (.sl (List.length (ofBytes v8.1)) (r8 (ofBytes v8.1)))),(100,I (List.length (ofBytes v8.1):Int)),(101,I v24.2.2)]) (fun (v24:Bool×Int×Int)=>[]) rfl fun _ v24 _ hK26 h=>ag fun _ hK27=>aa (zc rfl (zQ hK27 (ag fun _ hK28=>zB rfl h (fun _ h=>?_) fun _ h=>?_)))))))
         · refine ar (hK28 _ _ (ag fun _ hK30=>aC (ag fun _ hK31=>aa (ze hr h fun x32 h33 h34 h35 h=>an (gx kg mV h33 h34 h35 rfl rfl rfl) rfl (an (fO rfl rfl) rfl (za rfl (zQ hK31 (ag fun _ hK36=>aa (za rfl (zQ hK36 (zM h (fun (v37:Int)=>[(0,aY v8.1),(1,I v8.2),(2,I v11),(8,Bo (p1==0)),(9,aY p0),(10,Sc (.int .u64 v15)),(11,Sc (.int .u64 (IntKind.wrap .u64 ((ny .u64 1 (IntKind.wrap .u64 v11)) - 1)))),(12,Bo v24.1),(13,Sc (.int .u64 v24.2.1)),(16,Sc (.int .u8 v37)),(99,.pv (.sl (List.length (ofBytes v8.1)) (r8 (ofBytes v8.1)))),(100,I (List.length (ofBytes v8.1):Int)),(101,I v24.2.2)]) (fun (v37:Int)=>[]) (fun v37 h=>?_) fun _ _ hK39 h=>?_)))))))))))
           · refine ag fun _ hK40=>ag fun _ hK41=>aa (zm rfl (zm rfl (an (lL rfl) rfl (zc rfl (zQ hK41 (zB rfl h (fun _ h=>?_) fun _ h=>?_))))))
             · refine ag fun _ hK43=>aa (an (oN rfl) rfl ?_)
               exact za rfl (za rfl (zQ hK43 (aw (zX (.cons (ay rfl) (.cons (ay rfl) .nil)) h rfl))))
             · refine ar (hK40 _ _ (ag fun _ hK44=>ag fun _ hK45=>aa (zm rfl (zm rfl (zc rfl (zQ hK45 (zB rfl h (fun _ h=>?_) fun _ h=>?_)))))))
               · refine ag fun _ hK47=>aa (zm rfl (an (oN rfl) rfl ?_))
                 exact za rfl (za rfl (zQ hK47 (aw (zX (.cons (ay rfl) (.cons (ay rfl) .nil)) h rfl))))
               · refine ar (hK44 _ _ (ag fun _ hK48=>aa (zm rfl (zm rfl (an (lL rfl) rfl (an (DY rfl rfl) rfl (za rfl (zQ hK48 (ag fun _ hK49=>aa (zm rfl (zm rfl (an (lL rfl) rfl (an (iP rfl rfl) rfl (za rfl (zQ hK49 (ag fun _ hK50=>ag fun _ hK51=>aa (zm rfl (zm rfl (zc rfl (zm rfl ?_))))))))))))))))))))
                 refine zb (decide ((IntKind.wrap .u64 ((IntKind.wrap .u64 (v24.2.1*(IntKind.wrap .u64 v8.2)))+(IntKind.wrap .u64 v37)))<(IntKind.wrap .u64 (v24.2.1*(IntKind.wrap .u64 v8.2))))) (fun hb52=>?_) fun hb52=>?_
                 · refine z1 hb52 h fun h=>zg hb52 rfl (zg hb52 rfl (zg hb52 rfl (zy hb52 rfl (zQ hK51 (cN rfl (fun hc=>?_) (fun hc=>?_))))))
                   · refine ag fun _ hK53=>aa (zm rfl (an (oN rfl) rfl ?_))
                     exact za rfl (za rfl (zQ hK53 (aw (zX (.cons (ay rfl) (.cons (ay rfl) .nil)) h rfl))))
                   · exact absurd (hc) (by simp)
                 · refine z2 hb52 h fun h=>zG hb52 rfl (au rfl) (zG hb52 rfl (au rfl) (zG hb52 rfl (bg rfl rfl rfl) (zw hb52 rfl (zQ hK51 (zB rfl h (fun _ h=>?_) fun _ h=>?_)))))
                   · refine ag fun _ hK55=>aa (zm rfl (an (oN rfl) rfl ?_))
                     exact za rfl (za rfl (zQ hK55 (aw (zX (.cons (ay rfl) (.cons (ay rfl) .nil)) h rfl))))
                   · exact ar (hK50 _ _ (aa (zm rfl (za rfl (zQ hK30 (aa (zd hr h fun hg56 h=>zo hg56 rfl (zm rfl (ao (hK26 _ _ _ h rfl))))))))))
           · refine aC (zM h (fun (v57:Bool)=>[(0,aY v8.1),(1,I v8.2),(2,I v11),(8,Bo (p1==0)),(9,aY p0),(10,Sc (.int .u64 v15)),(11,Sc (.int .u64 (IntKind.wrap .u64 ((ny .u64 1 (IntKind.wrap .u64 v11)) - 1)))),(12,Bo v24.1),(13,Sc (.int .u64 v24.2.1)),(15,Sc (.int .u8 x32)),(99,.pv (.sl (List.length (ofBytes v8.1)) (r8 (ofBytes v8.1)))),(100,I (List.length (ofBytes v8.1):Int)),(101,I v24.2.2),(106,Bo v57)]) (fun (v57:Bool)=>[]) (fun v57 h=>?_) fun _ _ hK59 h=>?_)
             · refine zB rfl h (fun _ h=>?_) fun _ h=>?_
               · exact ag fun _ hK61=>aa (za rfl (zQ hK61 (bp (hK30 _ _ (aa (zd hr h fun hg62 h=>zo hg62 rfl (zm rfl (ao (hK26 _ _ _ h rfl)))))))))
               · refine zM h (fun (v63:Bool)=>[(0,aY v8.1),(1,I v8.2),(2,I v11),(8,Bo (p1==0)),(9,aY p0),(10,Sc (.int .u64 v15)),(11,Sc (.int .u64 (IntKind.wrap .u64 ((ny .u64 1 (IntKind.wrap .u64 v11)) - 1)))),(12,Bo v24.1),(13,Sc (.int .u64 v24.2.1)),(15,Sc (.int .u8 x32)),(99,.pv (.sl (List.length (ofBytes v8.1)) (r8 (ofBytes v8.1)))),(100,I (List.length (ofBytes v8.1):Int)),(101,I v24.2.2),(112,Bo v63)]) (fun (v63:Bool)=>[]) (fun v63 h=>?_) fun _ _ hK65 h=>?_
                 · refine zB rfl h (fun _ h=>?_) fun _ h=>?_
                   · exact aa (zm rfl (an (sU rfl rfl) rfl (za rfl (ao (hK39 _ _ _ h rfl)))))
                   · refine ag fun _ hK67=>aa (zm rfl (zk hp hr h [] Tryz.call250 (dw x32) rfl (fun _=>rfl) fun y68 h=>zc rfl (zm rfl (zb (decide (97≤y68)) (fun hb69=>?_) fun hb69=>?_))))
                     · refine z1 hb69 h fun h=>zG hb69 rfl (au rfl) (zK hb69 rfl hp hr h [] Tryz.call250 (dw x32) rfl (fun _=>rfl) fun y70 h=>zG hb69 rfl (bg rfl rfl rfl) (zy hb69 rfl (za rfl (zQ hK67 (zB rfl h (fun _ h=>?_) fun _ h=>?_)))))
                       · exact aa (zm rfl (zk hp hr h [] Tryz.call250 (dw x32) rfl (fun _=>rfl) fun y72 h=>an (sU rfl rfl) rfl (an (iP rfl rfl) rfl (za rfl (ao (hK39 _ _ _ h rfl))))))
                       · refine ag fun _ hK73=>aa (an (oN rfl) rfl ?_)
                         exact za rfl (za rfl (zQ hK73 (aw (zX (.cons (ay rfl) (.cons (ay rfl) .nil)) h rfl))))
                     · refine z2 hb69 h fun h=>zg hb69 rfl (zg hb69 rfl (zg hb69 rfl (zw hb69 rfl (za rfl (zQ hK67 (cN rfl (fun hc=>?_) (fun hc=>?_)))))))
                       · exact absurd (hc) (by simp)
                       · refine ag fun _ hK74=>aa (an (oN rfl) rfl ?_)
                         exact za rfl (za rfl (zQ hK74 (aw (zX (.cons (ay rfl) (.cons (ay rfl) .nil)) h rfl))))
                 · refine aa (zm rfl (zc rfl (zm rfl (zb (decide (48≤x32)) (fun hb75=>?_) fun hb75=>?_))))
                   · exact z1 hb75 h fun h=>zG hb75 rfl (au rfl) (zG hb75 rfl (bg rfl rfl rfl) (zy hb75 rfl (za rfl (ao (hK65 _ _ _ h rfl)))))
                   · exact z2 hb75 h fun h=>zg hb75 rfl (zg hb75 rfl (zw hb75 rfl (za rfl (ao (hK65 _ _ _ h rfl)))))
             · refine aa (zm rfl (zc rfl (zm rfl (zb (x32==95) (fun hb76=>?_) fun hb76=>?_))))
               · exact z1 hb76 h fun h=>zG hb76 rfl (au rfl) (zy hb76 rfl (za rfl (ao (hK59 _ _ _ h rfl))))
               · exact z2 hb76 h fun h=>zg hb76 rfl (zw hb76 rfl (za rfl (ao (hK59 _ _ _ h rfl))))
         · refine bp (hK22 _ _ (ag fun _ hK77=>ag fun _ hK78=>aa (zm rfl (zm rfl (zb v24.1 (fun hb79=>?_) fun hb79=>?_)))))
           · refine z1 hb79 h fun h=>zG hb79 rfl (au rfl) (zK hb79 rfl hp hr h [] Tryz.call251 (pB n p0) rfl (fun _=>rfl) fun y80 h=>zG hb79 rfl (eG rfl) (zy hb79 rfl (zQ hK78 (zB rfl h (fun _ h=>?_) fun _ h=>?_))))
             · refine ag fun _ hK82=>aa (an (oN rfl) rfl ?_)
               exact za rfl (za rfl (zQ hK82 (aw (zX (.cons (ay rfl) (.cons (ay rfl) .nil)) h rfl))))
             · exact ar (hK77 _ _ (ag fun _ hK83=>aa (zm rfl (za rfl (za rfl (zQ hK83 (aw (zX (.cons (ay rfl) (.cons (ay rfl) .nil)) h rfl))))))))
           · refine z2 hb79 h fun h=>zg hb79 rfl (zg hb79 rfl (zg hb79 rfl (zw hb79 rfl (zQ hK78 (cN rfl (fun hc=>?_) (fun hc=>?_))))))
             · exact absurd (hc) (by simp)
             · exact ar (hK77 _ _ (ag fun _ hK84=>aa (zm rfl (za rfl (za rfl (zQ hK84 (aw (zX (.cons (ay rfl) (.cons (ay rfl) .nil)) h rfl))))))))
       · refine ag fun _ hK85=>aa (zm rfl (zQ hK85 (aC (ag fun _ hK86=>aa (zc rfl (za rfl (zQ hK86 (zB rfl h (fun _ h=>?_) fun _ h=>?_))))))))
         · exact aa (za rfl (ao (hK17 _ _ _ h rfl)))
         · refine ag fun _ hK88=>aa (zc rfl (za rfl (zQ hK88 (zB rfl h (fun _ h=>?_) fun _ h=>?_))))
           · exact aa (za rfl (ao (hK17 _ _ _ h rfl)))
           · exact aa (zm rfl (an (lL rfl) rfl (zd hr h fun hg90 h=>an (yg rfl rfl hg90) rfl (an (iP rfl rfl) rfl (za rfl (ao (hK17 _ _ _ h rfl)))))))
     · refine ag fun _ hK91=>aa (zm rfl (zc rfl (zQ hK91 (zB rfl h (fun _ h=>?_) fun _ h=>?_))))
       · exact aa (za rfl (ao (hK13 _ _ _ h rfl)))
       · refine ag fun _ hK93=>aa (zm rfl (zc rfl (zm rfl (zb (decide (p2<0)) (fun hb94=>?_) fun hb94=>?_))))
         · refine z1 hb94 h fun h=>zg hb94 rfl (zg hb94 rfl (zy hb94 rfl (zQ hK93 (cN rfl (fun hc=>?_) (fun hc=>?_)))))
           · refine ag fun _ hK95=>aa (an (oN rfl) rfl ?_)
             exact za rfl (za rfl (zQ hK95 (aw (zX (.cons (ay rfl) (.cons (ay rfl) .nil)) h rfl))))
           · exact absurd (hc) (by simp)
         · refine z2 hb94 h fun h=>zG hb94 rfl (au rfl) (zG hb94 rfl (bg rfl rfl rfl) (zw hb94 rfl (zQ hK93 (zB rfl h (fun _ h=>?_) fun _ h=>?_))))
           · refine ag fun _ hK97=>aa (an (oN rfl) rfl ?_)
             exact za rfl (za rfl (zQ hK97 (aw (zX (.cons (ay rfl) (.cons (ay rfl) .nil)) h rfl))))
           · exact ar (hK13 _ _ _ h rfl)
   · refine aC (zM h (fun (v98:Bool)=>[(0,aY p0),(1,I p1),(2,I p2),(8,Bo (p1==0)),(9,aY p0),(25,Bo v98)]) (fun (v98:Bool)=>[]) (fun v98 h=>?_) fun _ _ hK100 h=>?_)
     · refine zB rfl h (fun _ h=>?_) fun _ h=>?_
       · exact ar (hK10 _ _ _ h rfl)
       · refine ag fun _ hK102=>aa (zm rfl (zc rfl (za rfl (zQ hK102 (zB rfl h (fun _ h=>?_) fun _ h=>?_)))))
         · refine ag fun _ hK104=>aa (za rfl (zQ hK104 (ag fun _ hK105=>aa (zm rfl (ze hr h fun b106 h107 h108 h109 h=>an (dL rfl rfl h107 h109) rfl (zc rfl (zQ hK105 (zB rfl h (fun _ h=>?_) fun _ h=>?_))))))))
           · refine aC (zM h (fun (v111:Bool)=>[(0,aY p0),(2,I p2),(8,Bo (p1==0)),(9,aY p0),(40,Bo v111)]) (fun (v111:Bool)=>[]) (fun v111 h=>?_) fun _ _ hK113 h=>?_)
             · refine zB rfl h (fun _ h=>?_) fun _ h=>?_
               · exact ag fun _ hK115=>aa (za rfl (zQ hK115 (aa (zm rfl (zd hr h fun hg116 h=>an (gO rfl rfl hg116.1 hg116.2) rfl (za rfl (ao (hK10 _ _ _ h rfl))))))))
               · refine zM h (fun (v117:Bool)=>[(0,aY p0),(2,I p2),(8,Bo (p1==0)),(9,aY p0),(52,Bo v117)]) (fun (v117:Bool)=>[]) (fun v117 h=>?_) fun _ _ hK119 h=>?_
                 · refine zB rfl h (fun _ h=>?_) fun _ h=>?_
                   · exact ag fun _ hK121=>aa (za rfl (zQ hK121 (aa (zm rfl (zd hr h fun hg122 h=>an (gO rfl rfl hg122.1 hg122.2) rfl (za rfl (ao (hK10 _ _ _ h rfl))))))))
                   · refine ag fun _ hK123=>aa (zm rfl (an (cX rfl) rfl (zc rfl (zm rfl (zb (decide ((List.length p0:Int)≥3)) (fun hb124=>?_) fun hb124=>?_)))))
                     · refine z1 hb124 h fun h=>zG hb124 rfl (au rfl) (ze hr h fun b125 h126 h127 h128 h=>zG hb124 rfl (dL rfl rfl h126 h128) (zK hb124 rfl hp hr h [] Tryz.call250 (dw (b125.toNat:Int)) rfl (fun _=>rfl) fun y129 h=>zG hb124 rfl (bg rfl rfl rfl) (zy hb124 rfl (za rfl (zQ hK123 (zB rfl h (fun _ h=>?_) fun _ h=>?_))))))
                       · exact ag fun _ hK131=>aa (za rfl (zQ hK131 (aa (zm rfl (zd hr h fun hg132 h=>an (gO rfl rfl hg132.1 hg132.2) rfl (za rfl (ao (hK10 _ _ _ h rfl))))))))
                       · exact ag fun _ hK133=>aa (za rfl (zQ hK133 (aa (zm rfl (zd hr h fun hg134 h=>an (gO rfl rfl hg134.1 hg134.2) rfl (za rfl (ao (hK10 _ _ _ h rfl))))))))
                     · refine z2 hb124 h fun h=>zg hb124 rfl (zg hb124 rfl (zg hb124 rfl (zg hb124 rfl (zw hb124 rfl (za rfl (zQ hK123 (cN rfl (fun hc=>?_) (fun hc=>?_))))))))
                       · exact absurd (hc) (by simp)
                       · exact ag fun _ hK135=>aa (za rfl (zQ hK135 (aa (zm rfl (zd hr h fun hg136 h=>an (gO rfl rfl hg136.1 hg136.2) rfl (za rfl (ao (hK10 _ _ _ h rfl))))))))
                 · refine aa (zm rfl (an (cX rfl) rfl (zc rfl (zm rfl (zb (decide ((List.length p0:Int)≥3)) (fun hb137=>?_) fun hb137=>?_)))))
                   · exact z1 hb137 h fun h=>zG hb137 rfl (au rfl) (ze hr h fun b138 h139 h140 h141 h=>zG hb137 rfl (dL rfl rfl h139 h141) (zK hb137 rfl hp hr h [] Tryz.call250 (dw (b138.toNat:Int)) rfl (fun _=>rfl) fun y142 h=>zG hb137 rfl (bg rfl rfl rfl) (zy hb137 rfl (za rfl (ao (hK119 _ _ _ h rfl))))))
                   · exact z2 hb137 h fun h=>zg hb137 rfl (zg hb137 rfl (zg hb137 rfl (zg hb137 rfl (zw hb137 rfl (za rfl (ao (hK119 _ _ _ h rfl)))))))
             · refine aa (zm rfl (an (cX rfl) rfl (zc rfl (zm rfl (zb (decide ((List.length p0:Int)≥3)) (fun hb143=>?_) fun hb143=>?_)))))
               · exact z1 hb143 h fun h=>zG hb143 rfl (au rfl) (ze hr h fun b144 h145 h146 h147 h=>zG hb143 rfl (dL rfl rfl h145 h147) (zK hb143 rfl hp hr h [] Tryz.call250 (dw (b144.toNat:Int)) rfl (fun _=>rfl) fun y148 h=>zG hb143 rfl (bg rfl rfl rfl) (zy hb143 rfl (za rfl (ao (hK113 _ _ _ h rfl))))))
               · exact z2 hb143 h fun h=>zg hb143 rfl (zg hb143 rfl (zg hb143 rfl (zg hb143 rfl (zw hb143 rfl (za rfl (ao (hK113 _ _ _ h rfl)))))))
           · exact ar (hK10 _ _ _ h rfl)
         · refine ag fun _ hK149=>aa (an (oN rfl) rfl ?_)
           exact za rfl (za rfl (zQ hK149 (aw (zX (.cons (ay rfl) (.cons (ay rfl) .nil)) h rfl))))
     · refine aa (zm rfl (zc rfl (zm rfl (zb (decide (2≤p1)) (fun hb150=>?_) fun hb150=>?_))))
       · exact z1 hb150 h fun h=>zG hb150 rfl (au rfl) (zG hb150 rfl (bg rfl rfl rfl) (zy hb150 rfl (za rfl (ao (hK100 _ _ _ h rfl)))))
       · exact z2 hb150 h fun h=>zg hb150 rfl (zg hb150 rfl (zw hb150 rfl (za rfl (ao (hK100 _ _ _ h rfl)))))
def jL (n:Nat) (p0:(List UInt8)) (p1:Int) (p2:Int):aq (Int×Bool):=
 aq.bind (iw n p0 p1 p2) fun y3=>br (y3.2 !=0) (aq.bind (my ([80,97,114,115,101,85,105,110,116]:List UInt8) p0 p1 p2 y3.2) fun y8=>.ok (y3.1,y8)) (.ok (y3.1,false))
theorem rC (n:Nat) (p0:(List UInt8)) (p1:Int) (p2:Int):CT Tryz.prog 234 [aY p0,I p1,I p2] [] (jL n p0 p1 p2) (fun x=>.fH [Sc (.int .u64 x.1),Oe 216 x.2]) (fun _=>[]):=by
 refine zC Tryz.func234 rfl fun r hp h hr E hE=>ag fun _ hK1=>aa (za rfl (za rfl (zQ hK1 (ag fun _ hK2=>aa (zm rfl (zm rfl (zm rfl (iQ hr h [] Tryz.call228 (pC n p0 p1 p2) ⟨rfl,rfl,rfl,rfl,rfl,rfl,trivial⟩ rfl (fun _=>⟨rfl,rfl,CA rfl⟩) (fun _=>⟨Eh,rfl⟩) hp (fun y3 h=>?_)))))))))
 refine zm rfl (zx rfl (zx rfl (za rfl (za rfl (zQ hK2 (ag fun _ hK4=>ag fun _ hK5=>aa (zm rfl (an (Ei rfl) rfl (zQ hK5 (zB rfl h (fun _ h=>?_) fun _ h=>?_))))))))))
 · refine ag fun _ hK7=>aa (zm rfl (zm rfl (zm rfl (zm rfl (zm rfl (iQ hr h [] Tryz.call191 (su ([80,97,114,115,101,85,105,110,116]:List UInt8) p0 p1 p2 y3.2) ⟨rfl,rfl,(by simp[AV.fM.kX,AV.fM,zF]<;>rfl),rfl,rfl,rfl,trivial⟩ rfl (fun _=>⟨rfl,rfl,Bx⟩) (fun _=>⟨Cz,rfl⟩) hp (fun y8 h=>?_)))))))
   exact za rfl (za rfl (zQ hK7 (aw (zX (.cons (ay rfl) (.cons (ay rfl) .nil)) h rfl))))
 · exact ar (hK4 _ _ (ag fun _ hK9=>aa (zm rfl (za rfl (za rfl (zQ hK9 (aw (zX (.cons (ay rfl) (.cons (ay rfl) .nil)) h rfl))))))))
def la (n:Nat) (p0:(List UInt8)):aq (Int×Int):=
 br (decide ((List.length p0:Int)<2)) (.ok (0,0)) (el p0 1 fun b8=>jn (fun (v12:Bool)=>br v12 (el p0 1 fun b17=>.ok ((b17.toNat:Int),2)) (br ((b8.toNat:Int)==110) (.ok (10,2)) (br ((b8.toNat:Int)==116) (.ok (9,2)) (br ((b8.toNat:Int)==114) (.ok (13,2)) (br ((b8.toNat:Int)==120) (br (decide ((List.length p0:Int)<4)) (.ok (0,0)) (gd ((0:Int)≤2∧(2:Int)≤4∧4≤(List.length p0:Int)) (aq.bind (jL n (sub p0 2 4) 16 8) fun y38=>br y38.2 (.ok (0,0)) (.ok (IntKind.wrap .u8 y38.1,4))))) (.ok (0,0))))))) fun j13=>br ((b8.toNat:Int)==34) (j13 (((b8.toNat:Int)==34))) (j13 (((b8.toNat:Int)==92))))
theorem s4 (n:Nat) (p0:(List UInt8)):CT Tryz.prog 197 [aY p0] [] (la n p0) (fun x=>.fH [Sc (.int .u8 x.1),I x.2]) (fun _=>[]):=by
 refine zC Tryz.func197 rfl fun r hp h hr E hE=>ag fun _ hK1=>aa (za rfl (za rfl (zQ hK1 (ag fun _ hK2=>ag fun _ hK3=>aa (zm rfl (an (cX rfl) rfl (zc rfl (zQ hK3 (zB rfl h (fun _ h=>?_) fun _ h=>?_)))))))))
 · exact ag fun _ hK5=>aa (za rfl (za rfl (zQ hK5 (aw (zX (.cons (ay rfl) (.cons (ay rfl) .nil)) h rfl)))))
 · refine ar (hK2 _ _ (ag fun _ hK6=>ag fun _ hK7=>aa (zm rfl (ze hr h fun b8 h9 h10 h11 h=>an (dL rfl rfl h9 h11) rfl (zQ hK7 (aC (zM h (fun (v12:Bool)=>[(0,aY p0),(10,Sc (.int .u8 (b8.toNat:Int))),(11,Bo v12)]) (fun (v12:Bool)=>[]) (fun v12 h=>?_) fun _ _ hK14 h=>?_)))))))
   · refine zB rfl h (fun _ h=>?_) fun _ h=>?_
     · exact ag fun _ hK16=>aa (zm rfl (ze hr h fun b17 h18 h19 h20 h=>an (dL rfl rfl h18 h20) rfl (za rfl (za rfl (zQ hK16 (aw (zX (.cons (ay rfl) (.cons (ay rfl) .nil)) h rfl)))))))
     · refine ag fun _ hK21=>aa (zc rfl (za rfl (zQ hK21 (zB rfl h (fun _ h=>?_) fun _ h=>?_))))
       · exact ag fun _ hK23=>aa (za rfl (za rfl (zQ hK23 (aw (zX (.cons (ay rfl) (.cons (ay rfl) .nil)) h rfl)))))
       · refine ag fun _ hK24=>aa (zc rfl (za rfl (zQ hK24 (zB rfl h (fun _ h=>?_) fun _ h=>?_))))
         · exact ag fun _ hK26=>aa (za rfl (za rfl (zQ hK26 (aw (zX (.cons (ay rfl) (.cons (ay rfl) .nil)) h rfl)))))
         · refine ag fun _ hK27=>aa (zc rfl (za rfl (zQ hK27 (zB rfl h (fun _ h=>?_) fun _ h=>?_))))
           · exact ag fun _ hK29=>aa (za rfl (za rfl (zQ hK29 (aw (zX (.cons (ay rfl) (.cons (ay rfl) .nil)) h rfl)))))
           · refine ag fun _ hK30=>aa (zc rfl (za rfl (zQ hK30 (zB rfl h (fun _ h=>?_) fun _ h=>?_))))
             · refine ag fun _ hK32=>ag fun _ hK33=>aa (zm rfl (an (cX rfl) rfl (zc rfl (zQ hK33 (zB rfl h (fun _ h=>?_) fun _ h=>?_)))))
               · exact ag fun _ hK35=>aa (za rfl (za rfl (zQ hK35 (aw (zX (.cons (ay rfl) (.cons (ay rfl) .nil)) h rfl)))))
               · refine ar (hK32 _ _ (ag fun _ hK36=>aa (zm rfl (zd hr h fun hg37 h=>an (uj rfl rfl rfl hg37.1 hg37.2.1 hg37.2.2) rfl (iQ hr h [] Tryz.call234 (rC n (sub p0 2 4) 16 8) ⟨rfl,rfl,rfl,rfl,rfl,rfl,trivial⟩ rfl (fun _=>⟨rfl,rfl,zr rfl⟩) (fun _=>⟨Bs,rfl⟩) hp (fun y38 h=>?_))))))
                 refine zm rfl (zx rfl (zx rfl (za rfl (za rfl (zQ hK36 (ag fun _ hK39=>ag fun _ hK40=>aa (zm rfl (an (Bh rfl) rfl (zQ hK40 (zB rfl h (fun _ h=>?_) fun _ h=>?_))))))))))
                 · exact ag fun _ hK42=>aa (za rfl (za rfl (zQ hK42 (aw (zX (.cons (ay rfl) (.cons (ay rfl) .nil)) h rfl)))))
                 · exact ar (hK39 _ _ (ag fun _ hK43=>aa (zm rfl (an (lL rfl) rfl (za rfl (za rfl (zQ hK43 (aw (zX (.cons (ay rfl) (.cons (ay rfl) .nil)) h rfl)))))))))
             · exact ar (hK6 _ _ (ag fun _ hK44=>aa (za rfl (za rfl (zQ hK44 (aw (zX (.cons (ay rfl) (.cons (ay rfl) .nil)) h rfl)))))))
   · refine ag fun _ hK45=>aa (zc rfl (za rfl (zQ hK45 (zB rfl h (fun _ h=>?_) fun _ h=>?_))))
     · exact ar (hK14 _ _ _ h rfl)
     · exact aa (zc rfl (za rfl (ao (hK14 _ _ _ h rfl))))
def ky (n:Nat) (p0:(List UInt8)):aq ((List UInt8)×eb):=
 br (decide ((List.length p0:Int)>65536)) (.ok (([]:List UInt8),(eb.mk 2 0))) (br ((List.length p0:Int)==0) (.ok (([]:List UInt8),(eb.mk 8 0))) (el p0 0 fun b10=>br ((b10.toNat:Int) !=34) (.ok (([]:List UInt8),(eb.mk 8 0))) (iter (fun next21 (v20:(List Int)×Int)=>br (decide (v20.2≥(List.length p0:Int))) (.ok (([]:List UInt8),(eb.mk 8 (List.length p0:Int)))) (el p0 v20.2 fun b27=>br ((b27.toNat:Int)==34) (gd (bA (v20.2+1)) (br (decide ((v20.2+1)<(List.length p0:Int))) (gd (bA (v20.2+1)) (.ok (([]:List UInt8),(eb.mk 8 (v20.2+1))))) (.ok (jK v20.1,(eb.mk 0 0))))) (el p0 v20.2 fun b40=>br ((b40.toNat:Int)==92) (gd ((0:Int)≤v20.2∧v20.2≤(List.length p0:Int)) (aq.bind (la n (dO p0 v20.2)) fun y47=>br (y47.2==0) (.ok (([]:List UInt8),(eb.mk 8 v20.2))) (gd (cB 1 (List.length v20.1) (List.length [y47.1])) (gd (bA (v20.2+y47.2)) (next21 (v20.1++[y47.1],v20.2+y47.2)))))) (jn (fun (v55:Bool)=>br v55 (.ok (([]:List UInt8),(eb.mk 8 v20.2))) (el p0 v20.2 fun b61=>gd (cB 1 (List.length v20.1) (List.length [(b61.toNat:Int)])) (gd (bA (v20.2+1)) (next21 (v20.1++[(b61.toNat:Int)],v20.2+1))))) fun j56=>el p0 v20.2 fun b67=>br (decide ((b67.toNat:Int)<32)) (j56 (true)) (el p0 v20.2 fun b72=>j56 ((decide ((b72.toNat:Int)>126)))))))) n ([],1))))
theorem p7 (n:Nat) (p0:(List UInt8)):CT Tryz.prog 145 [aY p0] [] (ky n p0) (fun x=>.fH [aY x.1,.agg [I x.2.Errno,I x.2.At]]) (fun _=>[]):=by
 refine zC Tryz.func145 rfl fun r hp h hr E hE=>ag fun _ hK1=>aa (za rfl (aL 103 (hE _ rfl) ⟨rfl,rfl,rfl,rfl⟩ rfl ?_))
 refine zQ hK1 (xx ?_)
 refine ag fun _ hK2=>ag fun _ hK3=>aa (zm rfl (an (cX rfl) rfl (zc rfl (zQ hK3 (zB rfl h (fun _ h=>?_) fun _ h=>?_)))))
 · refine ag fun _ hK5=>aa (an (bE rfl rfl rfl) rfl ?_)
   exact za rfl (zs rfl (zQ hK5 (aw (zX (.cons (ay rfl) (.cons (aT rfl rfl rfl) .nil)) h rfl))))
 · refine ar (hK2 _ _ (ag fun _ hK6=>ag fun _ hK7=>aa (zm rfl (an (cX rfl) rfl (zc rfl (zm rfl (zb ((List.length p0:Int)==0) (fun hb8=>?_) fun hb8=>?_)))))))
   · refine z1 hb8 h fun h=>zg hb8 rfl (zg hb8 rfl (zg hb8 rfl (zy hb8 rfl (zQ hK7 (cN rfl (fun hc=>?_) (fun hc=>?_))))))
     · refine ag fun _ hK9=>aa (an (bE rfl rfl rfl) rfl ?_)
       exact za rfl (zs rfl (zQ hK9 (aw (zX (.cons (ay rfl) (.cons (aT rfl rfl rfl) .nil)) h rfl))))
     · exact absurd (hc) (by simp)
   · refine z2 hb8 h fun h=>zG hb8 rfl (au rfl) (ze hr h fun b10 h11 h12 h13 h=>zG hb8 rfl (dL rfl rfl h11 h13) (zG hb8 rfl (bg rfl rfl rfl) (zw hb8 rfl (zQ hK7 (zB rfl h (fun _ h=>?_) fun _ h=>?_)))))
     · refine ag fun _ hK15=>aa (an (bE rfl rfl rfl) rfl ?_)
       exact za rfl (zs rfl (zQ hK15 (aw (zX (.cons (ay rfl) (.cons (aT rfl rfl rfl) .nil)) h rfl))))
     · refine ar (hK6 _ _ (ag fun _ hK16=>aa (za rfl (zQ hK16 (ag fun _ hK17=>aa (za rfl (zQ hK17 (ag fun _ hK18=>w8 ?_))))))))
       refine hK18 _ _ (ag fun _ hK19=>aC (bQ (r5 (d:=4) 10004 (sz:=1) (el:=5) (hE _ rfl) rfl ⟨rfl,rfl,rfl⟩) ?_))
       refine zL hr h (fun (v20:(List Int)×Int)=>[(0,aY p0),(3,.ptr 103 0),(4,.arr 10004 (List.length v20.1)),(5,I v20.2)]) (fun (v20:(List Int)×Int)=>[(103,.box [I 0,I 0]),(10004,.app 5 1 (r8 v20.1))]) rfl fun _ v20 _ hK22 h=>aC (aC (ag fun _ hK23=>aa (zm rfl (zm rfl (an (cX rfl) rfl (zc rfl (za rfl (zQ hK23 (zB rfl h (fun _ h=>?_) fun _ h=>?_)))))))))
       · refine ag fun _ hK25=>aa (zm rfl (an (cX rfl) rfl (an (bE rfl rfl rfl) rfl ?_)))
         exact za rfl (zs rfl (zQ hK25 (aw (zX (.cons (ay rfl) (.cons (aT rfl rfl rfl) .nil)) h rfl))))
       · refine ag fun _ hK26=>aa (zm rfl (zm rfl (ze hr h fun b27 h28 h29 h30 h=>an (dL rfl rfl h28 h30) rfl (zc rfl (za rfl (zQ hK26 (zB rfl h (fun _ h=>?_) fun _ h=>?_)))))))
         · refine bp (hK19 _ _ (ag fun _ hK32=>ag fun _ hK33=>aa (zm rfl (zd hr h fun hg34 h=>zo hg34 rfl (zm rfl (an (cX rfl) rfl (zc rfl (zQ hK33 (zB rfl h (fun _ h=>?_) fun _ h=>?_)))))))))
           · refine ag fun _ hK36=>aa (zm rfl (zd hr h fun hg37 h=>zo hg37 rfl (an (bE rfl rfl rfl) rfl ?_)))
             exact za rfl (zs rfl (zQ hK36 (aw (zX (.cons (ay rfl) (.cons (aT rfl rfl rfl) .nil)) h rfl))))
           · refine ar (hK32 _ _ (ag fun _ hK38=>aa (an (lM kg mV rfl rfl rfl) rfl ?_)))
             refine an (zq rfl rfl) rfl (an (bE rfl rfl rfl) rfl ?_)
             exact za rfl (zs rfl (zQ hK38 (aw (zX (.cons (ay rfl) (.cons (aT rfl rfl rfl) .nil)) h rfl))))
         · refine ag fun _ hK39=>aa (zm rfl (zm rfl (ze hr h fun b40 h41 h42 h43 h=>an (dL rfl rfl h41 h43) rfl (zc rfl (za rfl (zQ hK39 (zB rfl h (fun _ h=>?_) fun _ h=>?_)))))))
           · refine ag fun _ hK45=>aa (zm rfl (zm rfl (zd hr h fun hg46 h=>an (gO rfl rfl hg46.1 hg46.2) rfl (zk hp hr h [] Tryz.call197 (s4 n (dO p0 v20.2)) rfl (fun _=>rfl) fun y47 h=>zm rfl (zx rfl (zx rfl (za rfl (za rfl (zQ hK45 (ag fun _ hK48=>ag fun _ hK49=>aa (zm rfl (zc rfl (zQ hK49 (zB rfl h (fun _ h=>?_) fun _ h=>?_))))))))))))))
             · refine ag fun _ hK51=>aa (zm rfl (an (bE rfl rfl rfl) rfl ?_))
               exact za rfl (zs rfl (zQ hK51 (aw (zX (.cons (ay rfl) (.cons (aT rfl rfl rfl) .nil)) h rfl))))
             · refine ar (hK48 _ _ (ag fun _ hK52=>aa (zm rfl (zm rfl (bR [y47.1] kg ⟨rfl,rfl⟩ rfl ?_)))))
               refine zd hr h fun hg53 h=>lE 161 ⟨jH.h,eu.h,kg,mV,tQ,hE _ rfl,rfl,rfl,(.inl rfl),⟨rfl,rfl,rfl⟩,hg53⟩ rfl ?_
               refine za rfl (aS (kn 161 10004 [(0,aY p0),(3,.ptr 103 0),(4,.arr 10004 (List.length (v20.1++[y47.1]))),(5,I v20.2),(7,I y47.2)] [(103,.box [I 0,I 0])] (hE _ rfl) rfl rfl ⟨rfl,rfl⟩ ⟨⟨_,rfl,rfl,rfl⟩,⟨_,rfl,rfl,rfl⟩,⟨_,rfl,rfl,rfl⟩,⟨_,rfl,rfl,rfl⟩,⟨_,rfl,rfl,rfl⟩,trivial⟩ ⟨⟨_,rfl,rfl,rfl,rfl,rfl⟩,trivial⟩) ?_)
               exact zQ hK52 (aa (zm rfl (zm rfl (zd hr h fun hg54 h=>zo hg54 rfl (za rfl (ao (hK22 _ _ _ h rfl)))))))
           · refine zM h (fun (v55:Bool)=>[(0,aY p0),(3,.ptr 103 0),(4,.arr 10004 (List.length v20.1)),(5,I v20.2),(65,Bo v55)]) (fun (v55:Bool)=>[(103,.box [I 0,I 0]),(10004,.app 5 1 (r8 v20.1))]) (fun v55 h=>?_) fun _ _ hK57 h=>?_
             · refine zB rfl h (fun _ h=>?_) fun _ h=>?_
               · refine ag fun _ hK59=>aa (zm rfl (an (bE rfl rfl rfl) rfl ?_))
                 exact za rfl (zs rfl (zQ hK59 (aw (zX (.cons (ay rfl) (.cons (aT rfl rfl rfl) .nil)) h rfl))))
               · refine ag fun _ hK60=>aa (zm rfl (zm rfl (zm rfl (ze hr h fun b61 h62 h63 h64 h=>an (dL rfl rfl h62 h64) rfl (bR [(b61.toNat:Int)] kg ⟨rfl,rfl⟩ rfl ?_)))))
                 refine zd hr h fun hg65 h=>lE 126 ⟨jH.h,eu.h,kg,mV,tQ,hE _ rfl,rfl,rfl,(.inl rfl),⟨rfl,rfl,rfl⟩,hg65⟩ rfl ?_
                 refine za rfl (aS (kn 126 10004 [(0,aY p0),(3,.ptr 103 0),(4,.arr 10004 (List.length (v20.1++[(b61.toNat:Int)]))),(5,I v20.2)] [(103,.box [I 0,I 0])] (hE _ rfl) rfl rfl ⟨rfl,rfl⟩ ⟨⟨_,rfl,rfl,rfl⟩,⟨_,rfl,rfl,rfl⟩,⟨_,rfl,rfl,rfl⟩,⟨_,rfl,rfl,rfl⟩,trivial⟩ ⟨⟨_,rfl,rfl,rfl,rfl,rfl⟩,trivial⟩) ?_)
                 exact zQ hK60 (aa (zm rfl (zd hr h fun hg66 h=>zo hg66 rfl (za rfl (ao (hK22 _ _ _ h rfl))))))
             · refine aa (zm rfl (zm rfl (ze hr h fun b67 h68 h69 h70 h=>an (dL rfl rfl h68 h70) rfl (zc rfl (zm rfl (zb (decide ((b67.toNat:Int)<32)) (fun hb71=>?_) fun hb71=>?_))))))
               · exact z1 hb71 h fun h=>zg hb71 rfl (zg hb71 rfl (zg hb71 rfl (zg hb71 rfl (zy hb71 rfl (za rfl (ao (hK57 _ _ _ h rfl)))))))
               · exact z2 hb71 h fun h=>zG hb71 rfl (au rfl) (zG hb71 rfl (au rfl) (ze hr h fun b72 h73 h74 h75 h=>zG hb71 rfl (dL rfl rfl h73 h75) (zG hb71 rfl (bg rfl rfl rfl) (zw hb71 rfl (za rfl (ao (hK57 _ _ _ h rfl)))))))
def jY (p0:(List Int)) (p1:(List aQ)) (p2:Int):aq ((List Int)×(List aQ)×Int):=
 br (decide ((List.length p0:Int)>0)) (gd (cB 32 (List.length p1) (List.length [(aQ.mk (jK p0) false p2)])) (.ok ([],p1++[(aQ.mk (jK p0) false p2)],p2))) (.ok ([],p1,p2))
theorem oW (p0:(List Int)) (p1:(List aQ)) (p2:Int):CT Tryz.prog 194 [.ptr 0 0,.ptr 1 0,.ptr 2 0] [.box [.arr 3 (List.length p0)],.box [.arr 4 (List.length p1)],.box [I p2],.app 5 1 (r8 p0),.app 189 3 (aQ.Cs p1)] (jY p0 p1 p2) (fun _=>.fH []) (fun x=>[.box [.arr 3 (List.length x.1)],.box [.arr 4 (List.length x.2.1)],.box [I x.2.2],.app 5 1 (r8 x.1),.app 189 3 (aQ.Cs x.2.1)]):=by
 refine zC Tryz.func194 rfl fun r hp h hr E hE=>ag fun _ hK1=>ag fun _ hK2=>aa (an (ni kg mV rfl rfl rfl rfl rfl) rfl ?_)
 refine an (cg rfl) rfl (zc rfl (zQ hK2 (zB rfl h (fun _ h=>?_) fun _ h=>?_)))
 · refine aa (zl rfl (an (ni kg mV rfl rfl rfl rfl rfl) rfl ?_))
   refine an (zq rfl rfl) rfl (zl rfl (an (bE rfl rfl rfl) rfl ?_))
   refine bR [(aQ.mk (jK p0) false p2)] aQ.bb ⟨rfl,rfl⟩ rfl ?_
   refine zd hr h fun hg4 h=>lE 112 ⟨jH.h,eu.h,aQ.bb,aQ.bP,aQ.iS,hE _ rfl,rfl,rfl,(.inl rfl),⟨rfl,rfl,rfl⟩,hg4⟩ rfl ?_
   refine zs rfl (aS (kn 112 4 [(0,.ptr 0 0),(1,.ptr 1 0),(2,.ptr 2 0)] [(0,.box [.arr 3 (List.length p0)]),(1,.box [.arr 4 (List.length (p1++[(aQ.mk (jK p0) false p2)]))]),(2,.box [I p2]),(3,.app 5 1 (r8 p0))] (hE _ rfl) rfl rfl ⟨rfl,rfl⟩ ⟨⟨_,rfl,rfl,rfl⟩,⟨_,rfl,rfl,rfl⟩,⟨_,rfl,rfl,rfl⟩,trivial⟩ ⟨⟨_,rfl,rfl,rfl,rfl,rfl⟩,⟨_,rfl,rfl,rfl,rfl,rfl⟩,⟨_,rfl,rfl,rfl,rfl,rfl⟩,⟨_,rfl,rfl,rfl,rfl,rfl⟩,trivial⟩) ?_)
   refine zQ hK1 (aa (zs rfl (aS (eH.wZ [(0,.ptr 0 0),(1,.ptr 1 0),(2,.ptr 2 0)] [(0,.box [Sc (.slice none 0 0)]),(1,.box [.arr 4 (List.length (p1++[(aQ.mk (jK p0) false p2)]))]),(2,.box [I p2]),(4,.app 189 3 (aQ.Cs (p1++[(aQ.mk (jK p0) false p2)])))] ⟨rfl,rfl,rfl,trivial⟩ ⟨rfl,rfl,rfl,rfl,trivial⟩) ?_)))
   refine aS (rn (j:=0) (off:=0) 3 (sz:=1) (el:=5) (hE _ rfl) rfl rfl ⟨rfl,rfl,rfl⟩ rfl) ?_
   exact ao (zY .nil h rfl)
 · refine ar (hK1 _ _ (aa (zs rfl (aS (eH.wZ [(0,.ptr 0 0),(1,.ptr 1 0),(2,.ptr 2 0)] [(0,.box [Sc (.slice none 0 0)]),(1,.box [.arr 4 (List.length p1)]),(2,.box [I p2]),(4,.app 189 3 (aQ.Cs p1))] ⟨rfl,rfl,rfl,trivial⟩ ⟨rfl,rfl,rfl,rfl,trivial⟩) ?_))))
   refine aS (rn (j:=0) (off:=0) 3 (sz:=1) (el:=5) (hE _ rfl) rfl rfl ⟨rfl,rfl,rfl⟩ rfl) ?_
   exact ao (zY .nil h rfl)
def pD (n:Nat) (p0:(List UInt8)):aq ((List UInt8)×Bool):=
 iter (fun next6 (v5:Int×Int)=>br (decide (v5.2<(List.length p0:Int))) (el p0 v5.2 fun b14=>br ((b14.toNat:Int)==40) (gd (bA (v5.1+1)) (gd (bA (v5.2+1)) (next6 (v5.1+1,v5.2+1)))) (br ((b14.toNat:Int)==41) (gd (bA (v5.1 - 1)) (br ((v5.1 - 1)==0) (gd ((0:Int)≤1∧(1:Int)≤v5.2∧v5.2≤(List.length p0:Int)) (.ok (sub p0 1 v5.2,true))) (gd (bA (v5.2+1)) (next6 (v5.1 - 1,v5.2+1))))) (gd (bA (v5.2+1)) (next6 (v5.1,v5.2+1))))) (.ok (([]:List UInt8),false))) n (0,0)
theorem wH (n:Nat) (p0:(List UInt8)):CT Tryz.prog 195 [aY p0] [] (pD n p0) (fun x=>.fH [aY x.1,Bo x.2]) (fun _=>[]):=by
 refine zC Tryz.func195 rfl fun r hp h hr E hE=>ag fun _ hK1=>aa (za rfl (za rfl (zQ hK1 (ag fun _ hK2=>aa (za rfl (zQ hK2 (ag fun _ hK3=>ag fun _ hK4=>aa (zm rfl (an (cX rfl) rfl (zm rfl (zQ hK4 (aC (zL hr h (fun (v5:Int×Int)=>[(0,aY p0),(4,I v5.1),(7,I (List.length p0:Int)),(8,I v5.2)]) (fun (v5:Int×Int)=>[]) rfl fun _ v5 _ hK7 h=>ag fun _ hK8=>aa (zc rfl (zQ hK8 (ag fun _ hK9=>zB rfl h (fun _ h=>?_) fun _ h=>?_))))))))))))))))
 · refine ar (hK9 _ _ (ag fun _ hK11=>aC (ag fun _ hK12=>aa (zm rfl (za rfl (zQ hK12 (ag fun _ hK13=>aa (zm rfl (zm rfl (ze hr h fun b14 h15 h16 h17 h=>an (dL rfl rfl h15 h17) rfl (zQ hK13 (aC (ag fun _ hK18=>aa (zc rfl (za rfl (zQ hK18 (zB rfl h (fun _ h=>?_) fun _ h=>?_)))))))))))))))))
   · exact aa (zm rfl (zd hr h fun hg20 h=>zo hg20 rfl (za rfl (zQ hK11 (aa (zd hr h fun hg21 h=>zo hg21 rfl (zm rfl (ao (hK7 _ _ _ h rfl)))))))))
   · refine ag fun _ hK22=>aa (zc rfl (za rfl (zQ hK22 (zB rfl h (fun _ h=>?_) fun _ h=>?_))))
     · refine ag fun _ hK24=>aa (zm rfl (zd hr h fun hg25 h=>an (pX rfl rfl hg25) rfl (za rfl (zQ hK24 (ag fun _ hK26=>aa (zm rfl (zc rfl (zQ hK26 (zB rfl h (fun _ h=>?_) fun _ h=>?_)))))))))
       · exact ag fun _ hK28=>aa (zm rfl (zm rfl (zd hr h fun hg29 h=>an (uj rfl rfl rfl hg29.1 hg29.2.1 hg29.2.2) rfl (za rfl (za rfl (zQ hK28 (aw (zX (.cons (ay rfl) (.cons (ay rfl) .nil)) h rfl))))))))
       · exact ar (hK11 _ _ (aa (zd hr h fun hg30 h=>zo hg30 rfl (zm rfl (ao (hK7 _ _ _ h rfl))))))
     · exact ar (hK11 _ _ (aa (zd hr h fun hg31 h=>zo hg31 rfl (zm rfl (ao (hK7 _ _ _ h rfl))))))
 · exact bp (hK3 _ _ (ag fun _ hK32=>aa (za rfl (za rfl (zQ hK32 (aw (zX (.cons (ay rfl) (.cons (ay rfl) .nil)) h rfl)))))))
def mZ (n:Nat) (p0:(List UInt8)):aq (Int×Int):=
 jn (fun (v3:Int)=>br (decide ((List.length p0:Int)<v3)) (.ok (0,0)) (gd ((0:Int)≤v3∧v3≤(List.length p0:Int)) (gd (cM ([34]:List UInt8) (jJ p0 v3)) (gd (cM (([34]:List UInt8)++(jJ p0 v3)) ([34]:List UInt8)) (aq.bind (ky n ((([34]:List UInt8)++(jJ p0 v3))++([34]:List UInt8))) fun y14=>br (y14.2.Errno !=0) (.ok (0,0)) (el y14.1 0 fun b20=>.ok ((b20.toNat:Int),v3))))))) fun j4=>aq.bind (strings_HasPrefix p0 ([92,120]:List UInt8)) fun y25=>br y25 (j4 (4)) (j4 (2))
theorem uJ (n:Nat) (p0:(List UInt8)):CT Tryz.prog 196 [aY p0] [] (mZ n p0) (fun x=>.fH [Sc (.int .u8 x.1),I x.2]) (fun _=>[]):=by
 refine zC Tryz.func196 rfl fun r hp h hr E hE=>ag fun _ hK1=>aa (za rfl (za rfl (zQ hK1 (ag fun _ hK2=>aa (za rfl (zQ hK2 (zM h (fun (v3:Int)=>[(0,aY p0),(4,I v3)]) (fun (v3:Int)=>[]) (fun v3 h=>?_) fun _ _ hK5 h=>?_)))))))
 · refine ag fun _ hK6=>ag fun _ hK7=>aa (zm rfl (an (cX rfl) rfl (zm rfl (zc rfl (zQ hK7 (zB rfl h (fun _ h=>?_) fun _ h=>?_))))))
   · exact ag fun _ hK9=>aa (za rfl (za rfl (zQ hK9 (aw (zX (.cons (ay rfl) (.cons (ay rfl) .nil)) h rfl)))))
   · refine ar (hK6 _ _ (ag fun _ hK10=>aa (zm rfl (zm rfl (zd hr h fun hg11 h=>an (pg rfl rfl hg11.1 hg11.2) rfl (zd hr h fun hg12 h=>an (oh rfl rfl hg12) rfl (zd hr h fun hg13 h=>an (oh rfl rfl hg13) rfl (zk hp hr h [] Tryz.call145 (p7 n ((([34]:List UInt8)++(jJ p0 v3))++([34]:List UInt8))) rfl (fun _=>rfl) fun y14 h=>zm rfl (zx rfl (zx rfl (aL 106 (hE _ rfl) ⟨rfl,rfl,rfl,rfl⟩ rfl ?_)))))))))))
     refine za rfl (zs rfl (zQ hK10 (ag fun _ hK15=>ag fun _ hK16=>aa (zf rfl (zl rfl (zc rfl (zQ hK16 (zB rfl h (fun _ h=>?_) fun _ h=>?_))))))))
     · exact ag fun _ hK18=>aa (za rfl (za rfl (zQ hK18 (aw (zX (.cons (ay rfl) (.cons (ay rfl) .nil)) h rfl)))))
     · exact ar (hK15 _ _ (ag fun _ hK19=>aa (zm rfl (ze hr h fun b20 h21 h22 h23 h=>an (dL rfl rfl h21 h23) rfl (zm rfl (za rfl (za rfl (zQ hK19 (aw (zX (.cons (ay rfl) (.cons (ay rfl) .nil)) h rfl))))))))))
 · refine ag fun _ hK24=>aa (zm rfl (zk hp hr h [] Tryz.call95 (iI p0 ([92,120]:List UInt8)) rfl (fun _=>rfl) fun y25 h=>zQ hK24 (zB rfl h (fun _ h=>?_) fun _ h=>?_)))
   · exact aa (za rfl (ao (hK5 _ _ _ h rfl)))
   · exact ar (hK5 _ _ _ h rfl)
def lf (n:Nat) (p0:(List UInt8)):aq ((List aQ)×eb):=
 iter (fun next9 (v8:(List aQ)×(List Int)×Int×Int)=>br (decide (v8.2.2.2<(List.length p0:Int))) (jn (fun (v14:Int)=>gd ((0:Int)≤v8.2.2.2∧v8.2.2.2≤(List.length p0:Int)) (aq.bind (strings_HasPrefix (dO p0 v8.2.2.2) ([92,40]:List UInt8)) fun y19=>br y19 (gd (bA (v8.2.2.2+1)) (gd ((0:Int)≤(v8.2.2.2+1)∧(v8.2.2.2+1)≤(List.length p0:Int)) (aq.bind (pD n (dO p0 (v8.2.2.2+1))) fun y24=>br (!y24.2) (.ok ([],(eb.mk 8 v8.2.2.2))) (aq.bind (jY v8.2.1 v8.1 v14) fun y30=>gd (bA (v8.2.2.2+2)) (gd (cB 32 (List.length y30.2.1) (List.length [(aQ.mk y24.1 true (v8.2.2.2+2))])) (gd (bA ((List.length y24.1:Int)+3)) (gd (bA (v8.2.2.2+((List.length y24.1:Int)+3))) (next9 (y30.2.1++[(aQ.mk y24.1 true (v8.2.2.2+2))],y30.1,y30.2.2,v8.2.2.2+((List.length y24.1:Int)+3)))))))))) (el p0 v8.2.2.2 fun b37=>br ((b37.toNat:Int)==92) (gd ((0:Int)≤v8.2.2.2∧v8.2.2.2≤(List.length p0:Int)) (aq.bind (mZ n (dO p0 v8.2.2.2)) fun y44=>br (y44.2==0) (.ok ([],(eb.mk 8 v8.2.2.2))) (gd (cB 1 (List.length v8.2.1) (List.length [y44.1])) (gd (bA (v8.2.2.2+y44.2)) (next9 (v8.1,v8.2.1++[y44.1],v14,v8.2.2.2+y44.2)))))) (jn (fun (v52:Bool)=>br v52 (.ok ([],(eb.mk 8 v8.2.2.2))) (el p0 v8.2.2.2 fun b58=>gd (cB 1 (List.length v8.2.1) (List.length [(b58.toNat:Int)])) (gd (bA (v8.2.2.2+1)) (next9 (v8.1,v8.2.1++[(b58.toNat:Int)],v14,v8.2.2.2+1))))) fun j53=>el p0 v8.2.2.2 fun b64=>br (decide ((b64.toNat:Int)<32)) (j53 (true)) (el p0 v8.2.2.2 fun b69=>br (decide ((b69.toNat:Int)>126)) (j53 (true)) (el p0 v8.2.2.2 fun b74=>j53 (((b74.toNat:Int)==34)))))))) fun j15=>br ((List.length v8.2.1:Int)==0) (j15 (v8.2.2.2)) (j15 (v8.2.2.1))) (aq.bind (jY v8.2.1 v8.1 v8.2.2.1) fun y81=>.ok (y81.2.1,(eb.mk 0 0)))) n ([],[],0,0)
theorem qY (n:Nat) (p0:(List UInt8)):CT Tryz.prog 144 [aY p0] [] (lf n p0) (fun x=>.fH [.pv (.sl (List.length x.1) (aQ.Cs x.1)),.agg [I x.2.Errno,I x.2.At]]) (fun _=>[]):=by
 refine zC Tryz.func144 rfl fun r hp h hr E hE=>ag fun _ hK1=>aa (za rfl (aL 103 (hE _ rfl) ⟨rfl,rfl,rfl,rfl⟩ rfl ?_))
 refine zQ hK1 (ag fun _ hK2=>aa (aL 104 (hE _ rfl) ⟨rfl,rfl,rfl,rfl⟩ rfl ?_))
 refine zQ hK2 (ag fun _ hK3=>aa (aL 105 (hE _ rfl) ⟨rfl,rfl,rfl,rfl⟩ rfl ?_))
 refine zQ hK3 (ag fun _ hK4=>aa (aL 106 (hE _ rfl) ⟨rfl,rfl,rfl,rfl⟩ rfl ?_))
 refine zs rfl (zQ hK4 (ag fun _ hK5=>aa (an (oO rfl rfl) rfl ?_)))
 refine za rfl (zQ hK5 (ag fun _ hK6=>ag fun _ hK7=>aa (za rfl (zQ hK7 (aC (bQ (rn (j:=104) (off:=0) 26656 (sz:=3) (el:=189) (hE _ rfl) rfl rfl ⟨rfl,rfl,rfl⟩ rfl) ?_))))))
 refine bQ (rn (j:=105) (off:=0) 26720 (sz:=1) (el:=5) (hE _ rfl) rfl rfl ⟨rfl,rfl,rfl⟩ rfl) ?_
 refine zL hr h (fun (v8:(List aQ)×(List Int)×Int×Int)=>[(0,aY p0),(3,.ptr 103 0),(4,.ptr 104 0),(5,.ptr 105 0),(6,.ptr 106 0),(7,.fn 194 [] [.ptr 105 0,.ptr 104 0,.ptr 106 0]),(8,I v8.2.2.2)]) (fun (v8:(List aQ)×(List Int)×Int×Int)=>[(103,.box [I 0,I 0]),(104,.box [.arr 26656 (List.length v8.1)]),(105,.box [.arr 26720 (List.length v8.2.1)]),(106,.box [I v8.2.2.1]),(26656,.app 189 3 (aQ.Cs v8.1)),(26720,.app 5 1 (r8 v8.2.1))]) rfl fun _ v8 _ hK10 h=>ag fun _ hK11=>ag fun _ hK12=>aa (zm rfl (zm rfl (an (cX rfl) rfl (zc rfl (zQ hK12 (zB rfl h (fun _ h=>?_) fun _ h=>?_))))))
 · refine ar (hK11 _ _ (aC (zM h (fun (v14:Int)=>[(0,aY p0),(3,.ptr 103 0),(4,.ptr 104 0),(5,.ptr 105 0),(6,.ptr 106 0),(7,.fn 194 [] [.ptr 105 0,.ptr 104 0,.ptr 106 0]),(8,I v8.2.2.2)]) (fun (v14:Int)=>[(103,.box [I 0,I 0]),(104,.box [.arr 26656 (List.length v8.1)]),(105,.box [.arr 26720 (List.length v8.2.1)]),(106,.box [I v14]),(26656,.app 189 3 (aQ.Cs v8.1)),(26720,.app 5 1 (r8 v8.2.1))]) (fun v14 h=>?_) fun _ _ hK16 h=>?_)))
   · refine aC (ag fun _ hK17=>aa (zm rfl (zm rfl (zd hr h fun hg18 h=>an (gO rfl rfl hg18.1 hg18.2) rfl (zk hp hr h [] Tryz.call95 (iI (dO p0 v8.2.2.2) ([92,40]:List UInt8)) rfl (fun _=>rfl) fun y19 h=>za rfl (zQ hK17 (zB rfl h (fun _ h=>?_) fun _ h=>?_)))))))
     · refine ag fun _ hK21=>aa (zm rfl (zm rfl (zd hr h fun hg22 h=>zo hg22 rfl (zd hr h fun hg23 h=>an (gO rfl rfl hg23.1 hg23.2) rfl (zk hp hr h [] Tryz.call195 (wH n (dO p0 (v8.2.2.2+1))) rfl (fun _=>rfl) fun y24 h=>zm rfl (zx rfl (zx rfl (za rfl (za rfl (zQ hK21 (ag fun _ hK25=>ag fun _ hK26=>aa (zm rfl (an (eG rfl) rfl (zQ hK26 (zB rfl h (fun _ h=>?_) fun _ h=>?_)))))))))))))))
       · refine ag fun _ hK28=>aa (zm rfl (an (bE rfl rfl rfl) rfl ?_))
         refine za rfl (zs rfl (zQ hK28 (bQ (xn (d:=2) rfl rfl) ?_)))
         exact aw (zX (.cons (ay rfl) (.cons (aT rfl rfl rfl) .nil)) h rfl)
       · refine ar (hK25 _ _ (ag fun _ hK29=>aa (zm rfl (iQ hr h [105,104,106,26720,26656] Tryz.call194 (oW v8.2.1 v8.1 v14) ⟨rfl,rfl,rfl,rfl,rfl,rfl,⟨hE _ rfl,⟨hE _ rfl,trivial⟩⟩⟩ rfl (fun _=>⟨rfl,rfl,rfl⟩) (fun _=>⟨rfl,rfl⟩) hp (fun y30 h=>?_)))))
         refine zQ hK29 (ag fun _ hK31=>aa (zl rfl (zm rfl (zm rfl (zd hr h fun hg32 h=>zo hg32 rfl (an (bE rfl rfl rfl) rfl ?_))))))
         refine bR [(aQ.mk y24.1 true (v8.2.2.2+2))] aQ.bb ⟨rfl,rfl⟩ rfl ?_
         refine zd hr h fun hg33 h=>lE 155 ⟨jH.h,eu.h,aQ.bb,aQ.bP,aQ.iS,hE _ rfl,rfl,rfl,(.inl rfl),⟨rfl,rfl,rfl⟩,hg33⟩ rfl ?_
         refine zs rfl (aS (kn 155 26656 [(0,aY p0),(3,.ptr 103 0),(4,.ptr 104 0),(5,.ptr 105 0),(6,.ptr 106 0),(7,.fn 194 [] [.ptr 105 0,.ptr 104 0,.ptr 106 0]),(8,I v8.2.2.2),(9,aY y24.1)] [(103,.box [I 0,I 0]),(104,.box [.arr 26656 (List.length (y30.2.1++[(aQ.mk y24.1 true (v8.2.2.2+2))]))]),(26720,.app 5 1 (r8 y30.1)),(105,.box [.arr 26720 (List.length y30.1)]),(106,.box [I y30.2.2])] (hE _ rfl) rfl rfl ⟨rfl,rfl⟩ ⟨⟨_,rfl,rfl,rfl⟩,⟨_,rfl,rfl,rfl⟩,⟨_,rfl,rfl,rfl⟩,⟨_,rfl,rfl,rfl⟩,⟨_,rfl,rfl,rfl⟩,⟨_,rfl,rfl,rfl⟩,⟨_,rfl,rfl,rfl⟩,⟨_,rfl,rfl,rfl⟩,trivial⟩ ⟨⟨_,rfl,rfl,rfl,rfl,rfl⟩,⟨_,rfl,rfl,rfl,rfl,rfl⟩,⟨_,rfl,rfl,rfl,rfl,rfl⟩,⟨_,rfl,rfl,rfl,rfl,rfl⟩,⟨_,rfl,rfl,rfl,rfl,rfl⟩,trivial⟩) ?_)
         exact zQ hK31 (aa (zm rfl (zm rfl (an (cX rfl) rfl (zd hr h fun hg34 h=>zo hg34 rfl (zd hr h fun hg35 h=>zo hg35 rfl (za rfl (ao (hK10 _ _ _ h rfl)))))))))
     · refine ag fun _ hK36=>aa (zm rfl (zm rfl (ze hr h fun b37 h38 h39 h40 h=>an (dL rfl rfl h38 h40) rfl (zc rfl (za rfl (zQ hK36 (zB rfl h (fun _ h=>?_) fun _ h=>?_)))))))
       · refine ag fun _ hK42=>aa (zm rfl (zm rfl (zd hr h fun hg43 h=>an (gO rfl rfl hg43.1 hg43.2) rfl (zk hp hr h [] Tryz.call196 (uJ n (dO p0 v8.2.2.2)) rfl (fun _=>rfl) fun y44 h=>zm rfl (zx rfl (zx rfl (za rfl (za rfl (zQ hK42 (ag fun _ hK45=>ag fun _ hK46=>aa (zm rfl (zc rfl (zQ hK46 (zB rfl h (fun _ h=>?_) fun _ h=>?_))))))))))))))
         · refine ag fun _ hK48=>aa (zm rfl (an (bE rfl rfl rfl) rfl ?_))
           refine za rfl (zs rfl (zQ hK48 (bQ (xn (d:=2) rfl rfl) ?_)))
           exact aw (zX (.cons (ay rfl) (.cons (aT rfl rfl rfl) .nil)) h rfl)
         · refine ar (hK45 _ _ (ag fun _ hK49=>aa (zl rfl (zm rfl (bR [y44.1] kg ⟨rfl,rfl⟩ rfl ?_)))))
           refine zd hr h fun hg50 h=>lE 180 ⟨jH.h,eu.h,kg,mV,tQ,hE _ rfl,rfl,rfl,(.inl rfl),⟨rfl,rfl,rfl⟩,hg50⟩ rfl ?_
           refine zs rfl (aS (kn 180 26720 [(0,aY p0),(3,.ptr 103 0),(4,.ptr 104 0),(5,.ptr 105 0),(6,.ptr 106 0),(7,.fn 194 [] [.ptr 105 0,.ptr 104 0,.ptr 106 0]),(8,I v8.2.2.2),(12,I y44.2)] [(103,.box [I 0,I 0]),(26656,.app 189 3 (aQ.Cs v8.1)),(104,.box [.arr 26656 (List.length v8.1)]),(105,.box [.arr 26720 (List.length (v8.2.1++[y44.1]))]),(106,.box [I v14])] (hE _ rfl) rfl rfl ⟨rfl,rfl⟩ ⟨⟨_,rfl,rfl,rfl⟩,⟨_,rfl,rfl,rfl⟩,⟨_,rfl,rfl,rfl⟩,⟨_,rfl,rfl,rfl⟩,⟨_,rfl,rfl,rfl⟩,⟨_,rfl,rfl,rfl⟩,⟨_,rfl,rfl,rfl⟩,⟨_,rfl,rfl,rfl⟩,trivial⟩ ⟨⟨_,rfl,rfl,rfl,rfl,rfl⟩,⟨_,rfl,rfl,rfl,rfl,rfl⟩,⟨_,rfl,rfl,rfl,rfl,rfl⟩,⟨_,rfl,rfl,rfl,rfl,rfl⟩,⟨_,rfl,rfl,rfl,rfl,rfl⟩,trivial⟩) ?_)
           exact zQ hK49 (aa (zm rfl (zm rfl (zd hr h fun hg51 h=>zo hg51 rfl (za rfl (ao (hK10 _ _ _ h rfl)))))))
       · refine zM h (fun (v52:Bool)=>[(0,aY p0),(3,.ptr 103 0),(4,.ptr 104 0),(5,.ptr 105 0),(6,.ptr 106 0),(7,.fn 194 [] [.ptr 105 0,.ptr 104 0,.ptr 106 0]),(8,I v8.2.2.2),(84,Bo v52)]) (fun (v52:Bool)=>[(103,.box [I 0,I 0]),(104,.box [.arr 26656 (List.length v8.1)]),(105,.box [.arr 26720 (List.length v8.2.1)]),(106,.box [I v14]),(26656,.app 189 3 (aQ.Cs v8.1)),(26720,.app 5 1 (r8 v8.2.1))]) (fun v52 h=>?_) fun _ _ hK54 h=>?_
         · refine zB rfl h (fun _ h=>?_) fun _ h=>?_
           · refine ag fun _ hK56=>aa (zm rfl (an (bE rfl rfl rfl) rfl ?_))
             refine za rfl (zs rfl (zQ hK56 (bQ (xn (d:=2) rfl rfl) ?_)))
             exact aw (zX (.cons (ay rfl) (.cons (aT rfl rfl rfl) .nil)) h rfl)
           · refine ag fun _ hK57=>lY [] ?_
             refine bz [0,1,2,3,4,5,6] rfl (by kernel_rfl) (zD rfl (ba rfl rfl rfl) rfl (zD rfl (au rfl) rfl (zD rfl (au rfl) rfl (ze hr h fun b58 h59 h60 h61 h=>zD rfl (dL rfl rfl h59 h61) rfl (gU [(b58.toNat:Int)] kg rfl (bM rfl) ⟨rfl,rfl⟩ ⟨rfl,rfl⟩ ?_)))))
             refine zd hr h fun hg62 h=>wx 127 rfl (bM rfl) ⟨jH.h,eu.h,kg,mV,tQ,hE _ rfl,rfl,rfl,(.inl rfl),⟨rfl,rfl,rfl⟩,hg62⟩ rfl rfl ⟨aH rfl,?_⟩
             refine bV rfl ⟨rfl,rfl,rfl,rfl,rfl,rfl,rfl,rfl⟩ rfl (fun e6 he=>⟨aH rfl,?_⟩)
             subst he
             refine fP (kn 127 26720 [(0,aY p0),(3,.ptr 103 0),(4,.ptr 104 0),(5,.ptr 105 0),(6,.ptr 106 0),(7,.fn 194 [] [.ptr 105 0,.ptr 104 0,.ptr 106 0]),(8,I v8.2.2.2)] [(103,.box [I 0,I 0]),(26656,.app 189 3 (aQ.Cs v8.1)),(104,.box [.arr 26656 (List.length v8.1)]),(105,.box [.arr 26720 (List.length (v8.2.1++[(b58.toNat:Int)]))]),(106,.box [I v14])] (hE _ rfl) rfl rfl ⟨rfl,rfl⟩ ⟨⟨_,rfl,rfl,rfl⟩,⟨_,rfl,rfl,rfl⟩,⟨_,rfl,rfl,rfl⟩,⟨_,rfl,rfl,rfl⟩,⟨_,rfl,rfl,rfl⟩,⟨_,rfl,rfl,rfl⟩,⟨_,rfl,rfl,rfl⟩,trivial⟩ ⟨⟨_,rfl,rfl,rfl,rfl,rfl⟩,⟨_,rfl,rfl,rfl,rfl,rfl⟩,⟨_,rfl,rfl,rfl,rfl,rfl⟩,⟨_,rfl,rfl,rfl,rfl,rfl⟩,⟨_,rfl,rfl,rfl,rfl,rfl⟩,trivial⟩) ?_
             exact hK57 _ _ (aa (zm rfl (zd hr h fun hg63 h=>zo hg63 rfl (za rfl (ao (hK10 _ _ _ h rfl))))))
         · refine aa (zm rfl (zm rfl (ze hr h fun b64 h65 h66 h67 h=>an (dL rfl rfl h65 h67) rfl (zc rfl (zm rfl (zb (decide ((b64.toNat:Int)<32)) (fun hb68=>?_) fun hb68=>?_))))))
           · exact z1 hb68 h fun h=>zg hb68 rfl (zg hb68 rfl (zg hb68 rfl (zg hb68 rfl (zy hb68 rfl (zm rfl (zg rfl rfl (zg rfl rfl (zg rfl rfl (zg rfl rfl (zt rfl (za rfl (ao (hK54 _ _ _ h rfl)))))))))))))
           · refine z2 hb68 h fun h=>zG hb68 rfl (au rfl) (zG hb68 rfl (au rfl) (ze hr h fun b69 h70 h71 h72 h=>zG hb68 rfl (dL rfl rfl h70 h72) (zG hb68 rfl (bg rfl rfl rfl) (zw hb68 rfl (zm rfl (zb (decide ((b69.toNat:Int)>126)) (fun hb73=>?_) fun hb73=>?_))))))
             · exact z1 hb73 h fun h=>zg hb73 rfl (zg hb73 rfl (zg hb73 rfl (zg hb73 rfl (zy hb73 rfl (za rfl (ao (hK54 _ _ _ h rfl)))))))
             · exact z2 hb73 h fun h=>zG hb73 rfl (au rfl) (zG hb73 rfl (au rfl) (ze hr h fun b74 h75 h76 h77 h=>zG hb73 rfl (dL rfl rfl h75 h77) (zG hb73 rfl (bg rfl rfl rfl) (zw hb73 rfl (za rfl (ao (hK54 _ _ _ h rfl)))))))
   · refine ag fun _ hK78=>aa (an (ni kg mV rfl rfl rfl rfl rfl) rfl ?_)
     refine an (cg rfl) rfl (zc rfl (zQ hK78 (zB rfl h (fun _ h=>?_) fun _ h=>?_)))
     · exact aa (zm rfl (zs rfl (ao (hK16 _ _ _ h rfl))))
     · exact ar (hK16 _ _ _ h rfl)
 · refine bp (hK6 _ _ (ag fun _ hK80=>aa (zm rfl (iQ hr h [105,104,106,26720,26656] Tryz.call194 (oW v8.2.1 v8.1 v8.2.2.1) ⟨rfl,rfl,rfl,rfl,rfl,rfl,⟨hE _ rfl,⟨hE _ rfl,trivial⟩⟩⟩ rfl (fun _=>⟨rfl,rfl,rfl⟩) (fun _=>⟨rfl,rfl⟩) hp (fun y81 h=>?_)))))
   refine zQ hK80 (ag fun _ hK82=>aa (an (ni aQ.bb aQ.bP rfl rfl rfl rfl rfl) rfl ?_))
   refine an (bE rfl rfl rfl) rfl ?_
   exact za rfl (zs rfl (zQ hK82 (aw (zX (.cons (ay rfl) (.cons (aT rfl rfl rfl) .nil)) h rfl))))
end Go.Abs
end
section
namespace Go.Abs
open Go.Proofs aq
def lN (n:Nat) (p0:(List UInt8)):aq (Int×Bool):=
 iter (fun next6 (v5:Bool×Int)=>br (decide (v5.2<(List.length p0:Int))) (jn (fun (v11:Bool×Int)=>gd (bA (v11.2+1)) (next6 (v11.1,v11.2+1))) fun j12=>el p0 v5.2 fun b16=>br ((b16.toNat:Int)==34) (gd (bA (v5.2+1)) (.ok (v5.2+1,v5.1))) (el p0 v5.2 fun b24=>br ((b24.toNat:Int)==92) (br v5.1 (gd (bA (v5.2+1)) (j12 (true,v5.2+1))) (gd (bA (v5.2+1)) (br (decide ((v5.2+1)<(List.length p0:Int))) (gd (bA (v5.2+1)) (el p0 (v5.2+1) fun b35=>gd (bA (v5.2+1)) (j12 (((b35.toNat:Int)==40),v5.2+1)))) (gd (bA (v5.2+1)) (j12 (false,v5.2+1)))))) (j12 (v5.1,v5.2)))) (.ok (0,false))) n (false,1)
theorem tD (n:Nat) (p0:(List UInt8)):CT Tryz.prog 143 [aY p0] [] (lN n p0) (fun x=>.fH [I x.1,Bo x.2]) (fun _=>[]):=by
 refine zC Tryz.func143 rfl fun r hp h hr E hE=>ag fun _ hK1=>aa (za rfl (za rfl (zQ hK1 (ag fun _ hK2=>aa (za rfl (zQ hK2 (ag fun _ hK3=>ag fun _ hK4=>aa (za rfl (zQ hK4 (aC (zL hr h (fun (v5:Bool×Int)=>[(0,aY p0),(4,Bo v5.1),(5,I v5.2)]) (fun (v5:Bool×Int)=>[]) rfl fun _ v5 _ hK7 h=>ag fun _ hK8=>ag fun _ hK9=>aa (zm rfl (zm rfl (an (cX rfl) rfl (zc rfl (zQ hK9 ?_))))))))))))))))
 refine zB rfl h (fun _ h=>?_) fun _ h=>?_
 · refine ar (hK8 _ _ (zM h (fun (v11:Bool×Int)=>[(0,aY p0),(4,Bo v11.1),(5,I v11.2)]) (fun (v11:Bool×Int)=>[]) (fun v11 h=>?_) fun _ _ hK13 h=>?_))
   · exact aa (zm rfl (zd hr h fun hg14 h=>zo hg14 rfl (za rfl (ao (hK7 _ _ _ h rfl)))))
   · refine aC (aC (ag fun _ hK15=>aa (zm rfl (zm rfl (ze hr h fun b16 h17 h18 h19 h=>an (dL rfl rfl h17 h19) rfl (zc rfl (za rfl (zQ hK15 (zB rfl h (fun _ h=>?_) fun _ h=>?_)))))))))
     · exact ag fun _ hK21=>aa (zm rfl (zd hr h fun hg22 h=>zo hg22 rfl (zm rfl (za rfl (za rfl (zQ hK21 (aw (zX (.cons (ay rfl) (.cons (ay rfl) .nil)) h rfl))))))))
     · refine ag fun _ hK23=>aa (zm rfl (zm rfl (ze hr h fun b24 h25 h26 h27 h=>an (dL rfl rfl h25 h27) rfl (zc rfl (za rfl (zQ hK23 (zB rfl h (fun _ h=>?_) fun _ h=>?_)))))))
       · refine ag fun _ hK29=>aa (zm rfl (zm rfl (zb v5.1 (fun hb30=>?_) fun hb30=>?_)))
         · exact z1 hb30 h fun h=>zg hb30 rfl (zg hb30 rfl (zg hb30 rfl (zg hb30 rfl (zg hb30 rfl (zg hb30 rfl (zu rfl (zu rfl (zu rfl (zu rfl (zu rfl (zg hb30 rfl (zy hb30 rfl (za rfl (zQ hK29 (aa (zm rfl (zd hr h fun hg31 h=>zo hg31 rfl (za rfl (ao (hK13 _ _ _ h rfl))))))))))))))))))))
         · refine z2 hb30 h fun h=>zG hb30 rfl (au rfl) (zd hr h fun hg32 h=>zG hb30 rfl (kZ rfl rfl hg32) (zG hb30 rfl (au rfl) (zG hb30 rfl (cX rfl) (zG hb30 rfl (bg rfl rfl rfl) (zG hb30 rfl (au rfl) (zb (decide ((v5.2+1)<(List.length p0:Int))) (fun hb33=>?_) fun hb33=>?_))))))
           · exact z1 hb33 h fun h=>zG hb33 rfl (au rfl) (zG hb33 rfl (au rfl) (zd hr h fun hg34 h=>zG hb33 rfl (kZ rfl rfl hg34) (ze hr h fun b35 h36 h37 h38 h=>zG hb33 rfl (dL rfl rfl h36 h38) (zG hb33 rfl (bg rfl rfl rfl) (zG hb30 rfl (cT hb33 rfl rfl) (zw hb30 rfl (za rfl (zQ hK29 (aa (zm rfl (zd hr h fun hg39 h=>zo hg39 rfl (za rfl (ao (hK13 _ _ _ h rfl))))))))))))))
           · exact z2 hb33 h fun h=>zg hb33 rfl (zg hb33 rfl (zg hb33 rfl (zg hb33 rfl (zg hb33 rfl (zG hb30 rfl (cO hb33 rfl rfl) (zw hb30 rfl (za rfl (zQ hK29 (aa (zm rfl (zd hr h fun hg40 h=>zo hg40 rfl (za rfl (ao (hK13 _ _ _ h rfl))))))))))))))
       · exact ar (hK13 _ _ _ h rfl)
 · exact bp (hK3 _ _ (ag fun _ hK41=>aa (za rfl (za rfl (zQ hK41 (aw (zX (.cons (ay rfl) (.cons (ay rfl) .nil)) h rfl)))))))
def fV (n:Nat) (p0:bm):aq (Bool×bm):=
 gd ((0:Int)≤p0.at_∧p0.at_≤(List.length p0.text:Int)) (aq.bind (lN n (dO p0.text p0.at_)) fun y4=>br (y4.1==0) (.ok (false,p0)) (gd (bA (p0.at_+y4.1)) (gd ((0:Int)≤p0.at_∧(p0.at_:Int)≤(p0.at_+y4.1)∧(p0.at_+y4.1)≤(List.length p0.text:Int)) (br y4.2 (gd (bA (y4.1 - 1)) (gd ((0:Int)≤1∧(1:Int)≤(y4.1 - 1)∧(y4.1 - 1)≤(List.length (sub p0.text p0.at_ (p0.at_+y4.1)):Int)) (aq.bind (lf n (sub (sub p0.text p0.at_ (p0.at_+y4.1)) 1 (y4.1 - 1))) fun y19=>br (y19.2.Errno !=0) (.ok (false,p0)) (gd (bA (y4.1 - 1)) (gd ((0:Int)≤1∧(1:Int)≤(y4.1 - 1)∧(y4.1 - 1)≤(List.length (sub p0.text p0.at_ (p0.at_+y4.1)):Int)) (aq.bind (bJ 4 (sub (sub p0.text p0.at_ (p0.at_+y4.1)) 1 (y4.1 - 1)) y4.1 p0) fun y26=>.ok (true,y26))))))) (aq.bind (ky n (sub p0.text p0.at_ (p0.at_+y4.1))) fun y29=>br (y29.2.Errno !=0) (.ok (false,p0)) (aq.bind (bJ 3 y29.1 y4.1 p0) fun y35=>.ok (true,y35)))))))
theorem rD (n:Nat) (p0:bm):CT Tryz.prog 101 [.ptr 0 0] [.box [aY p0.text,I p0.at_,.arr 1 (List.length p0.out),Bo p0.line],.app 49 4 (aK.Cs p0.out)] (fV n p0) (fun x=>Bo x.1) (fun x=>[.box [aY x.2.text,I x.2.at_,.arr 1 (List.length x.2.out),Bo x.2.line],.app 49 4 (aK.Cs x.2.out)]):=by
 refine zC Tryz.func101 rfl fun r hp h hr E hE=>ag fun _ hK1=>aa (za rfl (zQ hK1 (ag fun _ hK2=>bz [0,1,2,3,4,5,6,7,8,9,10,11,12,13,14] rfl (by kernel_rfl) (zD rfl (au rfl) rfl (zD rfl (cP rfl) rfl (zD rfl (bD rfl) rfl (zD rfl (ba rfl rfl rfl) rfl (zD rfl (au rfl) rfl (zD rfl (cP rfl) rfl (zD rfl (bD rfl) rfl (zD rfl (ba rfl rfl rfl) rfl (zd hr h fun hg3 h=>zD rfl (gO rfl rfl hg3.1 hg3.2) rfl (du rfl (bM rfl) hr h [] Tryz.call143 (tD n (dO p0.text p0.at_)) ⟨rfl,rfl,rfl,rfl,rfl,rfl,trivial⟩ rfl rfl (fun _=>⟨rfl,rfl,rfl⟩) (fun _=>⟨rfl,rfl⟩) hp (fun y4 h=>⟨aH rfl,?_⟩))))))))))))))
 refine zD rfl (au rfl) rfl (zD rfl (oI rfl rfl) rfl (zD rfl (oI rfl rfl) rfl (ea rfl rfl rfl (aH rfl) rfl (ea rfl rfl rfl (aH rfl) rfl (cr (hK2 _ _ (ag fun _ hK5=>ag fun _ hK6=>aa (zm rfl (zc rfl (zQ hK6 (zB rfl h (fun _ h=>?_) fun _ h=>?_)))))))))))
 · exact ag fun _ hK8=>aa (za rfl (zQ hK8 (aw (zX (.cons (ay rfl) .nil) h rfl))))
 · refine ar (hK5 _ _ (ag fun _ hK9=>bz [0,1,2,3,4,5,6,7,8,9,10,11,12,13,14,15] rfl (by kernel_rfl) (zD rfl (au rfl) rfl (zD rfl (cP rfl) rfl (zD rfl (bD rfl) rfl (zD rfl (ba rfl rfl rfl) rfl (zD rfl (au rfl) rfl (zD rfl (cP rfl) rfl (zD rfl (bD rfl) rfl (zD rfl (ba rfl rfl rfl) rfl (zD rfl (au rfl) rfl (zD rfl (cP rfl) rfl (zD rfl (bD rfl) rfl (zD rfl (ba rfl rfl rfl) rfl (zD rfl (au rfl) rfl (zd hr h fun hg10 h=>zD rfl (kZ rfl rfl hg10) rfl (zd hr h fun hg11 h=>zD rfl (uj rfl rfl rfl hg11.1 hg11.2.1 hg11.2.2) rfl (ea rfl rfl rfl (aH rfl) rfl (cr (hK9 _ _ (ag fun _ hK12=>?_)))))))))))))))))))))
   refine ag fun _ hK13=>aa (zm rfl (zQ hK13 (zB rfl h (fun _ h=>?_) fun _ h=>?_)))
   · refine ag fun _ hK15=>ag fun _ hK16=>aa (zm rfl (zm rfl (zd hr h fun hg17 h=>an (pX rfl rfl hg17) rfl (zd hr h fun hg18 h=>an (uj rfl rfl rfl hg18.1 hg18.2.1 hg18.2.2) rfl (zk hp hr h [] Tryz.call144 (qY n (sub (sub p0.text p0.at_ (p0.at_+y4.1)) 1 (y4.1 - 1))) rfl (fun _=>rfl) fun y19 h=>zm rfl (zx rfl (zx rfl (aL 107 (hE _ rfl) ⟨rfl,rfl,rfl,rfl⟩ rfl ?_))))))))
     refine za rfl (zs rfl (zQ hK16 (ag fun _ hK20=>aa (zf rfl (zl rfl (zc rfl (zQ hK20 (zB rfl h (fun _ h=>?_) fun _ h=>?_))))))))
     · exact ag fun _ hK22=>aa (za rfl (zQ hK22 (aw (zX (.cons (ay rfl) .nil) h rfl))))
     · refine ar (hK15 _ _ (ag fun _ hK23=>aa (zm rfl (zm rfl (zm rfl (zd hr h fun hg24 h=>an (pX rfl rfl hg24) rfl (zd hr h fun hg25 h=>an (uj rfl rfl rfl hg25.1 hg25.2.1 hg25.2.2) rfl (zm rfl (iQ hr h [0,1] Tryz.call53 (eK 4 (sub (sub p0.text p0.at_ (p0.at_+y4.1)) 1 (y4.1 - 1)) y4.1 p0) ⟨rfl,rfl,rfl,rfl,rfl,rfl,⟨hE _ rfl,trivial⟩⟩ rfl (fun _=>⟨rfl,rfl,rfl⟩) (fun _=>⟨rfl,rfl⟩) hp (fun y26 h=>?_))))))))))
       exact zQ hK23 (ag fun _ hK27=>aa (za rfl (zQ hK27 (aw (zX (.cons (ay rfl) .nil) h rfl)))))
   · refine ar (hK12 _ _ (ag fun _ hK28=>aa (zm rfl (zk hp hr h [] Tryz.call145 (p7 n (sub p0.text p0.at_ (p0.at_+y4.1))) rfl (fun _=>rfl) fun y29 h=>zm rfl (zx rfl (zx rfl (aL 109 (hE _ rfl) ⟨rfl,rfl,rfl,rfl⟩ rfl ?_)))))))
     refine za rfl (zs rfl (zQ hK28 (ag fun _ hK30=>ag fun _ hK31=>aa (zf rfl (zl rfl (zc rfl (zQ hK31 (zB rfl h (fun _ h=>?_) fun _ h=>?_))))))))
     · exact ag fun _ hK33=>aa (za rfl (zQ hK33 (aw (zX (.cons (ay rfl) .nil) h rfl))))
     · refine ar (hK30 _ _ (ag fun _ hK34=>aa (zm rfl (zm rfl (zm rfl (iQ hr h [0,1] Tryz.call53 (eK 3 y29.1 y4.1 p0) ⟨rfl,rfl,rfl,rfl,rfl,rfl,⟨hE _ rfl,trivial⟩⟩ rfl (fun _=>⟨rfl,rfl,rfl⟩) (fun _=>⟨rfl,rfl⟩) hp (fun y35 h=>?_)))))))
       exact zQ hK34 (ag fun _ hK36=>aa (za rfl (zQ hK36 (aw (zX (.cons (ay rfl) .nil) h rfl)))))
def jq (p0:Int):aq (Bool):=
 br (decide (p0≥97)) (br (decide (p0≤122)) (.ok (true)) (br (decide (p0≥65)) (br (decide (p0≤90)) (.ok (true)) (.ok ((p0==95)))) (.ok ((p0==95))))) (br (decide (p0≥65)) (br (decide (p0≤90)) (.ok (true)) (.ok ((p0==95)))) (.ok ((p0==95))))
theorem qZ (p0:Int):CT Tryz.prog 139 [Sc (.int .u8 p0)] [] (jq p0) (fun x=>Bo x) (fun _=>[]):=by
 refine zC Tryz.func139 rfl fun r hp h hr E hE=>ag fun _ hK1=>aa (za rfl (zQ hK1 (ag fun _ hK2=>aa (zm rfl (zc rfl (zm rfl (zb (decide (p0≥97)) (fun hb3=>?_) fun hb3=>?_)))))))
 · refine z1 hb3 h fun h=>zG hb3 rfl (au rfl) (zG hb3 rfl (bg rfl rfl rfl) (zy hb3 rfl (zm rfl (zb (decide (p0≤122)) (fun hb4=>?_) fun hb4=>?_))))
   · exact z1 hb4 h fun h=>zg hb4 rfl (zg hb4 rfl (zg hb4 rfl (zu rfl (zu rfl (zg hb4 rfl (zy hb4 rfl (zm rfl (zg rfl rfl (zg rfl rfl (zt rfl (za rfl (zQ hK2 (aw (zX (.cons (ay rfl) .nil) h rfl))))))))))))))
   · refine z2 hb4 h fun h=>zG hb4 rfl (au rfl) (zG hb4 rfl (bg rfl rfl rfl) (zG hb4 rfl (au rfl) (zb (decide (p0≥65)) (fun hb5=>?_) fun hb5=>?_)))
     · refine z1 hb5 h fun h=>zG hb5 rfl (au rfl) (zG hb5 rfl (bg rfl rfl rfl) (zG hb4 rfl (cT hb5 rfl rfl) (zw hb4 rfl (zm rfl (zb (decide (p0≤90)) (fun hb6=>?_) fun hb6=>?_)))))
       · exact z1 hb6 h fun h=>zg hb6 rfl (zg hb6 rfl (zy hb6 rfl (za rfl (zQ hK2 (aw (zX (.cons (ay rfl) .nil) h rfl))))))
       · exact z2 hb6 h fun h=>zG hb6 rfl (au rfl) (zG hb6 rfl (bg rfl rfl rfl) (zw hb6 rfl (za rfl (zQ hK2 (aw (zX (.cons (ay rfl) .nil) h rfl))))))
     · exact z2 hb5 h fun h=>zg hb5 rfl (zg hb5 rfl (zG hb4 rfl (cO hb5 rfl rfl) (zw hb4 rfl (zm rfl (zG rfl rfl (au rfl) (zG rfl rfl (bg rfl rfl rfl) (an (dv rfl rfl) rfl (za rfl (zQ hK2 (aw (zX (.cons (ay rfl) .nil) h rfl)))))))))))
 · refine z2 hb3 h fun h=>zg hb3 rfl (zg hb3 rfl (zw hb3 rfl (zm rfl (zG rfl rfl (au rfl) (zG rfl rfl (bg rfl rfl rfl) (zG rfl rfl (au rfl) (zb (decide (p0≥65)) (fun hb7=>?_) fun hb7=>?_)))))))
   · refine z1 hb7 h fun h=>zG hb7 rfl (au rfl) (zG hb7 rfl (bg rfl rfl rfl) (zG rfl rfl (cT hb7 rfl rfl) (an (dv rfl rfl) rfl (zm rfl (zb (decide (p0≤90)) (fun hb8=>?_) fun hb8=>?_)))))
     · exact z1 hb8 h fun h=>zg hb8 rfl (zg hb8 rfl (zy hb8 rfl (za rfl (zQ hK2 (aw (zX (.cons (ay rfl) .nil) h rfl))))))
     · exact z2 hb8 h fun h=>zG hb8 rfl (au rfl) (zG hb8 rfl (bg rfl rfl rfl) (zw hb8 rfl (za rfl (zQ hK2 (aw (zX (.cons (ay rfl) .nil) h rfl))))))
   · exact z2 hb7 h fun h=>zg hb7 rfl (zg hb7 rfl (zG rfl rfl (cO hb7 rfl rfl) (an (dv rfl rfl) rfl (zm rfl (zG rfl rfl (au rfl) (zG rfl rfl (bg rfl rfl rfl) (an (dv rfl rfl) rfl (za rfl (zQ hK2 (aw (zX (.cons (ay rfl) .nil) h rfl)))))))))))
def jZ (n:Nat) (p0:(List UInt8)):aq (Int):=
 jn (fun (v3:Int)=>br (v3==1) (el p0 0 fun b9=>aq.bind (jq (b9.toNat:Int)) fun y13=>br (!y13) (.ok (0)) (el p0 0 fun b16=>br ((b16.toNat:Int)==95) (.ok (0)) (.ok (v3)))) (.ok (v3))) fun j4=>iter (fun next25 (v24:Int)=>jn (fun (_:Unit)=>gd (bA (v24+1)) (next25 (v24+1))) fun j28=>br (decide (v24<(List.length p0:Int))) (el p0 v24 fun b33=>aq.bind (jq (b33.toNat:Int)) fun y37=>br y37 (j28 ()) (br (decide (v24>0)) (el p0 v24 fun b40=>aq.bind (gv (b40.toNat:Int)) fun y44=>br y44 (j28 ()) (br (v24==0) (el p0 v24 fun b47=>br ((b47.toNat:Int)==35) (j28 ()) (j4 (v24))) (j4 (v24)))) (br (v24==0) (el p0 v24 fun b53=>br ((b53.toNat:Int)==35) (j28 ()) (j4 (v24))) (j4 (v24))))) (j4 (v24))) n (0)
theorem wI (n:Nat) (p0:(List UInt8)):CT Tryz.prog 97 [aY p0] [] (jZ n p0) (fun x=>I x) (fun _=>[]):=by
 refine zC Tryz.func97 rfl fun r hp h hr E hE=>ag fun _ hK1=>aa (za rfl (zQ hK1 (ag fun _ hK2=>aa (za rfl (zQ hK2 (zM h (fun (v3:Int)=>[(0,aY p0),(3,I v3)]) (fun (v3:Int)=>[]) (fun v3 h=>?_) fun _ _ hK5 h=>?_))))))
 · refine ag fun _ hK6=>ag fun _ hK7=>aa (zm rfl (zc rfl (zm rfl (zb (v3==1) (fun hb8=>?_) fun hb8=>?_))))
   · refine z1 hb8 h fun h=>zG hb8 rfl (au rfl) (ze hr h fun b9 h10 h11 h12 h=>zG hb8 rfl (dL rfl rfl h10 h12) (zK hb8 rfl hp hr h [] Tryz.call139 (qZ (b9.toNat:Int)) rfl (fun _=>rfl) fun y13 h=>zG hb8 rfl (eG rfl) (zy hb8 rfl (zm rfl (zb (!y13) (fun hb14=>?_) fun hb14=>?_)))))
     · refine z1 hb14 h fun h=>zg hb14 rfl (zg hb14 rfl (zg hb14 rfl (zu rfl (zu rfl (zu rfl (zg hb14 rfl (zy hb14 rfl (zQ hK7 (cN rfl (fun hc=>?_) (fun hc=>?_))))))))))
       · exact ag fun _ hK15=>aa (za rfl (zQ hK15 (aw (zX (.cons (ay rfl) .nil) h rfl))))
       · exact absurd (hc) (by simp)
     · refine z2 hb14 h fun h=>zG hb14 rfl (au rfl) (zG hb14 rfl (bg rfl rfl rfl) (zG hb14 rfl (au rfl) (zG hb8 rfl (au rfl) (ze hr h fun b16 h17 h18 h19 h=>zG hb8 rfl (dL rfl rfl h17 h19) (zG hb8 rfl (bg rfl rfl rfl) (zG hb14 rfl (cT hb8 rfl rfl) (zw hb14 rfl (zQ hK7 (zB rfl h (fun _ h=>?_) fun _ h=>?_)))))))))
       · exact ag fun _ hK21=>aa (za rfl (zQ hK21 (aw (zX (.cons (ay rfl) .nil) h rfl))))
       · exact ar (hK6 _ _ (ag fun _ hK22=>aa (zm rfl (za rfl (zQ hK22 (aw (zX (.cons (ay rfl) .nil) h rfl)))))))
   · refine z2 hb8 h fun h=>zg hb8 rfl (zg hb8 rfl (zg hb8 rfl (zg hb8 rfl (zw hb8 rfl (zm rfl (zG rfl rfl (au rfl) (zG rfl rfl (bg rfl rfl rfl) (zG rfl rfl (au rfl) (zg hb8 rfl (zg hb8 rfl (zg hb8 rfl (zG rfl rfl (cO hb8 rfl rfl) (an (dv rfl rfl) rfl (zQ hK7 (cN rfl (fun hc=>?_) (fun hc=>?_))))))))))))))))
     · exact absurd (hc) (by simp)
     · exact ar (hK6 _ _ (ag fun _ hK23=>aa (zm rfl (za rfl (zQ hK23 (aw (zX (.cons (ay rfl) .nil) h rfl)))))))
 · refine aC (zL hr h (fun (v24:Int)=>[(0,aY p0),(3,I v24)]) (fun (v24:Int)=>[]) rfl fun _ v24 _ hK26 h=>zM h (fun (v27:Unit)=>[(0,aY p0),(3,I v24)]) (fun (v27:Unit)=>[]) (fun v27 h=>?_) fun _ _ hK29 h=>?_)
   · exact aC (aa (zm rfl (zd hr h fun hg30 h=>zo hg30 rfl (za rfl (ao (hK26 _ _ _ h rfl))))))
   · refine ag fun _ hK31=>aa (zm rfl (zm rfl (an (cX rfl) rfl (zc rfl (zm rfl (zb (decide (v24<(List.length p0:Int))) (fun hb32=>?_) fun hb32=>?_))))))
     · refine z1 hb32 h fun h=>zG hb32 rfl (au rfl) (zG hb32 rfl (au rfl) (ze hr h fun b33 h34 h35 h36 h=>zG hb32 rfl (dL rfl rfl h34 h36) (zK hb32 rfl hp hr h [] Tryz.call139 (qZ (b33.toNat:Int)) rfl (fun _=>rfl) fun y37 h=>zG hb32 rfl (au rfl) (zb y37 (fun hb38=>?_) fun hb38=>?_))))
       · refine z1 hb38 h fun h=>zg hb38 rfl (zg hb38 rfl (zg hb38 rfl (zu rfl (zu rfl (zu rfl (zu rfl (zg hb38 rfl (zG hb32 rfl (cT hb38 rfl rfl) (zG hb32 rfl (au rfl) (zg rfl rfl (zg rfl rfl (zg rfl rfl (zu rfl (zu rfl (zu rfl (zu rfl (zg rfl rfl (zG hb32 rfl (tJ rfl rfl) (zy hb32 rfl (zQ hK31 (cN rfl (fun hc=>?_) (fun hc=>?_))))))))))))))))))))))
         · exact ar (hK29 _ _ _ h rfl)
         · exact absurd (hc) (by simp)
       · refine z2 hb38 h fun h=>zG hb38 rfl (au rfl) (zG hb38 rfl (bg rfl rfl rfl) (zG hb38 rfl (au rfl) (zb (decide (v24>0)) (fun hb39=>?_) fun hb39=>?_)))
         · refine z1 hb39 h fun h=>zG hb39 rfl (au rfl) (zG hb39 rfl (au rfl) (ze hr h fun b40 h41 h42 h43 h=>zG hb39 rfl (dL rfl rfl h41 h43) (zK hb39 rfl hp hr h [] Tryz.call98 (kx (b40.toNat:Int)) rfl (fun _=>rfl) fun y44 h=>zG hb38 rfl (cT hb39 rfl rfl) (zG hb32 rfl (cO hb38 rfl rfl) (zG hb32 rfl (au rfl) (zb y44 (fun hb45=>?_) fun hb45=>?_))))))
           · refine z1 hb45 h fun h=>zg hb45 rfl (zg hb45 rfl (zg hb45 rfl (zu rfl (zu rfl (zu rfl (zu rfl (zg hb45 rfl (zG hb32 rfl (cT hb45 rfl rfl) (zy hb32 rfl (zQ hK31 (cN rfl (fun hc=>?_) (fun hc=>?_))))))))))))
             · exact ar (hK29 _ _ _ h rfl)
             · exact absurd (hc) (by simp)
           · refine z2 hb45 h fun h=>zG hb45 rfl (au rfl) (zG hb45 rfl (bg rfl rfl rfl) (zG hb45 rfl (au rfl) (zb (v24==0) (fun hb46=>?_) fun hb46=>?_)))
             · refine z1 hb46 h fun h=>zG hb46 rfl (au rfl) (zG hb46 rfl (au rfl) (ze hr h fun b47 h48 h49 h50 h=>zG hb46 rfl (dL rfl rfl h48 h50) (zG hb46 rfl (bg rfl rfl rfl) (zG hb45 rfl (cT hb46 rfl rfl) (zG hb32 rfl (cO hb45 rfl rfl) (zy hb32 rfl (zQ hK31 (zB rfl h (fun _ h=>?_) fun _ h=>?_))))))))
               · exact ar (hK29 _ _ _ h rfl)
               · exact bp (hK5 _ _ _ h rfl)
             · refine z2 hb46 h fun h=>zg hb46 rfl (zg hb46 rfl (zg hb46 rfl (zg hb46 rfl (zG hb45 rfl (cO hb46 rfl rfl) (zG hb32 rfl (cO hb45 rfl rfl) (zy hb32 rfl (zQ hK31 (cN rfl (fun hc=>?_) (fun hc=>?_)))))))))
               · exact absurd (hc) (by simp)
               · exact bp (hK5 _ _ _ h rfl)
         · refine z2 hb39 h fun h=>zg hb39 rfl (zg hb39 rfl (zg hb39 rfl (zg hb39 rfl (zG hb38 rfl (cO hb39 rfl rfl) (zG hb32 rfl (cO hb38 rfl rfl) (zG hb32 rfl (au rfl) (zG rfl rfl (au rfl) (zG rfl rfl (bg rfl rfl rfl) (zG rfl rfl (au rfl) (zb (v24==0) (fun hb52=>?_) fun hb52=>?_))))))))))
           · refine z1 hb52 h fun h=>zG hb52 rfl (au rfl) (zG hb52 rfl (au rfl) (ze hr h fun b53 h54 h55 h56 h=>zG hb52 rfl (dL rfl rfl h54 h56) (zG hb52 rfl (bg rfl rfl rfl) (zG rfl rfl (cT hb52 rfl rfl) (zG hb32 rfl (dv rfl rfl) (zy hb32 rfl (zQ hK31 (zB rfl h (fun _ h=>?_) fun _ h=>?_))))))))
             · exact ar (hK29 _ _ _ h rfl)
             · exact bp (hK5 _ _ _ h rfl)
           · refine z2 hb52 h fun h=>zg hb52 rfl (zg hb52 rfl (zg hb52 rfl (zg hb52 rfl (zG rfl rfl (cO hb52 rfl rfl) (zG hb32 rfl (dv rfl rfl) (zy hb32 rfl (zQ hK31 (cN rfl (fun hc=>?_) (fun hc=>?_)))))))))
             · exact absurd (hc) (by simp)
             · exact bp (hK5 _ _ _ h rfl)
     · refine z2 hb32 h fun h=>zg hb32 rfl (zg hb32 rfl (zg hb32 rfl (zg hb32 rfl (zg hb32 rfl (zu rfl (zu rfl (zu rfl (zu rfl (zu rfl (zu rfl (zu rfl (zu rfl (zg hb32 rfl (zg hb32 rfl (zu rfl (zu rfl (zu rfl (zu rfl (zu rfl (zu rfl (zu rfl (zu rfl (zg hb32 rfl ?_)))))))))))))))))))))))
       refine zw hb32 rfl (zQ hK31 (cN rfl (fun hc=>?_) (fun hc=>?_)))
       · exact absurd (hc) (by simp)
       · exact bp (hK5 _ _ _ h rfl)
def de (n:Nat) (p0:bm):aq (Bool×bm):=
 gd ((0:Int)≤p0.at_∧p0.at_≤(List.length p0.text:Int)) (aq.bind (strings_HasPrefix (dO p0.text p0.at_) ([47,47]:List UInt8)) fun y6=>br y6 (aq.bind (strings_Cut (dO p0.text p0.at_) ([10]:List UInt8)) fun y9=>gd ((0:Int)≤2∧2≤(List.length y9.1:Int)) (aq.bind (bJ 6 (dO y9.1 2) (List.length y9.1:Int) p0) fun y12=>.ok (true,y12))) (aq.bind (jZ n (dO p0.text p0.at_)) fun y16=>br (decide (y16>0)) (gd ((0:Int)≤y16∧y16≤(List.length (dO p0.text p0.at_):Int)) (aq.bind (bJ 1 (jJ (dO p0.text p0.at_) y16) y16 p0) fun y21=>.ok (true,y21))) (el (dO p0.text p0.at_) 0 fun b25=>aq.bind (gv (b25.toNat:Int)) fun y30=>br y30 (aq.bind (mY n (dO p0.text p0.at_)) fun y33=>gd ((0:Int)≤y33∧y33≤(List.length (dO p0.text p0.at_):Int)) (aq.bind (l9 n (jJ (dO p0.text p0.at_) y33)) fun y37=>br (y37.2 !=0) (.ok (false,p0)) (gd ((0:Int)≤y33∧y33≤(List.length (dO p0.text p0.at_):Int)) (aq.bind (bJ 2 (jJ (dO p0.text p0.at_) y33) y33 p0) fun y42=>.ok (true,y42))))) (br ((b25.toNat:Int)==34) (aq.bind (fV n p0) fun y47=>.ok (y47.1,y47.2)) (aq.bind (iU n (dO p0.text p0.at_)) fun y49=>br (y49==([]:List UInt8)) (.ok (false,p0)) (aq.bind (bJ 5 y49 (List.length y49:Int) p0) fun y54=>.ok (true,y54)))))))
theorem ra (n:Nat) (p0:bm):CT Tryz.prog 54 [.ptr 0 0] [.box [aY p0.text,I p0.at_,.arr 1 (List.length p0.out),Bo p0.line],.app 49 4 (aK.Cs p0.out)] (de n p0) (fun x=>Bo x.1) (fun x=>[.box [aY x.2.text,I x.2.at_,.arr 1 (List.length x.2.out),Bo x.2.line],.app 49 4 (aK.Cs x.2.out)]):=by
 refine zC Tryz.func54 rfl fun r hp h hr E hE=>ag fun _ hK1=>aa (za rfl (zQ hK1 (ag fun _ hK2=>bz [0,1,2,3,4,5,6,7,8,9] rfl (by kernel_rfl) (zD rfl (au rfl) rfl (zD rfl (cP rfl) rfl (zD rfl (bD rfl) rfl (zD rfl (ba rfl rfl rfl) rfl (zD rfl (au rfl) rfl (zD rfl (cP rfl) rfl (zD rfl (bD rfl) rfl (zD rfl (ba rfl rfl rfl) rfl (zd hr h fun hg3 h=>zD rfl (gO rfl rfl hg3.1 hg3.2) rfl (ea rfl rfl rfl (aH rfl) rfl (cr (hK2 _ _ (ag fun _ hK4=>ag fun _ hK5=>aa (zm rfl (zk hp hr h [] Tryz.call95 (iI (dO p0.text p0.at_) ([47,47]:List UInt8)) rfl (fun _=>rfl) fun y6 h=>?_))))))))))))))))))
 refine zQ hK5 (zB rfl h (fun _ h=>?_) fun _ h=>?_)
 · refine ag fun _ hK8=>aa (zm rfl (zk hp hr h [] Tryz.call96 (u9 (dO p0.text p0.at_) ([10]:List UInt8)) rfl (fun _=>rfl) fun y9 h=>zm rfl (zx rfl (zx rfl (zx rfl (za rfl (za rfl (za rfl (zQ hK8 (ag fun _ hK10=>aa (zm rfl (zm rfl (zd hr h fun hg11 h=>an (gO rfl rfl hg11.1 hg11.2) rfl (zm rfl (an (cX rfl) rfl (iQ hr h [0,1] Tryz.call53 (eK 6 (dO y9.1 2) (List.length y9.1:Int) p0) ⟨rfl,rfl,rfl,rfl,rfl,rfl,⟨hE _ rfl,trivial⟩⟩ rfl (fun _=>⟨rfl,rfl,rfl⟩) (fun _=>⟨rfl,rfl⟩) hp (fun y12 h=>?_)))))))))))))))))
   exact zQ hK10 (ag fun _ hK13=>aa (za rfl (zQ hK13 (aw (zX (.cons (ay rfl) .nil) h rfl)))))
 · refine ar (hK4 _ _ (ag fun _ hK14=>ag fun _ hK15=>aa (zm rfl (zk hp hr h [] Tryz.call97 (wI n (dO p0.text p0.at_)) rfl (fun _=>rfl) fun y16 h=>za rfl (zQ hK15 (ag fun _ hK17=>aa (zm rfl (zc rfl (zQ hK17 (zB rfl h (fun _ h=>?_) fun _ h=>?_))))))))))
   · refine ag fun _ hK19=>aa (zm rfl (zm rfl (zm rfl (zd hr h fun hg20 h=>an (pg rfl rfl hg20.1 hg20.2) rfl (zm rfl (iQ hr h [0,1] Tryz.call53 (eK 1 (jJ (dO p0.text p0.at_) y16) y16 p0) ⟨rfl,rfl,rfl,rfl,rfl,rfl,⟨hE _ rfl,trivial⟩⟩ rfl (fun _=>⟨rfl,rfl,rfl⟩) (fun _=>⟨rfl,rfl⟩) hp (fun y21 h=>?_)))))))
     exact zQ hK19 (ag fun _ hK22=>aa (za rfl (zQ hK22 (aw (zX (.cons (ay rfl) .nil) h rfl)))))
   · refine ar (hK14 _ _ (ag fun _ hK23=>ag fun _ hK24=>aa (zm rfl (ze hr h fun b25 h26 h27 h28 h=>an (dL rfl rfl h26 h28) rfl (za rfl (zQ hK24 (aC (ag fun _ hK29=>aa (zm rfl (zk hp hr h [] Tryz.call98 (kx (b25.toNat:Int)) rfl (fun _=>rfl) fun y30 h=>za rfl (zQ hK29 (zB rfl h (fun _ h=>?_) fun _ h=>?_))))))))))))
     · refine ag fun _ hK32=>aa (zm rfl (zk hp hr h [] Tryz.call99 (uI n (dO p0.text p0.at_)) rfl (fun _=>rfl) fun y33 h=>za rfl (zQ hK32 (ag fun _ hK34=>ag fun _ hK35=>aa (zm rfl (zm rfl (zd hr h fun hg36 h=>an (pg rfl rfl hg36.1 hg36.2) rfl (zk hp hr h [] Tryz.call100 (rP n (jJ (dO p0.text p0.at_) y33)) rfl (fun _=>rfl) fun y37 h=>zm rfl (zx rfl (zx rfl (za rfl (za rfl (zQ hK35 (ag fun _ hK38=>aa (zm rfl (zc rfl (zQ hK38 ?_)))))))))))))))))
       refine zB rfl h (fun _ h=>?_) fun _ h=>?_
       · exact ag fun _ hK40=>aa (za rfl (zQ hK40 (aw (zX (.cons (ay rfl) .nil) h rfl))))
       · refine ar (hK34 _ _ (aa (zm rfl (zm rfl (zm rfl (zd hr h fun hg41 h=>an (pg rfl rfl hg41.1 hg41.2) rfl (zm rfl (iQ hr h [0,1] Tryz.call53 (eK 2 (jJ (dO p0.text p0.at_) y33) y33 p0) ⟨rfl,rfl,rfl,rfl,rfl,rfl,⟨hE _ rfl,trivial⟩⟩ rfl (fun _=>⟨rfl,rfl,rfl⟩) (fun _=>⟨rfl,rfl⟩) hp (fun y42 h=>?_)))))))))
         exact zQ hK23 (ag fun _ hK43=>aa (za rfl (zQ hK43 (aw (zX (.cons (ay rfl) .nil) h rfl)))))
     · refine ag fun _ hK44=>aa (zm rfl (zc rfl (za rfl (zQ hK44 (zB rfl h (fun _ h=>?_) fun _ h=>?_)))))
       · refine ag fun _ hK46=>aa (zm rfl (iQ hr h [0,1] Tryz.call101 (rD n p0) ⟨rfl,rfl,rfl,rfl,rfl,rfl,⟨hE _ rfl,trivial⟩⟩ rfl (fun _=>⟨rfl,rfl,rfl⟩) (fun _=>⟨rfl,rfl⟩) hp (fun y47 h=>?_)))
         exact za rfl (zQ hK46 (aw (zX (.cons (ay rfl) .nil) h rfl)))
       · refine ag fun _ hK48=>aa (zm rfl (zk hp hr h [] Tryz.call102 (s3 n (dO p0.text p0.at_)) rfl (fun _=>rfl) fun y49 h=>za rfl (zQ hK48 (ag fun _ hK50=>ag fun _ hK51=>aa (zm rfl (an (iE rfl rfl) rfl (zQ hK51 (zB rfl h (fun _ h=>?_) fun _ h=>?_))))))))
         · exact ag fun _ hK53=>aa (za rfl (zQ hK53 (aw (zX (.cons (ay rfl) .nil) h rfl))))
         · refine ar (hK50 _ _ (aa (zm rfl (zm rfl (zm rfl (an (cX rfl) rfl (iQ hr h [0,1] Tryz.call53 (eK 5 y49 (List.length y49:Int) p0) ⟨rfl,rfl,rfl,rfl,rfl,rfl,⟨hE _ rfl,trivial⟩⟩ rfl (fun _=>⟨rfl,rfl,rfl⟩) (fun _=>⟨rfl,rfl⟩) hp (fun y54 h=>?_))))))))
           exact zQ hK23 (ag fun _ hK55=>aa (za rfl (zQ hK55 (aw (zX (.cons (ay rfl) .nil) h rfl)))))
def gD (n:Nat) (p0:(List UInt8)):aq ((List aK)×eb):=
 br (decide ((List.length p0:Int)>65536)) (.ok ([],(eb.mk 2 0))) (iter (fun next10 (v9:bm)=>br (decide (v9.at_<(List.length p0:Int))) (el p0 v9.at_ fun b16=>jn (fun (_:Unit)=>gd (bA (v9.at_+1)) (next10 ((bm.mk v9.text (v9.at_+1) v9.out v9.line)))) fun j22=>br ((b16.toNat:Int)==10) (br v9.line (aq.bind (bJ 7 ([10]:List UInt8) 1 v9) fun y34=>next10 ((bm.mk y34.text y34.at_ y34.out false))) (j22 ())) (br ((b16.toNat:Int)==32) (j22 ()) (br ((b16.toNat:Int)==9) (j22 ()) (br ((b16.toNat:Int)==13) (j22 ()) (aq.bind (de n v9) fun y44=>br (!y44.1) (.ok ([],(eb.mk 8 y44.2.at_))) (next10 (y44.2))))))) (aq.bind (bJ 0 ([]:List UInt8) 0 v9) fun y48=>.ok (y48.out,(eb.mk 0 0)))) n ((bm.mk p0 0 [] false)))
theorem pE (n:Nat) (p0:(List UInt8)):CT Tryz.prog 24 [aY p0] [] (gD n p0) (fun x=>.fH [.pv (.sl (List.length x.1) (aK.Cs x.1)),.agg [I x.2.Errno,I x.2.At]]) (fun _=>[]):=by
 refine zC Tryz.func24 rfl fun r hp h hr E hE=>ag fun _ hK1=>aa (za rfl (aL 103 (hE _ rfl) ⟨rfl,rfl,rfl,rfl⟩ rfl ?_))
 refine zQ hK1 (xx ?_)
 refine ag fun _ hK2=>ag fun _ hK3=>aa (zm rfl (an (cX rfl) rfl (zc rfl (zQ hK3 (zB rfl h (fun _ h=>?_) fun _ h=>?_)))))
 · refine ag fun _ hK5=>aa (an (bE rfl rfl rfl) rfl ?_)
   refine za rfl (zs rfl (zQ hK5 (bQ (xn (d:=2) rfl rfl) ?_)))
   exact aw (zX (.cons (ay rfl) (.cons (aT rfl rfl rfl) .nil)) h rfl)
 · refine ar (hK2 _ _ (ag fun _ hK6=>aa (zm rfl (an (dm rfl rfl) rfl ?_))))
   refine dP 111 (hE _ rfl) ⟨rfl,rfl,rfl,rfl,rfl,rfl,rfl⟩ rfl ?_
   refine za rfl (zQ hK6 (ag fun _ hK7=>w8 ?_))
   refine hK7 _ _ (ag fun _ hK8=>aC (bQ (rn (j:=111) (off:=2) 27106 (sz:=4) (el:=49) (hE _ rfl) rfl rfl ⟨rfl,rfl,rfl⟩ rfl) ?_))
   refine zL hr h (fun (v9:bm)=>[(0,aY p0),(3,.ptr 103 0),(4,.ptr 111 0)]) (fun (v9:bm)=>[(103,.box [I 0,I 0]),(111,.box [aY v9.text,I v9.at_,.arr 27106 (List.length v9.out),Bo v9.line]),(27106,.app 49 4 (aK.Cs v9.out))]) rfl fun _ v9 _ hK11 h=>ag fun _ hK12=>ag fun _ hK13=>aa (zm rfl (zn rfl (zf rfl (zl rfl (zm rfl (an (cX rfl) rfl (zc rfl (zQ hK13 (zB rfl h (fun _ h=>?_) fun _ h=>?_)))))))))
   · refine ar (hK12 _ _ (aC (ag fun _ hK15=>aa (zm rfl (zm rfl (zn rfl (zf rfl (zl rfl (ze hr h fun b16 h17 h18 h19 h=>an (dL rfl rfl h17 h19) rfl (zQ hK15 (aC (ag fun _ hK20=>aC (zM h (fun (v21:Unit)=>[(0,aY p0),(3,.ptr 103 0),(4,.ptr 111 0)]) (fun (v21:Unit)=>[(103,.box [I 0,I 0]),(111,.box [aY v9.text,I v9.at_,.arr 27106 (List.length v9.out),Bo v9.line]),(27106,.app 49 4 (aK.Cs v9.out))]) (fun v21 h=>?_) fun _ _ hK23 h=>?_)))))))))))))
     · exact ag fun _ hK24=>aa (zm rfl (zn rfl (zf rfl (zl rfl (zd hr h fun hg25 h=>zo hg25 rfl (zn rfl (zf rfl (zs rfl (zQ hK24 (bp (hK11 _ _ _ h rfl)))))))))))
     · refine aC (ag fun _ hK26=>aC (ag fun _ hK27=>ag fun _ hK28=>ag fun _ hK29=>aa (zc rfl (za rfl (zQ hK29 (zB rfl h (fun _ h=>?_) fun _ h=>?_))))))
       · refine bp (hK26 _ _ (ag fun _ hK31=>aa (zm rfl (zn rfl (zf rfl (zl rfl (zQ hK31 (zB rfl h (fun _ h=>?_) fun _ h=>?_))))))))
         · refine ag fun _ hK33=>aa (zm rfl (iQ hr h [111,27106] Tryz.call53 (eK 7 ([10]:List UInt8) 1 v9) ⟨rfl,rfl,rfl,rfl,rfl,rfl,⟨hE _ rfl,trivial⟩⟩ rfl (fun _=>⟨rfl,rfl,rfl⟩) (fun _=>⟨rfl,rfl⟩) hp (fun y34 h=>?_)))
           exact zQ hK33 (ag fun _ hK35=>aa (zm rfl (zn rfl (zf rfl (zs rfl (zQ hK35 (bp (hK11 _ _ _ h rfl))))))))
         · exact ar (hK23 _ _ _ h rfl)
       · refine ar (hK28 _ _ (ag fun _ hK36=>ag fun _ hK37=>aa (zc rfl (za rfl (zQ hK37 (zB rfl h (fun hb38 h=>?_) fun _ h=>?_))))))
         · refine ar (hK36 _ _ (cN rfl (fun hc=>?_) (fun hc=>?_)))
           · exact bp (hK23 _ _ _ h rfl)
           · exact absurd (hb38.symm.trans hc) (by simp)
         · refine ag fun _ hK39=>aa (zc rfl (za rfl (zQ hK39 (zB rfl h (fun hb40 h=>?_) fun _ h=>?_))))
           · refine ar (hK36 _ _ (cN rfl (fun hc=>?_) (fun hc=>?_)))
             · exact bp (hK23 _ _ _ h rfl)
             · exact absurd (hb40.symm.trans hc) (by simp)
           · refine aa (zc rfl (za rfl (zQ hK36 (zB rfl h (fun _ h=>?_) fun _ h=>?_))))
             · exact bp (hK23 _ _ _ h rfl)
             · refine ar (hK27 _ _ (bp (hK20 _ _ (ag fun _ hK42=>ag fun _ hK43=>aa (zm rfl (iQ hr h [111,27106] Tryz.call54 (ra n v9) ⟨rfl,rfl,rfl,rfl,rfl,rfl,⟨hE _ rfl,trivial⟩⟩ rfl (fun _=>⟨rfl,rfl,rfl⟩) (fun _=>⟨rfl,rfl⟩) hp (fun y44 h=>?_)))))))
               refine an (eG rfl) rfl (zQ hK43 (zB rfl h (fun _ h=>?_) fun _ h=>?_))
               · refine ag fun _ hK46=>bz [0,1,2,3,4,5,6] rfl (by kernel_rfl) (zD rfl (au rfl) rfl (zD rfl (cP rfl) rfl (zD rfl (bD rfl) rfl (zD rfl (eW [.any,I y44.2.at_,.any,.any] rfl rfl ⟨.inr rfl,.inl rfl,.inr rfl,.inr rfl,trivial⟩ rfl) rfl (zD rfl (bE rfl rfl rfl) rfl ?_)))))
                 refine ea rfl rfl rfl (cC ⟨trivial,⟨⟨⟨_,rfl,aZ.eR ⟨.inr rfl,.inl rfl,.inr rfl,.inr rfl,trivial⟩⟩,trivial⟩,⟨trivial,⟨trivial,⟨trivial,trivial⟩⟩⟩⟩⟩) rfl (bV rfl ⟨rfl,rfl,rfl,rfl,rfl,rfl,rfl,rfl⟩ rfl (fun e6 he=>⟨aH rfl,?_⟩))
                 subst he
                 refine cr (hK46 _ _ (bQ (xn (d:=2) rfl rfl) ?_))
                 exact aw (zX (.cons (ay rfl) (.cons (aT rfl rfl rfl) .nil)) h rfl)
               · exact ar (hK42 _ _ (bp (hK11 _ _ _ h rfl)))
   · refine bp (hK8 _ _ (ag fun _ hK47=>aa (zm rfl (iQ hr h [111,27106] Tryz.call53 (eK 0 ([]:List UInt8) 0 v9) ⟨rfl,rfl,rfl,rfl,rfl,rfl,⟨hE _ rfl,trivial⟩⟩ rfl (fun _=>⟨rfl,rfl,rfl⟩) (fun _=>⟨rfl,rfl⟩) hp (fun y48 h=>?_)))))
     refine zQ hK47 (ag fun _ hK49=>aa (zm rfl (zn rfl (zf rfl (an (ni aK.bb aK.bP rfl rfl rfl rfl rfl) rfl ?_)))))
     refine an (bE rfl rfl rfl) rfl ?_
     exact za rfl (zs rfl (zQ hK49 (aw (zX (.cons (ay rfl) (.cons (aT rfl rfl rfl) .nil)) h rfl))))
end Go.Abs
end
section
namespace Go.Abs
open aq
theorem pF {s p:List UInt8}:Ev (fun _=>strings_HasPrefix s p) (fun r=>r=true→p.length≤s.length) gh:=by
 unfold strings_HasPrefix stringslite_HasPrefix
 refine Ev.bind (Q:=fun r=>r=true→p.length≤s.length) (R':=gh) ?_ (fun _ q=>q) fun _ h=>Ev.ok h
 (repeat' (first|((with_reducible first|refine Ev.gd ?_ ?_|refine Ev.kc ?_ (fun _ _=>?_));(next=>(first|omega|(simp[bA,cB,cM,maxLen]<;>omega))))|(with_reducible first|refine Ev.cw ?_|refine Ev.b7 ?_|refine Ev.aU (fun _=>?_) (fun _=>?_)|refine Ev.bk (fun _=>?_) (fun _=>?_)|refine Ev.bN (fun _=>?_) (fun _=>?_)|refine Ev.bh (fun _=>?_) (fun _=>?_)|refine Ev.br (fun _=>?_) (fun _=>?_))|((with_reducible refine Ev.jd ?_);try dsimp only)))
 ·exact Ev.ok (fun _=>by omega)
 ·exact Ev.ok (by simp)
theorem uK {a b:List UInt8} (h:1≤b.length) (ha:a.length<4294967281):Ev (fun _=>strings_Split a b) (fun r=>r.length≤a.length+2) gh:=by
 unfold strings_Split
 exact Ev.gd ⟨h,ha⟩ (Ev.ok (uB _ _ _))
theorem n8 {a b:List UInt8} (ha:a.length<4294967281):Ev (fun _=>strings_Contains a b) (fun _=>True) gh:=by
 unfold strings_Contains
 exact Ev.gd ha (Ev.ok trivial)
theorem ka {c:Int}:Ev (fun _=>gv c) (fun r=>r=decide (48≤c∧c≤57)) gh:=by
 unfold gv
 (repeat' (first|((with_reducible first|refine Ev.gd ?_ ?_|refine Ev.kc ?_ (fun _ _=>?_));(next=>(first|omega|(simp[bA,cB,cM,maxLen]<;>omega))))|(with_reducible first|refine Ev.cw ?_|refine Ev.b7 ?_|refine Ev.aU (fun _=>?_) (fun _=>?_)|refine Ev.bk (fun _=>?_) (fun _=>?_)|refine Ev.bN (fun _=>?_) (fun _=>?_)|refine Ev.bh (fun _=>?_) (fun _=>?_)|refine Ev.br (fun _=>?_) (fun _=>?_))|((with_reducible refine Ev.jd ?_);try dsimp only)))
 ·exact Ev.ok (by simp;omega)
 ·exact Ev.ok (by simp;omega)
theorem p8 {c:Int}:Ev (fun _=>jq c) (fun _=>True) gh:=by
 unfold jq
 (repeat' (first|((with_reducible first|refine Ev.gd ?_ ?_|refine Ev.kc ?_ (fun _ _=>?_));(next=>(first|omega|(simp[bA,cB,cM,maxLen]<;>omega))))|(with_reducible first|refine Ev.cw ?_|refine Ev.b7 ?_|refine Ev.aU (fun _=>?_) (fun _=>?_)|refine Ev.bk (fun _=>?_) (fun _=>?_)|refine Ev.bN (fun _=>?_) (fun _=>?_)|refine Ev.bh (fun _=>?_) (fun _=>?_)|refine Ev.br (fun _=>?_) (fun _=>?_))|((with_reducible refine Ev.jd ?_);try dsimp only)))
 all_goals exact Ev.ok trivial
theorem tE {m:Nat→Nat} (hm:bZ m) {s:List UInt8} (hs:s.length≤65536) :
  Ev (fun i=>mY (m i) s) (fun r=>0≤r∧r≤s.length∧∀ b:UInt8,s[0]?=some b→48≤(b.toNat:Int)→(b.toNat:Int)≤57→1≤r) gh:=by
 unfold mY
 refine Ev.jn (fun v=>0≤v∧v≤s.length∧∀ b:UInt8,s[0]?=some b→48≤(b.toNat:Int)→(b.toNat:Int)≤57→1≤v) (fun v hv=>?_) (fun j hj=>?_)
 ·refine Ev.jn (fun b=>b=true→v+1≤s.length) (fun b hb=>?_) (fun j hj=>?_)
  ·refine Ev.br (fun h=>?_) (fun _=>Ev.ok hv)
   have:=hb h
   refine Ev.gd (by (first|omega|(simp[bA]<;>omega))) ?_
   refine Ev.iter hm (fun (x:Int)=>v+1≤x∧x≤s.length) (fun x=>(s.length - x).toNat) (by omega) ?_
   intro x hx next hn
   (repeat' (first|((with_reducible first|refine Ev.gd ?_ ?_|refine Ev.kc ?_ (fun _ _=>?_));(next=>(first|omega|(simp[bA,cB,cM,maxLen]<;>omega))))|(with_reducible first|refine Ev.cw ?_|refine Ev.b7 ?_|refine Ev.aU (fun _=>?_) (fun _=>?_)|refine Ev.bk (fun _=>?_) (fun _=>?_)|refine Ev.bN (fun _=>?_) (fun _=>?_)|refine Ev.bh (fun _=>?_) (fun _=>?_)|refine Ev.br (fun _=>?_) (fun _=>?_))|((with_reducible refine Ev.jd ?_);try dsimp only)))
   ·refine Ev.bind ka (fun _ q=>q) fun y _=>?_
    (repeat' (first|((with_reducible first|refine Ev.gd ?_ ?_|refine Ev.kc ?_ (fun _ _=>?_));(next=>(first|omega|(simp[bA]<;>omega))))|(with_reducible first|refine Ev.cw ?_|refine Ev.b7 ?_|refine Ev.aU (fun _=>?_) (fun _=>?_)|refine Ev.bk (fun _=>?_) (fun _=>?_)|refine Ev.bN (fun _=>?_) (fun _=>?_)|refine Ev.bh (fun _=>?_) (fun _=>?_)|refine Ev.br (fun _=>?_) (fun _=>?_))|((with_reducible refine Ev.jd ?_);try dsimp only)))
    ·exact hn _ (by (first|omega|(simp[bA,cB,cM,maxLen]<;>omega))) (by (first|omega|(simp[bA,cB,cM,maxLen]<;>omega)))
    ·exact Ev.ok ⟨by omega,by omega,fun _ _ _ _=>by omega⟩
   ·exact Ev.ok ⟨by omega,by omega,fun _ _ _ _=>by omega⟩
  ·(repeat' (first|((with_reducible first|refine Ev.gd ?_ ?_|refine Ev.kc ?_ (fun _ _=>?_));(next=>(first|omega|(simp[bA]<;>omega))))|(with_reducible first|refine Ev.cw ?_|refine Ev.b7 ?_|refine Ev.aU (fun _=>?_) (fun _=>?_)|refine Ev.bk (fun _=>?_) (fun _=>?_)|refine Ev.bN (fun _=>?_) (fun _=>?_)|refine Ev.bh (fun _=>?_) (fun _=>?_)|refine Ev.br (fun _=>?_) (fun _=>?_))|((with_reducible refine Ev.jd ?_);try dsimp only)))
   ·refine Ev.bind ka (fun _ q=>q) fun y _=>?_
    exact hj _ (fun _=>by omega)
   all_goals exact hj _ (by simp)
 ·refine Ev.iter hm (fun (x:Int)=>0≤x∧x≤s.length) (fun x=>(s.length - x).toNat) (by omega) ?_
  intro x hx next hn
  refine Ev.aU (fun h=>?_) (fun h=>?_)
  ·refine Ev.el (by omega) (by omega) (fun b hb=>?_)
   refine Ev.bind ka (fun _ q=>q) fun y hy=>?_
   refine Ev.br (fun _=>?_) (fun h2=>?_)
   ·(repeat' (first|((with_reducible first|refine Ev.gd ?_ ?_|refine Ev.kc ?_ (fun _ _=>?_));(next=>(first|omega|(simp[bA]<;>omega))))|(with_reducible first|refine Ev.cw ?_|refine Ev.b7 ?_|refine Ev.aU (fun _=>?_) (fun _=>?_)|refine Ev.bk (fun _=>?_) (fun _=>?_)|refine Ev.bN (fun _=>?_) (fun _=>?_)|refine Ev.bh (fun _=>?_) (fun _=>?_)|refine Ev.br (fun _=>?_) (fun _=>?_))|((with_reducible refine Ev.jd ?_);try dsimp only)))
    exact hn _ (by (first|omega|(simp[bA,cB,cM,maxLen]<;>omega))) (by (first|omega|(simp[bA,cB,cM,maxLen]<;>omega)))
   ·refine hj _ ⟨hx.1,hx.2,fun b' hb' h3 h4=>?_⟩
    rcases Int.lt_or_le x 1 with q|q
    ·have:x=0:=by omega
     subst this
     simp only[Int.toNat_zero] at hb
     rw[hb] at hb';cases hb'
     rw[hy] at h2
     exact absurd ⟨h3,h4⟩ (of_decide_eq_false h2)
    ·exact q
  ·refine hj _ ⟨hx.1,hx.2,fun b' hb' _ _=>?_⟩
   have:=(List.getElem?_eq_some_iff.1 hb').1
   omega
theorem sv {m:Nat→Nat} (hm:bZ m) {s:List UInt8}:Ev (fun i=>iU (m i) s) (fun r=>r.length≤s.length) gh:=by
 unfold iU
 refine Ev.iter hm (fun (x:Int)=>0≤x∧x≤3) (fun x=>(3 - x).toNat) (by omega) ?_
 intro x hx next hn
 refine Ev.aU (fun h=>?_) (fun h=>Ev.ok (by simp))
 simp only[List.length_cons,List.length_nil] at h
 refine Ev.el (by omega) (by simp;omega) (fun a ha=>?_)
 have hal:a.length≤60:=by
  have hm:=List.mem_of_getElem? ha
  simp only[List.mem_cons,List.not_mem_nil,or_false] at hm
  rcases hm with rfl|rfl|rfl<;>simp
 refine Ev.bind (uK (by simp) (by omega)) (fun _ q=>q) fun l hl=>?_
 refine Ev.iter hm (fun (z:Int)=>0≤z∧z≤l.length) (fun z=>(l.length - z).toNat) (by omega) ?_
 intro z hz next2 hn2
 (repeat' (first|((with_reducible first|refine Ev.gd ?_ ?_|refine Ev.kc ?_ (fun _ _=>?_));(next=>(first|omega|(simp[bA]<;>omega))))|(with_reducible first|refine Ev.cw ?_|refine Ev.b7 ?_|refine Ev.aU (fun _=>?_) (fun _=>?_)|refine Ev.bk (fun _=>?_) (fun _=>?_)|refine Ev.bN (fun _=>?_) (fun _=>?_)|refine Ev.bh (fun _=>?_) (fun _=>?_)|refine Ev.br (fun _=>?_) (fun _=>?_))|((with_reducible refine Ev.jd ?_);try dsimp only)))
 ·refine Ev.bind pF (fun _ q=>q) fun y hy=>?_
  refine Ev.br (fun h=>Ev.ok (hy h)) (fun _=>?_)
  (repeat' (first|((with_reducible first|refine Ev.gd ?_ ?_|refine Ev.kc ?_ (fun _ _=>?_));(next=>(first|omega|(simp[bA]<;>omega))))|(with_reducible first|refine Ev.cw ?_|refine Ev.b7 ?_|refine Ev.aU (fun _=>?_) (fun _=>?_)|refine Ev.bk (fun _=>?_) (fun _=>?_)|refine Ev.bN (fun _=>?_) (fun _=>?_)|refine Ev.bh (fun _=>?_) (fun _=>?_)|refine Ev.br (fun _=>?_) (fun _=>?_))|((with_reducible refine Ev.jd ?_);try dsimp only)))
  exact hn2 _ (by (first|omega|(simp[bA,cB,cM,maxLen]<;>omega))) (by (first|omega|(simp[bA,cB,cM,maxLen]<;>omega)))
 ·exact hn _ (by (first|omega|(simp[bA,cB,cM,maxLen]<;>omega))) (by (first|omega|(simp[bA,cB,cM,maxLen]<;>omega)))
theorem vk {m:Nat→Nat} (hm:bZ m) {s:List UInt8} (hs:s.length≤65536):Ev (fun i=>jZ (m i) s) (fun r=>0≤r∧r≤s.length) gh:=by
 unfold jZ
 refine Ev.jn (fun v=>0≤v∧v≤s.length) (fun v hv=>?_) (fun j hj=>?_)
 ·refine Ev.bk (fun h=>?_) (fun _=>Ev.ok hv)
  refine Ev.el (by omega) (by omega) (fun b _=>?_)
  refine Ev.bind p8 (fun _ q=>q) fun y _=>?_
  (repeat' (first|((with_reducible first|refine Ev.gd ?_ ?_|refine Ev.kc ?_ (fun _ _=>?_));(next=>(first|omega|(simp[bA,cB,cM,maxLen]<;>omega))))|(with_reducible first|refine Ev.cw ?_|refine Ev.b7 ?_|refine Ev.aU (fun _=>?_) (fun _=>?_)|refine Ev.bk (fun _=>?_) (fun _=>?_)|refine Ev.bN (fun _=>?_) (fun _=>?_)|refine Ev.bh (fun _=>?_) (fun _=>?_)|refine Ev.br (fun _=>?_) (fun _=>?_))|((with_reducible refine Ev.jd ?_);try dsimp only)))
  all_goals exact Ev.ok (by omega)
 ·refine Ev.iter hm (fun (x:Int)=>0≤x∧x≤s.length) (fun x=>(s.length - x).toNat) (by omega) ?_
  intro x hx next hn
  refine Ev.jn (fun _=>x<s.length) (fun _ h=>?_) (fun j2 hj2=>?_)
  ·(repeat' (first|((with_reducible first|refine Ev.gd ?_ ?_|refine Ev.kc ?_ (fun _ _=>?_));(next=>(first|omega|(simp[bA]<;>omega))))|(with_reducible first|refine Ev.cw ?_|refine Ev.b7 ?_|refine Ev.aU (fun _=>?_) (fun _=>?_)|refine Ev.bk (fun _=>?_) (fun _=>?_)|refine Ev.bN (fun _=>?_) (fun _=>?_)|refine Ev.bh (fun _=>?_) (fun _=>?_)|refine Ev.br (fun _=>?_) (fun _=>?_))|((with_reducible refine Ev.jd ?_);try dsimp only)))
   exact hn _ (by (first|omega|(simp[bA,cB,cM,maxLen]<;>omega))) (by (first|omega|(simp[bA,cB,cM,maxLen]<;>omega)))
  ·refine Ev.aU (fun h=>?_) (fun _=>hj _ hx)
   refine Ev.el (by omega) (by omega) (fun b _=>?_)
   refine Ev.bind p8 (fun _ q=>q) fun y _=>?_
   refine Ev.br (fun _=>hj2 _ h) (fun _=>?_)
   (repeat' (first|((with_reducible first|refine Ev.gd ?_ ?_|refine Ev.kc ?_ (fun _ _=>?_));(next=>(first|omega|(simp[bA,cB,cM,maxLen]<;>omega))))|(with_reducible first|refine Ev.cw ?_|refine Ev.b7 ?_|refine Ev.aU (fun _=>?_) (fun _=>?_)|refine Ev.bk (fun _=>?_) (fun _=>?_)|refine Ev.bN (fun _=>?_) (fun _=>?_)|refine Ev.bh (fun _=>?_) (fun _=>?_)|refine Ev.br (fun _=>?_) (fun _=>?_))|((with_reducible refine Ev.jd ?_);try dsimp only)))
   ·refine Ev.bind ka (fun _ q=>q) fun y _=>?_
    (repeat' (first|((with_reducible first|refine Ev.gd ?_ ?_|refine Ev.kc ?_ (fun _ _=>?_));(next=>(first|omega|(simp[bA,cB,cM,maxLen]<;>omega))))|(with_reducible first|refine Ev.cw ?_|refine Ev.b7 ?_|refine Ev.aU (fun _=>?_) (fun _=>?_)|refine Ev.bk (fun _=>?_) (fun _=>?_)|refine Ev.bN (fun _=>?_) (fun _=>?_)|refine Ev.bh (fun _=>?_) (fun _=>?_)|refine Ev.br (fun _=>?_) (fun _=>?_))|((with_reducible refine Ev.jd ?_);try dsimp only)))
    all_goals first|exact hj2 _ h|exact hj _ hx
   all_goals first|exact hj2 _ h|exact hj _ hx
theorem s5 {m:Nat→Nat} (hm:bZ m) {s:List UInt8} (hs:s.length≤65536):Ev (fun i=>lN (m i) s) (fun r=>r.1=0∨2≤r.1∧r.1≤s.length) gh:=by
 unfold lN
 refine Ev.iter hm (fun x=>1≤x.2∧x.2≤65540) (fun x=>(65540 - x.2).toNat) (by simp) ?_
 intro x hx next hn
 refine Ev.aU (fun h=>?_) (fun _=>Ev.ok (by simp))
 refine Ev.jn (fun v=>x.2≤v.2∧v.2≤s.length+1) (fun v hv=>?_) (fun j hj=>?_)
 ·refine Ev.gd (by (first|omega|(simp[bA]<;>omega))) (hn _ (by dsimp only;omega) (by dsimp only;omega))
 ·(repeat' (first|((with_reducible first|refine Ev.gd ?_ ?_|refine Ev.kc ?_ (fun _ _=>?_));(next=>(first|omega|(simp[bA]<;>omega))))|(with_reducible first|refine Ev.cw ?_|refine Ev.b7 ?_|refine Ev.aU (fun _=>?_) (fun _=>?_)|refine Ev.bk (fun _=>?_) (fun _=>?_)|refine Ev.bN (fun _=>?_) (fun _=>?_)|refine Ev.bh (fun _=>?_) (fun _=>?_)|refine Ev.br (fun _=>?_) (fun _=>?_))|((with_reducible refine Ev.jd ?_);try dsimp only)))
  all_goals first|exact Ev.ok (.inr ⟨by (first|omega|(simp[bA,cB,cM,maxLen]<;>omega)),by (first|omega|(simp[bA,cB,cM,maxLen]<;>omega))⟩)|exact hj _ (by dsimp only;omega)
theorem tF {m:Nat→Nat} (hm:bZ m) {s:List UInt8} (hs:s.length≤70000):Ev (fun i=>iw (m i) s 16 8) (fun r=>r.2=0∨r.2=1∨r.2=2) gh:=by
 unfold iw
 refine Ev.br (fun _=>Ev.ok (.inr (.inr rfl))) (fun _=>?_)
 refine Ev.jn (fun v=>v=(s,16)) (fun v hv=>?_) (fun j9 hj9=>?_)
 ·subst hv
  dsimp only
  refine Ev.jn (fun v=>v=8) (fun v hv=>?_) (fun j12 hj12=>?_)
  ·subst hv
   refine Ev.jn (fun _=>True) (fun v _=>?_) (fun j hj=>?_)
   ·refine Ev.gd (wrap_u64 _).1 ?_
    have hl:(ofBytes s).length≤70000:=by simpa[ofBytes] using hs
    refine Ev.iter hm (fun (x:Bool×Int×Int)=>x.1=false∧0≤x.2.2∧x.2.2≤(ofBytes s).length) (fun x=>((ofBytes s).length - x.2.2).toNat) (by simp) ?_
    intro x hx next hn
    refine Ev.aU (fun hlt=>?_) (fun _=>Ev.br (fun h=>by rw[hx.1] at h;cases h) (fun _=>Ev.ok (.inl rfl)))
    refine Ev.el (by omega) (by omega) fun c _=>?_
    refine Ev.jn (fun _=>True) (fun v _=>?_) (fun j38 hj38=>?_)
    ·refine Ev.br (fun _=>Ev.ok (.inr (.inr rfl))) (fun _=>Ev.br (fun _=>Ev.ok (.inr (.inl rfl))) (fun _=>Ev.br (fun _=>Ev.ok (.inr (.inl rfl))) (fun _=>Ev.br (fun _=>Ev.ok (.inr (.inl rfl))) (fun _=>?_))))
     exact Ev.gd (by (first|omega|(simp[bA]<;>omega))) (hn _ ⟨hx.1,by dsimp only;omega,by dsimp only;omega⟩ (by dsimp only;omega))
    ·refine Ev.jn (fun v=>v=false) (fun v hv=>?_) (fun j58 hj58=>?_)
     ·subst hv
      refine Ev.b7 ?_
      refine Ev.jn (fun _=>True) (fun v _=>?_) (fun j64 hj64=>Ev.br (fun _=>hj64 _ trivial) (fun _=>hj64 _ trivial))
      refine Ev.br (fun _=>hj38 _ trivial) (fun _=>Ev.nW rfl (Ev.br (fun _=>Ev.nW rfl (Ev.br (fun _=>Ev.nW rfl (hj38 _ trivial)) (fun _=>Ev.ok (.inr (.inr rfl))))) (fun _=>Ev.ok (.inr (.inr rfl)))))
     ·exact Ev.br (fun _=>hj58 _ rfl) (fun _=>hj58 _ rfl)
   ·exact Ev.br (fun h=>by simp at h) (fun _=>Ev.br (fun _=>hj _ trivial) (fun h=>by simp at h))
  ·exact Ev.br (fun h=>by simp at h) (fun _=>Ev.br (fun h=>by simp at h) (fun _=>Ev.br (fun h=>by simp at h) (fun _=>hj12 _ rfl)))
 ·refine Ev.jn (fun v=>v=true) (fun v hv=>?_) (fun j99 hj99=>?_)
  ·subst hv
   exact Ev.cw (hj9 _ rfl)
  ·exact Ev.br (fun _=>hj99 _ (by simp)) (fun h=>by simp at h)
theorem wJ {m:Nat→Nat} (hm:bZ m) {s:List UInt8} (hs:s.length≤70000):Ev (fun i=>jL (m i) s 16 8) (fun _=>True) gh:=by
 unfold jL
 refine Ev.bind (tF hm hs) (fun _ q=>q) fun y hy=>Ev.bN (fun h=>?_) (fun _=>Ev.ok trivial)
 refine Ev.nW (a:=true) ?_ (Ev.ok trivial)
 unfold my
 simp only[aq.gd]
 rw[if_pos ⟨by omega,by omega⟩]
theorem sw {m:Nat→Nat} (hm:bZ m) {s:List UInt8} (hs:s.length≤70000):Ev (fun i=>la (m i) s) (fun r=>0≤r.2∧r.2≤s.length) gh:=by
 unfold la
 refine Ev.aU (fun _=>Ev.ok (by simp)) (fun h=>?_)
 refine Ev.el (by omega) (by omega) (fun b _=>?_)
 refine Ev.jn (fun _=>True) (fun v _=>?_) (fun j hj=>?_)
 ·(repeat' (first|((with_reducible first|refine Ev.gd ?_ ?_|refine Ev.kc ?_ (fun _ _=>?_));(next=>(first|omega|(simp[bA,cB,cM,maxLen]<;>omega))))|(with_reducible first|refine Ev.cw ?_|refine Ev.b7 ?_|refine Ev.aU (fun _=>?_) (fun _=>?_)|refine Ev.bk (fun _=>?_) (fun _=>?_)|refine Ev.bN (fun _=>?_) (fun _=>?_)|refine Ev.bh (fun _=>?_) (fun _=>?_)|refine Ev.br (fun _=>?_) (fun _=>?_))|((with_reducible refine Ev.jd ?_);try dsimp only)))
  all_goals first|exact Ev.ok (by dsimp only;omega)|skip
  refine Ev.bind (wJ hm (by have:=ry (c:=s) (i:=2) (j:=4) (by omega) (by omega) (by omega);omega)) (fun _ q=>q) fun y _=>?_
  ·(repeat' (first|((with_reducible first|refine Ev.gd ?_ ?_|refine Ev.kc ?_ (fun _ _=>?_));(next=>(first|omega|(simp[bA,cB,cM,maxLen]<;>omega))))|(with_reducible first|refine Ev.cw ?_|refine Ev.b7 ?_|refine Ev.aU (fun _=>?_) (fun _=>?_)|refine Ev.bk (fun _=>?_) (fun _=>?_)|refine Ev.bN (fun _=>?_) (fun _=>?_)|refine Ev.bh (fun _=>?_) (fun _=>?_)|refine Ev.br (fun _=>?_) (fun _=>?_))|((with_reducible refine Ev.jd ?_);try dsimp only)))
   all_goals exact Ev.ok (by dsimp only;omega)
 ·(repeat' (first|((with_reducible first|refine Ev.gd ?_ ?_|refine Ev.kc ?_ (fun _ _=>?_));(next=>(first|omega|(simp[bA,cB,cM,maxLen]<;>omega))))|(with_reducible first|refine Ev.cw ?_|refine Ev.b7 ?_|refine Ev.aU (fun _=>?_) (fun _=>?_)|refine Ev.bk (fun _=>?_) (fun _=>?_)|refine Ev.bN (fun _=>?_) (fun _=>?_)|refine Ev.bh (fun _=>?_) (fun _=>?_)|refine Ev.br (fun _=>?_) (fun _=>?_))|((with_reducible refine Ev.jd ?_);try dsimp only)))
  all_goals exact hj _ trivial
theorem oX {m:Nat→Nat} (hm:bZ m) {s:List UInt8} :
  Ev (fun i=>ky (m i) s) (fun r=>r.1.length≤s.length∧∀ c:UInt8,s[1]?=some c→c.toNat≠34→r.2.Errno=0→1≤r.1.length) gh:=by
 unfold ky
 refine Ev.aU (fun _=>Ev.ok ⟨by simp,fun _ _ _ h=>by simp at h⟩) (fun h=>?_)
 refine Ev.bk (fun _=>Ev.ok ⟨by simp,fun _ _ _ h=>by simp at h⟩) (fun h=>?_)
 refine Ev.el (by omega) (by omega) (fun b _=>?_)
 refine Ev.bN (fun _=>Ev.ok ⟨by simp,fun _ _ _ h=>by simp at h⟩) (fun h=>?_)
 refine Ev.iter hm (fun (x:List Int×Int)=>1≤x.2∧x.2≤s.length∧x.1.length≤x.2∧(x.2=1∨1≤x.1.length)) (fun x=>(s.length - x.2).toNat) (by simp;omega) ?_
 intro x hx next hn
 refine Ev.aU (fun _=>Ev.ok ⟨by simp,fun _ _ _ h=>by simp at h⟩) (fun h=>?_)
 refine Ev.el (by omega) (by omega) (fun b hb=>?_)
 refine Ev.bk (fun h34=>?_) (fun h34=>?_)
 ·refine Ev.gd (by (first|omega|(simp[bA]<;>omega))) (Ev.aU (fun _=>Ev.gd (by (first|omega|(simp[bA]<;>omega))) (Ev.ok ⟨by simp,fun _ _ _ h=>by simp at h⟩)) (fun _=>?_))
  refine Ev.ok ⟨by simp[jK];omega,fun c hc hc2 _=>?_⟩
  rcases hx.2.2.2 with q|q
  ·rw[q] at hb
   simp only[Int.toNat_one] at hb
   rw[hb] at hc;cases hc
   omega
  ·simpa[jK] using q
 ·refine Ev.el (by omega) (by omega) (fun b2 _=>?_)
  refine Ev.bk (fun _=>?_) (fun _=>?_)
  ·refine Ev.gd (by omega) ?_
   have hl:=kf (c:=s) (i:=x.2) (by omega) (by omega)
   refine Ev.bind (sw hm (by omega)) (fun _ q=>q) fun y hy=>?_
   refine Ev.bk (fun _=>Ev.ok ⟨by simp,fun _ _ _ h=>by simp at h⟩) (fun h0=>?_)
   (repeat' (first|((with_reducible first|refine Ev.gd ?_ ?_|refine Ev.kc ?_ (fun _ _=>?_));(next=>(first|omega|(simp[bA,cB,maxLen]<;>omega))))|(with_reducible first|refine Ev.cw ?_|refine Ev.b7 ?_|refine Ev.aU (fun _=>?_) (fun _=>?_)|refine Ev.bk (fun _=>?_) (fun _=>?_)|refine Ev.bN (fun _=>?_) (fun _=>?_)|refine Ev.bh (fun _=>?_) (fun _=>?_)|refine Ev.br (fun _=>?_) (fun _=>?_))|((with_reducible refine Ev.jd ?_);try dsimp only)))
   exact hn _ (by simp;omega) (by (first|omega|(simp[bA,cB,cM,maxLen]<;>omega)))
  ·refine Ev.jn (fun _=>True) (fun v _=>?_) (fun j hj=>?_)
   ·refine Ev.br (fun _=>Ev.ok ⟨by simp,fun _ _ _ h=>by simp at h⟩) (fun _=>?_)
    (repeat' (first|((with_reducible first|refine Ev.gd ?_ ?_|refine Ev.kc ?_ (fun _ _=>?_));(next=>(first|omega|(simp[bA,cB,maxLen]<;>omega))))|(with_reducible first|refine Ev.cw ?_|refine Ev.b7 ?_|refine Ev.aU (fun _=>?_) (fun _=>?_)|refine Ev.bk (fun _=>?_) (fun _=>?_)|refine Ev.bN (fun _=>?_) (fun _=>?_)|refine Ev.bh (fun _=>?_) (fun _=>?_)|refine Ev.br (fun _=>?_) (fun _=>?_))|((with_reducible refine Ev.jd ?_);try dsimp only)))
    exact hn _ (by simp;omega) (by (first|omega|(simp[bA,cB,cM,maxLen]<;>omega)))
   ·(repeat' (first|((with_reducible first|refine Ev.gd ?_ ?_|refine Ev.kc ?_ (fun _ _=>?_));(next=>(first|omega|(simp[bA,cB,cM,maxLen]<;>omega))))|(with_reducible first|refine Ev.cw ?_|refine Ev.b7 ?_|refine Ev.aU (fun _=>?_) (fun _=>?_)|refine Ev.bk (fun _=>?_) (fun _=>?_)|refine Ev.bN (fun _=>?_) (fun _=>?_)|refine Ev.bh (fun _=>?_) (fun _=>?_)|refine Ev.br (fun _=>?_) (fun _=>?_))|((with_reducible refine Ev.jd ?_);try dsimp only)))
    all_goals exact hj _ trivial
end Go.Abs
end
