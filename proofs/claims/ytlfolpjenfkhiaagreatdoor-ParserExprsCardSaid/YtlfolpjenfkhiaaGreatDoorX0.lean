/- PROVED: lemmas of the proof of: configlanglaw26.ParserExprs returns true for every input. CONDITIONS: as each lemma states. -/
import Derived.KernelRfl
import Derived.Orders
import Derived.Laws.CopyRow
import Derived.Laws.Tables
import Derived.Laws.Rows
import Derived.Laws.AppendOwn
import Derived.Lib.ItoaMem
import Derived.IntWalk
import Derived.Lib.Strings
import Derived.Laws.Cover1
import Derived.Scope
set_option linter.all false
namespace Go.Abs
variable {n k sz i b nm d off f j:Nat} {o:Oper} {w:World} {a:Act} {ops:Array Oper} {t e s:TypeId} {x:Operand} {listed:Array Bool} {c v:Value} {nn:Nat->Prop} {cs:Array Value} {ts:Array TypeId} {π:Nat->Nat}
abbrev ByS:=List UInt8
abbrev eSt:Value:=.string ⟨#[]⟩
section
variable {p:Prop}
def aD (h:p:=by omega):p:=h
def dC (h:p:=by intro h;cases h):p:=h
def eZ (h:p:=by dsimp only;omega):p:=h
def dN (h:p:=by decide):p:=h
def jk (h:p:=by simpa using h):p:=h
def yJ (h:p:=by (first|omega|(simp[cD,ob,BR,maxLen]<;>omega))):p:=h
def uy (h:p:=by simp[Op.operands]):p:=h
def Bx (h:p:=by exact bg h):p:=h
def rI (h:p:=by simp;omega):p:=h
def P8 (h:p:=by exact λ_=>ai (EO hm (by simp)) λy _=>hj _ trivial):p:=h
def pL (h:p:=by exact λ_=>aj trivial):p:=h
def qk (h:p:=by exact aU h):p:=h
def jT (h:p:=by exact dQ hx):p:=h
def yY (h:p:=by exact p2 (p2 (p2 h))):p:=h
def ō (h:p:=by exact ⟨hT.h,hB.h,hi.h,hi.n,hi.o,hE _ (p1 hm),(p1 h).trans (by rw[p2 LN]),(p2 h).trans (by rw[p1 LN]),.inl (hx.trans (by rw[p1 hys,p2 hys])),⟨p1 (p2 hm),p1 (p2 (p2 hm)),p1 (p2 (p2 (p2 hm)))⟩,hg⟩):p:=h
def uA (h:p:=by exact ⟨rfl,rfl⟩):p:=h
def W2 (h:p:=by exact zS (.inl O) _ (.cons (tq O O O) (.cons (tq O O O) .nil)) (UB hc h.symm) (gT _) trivial):p:=h
def tt (h:p:=by exact dQ hy):p:=h
def uX (h:p:=by assumption):p:=h
def W3 (h:p:=by dsimp only;(first|omega|(simp[cD,ob,BR,maxLen]<;>omega))):p:=h
def adG (h:p:=by exact ⟨λr hr=>⟨λp hp=>(let ⟨e,h1,h2⟩:=hn.1 r hr p hp;⟨e,fv h1,h2⟩),λnm q=>by rw[pN pX r (gK.1 hr).1] at q;cases q⟩,hn.2⟩):p:=h
def akd (h:p:=by show ¬ p.bB>=(p.bM.length:Int);omega):p:=h
def YS (h:p:=by exact λr hr k' _=>by rw[pN pX r (gK.1 hr).1];simp):p:=h
def uY (h:p:=by exact aj rfl):p:=h
def W4 (h:p:=by exact λ_=>aj ⟨by simp,λ_ _ _ h=>by simp at h⟩):p:=h
def P9 (h:p:=by simp[Op.operands,Call.operands]):p:=h
def ake (h:p:=by exact aI (λh=>by cases h) λ_=>aJ (λh=>by cases h) λ_=>bZ ⟨_,a2,rfl,rfl,AR.trans nx.pg,nx.lzs hz,he⟩):p:=h
def W5 (h:p:=by exact λx hx=>by cases hx;simpa[sH] using hd):p:=h
def agE (h:p:=by exact ⟨_,_,hw,by simpa[cQ.cells] using hl,by simpa[cQ.cells] using hc.vrs⟩):p:=h
def Ŏ (h:p:=by exact ⟨_,_,_,_,rfl,rfl,hn,h1,h2,h3⟩):p:=h
def Dq (h:p:=by exact Qa O O O):p:=h
def ID (h:p:=by exact λr hr=>by cases hr):p:=h
def FZ (h:p:=by simpa using q):p:=h
def ŏ (h:p:=by simp[BR];(first|omega|(simp[cD,ob,BR,maxLen]<;>omega))):p:=h
def Ju (h:p:=by exact kF hm hC nx):p:=h
def adI (h:p:=by exact ⟨us++vs,by rw[h2,gj]⟩):p:=h
def IE (h:p:=by exact p2 (p2 (p2 (p2 hm)))):p:=h
def Gn (h:p:=by exact AZ _):p:=h
def adJ (h:p:=by exact ⟨by simp only[fQ];omega,by simp only[fQ];unfold maxLen;omega⟩):p:=h
def Td (h:p:=by exact λ_=>M (by simp)):p:=h
def Ő (h:p:=by exact zt O (rJ (hK15 _ _ _ h O))):p:=h
def adK (h:p:=by exact BS (.inl O) _ (.cons (tq O O O) (.cons (tq O O O) .nil)) h.symm (gT _) trivial):p:=h
def akf (h:p:=by exact ⟨g',.panic (Sc c0),cx l [(j5,cap)],bU s',(show Ie P E fn R (.panic (Sc c0)) (cx l [(j5,cap)]) (bU s') from .inr ⟨j5,cap,c0,rfl,λ_ _ h=>h.gO,hq⟩),.panic (.pv (.sc _)),kL,sR⟩):p:=h
def adL (h:p:=by rw[p1 h1,p2 h1];exact iy (λz=>(some (AV.fn j5 first cap),some vs,z)) (akg hk hF)):p:=h
def ő (h:p:=by exact λ_=>ai (Qc hm (by simp)) λy _=>M (by simp)):p:=h
def Œ (h:p:=by exact rK (zX (.cons (tq O O O) (.cons (CA O) .nil)) h O)):p:=h
def œ (h:p:=by exact rK (zX (.cons (CA O) (.cons (tq O O O) .nil)) h O)):p:=h
def F0 (h:p:=by exact p2 (p2 (hx x))):p:=h
def Te (h:p:=by exact ⟨rfl,λh=>by cases h⟩):p:=h
def E6 (h:p:=by exact eL 0):p:=h
def adM (h:p:=by exact ih hm (by have:=Qd (aP hx);omega) (he.s _ (aP hx))):p:=h
def adN (h:p:=by simp only[ak.bF];(first|omega|(simp[cD,ob,BR,maxLen]<;>omega))):p:=h
def agF (h:p:=by exact ⟨λr hr=>⟨λp hp=>(let ⟨e,h1,h2⟩:=E7 r hr p hp;⟨e,fv h1,h2⟩),λnm q=>by rw[pN pX r (gK.1 hr).1] at q;cases q⟩,hn⟩):p:=h
def akh (h:p:=by exact ⟨.bool !r,by simp only[execOp,ho,q1.NC,q2.NC,cC,run_eqGuard_agg w .neq t x y _ _ hg,bQ,run_neq_struct,h,ep],.pv (.sc _)⟩):p:=h
def aki (h:p:=by exact ⟨.bool r,by simp only[execOp,ho,q1.NC,q2.NC,cC,run_eqGuard_agg w .eql t x y _ _ hg,bQ,run_eql_struct,h,ep],.pv (.sc _)⟩):p:=h
def W6 (h:p:=by exact λ_=>hj _ (by simp[ak.an])):p:=h
def agG (h:p:=by exact ai (Jv hm hC hr) λr hr=>ai (Aa hm hC hr) λr hr=>ai (UC _ _) λ_ _=>ay (λ_=>bI (Ab hr) (hn _ hr)) λ_=>hn _ hr):p:=h
def adO (h:p:=by exact od hm hC hr):p:=h
def Tf (h:p:=by exact ⟨rfl,rfl,rfl,rfl⟩):p:=h
def Tg (h:p:=by rw[hg.ρ k hk];exact h):p:=h
def YT (h:p:=by simp[ho,Op.operands,Call.operands]):p:=h
def agH (h:p:=by exact Jw (P:=λc=>okB (strings_IndexByte [40,41,91,93,123,125,124,42,43,63,46,92] c) (λy=>decide (y>=0)==decide (c∈Py))=true) agI _ cr.1 cr.2):p:=h
def DQ (h:p:=by cases q):p:=h
def ND (h:p:=by exact uZ _):p:=h
def Ŕ (h:p:=by rw[h.yo];exact MA h.h1 ys):p:=h
def BT (h:p:=by exact p1 (p2 h)):p:=h
def By (h:p:=by exact NF hd):p:=h
def Jx (h:p:=by exact LP hm):p:=h
def E8 (h:p:=by exact UD O O O):p:=h
def YU (h:p:=by show 0<=p.bB+1;omega):p:=h
def agJ (h:p:=by exact rK (I4 (n:=Tryz.f291.ntmps) (.inl O) (BS (.inl O) _ (.cons (tq O O O) (.cons (Jy O O) .nil)) h.symm (gT _) trivial))):p:=h
def adP (h:p:=by exact ŕ (by show -5000<=p.bB+1;omega) (by show p.bB+1<=5000;omega)):p:=h
def Th (h:p:=by exact Jz hm):p:=h
def agK (h:p:=by exact ⟨_,ho,.skip ⟨j,want,g,.bool b,rfl,hj.1,jF hj.2.1,λq=>by have:=hj.2.2;cases q;simp at this⟩ (NF hc.2) (by rw[hc.1];exact hn)⟩):p:=h
def W7 (h:p:=by simp[Oper.looksAt,hg,hj]):p:=h
def E9 (h:p:=by exact Gp O O):p:=h
def F1 (h:p:=by exact YV O O O):p:=h
def Xa (h:p:=by have:=(lC ht).1;omega):p:=h
def YW (h:p:=by exact λk q=>by subst q;exact tT hm.1 hm.2.1):p:=h
def adQ (h:p:=by exact aI (λ_=>aJ (λ_=>g) λh=>by cases h) λh=>by cases h):p:=h
def adR (h:p:=by exact λ_=>ay (λ_=>ay (λ_=>hB) (λ_=>aF hB)) (λ_=>hB)):p:=h
def YX (h:p:=by exact za O (zQ NG (rK (zRt O h O)))):p:=h
def adS (h:p:=by exact λj q=>by subst q;exact hc):p:=h
def Ti (h:p:=by simpa[oL] using h):p:=h
def agL (h:p:=by exact LR (L:=L) (by rw[hz.1.1,show (ah.mk y.s y.shift y.l y.bB false y.iR y.qW).l=y.l from rfl,hy.1];exact hT)):p:=h
def akk (h:p:=by exact ⟨.int k (if b<a then b else a),by simp[execOp,ho,resolve,invoke,builtin,Builtin.min_,Builtin.min2,q1.gO,q2.gO],.sc g _⟩):p:=h
def akl (h:p:=by exact ⟨.int k (if b>a then b else a),by simp[execOp,ho,resolve,invoke,builtin,Builtin.max_,Builtin.max2,q1.gO,q2.gO],.sc g _⟩):p:=h
def Ŗ (h:p:=by exact λ_=>aj ⟨a',_,rfl,h2,h3,h6,by simp⟩):p:=h
def akm (h:p:=by exact ⟨.int .i64 l.length,by simp[execOp,ho,resolve,invoke,builtin,Builtin.len_,q.gO,S,run_underlying ht,JA,goInt],.sc g _⟩):p:=h
def Xb (h:p:=by rw[hq,UE];exact oY):p:=h
def Tj (h:p:=by exact λh=>by simp at h):p:=h
def akn (h:p:=by exact ⟨c,by simp[execOp,ho,hq,q2.gO,Instr.index,asIntOf,run_underlying hu,h0,h1,part,Ac ha,vt hs,hc1],Pz⟩):p:=h
def adT (h:p:=by exact jV (fR h.2.2.2) (by simp[maxLen])):p:=h
def agM (h:p:=by exact ihD _ _ _ (by rw[show (ah.mk y.s y.shift y.l y.bB false y.iR y.qW).l=y.l from rfl,hy.1];exact hT)):p:=h
def ako (h:p:=by exact ⟨_,_,run_append_room (P:=P) w t ty e i ht hi b len cap cs hw a m c news hl UF h1 JB hfit,.inl ⟨JB,rfl,rfl⟩⟩):p:=h
def YY (h:p:=by simpa[fi.set,q] using hk):p:=h
def BU (h:p:=by exact ik _):p:=h
def YZ (h:p:=by exact λ_=>ai (EO hm (by simp)) λy _=>aj trivial):p:=h
def ab0 (h:p:=by exact ⟨g,_,rfl,.vu _ (.any _),hR.below hw⟩):p:=h
def Y0 (h:p:=by exact ih hm (by have:=ab1 hy;have:=Y1 hd;omega) (DO.s _ hy)):p:=h
def Gq (h:p:=by exact λ_=>by simp):p:=h
def agN (h:p:=by exact ⟨.int k (k.wrap a),by simp[execOp,ho,q.gO,convert,run_underlying hs,run_underlying ht,Conv.intToInt],.sc g _⟩):p:=h
def BV (h:p:=by rw[h];rfl):p:=h
def agO (h:p:=by exact ⟨.int .u8 b.toNat,by simp[execOp,ho,q1.gO,q2.gO,S,Instr.index,asIntOf,run_underlying ht,h0,xH],.sc g _⟩):p:=h
def agP (h:p:=by exact ⟨.int .i64 0,by simp[execOp,ho,resolve,invoke,builtin,Builtin.len_,q.gO,run_underlying ht,goInt],.sc g _⟩):p:=h
def Qe (h:p:=by rw[h.yo,tu h.hL]):p:=h
def ab2 (h:p:=by exact ⟨_,ho,.skip ⟨j,want,g,undef,rfl,hj.1,jF hj.2,by simp[undef]⟩ (NF hc.2) (by rw[hc.1];exact hn)⟩):p:=h
def agQ (h:p:=by exact ⟨_,a₁,w₁,⟨g',_,oM,σ',q,.panic hv,kL,sR⟩,.pass (x:=.inLoop c) rfl (λ_ _=>.inl (by simp)) Tm⟩):p:=h
def ab3 (h:p:=by simp only[execOp,ho,hq,q2.gO,eqGuard,binOp];simp[Op.equal,Op.maxDepth,yp ht 9999]):p:=h
def ab4 (h:p:=by exact gU (JC nx ht) (bn (Tn hm hC nx ht) (bZ ⟨_,a2,t,rfl,rfl,pg.trans nx.pg,nx.tk,ht,he⟩))):p:=h
def MB (h:p:=by exact λr _ hr=>by cases hr):p:=h
def agR (h:p:=by exact ⟨_,a₁,w₁,⟨g',_,oM,σ',q,.exit id,kL,sR⟩,.pass (x:=.inLoop c) rfl (λ_ _=>.inl (by simp)) Tm⟩):p:=h
def agS (h:p:=by exact ⟨_,a₁,w₁,⟨g',_,oM,σ',q,.goto l,kL,sR⟩,.pass (x:=.inLoop c) rfl (λ_ _=>.inl (by simp)) Tm⟩):p:=h
def Qf (h:p:=by exact λ_=>aj ⟨h,by simp⟩):p:=h
def JD (h:p:=by exact λq=>by simp at q):p:=h
def Y2 (h:p:=by exact qK hm hC nx F2):p:=h
def ab5 (h:p:=by exact ⟨q,by simpa[fi.del,q] using hj⟩):p:=h
def UG (h:p:=by rw[CB hk.a];exact hk.e):p:=h
def agT (h:p:=by exact ⟨_,a₁,w₁,⟨g',_,oM,σ',q,.ret,kL,sR⟩,.pass (x:=.inLoop c) rfl (λ_ _=>.inl (by simp)) Tm⟩):p:=h
def agU (h:p:=by exact ⟨c,by simp only[JE,hq,asAddr,cC,ep,bQ,A0 ha hw h3],h2⟩):p:=h
def If (h:p:=by exact zT hm.2.2):p:=h
def yK (h:p:=by exact To O):p:=h
def Y3 (h:p:=by exact ⟨λ_=>rfl,λ_=>rfl⟩):p:=h
def Qg (h:p:=by exact dY λ_=>kJ):p:=h
def Y4 (h:p:=by exact λk q=>by have:=hm k q;simpa[AV.iQ] using this):p:=h
def Df (h:p:=by exact Y5 O O):p:=h
def Fx (h:p:=by exact λ_=>agV):p:=h
def Ig (h:p:=by exact p2 (p2 (p2 hk))):p:=h
def agW (h:p:=by dsimp only;rw[e2];exact hv):p:=h
def Y6 (h:p:=by exact ai (MC hm hC hr) λr hr=>hw _ _ hr):p:=h
def JF (h:p:=by exact eL _):p:=h
def UH (h:p:=by exact tT h.hm.1 h.hm.2.1):p:=h
def JG (h:p:=by exact ⟨rfl,by simp⟩):p:=h
def JH (h:p:=by exact ⟨rfl,rfl,rfl⟩):p:=h
def UI (h:p:=by exact ⟨⟨a',q',rfl,h2,h3,h4⟩,h5⟩):p:=h
def UJ (h:p:=by simpa[sH] using hz):p:=h
def MD (h:p:=by simp[TS];omega):p:=h
def agX (h:p:=by exact ⟨c,by simp[execOp,ho,hq,Instr.field,run_underlying hu,hf,part,Ac ha,asAgg,h1],h2⟩):p:=h
def UK (h:p:=by simpa[fi.set,q] using hj):p:=h
def ab6 (h:p:=by exact λj j' hj yL he=>A1 hk.nd (by have:=CC hj;omega) (by have:=CC yL;omega) he):p:=h
def Qh (h:p:=by exact kM Hm):p:=h
def JI (h:p:=by exact aw h.symm hr):p:=h
def JJ (h:p:=by exact LS hm):p:=h
def Y7 (h:p:=by exact λ_=>aj ⟨by simp,λ_ h=>by cases h⟩):p:=h
def Y8 (h:p:=by exact ⟨h,by rw[h2,CD h3],p1 hm,p1 (p2 hm)⟩):p:=h
def Qi (h:p:=by have:=hc.len;omega):p:=h
def UL (h:p:=by rw[hm];exact ht.h):p:=h
def JK (h:p:=by simp[Gh.iB]):p:=h
def Dg (h:p:=by exact ab7 O O):p:=h
def UM (h:p:=by exact λ_=>aj (.inr (.inr rfl))):p:=h
def Qj (h:p:=by simp[ak.bF]):p:=h
def Ih (h:p:=by exact Y9 O O O O):p:=h
def ME (h:p:=by exact fv h.hk):p:=h
def UN (h:p:=by have:=(lC e).1;omega):p:=h
def ab8 (h:p:=by simp only[cQ.cells,fQ];rw[hc,iE];omega):p:=h
def UO (h:p:=by simpa[pO] using h):p:=h
def Qk (h:p:=by rw[e2];exact hz):p:=h
def MF (h:p:=by exact zz 0 Tryz.func184):p:=h
def agY (h:p:=by exact ⟨g,_,rfl,.lM (.cons (.pv (.sc _)) (.cons (.pv (.sc _)) .nil)),hR.adU hw⟩):p:=h
def JL (h:p:=by exact λp=>agZ p):p:=h
def MG (h:p:=by exact kF hm hC h):p:=h
def ab9 (h:p:=by exact λq w hj next=>by obtain ⟨⟨v,rfl⟩,h1,h2⟩:=hj;exact stop w h1 h2 next):p:=h
def Za (h:p:=by show p.bB<p.bB+1+1;omega):p:=h
def UP (h:p:=by split<;>omega):p:=h
def Zb (h:p:=by exact λi hi=>aw hi (AZ i)):p:=h
def UQ (h:p:=by exact hj _ (by rw[xj,JM,hy])):p:=h
def ab_ (h:p:=by exact ŕ (by show -5000<=d*16+e;omega) (by show d*16+e<=5000;omega)):p:=h
def UR (h:p:=by rw[yo,tu hC]):p:=h
def Zc (h:p:=by simpa[ByteArray.size] using hl):p:=h
def Zd (h:p:=by exact λ_=>bI (Ab hr) (aj hr)):p:=h
def MH (h:p:=by rw[hc];rfl):p:=h
def JN (h:p:=by exact ik N):p:=h
def MI (h:p:=by exact fv hk):p:=h
def Ql (h:p:=by exact h _ ‹_› ‹_›):p:=h
def US (h:p:=by exact ⟨λ_=>.inl rfl,rfl⟩):p:=h
def Ze (h:p:=by exact ⟨hj.1,hj.2,by cases want<;>rfl⟩):p:=h
def UT (h:p:=by rw[sA,h1]):p:=h
def Zf (h:p:=by exact ⟨g',_,oM,σ',q,.normal,kL,sR⟩):p:=h
def Zg (h:p:=by exact ⟨rfl,hc,hr⟩):p:=h
def UU (h:p:=by exact fR hn):p:=h
def Qm (h:p:=by have:=AR.le;omega):p:=h
def Zh (h:p:=by simpa using uB g zs):p:=h
def Zi (h:p:=by exact Hs CF Gr O O O O O):p:=h
def aca (h:p:=by exact .mk hxd.l1 hxd.l2 hxd.l3 hxd.l4 hxd.l5 hxd.l6 htt hxd.kd hxd.s hxd.d):p:=h
def Zj (h:p:=by show (8:Int)≠0;decide):p:=h
def JO (h:p:=by exact aw rfl h):p:=h
def UW (h:p:=by exact kM hR):p:=h
def Zk (h:p:=by exact ⟨_,SH,λ_=>(by simp[bU,uC] at hi;exact ⟨_,hi.symm⟩)⟩):p:=h
def Zl (h:p:=by exact ⟨⟨a2,q2,rfl,h2,h3,Gs⟩,he⟩):p:=h
def UX (h:p:=by rw[Dr];exact h2):p:=h
def Zm (h:p:=by dsimp only;split<;>omega):p:=h
def acb (h:p:=by exact ⟨rfl,.one,hq1,ht.1,by have:=ht.2;show p.bB<q.bB+1;omega⟩):p:=h
def Qn (h:p:=by rw[hec];rfl):p:=h
def Zn (h:p:=by rw[Gt hkm];exact hk):p:=h
def UY (h:p:=by exact xk g nm _ _):p:=h
def Gu (h:p:=by exact UZ O):p:=h
def Qo (h:p:=by exact ⟨_,_,_,_,rfl⟩):p:=h
def ag0 (h:p:=by exact ⟨_,_,hn,⟨Gv,F3,λ_ _=>rfl⟩,EP hdm,rfl⟩):p:=h
def acd (h:p:=by exact dJ (Q:=λ_=>True) (aj trivial) λz _=>xI _ trivial):p:=h
def U0 (h:p:=by exact λ_=>aj (by simp)):p:=h
def U1 (h:p:=by exact λd hd=>Ht hd):p:=h
def ag1 (h:p:=by exact ⟨g',.ret (V x),bU [],.inl ⟨x,rfl,rfl,rfl⟩,.ret Gw,kL⟩):p:=h
def U2 (h:p:=by rw[e1];exact hf):p:=h
def U3 (h:p:=by rw[e2];exact hx):p:=h
def ace (h:p:=by exact λj hj=>aS (λ_=>hj _ trivial) (λ_=>hj _ trivial)):p:=h
def acf (h:p:=by exact ⟨vO,λ_ e=>by cases e⟩):p:=h
def acg (h:p:=by exact ⟨lj,by rw[heap_alloc_old w o b (A2 h1)];exact h1,h2⟩):p:=h
def ag2 (h:p:=by exact ⟨.bool (!b),by simp[execOp,ho,q.gO,Op.unary],.sc g _⟩):p:=h
def Zo (h:p:=by have:=(Gx k4).1;omega):p:=h
def Qp (h:p:=by rw[he];rfl):p:=h
def Zp (h:p:=by simpa[AV.iQ] using hm):p:=h
def Zq (h:p:=by simpa[AV.Bz] using hs):p:=h
def MJ (h:p:=by exact aw (hc) (by simp)):p:=h
def Qq (h:p:=by exact λ_=>bH rfl):p:=h
def Zr (h:p:=by exact λh=>by rw[Xc] at h;cases h):p:=h
def ag3 (h:p:=by exact λhe=>aj ⟨hy.1,hy.2.1,λh=>aw h he,λ_=>rfl⟩):p:=h
def Zs (h:p:=by exact ⟨v,rfl,hr.1⟩):p:=h
def U4 (h:p:=by rw[p1 (p2 hx)]):p:=h
def ach (h:p:=by show ¬ p.bB+1>=(p.bM.length:Int);omega):p:=h
def ag4 (h:p:=by exact ⟨c,h1,h2.view (hr (j,.app el sz cells) (by simp)) hz hn⟩):p:=h
def aci (h:p:=by rw[<- dQ (ds:=ds) hx];exact MK x):p:=h
def bm (h:p:=by simp):p:=h
def DU (h:p:=by exact p2 (p2 yY)):p:=h
def acj (h:p:=by exact ⟨by decide,by decide,λ_=>Tf,λ_=>Tf,rfl,rfl,.inl ⟨by decide,rfl⟩,λi x y h=>by cases h⟩):p:=h
def A3 (h:p:=by exact ⟨a4,q4,rfl,by omega,h7,PA⟩):p:=h
def pY (h:p:=by exact p2 (p2 h)):p:=h
def Zt (h:p:=by exact λe=>aI (λ_=>aJ (λ_=>leaf (K:=8) dN) λe'=>aw (e.symm.trans e') dN) λe'=>aw (e.symm.trans e') dN):p:=h
def Ii (h:p:=by exact λh=>aj (by rw[aL jk])):p:=h
def Ij (h:p:=by exact λh=>aw Bx aD):p:=h
def ML (h:p:=by have:=aU h;omega):p:=h
def Qr (h:p:=by exact qK hm hC nx.self aD):p:=h
def ag5 (h:p:=by exact ⟨(by decide:(0:Int)<=2),(by decide:(2:Int)<=5),λh=>aw rfl h,λh=>aw rfl h,rfl,rfl,.inl ⟨(by decide:(2:Int)<3),rfl⟩,λi x y h=>by cases h⟩):p:=h
def A4 (h:p:=by exact aj trivial):p:=h
def ag6 (h:p:=by exact ⟨_,.inl ⟨by omega,Zu hC hL ht h6 q1 q2 hu hM⟩,.inr ⟨u.oZ,ho,rfl,by omega,o.2.2.1,rfl,adV hC hL ht q1 q2 hu hk⟩⟩):p:=h
def Fy (h:p:=by exact NH hm dN):p:=h
def MM (h:p:=by exact ⟨eL 0,aD,rfl⟩):p:=h
def ag7 (h:p:=by exact ⟨(by decide:(0:Int)<=5),(by decide:(5:Int)<=5),λ_=>Tf,λ_=>Tf,rfl,rfl,.inr (.inr uA),(Tp.one h).h⟩):p:=h
def JP (h:p:=by exact λh=>aw Bx akd):p:=h
def JQ (h:p:=by exact λ_=>by omega):p:=h
def Ik (h:p:=by exact ⟨rfl,eZ,eZ⟩):p:=h
def Qs (h:p:=by exact λ_ q=>by cases q):p:=h
def ack (h:p:=by exact ⟨λh=>by omega,λ_=>.inl rfl⟩):p:=h
def Zv (h:p:=by have:=bg h;omega):p:=h
def acm (h:p:=by exact λ_=>lY (ih.alt hm aD aD hq1 aD) λe a2 q2 h4 h5 Gs he=>hj _ ⟨⟨a2,q2,rfl,aD,h5,Gs⟩,he⟩):p:=h
def Gy (h:p:=by exact Aa hm hC h):p:=h
def MN (h:p:=by exact λh=>aw Bx rI):p:=h
def Il (h:p:=by exact Hu aD):p:=h
def acn (h:p:=by exact bI (a:=RF s T b a4 true (t4.cG+b)) rfl (hj _ _ ⟨_,l,rfl,n4.fs,rfl,by omega,hs⟩ _)):p:=h
def ag8 (h:p:=by exact λ_=>tv hm hC aD h7 aD):p:=h
def Qt (h:p:=by exact λh=>aw h dN):p:=h
def MO (h:p:=by exact λp q=>by cases q):p:=h
def aco (h:p:=by exact hj _ ⟨⟨a5,q,rfl,by omega,by omega,hq⟩,hw.l2,hw.l3,hw.l4,hw.l5,hw.l6,hw.l7,hw.d⟩):p:=h
def Qu (h:p:=by exact zm O (zH 10 O O Ő)):p:=h
def U5 (h:p:=by exact yZ hC (w:=v) agW eZ):p:=h
def U6 (h:p:=by exact λ_=>aF (hn _ aD aD)):p:=h
def ag9 (h:p:=by exact ⟨a,t,h0,by omega,ht,λq r=>hk ⟨q,r⟩,λ_=>rfl,λ_ _ _ _=>by omega⟩):p:=h
def acp (h:p:=by exact ⟨h0,eL _,ht,λh=>(by cases h),λ_=>rfl,λ_ _ _ _=>by omega⟩):p:=h
def Qv (h:p:=by rw[aC jk]):p:=h
def acq (h:p:=by exact gq _ aD):p:=h
def Zw (h:p:=by exact ⟨g',_,oM,σ',q,.panic hv,kL,sR⟩):p:=h
def DV (h:p:=by exact UC _ _):p:=h
def acr (h:p:=by exact ⟨r',h2,N+M,λi hi=>by dsimp only;rw[hN i aD];exact hM i aD⟩):p:=h
def ag_ (h:p:=by exact ⟨by rw[show (a+1).toNat=a.toNat+1 by omega,e,hp],by omega⟩):p:=h
def acs (h:p:=by exact λ_=>aE uu λz hz=>bH (DD.lf (hy.1.tr hz aD) ŗ)):p:=h
def Zx (h:p:=by rw[dQ hy];exact hc):p:=h
def Zy (h:p:=by exact λh=>iw (by rw[aL jk])):p:=h
def Zz (h:p:=by exact ⟨g',_,oM,σ',q,.ret,kL,sR⟩):p:=h
def U7 (h:p:=by exact λ_=>ay Td Td):p:=h
def acu (h:p:=by exact λ_=>b8 λ_=>hn _ (hv.tr (j:=0) (k:=1) ⟨rfl,eZ⟩ aD)):p:=h
def acv (h:p:=by exact df (λ_=>tv hm hC aD h3 aD) (λ_=>hj3 _ rfl)):p:=h
def acw (h:p:=by exact λ_=>tv hm hC aD h9 aD):p:=h
def U8 (h:p:=by exact ⟨a5,q5,rfl,by omega,yM,hq5⟩):p:=h
def acx (h:p:=by exact tT hm.1 hm.2.1):p:=h
def U9 (h:p:=by exact λ_=>aj rfl):p:=h
def ZA (h:p:=by exact ⟨a3+1,q1,rfl,aD,aD,hq1⟩):p:=h
def wZ (h:p:=by simpa using h2):p:=h
def A5 (h:p:=by simpa using hj):p:=h
def Dh (h:p:=by simpa using he):p:=h
def DY (h:p:=by simpa using hx):p:=h
def DZ (h:p:=by exact EO hm bm):p:=h
def Fz (h:p:=by simpa using h1):p:=h
def FA (h:p:=by simpa using hi):p:=h
def A6 (h:p:=by exact p2 DU):p:=h
def Va (h:p:=by simp[Op.operands];exact ⟨_,hp⟩):p:=h
def acy (h:p:=by exact ⟨ev x,by simp[execOp,ho],hx x uy⟩):p:=h
def acz (h:p:=by exact hn _ _ ⟨rfl,hX.snoc hX2,bm,rI,Gs,hg2.1.trans hg.1,by have:=hg.2;show p.bB<q2.bB;omega⟩):p:=h
def MP (h:p:=by simpa using h3):p:=h
def MQ (h:p:=by simpa using h5):p:=h
def Qw (h:p:=by exact aF (hn _ aD aD)):p:=h
def acA (h:p:=by exact λh=>aj ⟨λq=>⟨h,FZ⟩,λq=>by simp at q;exact λw=>q w.2⟩):p:=h
def acB (h:p:=by exact ⟨aD,eL _,hu,λ_=>by omega,λ_=>rfl,λ_ _ _ _=>by omega⟩):p:=h
def Qx (h:p:=by simpa using h7):p:=h
def BW (h:p:=by exact p2 yY):p:=h
def MR (h:p:=by exact Aa hm hC hr):p:=h
def JR (h:p:=by exact aw h dN):p:=h
def acC (h:p:=by exact qX.1 (by simpa using (by omega:x.toNat=95))):p:=h
def acD (h:p:=by exact ⟨⟨a9,q9,rfl,by omega,h21,hq9⟩,.new bm bm bm bm bm DY bm⟩):p:=h
def JS (h:p:=by exact p2 (p2 A6)):p:=h
def Vb (h:p:=by simpa using yL):p:=h
def Ř (h:p:=by
 (repeat' (with_reducible first|refine aF ?_|refine W (λ_ _=>?_)|apply ba|apply aH|refine dH (λ_=>?_) (λ_=>?_)|(apply cW;try dsimp only)))
 all_goals exact hj _ trivial):p:=h
def yC1 (h:p:=by
 obtain ⟨v,rfl,hc⟩:=NI hrO (I5 hc hp);obtain ⟨JT,Gz,_⟩:=BA hrO hc;repeat (first|refine I6 ?_|refine GA ?_)
 refine CG (n:=Tryz.f9.ntmps) [102,103] Tryz.call23 (Fa v) JT O ⟨O,O,O,O⟩ (λ_=>O2) (λx hx=>?_);exact zS (.inl O) _ (.cons (tq O O O) (.cons (tq O O O) .nil)) (Gz x hx).symm (gT _) trivial):p:=h
def yC2 (h:p:=by
 exact {
  rU:=λi e h=>by
   by_cases q:i=j
   ·subst q;have:e=.box (cs.set off (.arr nm 0)):=by simpa[bU,uC] using h.symm
    subst this;cases hR.rU i _ SH with
    | box h1 h2 h3 h4=>exact .box h1 h2 (h3.set hc λc hc=>by rw[hc.gO];exact .AS (by simp[Gh.unbind])) h4
   exact hR.rU i e ((he i e h).2 q)
  inj:=λi i' b h h'=>hR.inj i i' b (hs i h) (hs i' h')
  gl:=hR.gl
  apart:=λi b e h BX hb=>by
   by_cases q:i=j
   ·subst q;exact hR.apart i b _ SH rfl hb
   exact hR.apart i b e ((he i e h).2 q) BX hb
  size:=hR.size,yq:=hR.yq,own:=λi b h=>hR.own i b (hs i h),fix:=hR.fix,pP:=hR.pP,g0:=hR.g0,gn:=hR.gn,os:=hR.os,out:=hR.out,tape:=hR.tape
  x:=hR.x.FB rfl rfl (λi b hi hb=>⟨i,hs i hi,hb,.inl rfl⟩) (λi b e' _ hi=>by
   by_cases q:i=j
   ·subst q;exact Zk
   exact ⟨e',(he i _ hi).2 q,id⟩) }):p:=h
def yC3 (h:p:=by
 obtain ⟨v,rfl,hc⟩:=NI hrO (I5 hc hp);obtain ⟨JT,Gz,_⟩:=BA hrO hc;repeat (first|refine I6 ?_|refine GA ?_)
 refine CG (n:=Tryz.f144.ntmps) [104,102,103,112] Tryz.call189 (Fb v) JT O ⟨O,O,O,O⟩ (λ_=>O2) (λx hx=>?_);exact zS (.inl O) _ (.cons (tq O O O) (.cons (tq O O O) .nil)) (Gz x hx).symm (gT _) trivial):p:=h
def yC4 (h:p:=by
 (repeat' (with_reducible first|refine aF ?_|refine W (λ_ _=>?_)|apply ba|apply aH|refine dH (λ_=>?_) (λ_=>?_)|(apply cW;try dsimp only)))
 all_goals exact A4):p:=h
def yC6 (h:p:=by
 refine bz λ_ Hn=>bp (zm O (et (Hv O O) O (zQ Hn (GB O (λhc=>?_) (λhc=>?_)))))
 ·refine bp (et E9 O ?_);refine zm O (adW hr h [] Tryz.call14 (IF (rL.mk v)) ⟨O,O,O,O,O,O,trivial⟩ O (λ_=>O3) (λ_=>O2) (Hw (rL.mk v)) (λy2 h=>?_));refine zs O (zs O (lD (CH 0 O O) ?_));exact rJ (Hx (.inr O) _ h.symm ⟨O,O,trivial⟩)
 exact MJ):p:=h
def yC7 (h:p:=by
 refine bz λ_ Hn=>bp (zm O (et (NJ O) O (zQ Hn (GB O (λhc=>?_) (λhc=>?_)))))
 ·exact MJ
 exact lZ (Qy h)):p:=h
def yC8 (h:p:=by
 intro k k' b hk FC hb xH;by_cases q:k=nm
 ·by_cases q':k'=nm
  ·rw[q,q']
  subst q;rw[PB] at hb;cases hb;rw[hρ k' q'] at xH;exact aw (h.lt (uv k' FC q') xH) (uP _)
 by_cases q':k'=nm
 ·subst q';rw[PB] at xH;cases xH;rw[hρ k q] at hb;exact aw (h.lt (uv k hk q) hb) (uP _)
 rw[hρ k q] at hb;rw[hρ k' q'] at xH;exact h.inj k k' b (uv k hk q) (uv k' FC q') hb xH):p:=h
def yC9 (h:p:=by
 rcases fA i ops.size with q|q
 ·exact q
 rw[gE q] at ho;cases ho):p:=h
def ahb (h:p:=by
 rw[eQ];rcases fA i args.length with q|q
 ·obtain ⟨c,h1,h2⟩:=hv.get i args[i] bm;have:(vs.toArray++Array.replicate (fn.ntmps - vs.toArray.size) undef)[i]?=some c:=by
   rw[o6 rI];simpa using h1
  rw[this];simp[q];exact h2
 have e:args[i]?=none:=gY q;simp only[e,Ad];exact .any _):p:=h
def ahc (h:p:=by
 obtain ⟨_,h2⟩:=o7 xm;have h3:∀ (es:List cQ) (k:Nat),fc es k=true->es[k]?≠some (.box cs):=by
  intro es
  induction es with
  | nil=>intro k _;simp
  | cons e es ih=>
   intro k hk
   cases k with
   | zero=>intro q;simp at q;subst q;simp[fc] at hk
   | succ k=>simpa using ih k (by cases e<;>simpa[fc] using hk)
 exact h3 es k hk wZ):p:=h
def ahd (h:p:=by
 simp only[ZB,zU];refine cq (s9 j aD hm h0 h1 .no) ?_ ?_
 ·rintro _ _ ⟨x,a1,rfl,rfl,AR,hz,he⟩;obtain ⟨a2,t,nx⟩:=pZ hC true (a:=a1) Qm AR.lt;refine LK.closing hm hC nx (λht=>hk x a2 t (AR.trans nx.pg) nx.tk ht he) λv r hr=>hw v _ hr he
 rintro _ y ⟨v,rfl,f1,f2⟩;exact ai (xn hm hC f1) λr hr=>hw v _ hr f2):p:=h
def ahe (h:p:=by
 refine bR hm (λ(x:eb×Int)=>0<=x.2/\x.2<=4) (λx=>(4 - x.2).toNat) bm ?_;intro x hx next hn
 (repeat' (with_reducible first|refine aF ?_|refine W (λ_ _=>?_)|apply ba|apply aH|refine dH (λ_=>?_) (λ_=>?_)|(apply cW;try dsimp only)))
 ·exact hn _ eZ eZ
 exact A4):p:=h
def ahf (h:p:=by
 obtain ⟨v,rfl,hc⟩:=NI hrO (I5 hc hp);obtain ⟨JT,Gz,_⟩:=BA hrO hc;repeat (first|refine I6 ?_|refine GA ?_)
 refine CG (n:=Tryz.f6.ntmps) [102,103] Tryz.call13 (Fc v) JT O ⟨O,O,O,O⟩ (λ_=>O2) (λx hx=>?_);exact zS (.inl O) _ (.cons (tq O O O) (.cons (tq O O O) .nil)) (Gz x hx).symm (gT _) trivial):p:=h
def ř (h:p:=by
 exact hn _ yJ yJ):p:=h
def ahg (h:p:=by
 refine ai (Aa hm hC hw.1) λr hr=>ai DV λ_ _=>ay (λ_=>ay (λ_=>bI (Ab hr) (aj ⟨hr,hw.2⟩)) λ_=>aj ⟨hr,hw.2⟩) λ_=>?_;exact ai MR λr hr=>ai (JU hm hr hw.2) λz hz=>qY hm λ_=>bI (AU hz.1) (aH (aj ⟨hz.1,.one (k:=17) dN hz.2⟩))):p:=h
def ahh (h:p:=by
 have hlen:=hps.length;refine ⟨.slice (some ⟨w.heap.size,0,none⟩) n n,lj,e,cells,?_,by simp at hlen;omega,?_,.pv (.sl w.heap.size cells 0 n n cells JK bm bm BU)⟩
 ·simp only[execOp,ho,cC,oY,bQ,ep]
 rw[dI (by simp at hlen;simp;omega)];exact hps):p:=h
def ahi (h:p:=by
 have yL:j<es.length:=by simp at hj;omega
 rcases NK hk.bx hk.fx A5 (aA yL) with ⟨cs,xm⟩|⟨q1,q2,q3,q4⟩
 ·exact .inl ⟨cs,by have:=Ae (i:=0) (aA yL);rw[xm] at this;simpa using this⟩
 exact .inr ⟨tT q1 q2,λk e hkl he=>CI q3 k e (Vc hkl) he,q4⟩):p:=h
def ahj (h:p:=by
 have h2:=hF.le (sI g nm) YW;refine ⟨g.unbind nm,h1,h2.size,λi=>?_,h2.ds⟩;by_cases q:i=d
 ·subst q;have h3:=h2.oP i;simp only[cx,jF hd] at h3;simp only[cx,s6,if_true];rw[h3.gO];exact .AS (by simp[Gh.unbind])
 simpa[cx,s6,q] using h2.oP i):p:=h
def ahk (h:p:=by
 have h1:(List.range ks.length).contains j=decide (j<ks.length):=by
  by_cases q:j<ks.length<;>simp[q]
 rw[h1];simp only[below];by_cases q:j<ks.length
 ·simp[q,A7.2 q]
 have:Nat.blt j ks.length=false:=by
  cases h:Nat.blt j ks.length with
  | false=>rfl
  | true=>exact aw (A7.1 h) q
 simp[q,this]):p:=h
def adX (h:p:=by
 have:(List.range ks.length).any (λj=>nth ks j==k)=false:=by
  rw[rV];intro j hj;have:=kN.1 hf j hj;simpa using this
 simp[this]):p:=h
def ahl (h:p:=by
 unfold Fl;dsimp only;rw[show (v+1).toNat=v.toNat+1 by omega,LU];have ea:xJ Z (v.toNat+1)=(xJ Z v.toNat&&Z v.toNat):=rfl;rw[ea];congr 1
 ·cases c.uf<;>cases ow<;>cases xJ Z v.toNat<;>cases Z v.toNat<;>rfl
 rw[yr,<- xo];congr 1;refine decide_eq_decide.2 ?_;split<;>omega):p:=h
def ZC (h:p:=by
 obtain ⟨_,h2⟩:=o7 hj;exact JV j _ (by rw[GC,show j=j - 0 by omega,h2];rfl)):p:=h
def akq (h:p:=by
 intro v' w' oY ⟨g',kL,sR,Gw⟩;have hrun':(execOp a.eval o).run P w=.ok (.value v') w':=by
  simp only[execOp,ho,resolve,invoke,builtin,cC,ep,bQ,u9,jW,tw,oY]
 simp only[Oper.wp,hrun',Oper.upon];exact hK g' _ _ _ _ hn kL (sR.put hd Gw)):p:=h
def ahm (h:p:=by
 obtain ⟨cs,h4,h5⟩:=h1.run kL sR;refine ⟨if hh:cs.toArray.size=1 then cs.toArray[0] else .tuple cs.toArray,?_,g',.ret v,σ2,h3,.ret (h2 g' _ h5.yu),kL.sub hs⟩;rw[JW,<- Array.toArray_toList (xs:=fn.results)];simp only[List.mapM_toArray,cC,Sem.run_map,h4,bQ,ep]):p:=h
def akr (h:p:=by
 subst hm;have GD:l=[]:=eW (by simpa using PD);refine BY rfl GD ?_;rw[hq,UE];have hn0:news=[]:=eW (by rw[<- Hy.length,GD];rfl);simp[Builtin.append_,run_underlying ht,sizeOf,typeInfo,hi,Builtin.lenOf,Builtin.firstCells,loadCells,loadCellsFrom]):p:=h
def ahn (h:p:=by
 dsimp only;refine ai (ih.block hm aD aD hq9 aD) λr hr=>?_;obtain ⟨l,tl,p⟩:=r;obtain ⟨⟨a3,q3,hp,h4,h5,Ds⟩,he1,SJ,he3,he4⟩:=hr;dsimp only at hp he1 SJ he3 he4;subst hp;exact hj _ ⟨⟨a3,q3,rfl,by omega,h5,Ds⟩,.new bm he1 he3 he4 bm DY SJ⟩):p:=h
def aho (h:p:=by
 (repeat' (with_reducible first|refine aF ?_|refine W (λ_ _=>?_)|apply ba|apply aH|refine dH (λ_=>?_) (λ_=>?_)|(apply cW;try dsimp only)))
 exact hn _ ⟨eZ,eZ,hv.1,hv.2,rI,rI,h7⟩ eZ):p:=h
def ahp (h:p:=by
 by_cases q:i=j
 ·subst q;exact hR.apart i b _ SH rfl hb
 exact hR.apart i b e ((he i e h).2 q) BX hb):p:=h
def ahq (h:p:=by
 (repeat' (with_reducible first|refine aF ?_|refine W (λ_ _=>?_)|apply ba|apply aH|refine dH (λ_=>?_) (λ_=>?_)|(apply cW;try dsimp only)))
 exact hn _ rI yJ):p:=h
def ahr (h:p:=by
 rw[ho];refine aI (λ_=>aJ (λ_=>bn (qK hm hC nu (by have:=(lC ho).1;omega)) (hj _ _ ⟨_,a+1+1,rfl,rfl,pr.trans (nu.read hC (by have:=(lC ho).1;omega) (CJ ho dN)),rfl,rfl,rfl,rfl⟩)) dC) dC):p:=h
def Ś (h:p:=by
 rcases fA r.i ops.size with q|q
 ·exact q
 rw[gE q] at Im;cases Im):p:=h
def ahs (h:p:=by
 have h2:=hC.sorted aD ht hu;have h3:=hC.tok ht;have h4:=hC.tok hu;have:=hC.bs;have:=hC.b0;refine aF ?_;have:=ES (c:=s) (i:=t.oZ) (j:=u.cG) aD aD aD;exact ai (D1 aD) λ_ _=>aj rfl):p:=h
def aht (h:p:=by
 have hc3:cs.toList[off]?=some c:=by
  rw[gG] at hc1;split at hc1
  ·exact hc1
  cases hc1
 refine ⟨c,?_,Pz⟩;simp only[execOp,ho,hq,Instr.loadAt,Instr.sureAddr,cC,ep,bQ,A0 ha hw hc3]):p:=h
def ahu (h:p:=by
 unfold Io;rw[aL h];refine dV (h0 n) λy hy=>?_;subst hy;refine cP (λh=>dV (h1 n) λz hz=>?_) λh=>iF BV;subst hz;exact cP (λh2=>iF (by rw[h,h2];rfl)) λh2=>iF (by rw[h,h2];rfl)):p:=h
def ahv (h:p:=by
 (repeat' (with_reducible first|refine aF ?_|refine W (λ_ _=>?_)|apply ba|apply aH|refine dH (λ_=>?_) (λ_=>?_)|(apply cW;try dsimp only)))
 all_goals first|exact aj trivial|exact hj _ trivial):p:=h
def ś (h:p:=by
 split at h
 ·cases h;omega
 split at h
 ·cases h;omega
 split at h
 ·cases h;omega
 cases h):p:=h
def ahw (h:p:=by
 (repeat' (with_reducible first|refine aF ?_|refine W (λ_ _=>?_)|apply ba|apply aH|refine dH (λ_=>?_) (λ_=>?_)|(apply cW;try dsimp only)))
 ·exact hj _ λ_=>by omega
 exact hj _ bm):p:=h
def ahx (h:p:=by
 (repeat' (with_reducible first|refine aF ?_|refine W (λ_ _=>?_)|apply ba|apply aH|refine dH (λ_=>?_) (λ_=>?_)|(apply cW;try dsimp only)))
 all_goals exact hj _ aD):p:=h
def ahy (h:p:=by
 (repeat' (with_reducible first|refine aF ?_|refine W (λ_ _=>?_)|apply ba|apply aH|refine dH (λ_=>?_) (λ_=>?_)|(apply cW;try dsimp only)))
 all_goals exact xI _ trivial):p:=h
def ahz (h:p:=by
 have hj:=e9 hf;simp at hj;simp only[GC];have:j<(C x).length:=by omega
 rw[aA this];have h6:=Ae (i:=0) (aA this);simp at h6;rw[h6]):p:=h
def Ŝ (h:p:=by
 rw[aL jk,kn h dN,qQ];exact I dN):p:=h
def ahA (h:p:=by
 intro j e he;unfold fi.del at he;split at he
 ·cases he
 rename_i q;refine CI h.hm.2.2 j e ?_ he;cases hb:Nat.beq j k with
 | true=>exact aw (kH hb) q
 | false=>simp[hb]):p:=h
def ahB (h:p:=by
 unfold eE uD;refine cd (λe=>by omega) λ_=>aF (ai (ih hm aD aD aD) λr hr=>qY hm λ_=>bI (AU hr.1) (aH (aj hr)))):p:=h
def ahC (h:p:=by
 exact ay (λ_=>ai (Xd hm) λy _=>ai DZ λy _=>hj _ trivial) (λ_=>ai Vd λy _=>ai DZ λy _=>hj _ trivial)):p:=h
def ŝ (h:p:=by
 dsimp only;exact aF (aj ⟨⟨a3+1,q3,rfl,by omega,by omega,Ds⟩,he⟩)):p:=h
def ahD (h:p:=by
 rcases q with q|⟨j5,cap,DO,oY⟩
 ·have hd:=sR.ds;rw[q.1] at hd;simp only[bodyPostD,hd.ET];exact fin _ _ _ _ _ kL sR q
 exact runs j5 cap none .returning DO oY rfl bm):p:=h
def Ş (h:p:=by
 exact dJ (LV aD hx4) λw hw=>aj ⟨Hm,uz,hw⟩):p:=h
def adY (h:p:=by
 intro k b hk;have q:k≠nm:=λq=>by subst q;rw[hf] at hk;cases hk
 rw[hρ k q];exact h.fix k b hk):p:=h
def ahE (h:p:=by
 refine bV (F:=λi=>de i c [125] (ah.mk r.s r.shift r.l r.bB false r.iR r.qW)) hm λm hm=>?_;exact JX (l:=[]) hm hr.sk):p:=h
def ş (h:p:=by
 exact cA (λ_=>kJ) λh=>aw qk bm):p:=h
def Š (h:p:=by
 rintro _ y ⟨v,rfl,f1,f2⟩;exact aj ⟨v,rfl,f1⟩):p:=h
def ahF (h:p:=by
 by_cases q:i=j
 ·subst q;simp
 have:Nat.beq i j=false:=by
  cases h:Nat.beq i j with
  | false=>rfl
  | true=>exact aw (kH h) q
 simp[this,q,ih]):p:=h
def aks (h:p:=by
 rw[zh gR] at hk ⊢;simp only[l8,decide_eq_true_eq] at hk;rcases hk with q|q
 ·subst q;rw[ho] at Gz;cases Gz;simp[hr e he hb]
 simp[hI.down k ok Gz q e he hb]):p:=h
def ahG (h:p:=by
 simp only[cQ.Xe,fQ];rw[hc,<- hn',show 0+ii.toNat*1=ii.toNat by omega];rcases š f (xs:=xs) (i:=ii.toNat) (v:=v) with q|q
 ·rw[q];rfl
 omega):p:=h
def ahH (h:p:=by
 obtain ⟨M,hM⟩:=hm 1;refine ⟨r,h1,N+M,λi hi=>?_⟩;have h2:=hM i aD;rw[<- hN i aD];obtain ⟨q,hq⟩:∃ q,m i=q+1:=⟨m i - 1,aD⟩;simp only[hq];rfl):p:=h
def ahI (h:p:=by
 by_cases q:i=j
 ·subst q;exact ⟨by rw[SH];rfl,λq=>aw rfl q⟩
 have:bU s i=some e:=by simpa[bU,uC,q] using h
 exact ⟨by rw[this];rfl,λ_=>this⟩):p:=h
def Ţ (h:p:=by
 rw[aL jk];exact O (by decide +kernel) dN):p:=h
def akt (h:p:=by
 have:(cs.toList.take (len*i.size)++news).length=(cells++l).length:=by rw[JY,dS,IG,j6];simp;omega
 rw[<- this];exact tU):p:=h
def aku (h:p:=by
 rintro p w ⟨v,rfl,h1,h2⟩ F;exact bI (AU h1) (aH (aj ⟨v,rfl,h1,h2⟩))):p:=h
def akv (h:p:=by
 rw[yr,<- xo];congr 1;refine decide_eq_decide.2 ?_;split<;>omega):p:=h
def ahJ (h:p:=by
 rcases (hR.rU k _ xp).A8 with ⟨_,this⟩|⟨b',cs,el',h,_⟩
 ·rw[yo] at this;exact ZD hC I7 (by simpa using this)
 rw[h] at hb;cases hb):p:=h
def ahK (h:p:=by
 have uz:=hx;rw[ao] at uz;obtain ⟨q1,q2⟩:=uz;rw[cb q1,q2,show (v+1).toNat=v.toNat+1 by omega]):p:=h
def ahL (h:p:=by
 obtain ⟨hd,vs,v,σ2,h1,h2,hs,h3⟩:=q;obtain ⟨c,h4,h5⟩:=fin vs v σ2 h1 h2 hs h3;have:=sR.ds;rw[hd] at this;exact ⟨this.ET,c,h4,h5⟩):p:=h
def ahM (h:p:=by
 simp only[Cx,eQ];rcases fA i ops.size with q|q
 ·simp[q]
 rw[gE FZ];rfl):p:=h
def akw (h:p:=by
 have:=Af hI.down _ _ _ o ho hr q;rw[(gk.1 h1).2] at this;cases this):p:=h
def ahN (h:p:=by
 rcases h.hx with q|⟨q1,q2⟩
 ·rw[dQ q];exact .sl _ _ Qe
 rw[dQ q2];subst q1;rw[h.yo];exact .nil):p:=h
def ahO (h:p:=by
 unfold NL ZE;rw[aC qk,beq_eq_false_iff_ne.2 (show (e.fS.length:Int)+(e.J.length:Int)≠0 by omega)];simp):p:=h
def ahP (h:p:=by
 rcases bL.1 hz with w|w
 ·exact i4 z w
 simp at w;subst w;exact .mk hd.l1 hd.l2 hd.l3 hd.l4 aD i2 hd.l7 hd.kd hd.s hd.d):p:=h
def adZ (h:p:=by
 rw[aC (λq=>by rcases q with q|q<;>simp[q] at h5 h6)];simp;omega):p:=h
def ahQ (h:p:=by
 intro k b hk hb;by_cases q:k=nm
 ·subst q;rw[PB] at hb;cases hb;exact .inr h.size
 rw[hρ k q] at hb;exact h.own k b (uv k hk q) hb):p:=h
def ahR (h:p:=by
 refine ⟨_,_,hn,⟨Gv,F3,λj hj=>?_⟩,EP hdm,by rw[Hz,MS pX]⟩;simp at hj;simp[fi.set,fi.del,hj]):p:=h
def ahS (h:p:=by
 refine (bA λq=>?_).symm;rcases q with q|q|q
 ·rw[q] at h1;cases h1
 ·rw[q] at h2;cases h2
 rw[q] at h3;cases h3):p:=h
def ahT (h:p:=by
 obtain ⟨hd,σ2,Tq,uz⟩:=q;have:=sR.ds;rw[hd] at this;exact ⟨this.ET,u',rfl,_,res,⟨_,rfl⟩,hu',g',σ2,uz,kL.sub Tq⟩):p:=h
def ţ (h:p:=by
 exact ⟨λh=>by dsimp only at h ⊢;omega,λ_=>rfl⟩):p:=h
def akx (h:p:=by
 rintro _ y ⟨v,rfl,h1,h2⟩;exact qY hm λ_=>fin _ _ ⟨v,rfl,h1,h2⟩):p:=h
def ahU (h:p:=by
 rcases bL.1 hp with q|q
 ·exact h7 p q
 simp at q;subst q;exact ⟨aD,aD,λq=>by rw[c1] at q;cases q⟩):p:=h
def ahV (h:p:=by
 obtain ⟨_,h4⟩:=o7 hj;have h5:=(ao.1 h4).1;exact ⟨rI,by rw[Ve];exact GH h2 h4⟩):p:=h
def ahW (h:p:=by
 exact ai (vw hm aD h gR) λz hz=>dJ (GI hm) λw hw=>aj ⟨hz.1,hz.2,hw⟩):p:=h
def ahX (h:p:=by
 dsimp only;exact Ag hm hC aD aD aD λa4 t h6 h7 _ _ _=>aj ⟨⟨a4,q3,rfl,by omega,h7,Ds⟩,he⟩):p:=h
def ad0 (h:p:=by
 have:=nP x (Gz x hg);rw[<- (hV x).1,<- (hV x).2] at this;exact this):p:=h
def ahY (h:p:=by
 have:left ops listed=0:=by omega
 unfold left at this;rw[List.countP_eq_zero] at this;simpa using this i FA):p:=h
def ahZ (h:p:=by
 obtain ⟨_,or',hor',hhv,_⟩:=hI.qB r hr;rw[Im] at hor';cases hor';exact (xq Im ho (Ip r hr)).1 hhv d BZ):p:=h
def ah0 (h:p:=by
 have:IntKind.wrap .u64 x=x % 18446744073709551616:=by simp[IntKind.wrap,IntKind.bits,IntKind.signed]
 rw[this];omega):p:=h
def ah1 (h:p:=by
 simp only[PE,bk] at h;exact NK (ks:=ks) (es:=es) h.2 hf.2 A5 Dh):p:=h
def ah2 (h:p:=by
 rintro e w' ⟨N,rfl,_,_,hw⟩;exact ⟨g,_,rfl,.lM (.cons (.pv (.sc _)) (.cons (.vu _ (.any _)) .nil)),hR.below hw⟩):p:=h
def acE (h:p:=by
 rintro _ ⟨t',r⟩ ⟨⟨v,rfl⟩,hff⟩;exact dB (ZF (by show l'.length<=70000;omega)) (hf _ _ ⟨⟨v,rfl⟩,hff,bm⟩)):p:=h
def acF (h:p:=by
 by_cases q:i=c
 ·subst q;exact iS.1 hca j hj
 exact hI.JZ i j hi (by simp[q,Ho]) (by simp[hj])):p:=h
def acG (h:p:=by
 obtain ⟨⟨a3,q3,hp,h4,h5,Ds⟩,he⟩:=hr;dsimp only at hp he;subst hp;exact aj ⟨⟨a3,q3,rfl,h4,h5,Ds⟩,he⟩):p:=h
def ZG (h:p:=by
 simp[hv,hr] at h;subst h;simp[ih r hr,dQ (ds:=ds) hv]):p:=h
def ah3 (h:p:=by
 have:len*i.size<=g.cp k*i.size:=by rw[<- hlen,<- hcz];exact hcle
 exact mu this MT):p:=h
def acH (h:p:=by
 refine lD (I8 (j:=0) (off:=0) 3 (sz:=1) (el:=5) (hE _ O) O O O3 O) ?_;exact rJ (zY .nil h O)):p:=h
def acI (h:p:=by
 rw[yr,<- xo];congr 1;refine decide_eq_decide.2 ?_;rw[mk.2];have:=mk.1;split<;>omega):p:=h
def acJ (h:p:=by
 rw[show (v+1).toNat=v.toNat+1 by omega];show (xJ Z v.toNat&&Z v.toNat)=true;rw[v2,<- hy,h];rfl):p:=h
def acK (h:p:=by
 have e:((oL b t).an==3)=false:=h3;dsimp only [aG.br];rw[e];exact bZ ⟨rfl,λq=>by cases q⟩):p:=h
def acL (h:p:=by
 rw[aL jk];exact ay (λh=>aj BV) λh=>aj BV):p:=h
def acM (h:p:=by
 unfold Wr;dsimp only [xJ,mx,Int.toNat];rw[qQ];congr 2;exact decide_eq_decide.2 aD):p:=h
def acN (h:p:=by
 obtain ⟨z,hz,M,hM⟩:=h1.get;have:=hM M BU;cases this;exact nU (r:=.ok b) hN hz):p:=h
def acO (h:p:=by
 simp only[HA,ho,bk,iS] at h1;have:=h1.1 e he;simpa[hb] using this):p:=h
def acP (h:p:=by
 simp at q2;have:a=95:=qX.1 (by simpa using (by omega:a.toNat=95));subst this;rfl):p:=h
def acQ (h:p:=by
 simp at q;have:a=35:=qX.1 (by simpa using (by omega:a.toNat=35));subst this;rfl):p:=h
def acR (h:p:=by
 refine ai (Jv hm hC hf) λz hz=>aj ⟨_,rfl,hz.sk,?_⟩;dsimp only;rw[e1,e2];exact .nil):p:=h
def acS (h:p:=by
 obtain ⟨_,or,Im,_,DO,_⟩:=hI.qB r hr;exact (MU r hr or Im d q).2 (DO.symm.trans BZ)):p:=h
def acT (h:p:=by
 simp only[PE,bk,fj] at h;exact .inr ⟨h.1.1.1,h.1.1.2,h.1.2,hf.1⟩):p:=h
def acU (h:p:=by
 rintro _ ⟨t',r⟩ ⟨⟨v,rfl⟩,hf⟩;exact qY hm λnext=>stop (r,[t']) hf (ik 1) next):p:=h
def ZH (h:p:=by
 exact ai Fy λ_ h=>aj h):p:=h
def acV (h:p:=by
 rw[dS,fQ];rcases hw with h|h
 ·omega
 subst h;simp;omega):p:=h
def ah4 (h:p:=by
 refine BY hm GD ?_;rw[hq,UE,hm];exact uQ ht hi none 0 0 cap BU w):p:=h
def acW (h:p:=by
 obtain ⟨⟨a',q',hp,h1,h2,h3⟩,h4⟩:=hr;dsimp only at hp;subst hp;exact hk x a' q' h1 h2 h3 h4):p:=h
end
def gj:=@List.append_assoc
def nN:=@List.drop_append_of_le_length
def eQ:=@Array.getD_eq_getD_getElem?
def cf:=@List.mem_cons
def fA:=@Nat.lt_or_ge
def gE:=@Array.getElem?_eq_none
def uP:=@Nat.lt_irrefl
def o8:=@Array.getElem?_eq_some_iff
def gv:=@Array.getElem?_eq_getElem
def jV:=@Nat.le_trans
def kO:=@Nat.lt_of_lt_of_le
def qZ:=@Nat.not_lt
def cC:=@Sem.run_bind
def bQ:=@Result.andThen_ok
def r6:=@Addr.add_lit
def gG:=@List.getElem?_take
def dz:=@List.getElem?_drop
def nV:=@List.drop_take
def j8:=@List.drop_drop
def dI:=@List.take_of_length_le
def mu:=@Nat.le_of_mul_le_mul_right
def eW:=@List.eq_nil_of_length_eq_zero
def ep:=@Sem.run_pure
def r7:=@List.take_take
def ta:=@Nat.min_eq_left
def ao:=@List.getElem?_eq_some_iff
def gq:=@Nat.mul_le_mul_right
def iT:=@List.length_take
def gP:=@List.length_drop
def jH:=@List.take_succ_eq_append_getElem
def ik:=@Nat.le_refl
def eX:=@List.getElem?_map
def gY:=@List.getElem?_eq_none
def sJ:=@Option.bind_some
def iS:=@List.all_eq_true
def qR:=@Prod.mk.injEq
def jW:=@List.map_cons
def bL:=@List.mem_append
def pQ:=@List.mem_of_mem_take
def iE:=@List.length_map
def j6:=@Nat.add_mul
def dS:=@List.length_append
def tU:=@List.take_left
def u9:=@List.map_toArray
def tw:=@List.map_nil
def l9:=@List.append_nil
def bk:=@Bool.and_eq_true
def kN:=@List.find?_eq_none
def nj:=@List.find?_some
def e9:=@List.mem_of_find?_eq_some
def mB:=@List.any_eq_true
def lq:=@Bool.or_eq_false_iff
def o6:=@Array.getElem?_append_left
def Ad:=@Option.getD_none
def iC:=@Bool.not_true
def ll:=@Bool.false_or
def vP:=@List.mem_map
def rV:=@List.any_eq_false
def l8:=@Bool.or_eq_true
def gK:=@List.mem_filter
def tV:=@List.mem_range
def fj:=@Bool.not_eq_true'
def vQ:=@Option.map_some
def Ah:=@Option.getD_some
def fm:=@Bool.false_eq_true
def r8:=@Bool.not_false
def mC:=@List.cons_append
def cw:=@List.not_mem_nil
def kH:=@Nat.eq_of_beq_eq_true
def fR:=@Nat.le_of_ble_eq_true
def xr:=@List.mapM_cons
def sH:=@Nat.blt_eq
def sK:=@List.mem_cons_of_mem
def jI:=@List.length_cons
def qC:=@List.getElem_of_mem
def aA:=@List.getElem?_eq_getElem
def vd:=@Bool.not_eq_true
def uZ:=@Nat.lt_succ_self
def fk:=@List.flatMap_cons
def tW:=@List.drop_zero
def xC:=@Nat.one_mul
def r9:=@Nat.succ_mul
def tz:=@Nat.add_comm
def qD:=@List.flatMap_append
def nQ:=@List.take_succ_cons
def qL:=@List.getElem?_cons_zero
def nO:=@List.getElem?_cons_succ
def fQ:=@List.length_singleton
def aP:=@List.mem_of_getElem?
def qM:=@List.length_eq_zero_iff
def ql:=@List.take_length
def vR:=@List.cons.injEq
def o9:=@List.cons.inj
def fE:=@List.getElem?_append_left
def tA:=@Nat.pow_succ
def rW:=@Int.toNat_natCast
def mI:=@List.take_append_drop
def ra:=@List.length_set
def tc:=@List.nil_append
def AZ:=@Nat.not_lt_zero
def oA:=@Int.lt_or_le
def cM:=@List.mem_singleton
def qX:=@UInt8.toNat_inj
def jX:=@Int.tdiv_eq_ediv_of_nonneg
def ga:=@List.getElem?_append_right
def oQ:=@List.sizeOf_lt_of_mem
def eL:=@Int.le_refl
def pR:=@List.mem_or_eq_of_mem_set
def uE:=@List.getElem?_set_self
def cV:=@Bool.eq_iff_iff
def oR:=@List.mem_iff_getElem?
def cb:=@List.drop_eq_getElem_cons
def pa:=@Bool.true_and
def dR:=@List.drop_eq_nil_of_le
def rX:=@List.find?_append
def pn:=@List.take_add_one
def jy:=@Option.some.inj
def qS:=@BEq.rfl
def lN:=@Bool.eq_false_iff
def s7:=@List.length_pos_iff
def vS:=@List.map_append
def nR:=@List.reverse_append
def mh:=@List.reverse_singleton
def mJ:=@List.singleton_append
def F4:=@List.mem_reverse
def iD:=@Int.tmod_eq_emod_of_nonneg
def qg:=@Bool.and_false
def qT:=@List.any_cons
def xu:=@Bool.and_assoc
def qQ:=@Bool.and_true
def xv:=@Bool.false_and
def yr:=@Bool.or_assoc
def xo:=@Bool.decide_or
def bg:=@of_decide_eq_true
def aU:=@of_decide_eq_false
def aV:=@decide_eq_true
def bA:=@decide_eq_false
def aC:=@if_neg
def aL:=@if_pos
def cn:=@beq_iff_eq
def iy:=@congrArg
def aw:=@absurd
def GF (w:World):Prop:=(∃ m:Int,w.cell? ⟨0,0,none⟩=some (.int .i64 m))/\(∃ ev,w.cell? ⟨1,0,none⟩=some ev/\(ev=.nilIface\/∃ te pe,ev=.iface te pe))/\
 (∃ ev,w.cell? ⟨2,0,none⟩=some ev/\(ev=.nilIface\/∃ te pe,ev=.iface te pe))/\∃ el fz,w.heap[3]?=some (.cells (Lib.pow10Tab.map λz=>Value.int .u64 z).toArray el fz)
section
inductive PV where
 | sc (v:Value)
 | sl (n:Nat) (cells:List PV)
 | pt (o:Option (List PV))
inductive AV where
 | any
 | oc
 | pv (p:PV)
 | ptr (k off:Nat)
 | arr (k n:Nat)
 | sp (cells:List PV)
 | fn (f:FuncId) (first captured:List AV)
 | agg (cs:List AV)
 | lM (vs:List AV)
 | vu (t:TypeId) (v:AV)
structure Gh where
 ρ:Nat->Option Nat
 cp:Nat->Nat
 G:Nat->Option (List PV)
inductive PR (g:Gh):PV->Value->Prop
 | sc (v:Value):PR g (.sc v) v
 | nil (a:Option Addr) (cap:Nat):PR g (.sl 0 []) (.slice a 0 cap)
 | sl (b:Nat) (ys:List PV) (off n cap:Nat) (cells:List PV) (h:g.G b=some ys) (hl:off+cells.length<=ys.length)
  (hc:cells=(ys.drop off).take cells.length) (hn:n<=cap):PR g (.sl n cells) (.slice (some ⟨b,off,none⟩) n cap)
 | ZI:PR g (.pt none) (.pointer none)
 | YC (b:Nat) (ys:List PV) (off:Nat) (cells:List PV) (h:g.G b=some ys) (hl:off+cells.length<=ys.length)
  (hc:cells=(ys.drop off).take cells.length):PR g (.pt (some cells)) (.pointer (some ⟨b,off,none⟩))
inductive uF (g:Gh):List PV->List Value->Prop
 | nil:uF g [] []
 | cons {p:PV} {v:Value} {ps:List PV} {vs:List Value} (h:PR g p v) (t:uF g ps vs):uF g (p::ps) (v::vs)
mutual
inductive VR (g:Gh):AV->Value->Prop
 | any (v:Value):VR g .any v
 | oc {v:Value} (h:v.oneCell'=true):VR g .oc v
 | pv {p:PV} {v:Value} (h:PR g p v):VR g (.pv p) v
 | ptr {k b:Nat} (off:Nat) (h:g.ρ k=some b):VR g (.ptr k off) (.pointer (some ⟨b,off,none⟩))
 | arr {k b:Nat} (n:Nat) (h:g.ρ k=some b):VR g (.arr k n) (.slice (some ⟨b,0,none⟩) n (g.cp k))
 | AS {k:Nat} (h:g.ρ k=none):VR g (.arr k 0) (.slice none 0 0)
 | sp {b:Nat} {ys:List PV} (off:Nat) {cells:List PV} (h:g.G b=some ys) (hl:off+cells.length<=ys.length) (hc:cells=(ys.drop off).take cells.length) :
  VR g (.sp cells) (.pointer (some ⟨b,off,none⟩))
 | fn (f:FuncId) {x y:List AV} {xs ys:List Value} (hx:Y g x xs) (hy:Y g y ys):VR g (.fn f x y) (.func (.func f) xs.toArray ys.toArray)
 | agg {cs:List AV} {vs:List Value} (h:Y g cs vs):VR g (.agg cs) (.agg vs.toArray)
 | lM {cs:List AV} {vs:List Value} (h:Y g cs vs):VR g (.lM cs) (.tuple vs.toArray)
 | vu (t:TypeId) {x:AV} {v:Value} (h:VR g x v):VR g (.vu t x) (.iface t v)
inductive Y (g:Gh):List AV->List Value->Prop
 | nil:Y g [] []
 | cons {p:AV} {v:Value} {ps:List AV} {vs:List Value} (h:VR g p v) (t:Y g ps vs):Y g (p::ps) (v::vs)
end
variable {g:Gh}
def Y.length {cs:List AV}:∀ {vs:List Value},Y g cs vs->cs.length=vs.length:=by
 induction cs with
 | nil=>intro vs h;cases h;rfl
 | cons a l ih=>intro vs h;cases h with|cons _ t=>simp[ih t]
variable {cs:List PV}
def uF.length:∀ {vs:List Value},uF g cs vs->cs.length=vs.length:=by
 induction cs with
 | nil=>intro vs h;cases h;rfl
 | cons a l ih=>intro vs h;cases h with|cons _ t=>simp[ih t]
def Y.get {cs:List AV}:∀ {vs:List Value},Y g cs vs->∀ (i:Nat) (x:AV),cs[i]?=some x->∃ v,vs[i]?=some v/\VR g x v:=by
 induction cs with
 | nil=>intro vs h i x hx;simp at hx
 | cons a l ih=>
  intro vs h i x hx
  cases h with
  | cons h0 t=>
   cases i with
   | zero=>simp at hx;subst hx;exact ⟨_,rfl,h0⟩
   | succ i=>simpa using ih t i x DY
def uF.get:∀ {vs:List Value},uF g cs vs->∀ (i:Nat) (x:PV),cs[i]?=some x->∃ v,vs[i]?=some v/\PR g x v:=by
 induction cs with
 | nil=>intro vs h i x hx;simp at hx
 | cons a l ih=>
  intro vs h i x hx
  cases h with
  | cons h0 t=>
   cases i with
   | zero=>simp at hx;subst hx;exact ⟨_,rfl,h0⟩
   | succ i=>simpa using ih t i x DY
def Y.append {cs ds:List AV}:∀ {vs us:List Value},Y g cs vs->Y g ds us->Y g (cs++ds) (vs++us):=by
 induction cs with
 | nil=>intro vs us h hd;cases h;simpa using hd
 | cons a l ih=>intro vs us h hd;cases h with|cons h0 t=>exact .cons h0 (ih t hd)
def uF.append {ds:List PV}:∀ {vs us:List Value},uF g cs vs->uF g ds us->uF g (cs++ds) (vs++us):=by
 induction cs with
 | nil=>intro vs us h hd;cases h;simpa using hd
 | cons a l ih=>intro vs us h hd;cases h with|cons h0 t=>exact .cons h0 (ih t hd)
def Y.drop:∀ (i:Nat) {cs:List AV} {vs:List Value},Y g cs vs->Y g (cs.drop i) (vs.drop i):=by
 intro i
 induction i with
 | zero=>intro cs vs h;simpa using h
 | succ i ih=>intro cs vs h;cases h with
  | nil=>exact .nil
  | cons _ t=>simpa using ih t
def Y.take:∀ (i:Nat) {cs:List AV} {vs:List Value},Y g cs vs->Y g (cs.take i) (vs.take i):=by
 intro i
 induction i with
 | zero=>intro cs vs h;simpa using Y.nil
 | succ i ih=>intro cs vs h;cases h with
  | nil=>exact .nil
  | cons h0 t=>simpa using Y.cons h0 (ih t)
def uF.drop:∀ (i:Nat) {cs:List PV} {vs:List Value},uF g cs vs->uF g (cs.drop i) (vs.drop i):=by
 intro i
 induction i with
 | zero=>intro cs vs h;simpa using h
 | succ i ih=>intro cs vs h;cases h with
  | nil=>exact .nil
  | cons _ t=>simpa using ih t
def uF.take:∀ (i:Nat) {cs:List PV} {vs:List Value},uF g cs vs->uF g (cs.take i) (vs.take i):=by
 intro i
 induction i with
 | zero=>intro cs vs h;simpa using uF.nil
 | succ i ih=>intro cs vs h;cases h with
  | nil=>exact .nil
  | cons h0 t=>simpa using uF.cons h0 (ih t)
def uF.vrs:∀ {vs:List Value},uF g cs vs->Y g (cs.map .pv) vs:=by
 induction cs with
 | nil=>intro vs h;cases h;exact .nil
 | cons a l ih=>intro vs h;cases h with|cons h0 t=>exact .cons (.pv h0) (ih t)
def AV.iQ (k:Nat):AV->Bool
 | .any|.oc|.pv _|.sp _=>false
 | .ptr j _=>j==k
 | .arr j _=>j==k
 | .fn _ xs ys=>ka k xs||ka k ys
 | .agg cs=>ka k cs
 | .lM cs=>ka k cs
 | .vu _ v=>v.iQ k
where
 ka (k:Nat):List AV->Bool
  | []=>false
  | x::xs=>x.iQ k||ka k xs
structure wP (nn:Nat->Prop) (g g':Gh):Prop where
 ρ:∀ k,¬ nn k->g'.ρ k=g.ρ k
 cp:∀ k,¬ nn k->g'.cp k=g.cp k
 G:∀ b ys,g.G b=some ys->∃ zs,g'.G b=some (ys++zs)
def wP.refl (nn:Nat->Prop) (g:Gh):wP nn g g:=⟨λ_ _=>rfl,λ_ _=>rfl,λ_ _ h=>⟨[],jk⟩⟩
variable {b:Gh}
def wP.trans {a c:Gh} (h:wP nn a b) (h':wP nn b c):wP nn a c:=
 ⟨λk hk=>(h'.ρ k hk).trans (h.ρ k hk),λk hk=>(h'.cp k hk).trans (h.cp k hk),λb ys hb=>by
  obtain ⟨zs,h1⟩:=h.G b ys hb;obtain ⟨us,h2⟩:=h'.G b _ h1;exact ⟨zs++us,by rw[h2,gj]⟩⟩
def NM {ys zs:List PV} {off:Nat} {cells:List PV} (hl:off+cells.length<=ys.length) (hc:cells=(ys.drop off).take cells.length) :
  off+cells.length<=(ys++zs).length/\cells=((ys++zs).drop off).take cells.length:=by
 refine ⟨rI,?_⟩
 rw[nN aD,List.take_append_of_le_length rI]
 exact hc
variable {g':Gh} {p:PV}
def PR.le (hg:wP nn g g') (h:PR g p v):PR g' p v:=by
 cases h with
 | sc=>exact .sc _
 | nil=>exact .nil _ _
 | sl b ys off n cap cells h hl hc hn=>
  obtain ⟨zs,h'⟩:=hg.G _ _ h
  obtain ⟨h1,h2⟩:=NM (zs:=zs) hl hc
  exact .sl b _ off n cap cells h' h1 h2 hn
 | ZI=>exact .ZI
 | YC b ys off cells h hl hc=>
  obtain ⟨zs,h'⟩:=hg.G _ _ h
  obtain ⟨h1,h2⟩:=NM (zs:=zs) hl hc
  exact .YC b _ off cells h' h1 h2
variable {ps:List PV}
def uF.le (hg:wP nn g g'):∀ {vs:List Value},uF g ps vs->uF g' ps vs:=by
 induction ps with
 | nil=>intro vs h;cases h;exact .nil
 | cons a l ih=>intro vs h;cases h with|cons h0 t=>exact .cons (h0.le hg) (ih t)
def PR.congr (hG:∀ b ys,g.G b=some ys->g'.G b=some ys) (h:PR g p v):PR g' p v:=by
 cases h with
 | sc=>exact .sc _
 | nil=>exact .nil _ _
 | sl b ys off n cap cells h hl hc hn=>exact .sl b ys off n cap cells (hG _ _ h) hl hc hn
 | ZI=>exact .ZI
 | YC b ys off cells h hl hc=>exact .YC b ys off cells (hG _ _ h) hl hc
def uF.congr (hG:∀ b ys,g.G b=some ys->g'.G b=some ys):∀ {vs:List Value},uF g ps vs->uF g' ps vs:=by
 induction ps with
 | nil=>intro vs h;cases h;exact .nil
 | cons a l ih=>intro vs h;cases h with|cons h0 t=>exact .cons (h0.congr hG) (ih t)
def sB:=@uF.congr
mutual
def VR.le {nn:Nat->Prop} {g g':Gh} (hg:wP nn g g'):∀ {x:AV} {v:Value},(∀ k,nn k->x.iQ k=false)->VR g x v->VR g' x v
 | .any,_,_,_=>.any _
 | .oc,_,_,h=>by cases h with|oc h=>exact .oc h
 | .pv _,_,_,h=>by cases h with|pv h=>exact .pv (h.le hg)
 | .ptr k off,_,hm,h=>by
  cases h with|ptr _ h=>exact .ptr off (by rw[hg.ρ];exact h;intro q;simpa[AV.iQ] using hm _ q)
 | .arr k n,_,hm,h=>by
  have hk:¬ nn k:=by intro q;simpa[AV.iQ] using hm _ q
  cases h with
  | arr _ h=>rw[<- hg.cp k hk];exact .arr n Tg
  | AS h=>exact .AS Tg
 | .sp _,_,_,h=>by cases h with
  | sp off h hl hc=>
   obtain ⟨zs,h'⟩:=hg.G _ _ h
   obtain ⟨h1,h2⟩:=NM (zs:=zs) hl hc
   exact .sp off h' h1 h2
 | .fn f x y,_,hm,h=>by
  cases h with
  | fn _ hx hy=>
   exact .fn f (Y.le hg (λk q=>by have:=hm k q;simp[AV.iQ] at this;exact this.1) hx)
    (Y.le hg (λk q=>by have:=hm k q;simp[AV.iQ] at this;exact this.2) hy)
 | .agg x,_,hm,h=>by cases h with|agg h=>exact .agg (Y.le hg Y4 h)
 | .lM x,_,hm,h=>by cases h with|lM h=>exact .lM (Y.le hg Y4 h)
 | .vu t x,_,hm,h=>by cases h with|vu _ h=>exact .vu t (VR.le hg Y4 h)
def Y.le {nn:Nat->Prop} {g g':Gh} (hg:wP nn g g'):∀ {x:List AV} {v:List Value},(∀ k,nn k->AV.iQ.ka k x=false)->Y g x v->Y g' x v
 | [],_,_,h=>by cases h;exact .nil
 | x::xs,_,hm,h=>by
  cases h with
  | cons h t=>
   exact .cons (VR.le hg (λk q=>by have:=hm k q;simp[AV.iQ.ka] at this;exact this.1) h)
    (Y.le hg (λk q=>by have:=hm k q;simp[AV.iQ.ka] at this;exact this.2) t)
end
inductive cQ where
 | box (cells:List AV)
 | arr (el:TypeId) (sz:Nat) (cells:List PV)
 | app (el:TypeId) (sz:Nat) (cells:List PV)
def cQ.isApp:cQ->Bool
 | .app ..=>true
 | _=>false
def cQ.cells:cQ->List AV
 | .box cs=>cs
 | .arr _ _ cs=>cs.map .pv
 | .app _ _ cs=>cs.map .pv
abbrev fi:=Nat->Option cQ
def Flat (cs:Array Value):Prop:=∀ v,v∈cs.toList->v.oneCell'=true
inductive qN (g:Gh) (w:World) (k:Nat):cQ->Prop
 | box {b:Nat} {cells:List AV} {cs:Array Value} {el:TypeId} (h:g.ρ k=some b) (hw:w.heap[b]?=some (.cells cs el (0,0)))
  (hc:Y g cells cs.toList) (h1:Flat cs):qN g w k (.box cells)
 | AS {el:TypeId} {sz:Nat} (h:g.ρ k=none):qN g w k (.arr el sz [])
 | arr {b:Nat} {sz:Nat} {cells:List PV} {cs:Array Value} {el:TypeId} (h:g.ρ k=some b) (hw:w.heap[b]?=some (.cells cs el (0,0)))
  (hl:cells.length<=cs.size) (hz:cs.size=g.cp k*sz) (hm:g.cp k<=maxLen) (hc:uF g cells (cs.toList.take cells.length)):qN g w k (.arr el sz cells)
 | IH {el:TypeId} {sz:Nat} (h:g.ρ k=none):qN g w k (.app el sz [])
 | app {b:Nat} {sz:Nat} {cells:List PV} {cs:Array Value} {el:TypeId} (h:g.ρ k=some b) (hG:g.G b=some cells) (hw:w.heap[b]?=some (.cells cs el (0,0)))
  (hl:cells.length<=cs.size) (hz:cs.size=g.cp k*sz) (hm:g.cp k<=maxLen) (hc:uF g cells (cs.toList.take cells.length)):qN g w k (.app el sz cells)
def Vf (g:Gh) (w:World):Prop:=∀ b ys,g.G b=some ys->∃ cs el fz,w.heap[b]?=some (.cells cs el fz)/\ys.length<=cs.size/\uF g ys (cs.toList.take ys.length)
structure Env where
 wS:World
 w0:World
 own:Nat->Prop
 G0:Nat->Option (List PV)
 fix:Nat->Option Nat
 pP:Nat->Nat
structure HB (E:Env) (g:Gh) (σ:fi) (w:World):Prop where
 Iq:∀ (b:Nat) (cs:Array Value) (el:TypeId) (fz:Nat×Nat),E.w0.heap[b]?=some (.cells cs el fz)->∃ lj:Array Value,w.heap[b]?=some (.cells lj el fz)/\lj.size=cs.size
 flat:∀ (k b:Nat) (cs:Array Value) (el:TypeId) (fz:Nat×Nat),E.fix k=some b->E.w0.heap[b]?=some (.cells cs el fz)->Flat cs->∃ lj:Array Value,w.heap[b]?=some (.cells lj el fz)/\Flat lj
 set:∀ b,b<E.wS.heap.size->w.heap[b]?=E.wS.heap[b]?
 HC:E.wS.heap.size<=E.w0.heap.size
 hi:∀ k b,(σ k).isSome=true->g.ρ k=some b->E.wS.heap.size<=b
 gf:GF E.wS
 wQ:∀ k b,E.fix k=some b->b<E.w0.heap.size
 xw:∀ k b,E.fix k=some b->g.G b=none
 wR:∀ k b k',E.fix k=some b->(σ k').isSome=true->g.ρ k'=some b->k'=k
 wT:∀ k b e,E.fix k=some b->σ k=some e->∃ cs,e=.box cs
structure Rel (E:Env) (g:Gh) (σ:fi) (w:World):Prop where
 rU:∀ k e,σ k=some e->qN g w k e
 inj:∀ k k' b,(σ k).isSome=true->(σ k').isSome=true->g.ρ k=some b->g.ρ k'=some b->k=k'
 gl:Vf g w
 apart:∀ k b e,σ k=some e->e.isApp=false->g.ρ k=some b->g.G b=none
 size:E.w0.heap.size<=w.heap.size
 yq:∀ b,b<E.w0.heap.size->¬ E.own b->w.heap[b]?=E.w0.heap[b]?
 own:∀ k b,(σ k).isSome=true->g.ρ k=some b->E.own b\/E.w0.heap.size<=b
 fix:∀ k b,E.fix k=some b->g.ρ k=some b
 pP:∀ k b,E.fix k=some b->g.cp k=E.pP k
 g0:∀ b ys,E.G0 b=some ys->∃ zs,g.G b=some (ys++zs)
 gn:∀ b ys,g.G b=some ys->E.G0 b=some ys\/E.own b\/E.w0.heap.size<=b
 os:w.os=E.w0.os
 out:w.output=E.w0.output
 tape:w.tape=E.w0.tape
 x:HB E g σ w
def Env.of (wS:World) (g:Gh) (σ:fi) (w:World):Env where
 wS:=wS
 w0:=w
 own:=λb=>∃ k,(σ k).isSome=true/\g.ρ k=some b
 G0:=g.G
 fix:=λk=>match σ k with|some (.box _)=>g.ρ k|_=>none
 pP:=g.cp
def cQ.le (e e':cQ):Prop:=∀ (g:Gh) (w:World) (k:Nat),qN g w k e->qN g w k e'
def cQ.le_refl (e:cQ):e.le e:=λ_ _ _ h=>h
def nh:=@cQ.le_refl
def Cov (σ:fi) (p:Nat×cQ):Prop:=∃ e,σ p.1=some e/\e.le p.2
structure kG where
 s:Nat->AV
 ds:List (FuncId×List AV)
inductive DR (g:Gh):List (FuncId×List AV)->List Deferred->Prop
 | nil:DR g [] []
 | cons {f:FuncId} {cap:List AV} {cv:List Value} {l:List (FuncId×List AV)} {ds:List Deferred} (h:Y g cap cv) (t:DR g l ds) :
  DR g ((f,cap)::l) ({ target:=.fn (.func f) cv.toArray,args:=#[] }::ds)
structure FR (n:Nat) (g:Gh) (fr:kG) (a:Act):Prop where
 size:a.tmps.size=n
 oP:∀ i,VR g (fr.s i) (a.tmps.getD i undef)
 ds:DR g fr.ds a.defers
def kG.put (fr:kG) (d:Nat) (v:AV):kG:={ fr with s:=λi=>if i=d then v else fr.s i }
def kG.pS (fr:kG) (d:Option Nat) (v:AV):kG:=match d with|some d=>fr.put d v|none=>fr
def kG.val (fr:kG):Operand->AV
 | .tmp t=>fr.s t
 | .const v=>.pv (.sc v)
 | .global _=>.any
 | .func f=>.fn f [] []
variable {fr:kG}
def FR.eval (h:FR n g fr a) (x:Operand):VR g (fr.val x) (a.eval x):=by
 cases x with
 | tmp t=>exact h.oP t
 | const v=>exact .pv (.sc v)
 | global k=>exact .any _
 | func f=>exact .fn f .nil .nil
def FR.put (h:FR n g fr a) {d:Option Nat} {v:AV} (hd:∀ x,d=some x->x<n) (hv:VR g v c) :
  FR n g (fr.pS d v) (a.put d c):=by
 cases d with
 | none=>exact h
 | some d=>
  refine ⟨by simp[Act.put,h.size],λi=>?_,h.ds⟩
  simp only[kG.pS,kG.put,Act.put]
  by_cases hi:i=d
  ·subst hi
   have:=hd i rfl
   simpa[eQ,h.size,this] using hv
  ·rw[aC hi]
   have uv:d≠i:=λq=>hi q.symm
   have:=h.oP i
   simpa[eQ,Array.getElem?_setIfInBounds_ne uv] using this
def kG.clear (fr:kG) (k:Nat):Prop:=(∀ i,(fr.s i).iQ k=false)/\∀ p∈fr.ds,AV.iQ.ka k p.2=false
def fi.clear (σ:fi) (k:Nat):Prop:=∀ j e,σ j=some e->AV.iQ.ka k e.cells=false
def DR.le (hg:wP nn g g') {l:List (FuncId×List AV)}:∀ {ds:List Deferred},(∀ k,nn k->∀ p∈l,AV.iQ.ka k p.2=false)->
  DR g l ds->DR g' l ds:=by
 induction l with
 | nil=>intro ds _ h;cases h;exact .nil
 | cons a l ih=>intro ds hm h;cases h with
  | cons h0 t=>exact .cons (h0.le hg λk q=>hm k q (_,_) (List.mem_cons_self ..)) (ih (λk q p hp=>hm k q p (by simp[hp])) t)
def FR.le (hg:wP nn g g') (hm:∀ k,nn k->fr.clear k) (h:FR n g fr a):FR n g' fr a:=
 ⟨h.size,λi=>(h.oP i).le hg λk q=>(hm k q).1 i,h.ds.le hg λk q=>(hm k q).2⟩
def qN.le {w w':World} (hg:wP nn g g') {k:Nat} {e:cQ} (hk:¬ nn k) (hGe:∀ b,g.ρ k=some b->e.isApp=true->g'.G b=g.G b) (hm:∀ j,nn j->AV.iQ.ka j e.cells=false) (hw:∀ b,g.ρ k=some b->w'.heap[b]?=w.heap[b]?) (h:qN g w k e):qN g' w' k e:=by
 cases h with
 | box h PH hc h1=>exact .box Tg (by rw[hw _ h];exact PH) (hc.le hg hm) h1
 | AS h=>exact .AS Tg
 | arr h PH hl hz hx hc=>exact .arr Tg (by rw[hw _ h];exact PH) hl (by rw[hg.cp k hk];exact hz) (by rw[hg.cp k hk];exact hx) (hc.le hg)
 | IH h=>exact .IH Tg
 | app h hG PH hl hz hx hc=>exact .app Tg (by rw[hGe _ h rfl];exact hG) (by rw[hw _ h];exact PH) hl (by rw[hg.cp k hk];exact hz) (by rw[hg.cp k hk];exact hx) (hc.le hg)
def AV.one:AV->Bool
 | .any|.agg _|.lM _=>false
 | .pv (.sc v)=>v.oneCell'
 | _=>true
def AV.pq:List AV->Bool
 | []=>true
 | x::xs=>x.one&&pq xs
def VR.one {v:AV} (h:VR g v c) (ho:v.one=true):c.oneCell'=true:=by
 cases h with
 | any=>simp[AV.one] at ho
 | oc h=>exact h
 | pv h=>cases h with
  | sc v=>exact ho
  | nil=>rfl
  | sl=>rfl
  | ZI=>rfl
  | YC=>rfl
 | ptr=>rfl
 | arr=>rfl
 | AS=>rfl
 | sp=>rfl
 | fn=>rfl
 | agg=>simp[AV.one] at ho
 | lM=>simp[AV.one] at ho
 | vu=>rfl
def Y.one:∀ {l:List AV} {vs:List Value},Y g l vs->AV.pq l=true->∀ v,v∈vs->v.oneCell'=true
 | _,_,.nil,_,v,hv=>by cases hv
 | _,_,.cons h t,ho,v,hv=>by
  simp[AV.pq] at ho;rcases cf.1 hv with q|q
  ·subst q;exact h.one ho.1
  exact t.one ho.2 v q
end
section
def fi.set (σ:fi) (k:Nat) (e:cQ):fi:=λj=>if j=k then some e else σ j
def fi.del (σ:fi) (k:Nat):fi:=λj=>if j=k then none else σ j
def Gh.bind (g:Gh) (k b c:Nat):Gh:={ g with ρ:=λj=>if j=k then some b else g.ρ j,cp:=λj=>if j=k then c else g.cp j }
def Gh.unbind (g:Gh) (k:Nat):Gh:={ g with ρ:=λj=>if j=k then none else g.ρ j }
def Gh.iB (g:Gh) (b:Nat) (ys:List PV):Gh:={ g with G:=λj=>if j=b then some ys else g.G j }
variable {g:Gh} {ys:List PV} {g':Gh} {e:cQ} {E:Env} {σ:fi} {cap:Nat}
def Gh.Qz (h:g.G b=some ys):∃ zs,g.G b=some (ys++zs):=⟨[],jk⟩
def wP.bind (g:Gh) (k b c:Nat):wP (·=k) g (g.bind k b c):=
 ⟨λj hj=>by simp[Gh.bind,hj],λj hj=>by simp[Gh.bind,hj],λ_ _ h=>Gh.Qz h⟩
def xk:=@wP.bind
def wP.unbind (g:Gh) (k:Nat):wP (·=k) g (g.unbind k):=
 ⟨λj hj=>by simp[Gh.unbind,hj],λ_ _=>rfl,λ_ _ h=>Gh.Qz h⟩
def sI:=@wP.unbind
def wP.iB (g:Gh) (b:Nat) (ys:List PV) (h:g.G b=none):wP nn g (g.iB b ys):=
 ⟨λ_ _=>rfl,λ_ _=>rfl,λj zs hj=>by
  by_cases q:j=b
  ·subst q;rw[h] at hj;cases hj
  exact ⟨[],by simpa[Gh.iB,q] using hj⟩⟩
def qm:=@wP.iB
def wP.grow (g:Gh) (b:Nat) (ys us:List PV) (h:g.G b=some ys):wP nn g (g.iB b (ys++us)):=
 ⟨λ_ _=>rfl,λ_ _=>rfl,λj zs hj=>by
  by_cases q:j=b
  ·subst q;rw[h] at hj;cases hj;exact ⟨us,by simp[Gh.iB]⟩
  exact ⟨[],by simpa[Gh.iB,q] using hj⟩⟩
def Vf.lt (h:Vf g w) (hb:g.G b=some ys):b<w.heap.size:=by
 obtain ⟨cs,el,fz,hw,_⟩:=h b ys hb;rcases fA b w.heap.size with q|q
 ·exact q
 simp[gE q] at hw
def Vf.fresh (h:Vf g w):g.G w.heap.size=none:=by
 cases hb:g.G w.heap.size with
 | none=>rfl
 | some ys=>exact aw (h.lt hb) (uP _)
variable {w':World}
def Vf.le (hg:wP nn g g') (hG:g'.G=g.G) (hw:∀ b ys,g.G b=some ys->w'.heap[b]?=w.heap[b]?) (h:Vf g w):Vf g' w':=by
 intro b ys hb;rw[hG] at hb;obtain ⟨cs,el,fz,h1,h2,h3⟩:=h b ys hb;exact ⟨cs,el,fz,by rw[hw b ys hb];exact h1,h2,h3.le hg⟩
def qN.lt (h:qN g w k e) (hb:g.ρ k=some b):b<w.heap.size:=by
 have key:∀ {o:Obj},w.heap[b]?=some o->b<w.heap.size:=by
  intro o ho;rcases fA b w.heap.size with q|q
  ·exact q
  simp[gE q] at ho
 cases h with
 | box h hw=>rw[h] at hb;cases hb;exact key hw
 | AS h=>rw[h] at hb;cases hb
 | arr h hw=>rw[h] at hb;cases hb;exact key hw
 | IH h=>rw[h] at hb;cases hb
 | app h hG hw=>rw[h] at hb;cases hb;exact key hw
def Rel.lt (h:Rel E g σ w) (hk:(σ k).isSome=true) (hb:g.ρ k=some b):b<w.heap.size:=by
 cases hs:σ k with
 | none=>rw[hs] at hk;cases hk
 | some e=>exact (h.rU k e hs).lt hb
variable {o:Obj}
def A2 (h:w.heap[b]?=some o):b<w.heap.size:=(o8.1 h).1
variable {σ':fi}
def HB.FB (h:HB E g σ w) (hw:w'.heap=w.heap) (hG:g'.G=g.G) (hσ:∀ k b,(σ' k).isSome=true->g'.ρ k=some b->∃ k0,(σ k0).isSome=true/\g.ρ k0=some b/\(k0=k\/∃ e,σ k0=some e/\∀ cs,e≠.box cs)) (hb:∀ k b e',E.fix k=some b->σ' k=some e'->(∃ e,σ k=some e/\((∃ cs,e=.box cs)->∃ cs,e'=.box cs))):HB E g' σ' w' where
 Iq:=by rw[hw];exact h.Iq
 flat:=by rw[hw];exact h.flat
 set:=by rw[hw];exact h.set
 HC:=h.HC
 hi:=λk b hk hr=>let ⟨k0,h1,h2,_⟩:=hσ k b hk hr;h.hi k0 b h1 h2
 gf:=h.gf
 wQ:=h.wQ
 xw:=by rw[hG];exact h.xw
 wR:=λk b k' hf hk hr=>by
  obtain ⟨k0,h1,h2,h3⟩:=hσ k' b hk hr;have h4:=h.wR k b k0 hf h1 h2;subst h4;rcases h3 with q|⟨e,h5,h6⟩
  ·exact q.symm
  obtain ⟨cs,h7⟩:=h.wT k0 b e hf h5;exact aw h7 (h6 cs)
 wT:=λk b e' hf hk=>by
  obtain ⟨e,h1,h2⟩:=hb k b e' hf hk;exact h2 (h.wT k b e hf h1)
def HB.NN (h:HB E g σ w) (MT:E.w0.heap.size<=w.heap.size) (hr:g'.ρ=g.ρ) (hG:∀ b,b≠w.heap.size->g'.G b=g.G b):HB E g' σ (w.alloc o) where
 Iq:=λb cs el fz hb=>let ⟨lj,h1,h2⟩:=h.Iq b cs el fz hb;acg
 flat:=λk b cs el fz hk hb hf=>let ⟨lj,h1,h2⟩:=h.flat k b cs el fz hk hb hf;acg
 set:=λb hb=>by
  have h1:=h.set b hb;have:b<w.heap.size:=by
   have:E.wS.heap[b]?=some E.wS.heap[b]:=gv hb;rw[this] at h1;exact A2 h1
  rw[heap_alloc_old w o b this];exact h1
 HC:=h.HC
 hi:=by rw[hr];exact h.hi
 gf:=h.gf
 wQ:=h.wQ
 xw:=λk b hf=>by rw[hG b (by have:=h.wQ k b hf;omega)];exact h.xw k b hf
 wR:=by rw[hr];exact h.wR
 wT:=h.wT
def HB.alloc (h:HB E g σ w) (MT:E.w0.heap.size<=w.heap.size) (hf:E.fix nm=none) (hr:∀ j,j≠nm->g'.ρ j=g.ρ j) (NO:g'.ρ nm=some w.heap.size) (hG:∀ b,b≠w.heap.size->g'.G b=g.G b):HB E g' (σ.set nm e) (w.alloc o) where
 Iq:=(h.NN (g':=g) MT rfl (λ_ _=>rfl)).Iq
 flat:=(h.NN (g':=g) MT rfl (λ_ _=>rfl)).flat
 set:=(h.NN (g':=g) MT rfl (λ_ _=>rfl)).set
 HC:=h.HC
 hi:=λk b hk hb=>by
  by_cases q:k=nm
  ·subst q;rw[NO] at hb;cases hb;exact jV h.HC MT
  rw[hr k q] at hb;exact h.hi k b YY hb
 gf:=h.gf
 wQ:=h.wQ
 xw:=λk b hf=>by rw[hG b (by have:=h.wQ k b hf;omega)];exact h.xw k b hf
 wR:=λk b k' hfk hk hb=>by
  by_cases q:k'=nm
  ·subst q;rw[NO] at hb;cases hb;have:=h.wQ k _ hfk;omega
  rw[hr k' q] at hb;exact h.wR k b k' hfk YY hb
 wT:=λk b e' hfk hk=>by
  have q:k≠nm:=λq=>by subst q;rw[hf] at hfk;cases hfk
  exact h.wT k b e' hfk YY
def HB.write (h:HB E g σ w) {c:Nat} {cs1 Ir:Array Value} {el0:TypeId} {fz0:Nat×Nat} (xp:(σ k).isSome=true) (hb:g.ρ k=some c) (hr:g'.ρ=g.ρ) (h0:w.heap[c]?=some (.cells Ir el0 fz0)) (hz:cs1.size=Ir.size) (hbx:∀ e0,σ k=some e0->(∃ cs,e0=.box cs)->∃ cs,e=.box cs) (hG:∀ b,b≠c->g'.G b=g.G b) (hGc:(∀ k',E.fix k'≠some c)\/g'.G c=g.G c) (SK:(∃ k',E.fix k'=some c)->Flat Ir->Flat cs1):HB E g' (σ.set k e) (w.setRow c cs1) where
 Iq:=λb cs el fz hb=>by
  obtain ⟨lj,h1,h2⟩:=h.Iq b cs el fz hb;by_cases q:b=c
  ·subst q;rw[h0] at h1;cases h1;exact ⟨cs1,setRow_heap w b Ir cs1 _ _ h0,hz.trans h2⟩
  exact ⟨lj,by rw[setRow_other w c b cs1 q];exact h1,h2⟩
 flat:=λk b cs el fz hk hb hf=>by
  obtain ⟨lj,h1,h2⟩:=h.flat k b cs el fz hk hb hf;by_cases q:b=c
  ·subst q;rw[h0] at h1;cases h1;exact ⟨cs1,setRow_heap w b Ir cs1 _ _ h0,SK ⟨k,hk⟩ h2⟩
  exact ⟨lj,by rw[setRow_other w c b cs1 q];exact h1,h2⟩
 set:=λb gR=>by
  have:=h.hi k c xp hb;rw[setRow_other w c b cs1 aD];exact h.set b gR
 HC:=h.HC
 hi:=λj b hj I9=>by
  rw[hr] at I9;by_cases q:j=k
  ·subst q;exact h.hi j b xp I9
  exact h.hi j b UK I9
 gf:=h.gf
 wQ:=h.wQ
 xw:=λj b hf=>by
  by_cases q:b=c
  ·subst q;rcases hGc with q|q
   ·exact aw hf (q j)
   rw[q];exact h.xw j b hf
  rw[hG b q];exact h.xw j b hf
 wR:=λj b j' hf hj I9=>by
  rw[hr] at I9;by_cases q:j'=k
  ·subst q;exact h.wR j b j' hf xp I9
  exact h.wR j b j' hf UK I9
 wT:=λj b e' hf hj=>by
  by_cases q:j=k
  ·subst q;simp[fi.set] at hj;subst hj;cases hs:σ j with
   | none=>rw[hs] at xp;cases xp
   | some e0=>exact hbx e0 hs (h.wT j b e0 hf hs)
  exact h.wT j b e' hf UK
def sX (w:World) (o:Obj) (h:b<w.heap.size):(w.alloc o).heap[b]?=w.heap[b]?:=heap_alloc_old w o b h
def Rel.alloc (h:Rel E g σ w) (hc:σ.clear nm) (hf:E.fix nm=none) (he:qN (g.bind nm w.heap.size cap) (w.alloc o) nm e):Rel E (g.bind nm w.heap.size cap) (σ.set nm e) (w.alloc o):=by
 have hle:=xk g nm w.heap.size cap;have uv:∀ j,(σ.set nm e j).isSome=true->j≠nm->(σ j).isSome=true:=λj hj q=>by simpa[fi.set,q] using hj
 have hρ:∀ j,j≠nm->(g.bind nm w.heap.size cap).ρ j=g.ρ j:=λj q=>by simp[Gh.bind,q]
 have PB:(g.bind nm w.heap.size cap).ρ nm=some w.heap.size:=by simp[Gh.bind]
 refine { rU:=?_,inj:=?_,gl:=?_,apart:=?_,size:=?_,yq:=?_,own:=?_,fix:=?_,pP:=?_,g0:=h.g0,gn:=h.gn,os:=h.os,out:=h.out,tape:=h.tape,x:=h.x.alloc h.size hf hρ PB (λ_ _=>rfl) }
 ·intro k e' hk;by_cases q:k=nm
  ·subst q;simp[fi.set] at hk;subst hk;exact he
  simp[fi.set,q] at hk;exact (h.rU k e' hk).le hle q (λ_ _ _=>rfl) (λj hj=>by subst hj;exact hc k e' hk) (λb hb=>sX w _ ((h.rU k e' hk).lt hb))
 ·exact yC8
 ·exact h.gl.le hle rfl (λb ys hb=>sX w _ (h.gl.lt hb))
 ·intro k b e' hk hka hb;by_cases q:k=nm
  ·subst q;rw[PB] at hb;cases hb;exact h.gl.fresh
  rw[hρ k q] at hb;exact h.apart k b e' YY hka hb
 ·rw[World.size_alloc];exact Nat.le_succ_of_le h.size
 ·intro b hb ho;rw[sX w _ (kO hb h.size)];exact h.yq b hb ho
 ·exact ahQ
 ·exact adY
 intro k b hk;have q:k≠nm:=λq=>by subst q;rw[hf] at hk;cases hk
 have:(g.bind nm w.heap.size cap).cp k=g.cp k:=by simp[Gh.bind,q]
 rw[this];exact h.pP k b hk
def Rel.Vg (h:Rel E g σ w) {el:TypeId} (hl:ys.length<=cs.size) (hp:uF (g.iB w.heap.size ys) ys (cs.toList.take ys.length)):Rel E (g.iB w.heap.size ys) σ (w.alloc (.cells cs el (0,0))):=by
 have hle:wP (λ_=>False) g (g.iB w.heap.size ys):=qm g _ ys h.gl.fresh;refine { rU:=?_,inj:=h.inj,gl:=?_,apart:=?_,size:=?_,yq:=?_,own:=h.own,fix:=h.fix,pP:=h.pP,g0:=?_,gn:=?_,os:=h.os,out:=h.out,tape:=h.tape,x:=h.x.NN h.size rfl (λb q=>by simp[Gh.iB,q]) }
 ·intro k e hk;exact (h.rU k e hk).le hle (λq=>q) (λb hb _=>by
   have:=(h.rU k e hk).lt hb;simp[Gh.iB,Nat.ne_of_lt this]) (λ_ q=>q.elim) (λb hb=>sX w _ ((h.rU k e hk).lt hb))
 ·intro b zs hb;by_cases q:b=w.heap.size
  ·subst q;simp[Gh.iB] at hb;subst hb;exact ⟨cs,el,(0,0),heap_alloc_new w _,hl,hp⟩
  simp[Gh.iB,q] at hb;obtain ⟨c,e,f,h1,h2,h3⟩:=h.gl b zs hb;exact ⟨c,e,f,by rw[sX w _ (h.gl.lt hb)];exact h1,h2,h3.le hle⟩
 ·intro k b e' hk hka hb;have:=(h.rU k e' hk).lt hb;have q:b≠w.heap.size:=Nat.ne_of_lt this;simp only[Gh.iB,q,if_false];exact h.apart k b e' hk hka hb
 ·rw[World.size_alloc];exact Nat.le_succ_of_le h.size
 ·intro b hb ho;rw[sX w _ (kO hb h.size)];exact h.yq b hb ho
 ·intro b zs hb;obtain ⟨us,h1⟩:=h.g0 b zs hb;obtain ⟨vs,h2⟩:=hle.G b _ h1;exact adI
 intro b zs hb;by_cases q:b=w.heap.size
 ·subst q;exact .inr (.inr h.size)
 simp[Gh.iB,q] at hb;exact h.gn b zs hb
def Rel.frozen (h:Rel E g σ w) {el:TypeId} (hl:ys.length<=cs.size) (hp:uF g ys (cs.toList.take ys.length)):Rel E (g.iB w.heap.size ys) σ (w.alloc (.cells cs el (0,0))):=
 h.Vg hl (hp.le (nn:=λ_=>False) (qm g _ ys h.gl.fresh))
def Rel.write (h:Rel E g σ w) {e0:cQ} (F2:σ k=some e0) (ha0:e0.isApp=false) (hb:g.ρ k=some b) (he:qN g (w.setRow b cs) k e) (MT:∃ (Ir:Array Value) (el:TypeId) (fz:Nat×Nat),w.heap[b]?=some (.cells Ir el fz)/\cs.size=Ir.size/\((∃ k',E.fix k'=some b)->Flat Ir->Flat cs)) (hbx:(∃ cs,e0=.box cs)->∃ cs,e=.box cs):Rel E g (σ.set k e) (w.setRow b cs):=by
 have hk:(σ k).isSome=true:=by rw[F2];rfl
 have hs:∀ j,(σ.set k e j).isSome=true->(σ j).isSome=true:=λj hj=>by
  by_cases q:j=k
  ·subst q;exact hk
  simpa[fi.set,q] using hj
 refine { rU:=?_,inj:=?_,gl:=?_,apart:=?_,size:=?_,yq:=?_,own:=?_,fix:=h.fix,pP:=h.pP,g0:=h.g0,gn:=h.gn,os:=h.os,out:=h.out,tape:=h.tape,x:=(let ⟨_,_,_,q1,q2,q3⟩:=MT;h.x.write hk hb rfl q1 q2 (λe1 q q'=>hbx (by rw[F2] at q;cases q;exact q')) (λ_ _=>rfl) (.inr rfl) q3) }
 ·intro j e' hj;by_cases q:j=k
  ·subst q;simp[fi.set] at hj;subst hj;exact he
  simp[fi.set,q] at hj;refine (h.rU j e' hj).le (wP.refl (λ_=>False) g) (λq=>q) (λ_ _ _=>rfl) (λ_ q=>q.elim) (λc hc=>setRow_other w b c cs ?_);intro hcb;subst hcb;exact q (h.inj j k c (by rw[hj];rfl) hk hc hb)
 ·exact λj j' c hj yL=>h.inj j j' c (hs j hj) (hs j' yL)
 ·exact h.gl.le (wP.refl (λ_=>False) g) rfl (λc ys hc=>setRow_other w b c cs (by
   intro q;subst q;rw[h.apart k c e0 F2 ha0 hb] at hc;cases hc))
 ·intro j c e' hj hja hc;by_cases q:j=k
  ·subst q;exact h.apart j c e0 F2 ha0 hc
  exact h.apart j c e' UK hja hc
 ·simpa using h.size
 ·intro c hc ho;have hcb:c≠b:=by
   intro q;subst q;rcases h.own k c hk hb with q|q
   ·exact ho q
   exact aw hc (qZ.2 q)
  rw[setRow_other w b c cs hcb];exact h.yq c hc ho
 exact λj c hj hc=>h.own j c (hs j hj) hc
def Rel.drew (h:Rel E g σ w):Rel E g σ w.drew:=
 {
  rU:=λk e hk=>qN.le (w:=w) (w':=w.drew) (wP.refl (λ_=>False) g) (λq=>q) (λ_ _ _=>rfl) (λ_ q=>q.elim) (λ_ _=>rfl) (h.rU k e hk)
  inj:=h.inj,gl:=h.gl,apart:=h.apart,size:=h.size,yq:=h.yq,own:=h.own,fix:=h.fix,pP:=h.pP,g0:=h.g0,gn:=h.gn,os:=h.os,out:=h.out,tape:=h.tape,x:=h.x.FB rfl rfl (λk b hk hb=>⟨k,hk,hb,.inl rfl⟩) (λk b e' _ hk=>⟨e',hk,id⟩) }
def Gh.alias (g:Gh) (nm k:Nat):Gh:={ g with ρ:=λj=>if j=nm then g.ρ k else g.ρ j,cp:=λj=>if j=nm then g.cp k else g.cp j }
def wP.alias (g:Gh) (nm k:Nat):wP (·=nm) g (g.alias nm k):=
 ⟨λj hj=>by simp[Gh.alias,hj],λj hj=>by simp[Gh.alias,hj],λ_ _ h=>Gh.Qz h⟩
def Rel.rename (h:Rel E g σ w) (hk:σ k=some e) (hc:(σ.del k).clear nm) (he:AV.iQ.ka nm e.cells=false) (hf:E.fix nm=none) (hnb:∀ cs,e≠.box cs):Rel E (g.alias nm k) ((σ.del k).set nm e) w:=by
 have hle:=wP.alias g nm k;have hn:(g.alias nm k).ρ nm=g.ρ k:=by simp[Gh.alias]
 have ho:∀ j,j≠nm->(g.alias nm k).ρ j=g.ρ j:=λj q=>by simp[Gh.alias,q]
 have hkk:(σ k).isSome=true:=by rw[hk];rfl
 have key:∀ j,(((σ.del k).set nm e) j).isSome=true->∃ i,(σ i).isSome=true/\(g.alias nm k).ρ j=g.ρ i/\(j=nm->i=k)/\(j≠nm->i=j/\i≠k):=λj hj=>by
  by_cases q:j=nm
  ·subst q;exact ⟨k,hkk,hn,λ_=>rfl,λq=>aw rfl q⟩
  by_cases q':j=k
  ·subst q';simp[fi.set,fi.del,q] at hj
  simp[fi.set,fi.del,q,q'] at hj;exact ⟨j,hj,ho j q,λq2=>aw q2 q,λ_=>⟨rfl,q'⟩⟩
 refine { rU:=?_,inj:=?_,gl:=?_,apart:=?_,size:=h.size,yq:=h.yq,own:=?_,fix:=?_,pP:=?_,g0:=h.g0,gn:=h.gn,os:=h.os,out:=h.out,tape:=h.tape,x:=h.x.FB rfl rfl (λj b hj hb=>(by
  obtain ⟨i,h1,h2,h3,h4⟩:=key j hj;refine ⟨i,h1,h2▸hb,?_⟩;by_cases q:j=nm
  ·have:=h3 q;subst this;exact .inr ⟨e,hk,hnb⟩
  ·exact .inl (h4 q).1)) (λj b e' hfj hj=>by
  have q:j≠nm:=λq=>by subst q;rw[hf] at hfj;cases hfj
  by_cases q':j=k
  ·subst q';simp[fi.set,fi.del,q] at hj
  simp[fi.set,fi.del,q,q'] at hj;exact ⟨e',hj,id⟩) }
 ·intro j e' hj;by_cases q:j=nm
  ·subst q;simp[fi.set] at hj;subst hj;have Ja:(g.alias j k).cp j=g.cp k:=by simp[Gh.alias]
   cases h.rU k e hk with
   | box h1 h2 h3 h4=>exact .box (hn.trans h1) h2 (h3.le hle λi q=>by subst q;exact he) h4
   | AS h1=>exact .AS (hn.trans h1)
   | arr h1 h2 h3 h4 h5 h6=>exact .arr (hn.trans h1) h2 h3 (by rw[Ja];exact h4) (by rw[Ja];exact h5) (h6.le hle)
   | IH h1=>exact .IH (hn.trans h1)
   | app h1 hG h2 h3 h4 h5 h6=>exact .app (hn.trans h1) hG h2 h3 (by rw[Ja];exact h4) (by rw[Ja];exact h5) (h6.le hle)
  have xI:(σ.del k) j=some e':=by simpa[fi.set,q] using hj
  have hj3:σ j=some e':=by
   by_cases q':j=k
   ·subst q';simp[fi.del] at xI
   simpa[fi.del,q'] using xI
  exact (h.rU j e' hj3).le hle q (λ_ _ _=>rfl) (λi q2=>by subst q2;exact hc j e' xI) (λ_ _=>rfl)
 ·intro j j' b hj yL hb xH;obtain ⟨i,hi,hr,h1,h2⟩:=key j hj;obtain ⟨i',hi',EU,h1',h2'⟩:=key j' yL;rw[hr] at hb;rw[EU] at xH;have hii:=h.inj i i' b hi hi' hb xH;by_cases q:j=nm
  ·by_cases q':j'=nm
   ·rw[q,q']
   have:=h1 q;have:=h2' q';omega
  by_cases q':j'=nm
  ·have:=h1' q';have:=h2 q;omega
  have:=h2 q;have:=h2' q';omega
 ·exact h.gl.le hle rfl (λ_ _ _=>rfl)
 ·intro j b e' hj hja hb;obtain ⟨i,hi,hr,h1,h2⟩:=key j (by rw[hj];rfl);rw[hr] at hb;by_cases q:j=nm
  ·have:=h1 q;subst this;subst q;simp[fi.set] at hj;subst hj;exact h.apart i b _ hk hja hb
  obtain ⟨rfl,q2⟩:=h2 q;exact h.apart i b e' (by simpa[fi.set,fi.del,q,q2] using hj) hja hb
 ·intro j b hj hb;obtain ⟨i,hi,hr,_⟩:=key j hj;rw[hr] at hb;exact h.own i b hi hb
 ·intro j b hj;have q:j≠nm:=λq=>by subst q;rw[hf] at hj;cases hj
  rw[ho j q];exact h.fix j b hj
 intro j b hj;have q:j≠nm:=λq=>by subst q;rw[hf] at hj;cases hj
 have:(g.alias nm k).cp j=g.cp j:=by simp[Gh.alias,q]
 rw[this];exact h.pP j b hj
def Rel.sub (h:Rel E g σ w) (hs:∀ k e,σ' k=some e->σ k=some e):Rel E g σ' w:=by
 have hi:∀ k,(σ' k).isSome=true->(σ k).isSome=true:=λk hk=>by
  cases q:σ' k with
  | none=>rw[q] at hk;cases hk
  | some e=>rw[hs k e q];rfl
 exact {
  rU:=λk e hk=>h.rU k e (hs k e hk),inj:=λk k' b hk FC=>h.inj k k' b (hi k hk) (hi k' FC),gl:=h.gl
  apart:=λk b e hk=>h.apart k b e (hs k e hk),size:=h.size,yq:=h.yq,own:=λk b hk=>h.own k b (hi k hk),fix:=h.fix,pP:=h.pP,g0:=h.g0,gn:=h.gn,os:=h.os,out:=h.out,tape:=h.tape,x:=h.x.FB rfl rfl (λk b hk hb=>⟨k,hi k hk,hb,.inl rfl⟩) (λk b e' _ hk=>⟨e',hs k _ hk,id⟩) }
def Rel.QA (h:Rel E g σ w) {el:TypeId} (hc:σ.clear nm) (hf:E.fix nm=none) (hl:ys.length<=cs.size) (hz:cs.size=cap*sz) (hm:cap<=maxLen) (hp:uF (g.iB w.heap.size ys) ys (cs.toList.take ys.length)) :
  Rel E ((g.bind nm w.heap.size cap).iB w.heap.size ys) (σ.set nm (.app el sz ys)) (w.alloc (.cells cs el (0,0))):=by
 have h0:=h.Vg (el:=el) hl hp
 have hle:wP (·=nm) (g.iB w.heap.size ys) ((g.bind nm w.heap.size cap).iB w.heap.size ys):=
  ⟨λj hj=>by simp[Gh.bind,Gh.iB,hj],λj hj=>by simp[Gh.bind,Gh.iB,hj],λ_ _ h=>Gh.Qz h⟩
 have hρ:∀ j,j≠nm->((g.bind nm w.heap.size cap).iB w.heap.size ys).ρ j=g.ρ j:=λj q=>by simp[Gh.bind,Gh.iB,q]
 have PB:((g.bind nm w.heap.size cap).iB w.heap.size ys).ρ nm=some w.heap.size:=by simp[Gh.bind,Gh.iB]
 have uv:∀ j,(σ.set nm (.app el sz ys) j).isSome=true->j≠nm->(σ j).isSome=true:=λj hj q=>by simpa[fi.set,q] using hj
 refine { rU:=?_,inj:=?_,gl:=?_,apart:=?_,size:=h0.size,yq:=h0.yq,own:=?_,fix:=?_,pP:=?_,g0:=h0.g0,gn:=h0.gn,os:=h0.os,out:=h0.out,tape:=h0.tape,x:=h.x.alloc h.size hf hρ PB (λb q=>by simp[Gh.bind,Gh.iB,q]) }
 ·intro k e' hk
  by_cases q:k=nm
  ·subst q;simp[fi.set] at hk;subst hk
   exact .app PB JK (heap_alloc_new w _) hl (by simpa[Gh.bind,Gh.iB] using hz) (by simpa[Gh.bind,Gh.iB] using hm) (hp.le hle)
  ·simp[fi.set,q] at hk
   exact (h0.rU k e' hk).le hle q (λ_ _ _=>rfl) (λj hj=>by subst hj;exact hc k e' hk) (λ_ _=>rfl)
 ·exact yC8
 ·exact h0.gl.le hle rfl (λ_ _ _=>rfl)
 ·intro k b e' hk hka hb
  by_cases q:k=nm
  ·subst q;simp[fi.set] at hk;subst hk;cases hka
  ·rw[hρ k q] at hb;exact h0.apart k b e' YY hka hb
 ·exact ahQ
 ·exact adY
 ·intro k b hk
  have q:k≠nm:=λq=>by subst q;rw[hf] at hk;cases hk
  have:((g.bind nm w.heap.size cap).iB w.heap.size ys).cp k=g.cp k:=by simp[Gh.bind,Gh.iB,q]
  rw[this];exact h.pP k b hk
def Gh.fresh (g:Gh) (nm b cap:Nat) (e:cQ):Gh:=match e with
 | .app _ _ ys=>(g.bind nm b cap).iB b ys
 | _=>g.bind nm b cap
def wP.fresh (g:Gh) (nm b cap:Nat) (e:cQ) (h:g.G b=none):wP (·=nm) g (g.fresh nm b cap e):=by
 cases e with
 | box _=>exact xk ..
 | arr _ _ _=>exact xk ..
 | app _ _ ys=>exact (xk g nm b cap).trans (qm _ b ys (by simpa[Gh.bind] using h))
def Rel.ZJ (h:Rel E g σ w) {el:TypeId} (hc:σ.clear nm) (hf:E.fix nm=none) (he:qN (g.fresh nm w.heap.size cap e) (w.alloc (.cells cs el (0,0))) nm e):Rel E (g.fresh nm w.heap.size cap e) (σ.set nm e) (w.alloc (.cells cs el (0,0))):=by
 cases e with
 | box _=>exact h.alloc hc hf he
 | arr _ _ _=>exact h.alloc hc hf he
 | app ee sz ys=>
  simp only[Gh.fresh] at he ⊢
  have hn:((g.bind nm w.heap.size cap).iB w.heap.size ys).ρ nm=some w.heap.size:=by simp[Gh.bind,Gh.iB]
  have Ja:((g.bind nm w.heap.size cap).iB w.heap.size ys).cp nm=cap:=by simp[Gh.bind,Gh.iB]
  cases he with
  | IH h=>rw[hn] at h;cases h
  | app h1 hG hw hl hz hm hp=>
   rw[hn] at h1;cases h1
   rw[heap_alloc_new w _] at hw
   cases hw
   rw[Ja] at hz hm
   exact h.QA hc hf hl hz hm (sB (g:=(g.bind nm w.heap.size cap).iB w.heap.size ys) (g':=g.iB w.heap.size ys) (λ_ _ q=>q) hp)
def Rel.extend (h:Rel E g σ w) {el:TypeId} {us:List PV} (hk:σ k=some (.app el sz ys)) (hb:g.ρ k=some b) (hl:(ys++us).length<=cs.size) (hz:cs.size=g.cp k*sz) (hel:∃ Ir,w.heap[b]?=some (.cells Ir el (0,0))) (hp:uF g (ys++us) (cs.toList.take (ys++us).length)) :
  Rel E (g.iB b (ys++us)) (σ.set k (.app el sz (ys++us))) (w.setRow b cs):=by
 obtain ⟨Ir,PH⟩:=hel
 have hG:g.G b=some ys:=by
  cases h.rU k _ hk with
  | IH h1=>rw[h1] at hb;cases hb
  | app h1 hG=>rw[h1] at hb;cases hb;exact hG
 have hcm:g.cp k<=maxLen:=by
  cases h.rU k _ hk with
  | IH h1=>rw[h1] at hb;cases hb
  | app h1 hG _ _ _ hm=>exact hm
 have hsz0:∀ {Ir:Array Value},w.heap[b]?=some (.cells Ir el (0,0))->Ir.size=g.cp k*sz:=λ{Ir} PH=>by
  cases h.rU k _ hk with
  | IH h1=>rw[h1] at hb;cases hb
  | app h1 hG hw1 _ hz1 _=>rw[h1] at hb;cases hb;rw[PH] at hw1;cases hw1;exact hz1
 have xp:(σ k).isSome=true:=by rw[hk];rfl
 have hle:wP (λ_=>False) g (g.iB b (ys++us)):=wP.grow g b ys us hG
 have hs:∀ j,(σ.set k (.app el sz (ys++us)) j).isSome=true->(σ j).isSome=true:=λj hj=>by
  by_cases q:j=k
  ·subst q;exact xp
  ·simpa[fi.set,q] using hj
 have hGo:∀ c,c≠b->(g.iB b (ys++us)).G c=g.G c:=λc q=>by simp[Gh.iB,q]
 have NR:(w.setRow b cs).heap[b]?=some (.cells cs el (0,0)):=setRow_heap w b Ir cs el _ PH
 refine { rU:=?_,inj:=?_,gl:=?_,apart:=?_,size:=?_,yq:=?_,own:=?_,fix:=h.fix,pP:=h.pP,g0:=?_,gn:=?_,os:=h.os,out:=h.out,tape:=h.tape,x:=h.x.write xp hb rfl PH (hz.trans (hsz0 PH).symm) (λe0 q q'=>(by rw[hk] at q;cases q;obtain ⟨_,q'⟩:=q';cases q')) (λc q=>hGo c q) (.inl λk' q=>(by
   have h1:=h.x.xw k' b q
   rw[hG] at h1;cases h1)) (λ⟨k',q⟩=>(by
   have h1:=h.x.xw k' b q
   rw[hG] at h1;cases h1)) }
 ·intro j e' hj
  by_cases q:j=k
  ·subst q;simp[fi.set] at hj;subst hj
   exact .app hb JK NR hl hz hcm (hp.le hle)
  ·simp[fi.set,q] at hj
   have uv:∀ c,g.ρ j=some c->c≠b:=λc hc hcb=>by
    subst hcb
    exact q (h.inj j k c (by rw[hj];rfl) xp hc hb)
   exact (h.rU j e' hj).le hle (λq=>q) (λc hc _=>hGo c (uv c hc)) (λ_ q=>q.elim) (λc hc=>setRow_other w b c cs (uv c hc))
 ·exact λj j' c hj yL=>h.inj j j' c (hs j hj) (hs j' yL)
 ·intro c zs hc
  by_cases q:c=b
  ·subst q
   simp[Gh.iB] at hc;subst hc
   exact ⟨cs,el,(0,0),NR,hl,hp.le hle⟩
  ·rw[hGo c q] at hc
   obtain ⟨c1,e1,f1,h1,h2,h3⟩:=h.gl c zs hc
   exact ⟨c1,e1,f1,by rw[setRow_other w b c cs q];exact h1,h2,h3.le hle⟩
 ·intro j c e' hj hja hc
  by_cases q:j=k
  ·subst q;simp[fi.set] at hj;subst hj;cases hja
  ·have yL:σ j=some e':=by simpa[fi.set,q] using hj
   have:c≠b:=λhcb=>by
    subst hcb
    exact q (h.inj j k c (by rw[yL];rfl) xp hc hb)
   rw[hGo c this];exact h.apart j c e' yL hja hc
 ·simpa using h.size
 ·intro c hc ho
  have hcb:c≠b:=by
   intro q;subst q
   rcases h.own k c xp hb with q|q
   ·exact ho q
   ·exact aw hc (qZ.2 q)
  rw[setRow_other w b c cs hcb];exact h.yq c hc ho
 ·exact λj c hj hc=>h.own j c (hs j hj) hc
 ·intro c zs hc
  obtain ⟨us',h1⟩:=h.g0 c zs hc
  obtain ⟨vs,h2⟩:=hle.G c _ h1
  exact ⟨us'++vs,by rw[h2,gj]⟩
 ·intro c zs hc
  by_cases q:c=b
  ·subst q
   rcases h.own k c xp hb with q|q
   ·exact .inr (.inl q)
   ·exact .inr (.inr q)
  ·rw[hGo c q] at hc;exact h.gn c zs hc
end
section
def aky:TypeDesc->Bool
 | .struct _|.array _ _=>true
 | _=>false
def Lv (P:Program) (t:TypeId):Option Nat:=(P.info? t).map (·.size)
def Ai (P:Program) (t:TypeId):Option Bool:=(P.underlying t).map aky
def tfo (P:Program) (s:TypeId) (f:Nat):Option Nat:=
 match P.underlying s with
 | some (.struct fs)=>match fs[f]? with
  | some fd=>match Lv P fd.type with
   | some (_+1)=>some fd.offset
   | _=>none
  | none=>none
 | _=>none
def tel (P:Program) (t:TypeId):Option (TypeId×Nat):=
 match P.underlying t with
 | some (.slice e)=>(Lv P e).map (e,·)
 | _=>none
def ZK (P:Program) (t:TypeId):Option (Nat×Nat):=
 match P.underlying t with
 | some (.array n e)=>(Lv P e).map (n,·)
 | _=>none
def Vh (P:Program) (t:TypeId):Option (List Value):=(P.info? t).bind λi=>i.zero.bind λz=>match z.cells.toList.all Value.oneCell' with
 | true=>some z.cells.toList
 | false=>none
variable {P:Program} {g:Gh} {cells:List PV} {i:Int} {ix:Operand}
def vt (h:Lv P t=some n) (w:World):(sizeOf t).run P w=.ok n w:=by
 unfold Lv at h;cases hi:P.info? t with
 | none=>simp[hi] at h
 | some i=>simp[hi] at h;subst h;simp[sizeOf,typeInfo,hi]
def Ac {b:Bool} (h:Ai P t=some b) (w:World):(isAgg t).run P w=.ok b w:=by
 unfold Ai at h;cases hd:P.underlying t with
 | none=>simp[hd] at h
 | some d=>
  simp[hd] at h;subst h
  simp only[isAgg,cC,run_underlying hd,bQ]
  cases d<;>rfl
variable {fz:Nat×Nat}
def D2 {el:TypeId} (ht:Lv P t=some n) (ha:Ai P t=some true) (hw:w.heap[b]?=some (.cells cs el fz)) (hn:off+n<=cs.size):(loadVar t ⟨b,off,none⟩).run P w=.ok (.agg ((cs.toList.drop off).take n).toArray) w:=by
 have hl:=run_loadCells_list (P:=P) w ⟨b,off,none⟩ ((cs.toList.drop off).take n) (λj v hj=>by
  rw[r6,cell_of_row w b _ cs el fz hw];rw[gG] at hj;split at hj
  ·rw[dz] at hj;simpa using hj
  cases hj)
 have hlen:((cs.toList.drop off).take n).length=n:=by simp;omega
 rw[hlen] at hl;simp[loadVar,Ac ha,vt ht,hl]
def A0 {el:TypeId} (ha:Ai P t=some false) (hw:w.heap[b]?=some (.cells cs el fz)) (hv:cs.toList[off]?=some v):(loadVar t ⟨b,off,none⟩).run P w=.ok v w:=by
 have:=cell_of_row w b off cs el fz hw;have Gw:cs[off]?=some v:=by simpa using hv
 rw[Gw] at this;simp[loadVar,Ac ha,this]
def X (P:Program) (op:Op) (fr:kG) (rd:List (Nat×cQ)) (v:AV):Prop:=
 ∀ (o:Oper),o.op=op->∀ (g:Gh) (ev:Operand->Value) (w:World),Vf g w->(∀ x,x∈op.operands->VR g (fr.val x) (ev x))->
  (∀ p,p∈rd->qN g w p.1 p.2)->∃ c,(execOp ev o).run P w=.ok (.value c) w/\VR g v c
abbrev I (n:Int):AV:=.pv (.sc (.int .i64 n))
abbrev Bo (b:Bool):AV:=.pv (.sc (.bool b))
def S (l:ByS):Value:=.string ⟨l.toArray⟩
abbrev eu (l:ByS):AV:=.pv (.sc (S l))
abbrev Sc (v:Value):AV:=.pv (.sc v)
abbrev nSl:AV:=Sc (.slice none 0 0)
def VR.gO (h:VR g (Sc v) c):c=v:=by
 cases h with|pv h=>cases h with|sc=>rfl
def p8:=@VR.gO
def VR.sc (g:Gh) (v:Value):VR g (Sc v) v:=.pv (.sc v)
section
variable {fr:kG}
def Ť (x:Operand):X P (.move x) fr [] (fr.val x):=by
 intro o ho g ev w _ hx _;exact acy
def MK (x:Operand):X P (.assign x) fr [] (fr.val x):=by
 intro o ho g ev w _ hx _;exact acy
variable {a:Operand}
def Vi {c b:Operand} {t:Bool} (hc:fr.val c=Bo t):X P (.pick c a b) fr [] (if t then fr.val a else fr.val b):=by
 intro o ho g ev w _ hx _;have h1:=hx c uy;rw[hc] at h1;refine ⟨if t then ev a else ev b,by simp[execOp,ho,h1.gO,asBool],?_⟩;cases t
 ·exact hx b uy
 exact hx a uy
def II (h:fr.val x=.ptr k off):X P (.nilCheck x) fr [] (.ptr k off):=by
 intro o ho g ev w _ hx _;have h1:=hx x uy;rw[h] at h1;generalize hq:ev x=c at h1;refine ⟨c,?_,h1⟩;cases h1 with|ptr _ hk=>simp[execOp,ho,hq]
def J1 (h:fr.val x=.sp cells):X P (.nilCheck x) fr [] (.sp cells):=by
 intro o ho g ev w _ hx _;have h1:=hx x uy;rw[h] at h1;generalize hq:ev x=c at h1;refine ⟨c,?_,h1⟩;cases h1 with|sp _ hk=>simp[execOp,ho,hq]
def J2 {f:FuncId} {a b:List AV} (h:fr.val x=.fn f a b):X P (.nilCheck x) fr [] (.fn f a b):=by
 intro o ho g ev w _ hx _;have h1:=hx x uy;rw[h] at h1;generalize hq:ev x=c at h1;refine ⟨c,?_,h1⟩;cases h1 with|fn _ hk=>simp[execOp,ho,hq]
def Is (h:tfo P s f=some d) (w:World) :
  (Instr.fieldAt s (.pointer (some ⟨b,off,none⟩)) f).run P w=.ok (.pointer (some ⟨b,off+d,none⟩)) w:=by
 unfold tfo at h
 split at h
 ·rename_i fs hs
  split at h
  ·rename_i fd hf
   split at h
   ·rename_i n hn
    cases h
    simp[Instr.fieldAt,run_underlying hs,hf,Instr.sureAddr,fieldPlace,vt hn,r6]
   ·cases h
  ·cases h
 ·cases h
def NS (h:tfo P s f=some d) (hx:fr.val x=.ptr k off):X P (.fieldAddr s x f) fr [] (.ptr k (off+d)):=by
 intro o ho g ev w _ hv _;have h1:=hv x uy;rw[hx] at h1;generalize hq:ev x=c at h1;cases h1 with
 | ptr _ hk=>
  rename_i b
  refine ⟨_,?_,.ptr (off+d) hk⟩
  simp[execOp,ho,hq,Is h]
def IJ (h:tfo P s f=some d) (hx:fr.val x=.sp cells) (hd:d<=cells.length) :
  X P (.fieldAddr s x f) fr [] (.sp (cells.drop d)):=by
 intro o ho g ev w _ hv _
 have h1:=hv x uy;rw[hx] at h1
 generalize hq:ev x=c at h1
 cases h1 with
 | sp off hk hl hc=>
  rename_i b ys
  refine ⟨_,?_,.sp (off+d) hk ?_ ?_⟩
  ·simp[execOp,ho,hq,Is h]
  ·simp;omega
  ·rw[hc,nV,j8];simp
def Jb (h:tel P t=some (e,sz)):P.underlying t=some (.slice e)/\Lv P e=some sz:=by
 unfold tel at h;split at h
 ·rename_i e' he;cases hs:Lv P e' with
  | none=>simp[hs] at h
  | some n=>simp[hs] at h;obtain ⟨rfl,rfl⟩:=h;exact ⟨he,hs⟩
 cases h
def ZL (h:ZK P t=some (n,sz)):∃ e,P.underlying t=some (.array n e)/\Lv P e=some sz:=by
 unfold ZK at h;split at h
 ·rename_i m e' he;cases hs:Lv P e' with
  | none=>simp[hs] at h
  | some n=>simp[hs] at h;obtain ⟨rfl,rfl⟩:=h;exact ⟨e',he,hs⟩
 cases h
def It {cap:Nat} {k:IntKind} (h:tel P t=some (e,sz)) (h0:0<=i) (h1:i<n) (w:World) :
  (Instr.indexAt t (.slice (some ⟨b,off,none⟩) n cap) (.int k i)).run P w=.ok (.pointer (some ⟨b,off+i.toNat*sz,none⟩)) w:=by
 obtain ⟨hu,hs⟩:=Jb h
 simp[Instr.indexAt,asIntOf,run_underlying hu,h0,h1,vt hs,r6]
def IK {k:IntKind} (h:ZK P t=some (n,sz)) (h0:0<=i) (h1:i<n) (w:World) :
  (Instr.indexAt t (.pointer (some ⟨b,off,none⟩)) (.int k i)).run P w=.ok (.pointer (some ⟨b,off+i.toNat*sz,none⟩)) w:=by
 obtain ⟨e,hu,hs⟩:=ZL h
 simp[Instr.indexAt,asIntOf,run_underlying hu,h0,h1,vt hs,r6,Instr.sureAddr]
def IL {k:IntKind} (h:tel P t=some (e,sz)) (hx:fr.val x=.pv (.sl n cells)) (hi:fr.val ix=Sc (.int k i)) (h0:0<=i) (h1:i<n) (h2:i.toNat*sz<=cells.length):X P (.indexAddr t x ix) fr [] (.sp (cells.drop (i.toNat*sz))):=by
 intro o ho g ev w _ hv _;have q1:=hv x uy;rw[hx] at q1;have q2:=hv ix uy;rw[hi] at q2;generalize hq:ev x=c at q1;cases q1 with
 | pv q1=>
  cases q1 with
  | nil a cap=>omega
  | sl b ys off _ cap _ hb hl hc hn=>
   refine ⟨_,?_,.sp (off+i.toNat*sz) hb ?_ ?_⟩
   ·simp[execOp,ho,hq,q2.gO,It h h0 h1]
   ·simp;omega
   ·rw[hc,nV,j8];simp
variable {kk:Nat}
def HD {k:IntKind} (h:tel P t=some (e,sz)) (hx:fr.val x=.arr kk n) (hi:fr.val ix=Sc (.int k i)) (h0:0<=i) (h1:i<n):X P (.indexAddr t x ix) fr [] (.ptr kk (i.toNat*sz)):=by
 intro o ho g ev w _ hv _;have q1:=hv x uy;rw[hx] at q1;have q2:=hv ix uy;rw[hi] at q2;generalize hq:ev x=c at q1;cases q1 with
 | arr _ hk=>
  rename_i b
  have:=VR.ptr (g:=g) (i.toNat*sz) hk
  refine ⟨_,?_,this⟩
  simp[execOp,ho,hq,q2.gO,It h h0 h1]
 | AS=>omega
def HE {k:IntKind} (h:ZK P t=some (n,sz)) (hx:fr.val x=.ptr kk off) (hi:fr.val ix=Sc (.int k i)) (h0:0<=i) (h1:i<n):X P (.indexAddr t x ix) fr [] (.ptr kk (off+i.toNat*sz)):=by
 intro o ho g ev w _ hv _;have q1:=hv x uy;rw[hx] at q1;have q2:=hv ix uy;rw[hi] at q2;generalize hq:ev x=c at q1;cases q1 with
 | ptr _ hk=>
  rename_i b
  refine ⟨_,?_,.ptr (off+i.toNat*sz) hk⟩
  simp[execOp,ho,hq,q2.gO,IK h h0 h1]
def qN.at {e:cQ} (h:qN g w k e) (hb:g.ρ k=some b) :
  ∃ cs el,w.heap[b]?=some (.cells cs el (0,0))/\e.cells.length<=cs.size/\Y g e.cells (cs.toList.take e.cells.length):=by
 cases h with
 | box h hw hc=>
  rw[h] at hb;cases hb
  have hl:=hc.length
  refine ⟨_,_,hw,by simp[cQ.cells,hl],?_⟩
  rw[dI (by simp[cQ.cells,hl])];exact hc
 | AS h=>rw[h] at hb;cases hb
 | arr h hw hl hz hm hc=>rw[h] at hb;cases hb;exact agE
 | IH h=>rw[h] at hb;cases hb
 | app h hG hw hl hz hm hc=>rw[h] at hb;cases hb;exact agE
def VR.view {el:TypeId} (h:VR g (.arr k n) c) (hE:qN g w k (.app el sz cells)) (hz:0<sz) (hn:cells.length=n*sz) :
  VR g (.pv (.sl n cells)) c:=by
 cases h with
 | arr _ hb=>
  cases hE with
  | IH h=>rw[h] at hb;cases hb
  | app h hG hw hl xm hm hc=>
   rw[h] at hb;cases hb
   refine .pv (.sl _ cells 0 n _ cells hG bm bm ?_)
   have:n*sz<=g.cp k*sz:=by rw[<- hn,<- xm];exact hl
   exact mu this hz
 | AS hb=>
  have h0:cells=[]:=eW (by simpa using hn)
  subst h0;exact .pv (.nil _ _)
def NT {el:TypeId} (hx:fr.val x=.arr k n) (hz:0<sz) (hn:cells.length=n*sz) :
  X P (.move x) fr [(k,.app el sz cells)] (.pv (.sl n cells)):=by
 intro o ho g ev w _ hv hr
 have q:=hv x uy;rw[hx] at q
 have hE:=hr (k,.app el sz cells) bm
 exact ⟨_,by simp[execOp,ho],q.view hE hz hn⟩
def NU {j:Nat} {el:TypeId} {e:cQ} (ha:Ai P t=some false) (hx:fr.val x=.ptr k off) (hv:e.cells[off]?=some (.arr j n)) (hz:0<sz) (hn:cells.length=n*sz):X P (.load t x) fr [(k,e),(j,.app el sz cells)] (.pv (.sl n cells)):=by
 intro o ho g ev w hG tn hr;have hload:∃ c,(execOp ev o).run P w=.ok (.value c) w/\VR g (.arr j n) c:=by
  have q:=tn x uy;rw[hx] at q;generalize hq:ev x=c at q;cases q with
  | ptr _ hb=>
   obtain ⟨cs,el,hw,hl,hc⟩:=(hr (k,e) bm).at hb
   obtain ⟨c,hc1,Pz⟩:=hc.get off _ hv
   exact aht
 obtain ⟨c,h1,h2⟩:=hload;exact ag4
def QB {e:cQ} (ht:Lv P t=some n) (ha:Ai P t=some true) (hx:fr.val x=.ptr k off) (hn:off+n<=e.cells.length):X P (.load t x) fr [(k,e)] (.agg ((e.cells.drop off).take n)):=by
 intro o ho g ev w _ hv hr;have q:=hv x uy;rw[hx] at q;generalize hq:ev x=c at q;cases q with
 | ptr _ hk=>
  rename_i b
  obtain ⟨cs,el,hw,hl,hc⟩:=(hr (k,e) bm).at hk
  have LW:off+n<=cs.size:=by simp only at hl;omega
  refine ⟨.agg ((cs.toList.drop off).take n).toArray,?_,?_⟩
  ·simp only[execOp,ho,hq,Instr.loadAt,Instr.sureAddr,cC,ep,bQ,D2 ht ha hw LW]
  ·simp only at hc;have:=(hc.drop off).take n;rw[nV,r7,ta aD] at this;exact .agg this
def D3 {e:cQ} {v:AV} (ha:Ai P t=some false) (hx:fr.val x=.ptr k off) (hn:e.cells[off]?=some v):X P (.load t x) fr [(k,e)] v:=by
 intro o ho g ev w _ hv hr;have q:=hv x uy;rw[hx] at q;generalize hq:ev x=c at q;cases q with
 | ptr _ hk=>
  rename_i b
  obtain ⟨cs,el,hw,hl,hc⟩:=(hr (k,e) bm).at hk
  obtain ⟨c,hc1,Pz⟩:=hc.get off v hn
  exact aht
def Vj (hG:Vf g w) {ys:List PV} (h:g.G b=some ys) (hl:off+cells.length<=ys.length) (hc:cells=(ys.drop off).take cells.length):∃ cs el fz,w.heap[b]?=some (.cells cs el fz)/\off+cells.length<=cs.size/\uF g cells ((cs.toList.drop off).take cells.length):=by
 obtain ⟨cs,el,fz,hw,h1,h2⟩:=hG b ys h;refine ⟨cs,el,fz,hw,aD,?_⟩;have:=(h2.drop off).take cells.length;rw[<- hc,nV,r7,ta aD] at this;exact this
def J3 (ht:Lv P t=some n) (ha:Ai P t=some true) (hx:fr.val x=.sp cells) (hn:n<=cells.length):X P (.load t x) fr [] (.agg ((cells.take n).map .pv)):=by
 intro o ho g ev w hG hv _;have q:=hv x uy;rw[hx] at q;generalize hq:ev x=c at q;cases q with
 | sp off h hl hc=>
  rename_i b ys
  obtain ⟨cs,el,fz,hw,h1,h2⟩:=Vj hG h hl hc
  refine ⟨.agg ((cs.toList.drop off).take n).toArray,?_,?_⟩
  ·simp only[execOp,ho,hq,Instr.loadAt,Instr.sureAddr,cC,ep,bQ,D2 ht ha hw (show off+n<=cs.size by omega)]
  ·have:=h2.take n;rw[r7,ta hn] at this;exact .agg this.vrs
def J4 {p:PV} (ha:Ai P t=some false) (hx:fr.val x=.sp cells) (hn:cells[0]?=some p):X P (.load t x) fr [] (.pv p):=by
 intro o ho g ev w hG hv _;have q:=hv x uy;rw[hx] at q;generalize hq:ev x=c at q;cases q with
 | sp off h hl hc=>
  rename_i b ys
  obtain ⟨cs,el,fz,hw,h1,h2⟩:=Vj hG h hl hc
  obtain ⟨c,hc1,Pz⟩:=h2.get 0 p hn
  have hc3:cs.toList[off]?=some c:=by
   rw[gG] at hc1;split at hc1
   ·simpa using hc1
   cases hc1
  refine ⟨c,?_,.pv Pz⟩
  simp only[execOp,ho,hq,Instr.loadAt,Instr.sureAddr,cC,ep,bQ,A0 ha hw hc3]
end
end
section
variable {P:Program} {fr:kG}
variable {op:BinOp} {xt yt:TypeId} {y:Operand} {a b:Int} {k k':IntKind} {i:Int} {l:ByS} {lo hi:Operand} {j:Int} {v:AV}
def yv {a b:Value} (hx:fr.val x=Sc a) (hy:fr.val y=Sc b) (hg:∀ w,(eqGuard op xt x y a b).run P w=.ok () w) (h:∀ w,(binOp op xt a b).run P w=.ok c w):X P (.binOp op xt x y yt) fr [] (Sc c):=by
 intro o ho g ev w _ hv _;have q1:=hv x uy;rw[hx] at q1;have q2:=hv y uy;rw[hy] at q2;refine ⟨c,?_,.sc g c⟩;simp[execOp,ho,q1.gO,q2.gO,hg,h]
def xK (op:BinOp) (t:TypeId) (x y:Operand) (k k':IntKind) (a b:Int) (w:World):(eqGuard op t x y (.int k a) (.int k' b)).run P w=.ok () w:=by
 cases op<;>rfl
def D5 (op:BinOp) (t:TypeId) (x y:Operand) (a b:ByS) (w:World):(eqGuard op t x y (S a) (S b)).run P w=.ok () w:=by
 cases op<;>rfl
def GJ (op:BinOp) (t:TypeId) (x y:Operand) (a b:Bool) (w:World):(eqGuard op t x y (.bool a) (.bool b)).run P w=.ok () w:=by
 cases op<;>rfl
def A9 (op:BinOp) (t:TypeId) (x y:Operand) (a:Option Addr) (b:Value) (w:World):(eqGuard op t x y (.pointer a) b).run P w=.ok () w:=by
 cases op<;>rfl
def ť:BinOp->Int->Int->Option Bool
 | .eql,a,b=>some (a==b)
 | .neq,a,b=>some (a !=b)
 | .lss,a,b=>some (decide (a<b))
 | .leq,a,b=>some (decide (a<=b))
 | .gtr,a,b=>some (decide (b<a))
 | .geq,a,b=>some (decide (b<=a))
 | _,_,_=>none
def Ŧ {r:Bool} (hx:fr.val x=Sc (.int k a)) (hy:fr.val y=Sc (.int k b)) (h:ť op a b=some r):X P (.binOp op xt x y yt) fr [] (Bo r):=by
 refine yv hx hy (xK op xt x y k k a b) λw=>?_;cases op<;>simp[ť] at h<;>subst h<;>simp[binOp,Op.intCmp,GT.gt,GE.ge]
def Vk (hx:fr.val x=Sc (.int k a)) (hy:fr.val y=Sc (.int k b)) :
  X P (.binOp .add xt x y yt) fr [] (Sc (.int k (k.wrap (a+b)))):=
 yv hx hy (xK _ xt x y k k a b) λw=>by simp[binOp,Op.intArith]
def Vl (hx:fr.val x=Sc (.int k a)) (hy:fr.val y=Sc (.int k b)) :
  X P (.binOp .sub xt x y yt) fr [] (Sc (.int k (k.wrap (a - b)))):=
 yv hx hy (xK _ xt x y k k a b) λw=>by simp[binOp,Op.intArith]
def ŧ (hx:fr.val x=Sc (.int k a)) (hy:fr.val y=Sc (.int k b)) :
  X P (.binOp .mul xt x y yt) fr [] (Sc (.int k (k.wrap (a*b)))):=
 yv hx hy (xK _ xt x y k k a b) λw=>by simp[binOp,Op.intArith]
def ad2 (hx:fr.val x=I a) (hy:fr.val y=I b) (h:-9223372036854775808<=a+b/\a+b<=9223372036854775807) :
  X P (.binOp .add xt x y yt) fr [] (I (a+b)):=by
 have:=Vk (P:=P) (xt:=xt) (yt:=yt) hx hy
 rwa [IntWalk.i64_in _ h] at this
def ad3 (hx:fr.val x=I a) (hy:fr.val y=I b) (h:-9223372036854775808<=a - b/\a - b<=9223372036854775807) :
  X P (.binOp .sub xt x y yt) fr [] (I (a - b)):=by
 have:=Vl (P:=P) (xt:=xt) (yt:=yt) hx hy
 rwa [IntWalk.i64_in _ h] at this
def Ba (hx:fr.val x=Sc (.int k a)) (hy:fr.val y=Sc (.int k' b)) (h:∀ w,(binOp op xt (.int k a) (.int k' b)).run P w=.ok c w):X P (.binOp op xt x y yt) fr [] (Sc c):=
 yv hx hy (xK op xt x y k k' a b) h
def JA (l:ByS):(⟨l.toArray⟩:ByteArray).size=l.length:=by simp[ByteArray.size]
def ad4 {a b:ByS} (hx:fr.val x=eu a) (hy:fr.val y=eu b) :
  X P (.binOp .eql xt x y yt) fr [] (Bo (a==b)):=
 yv hx hy (D5 _ xt x y a b) λw=>by simp[binOp,Op.stringOp,S]
def ad5 {a b:ByS} (hx:fr.val x=eu a) (hy:fr.val y=eu b) :
  X P (.binOp .neq xt x y yt) fr [] (Bo (a !=b)):=
 yv hx hy (D5 _ xt x y a b) λw=>by simp[binOp,Op.stringOp,S,bne]
def ZM (a b:ByS):(⟨a.toArray⟩:ByteArray)++⟨b.toArray⟩=⟨(a++b).toArray⟩:=by
 have h:((⟨a.toArray⟩:ByteArray)++⟨b.toArray⟩).data.toList=a++b:=by simp
 rw[<- Lib.mk_data ((⟨a.toArray⟩:ByteArray)++⟨b.toArray⟩),h]
def Ũ {a b:ByS} (hx:fr.val x=eu a) (hy:fr.val y=eu b) (h:a.length+b.length<=9223372036854775807) :
  X P (.binOp .add xt x y yt) fr [] (eu (a++b)):=by
 refine yv hx hy (D5 _ xt x y a b) λw=>?_
 have hm:¬ (((a.length+b.length:Nat):Int)>IntKind.i64.max):=by simp[IntKind.max,IntKind.bits,IntKind.signed];omega
 simp only[S,binOp,Op.stringOp,JA,aC hm,ZM];rfl
def run_equalIn_bool (ht:P.underlying t=some .bool) (d:Nat) (a b:Bool) (w:World) :
  (Op.equalIn (d+1) t (.bool a) (.bool b)).run P w=.ok (a==b) w:=by
 simp[Op.equalIn,run_underlying ht]
def uR {el:TypeId} (ht:P.underlying t=some (.pointer el)) (d:Nat) (b:Option Addr) (w:World) :
  (Op.equalIn (d+1) t (.pointer none) (.pointer b)).run P w=.ok b.isNone w:=by
 simp[Op.equalIn,run_underlying ht]
def yp {el:TypeId} (ht:P.underlying t=some (.pointer el)) (d:Nat) (a:Addr) (w:World) :
  (Op.equalIn (d+1) t (.pointer (some a)) (.pointer none)).run P w=.ok false w:=by
 simp[Op.equalIn,run_underlying ht]
def ad6 {a b:Bool} (ht:P.underlying xt=some .bool) (hx:fr.val x=Bo a) (hy:fr.val y=Bo b) :
  X P (.binOp .eql xt x y yt) fr [] (Bo (a==b)):=
 yv hx hy (GJ _ xt x y a b) λw=>by simp only[binOp];simp[Op.equal,Op.maxDepth,run_equalIn_bool ht 9999]
def ad7 {a b:Bool} (ht:P.underlying xt=some .bool) (hx:fr.val x=Bo a) (hy:fr.val y=Bo b) :
  X P (.binOp .neq xt x y yt) fr [] (Bo (a !=b)):=
 yv hx hy (GJ _ xt x y a b) λw=>by simp only[binOp];simp[Op.equal,Op.maxDepth,run_equalIn_bool ht 9999,bne]
def ZN {el:TypeId} {k:Nat} (ht:P.underlying xt=some (.pointer el)) (hx:fr.val x=.ptr k off) (hy:fr.val y=Sc (.pointer none)) :
  X P (.binOp .eql xt x y yt) fr [] (Bo false):=by
 intro o ho g ev w _ hv _
 have q1:=hv x uy;rw[hx] at q1
 have q2:=hv y uy;rw[hy] at q2
 generalize hq:ev x=c at q1
 cases q1 with
 | ptr _ hk=>exact ⟨.bool false,ab3,.sc g _⟩
def ZO {el:TypeId} {k:Nat} (ht:P.underlying xt=some (.pointer el)) (hx:fr.val x=.ptr k off) (hy:fr.val y=Sc (.pointer none)) :
  X P (.binOp .neq xt x y yt) fr [] (Bo true):=by
 intro o ho g ev w _ hv _
 have q1:=hv x uy;rw[hx] at q1
 have q2:=hv y uy;rw[hy] at q2
 generalize hq:ev x=c at q1
 cases q1 with
 | ptr _ hk=>exact ⟨.bool true,ab3,.sc g _⟩
def ZP {el:TypeId} (ht:P.underlying xt=some (.pointer el)) (hx:fr.val x=Sc (.pointer none)) (hy:fr.val y=Sc (.pointer none)) :
  X P (.binOp .eql xt x y yt) fr [] (Bo true):=
 yv hx hy (A9 _ xt x y none _) λw=>by simp only[binOp];simp[Op.equal,Op.maxDepth,uR ht 9999]
def ZQ {el:TypeId} (ht:P.underlying xt=some (.pointer el)) (hx:fr.val x=Sc (.pointer none)) (hy:fr.val y=Sc (.pointer none)) :
  X P (.binOp .neq xt x y yt) fr [] (Bo false):=
 yv hx hy (A9 _ xt x y none _) λw=>by simp only[binOp];simp[Op.equal,Op.maxDepth,uR ht 9999]
def ad8 {b:Bool} (hx:fr.val x=Bo b):X P (.unOp .not t x) fr [] (Bo (!b)):=by
 intro o ho g ev w _ hv _;have q:=hv x uy;rw[hx] at q;exact ag2
def Xf {ix:Operand} {b:UInt8} (ht:P.underlying t=some .string) (hx:fr.val x=eu l) (hi:fr.val ix=Sc (.int k i)) (h0:0<=i) (hb:l[i.toNat]?=some b):X P (.index t x ix) fr [] (Sc (.int .u8 b.toNat)):=by
 intro o ho g ev w _ hv _;have q1:=hv x uy;rw[hx] at q1;have q2:=hv ix uy;rw[hi] at q2;have xH:(⟨l.toArray⟩:ByteArray)[i.toNat]?=some b:=by
  obtain ⟨h1,h2⟩:=ao.1 hb;rw[getElem?_pos _ _ (by simpa[ByteArray.size] using h1)];simpa[ByteArray.getElem_eq_getElem_data] using h2
 exact agO
def HF (l:ByS) (a b:Nat):(⟨l.toArray⟩:ByteArray).extract a b=⟨((l.drop a).take (b - a)).toArray⟩:=by rw[Lib.extract_eq]
def vT {y:Nat} {c:BoundsCode} (h0:0<=i) (h1:i<=y) (w:World):(Instr.sliceBound (.int k i) y c).run P w=.ok i.toNat w:=by
 simp[Instr.sliceBound,asIntOf,h0,h1]
def Xg (ht:P.underlying t=some .string) (hx:fr.val x=eu l) (hl:fr.val lo=Sc (.int k i)) (hh:fr.val hi=Sc (.int k' j)) (h0:0<=i) (h1:i<=j) (h2:j<=l.length) :
  X P (.slice t x (some lo) (some hi) none) fr [] (eu ((l.drop i.toNat).take (j.toNat - i.toNat))):=by
 intro o ho g ev w _ hv _
 have q1:=hv x uy;rw[hx] at q1
 have q2:=hv lo uy;rw[hl] at q2
 have q3:=hv hi uy;rw[hh] at q3
 refine ⟨S ((l.drop i.toNat).take (j.toNat - i.toNat)),?_,.sc g _⟩
 simp[execOp,ho,q1.gO,q2.gO,q3.gO,S,Instr.sliceAt,Instr.slice,Instr.sliceBounds,run_underlying ht,JA,
  vT (P:=P) (show (0:Int)<=j by omega) h2,vT (P:=P) h0 (show i<=(j.toNat:Nat) by omega),HF]
def NW (ht:P.underlying t=some .string) (hx:fr.val x=eu l) (hl:fr.val lo=Sc (.int k i)) (h0:0<=i) (h2:i<=l.length) :
  X P (.slice t x (some lo) none none) fr [] (eu (l.drop i.toNat)):=by
 intro o ho g ev w _ hv _
 have q1:=hv x uy;rw[hx] at q1
 have q2:=hv lo uy;rw[hl] at q2
 have e:(l.drop i.toNat).take (l.length - i.toNat)=l.drop i.toNat:=dI bm
 refine ⟨S (l.drop i.toNat),?_,.sc g _⟩
 simp[execOp,ho,q1.gO,q2.gO,S,Instr.sliceAt,Instr.slice,Instr.sliceBounds,run_underlying ht,JA,
  vT (P:=P) h0 h2,HF,e]
def NX (ht:P.underlying t=some .string) (hx:fr.val x=eu l) (hh:fr.val hi=Sc (.int k j)) (h0:0<=j) (h2:j<=l.length) :
  X P (.slice t x none (some hi) none) fr [] (eu (l.take j.toNat)):=by
 intro o ho g ev w _ hv _
 have q1:=hv x uy;rw[hx] at q1
 have q3:=hv hi uy;rw[hh] at q3
 refine ⟨S (l.take j.toNat),?_,.sc g _⟩
 simp[execOp,ho,q1.gO,q3.gO,S,Instr.sliceAt,Instr.slice,Instr.sliceBounds,run_underlying ht,JA,
  vT (P:=P) h0 h2,HF]
variable {cells:List PV}
def ũ (ht:P.underlying t=some .string) (hx:fr.val x=eu l) :
  X P (.call ⟨.builtin .len,#[x],#[t]⟩) fr [] (I l.length):=by
 intro o ho g ev w _ hv _
 have q:=hv x P9;rw[hx] at q
 exact akm
def ZR (ht:P.underlying t=some (.slice e)) (hx:fr.val x=.pv (.sl n cells)) :
  X P (.call ⟨.builtin .len,#[x],#[t]⟩) fr [] (I n):=by
 intro o ho g ev w _ hv _
 have q:=hv x P9;rw[hx] at q
 generalize hq:ev x=c at q
 refine ⟨.int .i64 n,?_,.sc g _⟩
 cases q with
 | pv q=>cases q<;>simp[execOp,ho,resolve,invoke,builtin,Builtin.len_,hq,run_underlying ht,goInt]
def Xh {k:Nat} (ht:P.underlying t=some (.slice e)) (hx:fr.val x=.arr k n) :
  X P (.call ⟨.builtin .len,#[x],#[t]⟩) fr [] (I n):=by
 intro o ho g ev w _ hv _
 have q:=hv x P9;rw[hx] at q
 generalize hq:ev x=c at q
 refine ⟨.int .i64 n,?_,.sc g _⟩
 cases q<;>simp[execOp,ho,resolve,invoke,builtin,Builtin.len_,hq,run_underlying ht,goInt]
def Xi {cap:Nat} (ht:P.underlying t=some (.slice e)) (hx:fr.val x=Sc (.slice none 0 cap)) :
  X P (.call ⟨.builtin .len,#[x],#[t]⟩) fr [] (I 0):=by
 intro o ho g ev w _ hv _
 have q:=hv x P9;rw[hx] at q
 exact agP
def ad9 (hx:fr.val x=Sc (.int k a)) (hy:fr.val y=Sc (.int k b)) :
  X P (.call ⟨.builtin .min,#[x,y],ts⟩) fr [] (Sc (.int k (if b<a then b else a))):=by
 intro o ho g ev w _ hv _
 have q1:=hv x P9;rw[hx] at q1
 have q2:=hv y P9;rw[hy] at q2
 exact akk
def ad_ (hx:fr.val x=Sc (.int k a)) (hy:fr.val y=Sc (.int k b)) :
  X P (.call ⟨.builtin .max,#[x,y],ts⟩) fr [] (Sc (.int k (if b>a then b else a))):=by
 intro o ho g ev w _ hv _
 have q1:=hv x P9;rw[hx] at q1
 have q2:=hv y P9;rw[hy] at q2
 exact akl
def Tr {i:Nat} {vs:List AV} (hx:fr.val x=.lM vs) (hv:vs[i]?=some v):X P (.extract x i) fr [] v:=by
 intro o ho g ev w _ hh _;have q:=hh x uy;rw[hx] at q;generalize hq:ev x=c at q;cases q with
 | lM h=>
  obtain ⟨c,h1,h2⟩:=h.get i v hv
  exact ⟨c,by simp[execOp,ho,hq,Instr.extract,h1],h2⟩
def Y.map {g:Gh} {ev:Operand->Value}:∀ {xs:List Operand},(∀ x,x∈xs->VR g (fr.val x) (ev x))->Y g (xs.map fr.val) (xs.map ev)
 | [],_=>.nil
 | x::xs,h=>.cons (h x bm) (Y.map λy hy=>h y (by simp[hy]))
def QC {f:FuncId} {a b:List Operand}:X P (.makeFunc (.func f) a.toArray b.toArray) fr [] (.fn f (a.map fr.val) (b.map fr.val)):=by
 intro o ho g ev w _ hh _;refine ⟨.func (.func f) (a.map ev).toArray (b.map ev).toArray,by simp[execOp,ho,Instr.makeFunc],.fn f (Y.map λx hx=>hh x ?_) (Y.map λx hx=>hh x ?_)⟩
 ·simp[Op.operands,hx]
 simp[Op.operands,hx]
def ZS:TypeDesc->Bool
 | .interface _=>true
 | _=>false
variable {d:TypeDesc}
def NY (ht:P.underlying t=some d) (hd:ZS d=false) (hx:fr.val x=v) :
  X P (.makeInterface t x) fr [] (.vu t v):=by
 intro o ho g ev w _ hh _
 have q:=hh x uy;rw[hx] at q
 refine ⟨.iface t (ev x),?_,.vu t q⟩
 cases d<;>first|(simp[ZS] at hd;done)|simp[execOp,ho,Instr.makeInterface,run_underlying ht]
def Ts (hs:P.underlying s=some (.int k')) (ht:P.underlying t=some (.int k)) (hx:fr.val x=Sc (.int k' a)) :
  X P (.convert s t x) fr [] (Sc (.int k (k.wrap a))):=by
 intro o ho g ev w _ hh _
 have q:=hh x uy;rw[hx] at q
 exact agN
end
section
def Jc (P:Program) (t:TypeId):Option (List Value×List (Nat×Nat)):=
 match P.info? t,P.underlying t with
 | some it,some (.struct fields)=>
  match it.zero,fields.toList.mapM (λf=>(P.info? f.type).map λi=>(f.offset,i.size)) with
  | some z,some places=>some (z.cells.toList,places)
  | _,_=>none
 | some it,some (.array n e)=>
  match it.zero,P.info? e with
  | some z,some ie=>some (z.cells.toList,(List.range n).map λi=>(i*ie.size,ie.size))
  | _,_=>none
 | _,_=>none
def AV.jl:AV->Option (List AV)
 | .any=>none
 | .agg cs=>some cs
 | .pv (.sc v)=>some (v.cells.toList.map λc=>.pv (.sc c))
 | v=>some [v]
def nr (places:List (Nat×Nat)) (cells:List AV):List (Nat×AV)->Option (List AV)
 | []=>some cells
 | (i,v)::rest=>
  match places[i]?,v.jl with
  | some (off,size),some vc=>if vc.length=size/\off+size<=cells.length then nr places (cells.take off++vc++cells.drop (off+size)) rest else none
  | _,_=>none
def Y.Vm (g:Gh):∀ (l:List Value),Y g (l.map λc=>.pv (.sc c)) l
 | []=>.nil
 | _::l=>.cons (.sc g _) (Y.Vm g l)
def uB:=@Y.Vm
variable {g:Gh} {v:AV} {l:List AV} {places:List (Nat×Nat)} {z:List Value} {parts:List (Nat×Operand)} {cs:List AV} {cells:List PV}
def VR.jl {c:Value} (h:VR g v c) (hl:v.jl=some l):Y g l c.cells.toList:=by
 cases h with
 | any=>simp[AV.jl] at hl
 | oc h=>
  simp[AV.jl] at hl;subst hl
  cases c<;>first|(simp[Value.oneCell'] at h;done)|exact .cons (.oc h) .nil
 | pv h=>cases h with
  | sc v=>simp[AV.jl] at hl;subst hl;exact uB g _
  | nil a cap=>simp[AV.jl] at hl;subst hl;exact .cons (.pv (.nil a cap)) .nil
  | sl b ys off n cap cells h LW hc hn=>simp[AV.jl] at hl;subst hl;exact .cons (.pv (.sl b ys off n cap cells h LW hc hn)) .nil
  | ZI=>simp[AV.jl] at hl;subst hl;exact .cons (.pv .ZI) .nil
  | YC b ys off cells h LW hc=>simp[AV.jl] at hl;subst hl;exact .cons (.pv (.YC b ys off cells h LW hc)) .nil
 | ptr off h=>simp[AV.jl] at hl;subst hl;exact .cons (.ptr off h) .nil
 | arr n h=>simp[AV.jl] at hl;subst hl;exact .cons (.arr n h) .nil
 | AS h=>simp[AV.jl] at hl;subst hl;exact .cons (.AS h) .nil
 | sp off h LW hc=>simp[AV.jl] at hl;subst hl;exact .cons (.sp off h LW hc) .nil
 | fn f hx hy=>simp[AV.jl] at hl;subst hl;exact .cons (.fn f hx hy) .nil
 | agg h=>simp[AV.jl] at hl;subst hl;simpa[Value.cells] using h
 | lM h=>simp[AV.jl] at hl;subst hl;exact .cons (.lM h) .nil
 | vu t h=>simp[AV.jl] at hl;subst hl;exact .cons (.vu t h) .nil
def MV (off:Nat):∀ (l:List Value) (j:Nat) (cs:Array Value),off+j+l.length<=cs.size->
  ((l.zipIdx j).foldl (λcs (c,j)=>cs.setIfInBounds (off+j) c) cs).toList=cs.toList.take (off+j)++l++cs.toList.drop (off+j+l.length)
 | [],j,cs,_=>by simp
 | v::l,j,cs,h=>by
  have hl:off+j<cs.size:=by simp at h;omega
  have ih:=MV off l (j+1) (cs.setIfInBounds (off+j) v) (by simp at h ⊢;omega)
  simp only[List.zipIdx_cons,List.foldl_cons]
  rw[ih]
  simp only[Array.toList_setIfInBounds]
  have h1:(cs.toList.set (off+j) v).take (off+(j+1))=cs.toList.take (off+j)++[v]:=by
   rw[show off+(j+1)=off+j+1 by omega,jH (by simpa using hl)]
   rw[List.take_set_of_le BU]
   simp
  have h2:(cs.toList.set (off+j) v).drop (off+(j+1)+l.length)=cs.toList.drop (off+j+(v::l).length):=by
   rw[List.drop_set_of_lt aD]
   congr 1
   simp;omega
  rw[h1,h2];simp
def B0 {place:Nat->Option (Nat×Nat)} (hp:∀ i x,places[i]?=some x->place i=some x) :
  ∀ {ps:List (Nat×AV)} {cells out:List AV} {cs:Array Value} {vs:List (Nat×Value)},nr places cells ps=some out->Y g cells cs.toList->
   vs.map (·.1)=ps.map (·.1)->Y g (ps.map (·.2)) (vs.map (·.2))->True->(∀ i v,(i,v)∈ps->∃ l,v.jl=some l)->
   ∃ lj,Instr.fill place cs vs=some lj/\Y g out lj.toList
 | [],cells,out,cs,vs,h,hc,h1,_,_,_=>by
  cases vs with
  | nil=>simp[nr] at h;subst h;exact ⟨cs,rfl,hc⟩
  | cons a l=>simp at h1
 | (i,v)::rest,cells,out,cs,vs,h,hc,h1,h2,_,h3=>by
  cases vs with
  | nil=>simp at h1
  | cons a l=>
   obtain ⟨j,c⟩:=a
   simp at h1
   obtain ⟨rfl,h1⟩:=h1
   cases h2 with
   | cons hv h2=>
    simp only[nr] at h
    split at h
    ·rename_i off size vc hpl hac
     split at h
     ·rename_i hcond
      have hvc:=hv.jl hac
      have hlen:=hvc.length
      have JY:=hc.length
      simp at hlen JY
      have GK:Y g (cells.take off++vc++cells.drop (off+size)) (((c.cells.zipIdx.foldl (λcs (x:Value×Nat)=>cs.setIfInBounds (off+x.2) x.1) cs)).toList):=by
       have:=MV off c.cells.toList 0 cs rI
       rw[<- Array.foldl_toList,Array.toList_zipIdx]
       rw[this]
       simp only[Nat.add_zero]
       have e:off+c.cells.toList.length=off+size:=by simp;omega
       rw[e]
       exact ((hc.take off).append hvc).append (hc.drop (off+size))
      obtain ⟨lj,hf,hr⟩:=B0 hp h GK h1 h2 trivial (λi v hm=>h3 i v (by simp[hm]))
      refine ⟨lj,?_,hr⟩
      simp only[Instr.fill,hp _ _ hpl]
      rw[aC rI]
      exact hf
     ·cases h
    ·cases h
section
variable {P:Program} {fr:kG}
def QD (h:Jc P t=some (z,places)) :
  ∃ (place:Nat->Option (Nat×Nat)),(∀ i x,places[i]?=some x->place i=some x)/\∀ parts cells,Instr.fill place z.toArray parts=some cells->P.built t parts=some cells:=by
 unfold Jc at h
 split at h
 ·rename_i it fields hi hu
  split at h
  ·rename_i zz pl hz hpl
   cases h
   exact ⟨λx=>places.toArray[x]?,λi x hx=>by simpa using hx,λparts cells hf=>by simp[Program.built,hi,hu,hz,hpl];simpa using hf⟩
  ·cases h
 ·rename_i it n e hi hu
  split at h
  ·rename_i zz ie hz hie
   cases h
   refine ⟨λi=>some (i*ie.size,ie.size),λi x hx=>?_,λparts cells hf=>by simp[Program.built,hi,hu,hz,hie];simpa using hf⟩
   rw[eX,List.getElem?_range] at hx
   ·simpa using hx
   ·rcases fA i n with q|q
    ·exact q
    ·rw[gY FZ] at hx;cases hx
  ·cases h
 ·cases h
def B1:∀ {ps:List (Nat×AV)} {cells out:List AV},nr places cells ps=some out->∀ i v,(i,v)∈ps->∃ l,v.jl=some l
 | [],_,_,_,i,v,h=>by cases h
 | (j,u)::rest,cells,out,h,i,v,hm=>by
  simp only[nr] at h;split at h
  ·rename_i off size vc hpl hac;split at h
   ·rcases cf.1 hm with q|q
    ·cases q;exact ⟨_,hac⟩
    exact B1 h i v q
   cases h
  cases h
def ZT {out:List AV} (ht:Jc P t=some (z,places)) (h:nr places (z.map λv=>.pv (.sc v)) (parts.map λp=>(p.1,fr.val p.2))=some out):X P (.build t parts.toArray) fr [] (.agg out):=by
 intro o ho g ev w _ hv _;obtain ⟨place,hp,hb⟩:=QD ht;obtain ⟨lj,hf,hr⟩:=B0 (g:=g) (vs:=parts.map λp=>(p.1,ev p.2)) (cs:=z.toArray) hp h (by simpa using uB g z) bm
  (by
   have:∀ (ps:List (Nat×Operand)),(∀ p,p∈ps->p∈parts)->Y g ((ps.map λp=>(p.1,fr.val p.2)).map (·.2)) ((ps.map λp=>(p.1,ev p.2)).map (·.2)):=by
    intro ps
    induction ps with
    | nil=>intro _;exact .nil
    | cons p ps ih=>intro hm;exact .cons (hv p.2 (by simp[Op.operands];exact ⟨_,hm p bm⟩)) (ih λq hq=>hm q (by simp[hq]))
   exact this parts λ_ hp=>hp) trivial (B1 h)
 refine ⟨.agg lj,?_,by have:=VR.agg hr;simpa using this⟩;have e:(parts.toArray.map λ(x:Nat×Operand)=>(x.1,ev x.2)).toList=parts.map λp=>(p.1,ev p.2):=by simp
 have oY:=run_build (P:=P) w t (parts.toArray.map λ(x:Nat×Operand)=>(x.1,ev x.2)) lj (by rw[e];exact hb _ _ hf);simp only[execOp,ho,cC,oY,bQ,ep]
variable {ft:TypeId} {fields:Array Field} {fd:Field}
def NZ (hu:P.underlying t=some (.struct fields)) (hf:fields[f]?=some fd) (hft:fd.type=ft) (ha:Ai P ft=some false) (hx:fr.val x=.agg cs) (hv:cs[fd.offset]?=some v):X P (.field t x f) fr [] v:=by
 subst hft;intro o ho g ev w _ hh _;have q:=hh x uy;rw[hx] at q;generalize hq:ev x=c at q;cases q with
 | agg h=>
  obtain ⟨c,h1,h2⟩:=h.get _ v hv
  exact agX
def N0 {ix:Operand} {k:IntKind} {i:Int} (hu:P.underlying t=some (.array n e)) (ha:Ai P e=some false) (hs:Lv P e=some 1) (hx:fr.val x=.agg cs) (hi:fr.val ix=Sc (.int k i)) (h0:0<=i) (h1:i<n) (hv:cs[i.toNat]?=some v):X P (.index t x ix) fr [] v:=by
 intro o ho g ev w _ hh _;have q:=hh x uy;rw[hx] at q;have q2:=hh ix uy;rw[hi] at q2;generalize hq:ev x=c at q;cases q with
 | agg h=>
  obtain ⟨c,hc1,Pz⟩:=h.get _ v hv
  exact akn
def QE (P:Program) (op:Op) (fr:kG) (nm:Nat) (e:cQ) (v:AV):Prop:=
 ∀ (o:Oper),o.op=op->∀ (g:Gh) (ev:Operand->Value) (w:World),g.G w.heap.size=none->(∀ x,x∈op.operands->VR g (fr.val x) (ev x)/\(fr.val x).iQ nm=false)->
  ∃ c cs el cap,(execOp ev o).run P w=.ok (.value c) (w.alloc (.cells cs el (0,0)))/\qN (g.fresh nm w.heap.size cap e) (w.alloc (.cells cs el (0,0))) nm e/\
   VR (g.fresh nm w.heap.size cap e) v c
def ZU (P:Program) (op:Op) (fr:kG) (v:AV):Prop:=
 ∀ (o:Oper),o.op=op->∀ (g:Gh) (ev:Operand->Value) (w:World),(∀ x,x∈op.operands->VR g (fr.val x) (ev x))->
  ∃ c cs el ys,(execOp ev o).run P w=.ok (.value c) (w.alloc (.cells cs el (0,0)))/\ys.length<=cs.size/\uF g ys (cs.toList.take ys.length)/\VR (g.iB w.heap.size ys) v c
def F5 (g:Gh) (nm b cap:Nat):(g.bind nm b cap).ρ nm=some b:=by simp[Gh.bind]
def EV (g:Gh) (nm b cap:Nat):(g.bind nm b cap).cp nm=cap:=by simp[Gh.bind]
def QF (nm:Nat) (hz:Vh P t=some z):QE P (.alloc t) fr nm (.box (z.map λv=>.pv (.sc v))) (.ptr nm 0):=by
 intro o ho g ev w hG0 _;unfold Vh at hz;cases hi:P.info? t with
 | none=>simp[hi] at hz
 | some i=>
  cases hzz:i.zero with
  | none=>simp[hi,hzz] at hz
  | some zv=>
   simp only[hi,hzz,sJ] at hz
   cases ha:zv.cells.toList.all Value.oneCell' with
   | false=>rw[ha] at hz;cases hz
   | true=>
   rw[ha] at hz
   have hz:zv.cells.toList=z:=by injection hz
   have h1:∀ v,v∈zv.cells.toList->v.oneCell'=true:=λv hv=>iS.1 ha v hv
   refine ⟨.pointer (some ⟨w.heap.size,0,none⟩),zv.cells,t,0,?_,?_,.ptr 0 (F5 ..)⟩
   ·simp[execOp,ho,Instr.alloc,zeroValue,typeInfo,hi,hzz,newVar,newRow]
   ·refine .box (F5 ..) (heap_alloc_new w _) ?_ h1;rw[hz];exact uB _ z
def aea (nm:Nat) (hx:(fr.val x).jl=some l) (ho1:AV.pq l=true) (hm:AV.iQ.ka nm l=false):QE P (.box t x) fr nm (.box l) (.ptr nm 0):=by
 intro o ho g ev w hG0 hv;obtain ⟨h1,h2⟩:=hv x uy;refine ⟨.pointer (some ⟨w.heap.size,0,none⟩),(ev x).cells,t,0,?_,?_,.ptr 0 (F5 ..)⟩
 ·simp[execOp,ho,Instr.box,newVar,newRow]
 exact .box (F5 ..) (heap_alloc_new w _) ((h1.jl hx).le UY λk q=>by subst q;exact hm) ((h1.jl hx).one ho1)
def J5 (P:Program) (t:TypeId) (n:Nat):Option (TypeId×Nat×List Value×List (Nat×Nat)):=
 match P.underlying t with
 | some (.slice e)=>
  match P.info? e with
  | some i=>match i.zero with
   | some z=>if 0<n*i.size/\n*i.size<=16777216/\z.cells.size=i.size then some (e,i.size,((List.range (n*i.size)).map λj=>z.cells[j % z.cells.size]!),(List.range n).map λj=>(j*i.size,i.size)) else none
   | none=>none
  | none=>none
 | _=>none
def vU {zs:List Value} (h:J5 P t n=some (e,sz,zs,places)) :
  ∃ (place:Nat->Option (Nat×Nat)),(∀ i x,places[i]?=some x->place i=some x)/\zs.length=n*sz/\
   ∀ parts cells w,Instr.fill place zs.toArray parts.toList=some cells->
    (Instr.buildSlice t n parts).run P w=.ok (.slice (some ⟨w.heap.size,0,none⟩) n n) (w.alloc (.cells cells e (0,0))):=by
 unfold J5 at h
 split at h
 ·rename_i e' hu
  split at h
  ·rename_i i hi
   split at h
   ·rename_i z hz
    split at h
    ·rename_i hc
     simp only[Option.some.injEq,qR] at h
     obtain ⟨rfl,rfl,rfl,rfl⟩:=h
     refine ⟨λj=>some (j*i.size,i.size),λj x hx=>?_,bm,λparts cells w hf=>?_⟩
     ·rw[eX] at hx
      rcases fA j n with q|q
      ·rw[List.getElem?_range q] at hx;simpa using hx
      ·rw[gY FZ] at hx;cases hx
     ·have hf':Instr.fill (λj=>some (j*i.size,i.size)) ((Array.range (n*i.size)).map λj=>z.cells[j % z.cells.size]!) parts.toList=some cells:=by
       rw[<- hf];congr 1
       rw[<- Array.toList_inj];simp[Array.toList_range]
      have h0:n*i.size≠0:=by omega
      have hle:¬ (2 ^ 24<n*i.size):=by omega
      simp[Instr.buildSlice,run_underlying hu,sizeOf,typeInfo,hi,zeroValue,hz,h0,hle,hf',newRow]
    ·cases h
   ·cases h
  ·cases h
 ·cases h
def EW {ev:Operand->Value} (hv:∀ p,p∈parts->VR g (fr.val p.2) (ev p.2)) :
  Y g ((parts.map λp=>(p.1,fr.val p.2)).map (·.2)) ((parts.map λp=>(p.1,ev p.2)).map (·.2)):=by
 have:∀ (ps:List (Nat×Operand)),(∀ p,p∈ps->p∈parts)->Y g ((ps.map λp=>(p.1,fr.val p.2)).map (·.2)) ((ps.map λp=>(p.1,ev p.2)).map (·.2)):=by
  intro ps
  induction ps with
  | nil=>intro _;exact .nil
  | cons p ps ih=>intro hm;exact .cons (hv p (hm p bm)) (ih λq hq=>hm q (by simp[hq]))
 exact this parts λ_ hp=>hp
def uF.HG {ps:List PV}:∀ {vs:List Value},Y g (ps.map .pv) vs->uF g ps vs:=by
 induction ps with
 | nil=>intro vs h;cases h;exact .nil
 | cons p ps ih=>intro vs h;cases h with|cons h t=>cases h with|pv h=>exact .cons h (ih t)
def BB {zs:List Value} (ht:J5 P t n=some (e,sz,zs,places)) (h:nr places (zs.map λv=>.pv (.sc v)) (parts.map λp=>(p.1,fr.val p.2))=some (cells.map .pv)):ZU P (.buildSlice t n parts.toArray) fr (.pv (.sl n cells)):=by
 intro o ho g ev w hv;obtain ⟨place,hp,hzl,hb⟩:=vU ht;obtain ⟨lj,hf,hr⟩:=B0 (g:=g) (vs:=parts.map λp=>(p.1,ev p.2)) (cs:=zs.toArray) hp h Zh bm
  (EW λp hp=>hv p.2 Va) trivial (B1 h)
 have e1:(parts.toArray.map λ(x:Nat×Operand)=>(x.1,ev x.2)).toList=parts.map λp=>(p.1,ev p.2):=by simp
 have oY:=hb (parts.toArray.map λ(x:Nat×Operand)=>(x.1,ev x.2)) lj w U2;have hps:=uF.HG hr;exact ahh
def LX {zs:List Value} (nm:Nat) (ht:J5 P t n=some (e,sz,zs,places)) (h:nr places (zs.map λv=>.pv (.sc v)) (parts.map λp=>(p.1,fr.val p.2))=some (cells.map .pv)) (hl:cells.length=n*sz) (hn:n<=maxLen) :
  QE P (.buildSlice t n parts.toArray) fr nm (.arr e sz cells) (.arr nm n):=by
 intro o ho g ev w hG0 hv
 obtain ⟨place,hp,hzl,hb⟩:=vU ht
 obtain ⟨lj,hf,hr⟩:=B0 (g:=g) (vs:=parts.map λp=>(p.1,ev p.2)) (cs:=zs.toArray) hp h Zh bm
  (EW λp hp=>(hv p.2 Va).1) trivial (B1 h)
 have e1:(parts.toArray.map λ(x:Nat×Operand)=>(x.1,ev x.2)).toList=parts.map λp=>(p.1,ev p.2):=by simp
 have oY:=hb (parts.toArray.map λ(x:Nat×Operand)=>(x.1,ev x.2)) lj w U2
 have hlen:=hr.length
 simp at hlen
 refine ⟨.slice (some ⟨w.heap.size,0,none⟩) n n,lj,e,n,?_,?_,?_⟩
 ·simp only[execOp,ho,cC,oY,bQ,ep]
 ·refine .arr (F5 ..) (heap_alloc_new w _) aD (by simp only[Gh.fresh];rw[EV];omega) (by simp only[Gh.fresh];rw[EV];exact hn) ?_
  rw[dI rI]
  exact (uF.HG hr).le UY
 ·have:=VR.arr (g:=g.bind nm w.heap.size n) (k:=nm) n (F5 ..)
  rwa [EV] at this
def Iu {zs:List Value} (nm:Nat) (ht:J5 P t n=some (e,sz,zs,places)) (h:nr places (zs.map λv=>.pv (.sc v)) (parts.map λp=>(p.1,fr.val p.2))=some (cells.map .pv)) (hl:cells.length=n*sz) (hn:n<=maxLen) :
  QE P (.buildSlice t n parts.toArray) fr nm (.app e sz cells) (.arr nm n):=by
 intro o ho g ev w hG0 hv
 obtain ⟨place,hp,hzl,hb⟩:=vU ht
 obtain ⟨lj,hf,hr⟩:=B0 (g:=g) (vs:=parts.map λp=>(p.1,ev p.2)) (cs:=zs.toArray) hp h (by simpa using uB _ zs) bm
  (EW λp hp=>(hv p.2 Va).1) trivial (B1 h)
 ·have e1:(parts.toArray.map λ(x:Nat×Operand)=>(x.1,ev x.2)).toList=parts.map λp=>(p.1,ev p.2):=by simp
  have oY:=hb (parts.toArray.map λ(x:Nat×Operand)=>(x.1,ev x.2)) lj w U2
  have hps:=uF.HG hr
  have hlen:=hps.length
  simp at hlen
  refine ⟨.slice (some ⟨w.heap.size,0,none⟩) n n,lj,e,n,?_,?_,?_⟩
  ·simp only[execOp,ho,cC,oY,bQ,ep]
  ·refine .app (by simp[Gh.fresh,Gh.bind,Gh.iB]) (by simp[Gh.fresh,Gh.iB]) (heap_alloc_new w _) aD (by simp[Gh.fresh,Gh.bind,Gh.iB];omega) (by simp[Gh.fresh,Gh.bind,Gh.iB];exact hn) ?_
   rw[dI rI]
   exact hps.le (wP.fresh g nm _ n (.app e sz cells) hG0)
  ·have:=VR.arr (g:=g.fresh nm w.heap.size n (.app e sz cells)) (k:=nm) (b:=w.heap.size) n (by simp[Gh.fresh,Gh.bind,Gh.iB])
   simpa[Gh.fresh,Gh.bind,Gh.iB] using this
end
end
section
inductive MW where
 | normal
 | exit (id:Nat)
 | goto (l:Nat)
 | ret
 | panic (v:AV)
inductive GL where
 | ret (v:AV)
 | panic (v:AV)
inductive XR (g:Gh):MW->Exit->Prop
 | normal:XR g .normal .normal
 | exit (id:Nat):XR g (.exit id) (.exit id)
 | goto (l:Nat):XR g (.goto l) (.goto l)
 | ret:XR g .ret .ret
 | panic {v:AV} {c:Value} (h:VR g v c):XR g (.panic v) (.panic [{ v:=c,recovered:=false }])
inductive ER (g:Gh):GL->Ending->Prop
 | ret {v:AV} {c:Value} (h:VR g v c):ER g (.ret v) (.returned c)
 | panic {v:AV} {c:Value} (h:VR g v c):ER g (.panic v) (.panicked [{ v:=c,recovered:=false }])
abbrev gh:=MW->kG->fi->Prop
def LQ (E:Env) (n:Nat) (Q:gh):Exit->Act->World->Prop:=
 λe a w=>∃ g ae fr σ,Q ae fr σ/\XR g ae e/\Rel E g σ w/\FR n g fr a
variable {Q':gh} {v:AV} {next:kG->fi->Prop} {g:Gh} {want:Bool} {rest:List Oper} {b:Bool} {c:Code} {id:Nat} {x y:Code} {oM:kG}
def Step (P:Program) (E:Env) (n:Nat) (Q:gh) (o:Oper) (fr:kG) (σ:fi) (next:kG->fi->Prop):Prop:=
 ∀ (g:Gh) (a:Act) (w:World) (K:Act->World->Prop),Rel E g σ w->FR n g fr a->
  (∀ g' oM σ' a' w',next oM σ'->Rel E g' σ' w'->FR n g' oM a'->K a' w')->o.wp P a w K (LQ E n Q)
def SL (P:Program) (E:Env) (n:Nat) (ops:Array Oper) (Q:gh) (l:List Oper) (fr:kG) (σ:fi):Prop:=
 ∀ (g:Gh) (a:Act) (w:World),Rel E g σ w->FR n g fr a->wpList P ops (LQ E n Q) l a w
def SW (P:Program) (E:Env) (n:Nat) (c:Code) (Q:gh) (fr:kG) (σ:fi):Prop:=
 ∀ (g:Gh) (a:Act) (w:World),Rel E g σ w->FR n g fr a->c.wp P (LQ E n Q) a w
def SC (P:Program) (f:FuncId) (args:List AV) (σ:fi) (R:GL->fi->Prop):Prop:=
 ∀ (wS:World) (g:Gh) (w:World) (vs:List Value),Rel (Env.of wS g σ w) g σ w->Y g args vs->
  Calls P f vs.toArray w λe w'=>∃ g' ae σ',R ae σ'/\ER g' ae e/\Rel (Env.of wS g σ w) g' σ' w'
section
variable {P:Program} {E:Env} {Q:gh} {fr:kG} {σ:fi}
def N3 {rd:List (Nat×cQ)} (h:X P o.op fr rd v) (hr:∀ p,p∈rd->Cov σ p) (hd:∀ d,o.dst=some d->d<n) (hn:next (fr.pS o.dst v) σ):Step P E n Q o fr σ next:=by
 intro g a w K hR hF hK;obtain ⟨c,oY,hv⟩:=h o rfl g a.eval w hR.gl (λx _=>hF.eval x) (λp hp=>let ⟨e,h1,h2⟩:=hr p hp;h2 _ _ _ (hR.rU _ _ h1));simp only[Oper.wp,oY,Oper.upon];exact hK g _ σ _ w hn hR (hF.put hd hv)
def Jd {nm:Nat} {e:cQ} (h:QE P o.op fr nm e v) (hc:fr.clear nm) (hs:σ.clear nm) (hf:E.fix nm=none) (hd:∀ d,o.dst=some d->d<n) (hn:next (fr.pS o.dst v) (σ.set nm e)):Step P E n Q o fr σ next:=by
 intro g a w K hR hF hK;have zi:∀ x,(fr.val x).iQ nm=false:=λx=>by
  cases x with
  | tmp t=>exact hc.1 t
  | const v=>rfl
  | global k=>rfl
  | func f=>rfl
 obtain ⟨c,cs,el,cap,oY,he,hv⟩:=h o rfl g a.eval w hR.gl.fresh (λx _=>⟨hF.eval x,zi x⟩);simp only[Oper.wp,oY,Oper.upon];refine hK (g.fresh nm w.heap.size cap e) _ _ _ _ hn (hR.ZJ hs hf he) (FR.put ?_ hd hv);exact hF.le (wP.fresh g nm _ _ e hR.gl.fresh) λk q=>by subst q;exact hc
def Vn (h:ZU P o.op fr v) (hd:∀ d,o.dst=some d->d<n) (hn:next (fr.pS o.dst v) σ):Step P E n Q o fr σ next:=by
 intro g a w K hR hF hK;obtain ⟨c,cs,el,ys,oY,hl,hp,hv⟩:=h o rfl g a.eval w (λx _=>hF.eval x);simp only[Oper.wp,oY,Oper.upon];exact hK (g.iB w.heap.size ys) _ _ _ _ hn (hR.frozen hl hp) ((hF.le (nn:=λ_=>False) (qm g _ ys hR.gl.fresh) λk q=>q.elim).put hd hv)
def FR.Vo (hF:FR n g fr a) {v:Value} (hj:(ops[j]?).bind (·.dst)=some d) (hb:fr.s d=Sc v) (hv:v≠.bool want):yielded ops a.tmps j≠some want:=by
 have:=hF.oP d;rw[hb] at this;have h1:=this.gO;intro q;simp only[yielded,hj,sJ] at q;split at q
 ·rename_i b h2;cases q;rw[eQ,h2] at h1;exact hv (by simpa using h1.symm)
 cases q
def rJ (h:Q .normal fr σ):SL P E n ops Q [] fr σ:=λg _ _ hR hF=>⟨g,.normal,fr,σ,h,.normal,hR,hF⟩
def qE (hg:o.guard=none) (h:Step P E n Q o fr σ (SL P E n ops Q rest)):SL P E n ops Q (o::rest) fr σ:=by
 intro g a w hR hF;unfold wpList;rw[aL (by simp[Region.wanted,hg])];exact .inl (h g a w _ hR hF λg' oM σ' a' w' hn kL sR=>hn g' a' w' kL sR)
def FR.yield (hF:FR n g fr a) (hj:(ops[j]?).bind (·.dst)=some d) (hb:fr.s d=Bo b):yielded ops a.tmps j=some b:=by
 have:=hF.oP d;rw[hb] at this;have h1:=this.gO;have gR:d<a.tmps.size:=by
  rcases fA d a.tmps.size with q|q
  ·exact q
  rw[eQ,gE q] at h1;simp[undef] at h1
 have h2:a.tmps[d]?=some (.bool b):=by
  rw[eQ,gv gR] at h1;rw[gv gR];simpa using h1
 simp[yielded,hj,h2]
def GM (hg:o.guard=some (j,want)) (hj:(ops[j]?).bind (·.dst)=some d) (hb:fr.s d=Bo b) (hd:∀ d,o.dst=some d->d<n) (hyes:b=want->Step P E n Q o fr σ (SL P E n ops Q rest)) (GO:b≠want->SL P E n ops Q rest (fr.pS o.dst (Sc undef)) σ) :
  SL P E n ops Q (o::rest) fr σ:=by
 intro g a w hR hF
 unfold wpList
 have hy:=hF.yield (ops:=ops) hj hb
 by_cases hw:b=want
 ·rw[aL (by simp[Region.wanted,hg,hy,hw])]
  exact .inl (hyes hw g a w _ hR hF λg' oM σ' a' w' hn kL sR=>hn g' a' w' kL sR)
 ·rw[aC (by simp[Region.wanted,hg,hy,hw])]
  exact GO hw g _ w hR (hF.put hd (.pv (.sc _)))
def aeb {v:Value} (hg:o.guard=some (j,want)) (hj:(ops[j]?).bind (·.dst)=some d) (hb:fr.s d=Sc v) (hv:v≠.bool want) (hd:∀ d,o.dst=some d->d<n) (GO:SL P E n ops Q rest (fr.pS o.dst (Sc undef)) σ):SL P E n ops Q (o::rest) fr σ:=by
 intro g a w hR hF;unfold wpList;rw[aC (by simp[Region.wanted,hg,hF.Vo hj hb hv])];exact GO g _ w hR (hF.put hd (.pv (.sc _)))
variable {l:List Oper}
def bp (h:SL P E n l.toArray Q l fr σ):SW P E n (.region id l.toArray false) Q fr σ:=
 λg a w hR hF=>wp_region_lit (h g a w hR hF)
def Bb (K:kG->fi->Prop) (Q:gh):gh
 | .normal,fr,σ=>K fr σ
 | e,fr,σ=>Q e fr σ
def Tt (id:Nat) (Q:gh):gh
 | .exit id',fr,σ=>if id'=id then Q .normal fr σ else Q (.exit id') fr σ
 | e,fr,σ=>Q e fr σ
def ZV (h:SW P E n x (Bb (SW P E n y Q) Q) fr σ):SW P E n (.seq x y) Q fr σ:=by
 intro g a w hR hF;refine wp_seq (wp_mono (h g a w hR hF) λe a w hq=>?_);obtain ⟨g',ae,oM,σ',q,hx,kL,sR⟩:=hq;cases hx with
 | normal=>exact q g' a w kL sR
 | exit id=>exact ⟨g',_,oM,σ',q,.exit id,kL,sR⟩
 | goto l=>exact ⟨g',_,oM,σ',q,.goto l,kL,sR⟩
 | ret=>exact Zz
 | panic hv=>exact Zw
def bz (h:∀ K:kG->fi->Prop,(∀ fr σ,SW P E n y Q fr σ->K fr σ)->SW P E n x (Bb K Q) fr σ):SW P E n (.seq x y) Q fr σ:=
 ZV (h _ λ_ _ h=>h)
def Ū {c:Operand} (hb:fr.val c=Bo b) (ht:b=true->SW P E n x Q fr σ) (hf:b=false->SW P E n y Q fr σ):SW P E n (.cond c x y) Q fr σ:=by
 intro g a w hR hF;have:=hF.eval c;rw[hb] at this;exact wp_cond_split this.gO (λh=>ht h g a w hR hF) (λh=>hf h g a w hR hF)
def lZ (h:Q .normal fr σ):SW P E n .skip Q fr σ:=λg _ _ hR hF=>wp_skip ⟨g,.normal,fr,σ,h,.normal,hR,hF⟩
def J6 {l:Nat} (h:Q .normal fr σ):SW P E n (.label l) Q fr σ:=λg _ _ hR hF=>wp_label ⟨g,.normal,fr,σ,h,.normal,hR,hF⟩
def GP (h:Q (.exit id) fr σ):SW P E n (.exit id) Q fr σ:=λg _ _ hR hF=>wp_exit ⟨g,.exit id,fr,σ,h,.exit id,hR,hF⟩
def rK (h:Q .ret fr σ):SW P E n .ret Q fr σ:=λg _ _ hR hF=>wp_ret ⟨g,.ret,fr,σ,h,.ret,hR,hF⟩
def B2 (h:SW P E n c (Tt id Q) fr σ):SW P E n (.block id c) Q fr σ:=by
 intro g a w hR hF;refine wp_block (wp_mono (h g a w hR hF) λe a w hq=>?_);obtain ⟨g',ae,oM,σ',q,hx,kL,sR⟩:=hq;cases hx with
 | normal=>exact Zf
 | exit id'=>
  simp only[Tt] at q
  simp only[Exit.inBlock]
  split at q
  ·rename_i he;rw[aL he];exact Zf
  ·rename_i he;rw[aC he];exact ⟨g',_,oM,σ',q,.exit id',kL,sR⟩
 | goto l=>exact ⟨g',_,oM,σ',q,.goto l,kL,sR⟩
 | ret=>exact Zz
 | panic hv=>exact Zw
def ū (I:Nat->kG->fi->Prop) (m:Nat) (h0:I m fr σ) (round:∀ k fr σ,I k fr σ->SW P E n c (Bb (λoM σ'=>∃ j,j<k/\I j oM σ') Q) fr σ):SW P E n (.loop c) Q fr σ:=by
 have key:∀ k,∀ fr σ,I k fr σ->SW P E n (.loop c) Q fr σ/\∀ (g:Gh) (a:Act) (w:World),Rel E g σ w->FR n g fr a->∀ (b:Frame) (kk:List Item) (cs:List Frame),
   ∃ e a' w',LQ E n Q e a' w'/\Arrives P (lone (b.at a (.code c::.inLoop c::kk)) cs w) b kk cs e a' w':=by
  intro k
  induction k using Nat.strongRecOn with
  | _ k ih=>
   intro fr σ hI
   have main:∀ (g:Gh) (a:Act) (w:World),Rel E g σ w->FR n g fr a->∀ (b:Frame) (kk:List Item) (cs:List Frame),
     ∃ e a' w',LQ E n Q e a' w'/\Arrives P (lone (b.at a (.code c::.inLoop c::kk)) cs w) b kk cs e a' w':=by
    intro g a w hR hF b kk cs
    obtain ⟨e,a₁,w₁,hq,Tm⟩:=round k fr σ hI g a w hR hF b (.inLoop c::kk) cs
    obtain ⟨g',ae,oM,σ',q,hx,kL,sR⟩:=hq
    cases hx with
    | normal=>
     obtain ⟨j,hj,J7⟩:=q
     obtain ⟨e₂,a₂,w₂,hq₂,harr₂⟩:=(ih j hj oM σ' J7).2 g' a₁ w₁ kL sR b kk cs
     exact ⟨e₂,a₂,w₂,hq₂,.of_steps (Steps.trans Tm (.one step_inLoop)) harr₂⟩
    | exit id=>exact agR
    | goto l=>exact agS
    | ret=>exact agT
    | panic hv=>exact agQ
   refine ⟨λg a w hR hF b kk cs=>?_,main⟩
   obtain ⟨e,a',w',hq,Tm⟩:=main g a w hR hF b kk cs
   exact ⟨e,a',w',hq,.of_steps (.one step_loop) Tm⟩
 exact (key m fr σ h0).1
def kG.le (fr oM:kG):Prop:=(∀ i,oM.s i=fr.s i\/oM.s i=.any)/\oM.ds=fr.ds
def FR.LY (h:fr.le oM) (hF:FR n g fr a):FR n g oM a:=
 ⟨hF.size,λi=>by
  rcases h.1 i with q|q
  ·rw[q];exact hF.oP i
  rw[q];exact .any _,by rw[h.2];exact hF.ds⟩
variable {σ':fi}
def Vp (hf:fr.le oM) (hs:∀ k e,σ' k=some e->σ k=some e) (h:SW P E n c Q oM σ'):SW P E n c Q fr σ:=
 λg a w hR hF=>h g a w (hR.sub hs) (hF.LY hf)
end
end
def QG {α:Type} (A v:List α) (off c:Nat) (h1:off+v.length<=c) (h2:c<=A.length) :
  (A.take off++v++A.drop (off+v.length)).take c=(A.take c).take off++v++(A.take c).drop (off+v.length):=by
 rw[List.take_append,nV,r7,ta aD]
 have e:(A.take off++v).length=off+v.length:=by simp;omega
 rw[e,dI (by rw[e];exact h1)]
def AV.aec:AV->PV
 | .pv p=>p
 | _=>.sc undef
def xL (nm:Nat):∀ l:List PV,AV.iQ.ka nm (l.map .pv)=false
 | []=>rfl
 | x::l=>by simp[AV.iQ.ka,AV.iQ,xL nm l]
def J8:∀ l:List PV,(l.map AV.pv).map AV.aec=l
 | []=>rfl
 | x::l=>by rw[jW,jW,J8 l];rfl
def cQ.ZW:cQ->Bool
 | .arr ..=>true
 | _=>false
def cQ.Xe (off:Nat) (l:List AV):cQ->cQ
 | .box cs=>.box (cs.take off++l++cs.drop (off+l.length))
 | .arr el sz cs=>.arr el sz (cs.take off++l.map AV.aec++cs.drop (off+l.length))
 | e=>e
section
variable {P:Program} {E:Env} {Q:gh} {fr:kG} {σ:fi}
variable {next:kG->fi->Prop} {l:List PV} {ty:TypeId} {len m:Nat} {news:List Value} {bytes:Nat} {g:Gh}
def CK {y:Operand} {off:Nat} {e:cQ} {l:List AV} (ho:o.op=.store t x y) (hd:o.dst=none) (hx:fr.val x=.ptr k off) (hk:σ k=some e) (BX:e.isApp=false) (hy:(fr.val y).jl=some l) (h1:AV.pq l=true) (ht:Lv P t=some l.length) (hl:off+l.length<=e.cells.length) (hpa:e.ZW=true->∃ ps:List PV,l=ps.map .pv) (hn:next fr (σ.set k (e.Xe off l))):Step P E n Q o fr σ next:=by
 intro g a w K hR hF hK;have q:=hF.eval x;rw[hx] at q;have r:=(hF.eval y).jl hy;generalize hq:a.eval x=c at q;cases q with
 | ptr _ hb=>
  rename_i b
  obtain ⟨cs,el,hw,JY,hc⟩:=(hR.rU k e hk).at hb
  have hlen:=r.length
  simp at hlen
  have E7:=run_storeCells_at P b off el (a.eval y).cells.toList 0 cs w hw rI (r.one h1)
  simp only[Nat.add_zero] at E7
  have hput:a.put o.dst undef=a:=by rw[hd];rfl
  have oY:(execOp a.eval o).run P w=.ok .skip (w.setRow b (cs.toList.take off++(a.eval y).cells.toList++cs.toList.drop (off+(a.eval y).cells.toList.length)).toArray):=by
   simp only[execOp,ho,hq,Instr.storeAt,Instr.sureAddr,cC,ep,bQ,storeVar,vt ht];rw[aC rI];simp[E7]
  simp only[Oper.wp,oY,Oper.upon,hput]
  refine hK g _ _ _ _ hn (hR.write hk BX hb ?_ ⟨_,_,_,hw,rI,λ_ hf v hv=>(by
   simp only[bL] at hv;rcases hv with (hv|hv)|hv
   ·exact hf v (pQ hv)
   ·exact r.one h1 v hv
   exact hf v (List.mem_of_mem_drop hv))⟩ (λ⟨c,q⟩=>by cases e with|box c=>exact ⟨_,rfl⟩|arr _ _ _=>cases q|app _ _ _=>cases q)) hF
  have hlen2:(a.eval y).cells.toList.length=l.length:=by simp;omega
  rw[hlen2]
  cases e with
  | box cells=>
   cases hR.rU k _ hk with
   | box h PH hc0 hb1=>
    rw[h] at hb;cases hb
    rw[hw] at PH;cases PH
    refine .box h (setRow_heap w b cs _ el _ hw) ?_ ?_
    ·simp only;exact ((hc0.take off).append r).append (hc0.drop (off+l.length))
    ·intro v hv;simp only[bL] at hv;rcases hv with (hv|hv)|hv
     ·exact hb1 v (pQ hv)
     ·exact r.one h1 v hv
     exact hb1 v (List.mem_of_mem_drop hv)
  | arr ee sz cells=>
   cases hR.rU k _ hk with
   | AS h=>rw[h] at hb;cases hb
   | arr h PH GD hz hm hc0=>
    rw[h] at hb;cases hb
    rw[hw] at PH;cases PH
    obtain ⟨ps,hps⟩:=hpa rfl
    have r':=uF.HG (hps▸r)
    have hpl:ps.length=l.length:=by rw[hps,iE]
    simp only[cQ.cells,iE] at hl JY hc
    have hc:=hc0
    have e0:l.map AV.aec=ps:=by rw[hps,J8]
    have PD:(cells.take off++ps++cells.drop (off+l.length)).length=cells.length:=by simp;omega
    simp only[cQ.Xe]
    rw[e0]
    refine .arr h (setRow_heap w b cs _ el _ hw) ?_ ?_ hm ?_
    ·simp;omega
    ·rw[<- hz];simp;omega
    ·rw[PD];have e1:=QG cs.toList (a.eval y).cells.toList off cells.length (by rw[hlen2];exact hl) (by simpa using JY);rw[hlen2] at e1;simp only;rw[e1];exact ((hc.take off).append r').append (hc.drop (off+l.length))
  | app ee sz cells=>cases BX
def Tu {v:AV} (ho:o.op=.panic x) (hx:fr.val x=.vu t v) (hq:Q (.panic (.vu t v)) fr σ) :
  Step P E n Q o fr σ next:=by
 intro g a w K hR hF hK
 have q:=hF.eval x;rw[hx] at q
 generalize he:a.eval x=c at q
 cases q with
 | vu _ h=>
  rename_i v'
  have oY:(execOp a.eval o).run P w=.halt (.panic (.iface t v')) w:=by simp[execOp,ho,he,Instr.panic]
  simp only[Oper.wp,oY,Oper.upon]
  exact ⟨g,_,fr,σ,hq,.panic (.vu t h),hR,hF⟩
def CL (P:Program) (t:TypeId):Option (Nat×Nat):=(P.info? t).bind λi=>i.zero.bind λz=>if z.cells.size=i.size/\0<i.size then some (i.size,i.bytes) else none
variable {i:TypeInfo}
def uQ (ht:P.underlying t=some (.slice e)) (hi:P.info? e=some i) (a:Option Addr) (sLen sCap cap:Nat) (hl:sLen<=sCap) (w:World) :
  (Builtin.append_ #[t,t] ty #[.slice a sLen sCap,.slice none 0 cap]).run P w=.ok (.slice a sLen sCap) w:=by
 cases a<;>simp[Builtin.append_,run_underlying ht,sizeOf,typeInfo,hi,Builtin.lenOf,hl,Builtin.firstCells,storeCells]
variable {z:Value} {a:Addr} {c:Nat}
def GR (ht:P.underlying t=some (.slice e)) (hi:P.info? e=some i) (hz:i.zero=some z) (hzs:z.cells.size=i.size) (w:World) {b cap:Nat} {cs:Array Value} (hw:w.heap[b]?=some (.cells cs e (0,0))) (xm:cs.size=cap*i.size) (hlen:len<=cap) (hl:news.length=m*i.size) (UF:∀ j u,news[j]?=some u->w.cell? (a.add j)=some u) (h1:∀ u∈news,u.oneCell'=true) (D6:len+m<=maxLen) (Fe:(len+m)*i.bytes<=140737488355328) :
   ∃ v' w',(Builtin.append_ #[t,t] ty #[.slice (some ⟨b,0,none⟩) len cap,.slice (some a) m c]).run P w=.ok v' w'/\
     ((len+m<=cap/\v'=.slice (some ⟨b,0,none⟩) (len+m) cap/\w'=w.setRow b (cs.toList.take (len*i.size)++news++cs.toList.drop (len*i.size+news.length)).toArray)\/
      ∃ rM lj,v'=.slice (some ⟨w.heap.size,0,none⟩) (len+m) rM/\w'=w.drew.alloc (.cells lj e (0,0))/\lj.size=rM*i.size/\rM<=maxLen/\len+m<=rM/\
        lj.toList.take ((len+m)*i.size)=cs.toList.take (len*i.size)++news):=by
 have hsmall:len+m<=9223372036854775807:=by simp only[maxLen] at D6;omega
 have hle:len*i.size<=cs.size:=by rw[xm];exact gq _ hlen
 by_cases JB:len+m<=cap
 · have hfit:len*i.size+news.length<=cs.size:=by rw[hl,xm,<- j6];exact gq _ JB
   exact ako
 · have LN:(cs.toList.take (len*i.size)).length=len*i.size:=by simp;omega
   have hr:=run_append_grow (P:=P) w t ty e i z ht hi hz ⟨b,0,none⟩ len cap (cs.toList.take (len*i.size)) LN (λj u hj=>by
     rw[r6,cell_of_row w b _ cs e _ hw]
     rw[gG] at hj
     split at hj
     · simpa using hj
     · cases hj) a m c news hl UF aD aD (growslice_fits aD Fe)
   have Ff:=grownCap_ge w (len+m) cap e
   refine ⟨_,_,hr,.inr ⟨_,_,rfl,rfl,?_,grownCap_le_maxLen w _ _ e D6,Ff,?_⟩⟩
   · simp only[Array.size_append,List.size_toArray,size_zeroCells,hzs,LN,hl,<- j6]
     congr 1
     omega
   · have e1:(cs.toList.take (len*i.size)++news).length=(len+m)*i.size:=by rw[dS,LN,hl,j6]
     simp only[Array.toList_append,gj]
     rw[<- gj,<- e1]
     exact tU
def B3 (ht:P.underlying t=some (.slice e)) (hi:P.info? e=some i) (hz:i.zero=some z) (hzs:z.cells.size=i.size) (w:World) (hl:news.length=m*i.size) (UF:∀ j u,news[j]?=some u->w.cell? (a.add j)=some u) (D6:m<=maxLen) (Fe:m*i.bytes<=140737488355328) (hm:0<m) :
   ∃ v' w',(Builtin.append_ #[t,t] ty #[.slice none 0 0,.slice (some a) m c]).run P w=.ok v' w'/\
      ∃ rM lj,v'=.slice (some ⟨w.heap.size,0,none⟩) m rM/\w'=w.drew.alloc (.cells lj e (0,0))/\lj.size=rM*i.size/\rM<=maxLen/\m<=rM/\
        lj.toList.take (m*i.size)=news:=by
 have hsmall:m<=9223372036854775807:=by simp only[maxLen] at D6;omega
 have hr:=run_append_nil (P:=P) w t ty e i z ht hi hz a m c news hl UF hm aD aD
 have Ff:=grownCap_ge w m 0 e
 refine ⟨_,_,hr,_,_,rfl,rfl,?_,grownCap_le_maxLen w _ _ e D6,Ff,?_⟩
 · simp only[Array.size_append,List.size_toArray,size_zeroCells,hzs,hl,<- j6]
   congr 1
   omega
 · simp only[Array.toList_append]
   rw[<- hl]
   exact tU
def J9 {e:Nat} (h:CL P e=some (sz,bytes)):∃ i z,P.info? e=some i/\i.zero=some z/\z.cells.size=i.size/\0<i.size/\i.size=sz/\i.bytes=bytes:=by
 unfold CL at h;cases hi:P.info? e with
 | none=>simp[hi] at h
 | some i=>
  cases hz:i.zero with
  | none=>simp[hi,hz] at h
  | some z=>
   simp[hi,hz] at h
   exact ⟨i,z,rfl,hz,h.1.1,h.1.2,h.2.1,h.2.2⟩
variable {rM:Nat} {lj:Array Value}
def Xj (hR:Rel E g σ w) {e:Nat} (hs:σ.clear nm) (hf:E.fix nm=none) (hl:uF g l news) (PD:l.length=m*sz) (h1:lj.size=rM*sz) (h2:rM<=maxLen) (h3:m<=rM) (h4:lj.toList.take (m*sz)=news) :
  Rel E (g.bind nm w.heap.size rM) (σ.set nm (.arr e sz l)) (w.drew.alloc (.cells lj e (0,0))):=by
 have hle:l.length<=lj.size:=by rw[PD,h1];exact gq _ h3
 have h0:=hR.drew
 have:=h0.alloc (nm:=nm) (cap:=rM) (e:=.arr e sz l) (o:=.cells lj e (0,0)) hs hf (.arr (by simp[Gh.bind]) (heap_alloc_new w.drew _) hle (by rw[EV];exact h1) (by rw[EV];exact h2)
  (by rw[PD,h4];exact hl.le UY))
 exact this
def Tv (hR:Rel E g σ w) {e:Nat} (hs:σ.clear nm) (hf:E.fix nm=none) (hl:uF g l news) (PD:l.length=m*sz) (h1:lj.size=rM*sz) (h2:rM<=maxLen) (h3:m<=rM) (h4:lj.toList.take (m*sz)=news) :
  Rel E ((g.bind nm w.heap.size rM).iB w.heap.size l) (σ.set nm (.app e sz l)) (w.drew.alloc (.cells lj e (0,0))):=by
 have hle:l.length<=lj.size:=by rw[PD,h1];exact gq _ h3
 exact hR.drew.QA hs hf hle h1 h2 (by rw[PD,h4];exact hl.le (nn:=λ_=>False) (qm g _ l hR.gl.fresh))
def PV.one:PV->Bool
 | .sc v=>v.oneCell'
 | _=>true
def PV.pq:List PV->Bool
 | []=>true
 | x::xs=>x.one&&pq xs
def PR.one {v:PV} {c:Value} (h:PR g v c) (ho:v.one=true):c.oneCell'=true:=by
 cases h with
 | sc v=>exact ho
 | nil=>rfl
 | sl=>rfl
 | ZI=>rfl
 | YC=>rfl
def uF.one:∀ {l:List PV} {vs:List Value},uF g l vs->PV.pq l=true->∀ v,v∈vs->v.oneCell'=true
 | _,_,.nil,_,v,hv=>by cases hv
 | _,_,.cons h t,ho,v,hv=>by
  simp[PV.pq] at ho;rcases cf.1 hv with q|q
  ·subst q;exact h.one ho.1
  exact t.one ho.2 v q
inductive Ĩ (sz:Nat):AV->Nat->List PV->Prop
 | sl (m:Nat) (cells:List PV) (h:cells.length=m*sz):Ĩ sz (.pv (.sl m cells)) m cells
 | nil:Ĩ sz (nSl) 0 []
def Ĩ.read {x:AV} {c:Value} (h:Ĩ sz x m l) (hG:Vf g w) (hv:VR g x c) :
  (∃ a cap news,c=.slice (some a) m cap/\uF g l news/\∀ j u,news[j]?=some u->w.cell? (a.add j)=some u)\/∃ cap,c=.slice none m cap/\m=0/\l=[]:=by
 cases h with
 | sl m cells h=>
  cases hv with
  | pv hv=>
   cases hv with
   | nil a cap=>
    cases a with
    | none=>exact .inr ⟨_,rfl,rfl,rfl⟩
    | some a=>exact .inl ⟨a,cap,[],rfl,.nil,λj u hj=>by simp at hj⟩
   | sl b ys off _ cap _ hb hl hc hn=>
    obtain ⟨cs,el,fz,hw,h1,h2⟩:=Vj hG hb hl hc
    refine .inl ⟨_,cap,_,rfl,h2,λj u hj=>?_⟩
    rw[r6,cell_of_row w b _ cs el fz hw]
    rw[gG] at hj
    split at hj
    ·rw[dz] at hj;simpa using hj
    ·cases hj
 | nil=>cases hv with|pv hv=>cases hv with|sc=>exact .inr ⟨0,rfl,rfl,rfl⟩
variable {s:Operand} {cells:List PV}
def GS (ho:o.op=.call ⟨.builtin .append,#[s,x],#[t,t]⟩) (ht:P.underlying t=some (.slice e)) (hb:CL P e=some (sz,bytes)) (hs:fr.val s=.arr k len) (hk:σ k=some (.app e sz cells)) (hlen:cells.length=len*sz) (hx:Ĩ sz (fr.val x) m l) (h1:PV.pq l=true) (hc:fr.clear nm) (xm:(σ.del k).clear nm) (hf:E.fix nm=none) (Fe:(len+m)*bytes<=140737488355328) (D6:len+m<=maxLen) (hd:∀ d,o.dst=some d->d<n) (hn:next (fr.pS o.dst (.arr nm (len+m))) ((σ.del k).set nm (.app e sz (cells++l)))):Step P E n Q o fr σ next:=by
 obtain ⟨i,z,hi,hz,hzs,MT,rfl,rfl⟩:=J9 hb;intro g a w K hR hF hK;have qs:=hF.eval s;rw[hs] at qs;have qx:=hF.eval x;generalize fr.val x=av at hx qx;have hml:AV.iQ.ka nm (cQ.app e i.size (cells++l)).cells=false:=by
  have:∀ zs:List PV,AV.iQ.ka nm (zs.map .pv)=false:=by
   intro zs;induction zs with
   | nil=>rfl
   | cons z zs ih=>simp[AV.iQ.ka,AV.iQ,ih]
  exact this _
 have PD:l.length=m*i.size:=by
  cases hx with
  | sl m cells h=>exact h
  | nil=>simp
 have JY:(cells++l).length=(len+m)*i.size:=by rw[dS,hlen,PD,j6]
 have D7:=hx.read hR.gl qx;have GK:∀ v' w',(Builtin.append_ #[t,t] o.type #[a.eval s,a.eval x]).run P w=.ok v' w'->(∃ g',Rel E g' ((σ.del k).set nm (.app e i.size (cells++l))) w'/\FR n g' fr a/\VR g' (.arr nm (len+m)) v')->
   o.wp P a w K (LQ E n Q):=by
  intro v' w' oY ⟨g',kL,sR,Gw⟩
  have hrun':(execOp a.eval o).run P w=.ok (.value v') w':=by
   simp only[execOp,ho,resolve,invoke,builtin,cC,ep,bQ,u9,jW,tw,oY]
  simp only[Oper.wp,hrun',Oper.upon]
  exact hK g' _ _ _ _ hn kL (sR.put hd Gw)
 have hsub:Rel E g (σ.del k) w:=hR.sub λj e' hj=>by
  by_cases q:j=k
  ·subst q;simp[fi.del] at hj
  simpa[fi.del,q] using hj
 have BY:m=0->l=[]->(Builtin.append_ #[t,t] o.type #[a.eval s,a.eval x]).run P w=.ok (a.eval s) w->o.wp P a w K (LQ E n Q):=by
  intro hm GD oY;subst hm GD;refine GK _ _ oY ⟨g.alias nm k,?_,hF.le (wP.alias g nm k) (λj q=>by subst q;exact hc),?_⟩
  ·rw[l9] at hml ⊢;exact hR.rename hk xm hml hf (λ_ q=>by cases q)
  have hn1:(g.alias nm k).ρ nm=g.ρ k:=by simp[Gh.alias]
  have IN:(g.alias nm k).cp nm=g.cp k:=by simp[Gh.alias]
  generalize hq:a.eval s=cc at qs;cases qs with
  | arr _ h=>rw[<- IN];exact .arr _ (hn1.trans h)
  | AS h=>exact .AS (hn1.trans h)
 have hwr:∀ (rM:Nat) (lj:Array Value) (news:List Value) (v':Value),v'=.slice (some ⟨w.heap.size,0,none⟩) (len+m) rM->uF g (cells++l) news->
   lj.size=rM*i.size->rM<=maxLen->len+m<=rM->lj.toList.take ((len+m)*i.size)=news->
   (Builtin.append_ #[t,t] o.type #[a.eval s,a.eval x]).run P w=.ok v' (w.drew.alloc (.cells lj e (0,0)))->o.wp P a w K (LQ E n Q):=by
  intro rM lj news v' Gw Hy e1 e2 e3 e4 oY
  have hle:wP (·=nm) g ((g.bind nm w.heap.size rM).iB w.heap.size (cells++l)):=
   (xk g nm _ _).trans (qm _ _ _ (by simpa[Gh.bind] using hR.gl.fresh))
  refine GK _ _ oY ⟨_,Tv hsub xm hf Hy JY e1 e2 e3 e4,hF.le hle (λj q=>by subst q;exact hc),?_⟩
  rw[Gw]
  have:=VR.arr (g:=(g.bind nm w.heap.size rM).iB w.heap.size (cells++l)) (k:=nm) (b:=w.heap.size) (len+m) (by simp[Gh.bind,Gh.iB])
  simpa[Gh.bind,Gh.iB] using this
 generalize hq:a.eval s=cc at qs;cases qs with
 | AS hρ=>
  have hc0:cells=[]:=eW (by simpa using hlen)
  subst hc0
  rcases D7 with ⟨ad,cap,news,UE,Hy,Ka⟩|⟨cap,UE,hm,GD⟩
  ·by_cases hm:m=0
   ·subst hm;have GD:l=[]:=eW (by simpa using PD);refine BY rfl GD ?_;rw[hq,UE];have hn0:news=[]:=eW (by rw[<- Hy.length,GD];rfl);simp[Builtin.append_,run_underlying ht,sizeOf,typeInfo,hi,Builtin.lenOf,Builtin.firstCells,loadCells,loadCellsFrom]
   have IG:news.length=m*i.size:=by rw[<- Hy.length,PD]
   obtain ⟨v',w',oY,rM,lj,Gw,Lw,e1,e2,e3,e4⟩:=B3 (P:=P) (ty:=o.type) (c:=cap) ht hi hz hzs w IG Ka aD (by simpa using Fe) (Nat.pos_of_ne_zero hm);subst Lw;exact hwr rM lj news v' (by simpa using Gw) (by simpa using Hy) e1 e2 (by simpa using e3) (by simpa using e4) Xb
  ·refine BY hm GD ?_;rw[hq,UE,hm];exact uQ ht hi none 0 0 cap (ik _) w
 | arr _ hρ=>
  rename_i b
  cases hR.rU k _ hk with
  | IH h=>rw[h] at hρ;cases hρ
  | app h hGk hw hcle hcz hcm PI=>
   rename_i cs
   rw[h] at hρ;cases hρ
   have hlc:len<=g.cp k:=by
    have:len*i.size<=g.cp k*i.size:=by rw[<- hlen,<- hcz];exact hcle
    exact mu this MT
   rcases D7 with ⟨ad,cap,news,UE,Hy,Ka⟩|⟨cap,UE,hm,GD⟩
   ·have IG:news.length=m*i.size:=by rw[<- Hy.length,PD]
    obtain ⟨v',w',oY,hcase⟩:=GR (P:=P) (ty:=o.type) (c:=cap) ht hi hz hzs w hw hcz hlc IG Ka (Hy.one h1) D6 Fe;rw[hlen] at PI;rcases hcase with ⟨JB,Gw,Lw⟩|⟨rM,lj,Gw,Lw,e1,e2,e3,e4⟩
    ·subst Lw;have hfit:len*i.size+news.length<=cs.size:=by rw[IG,hcz,<- j6];exact gq _ JB
     have htake:(cs.toList.take (len*i.size)++news++cs.toList.drop (len*i.size+news.length)).take (cells++l).length=cs.toList.take (len*i.size)++news:=by
      have:(cs.toList.take (len*i.size)++news).length=(cells++l).length:=by rw[JY,dS,IG,j6];simp;omega
      rw[<- this];exact tU
     have hR1:=hR.extend (k:=k) (us:=l) (cs:=(cs.toList.take (len*i.size)++news++cs.toList.drop (len*i.size+news.length)).toArray) hk h
      (by rw[JY];simp;rw[IG,j6];omega) (by rw[<- hcz];simp;omega) ⟨_,hw⟩ (by simp only;rw[htake];exact PI.append Hy)
     have LZ:=hR1.rename (nm:=nm) (k:=k) (e:=.app e i.size (cells++l)) (by simp[fi.set]) (λj e' hj=>xm j e' (by
      by_cases q:j=k
      ·subst q;simp[fi.del] at hj
      simpa[fi.del,fi.set,q] using hj)) hml hf (λ_ q=>by cases q)
     have hσ:((σ.set k (.app e i.size (cells++l))).del k).set nm (.app e i.size (cells++l))=(σ.del k).set nm (.app e i.size (cells++l)):=by
      funext j;simp only[fi.set,fi.del];split<;>(try rfl);split<;>rfl
     rw[hσ] at LZ;refine GK _ _ Xb ⟨_,LZ,hF.le ((wP.grow g b cells l hGk).trans (wP.alias _ nm k)) (λj q=>by subst q;exact hc),?_⟩;rw[Gw];have hn1:((g.iB b (cells++l)).alias nm k).ρ nm=g.ρ k:=by simp[Gh.alias,Gh.iB]
     have IN:((g.iB b (cells++l)).alias nm k).cp nm=g.cp k:=by simp[Gh.alias,Gh.iB]
     rw[<- IN];exact .arr _ (hn1.trans h)
    subst Lw;exact hwr rM lj _ v' Gw (PI.append Hy) e1 e2 e3 e4 Xb
   ·refine BY hm GD ?_;rw[hq,UE,hm];exact uQ ht hi _ _ _ cap hlc w
def Kb:∀ {l:List PV},PV.pq l=true->AV.pq (l.map .pv)=true
 | [],_=>rfl
 | x::l,h=>by
  simp[PV.pq] at h;have hx:(AV.pv x).one=true:=by
   cases x with
   | sc v=>simpa[AV.one,PV.one] using h.1
   | sl _ _=>rfl
   | pt _=>rfl
  simp[AV.pq,hx,Kb h.2]
def GU (ho:o.op=.call ⟨.builtin .append,#[s,x],#[t,t]⟩) (ht:P.underlying t=some (.slice e)) (hb:CL P e=some (sz,bytes)) (hs:fr.val s=.arr k len) (hk:σ k=some (.arr e sz cells)) (hlen:cells.length=len*sz) (hx:Ĩ sz (fr.val x) m l) (h1:PV.pq l=true) (hc:fr.clear nm) (xm:(σ.del k).clear nm) (hf:E.fix nm=none) (Fe:(len+m)*bytes<=140737488355328) (D6:len+m<=maxLen) (hd:∀ d,o.dst=some d->d<n) (hn:next (fr.pS o.dst (.arr nm (len+m))) ((σ.del k).set nm (.arr e sz (cells++l)))):Step P E n Q o fr σ next:=by
 obtain ⟨i,z,hi,hz,hzs,MT,rfl,rfl⟩:=J9 hb;intro g a w K hR hF hK;have qs:=hF.eval s;rw[hs] at qs;have qx:=hF.eval x;generalize fr.val x=av at hx qx;have PD:l.length=m*i.size:=by
  cases hx with
  | sl m cells h=>exact h
  | nil=>simp
 have JY:(cells++l).length=(len+m)*i.size:=by rw[dS,hlen,PD,j6]
 have D7:=hx.read hR.gl qx;have GK:∀ v' w',(Builtin.append_ #[t,t] o.type #[a.eval s,a.eval x]).run P w=.ok v' w'->(∃ g',Rel E g' ((σ.del k).set nm (.arr e i.size (cells++l))) w'/\FR n g' fr a/\VR g' (.arr nm (len+m)) v')->
   o.wp P a w K (LQ E n Q):=by
  exact akq
 have hsub:Rel E g (σ.del k) w:=hR.sub λj e' hj=>by
  by_cases q:j=k
  ·subst q;simp[fi.del] at hj
  simpa[fi.del,q] using hj
 have BY:m=0->l=[]->(Builtin.append_ #[t,t] o.type #[a.eval s,a.eval x]).run P w=.ok (a.eval s) w->o.wp P a w K (LQ E n Q):=by
  intro hm GD oY;subst hm GD;refine GK _ _ oY ⟨g.alias nm k,?_,hF.le (wP.alias g nm k) adS,?_⟩
  ·rw[l9];exact hR.rename hk xm (xL nm _) hf Qs
  have hn1:(g.alias nm k).ρ nm=g.ρ k:=by simp[Gh.alias]
  have IN:(g.alias nm k).cp nm=g.cp k:=by simp[Gh.alias]
  generalize hq:a.eval s=cc at qs;cases qs with
  | arr _ h=>rw[<- IN];exact .arr _ (hn1.trans h)
  | AS h=>exact .AS (hn1.trans h)
 have hwr:∀ (b:Nat) (rM:Nat) (lj:Array Value) (news:List Value) (v':Value),v'=.slice (some ⟨w.heap.size,0,none⟩) (len+m) rM->uF g (cells++l) news->
   lj.size=rM*i.size->rM<=maxLen->len+m<=rM->lj.toList.take ((len+m)*i.size)=news->
   (Builtin.append_ #[t,t] o.type #[a.eval s,a.eval x]).run P w=.ok v' (w.drew.alloc (.cells lj e (0,0)))->o.wp P a w K (LQ E n Q):=by
  intro b rM lj news v' Gw Hy e1 e2 e3 e4 oY
  refine GK _ _ oY ⟨g.bind nm w.heap.size rM,Xj hsub xm hf Hy JY e1 e2 e3 e4,hF.le UY adS,?_⟩
  rw[Gw]
  have:=VR.arr (g:=g.bind nm w.heap.size rM) (k:=nm) (len+m) (F5 ..)
  rwa [EV] at this
 generalize hq:a.eval s=cc at qs;cases qs with
 | AS hρ=>
  have hc0:cells=[]:=eW (by simpa using hlen)
  subst hc0
  rcases D7 with ⟨ad,cap,news,UE,Hy,Ka⟩|⟨cap,UE,hm,GD⟩
  ·by_cases hm:m=0
   ·exact akr
   have IG:news.length=m*i.size:=by rw[<- Hy.length,PD]
   obtain ⟨v',w',oY,rM,lj,Gw,Lw,e1,e2,e3,e4⟩:=B3 (P:=P) (ty:=o.type) (c:=cap) ht hi hz hzs w IG Ka aD (by simpa using Fe) (Nat.pos_of_ne_zero hm);subst Lw;exact hwr 0 rM lj news v' (by simpa using Gw) (by simpa using Hy) e1 e2 (by simpa using e3) (by simpa using e4) Xb
  ·exact ah4
 | arr _ hρ=>
  rename_i b
  cases hR.rU k _ hk with
  | AS h=>rw[h] at hρ;cases hρ
  | arr h hw hcle hcz hcm PI=>
   rename_i cs
   rw[h] at hρ;cases hρ
   have hlc:len<=g.cp k:=by
    exact ah3
   rcases D7 with ⟨ad,cap,news,UE,Hy,Ka⟩|⟨cap,UE,hm,GD⟩
   ·have IG:news.length=m*i.size:=by rw[<- Hy.length,PD]
    obtain ⟨v',w',oY,hcase⟩:=GR (P:=P) (ty:=o.type) (c:=cap) ht hi hz hzs w hw hcz hlc IG Ka (Hy.one h1) D6 Fe;rw[hlen] at PI;rcases hcase with ⟨JB,Gw,Lw⟩|⟨rM,lj,Gw,Lw,e1,e2,e3,e4⟩
    ·subst Lw;have hfit:len*i.size+news.length<=cs.size:=by rw[IG,hcz,<- j6];exact gq _ JB
     have htake:(cs.toList.take (len*i.size)++news++cs.toList.drop (len*i.size+news.length)).take (cells++l).length=cs.toList.take (len*i.size)++news:=by
      exact akt
     have NR:qN g (w.setRow b (cs.toList.take (len*i.size)++news++cs.toList.drop (len*i.size+news.length)).toArray) k (.arr e i.size (cells++l)):=by
      refine .arr h (setRow_heap w b cs _ e _ hw) ?_ ?_ hcm ?_
      ·rw[JY];simp;rw[IG,j6];omega
      ·rw[<- hcz];simp;omega
      simp only;rw[htake];exact PI.append Hy
     have hR1:=hR.write hk rfl h NR ⟨_,_,_,hw,rI,λ⟨k',q⟩ _=>(by
      have:=hR.x.wR k' b k q (by rw[hk];rfl) h;subst this;obtain ⟨_,q'⟩:=hR.x.wT k b _ q hk;cases q')⟩ (λ⟨_,q⟩=>by cases q)
     have LZ:=hR1.rename (nm:=nm) (k:=k) (e:=.arr e i.size (cells++l)) (by simp[fi.set]) (λj e' hj=>xm j e' (by
      by_cases q:j=k
      ·subst q;simp[fi.del] at hj
      simpa[fi.del,fi.set,q] using hj)) (xL nm _) hf Qs
     have hσ:((σ.set k (.arr e i.size (cells++l))).del k).set nm (.arr e i.size (cells++l))=(σ.del k).set nm (.arr e i.size (cells++l)):=by
      funext j;simp only[fi.set,fi.del];split<;>(try rfl);split<;>rfl
     rw[hσ] at LZ;refine GK _ _ Xb ⟨g.alias nm k,LZ,hF.le (wP.alias g nm k) adS,?_⟩;rw[Gw];have hn1:(g.alias nm k).ρ nm=g.ρ k:=by simp[Gh.alias]
     have IN:(g.alias nm k).cp nm=g.cp k:=by simp[Gh.alias]
     rw[<- IN];exact .arr _ (hn1.trans h)
    subst Lw;exact hwr b rM lj _ v' Gw (PI.append Hy) e1 e2 e3 e4 Xb
   ·refine BY hm GD ?_;rw[hq,UE,hm];exact uQ ht hi _ _ _ cap hlc w
end
section
def AV.lO (π:Nat->Nat):AV->AV
 | .any=>.any
 | .oc=>.oc
 | .pv p=>.pv p
 | .ptr k off=>.ptr (π k) off
 | .arr k n=>.arr (π k) n
 | .sp cells=>.sp cells
 | .fn f xs ys=>.fn f (tB π xs) (tB π ys)
 | .agg cs=>.agg (tB π cs)
 | .lM cs=>.lM (tB π cs)
 | .vu t v=>.vu t (v.lO π)
where
 tB (π:Nat->Nat):List AV->List AV
  | []=>[]
  | x::xs=>x.lO π::tB π xs
def cQ.lO (π:Nat->Nat):cQ->cQ
 | .box cs=>.box (AV.lO.tB π cs)
 | .arr el sz cs=>.arr el sz cs
 | .app el sz cs=>.app el sz cs
def cQ.N4 (π:Nat->Nat) (e:cQ):(e.lO π).isApp=e.isApp:=by cases e<;>rfl
def AV.only (p:Nat->Bool):AV->Bool
 | .any|.oc|.pv _|.sp _=>true
 | .ptr k _=>p k
 | .arr k _=>p k
 | .fn _ xs ys=>sS p xs&&sS p ys
 | .agg cs=>sS p cs
 | .lM cs=>sS p cs
 | .vu _ v=>v.only p
where
 sS (p:Nat->Bool):List AV->Bool
  | []=>true
  | x::xs=>x.only p&&sS p xs
def Gh.pull (g:Gh) (π:Nat->Nat):Gh:={ ρ:=λj=>g.ρ (π j),cp:=λj=>g.cp (π j),G:=g.G }
mutual
def VR.pull {g:Gh} {π:Nat->Nat}:∀ {x:AV} {c:Value},VR g (x.lO π) c->VR (g.pull π) x c
 | .any,_,_=>.any _
 | .oc,_,h=>by simp only[AV.lO] at h;cases h with|oc h=>exact .oc h
 | .pv _,_,h=>by simp only[AV.lO] at h;cases h with|pv h=>exact .pv (PR.congr (g:=g) (g':=g.pull π) (λ_ _ q=>q) h)
 | .ptr k off,_,h=>by simp only[AV.lO] at h;cases h with|ptr _ h=>exact .ptr off h
 | .arr k n,_,h=>by
  simp only[AV.lO] at h;cases h with
  | arr _ h=>exact VR.arr (g:=g.pull π) (k:=k) n h
  | AS h=>exact .AS h
 | .sp _,_,h=>by simp only[AV.lO] at h;cases h with|sp off h hl hc=>exact .sp off h hl hc
 | .fn f xs ys,_,h=>by simp only[AV.lO] at h;cases h with|fn _ hx hy=>exact .fn f (Y.pull hx) (Y.pull hy)
 | .agg cs,_,h=>by simp only[AV.lO] at h;cases h with|agg h=>exact .agg (Y.pull h)
 | .lM cs,_,h=>by simp only[AV.lO] at h;cases h with|lM h=>exact .lM (Y.pull h)
 | .vu t v,_,h=>by simp only[AV.lO] at h;cases h with|vu _ h=>exact .vu t (VR.pull h)
def Y.pull {g:Gh} {π:Nat->Nat}:∀ {x:List AV} {c:List Value},Y g (AV.lO.tB π x) c->Y (g.pull π) x c
 | [],_,h=>by simp only[AV.lO.tB] at h;cases h;exact .nil
 | x::xs,_,h=>by simp only[AV.lO.tB] at h;cases h with|cons h t=>exact .cons (VR.pull h) (Y.pull t)
end
mutual
def VR.push {J:Nat->Bool} {g g':Gh} {π:Nat->Nat} (hρ:∀ j,J j=true->g'.ρ (π j)=g.ρ j) (Ja:∀ j,J j=true->g'.cp (π j)=g.cp j) (hG:∀ b ys,g.G b=some ys->g'.G b=some ys) :
  ∀ {x:AV} {c:Value},x.only J=true->VR g x c->VR g' (x.lO π) c
 | .any,_,_,_=>by simp only[AV.lO];exact .any _
 | .oc,_,_,h=>by simp only[AV.lO];cases h with|oc h=>exact .oc h
 | .pv _,_,_,h=>by simp only[AV.lO];cases h with|pv h=>exact .pv (h.congr hG)
 | .ptr k off,_,ho,h=>by
  simp only[AV.lO];simp only[AV.only] at ho
  cases h with|ptr _ h=>exact .ptr off ((hρ k ho).trans h)
 | .arr k n,_,ho,h=>by
  simp only[AV.lO];simp only[AV.only] at ho
  cases h with
  | arr _ h=>rw[<- Ja k ho];exact .arr n ((hρ k ho).trans h)
  | AS h=>exact .AS ((hρ k ho).trans h)
 | .sp _,_,_,h=>by simp only[AV.lO];cases h with|sp off h hl hc=>exact .sp off (hG _ _ h) hl hc
 | .fn f xs ys,_,ho,h=>by
  simp only[AV.lO];simp only[AV.only,bk] at ho
  cases h with|fn _ hx hy=>exact .fn f (Y.push hρ Ja hG ho.1 hx) (Y.push hρ Ja hG ho.2 hy)
 | .agg cs,_,ho,h=>by simp only[AV.lO];simp only[AV.only] at ho;cases h with|agg h=>exact .agg (Y.push hρ Ja hG ho h)
 | .lM cs,_,ho,h=>by simp only[AV.lO];simp only[AV.only] at ho;cases h with|lM h=>exact .lM (Y.push hρ Ja hG ho h)
 | .vu t v,_,ho,h=>by simp only[AV.lO];simp only[AV.only] at ho;cases h with|vu _ h=>exact .vu t (VR.push hρ Ja hG ho h)
def Y.push {J:Nat->Bool} {g g':Gh} {π:Nat->Nat} (hρ:∀ j,J j=true->g'.ρ (π j)=g.ρ j) (Ja:∀ j,J j=true->g'.cp (π j)=g.cp j) (hG:∀ b ys,g.G b=some ys->g'.G b=some ys) :
  ∀ {x:List AV} {c:List Value},AV.only.sS J x=true->Y g x c->Y g' (AV.lO.tB π x) c
 | [],_,_,h=>by simp only[AV.lO.tB];cases h;exact .nil
 | x::xs,_,ho,h=>by
  simp only[AV.lO.tB];simp only[AV.only.sS,bk] at ho
  cases h with|cons h t=>exact .cons (VR.push hρ Ja hG ho.1 h) (Y.push hρ Ja hG ho.2 t)
end
variable {g:Gh} {e:cQ} {σ0:fi}
def qN.pull (h:qN g w (π j) (e.lO π)):qN (g.pull π) w j e:=by
 cases e with
 | box cells=>
  simp only[cQ.lO] at h
  cases h with|box h hw hc h1=>exact .box h hw (Y.pull hc) h1
 | arr el sz cells=>
  simp only[cQ.lO] at h
  cases h with
  | AS h=>exact .AS h
  | arr h hw hl hz hm hc=>exact .arr h hw hl hz hm (sB (g:=g) (g':=g.pull π) (λ_ _ q=>q) hc)
 | app el sz cells=>
  simp only[cQ.lO] at h
  cases h with
  | IH h=>exact .IH h
  | app h hG hw hl hz hm hc=>exact .app h hG hw hl hz hm (sB (g:=g) (g':=g.pull π) (λ_ _ q=>q) hc)
variable {g':Gh}
def qN.push {J:Nat->Bool} (hρ:∀ j,J j=true->g'.ρ (π j)=g.ρ j) (Ja:∀ j,J j=true->g'.cp (π j)=g.cp j) (hG:∀ b ys,g.G b=some ys->g'.G b=some ys) (hj:J j=true) (ho:AV.only.sS J e.cells=true) (h:qN g w j e):qN g' w (π j) (e.lO π):=by
 cases h with
 | box h hw hc h1=>exact .box ((hρ j hj).trans h) hw (hc.push hρ Ja hG ho) h1
 | AS h=>exact .AS ((hρ j hj).trans h)
 | arr h hw hl hz hm hc=>exact .arr ((hρ j hj).trans h) hw hl (by rw[Ja j hj];exact hz) (by rw[Ja j hj];exact hm) (hc.congr hG)
 | IH h=>exact .IH ((hρ j hj).trans h)
 | app h hg hw hl hz hm hc=>exact .app ((hρ j hj).trans h) (hG _ _ hg) hw hl (by rw[Ja j hj];exact hz) (by rw[Ja j hj];exact hm) (hc.congr hG)
def after (σ:fi) (π:Nat->Nat) (L J:List Nat) (σc:fi):fi:=λk=>
 match J.find? (λj=>π j==k) with
 | some j=>(σc j).map (cQ.lO π)
 | none=>if L.any (λj=>π j==k) then none else σ k
structure IP (E:Env) (fr:kG) (σ:fi) (π:Nat->Nat) (L J:List Nat) (σ0 σc:fi) (v:AV):Prop where
 Ŭ:∀ j e,σc j=some e->J.contains j=true/\AV.only.sS J.contains e.cells=true
 val:v.only J.contains=true
 inj:∀ j j',J.contains j=true->J.contains j'=true->π j=π j'->j=j'
 same:∀ j,J.contains j=true->(∃ cs,σ0 j=some (.box cs))\/(fr.clear (π j)/\(∀ k e,L.any (λi=>π i==k)=false->σ k=some e->AV.iQ.ka (π j) e.cells=false)/\E.fix (π j)=none)
section
variable {P:Program} {E:Env} {Q:gh} {fr:kG} {σ:fi}
def Gh.join (g g':Gh) (π:Nat->Nat) (J:List Nat):Gh where
 ρ:=λk=>match J.find? (λj=>π j==k) with
  | some j=>g'.ρ j
  | none=>g.ρ k
 cp:=λk=>match J.find? (λj=>π j==k) with
  | some j=>g'.cp j
  | none=>g.cp k
 G:=g'.G
variable {J:List Nat}
def ZX (inj:∀ j j',J.contains j=true->J.contains j'=true->π j=π j'->j=j') (hj:J.contains j=true) :
  J.find? (λi=>π i==π j)=some j:=by
 cases h:J.find? (λi=>π i==π j) with
 | none=>
  have:=kN.1 h j A5
  simp at this
 | some i=>
  have h1:=nj h
  have h2:=e9 h
  rw[inj i j wZ hj Fz]
def HH {w':World} {a:Act} {L:List Nat} {σc:fi} {v:AV} {c:Value} (hR:Rel E g σ w) (hF:FR n g fr a) (hL:∀ j,(σ0 j).isSome=true->L.contains j=true) (hσ:∀ j e,σ0 j=some e->σ (π j)=some (e.lO π)) (hB:IP E fr σ π L J σ0 σc v) (kL:Rel (Env.of E.wS (g.pull π) σ0 w) g' σc w') (hv:VR g' v c) :
  Rel E (g.join g' π J) (after σ π L J σc) w'/\FR n (g.join g' π J) fr a/\VR (g.join g' π J) (v.lO π) c:=by
 have hfind:∀ j,J.contains j=true->J.find? (λi=>π i==π j)=some j:=λj hj=>ZX hB.inj hj
 have hρJ:∀ j,J.contains j=true->(g.join g' π J).ρ (π j)=g'.ρ j:=λj hj=>by simp only[Gh.join,hfind j hj]
 have hcJ:∀ j,J.contains j=true->(g.join g' π J).cp (π j)=g'.cp j:=λj hj=>by simp only[Gh.join,hfind j hj]
 have hbox:∀ j cs,σ0 j=some (.box cs)->g'.ρ j=g.ρ (π j)/\g'.cp j=g.cp (π j):=λj cs xm=>by
  have he:=hσ j _ xm
  cases hR.rU _ _ he with
  | box hb=>
   rename_i b _ _ _ _ _
   have SM:(Env.of E.wS (g.pull π) σ0 w).fix j=some b:=by simp only[Env.of,xm,Gh.pull];exact hb
   exact ⟨(kL.fix j b SM).trans hb.symm,kL.pP j b SM⟩
 have hle:wP (λk=>∃ j,J.contains j=true/\π j=k/\¬ ∃ cs,σ0 j=some (.box cs)) g (g.join g' π J):=by
  refine ⟨λk hk=>?_,λk hk=>?_,λb ys hb=>kL.g0 b ys hb⟩
  all_goals
   cases hf:J.find? (λj=>π j==k) with
   | none=>simp only[Gh.join,hf]
   | some j=>
    have h1:=nj hf
    have h2:=e9 hf
    have hj:J.contains j=true:=by simpa using h2
    have hjk:π j=k:=by simpa using h1
    simp only[Gh.join,hf]
    have hb:∃ cs,σ0 j=some (.box cs):=Classical.byContradiction λq=>hk ⟨j,hj,hjk,q⟩
    obtain ⟨cs,xm⟩:=hb
    have:=hbox j cs xm
    rw[hjk] at this
    first|exact this.1|exact this.2
 have N5:∀ k,(∃ j,J.contains j=true/\π j=k/\¬ ∃ cs,σ0 j=some (.box cs))->fr.clear k/\(∀ i e,L.any (λj=>π j==i)=false->σ i=some e->AV.iQ.ka k e.cells=false)/\E.fix k=none:=by
  rintro k ⟨j,hj,rfl,hn⟩
  rcases hB.same j hj with q|q
  ·exact aw q hn
  ·exact q
 have hown0:∀ b,(Env.of E.wS (g.pull π) σ0 w).own b↔∃ j,(σ0 j).isSome=true/\g.ρ (π j)=some b:=λb=>Iff.rfl
 have vy:∀ j,(σ0 j).isSome=true->(σ (π j)).isSome=true:=λj hj=>by
  cases q:σ0 j with
  | none=>rw[q] at hj;cases hj
  | some e=>rw[hσ j e q];rfl
 have Kc:∀ k e,after σ π L J σc k=some e->(∃ j ec,J.contains j=true/\π j=k/\σc j=some ec/\e=ec.lO π)\/
   (σ k=some e/\L.any (λj=>π j==k)=false/\∀ j,J.contains j=true->π j≠k):=by
  intro k e hk
  unfold after at hk
  cases hf:J.find? (λj=>π j==k) with
  | some j=>
   rw[hf] at hk
   have h1:=nj hf
   have h2:=e9 hf
   simp only at hk
   cases q:σc j with
   | none=>rw[q] at hk;cases hk
   | some ec=>rw[q] at hk;cases hk;exact .inl ⟨j,ec,by simpa using h2,by simpa using h1,q,rfl⟩
  | none=>
   rw[hf] at hk
   simp only at hk
   split at hk
   ·cases hk
   ·rename_i hn
    refine .inr ⟨hk,by simpa using hn,λj hj q=>?_⟩
    have:=kN.1 hf j A5
    simp[q] at this
 have hnot:∀ k b,(σ k).isSome=true->L.any (λj=>π j==k)=false->g.ρ k=some b->¬ (Env.of E.wS (g.pull π) σ0 w).own b:=by
  rintro k b hk hl hb ⟨j,hj,I9⟩
  have:=hR.inj (π j) k b (vy j hj) hk I9 hb
  have hlj:=hL j hj
  have:L.any (λj=>π j==k)=true:=mB.2 ⟨j,by simpa using hlj,by simpa using this⟩
  rw[hl] at this;cases this
 have Kd:∀ k,(∀ j,J.contains j=true->π j≠k)->(g.join g' π J).ρ k=g.ρ k:=λk hk=>by
  cases hf:J.find? (λj=>π j==k) with
  | none=>simp only[Gh.join,hf]
  | some j=>
   have h1:=nj hf
   have h2:=e9 hf
   exact aw Fz (hk j wZ)
 have hJc:∀ j ec,σc j=some ec->J.contains j=true:=λj ec h=>(hB.Ŭ j ec h).1
 have hown:∀ b,(Env.of E.wS (g.pull π) σ0 w).own b->E.own b\/E.w0.heap.size<=b:=by
  rintro b ⟨j,hj,I9⟩
  exact hR.own (π j) b (vy j hj) I9
 have hGk:∀ k e b,σ k=some e->L.any (λj=>π j==k)=false->g.ρ k=some b->e.isApp=true->(g.join g' π J).G b=g.G b:=by
  intro k e b he hl hb BX
  have xp:(σ k).isSome=true:=by rw[he];rfl
  cases e with
  | box _=>cases BX
  | arr _ _ _=>cases BX
  | app el sz cells=>
   cases hR.rU k _ he with
   | IH h=>rw[h] at hb;cases hb
   | app h hG=>
    rw[h] at hb;cases hb
    obtain ⟨zs,h1⟩:=kL.g0 b cells hG
    rcases kL.gn b _ h1 with q|q|q
    ·have q':g.G b=some (cells++zs):=q
     exact h1.trans q'.symm
    ·exact (hnot k b xp hl h q).elim
    ·exact aw (hR.lt xp h) (qZ.2 q)
 refine ⟨{ rU:=?_,inj:=?_,gl:=?_,apart:=?_,size:=?_,yq:=?_,own:=?_,fix:=?_,pP:=?_,g0:=?_,gn:=?_,os:=?_,out:=?_,tape:=?_,x:=?_ },?_,?_⟩
 ·intro k e hk
  rcases Kc k e hk with ⟨j,ec,hj,rfl,hec,rfl⟩|⟨he,hl,hJ⟩
  ·exact (kL.rU j ec hec).push (λi hi=>hρJ i hi) (λi hi=>hcJ i hi) (λ_ _ q=>q) hj (hB.Ŭ j ec hec).2
  ·have xp:(σ k).isSome=true:=by rw[he];rfl
   refine (hR.rU k e he).le hle (λq=>?_) (λb hb BX=>hGk k e b he hl hb BX) (λi hi=>(N5 i hi).2.1 k e hl he) (λb hb=>?_)
   ·obtain ⟨j,hj,hjk,_⟩:=q;exact hJ j hj hjk
   ·exact kL.yq b ((hR.rU k e he).lt hb) (hnot k b xp hl hb)
 ·intro k k' b hk FC hb xH
  have key:∀ k,(after σ π L J σc k).isSome=true->(g.join g' π J).ρ k=some b->(∃ j,J.contains j=true/\π j=k/\(σc j).isSome=true/\g'.ρ j=some b)\/((σ k).isSome=true/\L.any (λj=>π j==k)=false/\g.ρ k=some b):=by
   intro k hk hb
   cases q:after σ π L J σc k with
   | none=>rw[q] at hk;cases hk
   | some e=>
    rcases Kc k e q with ⟨j,ec,hj,rfl,hec,rfl⟩|⟨he,hl,hJ⟩
    ·exact .inl ⟨j,hj,rfl,Qn,(hρJ j hj).symm.trans hb⟩
    ·exact .inr ⟨Qp,hl,(Kd k hJ).symm.trans hb⟩
  have D8:∀ j k,(σc j).isSome=true->g'.ρ j=some b->(σ k).isSome=true->L.any (λi=>π i==k)=false->g.ρ k=some b->False:=by
   intro j k hj I9 hk hl hkb
   rcases kL.own j b hj I9 with q|q
   ·exact hnot k b hk hl hkb q
   ·exact aw (hR.lt hk hkb) (qZ.2 q)
  rcases key k hk hb with ⟨j,hj,rfl,hs,hr⟩|⟨hs,hl,hr⟩
  ·rcases key k' FC xH with ⟨j',yL,rfl,QH,EU⟩|⟨QH,LW,EU⟩
   ·rw[kL.inj j j' b hs QH hr EU]
   ·exact (D8 j k' hs hr QH LW EU).elim
  ·rcases key k' FC xH with ⟨j',yL,rfl,QH,EU⟩|⟨QH,LW,EU⟩
   ·exact (D8 j' k QH EU hs hl hr).elim
   ·exact hR.inj k k' b hs QH hr EU
 ·intro b ys hb
  obtain ⟨cs,el,fz,h1,h2,h3⟩:=kL.gl b ys hb
  exact ⟨cs,el,fz,h1,h2,sB (g:=g') (g':=g.join g' π J) (λ_ _ q=>q) h3⟩
 ·intro k b e q BX hb
  rcases Kc k e q with ⟨j,ec,hj,rfl,hec,rfl⟩|⟨he,hl,hJ⟩
  ·exact kL.apart j b ec hec (by rw[<- BX,cQ.N4]) ((hρJ j hj).symm.trans hb)
  ·have hkb:=(Kd k hJ).symm.trans hb
   have xp:(σ k).isSome=true:=by rw[he];rfl
   cases hG:(g.join g' π J).G b with
   | none=>rfl
   | some ys=>
    rcases kL.gn b ys hG with q|q|q
    ·have:=hR.apart k b e he BX hkb
     simp only[Env.of,Gh.pull] at q
     rw[this] at q;cases q
    ·exact (hnot k b xp hl hkb q).elim
    ·exact aw (hR.lt xp hkb) (qZ.2 q)
 ·exact jV hR.size kL.size
 ·intro b hb ho
  have h1:¬ (Env.of E.wS (g.pull π) σ0 w).own b:=λq=>by
   rcases hown b q with q|q
   ·exact ho q
   ·exact aw hb (qZ.2 q)
  rw[kL.yq b (kO hb hR.size) h1]
  exact hR.yq b hb ho
 ·intro k b hk hb
  cases q:after σ π L J σc k with
  | none=>rw[q] at hk;cases hk
  | some e=>
   rcases Kc k e q with ⟨j,ec,hj,rfl,hec,rfl⟩|⟨he,hl,hJ⟩
   ·rcases kL.own j b Qn ((hρJ j hj).symm.trans hb) with q|q
    ·exact hown b q
    ·exact .inr (jV hR.size q)
   ·exact hR.own k b Qp ((Kd k hJ).symm.trans hb)
 ·intro k b hk
  rw[hle.ρ k (λq=>by have:=(N5 k q).2.2;rw[this] at hk;cases hk)]
  exact hR.fix k b hk
 ·intro k b hk
  rw[hle.cp k (λq=>by have:=(N5 k q).2.2;rw[this] at hk;cases hk)]
  exact hR.pP k b hk
 ·intro b ys hb
  obtain ⟨zs,h1⟩:=hR.g0 b ys hb
  obtain ⟨us,h2⟩:=kL.g0 b _ h1
  exact ⟨zs++us,by rw[<- gj];exact h2⟩
 ·intro b ys hb
  rcases kL.gn b ys hb with q|q|q
  ·exact hR.gn b ys q
  ·exact .inr (hown b q)
  ·exact .inr (.inr (jV hR.size q))
 ·exact kL.os.trans hR.os
 ·exact kL.out.trans hR.out
 ·exact kL.tape.trans hR.tape
 ·exact {
      Iq:=λb cs el fz hb=>by
       obtain ⟨c1,h1,h2⟩:=hR.x.Iq b cs el fz hb
       obtain ⟨c2,h3,h4⟩:=kL.x.Iq b c1 el fz h1
       exact ⟨c2,h3,h4.trans h2⟩
      flat:=λk b cs el fz hk hb SK=>by
       obtain ⟨c1,h1,h1f⟩:=hR.x.flat k b cs el fz hk hb SK
       by_cases q:∃ j,(σ0 j).isSome=true/\g.ρ (π j)=some b
       ·obtain ⟨j,hj,I9⟩:=q
        have hkj:=hR.x.wR k b (π j) hk (vy j hj) I9
        cases q0:σ0 j with
        | none=>rw[q0] at hj;cases hj
        | some e0=>
         have h2:=hσ j e0 q0
         rw[hkj] at h2
         obtain ⟨cs2,h3⟩:=hR.x.wT k b _ hk h2
         cases e0 with
         | box Ir=>
          have SM:(Env.of E.wS (g.pull π) σ0 w).fix j=some b:=by simp only[Env.of,q0];exact I9
          exact kL.x.flat j b c1 el fz SM h1 h1f
         | arr _ _ _=>cases h3
         | app _ _ _=>cases h3
       ·exact ⟨c1,by rw[kL.yq b (A2 h1) (λ⟨j,hj,I9⟩=>q ⟨j,hj,I9⟩)];exact h1,h1f⟩
      set:=kL.x.set,HC:=hR.x.HC
      hi:=λk b hk hb=>by
       cases q:after σ π L J σc k with
       | none=>rw[q] at hk;cases hk
       | some e=>
        rcases Kc k e q with ⟨j,ec,hj,rfl,hec,rfl⟩|⟨he,hl,hJ⟩
        ·exact kL.x.hi j b Qn ((hρJ j hj).symm.trans hb)
        ·exact hR.x.hi k b Qp ((Kd k hJ).symm.trans hb)
      gf:=hR.x.gf
      wQ:=hR.x.wQ
      xw:=λk b hf=>by
       cases hG:(g.join g' π J).G b with
       | none=>rfl
       | some ys=>
        rcases kL.gn b ys hG with q|q|q
        ·have:=hR.x.xw k b hf
         simp only[Env.of,Gh.pull] at q
         rw[this] at q;cases q
        ·obtain ⟨j,hj,I9⟩:=q
         have hjb':g.ρ (π j)=some b:=I9
         have hkj:=hR.x.wR k b (π j) hf (vy j hj) hjb'
         cases q0:σ0 j with
         | none=>rw[q0] at hj;cases hj
         | some e0=>
          have h1:=hσ j e0 q0
          rw[hkj] at h1
          obtain ⟨cs,h2⟩:=hR.x.wT k b _ hf h1
          cases e0 with
          | box Ir=>
           have SM:(Env.of E.wS (g.pull π) σ0 w).fix j=some b:=by simp only[Env.of,q0];exact I9
           have:=kL.x.xw j b SM
           have hG':g'.G b=some ys:=hG
           rw[this] at hG';cases hG'
          | arr _ _ _=>cases h2
          | app _ _ _=>cases h2
        ·have:=hR.x.wQ k b hf
         exact aw (kO this hR.size) (qZ.2 q)
      wR:=λk b k' hf hk hb=>by
       cases q:after σ π L J σc k' with
       | none=>rw[q] at hk;cases hk
       | some e=>
        rcases Kc k' e q with ⟨j,ec,hj,rfl,hec,rfl⟩|⟨he,hl,hJ⟩
        ·have I9:=(hρJ j hj).symm.trans hb
         rcases kL.own j b Qn I9 with q1|q1
         ·obtain ⟨j0,hj0,hjb0⟩:=q1
          have hkj:=hR.x.wR k b (π j0) hf (vy j0 hj0) hjb0
          cases q0:σ0 j0 with
          | none=>rw[q0] at hj0;cases hj0
          | some e0=>
           have h1:=hσ j0 e0 q0
           rw[hkj] at h1
           obtain ⟨cs,h2⟩:=hR.x.wT k b _ hf h1
           cases e0 with
           | box Ir=>
            have SM:(Env.of E.wS (g.pull π) σ0 w).fix j0=some b:=by simp only[Env.of,q0];exact hjb0
            have:=kL.x.wR j0 b j SM Qn I9
            rw[this];exact hkj
           | arr _ _ _=>cases h2
           | app _ _ _=>cases h2
         ·have:=hR.x.wQ k b hf
          exact aw (kO this hR.size) (qZ.2 q1)
        ·exact hR.x.wR k b k' hf Qp ((Kd k' hJ).symm.trans hb)
      wT:=λk b e hf hk=>by
       rcases Kc k e hk with ⟨j,ec,hj,rfl,hec,rfl⟩|⟨he,hl,hJ⟩
       ·rcases hB.same j hj with ⟨cs,xm⟩|⟨_,_,h3⟩
        ·have SM:∃ b',(Env.of E.wS (g.pull π) σ0 w).fix j=some b':=by
          cases hR.rU _ _ (hσ j _ xm) with
          | box h1=>exact ⟨_,by simp only[Env.of,xm];exact h1⟩
         obtain ⟨b',SM⟩:=SM
         obtain ⟨lj,h4⟩:=kL.x.wT j b' ec SM hec
         subst h4;exact ⟨_,rfl⟩
        ·rw[h3] at hf;cases hf
       ·exact hR.x.wT k b e hf he }
 ·exact hF.le hle λk hk=>(N5 k hk).1
 ·exact hv.push (λi hi=>hρJ i hi) (λi hi=>hcJ i hi) (λ_ _ q=>q) hB.val
def Vq (hR:Rel E g σ w) (hσ:∀ j e,σ0 j=some e->σ (π j)=some (e.lO π)) (GV:∀ j j',(σ0 j).isSome=true->(σ0 j').isSome=true->π j=π j'->j=j'):Rel (Env.of E.wS (g.pull π) σ0 w) (g.pull π) σ0 w:=by
 have vy:∀ j,(σ0 j).isSome=true->(σ (π j)).isSome=true:=λj hj=>by
  cases q:σ0 j with
  | none=>rw[q] at hj;cases hj
  | some e=>rw[hσ j e q];rfl
 exact {
  rU:=λk e hk=>(hR.rU _ _ (hσ k e hk)).pull
  inj:=λk k' b hk FC hb xH=>GV k k' hk FC (hR.inj _ _ b (vy k hk) (vy k' FC) hb xH)
  gl:=λb ys hb=>by
   obtain ⟨cs,el,fz,h1,h2,h3⟩:=hR.gl b ys hb;exact ⟨cs,el,fz,h1,h2,sB (g:=g) (g':=g.pull π) (λ_ _ q=>q) h3⟩
  apart:=λk b e hk BX hb=>hR.apart _ b (e.lO π) (hσ k e hk) (by rw[cQ.N4];exact BX) hb
  size:=ik _
  yq:=λ_ _ _=>rfl
  own:=λk b hk hb=>.inl ⟨k,hk,hb⟩
  fix:=λk b hk=>by
   simp only[Env.of] at hk;split at hk
   ·exact hk
   cases hk
  pP:=λ_ _ _=>rfl
  g0:=λ_ _ h=>⟨[],by simpa[Env.of] using h⟩
  gn:=λ_ _ h=>.inl h
  os:=rfl,out:=rfl,tape:=rfl
  x:={
   Iq:=λ_ cs _ _ h=>⟨cs,h,rfl⟩
   flat:=λ_ _ cs _ _ _ h hf=>⟨cs,h,hf⟩
   set:=hR.x.set,HC:=jV hR.x.HC hR.size
   hi:=λk b hk hb=>hR.x.hi (π k) b (vy k hk) hb
   gf:=hR.x.gf
   wQ:=λk b hk=>by
    simp only[Env.of] at hk;split at hk
    ·rename_i cs hc;exact hR.lt (vy k MH) hk
    cases hk
   xw:=λk b hk=>by
    simp only[Env.of] at hk;split at hk
    ·rename_i cs hc;exact hR.apart (π k) b _ (hσ k _ hc) rfl hk
    cases hk
   wR:=λk b k' hk FC hb=>by
    simp only[Env.of] at hk;split at hk
    ·rename_i cs hc;exact GV k' k FC MH (hR.inj _ _ b (vy k' FC) (vy k MH) hb hk)
    cases hk
   wT:=λk b e hk he=>by
    simp only[Env.of] at hk;split at hk
    ·rename_i cs hc;rw[hc] at he;cases he;exact ⟨cs,rfl⟩
    cases hk } }
def Enters (P:Program) (f:FuncId):Prop:=∀ (args:Array Value) (w:World),(callFunc f args).run P w=.ok (.enter f args) w
def Y.akz {ev:Operand->Value} (h:∀ x,VR g (fr.val x) (ev x)) (xs:List Operand):Y g (xs.map fr.val) (xs.map ev):=Y.map λx _=>h x
variable {f:Operand} {args:List Operand} {j5:FuncId} {first cap fF:List AV} {R:GL->fi->Prop} {next:kG->fi->Prop}
def Ke {oM:kG} (hwk:fr.le oM) (π:Nat->Nat) (L:List Nat) (vN:Enters P j5) (ho:o.op=.call ⟨.value f,args.toArray,ts⟩) (hf:fr.val f=.fn j5 first cap) (MX:first++args.map fr.val++cap=AV.lO.tB π fF) (hC:SC P j5 fF σ0 R) (hL:∀ j,(σ0 j).isSome=true->L.contains j=true) (hσ:∀ j e,σ0 j=some e->σ (π j)=some (e.lO π)) (GV:∀ j j',(σ0 j).isSome=true->(σ0 j').isSome=true->π j=π j'->j=j') (hd:∀ d,o.dst=some d->d<n) (nP:∀ v σc,R (.ret v) σc->∃ J,IP E oM σ π L J σ0 σc v/\next (oM.pS o.dst (v.lO π)) (after σ π L J σc)) (vK:∀ v σc,R (.panic v) σc->∃ J,IP E oM σ π L J σ0 σc v/\Q (.panic (v.lO π)) oM (after σ π L J σc)):Step P E n Q o fr σ next:=by
 intro g a w K hR hF hK;have qf:=hF.eval f;rw[hf] at qf;have qa:=Y.akz (fr:=fr) (λx=>hF.eval x) args;generalize he:a.eval f=c at qf;cases qf with
 | fn _ hx hy=>
  rename_i xs ys
  have Fg:Y g (AV.lO.tB π fF) (xs++args.map a.eval++ys):=by rw[<- MX];exact (hx.append qa).append hy
  have hcall:=hC E.wS (g.pull π) w _ (Vq hR hσ GV) Fg.pull
  have oY:(execOp a.eval o).run P w=.ok (.enter j5 (xs++args.map a.eval++ys).toArray) w:=by
   simp only[execOp,ho,resolve,he,Deferred.ofValue,cC,ep,bQ,invoke,u9,List.append_toArray,vN _ w]
  simp only[Oper.wp,oY,Oper.upon]
  refine hcall.mono λe w' hq=>?_
  obtain ⟨g',ae,σc,hr,hE,kL⟩:=hq
  cases hE with
  | ret hv=>
   obtain ⟨J,hB,hn⟩:=nP _ _ hr
   obtain ⟨h1,h2,h3⟩:=HH hR (hF.LY hwk) hL hσ hB kL hv
   exact hK _ _ _ _ _ hn h1 (h2.put hd h3)
  | panic hv=>
   obtain ⟨J,hB,hn⟩:=vK _ _ hr
   obtain ⟨h1,h2,h3⟩:=HH hR (hF.LY hwk) hL hσ hB kL hv
   exact ⟨_,_,oM,_,hn,.panic h3,h1,h2⟩
def MY (π:Nat->Nat) (L:List Nat) (vN:Enters P j5) (ho:o.op=.call ⟨.value f,args.toArray,ts⟩) (hf:fr.val f=.fn j5 first cap) (MX:first++args.map fr.val++cap=AV.lO.tB π fF) (hC:SC P j5 fF σ0 R) (hL:∀ j,(σ0 j).isSome=true->L.contains j=true) (hσ:∀ j e,σ0 j=some e->σ (π j)=some (e.lO π)) (GV:∀ j j',(σ0 j).isSome=true->(σ0 j').isSome=true->π j=π j'->j=j') (hd:∀ d,o.dst=some d->d<n) (nP:∀ v σc,R (.ret v) σc->∃ J,IP E fr σ π L J σ0 σc v/\next (fr.pS o.dst (v.lO π)) (after σ π L J σc)) (vK:∀ v σc,R (.panic v) σc->∃ J,IP E fr σ π L J σ0 σc v/\Q (.panic (v.lO π)) fr (after σ π L J σc)):Step P E n Q o fr σ next:=
 Ke US π L vN ho hf MX hC hL hσ GV hd nP vK
end
end
section
def s6:List (Nat×AV)->Nat->AV
 | [],_=>.any
 | (j,v)::l,i=>if i=j then v else s6 l i
def uC:List (Nat×cQ)->Nat->Option cQ
 | [],_=>none
 | (j,v)::l,i=>if i=j then some v else uC l i
def cx (l:List (Nat×AV)) (ds:List (FuncId×List AV):=[]):kG:=⟨s6 l,ds⟩
def bU (l:List (Nat×cQ)):fi:=uC l
def QI (l:List (Nat×AV)) (ds:List (FuncId×List AV)) (d:Nat) (v:AV):(cx l ds).pS (some d) v=cx ((d,v)::l) ds:=rfl
def mA (k:Nat):List (Nat×AV)->Bool
 | []=>false
 | (_,v)::l=>v.iQ k||mA k l
def jS (k:Nat):List (FuncId×List AV)->Bool
 | []=>false
 | (_,v)::l=>AV.iQ.ka k v||jS k l
def cQ.mq (k:Nat):cQ->Bool
 | .app _ _ _=>false
 | .box cs=>AV.iQ.ka k cs
 | .arr _ _ _=>false
variable {g:Gh}
def cQ.N6:∀ {e:cQ},e.mq k=false->AV.iQ.ka k e.cells=false
 | .app _ _ c,_=>xL k c
 | .box _,h=>h
 | .arr _ _ c,_=>xL k c
def px (k:Nat):List (Nat×cQ)->Bool
 | []=>false
 | (_,e)::l=>e.mq k||px k l
def MZ:∀ {l:List (Nat×AV)},mA k l=false->∀ i,(s6 l i).iQ k=false
 | [],_,_=>rfl
 | (j,v)::l,h,i=>by
  simp only[mA,lq] at h;simp only[s6];split
  ·exact h.1
  exact MZ h.2 i
def F6:∀ {l:List (FuncId×List AV)},jS k l=false->∀ p∈l,AV.iQ.ka k p.2=false
 | [],_,p,hp=>by cases hp
 | (f,v)::l,h,p,hp=>by
  simp only[jS,lq] at h;rcases cf.1 hp with q|q
  ·subst q;exact h.1
  exact F6 h.2 p q
variable {l:List (Nat×AV)}
def tT {ds:List (FuncId×List AV)} (h:mA k l=false) (hd:jS k ds=false):(cx l ds).clear k:=⟨λi=>MZ h i,F6 hd⟩
def zT:∀ {l:List (Nat×cQ)},px k l=false->(bU l).clear k
 | [],_,j,e,h=>by cases h
 | (i,v)::l,h,j,e,he=>by
  simp only[px,lq] at h;simp only[bU,uC] at he;split at he
  ·cases he;exact cQ.N6 h.1
  exact zT h.2 j e he
variable {σ:fi}
def N7 {fr:kG} (h:∀ p∈l,fr.s p.1=s6 l p.1):fr.le (cx l fr.ds):=by
 refine ⟨λi=>?_,rfl⟩;have key:∀ m:List (Nat×AV),(∃ p∈m,p.1=i)\/s6 m i=.any:=by
  intro m
  induction m with
  | nil=>exact .inr rfl
  | cons a m ih=>
   obtain ⟨j,v⟩:=a
   by_cases q:i=j
   ·exact .inl ⟨(j,v),by simp,q.symm⟩
   ·rcases ih with ⟨p,hp,he⟩|he
    ·exact .inl ⟨p,by simp[hp],he⟩
    exact .inr (by simp[s6,q,he])
 rcases key l with ⟨p,hp,he⟩|he
 ·left;have:=h p hp;rw[he] at this;exact this.symm
 exact .inr he
def N8 {l:List (Nat×cQ)} (h:∀ p∈l,σ p.1=uC l p.1):∀ k e,bU l k=some e->σ k=some e:=by
 intro k e hk;have key:∀ m:List (Nat×cQ),uC m k=some e->∃ p∈m,p.1=k:=by
  intro m
  induction m with
  | nil=>intro h;cases h
  | cons a m ih=>
   obtain ⟨j,v⟩:=a
   intro h
   by_cases q:k=j
   ·exact ⟨(j,v),by simp,q.symm⟩
   ·simp only[uC,aC q] at h;obtain ⟨p,hp,he⟩:=ih h;exact ⟨p,by simp[hp],he⟩
 obtain ⟨p,hp,he⟩:=key l hk;have:=h p hp;rw[he] at this;exact this.trans hk
def AV.le (x y:AV):Prop:=∀ (g:Gh) (c:Value),VR g x c->VR g y c
def AV.le_refl (x:AV):x.le x:=λ_ _ h=>h
def gT:=@AV.le_refl
def AV.le_nil:(nSl).le (.pv (.sl 0 [])):=λg c h=>by rw[h.gO];exact .pv (.nil _ _)
inductive FD:List AV->List AV->Prop
 | nil:FD [] []
 | cons {x y:AV} {xs ys:List AV} (h:x.le y) (t:FD xs ys):FD (x::xs) (y::ys)
def FD.vrs:∀ {xs ys:List AV},FD xs ys->∀ {vs:List Value},Y g xs vs->Y g ys vs
 | _,_,.nil,_,.nil=>.nil
 | _,_,.cons h t,_,.cons a b=>.cons (h g _ a) (t.vrs b)
def FD.refl:∀ l:List AV,FD l l
 | []=>.nil
 | x::l=>.cons (gT x) (FD.refl l)
variable {xs ys:List AV}
def AV.Kf (h:FD xs ys):(AV.agg xs).le (.agg ys):=λg c q=>by cases q with|agg q=>exact .agg (h.vrs q)
def AV.aed (h:FD xs ys):(AV.lM xs).le (.lM ys):=λg c q=>by cases q with|lM q=>exact .lM (h.vrs q)
inductive RV (P:Program) (fr:kG) (σ:fi):ResultVar->AV->Prop
 | tmp (t:Nat):RV P fr σ (.tmp t) (fr.s t)
 | agg {a k:Nat} {t:TypeId} {cs:List AV} (hk:fr.s a=.ptr k 0) (hs:σ k=some (.box cs)) (ht:Lv P t=some cs.length) (ha:Ai P t=some true):RV P fr σ (.cell a t) (.agg cs)
 | one {a k:Nat} {t:TypeId} {c:AV} (hk:fr.s a=.ptr k 0) (hs:σ k=some (.box [c])) (ha:Ai P t=some false):RV P fr σ (.cell a t) c
inductive PJ (P:Program) (fr:kG) (σ:fi):List ResultVar->List AV->Prop
 | nil:PJ P fr σ [] []
 | cons {r:ResultVar} {v:AV} {rs:List ResultVar} {vs:List AV} (h:RV P fr σ r v) (t:PJ P fr σ rs vs):PJ P fr σ (r::rs) (v::vs)
def yu:List AV->AV
 | [v]=>v
 | vs=>.lM vs
section
variable {P:Program} {E:Env} {Q:gh} {fr:kG}
def JE (tmps:Array Value):ResultVar->Sem Value
 | .tmp t=>pure (tmps.getD t undef)
 | .cell a t=>do loadVar t (<- asAddr (tmps.getD a undef))
def RV.run (hR:Rel E g σ w) (hF:FR n g fr a) {r:ResultVar} {v:AV} (h:RV P fr σ r v):∃ c,(JE a.tmps r).run P w=.ok c w/\VR g v c:=by
 cases h with
 | tmp t=>exact ⟨_,rfl,hF.oP t⟩
 | agg hk hs ht ha=>
  rename_i x k t cs
  have q:=hF.oP x;rw[hk] at q
  generalize hq:a.tmps.getD x undef=c at q
  cases q with
  | ptr _ hb=>
   obtain ⟨lj,el,hw,hl,hc⟩:=(hR.rU k _ hs).at hb
   simp only[cQ.cells] at hl hc
   refine ⟨.agg ((lj.toList.drop 0).take cs.length).toArray,?_,.agg (by simpa using hc)⟩
   simp only[JE,hq,asAddr,cC,ep,bQ,D2 ht ha hw (show 0+cs.length<=lj.size by omega)]
 | one hk hs ha=>
  rename_i x k t
  have q:=hF.oP x;rw[hk] at q
  generalize hq:a.tmps.getD x undef=c at q
  cases q with
  | ptr _ hb=>
   obtain ⟨lj,el,hw,hl,hc⟩:=(hR.rU k _ hs).at hb
   simp only[cQ.cells] at hl hc
   obtain ⟨c,h1,h2⟩:=hc.get 0 v rfl
   have h3:lj.toList[0]?=some c:=by
    rw[gG] at h1;split at h1
    ·exact h1
    cases h1
   exact agU
def JW (fn:Func) (tmps:Array Value):results fn tmps=(do
  let vs <- fn.results.mapM (JE tmps)
  pure (if h:vs.size=1 then vs[0] else .tuple vs)):=by
 unfold results
 congr 1
def PJ.run (hR:Rel E g σ w) (hF:FR n g fr a):∀ {rs:List ResultVar} {vs:List AV},PJ P fr σ rs vs->
  ∃ cs,(rs.mapM (JE a.tmps)).run P w=.ok cs w/\Y g vs cs
 | _,_,.nil=>⟨[],bm,.nil⟩
 | _,_,.cons h t=>by
  obtain ⟨c,h1,h2⟩:=h.run hR hF
  obtain ⟨cs,h3,h4⟩:=PJ.run hR hF t
  exact ⟨c::cs,by simp[h1,h3],.cons h2 h4⟩
def Y.yu {vs:List AV} {cs:List Value} (h:Y g vs cs):VR g (yu vs) (if hh:cs.toArray.size=1 then cs.toArray[0] else .tuple cs.toArray):=by
 cases h with
 | nil=>exact .lM .nil
 | cons h t=>
  cases t with
  | nil=>simpa[Abs.yu] using h
  | cons h' t=>rw[dif_neg bm];exact .lM (.cons h (.cons h' t))
def vL (P:Program) (fn:Func) (R:GL->fi->Prop):gh
 | .normal,fr,σ|.ret,fr,σ=>fr.ds=[]/\∃ vs v σ',PJ P fr σ fn.results.toList vs/\(yu vs).le v/\(∀ k e,σ' k=some e->σ k=some e)/\R (.ret v) σ'
 | .panic v,fr,σ=>fr.ds=[]/\∃ σ',(∀ k e,σ' k=some e->σ k=some e)/\R (.panic v) σ'
 | _,_,_=>False
def DR.ET {ds:List Deferred} (h:DR g [] ds):ds=[]:=by cases h;rfl
variable {f:FuncId} {args:List AV} {R:GL->fi->Prop}
def ZY {fn:Func} {c:Code} (hf:P.funcs[f]?=some fn) (hb:fn.body=some c) (hn:args.length<=fn.ntmps) (h:∀ E:Env,(∀ k,(∀ cs,σ k≠some (.box cs))->E.fix k=none)->SW P E fn.ntmps c (vL P fn R) ⟨λi=>args[i]?.getD .any,[]⟩ σ):SC P f args σ R:=by
 intro wS g w vs hR hv;have hE:∀ k,(∀ cs,σ k≠some (.box cs))->(Env.of wS g σ w).fix k=none:=λk hk=>by
  cases q:σ k with
  | none=>simp only[Env.of,q]
  | some e=>cases e with
   | box cs=>exact aw q (hk cs)
   | arr el sz cs=>simp only[Env.of,q]
   | app el sz cs=>simp only[Env.of,q]
 have hlen:=hv.length;refine calls_of_wp hf hb (wp_mono (h _ hE g { tmps:=vs.toArray++Array.replicate (fn.ntmps - vs.toArray.size) undef,defers:=[] } w hR ⟨rI,λi=>?_,.nil⟩) λe a w' hq=>?_)
 ·exact ahb
 obtain ⟨g',ae,oM,σ',q,hx,kL,sR⟩:=hq;have fin:∀ vs v σ2,PJ P oM σ' fn.results.toList vs->(yu vs).le v->(∀ k e,σ2 k=some e->σ' k=some e)->R (.ret v) σ2->
   ∃ c,(results fn a.tmps).run P w'=.ok c w'/\∃ g' ae σ',R ae σ'/\ER g' ae (.returned c)/\Rel (Env.of wS g σ w) g' σ' w':=by
  intro vs v σ2 h1 h2 hs h3
  exact ahm
 cases hx with
 | normal=>
  exact ahL
 | ret=>
  exact ahL
 | panic hv=>
  obtain ⟨hd,σ2,hs,h1⟩:=q
  have:=sR.ds;rw[hd] at this
  exact ⟨this.ET,g',_,σ2,h1,.panic hv,kL.sub hs⟩
 | exit id=>exact q.elim
 | goto l=>exact q.elim
end
end
section
def xM (ops:Array Oper):Nat->Nat->Nat->Bool
 | 0,_,_=>false
 | fuel+1,j,i=>match ops[j]? with
  | none=>false
  | some o=>o.after.toList.any (λe=>Region.binds .any e&&e.on==i)||o.after.toList.any (λe=>Region.binds .any e&&xM ops fuel e.on i)
def fB (o:Oper):Bool:=
 match o.op with
 | .call c=>match c.callee with
  | .builtin .len|.builtin .min|.builtin .max=>false
  | _=>true
 | .store ..|.assign _|.panic _=>true
 | _=>false
def looks (ops:Array Oper) (o:Oper):List Nat:=o.looksAt ops
def BC (ops:Array Oper) (i j:Nat):Bool:=
 match ops[i]?,ops[j]? with
 | some a,some b=>
  !xM ops ops.size i j&&(!fB a||fB b||xM ops ops.size j i)&&
  (match b.dst with|some d=>fB a||(!(looks ops a).contains d&&a.dst !=some d)|none=>true)&&
  (match a.dst with|some d=>!(looks ops b).contains d||xM ops ops.size j i|none=>true)
 | _,_=>false
def vV (ops:Array Oper):List Nat->Bool
 | []=>true
 | i::l=>!l.contains i&&l.all (BC ops i)&&vV ops l
def strict (ops:Array Oper):List Nat->Bool
 | []=>true
 | i::l=>l.all (λj=>match ops[i]?,ops[j]? with
  | some a,some b=>!(fB a&&fB b)||xM ops ops.size j i
  | _,_=>true)&&strict ops l
variable {l:List Nat} {fr:kG} {m:Nat->Bool} {v:AV} {σ:fi}
def HI {ops:Array Oper} {j:Nat} {a b:Oper} (h:strict ops (i::l)=true) (hj:j∈l) (ha:ops[i]?=some a) (hb:ops[j]?=some b) (h1:fB a=true) (h2:fB b=true):xM ops ops.size j i=true:=by
 simp only[strict,bk,iS] at h;have:=h.1 j hj;simp only[ha,hb,h1,h2,Bool.and_self,iC,ll] at this;exact this
def rf {ops:Array Oper} (h:strict ops (i::l)=true):strict ops l=true:=by
 simp only[strict,bk] at h;exact h.2
def HA (ops:Array Oper) (i:Nat):Bool:=
 match ops[i]? with
 | some o=>o.after.toList.all (λe=>!Region.binds .any e||decide (e.on<i))&&(fB o||(match o.dst with|some d=>!(looks ops o).contains d|none=>true))
 | none=>false
def chk (ops:Array Oper) (L:List Nat):Bool:=
 L.all (HA ops)&&(List.range ops.size).all (λi=>L.contains i)&&L.all (λi=>decide (i<ops.size))&&vV ops L&&strict ops L&&L.length==ops.size
structure Rec where
 i:Nat
 dst:Option Nat
 rd:List (Nat×cQ)
 nm:Option Nat
def mi (ops:Array Oper) (bj:List Rec) (j:Nat):List Rec:=bj.filter λr=>!xM ops ops.size j r.i
def jm (fr:kG) (m:Nat->Bool):kG:=⟨λi=>if m i then .any else fr.s i,fr.ds⟩
def jd (σ:fi) (m:Nat->Bool):fi:=λk=>if m k then none else σ k
section
variable (P:Program) (E:Env) (n:Nat) (Q:gh) (N:Prop)
inductive Iv (o:Oper) (fr:kG) (σ:fi) (next:kG->fi->Prop):List Nat->Prop
 | ev {v:AV} (h:X P o.op fr [] v) (hd:∀ d,o.dst=some d->d<n) (hn:next (fr.pS o.dst v) σ):Iv o fr σ next []
 | store {t:TypeId} {x y:Operand} {k off:Nat} {e:cQ} {l:List AV} (ho:o.op=.store t x y) (hd:o.dst=none)
  (hx:fr.val x=.ptr k off) (hk:σ k=some e) (BX:e.isApp=false) (hy:(fr.val y).jl=some l) (h1:AV.pq l=true) (ht:Lv P t=some l.length) (hl:off+l.length<=e.cells.length)
  (hpa:e.ZW=true->∃ ps:List PV,l=ps.map .pv) (hn:next fr (σ.set k (e.Xe off l))):Iv o fr σ next [k]
 | append {t e:TypeId} {s x:Operand} {sz bytes k nm m len:Nat} {cells l:List PV}
  (ho:o.op=.call ⟨.builtin .append,#[s,x],#[t,t]⟩) (ht:P.underlying t=some (.slice e)) (hb:CL P e=some (sz,bytes))
  (hs:fr.val s=.arr k len) (hk:σ k=some (.app e sz cells)) (hlen:cells.length=len*sz) (hx:Ĩ sz (fr.val x) m l)
  (h1:PV.pq l=true) (hc:fr.clear nm) (xm:(σ.del k).clear nm) (hf:E.fix nm=none)
  (Fe:(len+m)*bytes<=140737488355328) (D6:len+m<=maxLen) (hd:∀ d,o.dst=some d->d<n)
  (hn:next (fr.pS o.dst (.arr nm (len+m))) ((σ.del k).set nm (.app e sz (cells++l)))):Iv o fr σ next [k,nm]
 | Vr {t e:TypeId} {s x:Operand} {sz bytes k nm m len:Nat} {cells l:List PV}
  (ho:o.op=.call ⟨.builtin .append,#[s,x],#[t,t]⟩) (ht:P.underlying t=some (.slice e)) (hb:CL P e=some (sz,bytes))
  (hs:fr.val s=.arr k len) (hk:σ k=some (.arr e sz cells)) (hlen:cells.length=len*sz) (hx:Ĩ sz (fr.val x) m l)
  (h1:PV.pq l=true) (hc:fr.clear nm) (xm:(σ.del k).clear nm) (hf:E.fix nm=none)
  (Fe:(len+m)*bytes<=140737488355328) (D6:len+m<=maxLen) (hd:∀ d,o.dst=some d->d<n)
  (hn:next (fr.pS o.dst (.arr nm (len+m))) ((σ.del k).set nm (.arr e sz (cells++l)))):Iv o fr σ next [k,nm]
 | call {f:Operand} {args:List Operand} {ts:Array TypeId} {j5:FuncId} {first cap fF:List AV} {σ0:fi} {R:GL->fi->Prop}
  (π:Nat->Nat) (L:List Nat) (vN:Enters P j5) (ho:o.op=.call ⟨.value f,args.toArray,ts⟩) (hf:fr.val f=.fn j5 first cap)
  (MX:first++args.map fr.val++cap=AV.lO.tB π fF) (hC:SC P j5 fF σ0 R) (hL:∀ j,(σ0 j).isSome=true->L.contains j=true)
  (hσ:∀ j e,σ0 j=some e->σ (π j)=some (e.lO π)) (hL':∀ j,L.contains j=true->(σ0 j).isSome=true)
  (GV:∀ j j',(σ0 j).isSome=true->(σ0 j').isSome=true->π j=π j'->j=j')
  (hd:∀ d,o.dst=some d->d<n)
  (nP:∀ v σc,R (.ret v) σc->IP E fr σ π L L σ0 σc v/\next (fr.pS o.dst (v.lO π)) (after σ π L L σc))
  (vK:∀ v σc,R (.panic v) σc->IP E fr σ π L L σ0 σc v/\∀ oM σ',oM.ds=fr.ds->(∀ k e,σ' k=some e->after σ π L L σc k=some e)->(N->oM=fr/\σ'=after σ π L L σc)->Q (.panic (v.lO π)) oM σ'):Iv o fr σ next (L.map π)
variable {P E n Q N}
def QJ {x:Operand} (h:∀ t,x=.tmp t->m t=false):(jm fr m).val x=fr.val x:=by
 cases x with
 | tmp t=>simp[kG.val,jm,h t rfl]
 | const v=>rfl
 | global k=>rfl
 | func f=>rfl
variable {d:Option Nat}
def EP (h:∀ x,d=some x->m x=false):(jm fr m).pS d v=jm (fr.pS d v) m:=by
 cases d with
 | none=>rfl
 | some d=>
  simp only[kG.pS,kG.put,jm,kG.mk.injEq,and_true]
  funext i
  by_cases q:i=d
  ·subst q;simp[h i rfl]
  ·simp[q]
def F7 (h:fr.clear k):(jm fr m).clear k:=⟨λi=>by
 simp only[jm];split
 ·rfl
 exact h.1 i,h.2⟩
def Iw (h:σ.clear k):(jd σ m).clear k:=λj e he=>by
 simp only[jd] at he;split at he
 ·cases he
 exact h j e he
variable {e:cQ}
def Kg (h:jd σ m k=some e):σ k=some e:=by
 simp only[jd] at h;split at h
 ·cases h
 exact h
def Gt (h:m k=false):jd σ m k=σ k:=by simp[jd,h]
def MS (h:m k=false):(jd σ m).set k e=jd (σ.set k e) m:=by
 funext j;by_cases q:j=k
 ·subst q;simp[fi.set,jd,h]
 simp[fi.set,jd,q]
def Hz:(jd σ m).del k=jd (σ.del k) m:=by
 funext j;by_cases q:j=k
 ·subst q;simp[fi.del,jd]
 simp[fi.del,jd,q]
variable {L:List Nat} {σc:fi}
def D9 (h:∀ j,L.contains j=true->m (π j)=false) :
  after (jd σ m) π L L σc=jd (after σ π L L σc) m:=by
 funext k
 simp only[after,jd]
 cases hf:L.find? (λj=>π j==k) with
 | some j=>
  have h1:=nj hf
  have h2:=e9 hf
  have:m k=false:=by
   have hk:π j=k:=by simpa using h1
   rw[<- hk];exact h j wZ
  simp[this]
 | none=>
  simp only
  by_cases q:m k=true
  ·simp[q]
  ·simp[q]
variable {mm:Nat->Bool}
def IP.mask {J:List Nat} {σ0:fi} (h:IP E fr σ π L J σ0 σc v) :
  IP E (jm fr m) (jd σ mm) π L J σ0 σc v where
 Ŭ:=h.Ŭ
 val:=h.val
 inj:=h.inj
 same:=λj hj=>by
  rcases h.same j hj with q|⟨q1,q2,q3⟩
  ·exact .inl q
  ·exact .inr ⟨F7 q1,λk e hl he=>q2 k e hl (Kg he),q3⟩
structure Chg (o:Oper) (ks:List Nat) (fr Tw:kG) (σ σ0:fi):Prop where
 s:∀ i,o.dst≠some i->Tw.s i=fr.s i
 ds:Tw.ds=fr.ds
 h:∀ k,k ∉ ks->σ0 k=σ k
def Gv (i:Nat) (h:o.dst≠some i):(fr.pS o.dst v).s i=fr.s i:=by
 cases hd:o.dst with
 | none=>rfl
 | some d=>
  have:i≠d:=λq=>h (by rw[hd,q])
  simp[kG.pS,kG.put,this]
def F3:(fr.pS d v).ds=fr.ds:=by cases d<;>rfl
def Iv.run {next:kG->fi->Prop} {ks:List Nat} (h:Iv P E n Q N o fr σ next ks) (hN:N->(∀ k,mm k=false)/\∀ i,m i=false) (hm:∀ t,.tmp t∈o.op.operands->m t=false) (hdm:∀ d,o.dst=some d->m d=false) (hmm:∀ k,k∈ks->mm k=false) :
  Step P E n Q o (jm fr m) (jd σ mm) (λoM σ'=>∃ Tw σ0,next Tw σ0/\Chg o ks fr Tw σ σ0/\oM=jm Tw m/\σ'=jd σ0 mm):=by
 have zi:∀ x,x∈o.op.operands->(jm fr m).val x=fr.val x:=λx hx=>QJ λt ht=>hm t (ht▸hx)
 cases h with
 | @ev v h hd hn=>
  refine N3 (rd:=[]) (v:=v) (λo' PK g ev w hG hv hr=>h o' PK g ev w hG (λx hx=>by rw[<- zi x hx];exact hv x hx) hr) (λp hp=>by cases hp) hd ?_
  exact ag0
 | @store t x y k off e l ho hd hx hk BX hy h1 ht hl hpa hn=>
  have hkm:=hmm k bm
  refine CK ho hd (by rw[zi x (by simp[ho,Op.operands])];exact hx) Zn BX (by rw[zi y (by simp[ho,Op.operands])];exact hy) h1 ht hl hpa ?_
  refine ⟨_,_,hn,⟨λ_ _=>rfl,rfl,λj hj=>?_⟩,rfl,MS hkm⟩
  simp at hj;simp[fi.set,hj]
 | @append t e s x sz bytes k nm mm' len cells l ho ht hb hs hk hlen hx h1 hc xm hf Fe D6 hd hn=>
  have hkm:=hmm k bm
  have pX:=hmm nm bm
  refine GS (nm:=nm) ho ht hb (by rw[zi s YT];exact hs) Zn hlen (by rw[zi x YT];exact hx) h1 (F7 hc)
   (by rw[Hz];exact Iw xm) hf Fe D6 hd ?_
  exact ahR
 | @Vr t e s x sz bytes k nm mm' len cells l ho ht hb hs hk hlen hx h1 hc xm hf Fe D6 hd hn=>
  have hkm:=hmm k bm
  have pX:=hmm nm bm
  refine GU (nm:=nm) ho ht hb (by rw[zi s YT];exact hs) Zn hlen (by rw[zi x YT];exact hx) h1 (F7 hc)
   (by rw[Hz];exact Iw xm) hf Fe D6 hd ?_
  exact ahR
 | @call f args ts j5 first cap fF σ0 R π L vN ho hf MX hC hL hσ hL' GV hd nP vK=>
  have hLm:∀ j,L.contains j=true->mm (π j)=false:=λj hj=>hmm _ (vP.2 ⟨j,A5,rfl⟩)
  have hav:args.map (jm fr m).val=args.map fr.val:=List.map_congr_left λx hx=>zi x (by simp[ho,Op.operands,Call.operands,hx])
  refine MY π L vN ho (by rw[zi f YT];exact hf) (by rw[hav];exact MX) hC hL
   (λj e hj=>by rw[Gt (hLm j (hL j (by rw[hj];rfl)))];exact hσ j e hj) GV hd (λv σc hr=>?_) (λv σc hr=>?_)
  ·obtain ⟨hB,hn⟩:=nP v σc hr
   refine ⟨L,hB.mask,_,_,hn,⟨Gv,F3,λk hk=>?_⟩,EP hdm,D9 hLm⟩
   have GO:∀ j,j∈L->π j≠k:=λj hj q=>hk (vP.2 ⟨j,hj,q⟩)
   have h1:L.find? (λj=>π j==k)=none:=kN.2 λj hj=>by simpa using GO j hj
   have h2:L.any (λj=>π j==k)=false:=by
    rw[rV];intro j hj;simpa using GO j hj
   simp[after,h1,h2]
  ·obtain ⟨hB,hn⟩:=vK v σc hr
   refine ⟨L,hB.mask,hn _ _ rfl (λk e hk=>?_) (λq=>?_)⟩
   ·rw[D9 hLm] at hk
    exact Kg hk
   ·refine ⟨?_,by rw[D9 hLm];funext k;exact Gt ((hN q).1 k)⟩
    have:(λi=>if m i then AV.any else fr.s i)=fr.s:=by funext i;simp[(hN q).2 i]
    simp only[jm,this]
end
end
def nW (ops:Array Oper) (o:Oper) (fr:kG):Prop:=o.guard=none\/∃ j want d,o.guard=some (j,want)/\(ops[j]?).bind (·.dst)=some d/\fr.s d=Bo want
def Ea (ops:Array Oper) (o:Oper) (fr:kG):Prop:=∃ (j:Nat) (want:Bool) (d:Nat) (v:Value),o.guard=some (j,want)/\(ops[j]?).bind (·.dst)=some d/\fr.s d=Sc v/\v≠.bool want
section
variable (P:Program) (E:Env) (n:Nat) (ops:Array Oper) (Q:gh)
inductive DStep (next:List Rec->kG->fi->Prop) (bj:List Rec) (i:Nat) (o:Oper) (fr:kG) (σ:fi):Prop
 | skip (hu:Ea ops o fr) (hd:∀ d,o.dst=some d->d<n) (hn:next (if fB o then bj else ⟨i,o.dst,[],none⟩::bj) (fr.pS o.dst (Sc undef)) σ)
 | ev (hw:nW ops o fr) (hh:fB o=false) {rd:List (Nat×cQ)} {v:AV} (h:X P o.op fr rd v) (hr:∀ p,p∈rd->Cov σ p) (hd:∀ d,o.dst=some d->d<n)
  (hc:∀ r,r∈mi ops bj i->∀ nm,r.nm=some nm->v.iQ nm=false/\∀ p,p∈rd->p.1≠nm) (hn:next (⟨i,o.dst,rd,none⟩::bj) (fr.pS o.dst v) σ)
 | nw (hw:nW ops o fr) (hh:fB o=false) {nm:Nat} {e:cQ} {v:AV} (h:QE P o.op fr nm e v) (hcf:fr.clear nm) (xm:σ.clear nm) (hs:σ nm=none) (hf:E.fix nm=none)
  (hd:∀ d,o.dst=some d->d<n) (hc:∀ r,r∈mi ops bj i->∀ k,r.nm=some k->v.iQ k=false/\AV.iQ.ka k e.cells=false) (NO:∀ r,r∈bj->r.nm≠some nm)
  (D7:∀ r,r∈bj->∀ p,p∈r.rd->p.1≠nm) (hnv:AV.iQ.ka nm e.cells=false)
  (hn:next (⟨i,o.dst,[],some nm⟩::bj) (fr.pS o.dst v) (σ.set nm e))
 | fz (hw:nW ops o fr) (hh:fB o=false) {v:AV} (h:ZU P o.op fr v) (hd:∀ d,o.dst=some d->d<n)
  (hc:∀ r,r∈mi ops bj i->∀ nm,r.nm=some nm->v.iQ nm=false) (hn:next (⟨i,o.dst,[],none⟩::bj) (fr.pS o.dst v) σ)
 | fB (hw:nW ops o fr) (hh:fB o=true) {ks:List Nat} (h:Iv P E n Q (mi ops bj i=[]) o fr σ (λoM σ'=>(∀ r,r∈mi ops bj i->(∀ p,p∈r.rd->Cov σ' p)/\
   ∀ nm,r.nm=some nm->(∀ d,o.dst=some d->(oM.s d).iQ nm=false)/\∀ k,k∈ks->∀ e,σ' k=some e->AV.iQ.ka nm e.cells=false)/\next bj oM σ') ks)
  (hk:∀ r,r∈mi ops bj i->∀ k,k∈ks->r.nm≠some k)
def oN (B:List Rec->kG->fi->Prop):List Nat->List Rec->kG->fi->Prop
 | [],bj,fr,σ=>B bj fr σ
 | i::L,bj,fr,σ=>∃ o,ops[i]?=some o/\DStep P E n ops Q (oN B L) bj i o fr σ
abbrev DW:List Nat->List Rec->kG->fi->Prop:=oN P E n ops Q λ_ fr σ=>Q .normal fr σ
inductive ZZ (fr:kG) (σ:fi) (r:Rec) (o:Oper):Prop
 | skip (hu:Ea ops o fr) (hv:∀ d,o.dst=some d->fr.s d=Sc undef) (D7:r.rd=[]) (pX:r.nm=none)
 | ev (hw:nW ops o fr) {v:AV} (h:X P o.op fr r.rd v) (hv:∀ d,o.dst=some d->fr.s d=v) (pX:r.nm=none)
 | nw (hw:nW ops o fr) {nm:Nat} {e:cQ} {v:AV} (h:QE P o.op fr nm e v) (hv:∀ d,o.dst=some d->fr.s d=v) (D7:r.rd=[]) (pX:r.nm=some nm) (hs:σ nm=some e) (hf:E.fix nm=none)
  (uv:AV.iQ.ka nm e.cells=false)
 | fz (hw:nW ops o fr) {v:AV} (h:ZU P o.op fr v) (hv:∀ d,o.dst=some d->fr.s d=v) (D7:r.rd=[]) (pX:r.nm=none)
variable {P E n ops Q}
def Cx (listed:Array Bool) (i:Nat):Bool:=listed.getD i false
def ve (listed:Array Bool) (bj:List Rec):List Rec:=bj.filter λr=>!Cx listed r.i
def mF (listed:Array Bool) (bj:List Rec):Nat->Bool:=λi=>(ve listed bj).any λr=>r.dst==some i
def mS (listed:Array Bool) (bj:List Rec):Nat->Bool:=λk=>(ve listed bj).any λr=>r.nm==some k
variable {bj:List Rec} {fr:kG}
def gk {r:Rec}:r∈ve listed bj↔r∈bj/\Cx listed r.i=false:=by simp[ve]
def sL:mF listed bj i=true↔∃ r,r∈ve listed bj/\r.dst=some i:=by simp[mF]
def oS:mS listed bj i=true↔∃ r,r∈ve listed bj/\r.nm=some i:=by simp[mS]
variable (P E n ops) in
structure Inv (listed:Array Bool) (L:List Nat) (bj:List Rec) (fr:kG) (σ:fi):Prop where
 size:listed.size=ops.size
 todo:∀ i,i∈L->i<ops.size/\Cx listed i=false
 done:∀ i o,ops[i]?=some o->i ∉ L->(fB o=true->Cx listed i=true)/\(fB o=false->∃ r,r∈bj/\r.i=i)
 qB:∀ r,r∈bj->r.i ∉ L/\∃ o,ops[r.i]?=some o/\fB o=false/\r.dst=o.dst/\∀ d,o.dst=some d->d<n/\d ∉ o.looksAt ops
 Kh:∀ i,i∈L->HA ops i=true
 apart:∀ r r',r∈bj->r'∈bj->r.i=r'.i->r=r'
 names:∀ r r' k,r∈bj->r'∈bj->r.nm=some k->r'.nm=some k->r=r'
 M0:∀ r r',r∈bj->r'∈bj->r.i≠r'.i->BC ops r.i r'.i=true\/BC ops r'.i r.i=true
 JZ:∀ i j,i<ops.size->i ∉ L->j∈L->BC ops i j=true
 HJ:vV ops L=true
 down:∀ i o,ops[i]?=some o->Cx listed i=true->∀ e,e∈o.after.toList->Region.binds .any e=true->Cx listed e.on=true
 M1:∀ r,r∈ve listed bj->∃ o,ops[r.i]?=some o/\ZZ P E ops fr σ r o
 reads:∀ r,r∈ve listed bj->∀ p,p∈r.rd->Cov σ p
 oP:∀ r,r∈ve listed bj->∀ nm,r.nm=some nm->∀ i,mF listed bj i=false->(fr.s i).iQ nm=false
 ds:∀ r,r∈ve listed bj->∀ nm,r.nm=some nm->∀ p,p∈fr.ds->AV.iQ.ka nm p.2=false
 Xk:∀ r,r∈ve listed bj->∀ nm,r.nm=some nm->∀ k e,mS listed bj k=false->σ k=some e->AV.iQ.ka nm e.cells=false
 D8:∀ r r',r∈ve listed bj->r'∈ve listed bj->∀ nm,r.nm=some nm->xM ops ops.size r'.i r.i=false->r.i≠r'.i->
  (∀ d,r'.dst=some d->(fr.s d).iQ nm=false)/\(∀ k e,r'.nm=some k->σ k=some e->AV.iQ.ka nm e.cells=false)/\∀ p,p∈r'.rd->p.1≠nm
def Af (down:∀ i o,ops[i]?=some o->Cx listed i=true->∀ e,e∈o.after.toList->Region.binds .any e=true->Cx listed e.on=true) :
  ∀ (fuel j i:Nat) (o:Oper),ops[j]?=some o->(∀ e,e∈o.after.toList->Region.binds .any e=true->Cx listed e.on=true)->xM ops fuel j i=true->Cx listed i=true
 | 0,_,_,_,_,_,h=>by simp[xM] at h
 | fuel+1,j,i,o,ho,hr,h=>by
  simp only[xM,ho,l8,mB,bk] at h
  rcases h with ⟨e,he,hb,hi⟩|⟨e,he,hb,hi⟩
  ·have:=hr e he hb
   rw[cn.1 hi] at this;exact this
  ·have hran:=hr e he hb
   cases hoe:ops[e.on]? with
   | none=>cases fuel<;>simp[xM,hoe] at hi
   | some oe=>exact Af down fuel e.on i oe hoe (down e.on oe hoe hran) hi
def F8 (hs:listed.size=ops.size) (h:i∈Region.ready .any ops listed) :
  i<ops.size/\Cx listed i=false/\∃ o,ops[i]?=some o/\∀ e,e∈o.after.toList->Region.binds .any e=true->Cx listed e.on=true:=by
 simp only[Region.ready,gK,tV,bk,fj] at h
 obtain ⟨gR,h1,h2⟩:=h
 refine ⟨gR,?_,?_⟩
 ·have:listed.getD i true=listed.getD i false:=by simp[Array.getD,hs,gR]
  unfold Cx;rw[<- this];exact h1
 ·rw[gv gR] at h2 ⊢
  simp only[vQ,Ah] at h2
  refine ⟨_,rfl,λe he hb=>?_⟩
  rw[Array.all_eq_true_iff_forall_mem] at h2
  have:=h2 e Dh
  simpa[hb,Cx] using this
variable {m:Nat->Bool}
def Bc (h:nW ops o fr) (hm:∀ d,d∈o.looksAt ops->m d=false):nW ops o (jm fr m):=by
 rcases h with q|⟨j,want,d,hg,hj,hb⟩
 ·exact .inl q
 refine .inr ⟨j,want,d,hg,hj,?_⟩;have:m d=false:=hm d W7;simp[jm,this,hb]
def FE (h:Ea ops o fr) (hm:∀ d,d∈o.looksAt ops->m d=false):Ea ops o (jm fr m):=by
 obtain ⟨j,want,d,b,hg,hj,hb,hn⟩:=h;refine ⟨j,want,d,b,hg,hj,?_,hn⟩;have:m d=false:=hm d W7;simp[jm,this,hb]
def Eb {t:Nat} (h:.tmp t∈o.op.operands):t∈o.looksAt ops:=by
 simp only[Oper.looksAt,bL,List.mem_filterMap];exact .inl ⟨.tmp t,by simpa using h,rfl⟩
variable {Q':Exit->Act->World->Prop} {g:Gh} {K:Act->World->Prop}
def Bd (ho:ops[i]?=some o) (hw:nW ops o fr) (hF:FR n g fr a) (h:o.wp P a w K Q'):wpOp P ops Q' i K a w:=by
 unfold wpOp;rw[ho];simp only;rcases hw with q|⟨j,want,d,hg,hj,hb⟩
 ·rw[aL (by simp[Region.wanted,q])];exact .inl h
 rw[aL (by simp[Region.wanted,hg,hF.yield hj hb])];exact .inl h
def FF (ho:ops[i]?=some o) (hw:Ea ops o fr) (hF:FR n g fr a) (h:K (a.put o.dst undef) w):wpOp P ops Q' i K a w:=by
 unfold wpOp;rw[ho];simp only;obtain ⟨j,want,d,b,hg,hj,hb,hn⟩:=hw;rw[aC (by simp[Region.wanted,hg,hF.Vo hj hb hn])];exact h
def xq {j:Nat} {a b:Oper} (ha:ops[i]?=some a) (hb:ops[j]?=some b) (h:BC ops i j=true) :
  (fB a=false->∀ d,b.dst=some d->d ∉ a.looksAt ops/\a.dst≠some d)/\(∀ d,a.dst=some d->d∈b.looksAt ops->xM ops ops.size j i=true)/\
  (fB a=true->fB b=true\/xM ops ops.size j i=true):=by
 simp only[BC,ha,hb,bk,looks] at h
 obtain ⟨⟨⟨_,h1⟩,h2⟩,h3⟩:=h
 refine ⟨λhh d hd=>?_,λd hd hl=>?_,λhh=>by simpa[hh] using h1⟩
 ·rw[hd] at h2;simpa[hh] using h2
 ·rw[hd] at h3
  simp only[l8,fj] at h3
  rcases h3 with q|q
  ·simp at q;exact aw hl q
  ·exact q
end
section
variable {P:Program} {E:Env} {Q:gh} {L:List Nat} {bj:List Rec} {fr:kG} {σ:fi}
def zh (hi:i<listed.size):Cx (listed.setIfInBounds i true) k=(decide (k=i)||Cx listed k):=by
 simp only[Cx,eQ];by_cases h:k=i
 ·subst h;simp[hi]
 rw[Array.getElem?_setIfInBounds_ne (λq=>h q.symm)];simp[h]
def QK (hI:Inv P E n ops listed L bj fr σ) (ho:ops[i]?=some o) (hr:∀ e,e∈o.after.toList->Region.binds .any e=true->Cx listed e.on=true) (hi:(∃ r,r∈bj/\r.i=i)\/i∈L):∀ d,d∈o.looksAt ops->mF listed bj d=false:=by
 intro d hd;cases hm:mF listed bj d with
 | false=>rfl
 | true=>
  exfalso
  obtain ⟨r,SN,D7⟩:=sL.1 hm
  obtain ⟨Hp,hran⟩:=gk.1 SN
  obtain ⟨hnL,or,Im,hheavy,hdst,Aj⟩:=hI.qB r Hp
  rw[hdst] at D7
  have GO:xM ops ops.size i r.i=true->False:=λq=>by
   have:=Af hI.down _ _ _ o ho hr q;rw[this] at hran;cases hran
  have gR:r.i<ops.size:=by
   exact Ś
  rcases hi with ⟨ri,Dr,rfl⟩|hi
  ·by_cases q:r.i=ri.i
   ·have:=hI.apart r ri Hp Dr q;subst this;rw[Im] at ho;cases ho;exact (Aj d D7).2 hd
   rcases hI.M0 r ri Hp Dr q with h|h
   ·exact GO ((xq Im ho h).2.1 d D7 hd)
   obtain ⟨_,ori,hori,hh,_⟩:=hI.qB ri Dr;rw[ho] at hori;cases hori;exact ((xq ho Im h).1 hh d D7).1 hd
  ·exact GO ((xq Im ho (hI.JZ r.i i gR hnL hi)).2.1 d D7 hd)
variable {r:Rec}
def pz (hi:i<listed.size):r∈ve (listed.setIfInBounds i true) bj↔r∈ve listed bj/\r.i≠i:=by
 rw[gk,gk,zh hi];constructor
 ·rintro ⟨h1,h2⟩;simp at h2;exact ⟨⟨h1,h2.2⟩,h2.1⟩
 rintro ⟨⟨h1,h2⟩,h3⟩;exact ⟨h1,by simp[h2,h3]⟩
def N9 (hi:i<listed.size) (h:mF listed bj k=false):mF (listed.setIfInBounds i true) bj k=false:=by
 cases q:mF (listed.setIfInBounds i true) bj k with
 | false=>rfl
 | true=>
  obtain ⟨r,hr,hd⟩:=sL.1 q
  have:=sL.2 ⟨r,((pz hi).1 hr).1,hd⟩
  rw[h] at this;cases this
def CM (hi:i<listed.size) (h:mS listed bj k=false):mS (listed.setIfInBounds i true) bj k=false:=by
 cases q:mS (listed.setIfInBounds i true) bj k with
 | false=>rfl
 | true=>
  obtain ⟨r,hr,hd⟩:=oS.1 q
  have:=oS.2 ⟨r,((pz hi).1 hr).1,hd⟩
  rw[h] at this;cases this
def Inv.goes (hI:Inv P E n ops listed L bj fr σ) (ho:ops[i]?=some o) (hr:∀ e,e∈o.after.toList->Region.binds .any e=true->Cx listed e.on=true) (SN:r∈ve listed bj) (Dr:r.i=i):Inv P E n ops (listed.setIfInBounds i true) L bj fr σ:=by
 have Hp:=(gk.1 SN).1;have gR:i<listed.size:=by
  rw[hI.size];rcases fA i ops.size with q|q
  ·exact q
  rw[gE q] at ho;cases ho
 have GO:∀ r1,r1∈ve listed bj->xM ops ops.size i r1.i=false:=λr1 h1=>by
  cases q:xM ops ops.size i r1.i with
  | false=>rfl
  | true=>
   have:=Af hI.down _ _ _ o ho hr q
   rw[(gk.1 h1).2] at this;cases this
 have Ho:i ∉ L:=Dr▸(hI.qB r Hp).1;refine Inv.mk (by simpa using hI.size) (λk hk=>?_) (λk ok Gz hk=>?_) hI.qB hI.Kh hI.apart hI.names hI.M0 hI.JZ hI.HJ
  (λk ok Gz hk e he hb=>?_) (λr1 h1=>hI.M1 r1 ((pz gR).1 h1).1) (λr1 h1=>hI.reads r1 ((pz gR).1 h1).1) (λr1 h1 nm pX k hk=>?_)
  (λr1 h1=>hI.ds r1 ((pz gR).1 h1).1) (λr1 h1 nm pX k e hk he=>?_) (λr1 r2 h1 h2=>hI.D8 r1 r2 ((pz gR).1 h1).1 ((pz gR).1 h2).1)
 ·have:=hI.todo k hk;refine ⟨this.1,?_⟩;have uv:k≠i:=λq=>Ho (q▸hk);rw[zh gR];simp[uv,this.2]
 ·have:=hI.done k ok Gz hk;exact ⟨λq=>by rw[zh gR];simp[this.1 q],this.2⟩
 ·rw[zh gR] at hk ⊢;simp only[l8,decide_eq_true_eq] at hk;rcases hk with q|q
  ·subst q;rw[ho] at Gz;cases Gz;simp[hr e he hb]
  simp[hI.down k ok Gz q e he hb]
 ·obtain ⟨h1,h1i⟩:=(pz gR).1 h1;cases q:mF listed bj k with
  | false=>exact hI.oP r1 h1 nm pX k q
  | true=>
   obtain ⟨r2,h2,hd⟩:=sL.1 q
   by_cases q2:r2.i=i
   ·have e2:=hI.apart r2 r (gk.1 h2).1 Hp (q2.trans Dr.symm);subst e2;exact (hI.D8 r1 r2 h1 h2 nm pX (by rw[q2];exact GO r1 h1) (λq3=>h1i (q3.trans q2))).1 k hd
   ·have:=sL.2 ⟨r2,(pz gR).2 ⟨h2,q2⟩,hd⟩;rw[hk] at this;cases this
 obtain ⟨h1,h1i⟩:=(pz gR).1 h1;cases q:mS listed bj k with
 | false=>exact hI.Xk r1 h1 nm pX k e q he
 | true=>
  obtain ⟨r2,h2,hd⟩:=oS.1 q
  by_cases q2:r2.i=i
  ·have e2:=hI.apart r2 r (gk.1 h2).1 Hp (q2.trans Dr.symm);subst e2;exact (hI.D8 r1 r2 h1 h2 nm pX (by rw[q2];exact GO r1 h1) (λq3=>h1i (q3.trans q2))).2.1 k e hd he
  ·have:=oS.2 ⟨r2,(pz gR).2 ⟨h2,q2⟩,hd⟩;rw[hk] at this;cases this
def FR.Oa {m m':Nat->Bool} {g:Gh} {a:Act} {d:Option Nat} {v:AV} {c:Value} (hF:FR n g (jm fr m) a) (hd:∀ x,d=some x->x<n) (hv:VR g v c)
  (hs:∀ x,d=some x->fr.s x=v) (hm:∀ i,m' i=false->m i=false\/d=some i):FR n g (jm fr m') (a.put d c):=by
 have h1:=hF.put hd hv
 have DO:((jm fr m).pS d v).ds=(jm fr m').ds:=F3
 refine ⟨h1.size,λi=>?_,by rw[<- DO];exact h1.ds⟩
 ·by_cases q:m' i=true
  ·simp only[jm,q,if_true];exact .any _
  ·have q':m' i=false:=by simpa using q
   have h2:=h1.oP i
   simp only[jm,q',fm,if_false]
   by_cases hdi:d=some i
   ·subst hdi
    simp only[kG.pS,kG.put,if_true] at h2
    rw[hs i rfl];exact h2
   ·have hmi:m i=false:=(hm i q').resolve_right hdi
    cases d with
    | none=>simpa[kG.pS,jm,hmi] using h2
    | some x=>
     have:i≠x:=λq=>hdi (by rw[q])
     simpa[kG.pS,kG.put,jm,hmi,this] using h2
end
section
variable {P:Program} {E:Env} {Q:gh} {L:List Nat} {bj:List Rec} {fr:kG} {σ:fi}
variable {r:Rec}
def QL {i:Nat} (hI:Inv P E n ops listed L bj fr σ) (ho:ops[i]?=some o) (hr:∀ e,e∈o.after.toList->Region.binds .any e=true->Cx listed e.on=true) (SN:r∈ve listed bj) (Dr:r.i=i) {g:Gh} {a:Act} {w:World} (hR:Rel E g (jd σ (mS listed bj)) w) (hF:FR n g (jm fr (mF listed bj)) a) {K:Act->World->Prop} {Q':Exit->Act->World->Prop} (hK:∀ g' a' w',Inv P E n ops (listed.setIfInBounds i true) L bj fr σ->Rel E g' (jd σ (mS (listed.setIfInBounds i true) bj)) w'->
   FR n g' (jm fr (mF (listed.setIfInBounds i true) bj)) a'->K a' w'):wpOp P ops Q' i K a w:=by
 have Hp:=(gk.1 SN).1
 have J7:=hI.goes ho hr SN Dr
 have gR:i<listed.size:=by
  rw[hI.size]
  rcases fA i ops.size with q|q
  ·exact q
  ·rw[gE q] at ho;cases ho
 have GO:∀ r1,r1∈ve listed bj->xM ops ops.size i r1.i=false:=λr1 h1=>by
  cases q:xM ops ops.size i r1.i with
  | false=>rfl
  | true=>
   have:=Af hI.down _ _ _ o ho hr q
   rw[(gk.1 h1).2] at this;cases this
 obtain ⟨Ho,or,Im,hheavy,hdst,Aj⟩:=hI.qB r Hp
 rw[Dr,ho] at Im;cases Im
 have hum:=QK hI ho hr (.inl ⟨r,Hp,Dr⟩)
 have hmF:∀ k,mF (listed.setIfInBounds i true) bj k=false->mF listed bj k=false\/o.dst=some k:=λk hk=>by
  cases q:mF listed bj k with
  | false=>exact .inl rfl
  | true=>
   obtain ⟨r2,h2,hd⟩:=sL.1 q
   by_cases q2:r2.i=i
   ·have e2:=hI.apart r2 r (gk.1 h2).1 Hp (q2.trans Dr.symm);subst e2
    exact .inr (hdst.symm.trans hd)
   ·have:=sL.2 ⟨r2,(pz gR).2 ⟨h2,q2⟩,hd⟩
    rw[hk] at this;cases this
 have hmS:r.nm=none->jd σ (mS (listed.setIfInBounds i true) bj)=jd σ (mS listed bj):=λpX=>by
  funext k
  have:mS (listed.setIfInBounds i true) bj k=mS listed bj k:=by
   cases q:mS listed bj k with
   | false=>exact CM gR q
   | true=>
    obtain ⟨r2,h2,hd⟩:=oS.1 q
    refine oS.2 ⟨r2,(pz gR).2 ⟨h2,λq2=>?_⟩,hd⟩
    have e2:=hI.apart r2 r (gk.1 h2).1 Hp (q2.trans Dr.symm);subst e2
    rw[pX] at hd;cases hd
  simp[jd,this]
 have hopd:∀ x,x∈o.op.operands->VR g (fr.val x) (a.eval x):=λx hx=>by
  have h1:=hF.eval x
  rwa [QJ (λt ht=>hum t (Eb (ht▸hx)))] at h1
 have hdn:∀ x,o.dst=some x->x<n:=λx hx=>(Aj x hx).1
 obtain ⟨o',PK,hp⟩:=hI.M1 r SN
 rw[Dr,ho] at PK;cases PK
 cases hp with
 | skip hu hv D7 pX=>
  refine FF ho (FE hu hum) hF (hK g _ w J7 ?_ ?_)
  ·rw[hmS pX];exact hR
  ·exact hF.Oa (v:=Sc undef) hdn (.pv (.sc _)) hv hmF
 | @ev hw v h hv pX=>
  refine Bd ho (Bc hw hum) hF ?_
  obtain ⟨c,oY,Hy⟩:=h o rfl g a.eval w hR.gl hopd (λp hp=>by
   obtain ⟨e0,hs,hle⟩:=hI.reads r SN p hp
   refine hle _ _ _ (hR.rU p.1 e0 ?_)
   rw[Gt]
   ·exact hs
   ·cases q:mS listed bj p.1 with
    | false=>rfl
    | true=>
     exfalso
     obtain ⟨r2,h2,hd⟩:=oS.1 q
     by_cases q2:r2.i=i
     ·have e2:=hI.apart r2 r (gk.1 h2).1 Hp (q2.trans Dr.symm);subst e2
      rw[pX] at hd;cases hd
     ·exact (hI.D8 r2 r h2 SN _ hd (by rw[Dr];exact GO r2 h2) (λq3=>q2 (q3.trans Dr))).2.2 p hp rfl)
  simp only[Oper.wp,oY,Oper.upon]
  refine hK g _ w J7 ?_ ?_
  ·rw[hmS pX];exact hR
  ·exact hF.Oa hdn Hy hv hmF
 | @nw hw nm e v h hv D7 pX hs hf uv=>
  refine Bd ho (Bc hw hum) hF ?_
  have hsl:=hI.oP r SN nm pX
  have JY:(jm fr (mF listed bj)).clear nm:=⟨λk=>by
   simp only[jm];split
   ·rfl
   ·rename_i q;exact hsl k FZ,hI.ds r SN nm pX⟩
  have xm:(jd σ (mS listed bj)).clear nm:=λk e' hk=>by
   simp only[jd] at hk
   split at hk
   ·cases hk
   ·rename_i q;exact hI.Xk r SN nm pX k e' FZ hk
  obtain ⟨c,cs,el,cap,oY,he,Hy⟩:=h o rfl g a.eval w hR.gl.fresh (λx hx=>⟨hopd x hx,by
   cases x with
   | tmp t=>exact hsl t (hum t (Eb hx))
   | const v=>rfl
   | global k=>rfl
   | func f=>rfl⟩)
  simp only[Oper.wp,oY,Oper.upon]
  have LZ:=hR.ZJ xm hf he
  have Vs:FR n (g.fresh nm w.heap.size cap e) (jm fr (mF listed bj)) a:=hF.le (wP.fresh g nm _ _ e hR.gl.fresh) λk q=>by subst q;exact JY
  refine hK _ _ _ J7 ?_ (Vs.Oa hdn Hy hv hmF)
  have:jd σ (mS (listed.setIfInBounds i true) bj)=(jd σ (mS listed bj)).set nm e:=by
   funext k
   by_cases q:k=nm
   ·subst q
    have:mS (listed.setIfInBounds i true) bj k=false:=by
     cases q:mS (listed.setIfInBounds i true) bj k with
     | false=>rfl
     | true=>
      exfalso
      obtain ⟨r2,h2,hd⟩:=oS.1 q
      obtain ⟨h2,h2i⟩:=(pz gR).1 h2
      have:=hI.names r2 r k (gk.1 h2).1 Hp hd pX
      subst this;exact h2i Dr
    simp[jd,this,fi.set,hs]
   ·have:mS (listed.setIfInBounds i true) bj k=mS listed bj k:=by
     cases q2:mS listed bj k with
     | false=>exact CM gR q2
     | true=>
      obtain ⟨r2,h2,hd⟩:=oS.1 q2
      refine oS.2 ⟨r2,(pz gR).2 ⟨h2,λq3=>?_⟩,hd⟩
      have e2:=hI.apart r2 r (gk.1 h2).1 Hp (q3.trans Dr.symm);subst e2
      rw[pX] at hd;cases hd;exact q rfl
    simp[jd,this,fi.set,q]
  rw[this];exact LZ
 | @fz hw v h hv D7 pX=>
  refine Bd ho (Bc hw hum) hF ?_
  obtain ⟨c,cs,el,ys,oY,hl,hp,Hy⟩:=h o rfl g a.eval w hopd
  simp only[Oper.wp,oY,Oper.upon]
  refine hK (g.iB w.heap.size ys) _ _ J7 ?_ ?_
  ·rw[hmS pX];exact hR.frozen hl hp
  ·exact (hF.le (nn:=λ_=>False) (qm g _ ys hR.gl.fresh) λk q=>q.elim).Oa hdn Hy hv hmF
def ZZ.congr {oM:kG} {σ':fi} (h:ZZ P E ops fr σ r o) (hl:∀ t,t∈o.looksAt ops->oM.s t=fr.s t) (hd:∀ d,o.dst=some d->oM.s d=fr.s d) (hs:∀ nm,r.nm=some nm->σ' nm=σ nm):ZZ P E ops oM σ' r o:=by
 have zi:∀ x,x∈o.op.operands->oM.val x=fr.val x:=λx hx=>by
  cases x with
  | tmp t=>exact hl t (Eb hx)
  | const v=>rfl
  | global k=>rfl
  | func f=>rfl
 have hwan:nW ops o fr->nW ops o oM:=λhw=>by
  rcases hw with q|⟨j,want,d,hg,hj,hb⟩
  ·exact .inl q
  exact .inr ⟨j,want,d,hg,hj,by rw[hl d W7];exact hb⟩
 cases h with
 | skip hu hv D7 pX=>
  obtain ⟨j,want,d,b,hg,hj,hb,hn⟩:=hu
  exact .skip ⟨j,want,d,b,hg,hj,by rw[hl d W7];exact hb,hn⟩ (λd BZ=>(hd d BZ).trans (hv d BZ)) D7 pX
 | ev hw h hv pX=>exact .ev (hwan hw) (λo' PK g ev w hG hx=>h o' PK g ev w hG λx tn=>by rw[<- zi x tn];exact hx x tn) (λd BZ=>(hd d BZ).trans (hv d BZ)) pX
 | nw hw h hv D7 pX QH hf uv=>
  exact .nw (hwan hw) (λo' PK g ev w hG0 hx=>h o' PK g ev w hG0 λx tn=>by rw[<- zi x tn];exact hx x tn) (λd BZ=>(hd d BZ).trans (hv d BZ)) D7 pX ((hs _ pX).trans QH) hf uv
 | fz hw h hv D7 pX=>exact .fz (hwan hw) (λo' PK g ev w hx=>h o' PK g ev w λx tn=>by rw[<- zi x tn];exact hx x tn) (λd BZ=>(hd d BZ).trans (hv d BZ)) D7 pX
end
section
variable {P:Program} {E:Env} {Q:gh} {L:List Nat} {bj:List Rec} {fr:kG} {σ:fi}
variable {d:Option Nat} {v:AV}
def tC (h:d≠some i):(fr.pS d v).s i=fr.s i:=by
 cases d with
 | none=>rfl
 | some d=>
  have:i≠d:=λq=>h (by rw[q])
  simp[kG.pS,kG.put,this]
def Ht (h:d=some i):(fr.pS d v).s i=v:=by
 subst h;simp[kG.pS,kG.put]
variable {c:Nat} {rd:List (Nat×cQ)} {g:Gh}
def advance {Ki:Option Nat} {σ':fi} (hI:Inv P E n ops listed (c::L) bj fr σ) (ho:ops[c]?=some o) (hh:fB o=false) (hd:∀ d,o.dst=some d->d<n) (hp:ZZ P E ops (fr.pS o.dst v) σ' ⟨c,o.dst,rd,Ki⟩ o) (hσ:∀ k,Ki≠some k->σ' k=σ k) (NO:∀ k,Ki=some k->(∀ r,r∈bj->r.nm≠some k/\∀ p,p∈r.rd->p.1≠k)/\σ k=none/\fr.clear k/\σ.clear k/\∀ e,σ' k=some e->AV.iQ.ka k e.cells=false) (D7:∀ p,p∈rd->Cov σ' p) (hc:∀ r,r∈mi ops bj c->∀ nm,r.nm=some nm->v.iQ nm=false/\(∀ p,p∈rd->p.1≠nm)/\∀ k e,Ki=some k->σ' k=some e->AV.iQ.ka nm e.cells=false) (hR:Rel E g (jd σ (mS listed bj)) w) (hF:FR n g (jm fr (mF listed bj)) a) :
  Inv P E n ops listed L (⟨c,o.dst,rd,Ki⟩::bj) (fr.pS o.dst v) σ'/\Rel E g (jd σ' (mS listed (⟨c,o.dst,rd,Ki⟩::bj))) w/\
   FR n g (jm (fr.pS o.dst v) (mF listed (⟨c,o.dst,rd,Ki⟩::bj))) a:=by
 have hcL:=hI.todo c bm
 have hPP:=hI.HJ
 simp only[vV,bk,fj] at hPP
 obtain ⟨⟨hcn,hca⟩,hPL⟩:=hPP
 have hcnL:c ∉ L:=by simpa using hcn
 have Aj:=hI.Kh c bm
 simp only[HA,ho,hh,ll,bk,looks] at Aj
 have hdl:∀ d,o.dst=some d->d ∉ o.looksAt ops:=λd BZ=>by
  have:=Aj.2;rw[BZ] at this;simpa using this
 have uv:∀ r,r∈bj->r.i≠c:=λr hr q=>(hI.qB r hr).1 (by simp[q])
 have gR:∀ r,r∈bj->r.i<ops.size:=λr hr=>by
  obtain ⟨_,or,Im,_⟩:=hI.qB r hr
  exact Ś
 have Ip:∀ r,r∈bj->BC ops r.i c=true:=λr hr=>hI.JZ r.i c (gR r hr) (hI.qB r hr).1 bm
 have MU:∀ r,r∈bj->∀ or,ops[r.i]?=some or->∀ d,o.dst=some d->d ∉ or.looksAt ops/\or.dst≠some d:=λr hr or Im d BZ=>by
  exact ahZ
 have Vt:∀ r,r∈bj->∀ d,r.dst=some d->o.dst≠some d:=λr hr d BZ q=>by
  exact acS
 have QM:∀ r,r∈bj->∀ d,r.dst=some d->(fr.pS o.dst v).s d=fr.s d:=λr hr d BZ=>tC (Vt r hr d BZ)
 have Xl:∀ r,r∈ve listed (⟨c,o.dst,rd,Ki⟩::bj)↔r=⟨c,o.dst,rd,Ki⟩\/r∈ve listed bj:=λr=>by
  rw[gk,gk]
  constructor
  ·rintro ⟨h1,h2⟩
   rcases cf.1 h1 with q|q
   ·exact .inl q
   ·exact .inr ⟨q,h2⟩
  ·rintro (q|⟨h1,h2⟩)
   ·subst q;exact ⟨by simp,hcL.2⟩
   ·exact ⟨by simp[h1],h2⟩
 have hmF:∀ k,mF listed (⟨c,o.dst,rd,Ki⟩::bj) k=false->o.dst≠some k/\mF listed bj k=false:=λk hk=>by
  refine ⟨λq=>?_,?_⟩
  ·have:=sL.2 ⟨⟨c,o.dst,rd,Ki⟩,(Xl _).2 (.inl rfl),q⟩
   rw[hk] at this;cases this
  ·cases q:mF listed bj k with
   | false=>rfl
   | true=>
    obtain ⟨r,h1,h2⟩:=sL.1 q
    have:=sL.2 ⟨r,(Xl r).2 (.inr h1),h2⟩
    rw[hk] at this;cases this
 have hmS:∀ k,mS listed (⟨c,o.dst,rd,Ki⟩::bj) k=false->Ki≠some k/\mS listed bj k=false:=λk hk=>by
  refine ⟨λq=>?_,?_⟩
  ·have:=oS.2 ⟨⟨c,o.dst,rd,Ki⟩,(Xl _).2 (.inl rfl),q⟩
   rw[hk] at this;cases this
  ·cases q:mS listed bj k with
   | false=>rfl
   | true=>
    obtain ⟨r,h1,h2⟩:=oS.1 q
    have:=oS.2 ⟨r,(Xl r).2 (.inr h1),h2⟩
    rw[hk] at this;cases this
 have hmS':∀ k,mS listed (⟨c,o.dst,rd,Ki⟩::bj) k=true->Ki=some k\/mS listed bj k=true:=λk hk=>by
  obtain ⟨r,h1,h2⟩:=oS.1 hk
  rcases (Xl r).1 h1 with q|q
  ·subst q;exact .inl h2
  ·exact .inr (oS.2 ⟨r,q,h2⟩)
 refine ⟨?_,?_,?_⟩
 ·refine Inv.mk hI.size (λi hi=>hI.todo i (by simp[hi])) (λi oi hoi hi=>?_) (λr hr=>?_) (λi hi=>hI.Kh i (by simp[hi])) (λr r' hr EU q=>?_) (λr r' k hr EU q q'=>?_)
   (λr r' hr EU q=>?_) (λi j hi Ho hj=>?_) hPL hI.down (λr hr=>?_) (λr hr p hpr=>?_) (λr hr nm pX i hi=>?_) (λr hr nm pX p hpp=>?_) (λr hr nm pX k e hk he=>?_)
   (λr r' hr EU nm pX hord Dr=>?_)
  ·by_cases q:i=c
   ·subst q;rw[ho] at hoi;cases hoi
    exact ⟨λq=>(by rw[hh] at q;cases q),λ_=>⟨_,List.mem_cons_self ..,rfl⟩⟩
   ·obtain ⟨h1,h2⟩:=hI.done i oi hoi (by simp[q,hi])
    exact ⟨h1,λq2=>let ⟨r,hr,e⟩:=h2 q2;⟨r,by simp[hr],e⟩⟩
  ·rcases cf.1 hr with q|q
   ·subst q;exact ⟨hcnL,o,ho,hh,rfl,λd BZ=>⟨hd d BZ,hdl d BZ⟩⟩
   ·obtain ⟨h1,h2⟩:=hI.qB r q
    exact ⟨λq2=>h1 (by simp[q2]),h2⟩
  ·rcases cf.1 hr with h1|h1
   ·rcases cf.1 EU with h2|h2
    ·rw[h1,h2]
    ·subst h1;exact aw q.symm (uv r' h2)
   ·rcases cf.1 EU with h2|h2
    ·subst h2;exact aw q (uv r h1)
    ·exact hI.apart r r' h1 h2 q
  ·rcases cf.1 hr with h1|h1
   ·rcases cf.1 EU with h2|h2
    ·rw[h1,h2]
    ·subst h1;exact aw q' ((NO k q).1 r' h2).1
   ·rcases cf.1 EU with h2|h2
    ·subst h2;exact aw q ((NO k q').1 r h1).1
    ·exact hI.names r r' k h1 h2 q q'
  ·rcases cf.1 hr with h1|h1
   ·rcases cf.1 EU with h2|h2
    ·subst h1 h2;exact aw rfl q
    ·subst h1;exact .inr (Ip r' h2)
   ·rcases cf.1 EU with h2|h2
    ·subst h2;exact .inl (Ip r h1)
    ·exact hI.M0 r r' h1 h2 q
  ·exact acF
  ·rcases (Xl r).1 hr with q|q
   ·subst q;exact ⟨o,ho,hp⟩
   ·obtain ⟨or,Im,hpr⟩:=hI.M1 r q
    have Hp:=(gk.1 q).1
    refine ⟨or,Im,hpr.congr (λt ht=>tC λq2=>(MU r Hp or Im t q2).1 ht) (λd BZ=>tC λq2=>(MU r Hp or Im d q2).2 BZ) (λnm pX=>hσ nm λq2=>((NO nm q2).1 r Hp).1 pX)⟩
  ·rcases (Xl r).1 hr with q|q
   ·subst q;exact D7 p hpr
   ·obtain ⟨e0,hs,hle⟩:=hI.reads r q p hpr
    exact ⟨e0,by rw[hσ p.1 λq2=>((NO p.1 q2).1 r (gk.1 q).1).2 p hpr rfl];exact hs,hle⟩
  ·obtain ⟨h1,h2⟩:=hmF i hi
   rw[tC h1]
   rcases (Xl r).1 hr with q|q
   ·subst q;exact (NO nm pX).2.2.1.1 i
   ·exact hI.oP r q nm pX i h2
  ·rw[F3] at hpp
   rcases (Xl r).1 hr with q|q
   ·subst q;exact (NO nm pX).2.2.1.2 p hpp
   ·exact hI.ds r q nm pX p hpp
  ·obtain ⟨h1,h2⟩:=hmS k hk
   rw[hσ k h1] at he
   rcases (Xl r).1 hr with q|q
   ·subst q;exact (NO nm pX).2.2.2.1 k e he
   ·exact hI.Xk r q nm pX k e h2 he
  ·rcases (Xl r).1 hr with q|q
   ·subst q
    rcases (Xl r').1 EU with q'|q'
    ·subst q';exact aw rfl Dr
    ·have Xm:=(gk.1 q').1
     refine ⟨λd BZ=>by rw[QM r' Xm d BZ];exact (NO nm pX).2.2.1.1 d,λk e hk he=>?_,λp hpp=>((NO nm pX).1 r' Xm).2 p hpp⟩
     rw[hσ k (λq2=>((NO k q2).1 r' Xm).1 hk)] at he
     exact (NO nm pX).2.2.2.1 k e he
   ·have Hp:=(gk.1 q).1
    rcases (Xl r').1 EU with q'|q'
    ·subst q'
     have SK:r∈mi ops bj c:=by simp[mi,Hp,hord]
     obtain ⟨h1,h2,h3⟩:=hc r SK nm pX
     exact ⟨λd BZ=>by rw[Ht BZ];exact h1,λk e hk he=>h3 k e hk he,h2⟩
    ·have Xm:=(gk.1 q').1
     obtain ⟨h1,h2,h3⟩:=hI.D8 r r' q q' nm pX hord Dr
     refine ⟨λd BZ=>by rw[QM r' Xm d BZ];exact h1 d BZ,λk e hk he=>?_,h3⟩
     rw[hσ k (λq2=>((NO k q2).1 r' Xm).1 hk)] at he
     exact h2 k e hk he
 ·have:jd σ' (mS listed (⟨c,o.dst,rd,Ki⟩::bj))=jd σ (mS listed bj):=by
   funext k
   simp only[jd]
   cases q:mS listed (⟨c,o.dst,rd,Ki⟩::bj) k with
   | false=>
    obtain ⟨h1,h2⟩:=hmS k q
    simp[h2,hσ k h1]
   | true=>
    simp only[if_true]
    rcases hmS' k q with h1|h1
    ·split
     ·rfl
     ·exact (NO k h1).2.1.symm
    ·simp[h1]
  rw[this];exact hR
 ·refine ⟨hF.size,λi=>?_,?_⟩
  ·simp only[jm]
   split
   ·exact .any _
   ·rename_i q
    obtain ⟨h1,h2⟩:=hmF i FZ
    have:=hF.oP i
    simp only[jm,h2] at this
    rw[tC h1];exact this
  ·have h0:(jm (fr.pS o.dst v) (mF listed (⟨c,o.dst,rd,Ki⟩::bj))).ds=fr.ds:=F3
   rw[h0];exact hF.ds
def X.congr {op:Op} {fr oM:kG} (h:X P op fr rd v) (he:∀ x,x∈op.operands->oM.val x=fr.val x):X P op oM rd v:=
 λo' PK g ev w hG hx=>h o' PK g ev w hG λx tn=>by rw[<- he x tn];exact hx x tn
def Z0 {x:Operand} (h:∀ t,x=.tmp t->d≠some t):(fr.pS d v).val x=fr.val x:=by
 cases x with
 | tmp t=>exact tC (h t rfl)
 | const v=>rfl
 | global k=>rfl
 | func f=>rfl
def Ec (h:nW ops o fr) (hd:∀ t,t∈o.looksAt ops->d≠some t):nW ops o (fr.pS d v):=by
 rcases h with q|⟨j,want,x,hg,hj,hb⟩
 ·exact .inl q
 exact .inr ⟨j,want,x,hg,hj,by rw[tC (hd x W7)];exact hb⟩
def walk {next:List Rec->kG->fi->Prop} (hI:Inv P E n ops listed (c::L) bj fr σ) (ho:ops[c]?=some o) (hh:fB o=false) (hS:DStep P E n ops Q next bj c o fr σ) (hR:Rel E g (jd σ (mS listed bj)) w) (hF:FR n g (jm fr (mF listed bj)) a) :
  ∃ r qF oM σ',qF=r::bj/\r.i=c/\next qF oM σ'/\Inv P E n ops listed L qF oM σ'/\Rel E g (jd σ' (mS listed qF)) w/\FR n g (jm oM (mF listed qF)) a:=by
 have Aj:=hI.Kh c bm
 simp only[HA,ho,hh,ll,bk,looks] at Aj
 have hdl:∀ t,t∈o.looksAt ops->o.dst≠some t:=λt ht q=>by
  have:=Aj.2;rw[q] at this;simp at this;exact this ht
 have zi:∀ v x,x∈o.op.operands->(fr.pS o.dst v).val x=fr.val x:=λv x hx=>Z0 λt ht=>hdl t (Eb (ht▸hx))
 cases hS with
 | skip hu hd hn=>
  simp only[hh,fm,if_false] at hn
  obtain ⟨j,want,d,b,hg,hj,hb,uv⟩:=hu
  obtain ⟨h1,h2,h3⟩:=advance (v:=Sc undef) (rd:=[]) (Ki:=none) (σ':=σ) hI ho hh hd
   (.skip ⟨j,want,d,b,hg,hj,by rw[tC (hdl d W7)];exact hb,uv⟩ U1 rfl rfl)
   (λ_ _=>rfl) (λk q=>by cases q) MO (λr _ nm _=>⟨rfl,MO,λk e q=>by cases q⟩) hR hF
  exact Ŏ
 | @ev hw _ rd v h hr hd hc hn=>
  obtain ⟨h1,h2,h3⟩:=advance (v:=v) (rd:=rd) (Ki:=none) (σ':=σ) hI ho hh hd (.ev (Ec hw hdl) (h.congr (zi v)) U1 rfl)
   (λ_ _=>rfl) (λk q=>by cases q) hr (λr hr nm pX=>⟨(hc r hr nm pX).1,(hc r hr nm pX).2,λk e q=>by cases q⟩) hR hF
  exact Ŏ
 | @nw hw _ nm e v h hcf xm hs hf hd hc NO D7 hnv hn=>
  obtain ⟨h1,h2,h3⟩:=advance (v:=v) (rd:=[]) (Ki:=some nm) (σ':=σ.set nm e) hI ho hh hd
   (.nw (Ec hw hdl) (λo' PK g ev w hG0 hx=>h o' PK g ev w hG0 λx tn=>by rw[<- zi v x tn];exact hx x tn) U1 rfl rfl (by simp[fi.set]) hf hnv)
   (λk q=>by
    have:k≠nm:=λq2=>q (by rw[q2])
    simp[fi.set,this])
   (λk q=>by
    cases q
    exact ⟨λr hr=>⟨NO r hr,D7 r hr⟩,hs,hcf,xm,λe' Ly=>by simp[fi.set] at Ly;subst Ly;exact hnv⟩)
   MO (λr hr k hk=>⟨(hc r hr k hk).1,MO,λk' e' q Ly=>by cases q;simp[fi.set] at Ly;subst Ly;exact (hc r hr k hk).2⟩) hR hF
  exact Ŏ
 | @fz hw _ v h hd hc hn=>
  obtain ⟨h1,h2,h3⟩:=advance (v:=v) (rd:=[]) (Ki:=none) (σ':=σ) hI ho hh hd
   (.fz (Ec hw hdl) (λo' PK g ev w hx=>h o' PK g ev w λx tn=>by rw[<- zi v x tn];exact hx x tn) U1 rfl rfl)
   (λ_ _=>rfl) (λk q=>by cases q) MO (λr hr nm pX=>⟨hc r hr nm pX,MO,λk e q=>by cases q⟩) hR hF
  exact Ŏ
 | fB _ hh'=>rw[hh] at hh';cases hh'
end
end Go.Abs
