/- PROVED: lemmas for ParserFiles. CONDITIONS: as each lemma states. -/
import Derived.KernelRfl
import Derived.Orders
import Derived.Laws.CopyRow
import Derived.Laws.Tables
import Derived.Laws.Rows
import Derived.Laws.AppendOwn
import Derived.Lib.ItoaMem
import Derived.IntWalk
import Derived.Lib.Strings
import Derived.Laws.Cover1
import Derived.Scope
set_option linter.all false
namespace Go.Abs
variable {n k sz i d off f j b nm kk:Nat} {o:Oper} {ops:Array Oper} {w:World} {t e s xt yt ty:TypeId} {x ix lo hi:Operand} {listed:Array Bool} {a:Act} {ts:Array TypeId} {rest:List Oper} {c v:Value} {nn:Nat->Prop} {cs:Array Value} {want:Bool} {π:Nat->Nat} {args:List Operand}
abbrev ByS:=List UInt8
abbrev eSt:Value:=.string ⟨#[]⟩
section
variable {p:Prop}
def aB (h:p:=by omega):=h
def du (h:p:=by intro h;cases h):=h
def eX (h:p:=by dsimp only;omega):=h
def jg (h:p:=by simpa using h):=h
def dN (h:p:=by decide):=h
def zR (h:p:=by (first|omega|(simp[cD,nP,Bp,maxLen]<;>omega))):=h
def vd (h:p:=by simp[Op.operands]):=h
def B2 (h:p:=by exact bh h):=h
def qI (h:p:=by simp;omega):=h
def Qp (h:p:=by exact λ_=>ai (Fb hm (by simp)) λy _=>hj _ trivial):=h
def qn (h:p:=by exact λ_=>aj trivial):=h
def qO (h:p:=by exact aW h):=h
def kp (h:p:=by exact dX hx):=h
def Af (h:p:=by exact p2 (p2 (p2 h))):=h
def š (h:p:=by exact ⟨hT.h,hB.h,hi.h,hi.n,hi.o,hE _ (p1 hm),(p1 h).trans (by rw[p2 Ml]),(p2 h).trans (by rw[p1 Ml]),.inl (hx.trans (by rw[p1 hys,p2 hys])),⟨p1 (p2 hm),p1 (p2 (p2 hm)),p1 (p2 (p2 (p2 hm)))⟩,hg⟩):=h
def vf (h:p:=by exact ⟨rfl,rfl⟩):=h
def Xm (h:p:=by exact Ax (.inl O) _ (.cons (tX O O O) (.cons (tX O O O) .nil)) (UU hc h.symm) (iz _) trivial):=h
def vG (h:p:=by assumption):=h
def tY (h:p:=by exact dX hy):=h
def Xn (h:p:=by dsimp only;(first|omega|(simp[cD,nP,Bp,maxLen]<;>omega))):=h
def ad7 (h:p:=by exact ⟨λr hr=>⟨λp hp=>(let ⟨e,h1,h2⟩:=hn.1 r hr p hp;⟨e,fK h1,h2⟩),λnm q=>by rw[qo pL r (ij.1 hr).1] at q;cases q⟩,hn.2⟩):=h
def Fw (h:p:=by exact jl hm hC nx):=h
def akM (h:p:=by show ¬ p.bO>=(p.cP.length:Int);omega):=h
def uY (h:p:=by exact aj rfl):=h
def Y8 (h:p:=by exact λr hr k' _=>by rw[qo pL r (ij.1 hr).1];simp):=h
def HM (h:p:=by simpa[om] using h):=h
def Xo (h:p:=by exact λ_=>aj ⟨by simp,λ_ _ _ h=>by simp at h⟩):=h
def Cq (h:p:=by exact dR 0):=h
def Qq (h:p:=by simp[Op.operands,Call.operands]):=h
def akN (h:p:=by exact aF (λh=>by cases h) λ_=>aJ (λh=>by cases h) λ_=>b9 ⟨_,a2,rfl,rfl,Bl.trans nx.pg,nx.lzs hz,he⟩):=h
def Xp (h:p:=by exact λx hx=>by cases hx;simpa[ta] using hd):=h
def amx (h:p:=by exact ey (by first|omega|(dsimp only;omega))):=h
def ag9 (h:p:=by exact ⟨_,_,hw,by simpa[cV.cells] using hl,by simpa[cV.cells] using hc.vrs⟩):=h
def Ţ (h:p:=by exact ⟨_,_,_,_,rfl,rfl,hn,h1,h2,h3⟩):=h
def I7 (h:p:=by exact λr hr=>by cases hr):=h
def Gn (h:p:=by simpa using q):=h
def ţ (h:p:=by simp[Bp];(first|omega|(simp[cD,nP,Bp,maxLen]<;>omega))):=h
def ad9 (h:p:=by exact ⟨us++vs,by rw[h2,fY]⟩):=h
def I8 (h:p:=by exact p2 (p2 (p2 (p2 hm)))):=h
def GL (h:p:=by exact Bu _):=h
def ad_ (h:p:=by exact ⟨by simp only[gp];omega,by simp only[gp];unfold maxLen;omega⟩):=h
def Ty (h:p:=by exact λ_=>M (by simp)):=h
def aea (h:p:=by exact Cr (.inl O) _ (.cons (tX O O O) (.cons (tX O O O) .nil)) h.symm (iz _) trivial):=h
def akO (h:p:=by exact ⟨g',.panic (Sc c0),cA l [(kC,cap)],bW s',(show IA P E fn R (.panic (Sc c0)) (cA l [(kC,cap)]) (bW s') from .inr ⟨kC,cap,c0,rfl,λ_ _ h=>h.iv,hq⟩),.panic (.pv (.sc _)),lq,tt⟩):=h
def aeb (h:p:=by rw[p1 h1,p2 h1];exact iP (λz=>(some (AV.fn kC first cap),some vs,z)) (akP hk hF)):=h
def Fx (h:p:=by exact Qr O O O):=h
def Ť (h:p:=by exact λ_=>ai (Qs hm (by simp)) λy _=>M (by simp)):=h
def ť (h:p:=by exact tc (zX (.cons (tX O O O) (.cons (C5 O) .nil)) h O)):=h
def Ŧ (h:p:=by exact tc (zX (.cons (C5 O) (.cons (tX O O O) .nil)) h O)):=h
def Gp (h:p:=by exact p2 (p2 (hx x))):=h
def Tz (h:p:=by exact ⟨rfl,λh=>by cases h⟩):=h
def aec (h:p:=by exact ih hm (by have:=Qt (aQ hx);omega) (he.s _ (aQ hx))):=h
def aed (h:p:=by simp only[ak.bK];(first|omega|(simp[cD,nP,Bp,maxLen]<;>omega))):=h
def ag_ (h:p:=by exact ⟨λr hr=>⟨λp hp=>(let ⟨e,h1,h2⟩:=Fy r hr p hp;⟨e,fK h1,h2⟩),λnm q=>by rw[qo pL r (ij.1 hr).1] at q;cases q⟩,hn⟩):=h
def akQ (h:p:=by exact ⟨.bool !r,by simp only[execOp,ho,q1.Oa,q2.Oa,cF,run_eqGuard_agg w .neq t x y _ _ hg,bR,run_neq_struct,h,eF],.pv (.sc _)⟩):=h
def akR (h:p:=by exact ⟨.bool r,by simp only[execOp,ho,q1.Oa,q2.Oa,cF,run_eqGuard_agg w .eql t x y _ _ hg,bR,run_eql_struct,h,eF],.pv (.sc _)⟩):=h
def Xq (h:p:=by exact λ_=>hj _ (by simp[ak.aq])):=h
def aha (h:p:=by exact ai (JU hm hC hr) λr hr=>ai (C6 hm hC hr) λr hr=>ai (UW _ _) λ_ _=>aw (λ_=>bC (yS hr) (hn _ hr)) λ_=>hn _ hr):=h
def aee (h:p:=by exact oT hm hC hr):=h
def TA (h:p:=by exact ⟨rfl,rfl,rfl,rfl⟩):=h
def TB (h:p:=by rw[hg.ρ k hk];exact h):=h
def Y9 (h:p:=by simp[ho,Op.operands,Call.operands]):=h
def ahb (h:p:=by exact JV (P:=λc=>okB (strings_IndexByte [40,41,91,93,123,125,124,42,43,63,46,92] c) (λy=>decide (y>=0)==decide (c∈PW))=true) ahc _ cr.1 cr.2):=h
def El (h:p:=by cases q):=h
def Qu (h:p:=by exact vH _):=h
def ŧ (h:p:=by rw[h.yT];exact M1 h.h1 ys):=h
def Ct (h:p:=by exact p1 (p2 h)):=h
def B3 (h:p:=by exact Ob hd):=h
def JW (h:p:=by exact Mm hm):=h
def Za (h:p:=by show 0<=p.bO+1;omega):=h
def ahd (h:p:=by exact tc (Js (n:=Tryz.f291.ntmps) (.inl O) (Cr (.inl O) _ (.cons (tX O O O) (.cons (JX O O) .nil)) h.symm (iz _) trivial))):=h
def aef (h:p:=by exact Ũ (by show -5000<=p.bO+1;omega) (by show p.bO+1<=5000;omega)):=h
def Mn (h:p:=by exact JY hm):=h
def ahe (h:p:=by exact ⟨_,ho,.skip ⟨j,want,g,.bool b,rfl,hj.1,jY hj.2.1,λq=>by have:=hj.2.2;cases q;simp at this⟩ (Ob hc.2) (by rw[hc.1];exact hn)⟩):=h
def Xr (h:p:=by simp[Oper.looksAt,hg,hj]):=h
def Fz (h:p:=by exact GM O O):=h
def Xs (h:p:=by have:=(la ht).1;omega):=h
def Zb (h:p:=by exact λk q=>by subst q;exact uA hm.1 hm.2.1):=h
def aeg (h:p:=by exact aF (λ_=>aJ (λ_=>g) λh=>by cases h) λh=>by cases h):=h
def aeh (h:p:=by exact λ_=>aw (λ_=>aw (λ_=>hB) (λ_=>aH hB)) (λ_=>hB)):=h
def aei (h:p:=by exact λj q=>by subst q;exact hc):=h
def ahf (h:p:=by exact Mo (L:=L) (by rw[hz.1.1,show (ah.mk y.s y.shift y.l y.bO false y.jF y.td).l=y.l from rfl,hy.1];exact hT)):=h
def akS (h:p:=by exact ⟨.int k (if b<a then b else a),by simp[execOp,ho,resolve,invoke,builtin,Builtin.min_,Builtin.min2,q1.iv,q2.iv],.sc g _⟩):=h
def akT (h:p:=by exact ⟨.int k (if b>a then b else a),by simp[execOp,ho,resolve,invoke,builtin,Builtin.max_,Builtin.max2,q1.iv,q2.iv],.sc g _⟩):=h
def ũ (h:p:=by exact λ_=>aj ⟨a',_,rfl,h2,h3,h6,by simp⟩):=h
def akU (h:p:=by exact ⟨.int .i64 l.length,by simp[execOp,ho,resolve,invoke,builtin,Builtin.len_,q.iv,S,run_underlying ht,JZ,goInt],.sc g _⟩):=h
def Xt (h:p:=by rw[hq,UX];exact pN):=h
def TC (h:p:=by exact λh=>by simp at h):=h
def akV (h:p:=by exact ⟨c,by simp[execOp,ho,hq,q2.iv,Instr.index,asIntOf,run_underlying hu,h0,h1,part,AH ha,vU hs,hc1],PX⟩):=h
def aej (h:p:=by exact kt (gq h.2.2.2) (by simp[maxLen])):=h
def ahg (h:p:=by exact ihD _ _ _ (by rw[show (ah.mk y.s y.shift y.l y.bO false y.jF y.td).l=y.l from rfl,hy.1];exact hT)):=h
def akW (h:p:=by exact ⟨_,_,run_append_room (P:=P) w t ty e i ht hi b len cap cs hw a m c news hl UY h1 J1 hfit,.inl ⟨J1,rfl,rfl⟩⟩):=h
def Zc (h:p:=by simpa[fC.set,q] using hk):=h
def HN (h:p:=by exact iJ _):=h
def aek (h:p:=by exact λ_=>ai (Fb hm (by simp)) λy _=>aj trivial):=h
def ahh (h:p:=by exact ⟨g,_,rfl,.vV _ (.any _),hR.below hw⟩):=h
def ael (h:p:=by exact ih hm (by have:=acr hy;have:=Zd hd;omega) (Ek.s _ hy)):=h
def GO (h:p:=by exact λ_=>by simp):=h
def ahi (h:p:=by exact ⟨.int k (k.wrap a),by simp[execOp,ho,q.iv,convert,run_underlying hs,run_underlying ht,Conv.intToInt],.sc g _⟩):=h
def Cu (h:p:=by rw[h];rfl):=h
def ahj (h:p:=by exact ⟨.int .u8 b.toNat,by simp[execOp,ho,q1.iv,q2.iv,S,Instr.index,asIntOf,run_underlying ht,h0,x8],.sc g _⟩):=h
def ahk (h:p:=by exact ⟨.int .i64 0,by simp[execOp,ho,resolve,invoke,builtin,Builtin.len_,q.iv,run_underlying ht,goInt],.sc g _⟩):=h
def Qv (h:p:=by rw[h.yT,tZ h.hL]):=h
def acs (h:p:=by exact ⟨_,ho,.skip ⟨j,want,g,undef,rfl,hj.1,jY hj.2,by simp[undef]⟩ (Ob hc.2) (by rw[hc.1];exact hn)⟩):=h
def UZ (h:p:=by exact λ_=>bC (yS hr) (aj hr)):=h
def ahl (h:p:=by exact ⟨_,a₁,w₁,⟨g',_,pn,σ',q,.panic hv,lq,tt⟩,.pass (x:=.inLoop c) rfl (λ_ _=>.inl (by simp)) TD⟩):=h
def acu (h:p:=by simp only[execOp,ho,hq,q2.iv,eqGuard,binOp];simp[Op.equal,Op.maxDepth,yU ht 9999]):=h
def acv (h:p:=by exact gR (J2 nx ht) (bj (TE hm hC nx ht) (b9 ⟨_,a2,t,rfl,rfl,pg.trans nx.pg,nx.tk,ht,he⟩))):=h
def M2 (h:p:=by exact λr _ hr=>by cases hr):=h
def ahm (h:p:=by exact ⟨_,a₁,w₁,⟨g',_,pn,σ',q,.exit id,lq,tt⟩,.pass (x:=.inLoop c) rfl (λ_ _=>.inl (by simp)) TD⟩):=h
def ahn (h:p:=by exact ⟨_,a₁,w₁,⟨g',_,pn,σ',q,.goto l,lq,tt⟩,.pass (x:=.inLoop c) rfl (λ_ _=>.inl (by simp)) TD⟩):=h
def Qw (h:p:=by exact λ_=>aj ⟨h,by simp⟩):=h
def J3 (h:p:=by exact λq=>by simp at q):=h
def Ze (h:p:=by exact oI hm hC nx Fc):=h
def acw (h:p:=by exact ⟨q,by simpa[fC.del,q] using hj⟩):=h
def U0 (h:p:=by rw[C7 hk.a];exact hk.e):=h
def aho (h:p:=by exact ⟨_,a₁,w₁,⟨g',_,pn,σ',q,.ret,lq,tt⟩,.pass (x:=.inLoop c) rfl (λ_ _=>.inl (by simp)) TD⟩):=h
def ahp (h:p:=by exact ⟨c,by simp only[J4,hq,asAddr,cF,eF,bR,Bv ha hw h3],h2⟩):=h
def IB (h:p:=by exact Ay hm.2.2):=h
def zS (h:p:=by exact TF O):=h
def Zf (h:p:=by exact ⟨λ_=>rfl,λ_=>rfl⟩):=h
def Qx (h:p:=by exact dW λ_=>ll):=h
def Zg (h:p:=by exact λk q=>by have:=hm k q;simpa[AV.jh] using this):=h
def FU (h:p:=by exact λ_=>ahq):=h
def IC (h:p:=by exact p2 (p2 (p2 hk))):=h
def ahr (h:p:=by dsimp only;rw[e2];exact hv):=h
def Zh (h:p:=by exact ai (M3 hm hC hr) λr hr=>hw _ _ hr):=h
def J5 (h:p:=by exact dR _):=h
def J6 (h:p:=by exact iJ N):=h
def U1 (h:p:=by exact uA h.hm.1 h.hm.2.1):=h
def J7 (h:p:=by exact ⟨rfl,by simp⟩):=h
def J8 (h:p:=by exact ⟨rfl,rfl,rfl⟩):=h
def U2 (h:p:=by exact ⟨⟨a',q',rfl,h2,h3,h4⟩,h5⟩):=h
def U3 (h:p:=by simpa[ta] using hz):=h
def M4 (h:p:=by simp[TS];omega):=h
def ahs (h:p:=by exact ⟨c,by simp[execOp,ho,hq,Instr.field,run_underlying hu,hf,part,AH ha,asAgg,h1],h2⟩):=h
def U4 (h:p:=by simpa[fC.set,q] using hj):=h
def acx (h:p:=by exact λj j' hj zT he=>Bw hk.nd (by have:=C8 hj;omega) (by have:=C8 zT;omega) he):=h
def Qy (h:p:=by exact lr HF):=h
def J9 (h:p:=by exact ao h.symm hr):=h
def Ka (h:p:=by exact Mp hm):=h
def Zi (h:p:=by exact λ_=>aj ⟨by simp,λ_ h=>by cases h⟩):=h
def Zj (h:p:=by exact ⟨h,by rw[h2,C9 h3],p1 hm,p1 (p2 hm)⟩):=h
def Qz (h:p:=by have:=hc.len;omega):=h
def U5 (h:p:=by rw[hm];exact ht.h):=h
def Kb (h:p:=by simp[Gh.iS]):=h
def U6 (h:p:=by exact λ_=>aj (.inr (.inr rfl))):=h
def QA (h:p:=by simp[ak.bK]):=h
def M5 (h:p:=by exact fK h.hk):=h
def Kc (h:p:=by exact En hm hC hr):=h
def U7 (h:p:=by have:=(la e).1;omega):=h
def acy (h:p:=by simp only[cV.cells,gp];rw[hc,ik];omega):=h
def U8 (h:p:=by simpa[qp] using h):=h
def QB (h:p:=by rw[e2];exact hz):=h
def aht (h:p:=by exact ⟨g,_,rfl,.mE (.cons (.pv (.sc _)) (.cons (.pv (.sc _)) .nil)),hR.aem hw⟩):=h
def Kd (h:p:=by exact λp=>ahu p):=h
def M6 (h:p:=by exact jl hm hC h):=h
def acz (h:p:=by exact λq w hj next=>by obtain ⟨⟨v,rfl⟩,h1,h2⟩:=hj;exact stop w h1 h2 next):=h
def Zk (h:p:=by show p.bO<p.bO+1+1;omega):=h
def U9 (h:p:=by split<;>omega):=h
def Zl (h:p:=by exact λi hi=>ao hi (Bu i)):=h
def Va (h:p:=by exact hj _ (by rw[xH,Jt,hy])):=h
def acA (h:p:=by exact Ũ (by show -5000<=d*16+e;omega) (by show d*16+e<=5000;omega)):=h
def Vb (h:p:=by exact ⟨v,rfl,hr.1⟩):=h
def Vc (h:p:=by rw[yT,tZ hC]):=h
def Zm (h:p:=by simpa[ByteArray.size] using hl):=h
def M7 (h:p:=by rw[hc];rfl):=h
def Ke (h:p:=by exact Zn O O O O):=h
def M8 (h:p:=by exact fK hk):=h
def QC (h:p:=by exact h _ ‹_› ‹_›):=h
def Vd (h:p:=by exact ⟨λ_=>.inl rfl,rfl⟩):=h
def Zo (h:p:=by exact ⟨hj.1,hj.2,by cases want<;>rfl⟩):=h
def Ve (h:p:=by rw[sZ,h1]):=h
def ahv (h:p:=by exact λv hv=>by subst hv;exact oU (λ_=>Az rfl) λh=>by cases h):=h
def M9 (h:p:=by exact aj (by simp)):=h
def Vf (h:p:=by exact Ag hm):=h
def acB (h:p:=by exact FV b t _):=h
def Zp (h:p:=by exact ⟨g',_,pn,σ',q,.normal,lq,tt⟩):=h
def Zq (h:p:=by exact ⟨rfl,hc,hr⟩):=h
def Vg (h:p:=by exact gq hn):=h
def acC (h:p:=by have:=hT.big;omega):=h
def QD (h:p:=by have:=Bl.le;omega):=h
def Zr (h:p:=by simpa using vg g zs):=h
def Zs (h:p:=by exact HO Da GP O O O O O):=h
def ahw (h:p:=by exact λ_=>dh λ_ _=>hj _ trivial):=h
def acD (h:p:=by exact .mk hxd.l1 hxd.l2 hxd.l3 hxd.l4 hxd.l5 hxd.l6 htt hxd.kd hxd.s hxd.d):=h
def Zt (h:p:=by show (8:Int)≠0;decide):=h
def Kf (h:p:=by exact ao rfl h):=h
def Vh (h:p:=by exact lr hR):=h
def Zu (h:p:=by exact ⟨_,S5,λ_=>(by simp[bW,vh] at hi;exact ⟨_,hi.symm⟩)⟩):=h
def Zv (h:p:=by exact ⟨⟨a2,q2,rfl,h2,h3,GK⟩,he⟩):=h
def Vi (h:p:=by rw[D2];exact h2):=h
def Zw (h:p:=by dsimp only;split<;>omega):=h
def acE (h:p:=by exact ai (Eo hm hw) λr hr=>aj ⟨v,rfl,hr.2.2⟩):=h
def acF (h:p:=by exact ⟨rfl,.one,hq1,ht.1,by have:=ht.2;show p.bO<q.bO+1;omega⟩):=h
def QE (h:p:=by rw[hec];rfl):=h
def Zx (h:p:=by rw[GR hkm];exact hk):=h
def Vj (h:p:=by exact xI g nm _ _):=h
def QF (h:p:=by exact ⟨_,_,_,_,rfl⟩):=h
def ahx (h:p:=by exact ⟨_,_,hn,⟨GS,Gq,λ_ _=>rfl⟩,Fe hdm,rfl⟩):=h
def acG (h:p:=by exact dA (Q:=λ_=>True) (aj trivial) λz _=>x9 _ trivial):=h
def Vk (h:p:=by exact λd hd=>HP hd):=h
def ahy (h:p:=by exact ⟨g',.ret (V x),bW [],.inl ⟨x,rfl,rfl,rfl⟩,.ret GU,lq⟩):=h
def Vl (h:p:=by rw[e1];exact hf):=h
def Vm (h:p:=by rw[e2];exact hx):=h
def acH (h:p:=by exact λj hj=>aR (λ_=>hj _ trivial) (λ_=>hj _ trivial)):=h
def acI (h:p:=by exact ⟨wv,λ_ e=>by cases e⟩):=h
def acJ (h:p:=by exact ⟨lO,by rw[heap_alloc_old w o b (Bx h1)];exact h1,h2⟩):=h
def ahz (h:p:=by exact ⟨.bool (!b),by simp[execOp,ho,q.iv,Op.unary],.sc g _⟩):=h
def Zy (h:p:=by have:=(Ep k4).1;omega):=h
def QG (h:p:=by rw[h1];rfl):=h
def QH (h:p:=by rw[he];rfl):=h
def Zz (h:p:=by simpa[AV.jh] using hm):=h
def ZA (h:p:=by simpa[AV.B4] using hs):=h
def Na (h:p:=by exact ao (hc) (by simp)):=h
def QI (h:p:=by exact λ_=>bD rfl):=h
def ZB (h:p:=by exact λh=>by rw[Xu] at h;cases h):=h
def ahA (h:p:=by exact λhe=>aj ⟨hy.1,hy.2.1,λh=>ao h he,λ_=>rfl⟩):=h
def Vn (h:p:=by rw[p1 (p2 hx)]):=h
def acK (h:p:=by show ¬ p.bO+1>=(p.cP.length:Int);omega):=h
def ahB (h:p:=by exact ⟨c,h1,h2.view (hr (j,.app el sz cells) (by simp)) hz hn⟩):=h
def acL (h:p:=by rw[<- dX (ds:=ds) hx];exact Nc x):=h
def bn (h:p:=by simp):=h
def Er (h:p:=by exact p2 (p2 Af)):=h
def acM (h:p:=by exact ⟨by decide,by decide,λ_=>TA,λ_=>TA,rfl,rfl,.inl ⟨by decide,rfl⟩,λi x y h=>by cases h⟩):=h
def By (h:p:=by exact ⟨a4,q4,rfl,by omega,h7,Oc⟩):=h
def qz (h:p:=by exact p2 (p2 h)):=h
def ZC (h:p:=by exact λe=>aF (λ_=>aJ (λ_=>leaf (K:=8) dN) λe'=>ao (e.symm.trans e') dN) λe'=>ao (e.symm.trans e') dN):=h
def ID (h:p:=by exact λh=>aj (by rw[aL jg])):=h
def IE (h:p:=by exact λh=>ao B2 aB):=h
def Nd (h:p:=by have:=aW h;omega):=h
def Ng (h:p:=by exact oI hm hC nx.self aB):=h
def ahC (h:p:=by exact ⟨(by decide:(0:Int)<=2),(by decide:(2:Int)<=5),λh=>ao rfl h,λh=>ao rfl h,rfl,rfl,.inl ⟨(by decide:(2:Int)<3),rfl⟩,λi x y h=>by cases h⟩):=h
def ahD (h:p:=by exact λ_=>aD sB λz hz=>bD (hy.1.tr hz aB)):=h
def Bz (h:p:=by exact aj trivial):=h
def ahE (h:p:=by exact ⟨_,.inl ⟨by omega,ZD hC hL ht h6 q1 q2 hu hM⟩,.inr ⟨u.pO,ho,rfl,by omega,o.2.2.1,rfl,aen hC hL ht q1 q2 hu hk⟩⟩):=h
def FW (h:p:=by exact Od hm dN):=h
def Nh (h:p:=by exact ⟨dR 0,aB,rfl⟩):=h
def ahF (h:p:=by exact ⟨(by decide:(0:Int)<=5),(by decide:(5:Int)<=5),λ_=>TA,λ_=>TA,rfl,rfl,.inr (.inr vf),(TG.one h).h⟩):=h
def Kg (h:p:=by exact λh=>ao B2 akM):=h
def FX (h:p:=by exact C6 hm hC h):=h
def Kh (h:p:=by exact aH (hn _ aB aB)):=h
def GV (h:p:=by exact λ_=>by omega):=h
def IF (h:p:=by exact ⟨rfl,eX,eX⟩):=h
def QJ (h:p:=by exact λ_ q=>by cases q):=h
def acN (h:p:=by exact ⟨λh=>by omega,λ_=>.inl rfl⟩):=h
def ZE (h:p:=by have:=bh h;omega):=h
def acO (h:p:=by exact λ_=>mI (ih.alt hm aB aB hq1 aB) λe a2 q2 h4 h5 GK he=>hj _ ⟨⟨a2,q2,rfl,aB,h5,GK⟩,he⟩):=h
def Ni (h:p:=by exact λh=>ao B2 qI):=h
def IG (h:p:=by exact GW aB):=h
def acP (h:p:=by exact bC (a:=RF s T b a4 true (t4.cN+b)) rfl (hj _ _ ⟨_,l,rfl,n4.fs,rfl,by omega,hs⟩ _)):=h
def ZF (h:p:=by exact λ_=>tv hm hC aB h7 aB):=h
def QK (h:p:=by exact λh=>ao h dN):=h
def Nj (h:p:=by exact λp q=>by cases q):=h
def acQ (h:p:=by exact hj _ ⟨⟨a5,q,rfl,by omega,by omega,hq⟩,hw.l2,hw.l3,hw.l4,hw.l5,hw.l6,hw.l7,hw.d⟩):=h
def al8 (h:p:=by exact Ah (λv=>v=true) ahv λj hj=>oU (λ_=>hj _ rfl) λh=>by cases h):=h
def DM (h:p:=by exact UW _ _):=h
def Vo (h:p:=by exact Ai hC (w:=v) ahr eX):=h
def ahG (h:p:=by exact ⟨a,t,h0,by omega,ht,λq r=>hk ⟨q,r⟩,λ_=>rfl,λ_ _ _ _=>by omega⟩):=h
def acR (h:p:=by exact ⟨h0,dR _,ht,λh=>(by cases h),λ_=>rfl,λ_ _ _ _=>by omega⟩):=h
def QL (h:p:=by rw[aE jg]):=h
def acS (h:p:=by exact gT _ aB):=h
def ZG (h:p:=by exact ⟨g',_,pn,σ',q,.panic hv,lq,tt⟩):=h
def acT (h:p:=by exact ⟨r',h2,N+M,λi hi=>by dsimp only;rw[hN i aB];exact hM i aB⟩):=h
def ahH (h:p:=by exact ⟨by rw[show (a+1).toNat=a.toNat+1 by omega,e,hp],by omega⟩):=h
def ZH (h:p:=by rw[dX hy];exact hc):=h
def ZI (h:p:=by exact λh=>iA (by rw[aL jg])):=h
def ZJ (h:p:=by exact ⟨g',_,pn,σ',q,.ret,lq,tt⟩):=h
def Vp (h:p:=by exact λ_=>aw Ty Ty):=h
def acU (h:p:=by exact λ_=>bY λ_=>hn _ (hv.tr (j:=0) (k:=1) ⟨rfl,eX⟩ aB)):=h
def acV (h:p:=by exact cZ (λ_=>tv hm hC aB h3 aB) (λ_=>hj3 _ rfl)):=h
def ZK (h:p:=by exact λ_=>tv hm hC aB h9 aB):=h
def Vq (h:p:=by exact ⟨a5,q5,rfl,by omega,xd,hq5⟩):=h
def acW (h:p:=by exact uA hm.1 hm.2.1):=h
def Vr (h:p:=by exact λ_=>aj rfl):=h
def ZL (h:p:=by exact ⟨a3+1,q1,rfl,aB,aB,hq1⟩):=h
def xq (h:p:=by simpa using h2):=h
def BA (h:p:=by simpa using hj):=h
def DN (h:p:=by simpa using he):=h
def Es (h:p:=by simpa using hx):=h
def BB (h:p:=by exact Fb hm bn):=h
def FY (h:p:=by simpa using h1):=h
def FZ (h:p:=by simpa using hi):=h
def BC (h:p:=by exact p2 Er):=h
def Vs (h:p:=by simp[Op.operands];exact ⟨_,hp⟩):=h
def acX (h:p:=by exact ⟨ev x,by simp[execOp,ho],hx x vd⟩):=h
def acY (h:p:=by exact hn _ _ ⟨rfl,hX.snoc hX2,bn,qI,GK,hg2.1.trans hg.1,by have:=hg.2;show p.bO<q2.bO;omega⟩):=h
def Nk (h:p:=by simpa using h3):=h
def Nl (h:p:=by simpa using h5):=h
def Vt (h:p:=by exact λ_=>aH (hn _ aB aB)):=h
def acZ (h:p:=by exact λh=>aj ⟨λq=>⟨h,Gn⟩,λq=>by simp at q;exact λw=>q w.2⟩):=h
def ac0 (h:p:=by exact ⟨aB,dR _,hu,λ_=>by omega,λ_=>rfl,λ_ _ _ _=>by omega⟩):=h
def QM (h:p:=by simpa using h7):=h
def Cv (h:p:=by exact p2 Af):=h
def Nn (h:p:=by exact C6 hm hC hr):=h
def Ki (h:p:=by exact ao h dN):=h
def ac1 (h:p:=by exact rP.1 (by simpa using (by omega:x.toNat=95))):=h
def ac2 (h:p:=by exact ⟨⟨a9,q9,rfl,by omega,h21,hq9⟩,.new bn bn bn bn bn Es bn⟩):=h
def Kj (h:p:=by exact p2 (p2 BC)):=h
def Vu (h:p:=by simpa using zT):=h
def Ū (h:p:=by
 (repeat' (with_reducible first|refine aH ?_|refine W (λ_ _=>?_)|apply aY|apply aG|refine dK (λ_=>?_) (λ_=>?_)|(apply cT;try dsimp only)))
 all_goals exact hj _ trivial):=h
def yC1 (h:p:=by
 obtain ⟨v,rfl,hc⟩:=Of hrO (Ju hc hp);obtain ⟨Kk,GX,_⟩:=B5 hrO hc;repeat (first|refine Jv ?_|refine GY ?_)
 refine Db (n:=Tryz.f9.ntmps) [102,103] call23 (FA v) Kk O ⟨O,O,O,O⟩ (λ_=>O2) (λx hx=>?_);exact Ax (.inl O) _ (.cons (tX O O O) (.cons (tX O O O) .nil)) (GX x hx).symm (iz _) trivial):=h
def yC2 (h:p:=by
 exact {
  sv:=λi e h=>by
   by_cases q:i=j
   ·subst q;have:e=.box (cs.set off (.arr nm 0)):=by simpa[bW,vh] using h.symm
    subst this;cases hR.sv i _ S5 with
    | box h1 h2 h3 h4=>exact .box h1 h2 (h3.set hc λc hc=>by rw[hc.iv];exact .Bm (by simp[Gh.unbind])) h4
   exact hR.sv i e ((he i e h).2 q)
  inj:=λi i' b h h'=>hR.inj i i' b (hs i h) (hs i' h')
  gl:=hR.gl
  apart:=λi b e h Cw hb=>by
   by_cases q:i=j
   ·subst q;exact hR.apart i b _ S5 rfl hb
   exact hR.apart i b e ((he i e h).2 q) Cw hb
  size:=hR.size,yV:=hR.yV,own:=λi b h=>hR.own i b (hs i h),fix:=hR.fix,qq:=hR.qq,g0:=hR.g0,gn:=hR.gn,os:=hR.os,out:=hR.out,tape:=hR.tape
  x:=hR.x.F0 rfl rfl (λi b hi hb=>⟨i,hs i hi,hb,.inl rfl⟩) (λi b e' _ hi=>by
   by_cases q:i=j
   ·subst q;exact Zu
   exact ⟨e',(he i _ hi).2 q,id⟩) }):=h
def yC3 (h:p:=by
 obtain ⟨v,rfl,hc⟩:=Of hrO (Ju hc hp);obtain ⟨Kk,GX,_⟩:=B5 hrO hc;repeat (first|refine Jv ?_|refine GY ?_)
 refine Db (n:=Tryz.f144.ntmps) [104,102,103,112] call189 (FB v) Kk O ⟨O,O,O,O⟩ (λ_=>O2) (λx hx=>?_);exact Ax (.inl O) _ (.cons (tX O O O) (.cons (tX O O O) .nil)) (GX x hx).symm (iz _) trivial):=h
def yC4 (h:p:=by
 (repeat' (with_reducible first|refine aH ?_|refine W (λ_ _=>?_)|apply aY|apply aG|refine dK (λ_=>?_) (λ_=>?_)|(apply cT;try dsimp only)))
 all_goals exact Bz):=h
def yC6 (h:p:=by
 refine bE λ_ IH=>bB (zm O (fg (Og O) O (zQ IH (GZ O (λhc=>?_) (λhc=>?_)))))
 ·exact Na
 exact mR (QN h)):=h
def yC7 (h:p:=by
 refine bE λ_ IH=>bB (zm O (fg (HQ O O) O (zQ IH (GZ O (λhc=>?_) (λhc=>?_)))))
 ·refine bB (fg Fz O ?_);refine zm O (aeo hr h [] call14 (I9 (si.mk v)) ⟨O,O,O,O,O,O,trivial⟩ O (λ_=>O3) (λ_=>O2) (HR (si.mk v)) (λy2 h=>?_));refine zs O (zs O (lX (Dc 0 O O) ?_));exact tH (HS (.inr O) _ h.symm ⟨O,O,trivial⟩)
 exact Na):=h
def yC8 (h:p:=by
 intro k k' b hk F1 hb x8;by_cases q:k=nm
 ·by_cases q':k'=nm
  ·rw[q,q']
  subst q;rw[PY] at hb;cases hb;rw[hρ k' q'] at x8;exact ao (h.lt (uB k' F1 q') x8) (vy _)
 by_cases q':k'=nm
 ·subst q';rw[PY] at x8;cases x8;rw[hρ k q] at hb;exact ao (h.lt (uB k hk q) hb) (vy _)
 rw[hρ k q] at hb;rw[hρ k' q'] at x8;exact h.inj k k' b (uB k hk q) (uB k' F1 q') hb x8):=h
def yC9 (h:p:=by
 rcases fN i ops.size with q|q
 ·exact q
 rw[hU q] at ho;cases ho):=h
def ahJ (h:p:=by
 rw[e7];rcases fN i args.length with q|q
 ·obtain ⟨c,h1,h2⟩:=hv.get i args[i] bn;have:(vs.toArray++Array.replicate (fn.ntmps - vs.toArray.size) undef)[i]?=some c:=by
   rw[pP qI];simpa using h1
  rw[this];simp[q];exact h2
 have e:args[i]?=none:=gv q;simp only[e,AI];exact .any _):=h
def ahK (h:p:=by
 obtain ⟨_,h2⟩:=pQ xJ;have h3:∀ (es:List cV) (k:Nat),fu es k=true->es[k]?≠some (.box cs):=by
  intro es
  induction es with
  | nil=>intro k _;simp
  | cons e es ih=>
   intro k hk
   cases k with
   | zero=>intro q;simp at q;subst q;simp[fu] at hk
   | succ k=>simpa using ih k (by cases e<;>simpa[fu] using hk)
 exact h3 es k hk xq):=h
def ahL (h:p:=by
 simp only[ZM,Aj];refine cm (tL j aB hm h0 h1 .no) ?_ ?_
 ·rintro _ _ ⟨x,a1,rfl,rfl,Bl,hz,he⟩;obtain ⟨a2,t,nx⟩:=qA hC true (a:=a1) QD Bl.lt;refine LK.closing hm hC nx (λht=>hk x a2 t (Bl.trans nx.pg) nx.tk ht he) λv r hr=>hw v _ hr he
 rintro _ y ⟨v,rfl,f1,f2⟩;exact ai (xK hm hC f1) λr hr=>hw v _ hr f2):=h
def ahM (h:p:=by
 refine bN hm (λ(x:eT×Int)=>0<=x.2/\x.2<=4) (λx=>(4 - x.2).toNat) bn ?_;intro x hx next hn
 (repeat' (with_reducible first|refine aH ?_|refine W (λ_ _=>?_)|apply aY|apply aG|refine dK (λ_=>?_) (λ_=>?_)|(apply cT;try dsimp only)))
 ·exact hn _ eX eX
 exact Bz):=h
def ahN (h:p:=by
 obtain ⟨v,rfl,hc⟩:=Of hrO (Ju hc hp);obtain ⟨Kk,GX,_⟩:=B5 hrO hc;repeat (first|refine Jv ?_|refine GY ?_)
 refine Db (n:=Tryz.f6.ntmps) [102,103] call13 (FC v) Kk O ⟨O,O,O,O⟩ (λ_=>O2) (λx hx=>?_);exact Ax (.inl O) _ (.cons (tX O O O) (.cons (tX O O O) .nil)) (GX x hx).symm (iz _) trivial):=h
def ū (h:p:=by
 exact hn _ zR zR):=h
def ahO (h:p:=by
 refine ai (C6 hm hC hw.1) λr hr=>ai DM λ_ _=>aw (λ_=>aw (λ_=>bC (yS hr) (aj ⟨hr,hw.2⟩)) λ_=>aj ⟨hr,hw.2⟩) λ_=>?_;exact ai Nn λr hr=>ai (Kl hm hr hw.2) λz hz=>px hm λ_=>bC (yW hz.1) (aG (aj ⟨hz.1,.one (k:=17) dN hz.2⟩))):=h
def ahP (h:p:=by
 have hlen:=hps.length;refine ⟨.slice (some ⟨w.heap.size,0,none⟩) n n,lO,e,cells,?_,by simp at hlen;omega,?_,.pv (.sl w.heap.size cells 0 n n cells Kb bn bn HN)⟩
 ·simp only[execOp,ho,cF,pN,bR,eF]
 rw[dM (by simp at hlen;simp;omega)];exact hps):=h
def ahQ (h:p:=by
 have zT:j<es.length:=by simp at hj;omega
 rcases Oh hk.bx hk.fx BA (az zT) with ⟨cs,xJ⟩|⟨q1,q2,q3,q4⟩
 ·exact .inl ⟨cs,by have:=AJ (i:=0) (az zT);rw[xJ] at this;simpa using this⟩
 exact .inr ⟨uA q1 q2,λk e hkl he=>Dd q3 k e (Vv hkl) he,q4⟩):=h
def ahR (h:p:=by
 have h2:=hF.le (tf g nm) Zb;refine ⟨g.unbind nm,h1,h2.size,λi=>?_,h2.ds⟩;by_cases q:i=d
 ·subst q;have h3:=h2.pA i;simp only[cA,jY hd] at h3;simp only[cA,tI,if_true];rw[h3.iv];exact .Bm (by simp[Gh.unbind])
 simpa[cA,tI,q] using h2.pA i):=h
def ahS (h:p:=by
 have h1:(List.range ks.length).contains j=decide (j<ks.length):=by
  by_cases q:j<ks.length<;>simp[q]
 rw[h1];simp only[below];by_cases q:j<ks.length
 ·simp[q,BD.2 q]
 have:Nat.blt j ks.length=false:=by
  cases h:Nat.blt j ks.length with
  | false=>rfl
  | true=>exact ao (BD.1 h) q
 simp[q,this]):=h
def aep (h:p:=by
 have:(List.range ks.length).any (λj=>nth ks j==k)=false:=by
  rw[sw];intro j hj;have:=ls.1 hf j hj;simpa using this
 simp[this]):=h
def ahT (h:p:=by
 unfold Fl;dsimp only;rw[show (v+1).toNat=v.toNat+1 by omega,Mq];have ea:sY Z (v.toNat+1)=(sY Z v.toNat&&Z v.toNat):=rfl;rw[ea];congr 1
 ·cases c.uO<;>cases ow<;>cases sY Z v.toNat<;>cases Z v.toNat<;>rfl
 rw[yX,<- xL];congr 1;refine decide_eq_decide.2 ?_;split<;>omega):=h
def ZN (h:p:=by
 obtain ⟨_,h2⟩:=pQ hj;exact Km j _ (by rw[G1,show j=j - 0 by omega,h2];rfl)):=h
def akZ (h:p:=by
 intro v' w' pN ⟨g',lq,tt,GU⟩;have hrun':(execOp a.eval o).run P w=.ok (.value v') w':=by
  simp only[execOp,ho,resolve,invoke,builtin,cF,eF,bR,vI,kv,ua,pN]
 simp only[Oper.wp,hrun',Oper.upon];exact hK g' _ _ _ _ hn lq (tt.put hd GU)):=h
def ahU (h:p:=by
 obtain ⟨cs,h4,h5⟩:=h1.run lq tt;refine ⟨if hh:cs.toArray.size=1 then cs.toArray[0] else .tuple cs.toArray,?_,g',.ret v,σ2,h3,.ret (h2 g' _ h5.yY),lq.sub hs⟩;rw[Kn,<- Array.toArray_toList (xs:=fn.results)];simp only[List.mapM_toArray,cF,Sem.run_map,h4,bR,eF]):=h
def ak0 (h:p:=by
 subst hm;have G2:l=[]:=fh (by simpa using PZ);refine Cx rfl G2 ?_;rw[hq,UX];have hn0:news=[]:=fh (by rw[<- HT.length,G2];rfl);simp[Builtin.append_,run_underlying ht,sizeOf,typeInfo,hi,Builtin.lenOf,Builtin.firstCells,loadCells,loadCellsFrom]):=h
def ahV (h:p:=by
 dsimp only;refine ai (ih.block hm aB aB hq9 aB) λr hr=>?_;obtain ⟨l,tl,p⟩:=r;obtain ⟨⟨a3,q3,hp,h4,h5,D3⟩,he1,S6,he3,he4⟩:=hr;dsimp only at hp he1 S6 he3 he4;subst hp;exact hj _ ⟨⟨a3,q3,rfl,by omega,h5,D3⟩,.new bn he1 he3 he4 bn Es S6⟩):=h
def ahW (h:p:=by
 (repeat' (with_reducible first|refine aH ?_|refine W (λ_ _=>?_)|apply aY|apply aG|refine dK (λ_=>?_) (λ_=>?_)|(apply cT;try dsimp only)))
 exact hn _ ⟨eX,eX,hv.1,hv.2,qI,qI,h7⟩ eX):=h
def ahX (h:p:=by
 by_cases q:i=j
 ·subst q;exact hR.apart i b _ S5 rfl hb
 exact hR.apart i b e ((he i e h).2 q) Cw hb):=h
def ahY (h:p:=by
 (repeat' (with_reducible first|refine aH ?_|refine W (λ_ _=>?_)|apply aY|apply aG|refine dK (λ_=>?_) (λ_=>?_)|(apply cT;try dsimp only)))
 exact hn _ qI zR):=h
def ahZ (h:p:=by
 rw[ho];refine aF (λ_=>aJ (λ_=>bj (oI hm hC nu (by have:=(la ho).1;omega)) (hj _ _ ⟨_,a+1+1,rfl,rfl,pr.trans (nu.read hC (by have:=(la ho).1;omega) (Cy ho dN)),rfl,rfl,rfl,rfl⟩)) du) du):=h
def Ŭ (h:p:=by
 rcases fN r.i ops.size with q|q
 ·exact q
 rw[hU q] at II;cases II):=h
def ah0 (h:p:=by
 have h2:=hC.sorted aB ht hu;have h3:=hC.tok ht;have h4:=hC.tok hu;have:=hC.bs;have:=hC.b0;refine aH ?_;have:=Ff (c:=s) (i:=t.pO) (j:=u.cN) aB aB aB;exact ai (Et aB) λ_ _=>aj rfl):=h
def ah1 (h:p:=by
 have hc3:cs.toList[off]?=some c:=by
  rw[hY] at hc1;split at hc1
  ·exact hc1
  cases hc1
 refine ⟨c,?_,PX⟩;simp only[execOp,ho,hq,Instr.loadAt,Instr.sureAddr,cF,eF,bR,Bv ha hw hc3]):=h
def ah2 (h:p:=by
 unfold IJ;rw[aL h];refine dB (h0 n) λy hy=>?_;subst hy;refine cQ (λh=>dB (h1 n) λz hz=>?_) λh=>gN Cu;subst hz;exact cQ (λh2=>gN (by rw[h,h2];rfl)) λh2=>gN (by rw[h,h2];rfl)):=h
def ah3 (h:p:=by
 (repeat' (with_reducible first|refine aH ?_|refine W (λ_ _=>?_)|apply aY|apply aG|refine dK (λ_=>?_) (λ_=>?_)|(apply cT;try dsimp only)))
 all_goals first|exact aj trivial|exact hj _ trivial):=h
def ŭ (h:p:=by
 split at h
 ·cases h;omega
 split at h
 ·cases h;omega
 split at h
 ·cases h;omega
 cases h):=h
def ah4 (h:p:=by
 (repeat' (with_reducible first|refine aH ?_|refine W (λ_ _=>?_)|apply aY|apply aG|refine dK (λ_=>?_) (λ_=>?_)|(apply cT;try dsimp only)))
 ·exact hj _ λ_=>by omega
 exact hj _ bn):=h
def ah5 (h:p:=by
 (repeat' (with_reducible first|refine aH ?_|refine W (λ_ _=>?_)|apply aY|apply aG|refine dK (λ_=>?_) (λ_=>?_)|(apply cT;try dsimp only)))
 all_goals exact hj _ aB):=h
def ah6 (h:p:=by
 (repeat' (with_reducible first|refine aH ?_|refine W (λ_ _=>?_)|apply aY|apply aG|refine dK (λ_=>?_) (λ_=>?_)|(apply cT;try dsimp only)))
 all_goals exact x9 _ trivial):=h
def ah7 (h:p:=by
 have hj:=fo hf;simp at hj;simp only[G1];have:j<(C x).length:=by omega
 rw[az this];have h6:=AJ (i:=0) (az this);simp at h6;rw[h6]):=h
def Ů (h:p:=by
 rw[aL jg,kn h dN,pR];exact I dN):=h
def ah8 (h:p:=by
 intro j e he;unfold fC.del at he;split at he
 ·cases he
 rename_i q;refine Dd h.hm.2.2 j e ?_ he;cases hb:Nat.beq j k with
 | true=>exact ao (lg hb) q
 | false=>simp[hb]):=h
def ah9 (h:p:=by
 unfold eN vi eS;refine b8 (λe=>by omega) λ_=>aH (ai (ih hm aB aB aB) λr hr=>px hm λ_=>bC (yW hr.1) (aG (aj hr)))):=h
def ah_ (h:p:=by
 exact aw (λ_=>ai (Xv hm) λy _=>ai BB λy _=>hj _ trivial) (λ_=>ai Vw λy _=>ai BB λy _=>hj _ trivial)):=h
def ů (h:p:=by
 dsimp only;exact aH (aj ⟨⟨a3+1,q3,rfl,by omega,by omega,D3⟩,he⟩)):=h
def aia (h:p:=by
 rcases q with q|⟨kC,cap,Ek,pN⟩
 ·have hd:=tt.ds;rw[q.1] at hd;simp only[bodyPostD,hd.Fg];exact fin _ _ _ _ _ lq tt q
 exact runs kC cap none .returning Ek pN rfl bn):=h
def Ű (h:p:=by
 exact dA (Mr aB hx4) λw hw=>aj ⟨HF,ve,hw⟩):=h
def aeq (h:p:=by
 intro k b hk;have q:k≠nm:=λq=>by subst q;rw[hf] at hk;cases hk
 rw[hρ k q];exact h.fix k b hk):=h
def aib (h:p:=by
 refine bX (F:=λi=>dj i c [125] (ah.mk r.s r.shift r.l r.bO false r.jF r.td)) hm λm hm=>?_;exact Eo (l:=[]) hm hr.sk):=h
def ű (h:p:=by
 exact cz (λ_=>ll) λh=>ao qO bn):=h
def Ų (h:p:=by
 rintro _ y ⟨v,rfl,f1,f2⟩;exact aj ⟨v,rfl,f1⟩):=h
def aic (h:p:=by
 by_cases q:i=j
 ·subst q;simp
 have:Nat.beq i j=false:=by
  cases h:Nat.beq i j with
  | false=>rfl
  | true=>exact ao (lg h) q
 simp[this,q,ih]):=h
def ak1 (h:p:=by
 rw[Ak iy] at hk ⊢;simp only[mw,decide_eq_true_eq] at hk;rcases hk with q|q
 ·subst q;rw[ho] at GX;cases GX;simp[hr e he hb]
 simp[hI.down k ok GX q e he hb]):=h
def aid (h:p:=by
 simp only[cV.Xw,gp];rw[hc,<- hn',show 0+ii.toNat*1=ii.toNat by omega];rcases ų f (xs:=xs) (i:=ii.toNat) (v:=v) with q|q
 ·rw[q];rfl
 omega):=h
def aie (h:p:=by
 obtain ⟨M,hM⟩:=hm 1;refine ⟨r,h1,N+M,λi hi=>?_⟩;have h2:=hM i aB;rw[<- hN i aB];obtain ⟨q,hq⟩:∃ q,m i=q+1:=⟨m i - 1,aB⟩;simp only[hq];rfl):=h
def aif (h:p:=by
 by_cases q:i=j
 ·subst q;exact ⟨by rw[S5];rfl,λq=>ao rfl q⟩
 have:bW s i=some e:=by simpa[bW,vh,q] using h
 exact ⟨by rw[this];rfl,λ_=>this⟩):=h
def Ŵ (h:p:=by
 rw[aL jg];exact O (by decide +kernel) dN):=h
def ak2 (h:p:=by
 have:(cs.toList.take (len*i.size)++news).length=(cells++l).length:=by rw[Ko,eb,Ja,kD];simp;omega
 rw[<- this];exact uC):=h
def ak3 (h:p:=by
 rintro p w ⟨v,rfl,h1,h2⟩ F;exact bC (yW h1) (aG (aj ⟨v,rfl,h1,h2⟩))):=h
def ak4 (h:p:=by
 rw[yX,<- xL];congr 1;refine decide_eq_decide.2 ?_;split<;>omega):=h
def aih (h:p:=by
 rcases (hR.sv k _ xM).BE with ⟨_,this⟩|⟨b',cs,el',h,_⟩
 ·rw[yT] at this;exact ZO hC Jw (by simpa using this)
 rw[h] at hb;cases hb):=h
def aii (h:p:=by
 have ve:=hx;rw[an] at ve;obtain ⟨q1,q2⟩:=ve;rw[bZ q1,q2,show (v+1).toNat=v.toNat+1 by omega]):=h
def aij (h:p:=by
 obtain ⟨hd,vs,v,σ2,h1,h2,hs,h3⟩:=q;obtain ⟨c,h4,h5⟩:=fin vs v σ2 h1 h2 hs h3;have:=tt.ds;rw[hd] at this;exact ⟨this.Fg,c,h4,h5⟩):=h
def aik (h:p:=by
 simp only[C4,e7];rcases fN i ops.size with q|q
 ·simp[q]
 rw[hU Gn];rfl):=h
def ak5 (h:p:=by
 have:=AK hI.down _ _ _ o ho hr q;rw[(gO.1 h1).2] at this;cases this):=h
def ail (h:p:=by
 rcases h.hx with q|⟨q1,q2⟩
 ·rw[dX q];exact .sl _ _ Qv
 rw[dX q2];subst q1;rw[h.yT];exact .nil):=h
def aim (h:p:=by
 unfold Oj ZP;rw[aE qO,beq_eq_false_iff_ne.2 (show (e.fi.length:Int)+(e.J.length:Int)≠0 by omega)];simp):=h
def ain (h:p:=by
 rcases bH.1 hz with w|w
 ·exact i4 z w
 simp at w;subst w;exact .mk hd.l1 hd.l2 hd.l3 hd.l4 aB i2 hd.l7 hd.kd hd.s hd.d):=h
def aer (h:p:=by
 rw[aE (λq=>by rcases q with q|q<;>simp[q] at h5 h6)];simp;omega):=h
def aio (h:p:=by
 intro k b hk hb;by_cases q:k=nm
 ·subst q;rw[PY] at hb;cases hb;exact .inr h.size
 rw[hρ k q] at hb;exact h.own k b (uB k hk q) hb):=h
def aip (h:p:=by
 refine ⟨_,_,hn,⟨GS,Gq,λj hj=>?_⟩,Fe hdm,by rw[HU,No pL]⟩;simp at hj;simp[fC.set,fC.del,hj]):=h
def aiq (h:p:=by
 refine (bw λq=>?_).symm;rcases q with q|q|q
 ·rw[q] at h1;cases h1
 ·rw[q] at h2;cases h2
 rw[q] at h3;cases h3):=h
def air (h:p:=by
 obtain ⟨hd,σ2,TH,ve⟩:=q;have:=tt.ds;rw[hd] at this;exact ⟨this.Fg,u',rfl,_,res,⟨_,rfl⟩,hu',g',σ2,ve,lq.sub TH⟩):=h
def ŵ (h:p:=by
 exact ⟨λh=>by dsimp only at h ⊢;omega,λ_=>rfl⟩):=h
def ak6 (h:p:=by
 rintro _ y ⟨v,rfl,h1,h2⟩;exact px hm λ_=>fin _ _ ⟨v,rfl,h1,h2⟩):=h
def ais (h:p:=by
 rcases bH.1 hp with q|q
 ·exact h7 p q
 simp at q;subst q;exact ⟨aB,aB,λq=>by rw[c1] at q;cases q⟩):=h
def ait (h:p:=by
 obtain ⟨_,h4⟩:=pQ hj;have h5:=(an.1 h4).1;exact ⟨qI,by rw[Vx];exact G3 h2 h4⟩):=h
def aiu (h:p:=by
 exact ai (vW hm aB h iy) λz hz=>dA (G4 hm) λw hw=>aj ⟨hz.1,hz.2,hw⟩):=h
def aiv (h:p:=by
 dsimp only;exact AL hm hC aB aB aB λa4 t h6 h7 _ _ _=>aj ⟨⟨a4,q3,rfl,by omega,h7,D3⟩,he⟩):=h
def aes (h:p:=by
 have:=oB x (GX x hg);rw[<- (hV x).1,<- (hV x).2] at this;exact this):=h
def aiw (h:p:=by
 have:left ops listed=0:=by omega
 unfold left at this;rw[List.countP_eq_zero] at this;simpa using this i FZ):=h
def aix (h:p:=by
 refine hI hk λa5 x Kp L9=>?_;dsimp only;exact aH (hn _ ⟨a5,rfl,aB,L9,qI⟩ eX)):=h
def aiy (h:p:=by
 obtain ⟨_,or',hor',hhv,_⟩:=hI.rj r hr;rw[II] at hor';cases hor';exact (xN II ho (IK r hr)).1 hhv d Cz):=h
def aiz (h:p:=by
 have:IntKind.wrap .u64 x=x % 18446744073709551616:=by simp[IntKind.wrap,IntKind.bits,IntKind.signed]
 rw[this];omega):=h
def aiA (h:p:=by
 simp only[P0,bm] at h;exact Oh (ks:=ks) (es:=es) h.2 hf.2 BA DN):=h
def ak7 (h:p:=by
 rintro y _ rfl;exact dG rfl (λ_=>b9 Tz) λ_=>b9 ⟨rfl,λ_=>⟨hes,K,hdx⟩⟩):=h
def ac3 (h:p:=by
 rintro e w' ⟨N,rfl,_,_,hw⟩;exact ⟨g,_,rfl,.mE (.cons (.pv (.sc _)) (.cons (.vV _ (.any _)) .nil)),hR.below hw⟩):=h
def ac4 (h:p:=by
 rintro _ ⟨t',r⟩ ⟨⟨v,rfl⟩,hff⟩;exact dy (ZQ (by show l'.length<=70000;omega)) (hf _ _ ⟨⟨v,rfl⟩,hff,bn⟩)):=h
def ac5 (h:p:=by
 by_cases q:i=c
 ·subst q;exact jm.1 hca j hj
 exact hI.Kq i j hi (by simp[q,HG]) (by simp[hj])):=h
def Vy (h:p:=by
 rcases h with rfl|rfl
 ·exact .inl rfl
 exact h'):=h
def ac6 (h:p:=by
 obtain ⟨⟨a3,q3,hp,h4,h5,D3⟩,he⟩:=hr;dsimp only at hp he;subst hp;exact aj ⟨⟨a3,q3,rfl,h4,h5,D3⟩,he⟩):=h
def ZR (h:p:=by
 simp[hv,hr] at h;subst h;simp[ih r hr,dX (ds:=ds) hv]):=h
def aiB (h:p:=by
 have:len*i.size<=g.cp k*i.size:=by rw[<- hlen,<- hcz];exact hcle
 exact mT this Ma):=h
def ac7 (h:p:=by
 refine lX (Jx (j:=0) (off:=0) 3 (sz:=1) (el:=5) (hE _ O) O O O3 O) ?_;exact tH (zY .nil h O)):=h
def ac8 (h:p:=by
 rw[yX,<- xL];congr 1;refine decide_eq_decide.2 ?_;rw[mk.2];have:=mk.1;split<;>omega):=h
def ac9 (h:p:=by
 rw[show (v+1).toNat=v.toNat+1 by omega];show (sY Z v.toNat&&Z v.toNat)=true;rw[v2,<- hy,h];rfl):=h
def ac_ (h:p:=by
 have e:((om b t).aq==3)=false:=h3;dsimp only [aI.br];rw[e];exact b9 ⟨rfl,λq=>by cases q⟩):=h
def ada (h:p:=by
 rw[aL jg];exact aw (λh=>aj Cu) λh=>aj Cu):=h
def adb (h:p:=by
 unfold Wr;dsimp only [sY,mx,Int.toNat];rw[pR];congr 2;exact decide_eq_decide.2 aB):=h
def ade (h:p:=by
 obtain ⟨z,hz,M,hM⟩:=h1.get;have:=hM M HN;cases this;exact oJ (r:=.ok b) hN hz):=h
def adf (h:p:=by
 simp only[HV,ho,bm,jm] at h1;have:=h1.1 e he;simpa[hb] using this):=h
def adg (h:p:=by
 simp at q2;have:a=95:=rP.1 (by simpa using (by omega:a.toNat=95));subst this;rfl):=h
def adh (h:p:=by
 simp at q;have:a=35:=rP.1 (by simpa using (by omega:a.toNat=35));subst this;rfl):=h
def adi (h:p:=by
 refine ai (JU hm hC hf) λz hz=>aj ⟨_,rfl,hz.sk,?_⟩;dsimp only;rw[e1,e2];exact .nil):=h
def adj (h:p:=by
 obtain ⟨_,or,II,_,Ek,_⟩:=hI.rj r hr;exact (Nq r hr or II d q).2 (Ek.symm.trans Cz)):=h
def adk (h:p:=by
 simp only[P0,bm,fD] at h;exact .inr ⟨h.1.1.1,h.1.1.2,h.1.2,hf.1⟩):=h
def adl (h:p:=by
 rintro _ ⟨t',r⟩ ⟨⟨v,rfl⟩,hf⟩;exact px hm λnext=>stop (r,[t']) hf (iJ 1) next):=h
def ZS (h:p:=by
 exact ai FW λ_ h=>aj h):=h
def adm (h:p:=by
 rw[eb,gp];rcases hw with h|h
 ·omega
 subst h;simp;omega):=h
def aiC (h:p:=by
 refine Cx hm G2 ?_;rw[hq,UX,hm];exact vz ht hi none 0 0 cap HN w):=h
def adn (h:p:=by
 obtain ⟨⟨a',q',hp,h1,h2,h3⟩,h4⟩:=hr;dsimp only at hp;subst hp;exact hk x a' q' h1 h2 h3 h4):=h
end
def fY:=@List.append_assoc
def oz:=@List.drop_append_of_le_length
def e7:=@Array.getD_eq_getD_getElem?
def cb:=@List.mem_cons
def fN:=@Nat.lt_or_ge
def hU:=@Array.getElem?_eq_none
def vy:=@Nat.lt_irrefl
def pS:=@Array.getElem?_eq_some_iff
def gU:=@Array.getElem?_eq_getElem
def kt:=@Nat.le_trans
def lx:=@Nat.lt_of_lt_of_le
def rQ:=@Nat.not_lt
def cF:=@Sem.run_bind
def bR:=@Result.andThen_ok
def sC:=@Addr.add_lit
def hY:=@List.getElem?_take
def dD:=@List.getElem?_drop
def oK:=@List.drop_take
def kF:=@List.drop_drop
def dM:=@List.take_of_length_le
def mT:=@Nat.le_of_mul_le_mul_right
def fh:=@List.eq_nil_of_length_eq_zero
def eF:=@Sem.run_pure
def sD:=@List.take_take
def tM:=@Nat.min_eq_left
def an:=@List.getElem?_eq_some_iff
def gT:=@Nat.mul_le_mul_right
def jo:=@List.length_take
def iw:=@List.length_drop
def j5:=@List.take_succ_eq_append_getElem
def iJ:=@Nat.le_refl
def fj:=@List.getElem?_map
def gv:=@List.getElem?_eq_none
def tg:=@Option.bind_some
def jm:=@List.all_eq_true
def rH:=@Prod.mk.injEq
def kv:=@List.map_cons
def bH:=@List.mem_append
def qt:=@List.mem_of_mem_take
def ik:=@List.length_map
def kD:=@Nat.add_mul
def eb:=@List.length_append
def uC:=@List.take_left
def vI:=@List.map_toArray
def ua:=@List.map_nil
def my:=@List.append_nil
def bm:=@Bool.and_eq_true
def ls:=@List.find?_eq_none
def nU:=@List.find?_some
def fo:=@List.mem_of_find?_eq_some
def mX:=@List.any_eq_true
def lS:=@Bool.or_eq_false_iff
def pP:=@Array.getElem?_append_left
def AI:=@Option.getD_none
def iT:=@Bool.not_true
def lP:=@Bool.false_or
def wx:=@List.mem_map
def sw:=@List.any_eq_false
def mw:=@Bool.or_eq_true
def ij:=@List.mem_filter
def uD:=@List.mem_range
def fD:=@Bool.not_eq_true'
def wy:=@Option.map_some
def AM:=@Option.getD_some
def fF:=@Bool.false_eq_true
def sE:=@Bool.not_false
def mY:=@List.cons_append
def cn:=@List.not_mem_nil
def lg:=@Nat.eq_of_beq_eq_true
def gq:=@Nat.le_of_ble_eq_true
def xO:=@List.mapM_cons
def ta:=@Nat.blt_eq
def th:=@List.mem_cons_of_mem
def j6:=@List.length_cons
def rk:=@List.getElem_of_mem
def az:=@List.getElem?_eq_getElem
def vJ:=@Bool.not_eq_true
def vH:=@Nat.lt_succ_self
def fE:=@List.flatMap_cons
def uE:=@List.drop_zero
def xX:=@Nat.one_mul
def sF:=@Nat.succ_mul
def ub:=@Nat.add_comm
def rm:=@List.flatMap_append
def oC:=@List.take_succ_cons
def rA:=@List.getElem?_cons_zero
def oA:=@List.getElem?_cons_succ
def gp:=@List.length_singleton
def aQ:=@List.mem_of_getElem?
def rB:=@List.length_eq_zero_iff
def qP:=@List.take_length
def wz:=@List.cons.injEq
def pT:=@List.cons.inj
def fR:=@List.getElem?_append_left
def uc:=@Nat.pow_succ
def sx:=@Int.toNat_natCast
def nb:=@List.take_append_drop
def rR:=@List.length_set
def tN:=@List.nil_append
def Bu:=@Nat.not_lt_zero
def o6:=@Int.lt_or_le
def cO:=@List.mem_singleton
def rP:=@UInt8.toNat_inj
def kx:=@Int.tdiv_eq_ediv_of_nonneg
def gH:=@List.getElem?_append_right
def ng:=@List.sizeOf_lt_of_mem
def dR:=@Int.le_refl
def qu:=@List.mem_or_eq_of_mem_set
def vj:=@List.getElem?_set_self
def cY:=@Bool.eq_iff_iff
def pF:=@List.mem_iff_getElem?
def bZ:=@List.drop_eq_getElem_cons
def pU:=@Bool.true_and
def dY:=@List.drop_eq_nil_of_le
def sy:=@List.find?_append
def p8:=@List.take_add_one
def jP:=@Option.some.inj
def rI:=@BEq.rfl
def jC:=@Bool.eq_false_iff
def tJ:=@List.length_pos_iff
def pR:=@Bool.and_true
def wA:=@List.map_append
def oD:=@List.reverse_append
def mJ:=@List.reverse_singleton
def nh:=@List.singleton_append
def Gr:=@List.mem_reverse
def iU:=@Int.tmod_eq_emod_of_nonneg
def qJ:=@Bool.and_false
def rJ:=@List.any_cons
def qK:=@Bool.and_assoc
def xP:=@Bool.false_and
def yX:=@Bool.or_assoc
def xL:=@Bool.decide_or
def bh:=@of_decide_eq_true
def aW:=@of_decide_eq_false
def aX:=@decide_eq_true
def bw:=@decide_eq_false
def aE:=@if_neg
def aL:=@if_pos
def cg:=@beq_iff_eq
def iP:=@congrArg
def ao:=@absurd
def GF (w:World):Prop:=(∃ m:Int,w.cell? ⟨0,0,none⟩=some (.int .i64 m))/\(∃ ev,w.cell? ⟨1,0,none⟩=some ev/\(ev=.nilIface\/∃ te pe,ev=.iface te pe))/\
 (∃ ev,w.cell? ⟨2,0,none⟩=some ev/\(ev=.nilIface\/∃ te pe,ev=.iface te pe))/\∃ el fz,w.heap[3]?=some (.cells (Lib.pow10Tab.map λz=>Value.int .u64 z).toArray el fz)
section
inductive PV where
 | sc (v:Value)
 | sl (n:Nat) (cells:List PV)
 | pt (o:Option (List PV))
inductive AV where
 | any
 | oc
 | pv (p:PV)
 | ptr (k off:Nat)
 | arr (k n:Nat)
 | sp (cells:List PV)
 | fn (f:FuncId) (first captured:List AV)
 | agg (cs:List AV)
 | mE (vs:List AV)
 | vV (t:TypeId) (v:AV)
structure Gh where
 ρ:Nat->Option Nat
 cp:Nat->Nat
 G:Nat->Option (List PV)
inductive PR (g:Gh):PV->Value->Prop
 | sc (v:Value):PR g (.sc v) v
 | nil (a:Option Addr) (cap:Nat):PR g (.sl 0 []) (.slice a 0 cap)
 | sl (b:Nat) (ys:List PV) (off n cap:Nat) (cells:List PV) (h:g.G b=some ys) (hl:off+cells.length<=ys.length)
  (hc:cells=(ys.drop off).take cells.length) (hn:n<=cap):PR g (.sl n cells) (.slice (some ⟨b,off,none⟩) n cap)
 | ZT:PR g (.pt none) (.pointer none)
 | YT (b:Nat) (ys:List PV) (off:Nat) (cells:List PV) (h:g.G b=some ys) (hl:off+cells.length<=ys.length)
  (hc:cells=(ys.drop off).take cells.length):PR g (.pt (some cells)) (.pointer (some ⟨b,off,none⟩))
inductive vk (g:Gh):List PV->List Value->Prop
 | nil:vk g [] []
 | cons {p:PV} {v:Value} {ps:List PV} {vs:List Value} (h:PR g p v) (t:vk g ps vs):vk g (p::ps) (v::vs)
mutual
inductive VR (g:Gh):AV->Value->Prop
 | any (v:Value):VR g .any v
 | oc {v:Value} (h:v.oneCell'=true):VR g .oc v
 | pv {p:PV} {v:Value} (h:PR g p v):VR g (.pv p) v
 | ptr {k b:Nat} (off:Nat) (h:g.ρ k=some b):VR g (.ptr k off) (.pointer (some ⟨b,off,none⟩))
 | arr {k b:Nat} (n:Nat) (h:g.ρ k=some b):VR g (.arr k n) (.slice (some ⟨b,0,none⟩) n (g.cp k))
 | Bm {k:Nat} (h:g.ρ k=none):VR g (.arr k 0) (.slice none 0 0)
 | sp {b:Nat} {ys:List PV} (off:Nat) {cells:List PV} (h:g.G b=some ys) (hl:off+cells.length<=ys.length) (hc:cells=(ys.drop off).take cells.length) :
  VR g (.sp cells) (.pointer (some ⟨b,off,none⟩))
 | fn (f:FuncId) {x y:List AV} {xs ys:List Value} (hx:M g x xs) (hy:M g y ys):VR g (.fn f x y) (.func (.func f) xs.toArray ys.toArray)
 | agg {cs:List AV} {vs:List Value} (h:M g cs vs):VR g (.agg cs) (.agg vs.toArray)
 | mE {cs:List AV} {vs:List Value} (h:M g cs vs):VR g (.mE cs) (.tuple vs.toArray)
 | vV (t:TypeId) {x:AV} {v:Value} (h:VR g x v):VR g (.vV t x) (.iface t v)
inductive M (g:Gh):List AV->List Value->Prop
 | nil:M g [] []
 | cons {p:AV} {v:Value} {ps:List AV} {vs:List Value} (h:VR g p v) (t:M g ps vs):M g (p::ps) (v::vs)
end
variable {g:Gh}
def M.length {cs:List AV}:∀ {vs:List Value},M g cs vs->cs.length=vs.length:=by
 induction cs with
 | nil=>intro vs h;cases h;rfl
 | cons a l ih=>intro vs h;cases h with|cons _ t=>simp[ih t]
variable {cs:List PV}
def vk.length:∀ {vs:List Value},vk g cs vs->cs.length=vs.length:=by
 induction cs with
 | nil=>intro vs h;cases h;rfl
 | cons a l ih=>intro vs h;cases h with|cons _ t=>simp[ih t]
def M.get {cs:List AV}:∀ {vs:List Value},M g cs vs->∀ (i:Nat) (x:AV),cs[i]?=some x->∃ v,vs[i]?=some v/\VR g x v:=by
 induction cs with
 | nil=>intro vs h i x hx;simp at hx
 | cons a l ih=>
  intro vs h i x hx
  cases h with
  | cons h0 t=>
   cases i with
   | zero=>simp at hx;subst hx;exact ⟨_,rfl,h0⟩
   | succ i=>simpa using ih t i x Es
def vk.get:∀ {vs:List Value},vk g cs vs->∀ (i:Nat) (x:PV),cs[i]?=some x->∃ v,vs[i]?=some v/\PR g x v:=by
 induction cs with
 | nil=>intro vs h i x hx;simp at hx
 | cons a l ih=>
  intro vs h i x hx
  cases h with
  | cons h0 t=>
   cases i with
   | zero=>simp at hx;subst hx;exact ⟨_,rfl,h0⟩
   | succ i=>simpa using ih t i x Es
def M.append {cs ds:List AV}:∀ {vs us:List Value},M g cs vs->M g ds us->M g (cs++ds) (vs++us):=by
 induction cs with
 | nil=>intro vs us h hd;cases h;simpa using hd
 | cons a l ih=>intro vs us h hd;cases h with|cons h0 t=>exact .cons h0 (ih t hd)
def vk.append {ds:List PV}:∀ {vs us:List Value},vk g cs vs->vk g ds us->vk g (cs++ds) (vs++us):=by
 induction cs with
 | nil=>intro vs us h hd;cases h;simpa using hd
 | cons a l ih=>intro vs us h hd;cases h with|cons h0 t=>exact .cons h0 (ih t hd)
def M.drop:∀ (i:Nat) {cs:List AV} {vs:List Value},M g cs vs->M g (cs.drop i) (vs.drop i):=by
 intro i
 induction i with
 | zero=>intro cs vs h;simpa using h
 | succ i ih=>intro cs vs h;cases h with
  | nil=>exact .nil
  | cons _ t=>simpa using ih t
def M.take:∀ (i:Nat) {cs:List AV} {vs:List Value},M g cs vs->M g (cs.take i) (vs.take i):=by
 intro i
 induction i with
 | zero=>intro cs vs h;simpa using M.nil
 | succ i ih=>intro cs vs h;cases h with
  | nil=>exact .nil
  | cons h0 t=>simpa using M.cons h0 (ih t)
def vk.drop:∀ (i:Nat) {cs:List PV} {vs:List Value},vk g cs vs->vk g (cs.drop i) (vs.drop i):=by
 intro i
 induction i with
 | zero=>intro cs vs h;simpa using h
 | succ i ih=>intro cs vs h;cases h with
  | nil=>exact .nil
  | cons _ t=>simpa using ih t
def vk.take:∀ (i:Nat) {cs:List PV} {vs:List Value},vk g cs vs->vk g (cs.take i) (vs.take i):=by
 intro i
 induction i with
 | zero=>intro cs vs h;simpa using vk.nil
 | succ i ih=>intro cs vs h;cases h with
  | nil=>exact .nil
  | cons h0 t=>simpa using vk.cons h0 (ih t)
def vk.vrs:∀ {vs:List Value},vk g cs vs->M g (cs.map .pv) vs:=by
 induction cs with
 | nil=>intro vs h;cases h;exact .nil
 | cons a l ih=>intro vs h;cases h with|cons h0 t=>exact .cons (.pv h0) (ih t)
def AV.jh (k:Nat):AV->Bool
 | .any|.oc|.pv _|.sp _=>false
 | .ptr j _=>j==k
 | .arr j _=>j==k
 | .fn _ xs ys=>kJ k xs||kJ k ys
 | .agg cs=>kJ k cs
 | .mE cs=>kJ k cs
 | .vV _ v=>v.jh k
where
 kJ (k:Nat):List AV->Bool
  | []=>false
  | x::xs=>x.jh k||kJ k xs
structure xf (nn:Nat->Prop) (g g':Gh):Prop where
 ρ:∀ k,¬ nn k->g'.ρ k=g.ρ k
 cp:∀ k,¬ nn k->g'.cp k=g.cp k
 G:∀ b ys,g.G b=some ys->∃ zs,g'.G b=some (ys++zs)
def xf.refl (nn:Nat->Prop) (g:Gh):xf nn g g:=⟨λ_ _=>rfl,λ_ _=>rfl,λ_ _ h=>⟨[],jg⟩⟩
variable {b:Gh}
def xf.trans {a c:Gh} (h:xf nn a b) (h':xf nn b c):xf nn a c:=
 ⟨λk hk=>(h'.ρ k hk).trans (h.ρ k hk),λk hk=>(h'.cp k hk).trans (h.cp k hk),λb ys hb=>by
  obtain ⟨zs,h1⟩:=h.G b ys hb;obtain ⟨us,h2⟩:=h'.G b _ h1;exact ⟨zs++us,by rw[h2,fY]⟩⟩
def Ok {ys zs:List PV} {off:Nat} {cells:List PV} (hl:off+cells.length<=ys.length) (hc:cells=(ys.drop off).take cells.length) :
  off+cells.length<=(ys++zs).length/\cells=((ys++zs).drop off).take cells.length:=by
 refine ⟨qI,?_⟩
 rw[oz aB,List.take_append_of_le_length qI]
 exact hc
variable {g':Gh} {p:PV}
def PR.le (hg:xf nn g g') (h:PR g p v):PR g' p v:=by
 cases h with
 | sc=>exact .sc _
 | nil=>exact .nil _ _
 | sl b ys off n cap cells h hl hc hn=>
  obtain ⟨zs,h'⟩:=hg.G _ _ h
  obtain ⟨h1,h2⟩:=Ok (zs:=zs) hl hc
  exact .sl b _ off n cap cells h' h1 h2 hn
 | ZT=>exact .ZT
 | YT b ys off cells h hl hc=>
  obtain ⟨zs,h'⟩:=hg.G _ _ h
  obtain ⟨h1,h2⟩:=Ok (zs:=zs) hl hc
  exact .YT b _ off cells h' h1 h2
variable {ps:List PV}
def vk.le (hg:xf nn g g'):∀ {vs:List Value},vk g ps vs->vk g' ps vs:=by
 induction ps with
 | nil=>intro vs h;cases h;exact .nil
 | cons a l ih=>intro vs h;cases h with|cons h0 t=>exact .cons (h0.le hg) (ih t)
def PR.congr (hG:∀ b ys,g.G b=some ys->g'.G b=some ys) (h:PR g p v):PR g' p v:=by
 cases h with
 | sc=>exact .sc _
 | nil=>exact .nil _ _
 | sl b ys off n cap cells h hl hc hn=>exact .sl b ys off n cap cells (hG _ _ h) hl hc hn
 | ZT=>exact .ZT
 | YT b ys off cells h hl hc=>exact .YT b ys off cells (hG _ _ h) hl hc
def vk.congr (hG:∀ b ys,g.G b=some ys->g'.G b=some ys):∀ {vs:List Value},vk g ps vs->vk g' ps vs:=by
 induction ps with
 | nil=>intro vs h;cases h;exact .nil
 | cons a l ih=>intro vs h;cases h with|cons h0 t=>exact .cons (h0.congr hG) (ih t)
def s5:=@vk.congr
mutual
def VR.le {nn:Nat->Prop} {g g':Gh} (hg:xf nn g g'):∀ {x:AV} {v:Value},(∀ k,nn k->x.jh k=false)->VR g x v->VR g' x v
 | .any,_,_,_=>.any _
 | .oc,_,_,h=>by cases h with|oc h=>exact .oc h
 | .pv _,_,_,h=>by cases h with|pv h=>exact .pv (h.le hg)
 | .ptr k off,_,hm,h=>by
  cases h with|ptr _ h=>exact .ptr off (by rw[hg.ρ];exact h;intro q;simpa[AV.jh] using hm _ q)
 | .arr k n,_,hm,h=>by
  have hk:¬ nn k:=by intro q;simpa[AV.jh] using hm _ q
  cases h with
  | arr _ h=>rw[<- hg.cp k hk];exact .arr n TB
  | Bm h=>exact .Bm TB
 | .sp _,_,_,h=>by cases h with
  | sp off h hl hc=>
   obtain ⟨zs,h'⟩:=hg.G _ _ h
   obtain ⟨h1,h2⟩:=Ok (zs:=zs) hl hc
   exact .sp off h' h1 h2
 | .fn f x y,_,hm,h=>by
  cases h with
  | fn _ hx hy=>
   exact .fn f (M.le hg (λk q=>by have:=hm k q;simp[AV.jh] at this;exact this.1) hx)
    (M.le hg (λk q=>by have:=hm k q;simp[AV.jh] at this;exact this.2) hy)
 | .agg x,_,hm,h=>by cases h with|agg h=>exact .agg (M.le hg Zg h)
 | .mE x,_,hm,h=>by cases h with|mE h=>exact .mE (M.le hg Zg h)
 | .vV t x,_,hm,h=>by cases h with|vV _ h=>exact .vV t (VR.le hg Zg h)
def M.le {nn:Nat->Prop} {g g':Gh} (hg:xf nn g g'):∀ {x:List AV} {v:List Value},(∀ k,nn k->AV.jh.kJ k x=false)->M g x v->M g' x v
 | [],_,_,h=>by cases h;exact .nil
 | x::xs,_,hm,h=>by
  cases h with
  | cons h t=>
   exact .cons (VR.le hg (λk q=>by have:=hm k q;simp[AV.jh.kJ] at this;exact this.1) h)
    (M.le hg (λk q=>by have:=hm k q;simp[AV.jh.kJ] at this;exact this.2) t)
end
inductive cV where
 | box (cells:List AV)
 | arr (el:TypeId) (sz:Nat) (cells:List PV)
 | app (el:TypeId) (sz:Nat) (cells:List PV)
def cV.isApp:cV->Bool
 | .app ..=>true
 | _=>false
def cV.cells:cV->List AV
 | .box cs=>cs
 | .arr _ _ cs=>cs.map .pv
 | .app _ _ cs=>cs.map .pv
abbrev fC:=Nat->Option cV
def Flat (cs:Array Value):Prop:=∀ v,v∈cs.toList->v.oneCell'=true
inductive rC (g:Gh) (w:World) (k:Nat):cV->Prop
 | box {b:Nat} {cells:List AV} {cs:Array Value} {el:TypeId} (h:g.ρ k=some b) (hw:w.heap[b]?=some (.cells cs el (0,0)))
  (hc:M g cells cs.toList) (h1:Flat cs):rC g w k (.box cells)
 | Bm {el:TypeId} {sz:Nat} (h:g.ρ k=none):rC g w k (.arr el sz [])
 | arr {b:Nat} {sz:Nat} {cells:List PV} {cs:Array Value} {el:TypeId} (h:g.ρ k=some b) (hw:w.heap[b]?=some (.cells cs el (0,0)))
  (hl:cells.length<=cs.size) (hz:cs.size=g.cp k*sz) (hm:g.cp k<=maxLen) (hc:vk g cells (cs.toList.take cells.length)):rC g w k (.arr el sz cells)
 | Jb {el:TypeId} {sz:Nat} (h:g.ρ k=none):rC g w k (.app el sz [])
 | app {b:Nat} {sz:Nat} {cells:List PV} {cs:Array Value} {el:TypeId} (h:g.ρ k=some b) (hG:g.G b=some cells) (hw:w.heap[b]?=some (.cells cs el (0,0)))
  (hl:cells.length<=cs.size) (hz:cs.size=g.cp k*sz) (hm:g.cp k<=maxLen) (hc:vk g cells (cs.toList.take cells.length)):rC g w k (.app el sz cells)
def Vz (g:Gh) (w:World):Prop:=∀ b ys,g.G b=some ys->∃ cs el fz,w.heap[b]?=some (.cells cs el fz)/\ys.length<=cs.size/\vk g ys (cs.toList.take ys.length)
structure Env where
 wS:World
 w0:World
 own:Nat->Prop
 G0:Nat->Option (List PV)
 fix:Nat->Option Nat
 qq:Nat->Nat
structure HW (E:Env) (g:Gh) (σ:fC) (w:World):Prop where
 IL:∀ (b:Nat) (cs:Array Value) (el:TypeId) (fz:Nat×Nat),E.w0.heap[b]?=some (.cells cs el fz)->∃ lO:Array Value,w.heap[b]?=some (.cells lO el fz)/\lO.size=cs.size
 flat:∀ (k b:Nat) (cs:Array Value) (el:TypeId) (fz:Nat×Nat),E.fix k=some b->E.w0.heap[b]?=some (.cells cs el fz)->Flat cs->∃ lO:Array Value,w.heap[b]?=some (.cells lO el fz)/\Flat lO
 set:∀ b,b<E.wS.heap.size->w.heap[b]?=E.wS.heap[b]?
 HX:E.wS.heap.size<=E.w0.heap.size
 hi:∀ k b,(σ k).isSome=true->g.ρ k=some b->E.wS.heap.size<=b
 gf:GF E.wS
 xg:∀ k b,E.fix k=some b->b<E.w0.heap.size
 xQ:∀ k b,E.fix k=some b->g.G b=none
 xh:∀ k b k',E.fix k=some b->(σ k').isSome=true->g.ρ k'=some b->k'=k
 xi:∀ k b e,E.fix k=some b->σ k=some e->∃ cs,e=.box cs
structure Rel (E:Env) (g:Gh) (σ:fC) (w:World):Prop where
 sv:∀ k e,σ k=some e->rC g w k e
 inj:∀ k k' b,(σ k).isSome=true->(σ k').isSome=true->g.ρ k=some b->g.ρ k'=some b->k=k'
 gl:Vz g w
 apart:∀ k b e,σ k=some e->e.isApp=false->g.ρ k=some b->g.G b=none
 size:E.w0.heap.size<=w.heap.size
 yV:∀ b,b<E.w0.heap.size->¬ E.own b->w.heap[b]?=E.w0.heap[b]?
 own:∀ k b,(σ k).isSome=true->g.ρ k=some b->E.own b\/E.w0.heap.size<=b
 fix:∀ k b,E.fix k=some b->g.ρ k=some b
 qq:∀ k b,E.fix k=some b->g.cp k=E.qq k
 g0:∀ b ys,E.G0 b=some ys->∃ zs,g.G b=some (ys++zs)
 gn:∀ b ys,g.G b=some ys->E.G0 b=some ys\/E.own b\/E.w0.heap.size<=b
 os:w.os=E.w0.os
 out:w.output=E.w0.output
 tape:w.tape=E.w0.tape
 x:HW E g σ w
def Env.of (wS:World) (g:Gh) (σ:fC) (w:World):Env where
 wS:=wS
 w0:=w
 own:=λb=>∃ k,(σ k).isSome=true/\g.ρ k=some b
 G0:=g.G
 fix:=λk=>match σ k with|some (.box _)=>g.ρ k|_=>none
 qq:=g.cp
def cV.le (e e':cV):Prop:=∀ (g:Gh) (w:World) (k:Nat),rC g w k e->rC g w k e'
def cV.le_refl (e:cV):e.le e:=λ_ _ _ h=>h
def nR:=@cV.le_refl
def Cov (σ:fC) (p:Nat×cV):Prop:=∃ e,σ p.1=some e/\e.le p.2
structure k9 where
 s:Nat->AV
 ds:List (FuncId×List AV)
inductive DR (g:Gh):List (FuncId×List AV)->List Deferred->Prop
 | nil:DR g [] []
 | cons {f:FuncId} {cap:List AV} {cv:List Value} {l:List (FuncId×List AV)} {ds:List Deferred} (h:M g cap cv) (t:DR g l ds) :
  DR g ((f,cap)::l) ({ target:=.fn (.func f) cv.toArray,args:=#[] }::ds)
structure FR (n:Nat) (g:Gh) (fr:k9) (a:Act):Prop where
 size:a.tmps.size=n
 pA:∀ i,VR g (fr.s i) (a.tmps.getD i undef)
 ds:DR g fr.ds a.defers
def k9.put (fr:k9) (d:Nat) (v:AV):k9:={ fr with s:=λi=>if i=d then v else fr.s i }
def k9.qv (fr:k9) (d:Option Nat) (v:AV):k9:=match d with|some d=>fr.put d v|none=>fr
def k9.val (fr:k9):Operand->AV
 | .tmp t=>fr.s t
 | .const v=>.pv (.sc v)
 | .global _=>.any
 | .func f=>.fn f [] []
variable {fr:k9}
def FR.eval (h:FR n g fr a) (x:Operand):VR g (fr.val x) (a.eval x):=by
 cases x with
 | tmp t=>exact h.pA t
 | const v=>exact .pv (.sc v)
 | global k=>exact .any _
 | func f=>exact .fn f .nil .nil
def FR.put (h:FR n g fr a) {d:Option Nat} {v:AV} (hd:∀ x,d=some x->x<n) (hv:VR g v c) :
  FR n g (fr.qv d v) (a.put d c):=by
 cases d with
 | none=>exact h
 | some d=>
  refine ⟨by simp[Act.put,h.size],λi=>?_,h.ds⟩
  simp only[k9.qv,k9.put,Act.put]
  by_cases hi:i=d
  ·subst hi
   have:=hd i rfl
   simpa[e7,h.size,this] using hv
  ·rw[aE hi]
   have uB:d≠i:=λq=>hi q.symm
   have:=h.pA i
   simpa[e7,Array.getElem?_setIfInBounds_ne uB] using this
def k9.clear (fr:k9) (k:Nat):Prop:=(∀ i,(fr.s i).jh k=false)/\∀ p∈fr.ds,AV.jh.kJ k p.2=false
def fC.clear (σ:fC) (k:Nat):Prop:=∀ j e,σ j=some e->AV.jh.kJ k e.cells=false
def DR.le (hg:xf nn g g') {l:List (FuncId×List AV)}:∀ {ds:List Deferred},(∀ k,nn k->∀ p∈l,AV.jh.kJ k p.2=false)->
  DR g l ds->DR g' l ds:=by
 induction l with
 | nil=>intro ds _ h;cases h;exact .nil
 | cons a l ih=>intro ds hm h;cases h with
  | cons h0 t=>exact .cons (h0.le hg λk q=>hm k q (_,_) (List.mem_cons_self ..)) (ih (λk q p hp=>hm k q p (by simp[hp])) t)
def FR.le (hg:xf nn g g') (hm:∀ k,nn k->fr.clear k) (h:FR n g fr a):FR n g' fr a:=
 ⟨h.size,λi=>(h.pA i).le hg λk q=>(hm k q).1 i,h.ds.le hg λk q=>(hm k q).2⟩
def rC.le {w w':World} (hg:xf nn g g') {k:Nat} {e:cV} (hk:¬ nn k) (hGe:∀ b,g.ρ k=some b->e.isApp=true->g'.G b=g.G b) (hm:∀ j,nn j->AV.jh.kJ j e.cells=false) (hw:∀ b,g.ρ k=some b->w'.heap[b]?=w.heap[b]?) (h:rC g w k e):rC g' w' k e:=by
 cases h with
 | box h P1 hc h1=>exact .box TB (by rw[hw _ h];exact P1) (hc.le hg hm) h1
 | Bm h=>exact .Bm TB
 | arr h P1 hl hz hx hc=>exact .arr TB (by rw[hw _ h];exact P1) hl (by rw[hg.cp k hk];exact hz) (by rw[hg.cp k hk];exact hx) (hc.le hg)
 | Jb h=>exact .Jb TB
 | app h hG P1 hl hz hx hc=>exact .app TB (by rw[hGe _ h rfl];exact hG) (by rw[hw _ h];exact P1) hl (by rw[hg.cp k hk];exact hz) (by rw[hg.cp k hk];exact hx) (hc.le hg)
def AV.one:AV->Bool
 | .any|.agg _|.mE _=>false
 | .pv (.sc v)=>v.oneCell'
 | _=>true
def AV.p9:List AV->Bool
 | []=>true
 | x::xs=>x.one&&p9 xs
def VR.one {v:AV} (h:VR g v c) (ho:v.one=true):c.oneCell'=true:=by
 cases h with
 | any=>simp[AV.one] at ho
 | oc h=>exact h
 | pv h=>cases h with
  | sc v=>exact ho
  | nil=>rfl
  | sl=>rfl
  | ZT=>rfl
  | YT=>rfl
 | ptr=>rfl
 | arr=>rfl
 | Bm=>rfl
 | sp=>rfl
 | fn=>rfl
 | agg=>simp[AV.one] at ho
 | mE=>simp[AV.one] at ho
 | vV=>rfl
def M.one:∀ {l:List AV} {vs:List Value},M g l vs->AV.p9 l=true->∀ v,v∈vs->v.oneCell'=true
 | _,_,.nil,_,v,hv=>by cases hv
 | _,_,.cons h t,ho,v,hv=>by
  simp[AV.p9] at ho;rcases cb.1 hv with q|q
  ·subst q;exact h.one ho.1
  exact t.one ho.2 v q
end
section
def fC.set (σ:fC) (k:Nat) (e:cV):fC:=λj=>if j=k then some e else σ j
def fC.del (σ:fC) (k:Nat):fC:=λj=>if j=k then none else σ j
def Gh.bind (g:Gh) (k b c:Nat):Gh:={ g with ρ:=λj=>if j=k then some b else g.ρ j,cp:=λj=>if j=k then c else g.cp j }
def Gh.unbind (g:Gh) (k:Nat):Gh:={ g with ρ:=λj=>if j=k then none else g.ρ j }
def Gh.iS (g:Gh) (b:Nat) (ys:List PV):Gh:={ g with G:=λj=>if j=b then some ys else g.G j }
variable {g:Gh} {ys:List PV} {g':Gh} {e:cV} {E:Env} {σ:fC} {cap:Nat}
def Gh.QO (h:g.G b=some ys):∃ zs,g.G b=some (ys++zs):=⟨[],jg⟩
def xf.bind (g:Gh) (k b c:Nat):xf (·=k) g (g.bind k b c):=
 ⟨λj hj=>by simp[Gh.bind,hj],λj hj=>by simp[Gh.bind,hj],λ_ _ h=>Gh.QO h⟩
def xI:=@xf.bind
def xf.unbind (g:Gh) (k:Nat):xf (·=k) g (g.unbind k):=
 ⟨λj hj=>by simp[Gh.unbind,hj],λ_ _=>rfl,λ_ _ h=>Gh.QO h⟩
def tf:=@xf.unbind
def xf.iS (g:Gh) (b:Nat) (ys:List PV) (h:g.G b=none):xf nn g (g.iS b ys):=
 ⟨λ_ _=>rfl,λ_ _=>rfl,λj zs hj=>by
  by_cases q:j=b
  ·subst q;rw[h] at hj;cases hj
  exact ⟨[],by simpa[Gh.iS,q] using hj⟩⟩
def qQ:=@xf.iS
def xf.grow (g:Gh) (b:Nat) (ys us:List PV) (h:g.G b=some ys):xf nn g (g.iS b (ys++us)):=
 ⟨λ_ _=>rfl,λ_ _=>rfl,λj zs hj=>by
  by_cases q:j=b
  ·subst q;rw[h] at hj;cases hj;exact ⟨us,by simp[Gh.iS]⟩
  exact ⟨[],by simpa[Gh.iS,q] using hj⟩⟩
def Vz.lt (h:Vz g w) (hb:g.G b=some ys):b<w.heap.size:=by
 obtain ⟨cs,el,fz,hw,_⟩:=h b ys hb;rcases fN b w.heap.size with q|q
 ·exact q
 simp[hU q] at hw
def Vz.fresh (h:Vz g w):g.G w.heap.size=none:=by
 cases hb:g.G w.heap.size with
 | none=>rfl
 | some ys=>exact ao (h.lt hb) (vy _)
variable {w':World}
def Vz.le (hg:xf nn g g') (hG:g'.G=g.G) (hw:∀ b ys,g.G b=some ys->w'.heap[b]?=w.heap[b]?) (h:Vz g w):Vz g' w':=by
 intro b ys hb;rw[hG] at hb;obtain ⟨cs,el,fz,h1,h2,h3⟩:=h b ys hb;exact ⟨cs,el,fz,by rw[hw b ys hb];exact h1,h2,h3.le hg⟩
def rC.lt (h:rC g w k e) (hb:g.ρ k=some b):b<w.heap.size:=by
 have key:∀ {o:Obj},w.heap[b]?=some o->b<w.heap.size:=by
  intro o ho;rcases fN b w.heap.size with q|q
  ·exact q
  simp[hU q] at ho
 cases h with
 | box h hw=>rw[h] at hb;cases hb;exact key hw
 | Bm h=>rw[h] at hb;cases hb
 | arr h hw=>rw[h] at hb;cases hb;exact key hw
 | Jb h=>rw[h] at hb;cases hb
 | app h hG hw=>rw[h] at hb;cases hb;exact key hw
def Rel.lt (h:Rel E g σ w) (hk:(σ k).isSome=true) (hb:g.ρ k=some b):b<w.heap.size:=by
 cases hs:σ k with
 | none=>rw[hs] at hk;cases hk
 | some e=>exact (h.sv k e hs).lt hb
variable {o:Obj}
def Bx (h:w.heap[b]?=some o):b<w.heap.size:=(pS.1 h).1
variable {σ':fC}
def HW.F0 (h:HW E g σ w) (hw:w'.heap=w.heap) (hG:g'.G=g.G) (hσ:∀ k b,(σ' k).isSome=true->g'.ρ k=some b->∃ k0,(σ k0).isSome=true/\g.ρ k0=some b/\(k0=k\/∃ e,σ k0=some e/\∀ cs,e≠.box cs)) (hb:∀ k b e',E.fix k=some b->σ' k=some e'->(∃ e,σ k=some e/\((∃ cs,e=.box cs)->∃ cs,e'=.box cs))):HW E g' σ' w' where
 IL:=by rw[hw];exact h.IL
 flat:=by rw[hw];exact h.flat
 set:=by rw[hw];exact h.set
 HX:=h.HX
 hi:=λk b hk hr=>let ⟨k0,h1,h2,_⟩:=hσ k b hk hr;h.hi k0 b h1 h2
 gf:=h.gf
 xg:=h.xg
 xQ:=by rw[hG];exact h.xQ
 xh:=λk b k' hf hk hr=>by
  obtain ⟨k0,h1,h2,h3⟩:=hσ k' b hk hr;have h4:=h.xh k b k0 hf h1 h2;subst h4;rcases h3 with q|⟨e,h5,h6⟩
  ·exact q.symm
  obtain ⟨cs,h7⟩:=h.xi k0 b e hf h5;exact ao h7 (h6 cs)
 xi:=λk b e' hf hk=>by
  obtain ⟨e,h1,h2⟩:=hb k b e' hf hk;exact h2 (h.xi k b e hf h1)
def HW.Ol (h:HW E g σ w) (Ma:E.w0.heap.size<=w.heap.size) (hr:g'.ρ=g.ρ) (hG:∀ b,b≠w.heap.size->g'.G b=g.G b):HW E g' σ (w.alloc o) where
 IL:=λb cs el fz hb=>let ⟨lO,h1,h2⟩:=h.IL b cs el fz hb;acJ
 flat:=λk b cs el fz hk hb hf=>let ⟨lO,h1,h2⟩:=h.flat k b cs el fz hk hb hf;acJ
 set:=λb hb=>by
  have h1:=h.set b hb;have:b<w.heap.size:=by
   have:E.wS.heap[b]?=some E.wS.heap[b]:=gU hb;rw[this] at h1;exact Bx h1
  rw[heap_alloc_old w o b this];exact h1
 HX:=h.HX
 hi:=by rw[hr];exact h.hi
 gf:=h.gf
 xg:=h.xg
 xQ:=λk b hf=>by rw[hG b (by have:=h.xg k b hf;omega)];exact h.xQ k b hf
 xh:=by rw[hr];exact h.xh
 xi:=h.xi
def HW.alloc (h:HW E g σ w) (Ma:E.w0.heap.size<=w.heap.size) (hf:E.fix nm=none) (hr:∀ j,j≠nm->g'.ρ j=g.ρ j) (Om:g'.ρ nm=some w.heap.size) (hG:∀ b,b≠w.heap.size->g'.G b=g.G b):HW E g' (σ.set nm e) (w.alloc o) where
 IL:=(h.Ol (g':=g) Ma rfl (λ_ _=>rfl)).IL
 flat:=(h.Ol (g':=g) Ma rfl (λ_ _=>rfl)).flat
 set:=(h.Ol (g':=g) Ma rfl (λ_ _=>rfl)).set
 HX:=h.HX
 hi:=λk b hk hb=>by
  by_cases q:k=nm
  ·subst q;rw[Om] at hb;cases hb;exact kt h.HX Ma
  rw[hr k q] at hb;exact h.hi k b Zc hb
 gf:=h.gf
 xg:=h.xg
 xQ:=λk b hf=>by rw[hG b (by have:=h.xg k b hf;omega)];exact h.xQ k b hf
 xh:=λk b k' hfk hk hb=>by
  by_cases q:k'=nm
  ·subst q;rw[Om] at hb;cases hb;have:=h.xg k _ hfk;omega
  rw[hr k' q] at hb;exact h.xh k b k' hfk Zc hb
 xi:=λk b e' hfk hk=>by
  have q:k≠nm:=λq=>by subst q;rw[hf] at hfk;cases hfk
  exact h.xi k b e' hfk Zc
def HW.write (h:HW E g σ w) {c:Nat} {cs1 IN:Array Value} {el0:TypeId} {fz0:Nat×Nat} (xM:(σ k).isSome=true) (hb:g.ρ k=some c) (hr:g'.ρ=g.ρ) (h0:w.heap[c]?=some (.cells IN el0 fz0)) (hz:cs1.size=IN.size) (hbx:∀ e0,σ k=some e0->(∃ cs,e0=.box cs)->∃ cs,e=.box cs) (hG:∀ b,b≠c->g'.G b=g.G b) (hGc:(∀ k',E.fix k'≠some c)\/g'.G c=g.G c) (S7:(∃ k',E.fix k'=some c)->Flat IN->Flat cs1):HW E g' (σ.set k e) (w.setRow c cs1) where
 IL:=λb cs el fz hb=>by
  obtain ⟨lO,h1,h2⟩:=h.IL b cs el fz hb;by_cases q:b=c
  ·subst q;rw[h0] at h1;cases h1;exact ⟨cs1,setRow_heap w b IN cs1 _ _ h0,hz.trans h2⟩
  exact ⟨lO,by rw[setRow_other w c b cs1 q];exact h1,h2⟩
 flat:=λk b cs el fz hk hb hf=>by
  obtain ⟨lO,h1,h2⟩:=h.flat k b cs el fz hk hb hf;by_cases q:b=c
  ·subst q;rw[h0] at h1;cases h1;exact ⟨cs1,setRow_heap w b IN cs1 _ _ h0,S7 ⟨k,hk⟩ h2⟩
  exact ⟨lO,by rw[setRow_other w c b cs1 q];exact h1,h2⟩
 set:=λb iy=>by
  have:=h.hi k c xM hb;rw[setRow_other w c b cs1 aB];exact h.set b iy
 HX:=h.HX
 hi:=λj b hj Jy=>by
  rw[hr] at Jy;by_cases q:j=k
  ·subst q;exact h.hi j b xM Jy
  exact h.hi j b U4 Jy
 gf:=h.gf
 xg:=h.xg
 xQ:=λj b hf=>by
  by_cases q:b=c
  ·subst q;rcases hGc with q|q
   ·exact ao hf (q j)
   rw[q];exact h.xQ j b hf
  rw[hG b q];exact h.xQ j b hf
 xh:=λj b j' hf hj Jy=>by
  rw[hr] at Jy;by_cases q:j'=k
  ·subst q;exact h.xh j b j' hf xM Jy
  exact h.xh j b j' hf U4 Jy
 xi:=λj b e' hf hj=>by
  by_cases q:j=k
  ·subst q;simp[fC.set] at hj;subst hj;cases hs:σ j with
   | none=>rw[hs] at xM;cases xM
   | some e0=>exact hbx e0 hs (h.xi j b e0 hf hs)
  exact h.xi j b e' hf U4
def tE (w:World) (o:Obj) (h:b<w.heap.size):(w.alloc o).heap[b]?=w.heap[b]?:=heap_alloc_old w o b h
def Rel.alloc (h:Rel E g σ w) (hc:σ.clear nm) (hf:E.fix nm=none) (he:rC (g.bind nm w.heap.size cap) (w.alloc o) nm e):Rel E (g.bind nm w.heap.size cap) (σ.set nm e) (w.alloc o):=by
 have hle:=xI g nm w.heap.size cap;have uB:∀ j,(σ.set nm e j).isSome=true->j≠nm->(σ j).isSome=true:=λj hj q=>by simpa[fC.set,q] using hj
 have hρ:∀ j,j≠nm->(g.bind nm w.heap.size cap).ρ j=g.ρ j:=λj q=>by simp[Gh.bind,q]
 have PY:(g.bind nm w.heap.size cap).ρ nm=some w.heap.size:=by simp[Gh.bind]
 refine { sv:=?_,inj:=?_,gl:=?_,apart:=?_,size:=?_,yV:=?_,own:=?_,fix:=?_,qq:=?_,g0:=h.g0,gn:=h.gn,os:=h.os,out:=h.out,tape:=h.tape,x:=h.x.alloc h.size hf hρ PY (λ_ _=>rfl) }
 ·intro k e' hk;by_cases q:k=nm
  ·subst q;simp[fC.set] at hk;subst hk;exact he
  simp[fC.set,q] at hk;exact (h.sv k e' hk).le hle q (λ_ _ _=>rfl) (λj hj=>by subst hj;exact hc k e' hk) (λb hb=>tE w _ ((h.sv k e' hk).lt hb))
 ·exact yC8
 ·exact h.gl.le hle rfl (λb ys hb=>tE w _ (h.gl.lt hb))
 ·intro k b e' hk hka hb;by_cases q:k=nm
  ·subst q;rw[PY] at hb;cases hb;exact h.gl.fresh
  rw[hρ k q] at hb;exact h.apart k b e' Zc hka hb
 ·rw[World.size_alloc];exact Nat.le_succ_of_le h.size
 ·intro b hb ho;rw[tE w _ (lx hb h.size)];exact h.yV b hb ho
 ·exact aio
 ·exact aeq
 intro k b hk;have q:k≠nm:=λq=>by subst q;rw[hf] at hk;cases hk
 have:(g.bind nm w.heap.size cap).cp k=g.cp k:=by simp[Gh.bind,q]
 rw[this];exact h.qq k b hk
def Rel.VD (h:Rel E g σ w) {el:TypeId} (hl:ys.length<=cs.size) (hp:vk (g.iS w.heap.size ys) ys (cs.toList.take ys.length)):Rel E (g.iS w.heap.size ys) σ (w.alloc (.cells cs el (0,0))):=by
 have hle:xf (λ_=>False) g (g.iS w.heap.size ys):=qQ g _ ys h.gl.fresh;refine { sv:=?_,inj:=h.inj,gl:=?_,apart:=?_,size:=?_,yV:=?_,own:=h.own,fix:=h.fix,qq:=h.qq,g0:=?_,gn:=?_,os:=h.os,out:=h.out,tape:=h.tape,x:=h.x.Ol h.size rfl (λb q=>by simp[Gh.iS,q]) }
 ·intro k e hk;exact (h.sv k e hk).le hle (λq=>q) (λb hb _=>by
   have:=(h.sv k e hk).lt hb;simp[Gh.iS,Nat.ne_of_lt this]) (λ_ q=>q.elim) (λb hb=>tE w _ ((h.sv k e hk).lt hb))
 ·intro b zs hb;by_cases q:b=w.heap.size
  ·subst q;simp[Gh.iS] at hb;subst hb;exact ⟨cs,el,(0,0),heap_alloc_new w _,hl,hp⟩
  simp[Gh.iS,q] at hb;obtain ⟨c,e,f,h1,h2,h3⟩:=h.gl b zs hb;exact ⟨c,e,f,by rw[tE w _ (h.gl.lt hb)];exact h1,h2,h3.le hle⟩
 ·intro k b e' hk hka hb;have:=(h.sv k e' hk).lt hb;have q:b≠w.heap.size:=Nat.ne_of_lt this;simp only[Gh.iS,q,if_false];exact h.apart k b e' hk hka hb
 ·rw[World.size_alloc];exact Nat.le_succ_of_le h.size
 ·intro b hb ho;rw[tE w _ (lx hb h.size)];exact h.yV b hb ho
 ·intro b zs hb;obtain ⟨us,h1⟩:=h.g0 b zs hb;obtain ⟨vs,h2⟩:=hle.G b _ h1;exact ad9
 intro b zs hb;by_cases q:b=w.heap.size
 ·subst q;exact .inr (.inr h.size)
 simp[Gh.iS,q] at hb;exact h.gn b zs hb
def Rel.frozen (h:Rel E g σ w) {el:TypeId} (hl:ys.length<=cs.size) (hp:vk g ys (cs.toList.take ys.length)):Rel E (g.iS w.heap.size ys) σ (w.alloc (.cells cs el (0,0))):=
 h.VD hl (hp.le (nn:=λ_=>False) (qQ g _ ys h.gl.fresh))
def Rel.write (h:Rel E g σ w) {e0:cV} (Fc:σ k=some e0) (ha0:e0.isApp=false) (hb:g.ρ k=some b) (he:rC g (w.setRow b cs) k e) (Ma:∃ (IN:Array Value) (el:TypeId) (fz:Nat×Nat),w.heap[b]?=some (.cells IN el fz)/\cs.size=IN.size/\((∃ k',E.fix k'=some b)->Flat IN->Flat cs)) (hbx:(∃ cs,e0=.box cs)->∃ cs,e=.box cs):Rel E g (σ.set k e) (w.setRow b cs):=by
 have hk:(σ k).isSome=true:=by rw[Fc];rfl
 have hs:∀ j,(σ.set k e j).isSome=true->(σ j).isSome=true:=λj hj=>by
  by_cases q:j=k
  ·subst q;exact hk
  simpa[fC.set,q] using hj
 refine { sv:=?_,inj:=?_,gl:=?_,apart:=?_,size:=?_,yV:=?_,own:=?_,fix:=h.fix,qq:=h.qq,g0:=h.g0,gn:=h.gn,os:=h.os,out:=h.out,tape:=h.tape,x:=(let ⟨_,_,_,q1,q2,q3⟩:=Ma;h.x.write hk hb rfl q1 q2 (λe1 q q'=>hbx (by rw[Fc] at q;cases q;exact q')) (λ_ _=>rfl) (.inr rfl) q3) }
 ·intro j e' hj;by_cases q:j=k
  ·subst q;simp[fC.set] at hj;subst hj;exact he
  simp[fC.set,q] at hj;refine (h.sv j e' hj).le (xf.refl (λ_=>False) g) (λq=>q) (λ_ _ _=>rfl) (λ_ q=>q.elim) (λc hc=>setRow_other w b c cs ?_);intro hcb;subst hcb;exact q (h.inj j k c (by rw[hj];rfl) hk hc hb)
 ·exact λj j' c hj zT=>h.inj j j' c (hs j hj) (hs j' zT)
 ·exact h.gl.le (xf.refl (λ_=>False) g) rfl (λc ys hc=>setRow_other w b c cs (by
   intro q;subst q;rw[h.apart k c e0 Fc ha0 hb] at hc;cases hc))
 ·intro j c e' hj hja hc;by_cases q:j=k
  ·subst q;exact h.apart j c e0 Fc ha0 hc
  exact h.apart j c e' U4 hja hc
 ·simpa using h.size
 ·intro c hc ho;have hcb:c≠b:=by
   intro q;subst q;rcases h.own k c hk hb with q|q
   ·exact ho q
   exact ao hc (rQ.2 q)
  rw[setRow_other w b c cs hcb];exact h.yV c hc ho
 exact λj c hj hc=>h.own j c (hs j hj) hc
def Rel.drew (h:Rel E g σ w):Rel E g σ w.drew:=
 {
  sv:=λk e hk=>rC.le (w:=w) (w':=w.drew) (xf.refl (λ_=>False) g) (λq=>q) (λ_ _ _=>rfl) (λ_ q=>q.elim) (λ_ _=>rfl) (h.sv k e hk)
  inj:=h.inj,gl:=h.gl,apart:=h.apart,size:=h.size,yV:=h.yV,own:=h.own,fix:=h.fix,qq:=h.qq,g0:=h.g0,gn:=h.gn,os:=h.os,out:=h.out,tape:=h.tape,x:=h.x.F0 rfl rfl (λk b hk hb=>⟨k,hk,hb,.inl rfl⟩) (λk b e' _ hk=>⟨e',hk,id⟩) }
def Gh.alias (g:Gh) (nm k:Nat):Gh:={ g with ρ:=λj=>if j=nm then g.ρ k else g.ρ j,cp:=λj=>if j=nm then g.cp k else g.cp j }
def xf.alias (g:Gh) (nm k:Nat):xf (·=nm) g (g.alias nm k):=
 ⟨λj hj=>by simp[Gh.alias,hj],λj hj=>by simp[Gh.alias,hj],λ_ _ h=>Gh.QO h⟩
def Rel.rename (h:Rel E g σ w) (hk:σ k=some e) (hc:(σ.del k).clear nm) (he:AV.jh.kJ nm e.cells=false) (hf:E.fix nm=none) (hnb:∀ cs,e≠.box cs):Rel E (g.alias nm k) ((σ.del k).set nm e) w:=by
 have hle:=xf.alias g nm k;have hn:(g.alias nm k).ρ nm=g.ρ k:=by simp[Gh.alias]
 have ho:∀ j,j≠nm->(g.alias nm k).ρ j=g.ρ j:=λj q=>by simp[Gh.alias,q]
 have hkk:(σ k).isSome=true:=by rw[hk];rfl
 have key:∀ j,(((σ.del k).set nm e) j).isSome=true->∃ i,(σ i).isSome=true/\(g.alias nm k).ρ j=g.ρ i/\(j=nm->i=k)/\(j≠nm->i=j/\i≠k):=λj hj=>by
  by_cases q:j=nm
  ·subst q;exact ⟨k,hkk,hn,λ_=>rfl,λq=>ao rfl q⟩
  by_cases q':j=k
  ·subst q';simp[fC.set,fC.del,q] at hj
  simp[fC.set,fC.del,q,q'] at hj;exact ⟨j,hj,ho j q,λq2=>ao q2 q,λ_=>⟨rfl,q'⟩⟩
 refine { sv:=?_,inj:=?_,gl:=?_,apart:=?_,size:=h.size,yV:=h.yV,own:=?_,fix:=?_,qq:=?_,g0:=h.g0,gn:=h.gn,os:=h.os,out:=h.out,tape:=h.tape,x:=h.x.F0 rfl rfl (λj b hj hb=>(by
  obtain ⟨i,h1,h2,h3,h4⟩:=key j hj;refine ⟨i,h1,h2▸hb,?_⟩;by_cases q:j=nm
  ·have:=h3 q;subst this;exact .inr ⟨e,hk,hnb⟩
  ·exact .inl (h4 q).1)) (λj b e' hfj hj=>by
  have q:j≠nm:=λq=>by subst q;rw[hf] at hfj;cases hfj
  by_cases q':j=k
  ·subst q';simp[fC.set,fC.del,q] at hj
  simp[fC.set,fC.del,q,q'] at hj;exact ⟨e',hj,id⟩) }
 ·intro j e' hj;by_cases q:j=nm
  ·subst q;simp[fC.set] at hj;subst hj;have Jz:(g.alias j k).cp j=g.cp k:=by simp[Gh.alias]
   cases h.sv k e hk with
   | box h1 h2 h3 h4=>exact .box (hn.trans h1) h2 (h3.le hle λi q=>by subst q;exact he) h4
   | Bm h1=>exact .Bm (hn.trans h1)
   | arr h1 h2 h3 h4 h5 h6=>exact .arr (hn.trans h1) h2 h3 (by rw[Jz];exact h4) (by rw[Jz];exact h5) (h6.le hle)
   | Jb h1=>exact .Jb (hn.trans h1)
   | app h1 hG h2 h3 h4 h5 h6=>exact .app (hn.trans h1) hG h2 h3 (by rw[Jz];exact h4) (by rw[Jz];exact h5) (h6.le hle)
  have x9:(σ.del k) j=some e':=by simpa[fC.set,q] using hj
  have hj3:σ j=some e':=by
   by_cases q':j=k
   ·subst q';simp[fC.del] at x9
   simpa[fC.del,q'] using x9
  exact (h.sv j e' hj3).le hle q (λ_ _ _=>rfl) (λi q2=>by subst q2;exact hc j e' x9) (λ_ _=>rfl)
 ·intro j j' b hj zT hb x8;obtain ⟨i,hi,hr,h1,h2⟩:=key j hj;obtain ⟨i',hi',Fh,h1',h2'⟩:=key j' zT;rw[hr] at hb;rw[Fh] at x8;have hii:=h.inj i i' b hi hi' hb x8;by_cases q:j=nm
  ·by_cases q':j'=nm
   ·rw[q,q']
   have:=h1 q;have:=h2' q';omega
  by_cases q':j'=nm
  ·have:=h1' q';have:=h2 q;omega
  have:=h2 q;have:=h2' q';omega
 ·exact h.gl.le hle rfl (λ_ _ _=>rfl)
 ·intro j b e' hj hja hb;obtain ⟨i,hi,hr,h1,h2⟩:=key j (by rw[hj];rfl);rw[hr] at hb;by_cases q:j=nm
  ·have:=h1 q;subst this;subst q;simp[fC.set] at hj;subst hj;exact h.apart i b _ hk hja hb
  obtain ⟨rfl,q2⟩:=h2 q;exact h.apart i b e' (by simpa[fC.set,fC.del,q,q2] using hj) hja hb
 ·intro j b hj hb;obtain ⟨i,hi,hr,_⟩:=key j hj;rw[hr] at hb;exact h.own i b hi hb
 ·intro j b hj;have q:j≠nm:=λq=>by subst q;rw[hf] at hj;cases hj
  rw[ho j q];exact h.fix j b hj
 intro j b hj;have q:j≠nm:=λq=>by subst q;rw[hf] at hj;cases hj
 have:(g.alias nm k).cp j=g.cp j:=by simp[Gh.alias,q]
 rw[this];exact h.qq j b hj
def Rel.sub (h:Rel E g σ w) (hs:∀ k e,σ' k=some e->σ k=some e):Rel E g σ' w:=by
 have hi:∀ k,(σ' k).isSome=true->(σ k).isSome=true:=λk hk=>by
  cases q:σ' k with
  | none=>rw[q] at hk;cases hk
  | some e=>rw[hs k e q];rfl
 exact {
  sv:=λk e hk=>h.sv k e (hs k e hk),inj:=λk k' b hk F1=>h.inj k k' b (hi k hk) (hi k' F1),gl:=h.gl
  apart:=λk b e hk=>h.apart k b e (hs k e hk),size:=h.size,yV:=h.yV,own:=λk b hk=>h.own k b (hi k hk),fix:=h.fix,qq:=h.qq,g0:=h.g0,gn:=h.gn,os:=h.os,out:=h.out,tape:=h.tape,x:=h.x.F0 rfl rfl (λk b hk hb=>⟨k,hi k hk,hb,.inl rfl⟩) (λk b e' _ hk=>⟨e',hs k _ hk,id⟩) }
def Rel.QP (h:Rel E g σ w) {el:TypeId} (hc:σ.clear nm) (hf:E.fix nm=none) (hl:ys.length<=cs.size) (hz:cs.size=cap*sz) (hm:cap<=maxLen) (hp:vk (g.iS w.heap.size ys) ys (cs.toList.take ys.length)) :
  Rel E ((g.bind nm w.heap.size cap).iS w.heap.size ys) (σ.set nm (.app el sz ys)) (w.alloc (.cells cs el (0,0))):=by
 have h0:=h.VD (el:=el) hl hp
 have hle:xf (·=nm) (g.iS w.heap.size ys) ((g.bind nm w.heap.size cap).iS w.heap.size ys):=
  ⟨λj hj=>by simp[Gh.bind,Gh.iS,hj],λj hj=>by simp[Gh.bind,Gh.iS,hj],λ_ _ h=>Gh.QO h⟩
 have hρ:∀ j,j≠nm->((g.bind nm w.heap.size cap).iS w.heap.size ys).ρ j=g.ρ j:=λj q=>by simp[Gh.bind,Gh.iS,q]
 have PY:((g.bind nm w.heap.size cap).iS w.heap.size ys).ρ nm=some w.heap.size:=by simp[Gh.bind,Gh.iS]
 have uB:∀ j,(σ.set nm (.app el sz ys) j).isSome=true->j≠nm->(σ j).isSome=true:=λj hj q=>by simpa[fC.set,q] using hj
 refine { sv:=?_,inj:=?_,gl:=?_,apart:=?_,size:=h0.size,yV:=h0.yV,own:=?_,fix:=?_,qq:=?_,g0:=h0.g0,gn:=h0.gn,os:=h0.os,out:=h0.out,tape:=h0.tape,x:=h.x.alloc h.size hf hρ PY (λb q=>by simp[Gh.bind,Gh.iS,q]) }
 ·intro k e' hk
  by_cases q:k=nm
  ·subst q;simp[fC.set] at hk;subst hk
   exact .app PY Kb (heap_alloc_new w _) hl (by simpa[Gh.bind,Gh.iS] using hz) (by simpa[Gh.bind,Gh.iS] using hm) (hp.le hle)
  ·simp[fC.set,q] at hk
   exact (h0.sv k e' hk).le hle q (λ_ _ _=>rfl) (λj hj=>by subst hj;exact hc k e' hk) (λ_ _=>rfl)
 ·exact yC8
 ·exact h0.gl.le hle rfl (λ_ _ _=>rfl)
 ·intro k b e' hk hka hb
  by_cases q:k=nm
  ·subst q;simp[fC.set] at hk;subst hk;cases hka
  ·rw[hρ k q] at hb;exact h0.apart k b e' Zc hka hb
 ·exact aio
 ·exact aeq
 ·intro k b hk
  have q:k≠nm:=λq=>by subst q;rw[hf] at hk;cases hk
  have:((g.bind nm w.heap.size cap).iS w.heap.size ys).cp k=g.cp k:=by simp[Gh.bind,Gh.iS,q]
  rw[this];exact h.qq k b hk
def Gh.fresh (g:Gh) (nm b cap:Nat) (e:cV):Gh:=match e with
 | .app _ _ ys=>(g.bind nm b cap).iS b ys
 | _=>g.bind nm b cap
def xf.fresh (g:Gh) (nm b cap:Nat) (e:cV) (h:g.G b=none):xf (·=nm) g (g.fresh nm b cap e):=by
 cases e with
 | box _=>exact xI ..
 | arr _ _ _=>exact xI ..
 | app _ _ ys=>exact (xI g nm b cap).trans (qQ _ b ys (by simpa[Gh.bind] using h))
def Rel.ZU (h:Rel E g σ w) {el:TypeId} (hc:σ.clear nm) (hf:E.fix nm=none) (he:rC (g.fresh nm w.heap.size cap e) (w.alloc (.cells cs el (0,0))) nm e):Rel E (g.fresh nm w.heap.size cap e) (σ.set nm e) (w.alloc (.cells cs el (0,0))):=by
 cases e with
 | box _=>exact h.alloc hc hf he
 | arr _ _ _=>exact h.alloc hc hf he
 | app ee sz ys=>
  simp only[Gh.fresh] at he ⊢
  have hn:((g.bind nm w.heap.size cap).iS w.heap.size ys).ρ nm=some w.heap.size:=by simp[Gh.bind,Gh.iS]
  have Jz:((g.bind nm w.heap.size cap).iS w.heap.size ys).cp nm=cap:=by simp[Gh.bind,Gh.iS]
  cases he with
  | Jb h=>rw[hn] at h;cases h
  | app h1 hG hw hl hz hm hp=>
   rw[hn] at h1;cases h1
   rw[heap_alloc_new w _] at hw
   cases hw
   rw[Jz] at hz hm
   exact h.QP hc hf hl hz hm (s5 (g:=(g.bind nm w.heap.size cap).iS w.heap.size ys) (g':=g.iS w.heap.size ys) (λ_ _ q=>q) hp)
def Rel.extend (h:Rel E g σ w) {el:TypeId} {us:List PV} (hk:σ k=some (.app el sz ys)) (hb:g.ρ k=some b) (hl:(ys++us).length<=cs.size) (hz:cs.size=g.cp k*sz) (hel:∃ IN,w.heap[b]?=some (.cells IN el (0,0))) (hp:vk g (ys++us) (cs.toList.take (ys++us).length)) :
  Rel E (g.iS b (ys++us)) (σ.set k (.app el sz (ys++us))) (w.setRow b cs):=by
 obtain ⟨IN,P1⟩:=hel
 have hG:g.G b=some ys:=by
  cases h.sv k _ hk with
  | Jb h1=>rw[h1] at hb;cases hb
  | app h1 hG=>rw[h1] at hb;cases hb;exact hG
 have hcm:g.cp k<=maxLen:=by
  cases h.sv k _ hk with
  | Jb h1=>rw[h1] at hb;cases hb
  | app h1 hG _ _ _ hm=>exact hm
 have hsz0:∀ {IN:Array Value},w.heap[b]?=some (.cells IN el (0,0))->IN.size=g.cp k*sz:=λ{IN} P1=>by
  cases h.sv k _ hk with
  | Jb h1=>rw[h1] at hb;cases hb
  | app h1 hG hw1 _ hz1 _=>rw[h1] at hb;cases hb;rw[P1] at hw1;cases hw1;exact hz1
 have xM:(σ k).isSome=true:=by rw[hk];rfl
 have hle:xf (λ_=>False) g (g.iS b (ys++us)):=xf.grow g b ys us hG
 have hs:∀ j,(σ.set k (.app el sz (ys++us)) j).isSome=true->(σ j).isSome=true:=λj hj=>by
  by_cases q:j=k
  ·subst q;exact xM
  ·simpa[fC.set,q] using hj
 have hGo:∀ c,c≠b->(g.iS b (ys++us)).G c=g.G c:=λc q=>by simp[Gh.iS,q]
 have On:(w.setRow b cs).heap[b]?=some (.cells cs el (0,0)):=setRow_heap w b IN cs el _ P1
 refine { sv:=?_,inj:=?_,gl:=?_,apart:=?_,size:=?_,yV:=?_,own:=?_,fix:=h.fix,qq:=h.qq,g0:=?_,gn:=?_,os:=h.os,out:=h.out,tape:=h.tape,x:=h.x.write xM hb rfl P1 (hz.trans (hsz0 P1).symm) (λe0 q q'=>(by rw[hk] at q;cases q;obtain ⟨_,q'⟩:=q';cases q')) (λc q=>hGo c q) (.inl λk' q=>(by
   have h1:=h.x.xQ k' b q
   rw[hG] at h1;cases h1)) (λ⟨k',q⟩=>(by
   have h1:=h.x.xQ k' b q
   rw[hG] at h1;cases h1)) }
 ·intro j e' hj
  by_cases q:j=k
  ·subst q;simp[fC.set] at hj;subst hj
   exact .app hb Kb On hl hz hcm (hp.le hle)
  ·simp[fC.set,q] at hj
   have uB:∀ c,g.ρ j=some c->c≠b:=λc hc hcb=>by
    subst hcb
    exact q (h.inj j k c (by rw[hj];rfl) xM hc hb)
   exact (h.sv j e' hj).le hle (λq=>q) (λc hc _=>hGo c (uB c hc)) (λ_ q=>q.elim) (λc hc=>setRow_other w b c cs (uB c hc))
 ·exact λj j' c hj zT=>h.inj j j' c (hs j hj) (hs j' zT)
 ·intro c zs hc
  by_cases q:c=b
  ·subst q
   simp[Gh.iS] at hc;subst hc
   exact ⟨cs,el,(0,0),On,hl,hp.le hle⟩
  ·rw[hGo c q] at hc
   obtain ⟨c1,e1,f1,h1,h2,h3⟩:=h.gl c zs hc
   exact ⟨c1,e1,f1,by rw[setRow_other w b c cs q];exact h1,h2,h3.le hle⟩
 ·intro j c e' hj hja hc
  by_cases q:j=k
  ·subst q;simp[fC.set] at hj;subst hj;cases hja
  ·have zT:σ j=some e':=by simpa[fC.set,q] using hj
   have:c≠b:=λhcb=>by
    subst hcb
    exact q (h.inj j k c (by rw[zT];rfl) xM hc hb)
   rw[hGo c this];exact h.apart j c e' zT hja hc
 ·simpa using h.size
 ·intro c hc ho
  have hcb:c≠b:=by
   intro q;subst q
   rcases h.own k c xM hb with q|q
   ·exact ho q
   ·exact ao hc (rQ.2 q)
  rw[setRow_other w b c cs hcb];exact h.yV c hc ho
 ·exact λj c hj hc=>h.own j c (hs j hj) hc
 ·intro c zs hc
  obtain ⟨us',h1⟩:=h.g0 c zs hc
  obtain ⟨vs,h2⟩:=hle.G c _ h1
  exact ⟨us'++vs,by rw[h2,fY]⟩
 ·intro c zs hc
  by_cases q:c=b
  ·subst q
   rcases h.own k c xM hb with q|q
   ·exact .inr (.inl q)
   ·exact .inr (.inr q)
  ·rw[hGo c q] at hc;exact h.gn c zs hc
end
section
def ak8:TypeDesc->Bool
 | .struct _|.array _ _=>true
 | _=>false
def Mb (P:Program) (t:TypeId):Option Nat:=(P.info? t).map (·.size)
def AN (P:Program) (t:TypeId):Option Bool:=(P.underlying t).map ak8
def tfo (P:Program) (s:TypeId) (f:Nat):Option Nat:=
 match P.underlying s with
 | some (.struct fs)=>match fs[f]? with
  | some fd=>match Mb P fd.type with
   | some (_+1)=>some fd.offset
   | _=>none
  | none=>none
 | _=>none
def tel (P:Program) (t:TypeId):Option (TypeId×Nat):=
 match P.underlying t with
 | some (.slice e)=>(Mb P e).map (e,·)
 | _=>none
def ZV (P:Program) (t:TypeId):Option (Nat×Nat):=
 match P.underlying t with
 | some (.array n e)=>(Mb P e).map (n,·)
 | _=>none
def VE (P:Program) (t:TypeId):Option (List Value):=(P.info? t).bind λi=>i.zero.bind λz=>match z.cells.toList.all Value.oneCell' with
 | true=>some z.cells.toList
 | false=>none
variable {P:Program} {g:Gh} {cells:List PV} {i:Int}
def vU (h:Mb P t=some n) (w:World):(sizeOf t).run P w=.ok n w:=by
 unfold Mb at h;cases hi:P.info? t with
 | none=>simp[hi] at h
 | some i=>simp[hi] at h;subst h;simp[sizeOf,typeInfo,hi]
def AH {b:Bool} (h:AN P t=some b) (w:World):(isAgg t).run P w=.ok b w:=by
 unfold AN at h;cases hd:P.underlying t with
 | none=>simp[hd] at h
 | some d=>
  simp[hd] at h;subst h
  simp only[isAgg,cF,run_underlying hd,bR]
  cases d<;>rfl
variable {fz:Nat×Nat}
def Eu {el:TypeId} (ht:Mb P t=some n) (ha:AN P t=some true) (hw:w.heap[b]?=some (.cells cs el fz)) (hn:off+n<=cs.size):(loadVar t ⟨b,off,none⟩).run P w=.ok (.agg ((cs.toList.drop off).take n).toArray) w:=by
 have hl:=run_loadCells_list (P:=P) w ⟨b,off,none⟩ ((cs.toList.drop off).take n) (λj v hj=>by
  rw[sC,cell_of_row w b _ cs el fz hw];rw[hY] at hj;split at hj
  ·rw[dD] at hj;simpa using hj
  cases hj)
 have hlen:((cs.toList.drop off).take n).length=n:=by simp;omega
 rw[hlen] at hl;simp[loadVar,AH ha,vU ht,hl]
def Bv {el:TypeId} (ha:AN P t=some false) (hw:w.heap[b]?=some (.cells cs el fz)) (hv:cs.toList[off]?=some v):(loadVar t ⟨b,off,none⟩).run P w=.ok v w:=by
 have:=cell_of_row w b off cs el fz hw;have GU:cs[off]?=some v:=by simpa using hv
 rw[GU] at this;simp[loadVar,AH ha,this]
def X (P:Program) (op:Op) (fr:k9) (rd:List (Nat×cV)) (v:AV):Prop:=
 ∀ (o:Oper),o.op=op->∀ (g:Gh) (ev:Operand->Value) (w:World),Vz g w->(∀ x,x∈op.operands->VR g (fr.val x) (ev x))->
  (∀ p,p∈rd->rC g w p.1 p.2)->∃ c,(execOp ev o).run P w=.ok (.value c) w/\VR g v c
abbrev I (n:Int):AV:=.pv (.sc (.int .i64 n))
abbrev Bo (b:Bool):AV:=.pv (.sc (.bool b))
def S (l:ByS):Value:=.string ⟨l.toArray⟩
abbrev eu (l:ByS):AV:=.pv (.sc (S l))
abbrev Sc (v:Value):AV:=.pv (.sc v)
abbrev nSl:AV:=Sc (.slice none 0 0)
def VR.iv (h:VR g (Sc v) c):c=v:=by
 cases h with|pv h=>cases h with|sc=>rfl
def qB:=@VR.iv
def VR.sc (g:Gh) (v:Value):VR g (Sc v) v:=.pv (.sc v)
section
variable {fr:k9}
def Ŷ (x:Operand):X P (.move x) fr [] (fr.val x):=by
 intro o ho g ev w _ hx _;exact acX
def Nc (x:Operand):X P (.assign x) fr [] (fr.val x):=by
 intro o ho g ev w _ hx _;exact acX
variable {a:Operand}
def VF {c b:Operand} {t:Bool} (hc:fr.val c=Bo t):X P (.pick c a b) fr [] (if t then fr.val a else fr.val b):=by
 intro o ho g ev w _ hx _;have h1:=hx c vd;rw[hc] at h1;refine ⟨if t then ev a else ev b,by simp[execOp,ho,h1.iv,asBool],?_⟩;cases t
 ·exact hx b vd
 exact hx a vd
def Jc (h:fr.val x=.ptr k off):X P (.nilCheck x) fr [] (.ptr k off):=by
 intro o ho g ev w _ hx _;have h1:=hx x vd;rw[h] at h1;generalize hq:ev x=c at h1;refine ⟨c,?_,h1⟩;cases h1 with|ptr _ hk=>simp[execOp,ho,hq]
def Kr (h:fr.val x=.sp cells):X P (.nilCheck x) fr [] (.sp cells):=by
 intro o ho g ev w _ hx _;have h1:=hx x vd;rw[h] at h1;generalize hq:ev x=c at h1;refine ⟨c,?_,h1⟩;cases h1 with|sp _ hk=>simp[execOp,ho,hq]
def Ks {f:FuncId} {a b:List AV} (h:fr.val x=.fn f a b):X P (.nilCheck x) fr [] (.fn f a b):=by
 intro o ho g ev w _ hx _;have h1:=hx x vd;rw[h] at h1;generalize hq:ev x=c at h1;refine ⟨c,?_,h1⟩;cases h1 with|fn _ hk=>simp[execOp,ho,hq]
def IP (h:tfo P s f=some d) (w:World) :
  (Instr.fieldAt s (.pointer (some ⟨b,off,none⟩)) f).run P w=.ok (.pointer (some ⟨b,off+d,none⟩)) w:=by
 unfold tfo at h
 split at h
 ·rename_i fs hs
  split at h
  ·rename_i fd hf
   split at h
   ·rename_i n hn
    cases h
    simp[Instr.fieldAt,run_underlying hs,hf,Instr.sureAddr,fieldPlace,vU hn,sC]
   ·cases h
  ·cases h
 ·cases h
def Oo (h:tfo P s f=some d) (hx:fr.val x=.ptr k off):X P (.fieldAddr s x f) fr [] (.ptr k (off+d)):=by
 intro o ho g ev w _ hv _;have h1:=hv x vd;rw[hx] at h1;generalize hq:ev x=c at h1;cases h1 with
 | ptr _ hk=>
  rename_i b
  refine ⟨_,?_,.ptr (off+d) hk⟩
  simp[execOp,ho,hq,IP h]
def Jd (h:tfo P s f=some d) (hx:fr.val x=.sp cells) (hd:d<=cells.length) :
  X P (.fieldAddr s x f) fr [] (.sp (cells.drop d)):=by
 intro o ho g ev w _ hv _
 have h1:=hv x vd;rw[hx] at h1
 generalize hq:ev x=c at h1
 cases h1 with
 | sp off hk hl hc=>
  rename_i b ys
  refine ⟨_,?_,.sp (off+d) hk ?_ ?_⟩
  ·simp[execOp,ho,hq,IP h]
  ·simp;omega
  ·rw[hc,oK,kF];simp
def JA (h:tel P t=some (e,sz)):P.underlying t=some (.slice e)/\Mb P e=some sz:=by
 unfold tel at h;split at h
 ·rename_i e' he;cases hs:Mb P e' with
  | none=>simp[hs] at h
  | some n=>simp[hs] at h;obtain ⟨rfl,rfl⟩:=h;exact ⟨he,hs⟩
 cases h
def ZW (h:ZV P t=some (n,sz)):∃ e,P.underlying t=some (.array n e)/\Mb P e=some sz:=by
 unfold ZV at h;split at h
 ·rename_i m e' he;cases hs:Mb P e' with
  | none=>simp[hs] at h
  | some n=>simp[hs] at h;obtain ⟨rfl,rfl⟩:=h;exact ⟨e',he,hs⟩
 cases h
def IQ {cap:Nat} {k:IntKind} (h:tel P t=some (e,sz)) (h0:0<=i) (h1:i<n) (w:World) :
  (Instr.indexAt t (.slice (some ⟨b,off,none⟩) n cap) (.int k i)).run P w=.ok (.pointer (some ⟨b,off+i.toNat*sz,none⟩)) w:=by
 obtain ⟨hu,hs⟩:=JA h
 simp[Instr.indexAt,asIntOf,run_underlying hu,h0,h1,vU hs,sC]
def Je {k:IntKind} (h:ZV P t=some (n,sz)) (h0:0<=i) (h1:i<n) (w:World) :
  (Instr.indexAt t (.pointer (some ⟨b,off,none⟩)) (.int k i)).run P w=.ok (.pointer (some ⟨b,off+i.toNat*sz,none⟩)) w:=by
 obtain ⟨e,hu,hs⟩:=ZW h
 simp[Instr.indexAt,asIntOf,run_underlying hu,h0,h1,vU hs,sC,Instr.sureAddr]
def Jf {k:IntKind} (h:tel P t=some (e,sz)) (hx:fr.val x=.pv (.sl n cells)) (hi:fr.val ix=Sc (.int k i)) (h0:0<=i) (h1:i<n) (h2:i.toNat*sz<=cells.length):X P (.indexAddr t x ix) fr [] (.sp (cells.drop (i.toNat*sz))):=by
 intro o ho g ev w _ hv _;have q1:=hv x vd;rw[hx] at q1;have q2:=hv ix vd;rw[hi] at q2;generalize hq:ev x=c at q1;cases q1 with
 | pv q1=>
  cases q1 with
  | nil a cap=>omega
  | sl b ys off _ cap _ hb hl hc hn=>
   refine ⟨_,?_,.sp (off+i.toNat*sz) hb ?_ ?_⟩
   ·simp[execOp,ho,hq,q2.iv,IQ h h0 h1]
   ·simp;omega
   ·rw[hc,oK,kF];simp
def HY {k:IntKind} (h:tel P t=some (e,sz)) (hx:fr.val x=.arr kk n) (hi:fr.val ix=Sc (.int k i)) (h0:0<=i) (h1:i<n):X P (.indexAddr t x ix) fr [] (.ptr kk (i.toNat*sz)):=by
 intro o ho g ev w _ hv _;have q1:=hv x vd;rw[hx] at q1;have q2:=hv ix vd;rw[hi] at q2;generalize hq:ev x=c at q1;cases q1 with
 | arr _ hk=>
  rename_i b
  have:=VR.ptr (g:=g) (i.toNat*sz) hk
  refine ⟨_,?_,this⟩
  simp[execOp,ho,hq,q2.iv,IQ h h0 h1]
 | Bm=>omega
def HZ {k:IntKind} (h:ZV P t=some (n,sz)) (hx:fr.val x=.ptr kk off) (hi:fr.val ix=Sc (.int k i)) (h0:0<=i) (h1:i<n):X P (.indexAddr t x ix) fr [] (.ptr kk (off+i.toNat*sz)):=by
 intro o ho g ev w _ hv _;have q1:=hv x vd;rw[hx] at q1;have q2:=hv ix vd;rw[hi] at q2;generalize hq:ev x=c at q1;cases q1 with
 | ptr _ hk=>
  rename_i b
  refine ⟨_,?_,.ptr (off+i.toNat*sz) hk⟩
  simp[execOp,ho,hq,q2.iv,Je h h0 h1]
def rC.at {e:cV} (h:rC g w k e) (hb:g.ρ k=some b) :
  ∃ cs el,w.heap[b]?=some (.cells cs el (0,0))/\e.cells.length<=cs.size/\M g e.cells (cs.toList.take e.cells.length):=by
 cases h with
 | box h hw hc=>
  rw[h] at hb;cases hb
  have hl:=hc.length
  refine ⟨_,_,hw,by simp[cV.cells,hl],?_⟩
  rw[dM (by simp[cV.cells,hl])];exact hc
 | Bm h=>rw[h] at hb;cases hb
 | arr h hw hl hz hm hc=>rw[h] at hb;cases hb;exact ag9
 | Jb h=>rw[h] at hb;cases hb
 | app h hG hw hl hz hm hc=>rw[h] at hb;cases hb;exact ag9
def VR.view {el:TypeId} (h:VR g (.arr k n) c) (hE:rC g w k (.app el sz cells)) (hz:0<sz) (hn:cells.length=n*sz) :
  VR g (.pv (.sl n cells)) c:=by
 cases h with
 | arr _ hb=>
  cases hE with
  | Jb h=>rw[h] at hb;cases hb
  | app h hG hw hl xJ hm hc=>
   rw[h] at hb;cases hb
   refine .pv (.sl _ cells 0 n _ cells hG bn bn ?_)
   have:n*sz<=g.cp k*sz:=by rw[<- hn,<- xJ];exact hl
   exact mT this hz
 | Bm hb=>
  have h0:cells=[]:=fh (by simpa using hn)
  subst h0;exact .pv (.nil _ _)
def Oq {el:TypeId} (hx:fr.val x=.arr k n) (hz:0<sz) (hn:cells.length=n*sz) :
  X P (.move x) fr [(k,.app el sz cells)] (.pv (.sl n cells)):=by
 intro o ho g ev w _ hv hr
 have q:=hv x vd;rw[hx] at q
 have hE:=hr (k,.app el sz cells) bn
 exact ⟨_,by simp[execOp,ho],q.view hE hz hn⟩
def Ot {j:Nat} {el:TypeId} {e:cV} (ha:AN P t=some false) (hx:fr.val x=.ptr k off) (hv:e.cells[off]?=some (.arr j n)) (hz:0<sz) (hn:cells.length=n*sz):X P (.load t x) fr [(k,e),(j,.app el sz cells)] (.pv (.sl n cells)):=by
 intro o ho g ev w hG tw hr;have hload:∃ c,(execOp ev o).run P w=.ok (.value c) w/\VR g (.arr j n) c:=by
  have q:=tw x vd;rw[hx] at q;generalize hq:ev x=c at q;cases q with
  | ptr _ hb=>
   obtain ⟨cs,el,hw,hl,hc⟩:=(hr (k,e) bn).at hb
   obtain ⟨c,hc1,PX⟩:=hc.get off _ hv
   exact ah1
 obtain ⟨c,h1,h2⟩:=hload;exact ahB
def QQ {e:cV} (ht:Mb P t=some n) (ha:AN P t=some true) (hx:fr.val x=.ptr k off) (hn:off+n<=e.cells.length):X P (.load t x) fr [(k,e)] (.agg ((e.cells.drop off).take n)):=by
 intro o ho g ev w _ hv hr;have q:=hv x vd;rw[hx] at q;generalize hq:ev x=c at q;cases q with
 | ptr _ hk=>
  rename_i b
  obtain ⟨cs,el,hw,hl,hc⟩:=(hr (k,e) bn).at hk
  have Ms:off+n<=cs.size:=by simp only at hl;omega
  refine ⟨.agg ((cs.toList.drop off).take n).toArray,?_,?_⟩
  ·simp only[execOp,ho,hq,Instr.loadAt,Instr.sureAddr,cF,eF,bR,Eu ht ha hw Ms]
  ·simp only at hc;have:=(hc.drop off).take n;rw[oK,sD,tM aB] at this;exact .agg this
def Ew {e:cV} {v:AV} (ha:AN P t=some false) (hx:fr.val x=.ptr k off) (hn:e.cells[off]?=some v):X P (.load t x) fr [(k,e)] v:=by
 intro o ho g ev w _ hv hr;have q:=hv x vd;rw[hx] at q;generalize hq:ev x=c at q;cases q with
 | ptr _ hk=>
  rename_i b
  obtain ⟨cs,el,hw,hl,hc⟩:=(hr (k,e) bn).at hk
  obtain ⟨c,hc1,PX⟩:=hc.get off v hn
  exact ah1
def VG (hG:Vz g w) {ys:List PV} (h:g.G b=some ys) (hl:off+cells.length<=ys.length) (hc:cells=(ys.drop off).take cells.length):∃ cs el fz,w.heap[b]?=some (.cells cs el fz)/\off+cells.length<=cs.size/\vk g cells ((cs.toList.drop off).take cells.length):=by
 obtain ⟨cs,el,fz,hw,h1,h2⟩:=hG b ys h;refine ⟨cs,el,fz,hw,aB,?_⟩;have:=(h2.drop off).take cells.length;rw[<- hc,oK,sD,tM aB] at this;exact this
def Kt (ht:Mb P t=some n) (ha:AN P t=some true) (hx:fr.val x=.sp cells) (hn:n<=cells.length):X P (.load t x) fr [] (.agg ((cells.take n).map .pv)):=by
 intro o ho g ev w hG hv _;have q:=hv x vd;rw[hx] at q;generalize hq:ev x=c at q;cases q with
 | sp off h hl hc=>
  rename_i b ys
  obtain ⟨cs,el,fz,hw,h1,h2⟩:=VG hG h hl hc
  refine ⟨.agg ((cs.toList.drop off).take n).toArray,?_,?_⟩
  ·simp only[execOp,ho,hq,Instr.loadAt,Instr.sureAddr,cF,eF,bR,Eu ht ha hw (show off+n<=cs.size by omega)]
  ·have:=h2.take n;rw[sD,tM hn] at this;exact .agg this.vrs
def Ku {p:PV} (ha:AN P t=some false) (hx:fr.val x=.sp cells) (hn:cells[0]?=some p):X P (.load t x) fr [] (.pv p):=by
 intro o ho g ev w hG hv _;have q:=hv x vd;rw[hx] at q;generalize hq:ev x=c at q;cases q with
 | sp off h hl hc=>
  rename_i b ys
  obtain ⟨cs,el,fz,hw,h1,h2⟩:=VG hG h hl hc
  obtain ⟨c,hc1,PX⟩:=h2.get 0 p hn
  have hc3:cs.toList[off]?=some c:=by
   rw[hY] at hc1;split at hc1
   ·simpa using hc1
   cases hc1
  refine ⟨c,?_,.pv PX⟩
  simp only[execOp,ho,hq,Instr.loadAt,Instr.sureAddr,cF,eF,bR,Bv ha hw hc3]
end
end
section
variable {P:Program} {fr:k9}
variable {op:BinOp} {y:Operand} {a b:Int} {k k':IntKind} {i:Int} {l:ByS} {j:Int} {v:AV}
def yZ {a b:Value} (hx:fr.val x=Sc a) (hy:fr.val y=Sc b) (hg:∀ w,(eqGuard op xt x y a b).run P w=.ok () w) (h:∀ w,(binOp op xt a b).run P w=.ok c w):X P (.binOp op xt x y yt) fr [] (Sc c):=by
 intro o ho g ev w _ hv _;have q1:=hv x vd;rw[hx] at q1;have q2:=hv y vd;rw[hy] at q2;refine ⟨c,?_,.sc g c⟩;simp[execOp,ho,q1.iv,q2.iv,hg,h]
def yb (op:BinOp) (t:TypeId) (x y:Operand) (k k':IntKind) (a b:Int) (w:World):(eqGuard op t x y (.int k a) (.int k' b)).run P w=.ok () w:=by
 cases op<;>rfl
def Ey (op:BinOp) (t:TypeId) (x y:Operand) (a b:ByS) (w:World):(eqGuard op t x y (S a) (S b)).run P w=.ok () w:=by
 cases op<;>rfl
def G5 (op:BinOp) (t:TypeId) (x y:Operand) (a b:Bool) (w:World):(eqGuard op t x y (.bool a) (.bool b)).run P w=.ok () w:=by
 cases op<;>rfl
def BF (op:BinOp) (t:TypeId) (x y:Operand) (a:Option Addr) (b:Value) (w:World):(eqGuard op t x y (.pointer a) b).run P w=.ok () w:=by
 cases op<;>rfl
def ŷ:BinOp->Int->Int->Option Bool
 | .eql,a,b=>some (a==b)
 | .neq,a,b=>some (a !=b)
 | .lss,a,b=>some (decide (a<b))
 | .leq,a,b=>some (decide (a<=b))
 | .gtr,a,b=>some (decide (b<a))
 | .geq,a,b=>some (decide (b<=a))
 | _,_,_=>none
def Ÿ {r:Bool} (hx:fr.val x=Sc (.int k a)) (hy:fr.val y=Sc (.int k b)) (h:ŷ op a b=some r):X P (.binOp op xt x y yt) fr [] (Bo r):=by
 refine yZ hx hy (yb op xt x y k k a b) λw=>?_;cases op<;>simp[ŷ] at h<;>subst h<;>simp[binOp,Op.intCmp,GT.gt,GE.ge]
def VH (hx:fr.val x=Sc (.int k a)) (hy:fr.val y=Sc (.int k b)) :
  X P (.binOp .add xt x y yt) fr [] (Sc (.int k (k.wrap (a+b)))):=
 yZ hx hy (yb _ xt x y k k a b) λw=>by simp[binOp,Op.intArith]
def VI (hx:fr.val x=Sc (.int k a)) (hy:fr.val y=Sc (.int k b)) :
  X P (.binOp .sub xt x y yt) fr [] (Sc (.int k (k.wrap (a - b)))):=
 yZ hx hy (yb _ xt x y k k a b) λw=>by simp[binOp,Op.intArith]
def Ź (hx:fr.val x=Sc (.int k a)) (hy:fr.val y=Sc (.int k b)) :
  X P (.binOp .mul xt x y yt) fr [] (Sc (.int k (k.wrap (a*b)))):=
 yZ hx hy (yb _ xt x y k k a b) λw=>by simp[binOp,Op.intArith]
def aeu (hx:fr.val x=I a) (hy:fr.val y=I b) (h:-9223372036854775808<=a+b/\a+b<=9223372036854775807) :
  X P (.binOp .add xt x y yt) fr [] (I (a+b)):=by
 have:=VH (P:=P) (xt:=xt) (yt:=yt) hx hy
 rwa [IntWalk.i64_in _ h] at this
def aev (hx:fr.val x=I a) (hy:fr.val y=I b) (h:-9223372036854775808<=a - b/\a - b<=9223372036854775807) :
  X P (.binOp .sub xt x y yt) fr [] (I (a - b)):=by
 have:=VI (P:=P) (xt:=xt) (yt:=yt) hx hy
 rwa [IntWalk.i64_in _ h] at this
def BG (hx:fr.val x=Sc (.int k a)) (hy:fr.val y=Sc (.int k' b)) (h:∀ w,(binOp op xt (.int k a) (.int k' b)).run P w=.ok c w):X P (.binOp op xt x y yt) fr [] (Sc c):=
 yZ hx hy (yb op xt x y k k' a b) h
def JZ (l:ByS):(⟨l.toArray⟩:ByteArray).size=l.length:=by simp[ByteArray.size]
def aew {a b:ByS} (hx:fr.val x=eu a) (hy:fr.val y=eu b) :
  X P (.binOp .eql xt x y yt) fr [] (Bo (a==b)):=
 yZ hx hy (Ey _ xt x y a b) λw=>by simp[binOp,Op.stringOp,S]
def aex {a b:ByS} (hx:fr.val x=eu a) (hy:fr.val y=eu b) :
  X P (.binOp .neq xt x y yt) fr [] (Bo (a !=b)):=
 yZ hx hy (Ey _ xt x y a b) λw=>by simp[binOp,Op.stringOp,S,bne]
def ZX (a b:ByS):(⟨a.toArray⟩:ByteArray)++⟨b.toArray⟩=⟨(a++b).toArray⟩:=by
 have h:((⟨a.toArray⟩:ByteArray)++⟨b.toArray⟩).data.toList=a++b:=by simp
 rw[<- Lib.mk_data ((⟨a.toArray⟩:ByteArray)++⟨b.toArray⟩),h]
def ź {a b:ByS} (hx:fr.val x=eu a) (hy:fr.val y=eu b) (h:a.length+b.length<=9223372036854775807) :
  X P (.binOp .add xt x y yt) fr [] (eu (a++b)):=by
 refine yZ hx hy (Ey _ xt x y a b) λw=>?_
 have hm:¬ (((a.length+b.length:Nat):Int)>IntKind.i64.max):=by simp[IntKind.max,IntKind.bits,IntKind.signed];omega
 simp only[S,binOp,Op.stringOp,JZ,aE hm,ZX];rfl
def run_equalIn_bool (ht:P.underlying t=some .bool) (d:Nat) (a b:Bool) (w:World) :
  (Op.equalIn (d+1) t (.bool a) (.bool b)).run P w=.ok (a==b) w:=by
 simp[Op.equalIn,run_underlying ht]
def vA {el:TypeId} (ht:P.underlying t=some (.pointer el)) (d:Nat) (b:Option Addr) (w:World) :
  (Op.equalIn (d+1) t (.pointer none) (.pointer b)).run P w=.ok b.isNone w:=by
 simp[Op.equalIn,run_underlying ht]
def yU {el:TypeId} (ht:P.underlying t=some (.pointer el)) (d:Nat) (a:Addr) (w:World) :
  (Op.equalIn (d+1) t (.pointer (some a)) (.pointer none)).run P w=.ok false w:=by
 simp[Op.equalIn,run_underlying ht]
def aey {a b:Bool} (ht:P.underlying xt=some .bool) (hx:fr.val x=Bo a) (hy:fr.val y=Bo b) :
  X P (.binOp .eql xt x y yt) fr [] (Bo (a==b)):=
 yZ hx hy (G5 _ xt x y a b) λw=>by simp only[binOp];simp[Op.equal,Op.maxDepth,run_equalIn_bool ht 9999]
def aez {a b:Bool} (ht:P.underlying xt=some .bool) (hx:fr.val x=Bo a) (hy:fr.val y=Bo b) :
  X P (.binOp .neq xt x y yt) fr [] (Bo (a !=b)):=
 yZ hx hy (G5 _ xt x y a b) λw=>by simp only[binOp];simp[Op.equal,Op.maxDepth,run_equalIn_bool ht 9999,bne]
def ZY {el:TypeId} {k:Nat} (ht:P.underlying xt=some (.pointer el)) (hx:fr.val x=.ptr k off) (hy:fr.val y=Sc (.pointer none)) :
  X P (.binOp .eql xt x y yt) fr [] (Bo false):=by
 intro o ho g ev w _ hv _
 have q1:=hv x vd;rw[hx] at q1
 have q2:=hv y vd;rw[hy] at q2
 generalize hq:ev x=c at q1
 cases q1 with
 | ptr _ hk=>exact ⟨.bool false,acu,.sc g _⟩
def ZZ {el:TypeId} {k:Nat} (ht:P.underlying xt=some (.pointer el)) (hx:fr.val x=.ptr k off) (hy:fr.val y=Sc (.pointer none)) :
  X P (.binOp .neq xt x y yt) fr [] (Bo true):=by
 intro o ho g ev w _ hv _
 have q1:=hv x vd;rw[hx] at q1
 have q2:=hv y vd;rw[hy] at q2
 generalize hq:ev x=c at q1
 cases q1 with
 | ptr _ hk=>exact ⟨.bool true,acu,.sc g _⟩
def Z0 {el:TypeId} (ht:P.underlying xt=some (.pointer el)) (hx:fr.val x=Sc (.pointer none)) (hy:fr.val y=Sc (.pointer none)) :
  X P (.binOp .eql xt x y yt) fr [] (Bo true):=
 yZ hx hy (BF _ xt x y none _) λw=>by simp only[binOp];simp[Op.equal,Op.maxDepth,vA ht 9999]
def Z1 {el:TypeId} (ht:P.underlying xt=some (.pointer el)) (hx:fr.val x=Sc (.pointer none)) (hy:fr.val y=Sc (.pointer none)) :
  X P (.binOp .neq xt x y yt) fr [] (Bo false):=
 yZ hx hy (BF _ xt x y none _) λw=>by simp only[binOp];simp[Op.equal,Op.maxDepth,vA ht 9999]
def aeA {b:Bool} (hx:fr.val x=Bo b):X P (.unOp .not t x) fr [] (Bo (!b)):=by
 intro o ho g ev w _ hv _;have q:=hv x vd;rw[hx] at q;exact ahz
def Xx {ix:Operand} {b:UInt8} (ht:P.underlying t=some .string) (hx:fr.val x=eu l) (hi:fr.val ix=Sc (.int k i)) (h0:0<=i) (hb:l[i.toNat]?=some b):X P (.index t x ix) fr [] (Sc (.int .u8 b.toNat)):=by
 intro o ho g ev w _ hv _;have q1:=hv x vd;rw[hx] at q1;have q2:=hv ix vd;rw[hi] at q2;have x8:(⟨l.toArray⟩:ByteArray)[i.toNat]?=some b:=by
  obtain ⟨h1,h2⟩:=an.1 hb;rw[getElem?_pos _ _ (by simpa[ByteArray.size] using h1)];simpa[ByteArray.getElem_eq_getElem_data] using h2
 exact ahj
def H0 (l:ByS) (a b:Nat):(⟨l.toArray⟩:ByteArray).extract a b=⟨((l.drop a).take (b - a)).toArray⟩:=by rw[Lib.extract_eq]
def wB {y:Nat} {c:BoundsCode} (h0:0<=i) (h1:i<=y) (w:World):(Instr.sliceBound (.int k i) y c).run P w=.ok i.toNat w:=by
 simp[Instr.sliceBound,asIntOf,h0,h1]
def Xy (ht:P.underlying t=some .string) (hx:fr.val x=eu l) (hl:fr.val lo=Sc (.int k i)) (hh:fr.val hi=Sc (.int k' j)) (h0:0<=i) (h1:i<=j) (h2:j<=l.length) :
  X P (.slice t x (some lo) (some hi) none) fr [] (eu ((l.drop i.toNat).take (j.toNat - i.toNat))):=by
 intro o ho g ev w _ hv _
 have q1:=hv x vd;rw[hx] at q1
 have q2:=hv lo vd;rw[hl] at q2
 have q3:=hv hi vd;rw[hh] at q3
 refine ⟨S ((l.drop i.toNat).take (j.toNat - i.toNat)),?_,.sc g _⟩
 simp[execOp,ho,q1.iv,q2.iv,q3.iv,S,Instr.sliceAt,Instr.slice,Instr.sliceBounds,run_underlying ht,JZ,
  wB (P:=P) (show (0:Int)<=j by omega) h2,wB (P:=P) h0 (show i<=(j.toNat:Nat) by omega),H0]
def Ou (ht:P.underlying t=some .string) (hx:fr.val x=eu l) (hl:fr.val lo=Sc (.int k i)) (h0:0<=i) (h2:i<=l.length) :
  X P (.slice t x (some lo) none none) fr [] (eu (l.drop i.toNat)):=by
 intro o ho g ev w _ hv _
 have q1:=hv x vd;rw[hx] at q1
 have q2:=hv lo vd;rw[hl] at q2
 have e:(l.drop i.toNat).take (l.length - i.toNat)=l.drop i.toNat:=dM bn
 refine ⟨S (l.drop i.toNat),?_,.sc g _⟩
 simp[execOp,ho,q1.iv,q2.iv,S,Instr.sliceAt,Instr.slice,Instr.sliceBounds,run_underlying ht,JZ,
  wB (P:=P) h0 h2,H0,e]
def Ov (ht:P.underlying t=some .string) (hx:fr.val x=eu l) (hh:fr.val hi=Sc (.int k j)) (h0:0<=j) (h2:j<=l.length) :
  X P (.slice t x none (some hi) none) fr [] (eu (l.take j.toNat)):=by
 intro o ho g ev w _ hv _
 have q1:=hv x vd;rw[hx] at q1
 have q3:=hv hi vd;rw[hh] at q3
 refine ⟨S (l.take j.toNat),?_,.sc g _⟩
 simp[execOp,ho,q1.iv,q3.iv,S,Instr.sliceAt,Instr.slice,Instr.sliceBounds,run_underlying ht,JZ,
  wB (P:=P) h0 h2,H0]
variable {cells:List PV}
def Ż (ht:P.underlying t=some .string) (hx:fr.val x=eu l) :
  X P (.call ⟨.builtin .len,#[x],#[t]⟩) fr [] (I l.length):=by
 intro o ho g ev w _ hv _
 have q:=hv x Qq;rw[hx] at q
 exact akU
def Z2 (ht:P.underlying t=some (.slice e)) (hx:fr.val x=.pv (.sl n cells)) :
  X P (.call ⟨.builtin .len,#[x],#[t]⟩) fr [] (I n):=by
 intro o ho g ev w _ hv _
 have q:=hv x Qq;rw[hx] at q
 generalize hq:ev x=c at q
 refine ⟨.int .i64 n,?_,.sc g _⟩
 cases q with
 | pv q=>cases q<;>simp[execOp,ho,resolve,invoke,builtin,Builtin.len_,hq,run_underlying ht,goInt]
def Xz {k:Nat} (ht:P.underlying t=some (.slice e)) (hx:fr.val x=.arr k n) :
  X P (.call ⟨.builtin .len,#[x],#[t]⟩) fr [] (I n):=by
 intro o ho g ev w _ hv _
 have q:=hv x Qq;rw[hx] at q
 generalize hq:ev x=c at q
 refine ⟨.int .i64 n,?_,.sc g _⟩
 cases q<;>simp[execOp,ho,resolve,invoke,builtin,Builtin.len_,hq,run_underlying ht,goInt]
def XA {cap:Nat} (ht:P.underlying t=some (.slice e)) (hx:fr.val x=Sc (.slice none 0 cap)) :
  X P (.call ⟨.builtin .len,#[x],#[t]⟩) fr [] (I 0):=by
 intro o ho g ev w _ hv _
 have q:=hv x Qq;rw[hx] at q
 exact ahk
def aeB (hx:fr.val x=Sc (.int k a)) (hy:fr.val y=Sc (.int k b)) :
  X P (.call ⟨.builtin .min,#[x,y],ts⟩) fr [] (Sc (.int k (if b<a then b else a))):=by
 intro o ho g ev w _ hv _
 have q1:=hv x Qq;rw[hx] at q1
 have q2:=hv y Qq;rw[hy] at q2
 exact akS
def aeC (hx:fr.val x=Sc (.int k a)) (hy:fr.val y=Sc (.int k b)) :
  X P (.call ⟨.builtin .max,#[x,y],ts⟩) fr [] (Sc (.int k (if b>a then b else a))):=by
 intro o ho g ev w _ hv _
 have q1:=hv x Qq;rw[hx] at q1
 have q2:=hv y Qq;rw[hy] at q2
 exact akT
def TI {i:Nat} {vs:List AV} (hx:fr.val x=.mE vs) (hv:vs[i]?=some v):X P (.extract x i) fr [] v:=by
 intro o ho g ev w _ hh _;have q:=hh x vd;rw[hx] at q;generalize hq:ev x=c at q;cases q with
 | mE h=>
  obtain ⟨c,h1,h2⟩:=h.get i v hv
  exact ⟨c,by simp[execOp,ho,hq,Instr.extract,h1],h2⟩
def M.map {g:Gh} {ev:Operand->Value}:∀ {xs:List Operand},(∀ x,x∈xs->VR g (fr.val x) (ev x))->M g (xs.map fr.val) (xs.map ev)
 | [],_=>.nil
 | x::xs,h=>.cons (h x bn) (M.map λy hy=>h y (by simp[hy]))
def QR {f:FuncId} {a b:List Operand}:X P (.makeFunc (.func f) a.toArray b.toArray) fr [] (.fn f (a.map fr.val) (b.map fr.val)):=by
 intro o ho g ev w _ hh _;refine ⟨.func (.func f) (a.map ev).toArray (b.map ev).toArray,by simp[execOp,ho,Instr.makeFunc],.fn f (M.map λx hx=>hh x ?_) (M.map λx hx=>hh x ?_)⟩
 ·simp[Op.operands,hx]
 simp[Op.operands,hx]
def Z3:TypeDesc->Bool
 | .interface _=>true
 | _=>false
variable {d:TypeDesc}
def Ow (ht:P.underlying t=some d) (hd:Z3 d=false) (hx:fr.val x=v) :
  X P (.makeInterface t x) fr [] (.vV t v):=by
 intro o ho g ev w _ hh _
 have q:=hh x vd;rw[hx] at q
 refine ⟨.iface t (ev x),?_,.vV t q⟩
 cases d<;>first|(simp[Z3] at hd;done)|simp[execOp,ho,Instr.makeInterface,run_underlying ht]
def TJ (hs:P.underlying s=some (.int k')) (ht:P.underlying t=some (.int k)) (hx:fr.val x=Sc (.int k' a)) :
  X P (.convert s t x) fr [] (Sc (.int k (k.wrap a))):=by
 intro o ho g ev w _ hh _
 have q:=hh x vd;rw[hx] at q
 exact ahi
end
section
def JB (P:Program) (t:TypeId):Option (List Value×List (Nat×Nat)):=
 match P.info? t,P.underlying t with
 | some it,some (.struct fields)=>
  match it.zero,fields.toList.mapM (λf=>(P.info? f.type).map λi=>(f.offset,i.size)) with
  | some z,some places=>some (z.cells.toList,places)
  | _,_=>none
 | some it,some (.array n e)=>
  match it.zero,P.info? e with
  | some z,some ie=>some (z.cells.toList,(List.range n).map λi=>(i*ie.size,ie.size))
  | _,_=>none
 | _,_=>none
def AV.jG:AV->Option (List AV)
 | .any=>none
 | .agg cs=>some cs
 | .pv (.sc v)=>some (v.cells.toList.map λc=>.pv (.sc c))
 | v=>some [v]
def nW (places:List (Nat×Nat)) (cells:List AV):List (Nat×AV)->Option (List AV)
 | []=>some cells
 | (i,v)::rest=>
  match places[i]?,v.jG with
  | some (off,size),some vc=>if vc.length=size/\off+size<=cells.length then nW places (cells.take off++vc++cells.drop (off+size)) rest else none
  | _,_=>none
def M.VJ (g:Gh):∀ (l:List Value),M g (l.map λc=>.pv (.sc c)) l
 | []=>.nil
 | _::l=>.cons (.sc g _) (M.VJ g l)
def vg:=@M.VJ
variable {g:Gh} {v:AV} {l:List AV} {places:List (Nat×Nat)} {z:List Value} {parts:List (Nat×Operand)} {cs:List AV} {cells:List PV}
def VR.jG {c:Value} (h:VR g v c) (hl:v.jG=some l):M g l c.cells.toList:=by
 cases h with
 | any=>simp[AV.jG] at hl
 | oc h=>
  simp[AV.jG] at hl;subst hl
  cases c<;>first|(simp[Value.oneCell'] at h;done)|exact .cons (.oc h) .nil
 | pv h=>cases h with
  | sc v=>simp[AV.jG] at hl;subst hl;exact vg g _
  | nil a cap=>simp[AV.jG] at hl;subst hl;exact .cons (.pv (.nil a cap)) .nil
  | sl b ys off n cap cells h Ms hc hn=>simp[AV.jG] at hl;subst hl;exact .cons (.pv (.sl b ys off n cap cells h Ms hc hn)) .nil
  | ZT=>simp[AV.jG] at hl;subst hl;exact .cons (.pv .ZT) .nil
  | YT b ys off cells h Ms hc=>simp[AV.jG] at hl;subst hl;exact .cons (.pv (.YT b ys off cells h Ms hc)) .nil
 | ptr off h=>simp[AV.jG] at hl;subst hl;exact .cons (.ptr off h) .nil
 | arr n h=>simp[AV.jG] at hl;subst hl;exact .cons (.arr n h) .nil
 | Bm h=>simp[AV.jG] at hl;subst hl;exact .cons (.Bm h) .nil
 | sp off h Ms hc=>simp[AV.jG] at hl;subst hl;exact .cons (.sp off h Ms hc) .nil
 | fn f hx hy=>simp[AV.jG] at hl;subst hl;exact .cons (.fn f hx hy) .nil
 | agg h=>simp[AV.jG] at hl;subst hl;simpa[Value.cells] using h
 | mE h=>simp[AV.jG] at hl;subst hl;exact .cons (.mE h) .nil
 | vV t h=>simp[AV.jG] at hl;subst hl;exact .cons (.vV t h) .nil
def Nr (off:Nat):∀ (l:List Value) (j:Nat) (cs:Array Value),off+j+l.length<=cs.size->
  ((l.zipIdx j).foldl (λcs (c,j)=>cs.setIfInBounds (off+j) c) cs).toList=cs.toList.take (off+j)++l++cs.toList.drop (off+j+l.length)
 | [],j,cs,_=>by simp
 | v::l,j,cs,h=>by
  have hl:off+j<cs.size:=by simp at h;omega
  have ih:=Nr off l (j+1) (cs.setIfInBounds (off+j) v) (by simp at h ⊢;omega)
  simp only[List.zipIdx_cons,List.foldl_cons]
  rw[ih]
  simp only[Array.toList_setIfInBounds]
  have h1:(cs.toList.set (off+j) v).take (off+(j+1))=cs.toList.take (off+j)++[v]:=by
   rw[show off+(j+1)=off+j+1 by omega,j5 (by simpa using hl)]
   rw[List.take_set_of_le HN]
   simp
  have h2:(cs.toList.set (off+j) v).drop (off+(j+1)+l.length)=cs.toList.drop (off+j+(v::l).length):=by
   rw[List.drop_set_of_lt aB]
   congr 1
   simp;omega
  rw[h1,h2];simp
def CA {place:Nat->Option (Nat×Nat)} (hp:∀ i x,places[i]?=some x->place i=some x) :
  ∀ {ps:List (Nat×AV)} {cells out:List AV} {cs:Array Value} {vs:List (Nat×Value)},nW places cells ps=some out->M g cells cs.toList->
   vs.map (·.1)=ps.map (·.1)->M g (ps.map (·.2)) (vs.map (·.2))->True->(∀ i v,(i,v)∈ps->∃ l,v.jG=some l)->
   ∃ lO,Instr.fill place cs vs=some lO/\M g out lO.toList
 | [],cells,out,cs,vs,h,hc,h1,_,_,_=>by
  cases vs with
  | nil=>simp[nW] at h;subst h;exact ⟨cs,rfl,hc⟩
  | cons a l=>simp at h1
 | (i,v)::rest,cells,out,cs,vs,h,hc,h1,h2,_,h3=>by
  cases vs with
  | nil=>simp at h1
  | cons a l=>
   obtain ⟨j,c⟩:=a
   simp at h1
   obtain ⟨rfl,h1⟩:=h1
   cases h2 with
   | cons hv h2=>
    simp only[nW] at h
    split at h
    ·rename_i off size vc hpl hac
     split at h
     ·rename_i hcond
      have hvc:=hv.jG hac
      have hlen:=hvc.length
      have Ko:=hc.length
      simp at hlen Ko
      have G6:M g (cells.take off++vc++cells.drop (off+size)) (((c.cells.zipIdx.foldl (λcs (x:Value×Nat)=>cs.setIfInBounds (off+x.2) x.1) cs)).toList):=by
       have:=Nr off c.cells.toList 0 cs qI
       rw[<- Array.foldl_toList,Array.toList_zipIdx]
       rw[this]
       simp only[Nat.add_zero]
       have e:off+c.cells.toList.length=off+size:=by simp;omega
       rw[e]
       exact ((hc.take off).append hvc).append (hc.drop (off+size))
      obtain ⟨lO,hf,hr⟩:=CA hp h G6 h1 h2 trivial (λi v hm=>h3 i v (by simp[hm]))
      refine ⟨lO,?_,hr⟩
      simp only[Instr.fill,hp _ _ hpl]
      rw[aE qI]
      exact hf
     ·cases h
    ·cases h
section
variable {P:Program} {fr:k9}
def QT (h:JB P t=some (z,places)) :
  ∃ (place:Nat->Option (Nat×Nat)),(∀ i x,places[i]?=some x->place i=some x)/\∀ parts cells,Instr.fill place z.toArray parts=some cells->P.built t parts=some cells:=by
 unfold JB at h
 split at h
 ·rename_i it fields hi hu
  split at h
  ·rename_i zz pl hz hpl
   cases h
   exact ⟨λx=>places.toArray[x]?,λi x hx=>by simpa using hx,λparts cells hf=>by simp[Program.built,hi,hu,hz,hpl];simpa using hf⟩
  ·cases h
 ·rename_i it n e hi hu
  split at h
  ·rename_i zz ie hz hie
   cases h
   refine ⟨λi=>some (i*ie.size,ie.size),λi x hx=>?_,λparts cells hf=>by simp[Program.built,hi,hu,hz,hie];simpa using hf⟩
   rw[fj,List.getElem?_range] at hx
   ·simpa using hx
   ·rcases fN i n with q|q
    ·exact q
    ·rw[gv Gn] at hx;cases hx
  ·cases h
 ·cases h
def CB:∀ {ps:List (Nat×AV)} {cells out:List AV},nW places cells ps=some out->∀ i v,(i,v)∈ps->∃ l,v.jG=some l
 | [],_,_,_,i,v,h=>by cases h
 | (j,u)::rest,cells,out,h,i,v,hm=>by
  simp only[nW] at h;split at h
  ·rename_i off size vc hpl hac;split at h
   ·rcases cb.1 hm with q|q
    ·cases q;exact ⟨_,hac⟩
    exact CB h i v q
   cases h
  cases h
def Z4 {out:List AV} (ht:JB P t=some (z,places)) (h:nW places (z.map λv=>.pv (.sc v)) (parts.map λp=>(p.1,fr.val p.2))=some out):X P (.build t parts.toArray) fr [] (.agg out):=by
 intro o ho g ev w _ hv _;obtain ⟨place,hp,hb⟩:=QT ht;obtain ⟨lO,hf,hr⟩:=CA (g:=g) (vs:=parts.map λp=>(p.1,ev p.2)) (cs:=z.toArray) hp h (by simpa using vg g z) bn
  (by
   have:∀ (ps:List (Nat×Operand)),(∀ p,p∈ps->p∈parts)->M g ((ps.map λp=>(p.1,fr.val p.2)).map (·.2)) ((ps.map λp=>(p.1,ev p.2)).map (·.2)):=by
    intro ps
    induction ps with
    | nil=>intro _;exact .nil
    | cons p ps ih=>intro hm;exact .cons (hv p.2 (by simp[Op.operands];exact ⟨_,hm p bn⟩)) (ih λq hq=>hm q (by simp[hq]))
   exact this parts λ_ hp=>hp) trivial (CB h)
 refine ⟨.agg lO,?_,by have:=VR.agg hr;simpa using this⟩;have e:(parts.toArray.map λ(x:Nat×Operand)=>(x.1,ev x.2)).toList=parts.map λp=>(p.1,ev p.2):=by simp
 have pN:=run_build (P:=P) w t (parts.toArray.map λ(x:Nat×Operand)=>(x.1,ev x.2)) lO (by rw[e];exact hb _ _ hf);simp only[execOp,ho,cF,pN,bR,eF]
variable {ft:TypeId} {fields:Array Field} {fd:Field}
def Ox (hu:P.underlying t=some (.struct fields)) (hf:fields[f]?=some fd) (hft:fd.type=ft) (ha:AN P ft=some false) (hx:fr.val x=.agg cs) (hv:cs[fd.offset]?=some v):X P (.field t x f) fr [] v:=by
 subst hft;intro o ho g ev w _ hh _;have q:=hh x vd;rw[hx] at q;generalize hq:ev x=c at q;cases q with
 | agg h=>
  obtain ⟨c,h1,h2⟩:=h.get _ v hv
  exact ahs
def Oy {ix:Operand} {k:IntKind} {i:Int} (hu:P.underlying t=some (.array n e)) (ha:AN P e=some false) (hs:Mb P e=some 1) (hx:fr.val x=.agg cs) (hi:fr.val ix=Sc (.int k i)) (h0:0<=i) (h1:i<n) (hv:cs[i.toNat]?=some v):X P (.index t x ix) fr [] v:=by
 intro o ho g ev w _ hh _;have q:=hh x vd;rw[hx] at q;have q2:=hh ix vd;rw[hi] at q2;generalize hq:ev x=c at q;cases q with
 | agg h=>
  obtain ⟨c,hc1,PX⟩:=h.get _ v hv
  exact akV
def QU (P:Program) (op:Op) (fr:k9) (nm:Nat) (e:cV) (v:AV):Prop:=
 ∀ (o:Oper),o.op=op->∀ (g:Gh) (ev:Operand->Value) (w:World),g.G w.heap.size=none->(∀ x,x∈op.operands->VR g (fr.val x) (ev x)/\(fr.val x).jh nm=false)->
  ∃ c cs el cap,(execOp ev o).run P w=.ok (.value c) (w.alloc (.cells cs el (0,0)))/\rC (g.fresh nm w.heap.size cap e) (w.alloc (.cells cs el (0,0))) nm e/\
   VR (g.fresh nm w.heap.size cap e) v c
def Z5 (P:Program) (op:Op) (fr:k9) (v:AV):Prop:=
 ∀ (o:Oper),o.op=op->∀ (g:Gh) (ev:Operand->Value) (w:World),(∀ x,x∈op.operands->VR g (fr.val x) (ev x))->
  ∃ c cs el ys,(execOp ev o).run P w=.ok (.value c) (w.alloc (.cells cs el (0,0)))/\ys.length<=cs.size/\vk g ys (cs.toList.take ys.length)/\VR (g.iS w.heap.size ys) v c
def Gs (g:Gh) (nm b cap:Nat):(g.bind nm b cap).ρ nm=some b:=by simp[Gh.bind]
def Fi (g:Gh) (nm b cap:Nat):(g.bind nm b cap).cp nm=cap:=by simp[Gh.bind]
def QV (nm:Nat) (hz:VE P t=some z):QU P (.alloc t) fr nm (.box (z.map λv=>.pv (.sc v))) (.ptr nm 0):=by
 intro o ho g ev w hG0 _;unfold VE at hz;cases hi:P.info? t with
 | none=>simp[hi] at hz
 | some i=>
  cases hzz:i.zero with
  | none=>simp[hi,hzz] at hz
  | some zv=>
   simp only[hi,hzz,tg] at hz
   cases ha:zv.cells.toList.all Value.oneCell' with
   | false=>rw[ha] at hz;cases hz
   | true=>
   rw[ha] at hz
   have hz:zv.cells.toList=z:=by injection hz
   have h1:∀ v,v∈zv.cells.toList->v.oneCell'=true:=λv hv=>jm.1 ha v hv
   refine ⟨.pointer (some ⟨w.heap.size,0,none⟩),zv.cells,t,0,?_,?_,.ptr 0 (Gs ..)⟩
   ·simp[execOp,ho,Instr.alloc,zeroValue,typeInfo,hi,hzz,newVar,newRow]
   ·refine .box (Gs ..) (heap_alloc_new w _) ?_ h1;rw[hz];exact vg _ z
def aeD (nm:Nat) (hx:(fr.val x).jG=some l) (ho1:AV.p9 l=true) (hm:AV.jh.kJ nm l=false):QU P (.box t x) fr nm (.box l) (.ptr nm 0):=by
 intro o ho g ev w hG0 hv;obtain ⟨h1,h2⟩:=hv x vd;refine ⟨.pointer (some ⟨w.heap.size,0,none⟩),(ev x).cells,t,0,?_,?_,.ptr 0 (Gs ..)⟩
 ·simp[execOp,ho,Instr.box,newVar,newRow]
 exact .box (Gs ..) (heap_alloc_new w _) ((h1.jG hx).le Vj λk q=>by subst q;exact hm) ((h1.jG hx).one ho1)
def Kv (P:Program) (t:TypeId) (n:Nat):Option (TypeId×Nat×List Value×List (Nat×Nat)):=
 match P.underlying t with
 | some (.slice e)=>
  match P.info? e with
  | some i=>match i.zero with
   | some z=>if 0<n*i.size/\n*i.size<=16777216/\z.cells.size=i.size then some (e,i.size,((List.range (n*i.size)).map λj=>z.cells[j % z.cells.size]!),(List.range n).map λj=>(j*i.size,i.size)) else none
   | none=>none
  | none=>none
 | _=>none
def wC {zs:List Value} (h:Kv P t n=some (e,sz,zs,places)) :
  ∃ (place:Nat->Option (Nat×Nat)),(∀ i x,places[i]?=some x->place i=some x)/\zs.length=n*sz/\
   ∀ parts cells w,Instr.fill place zs.toArray parts.toList=some cells->
    (Instr.buildSlice t n parts).run P w=.ok (.slice (some ⟨w.heap.size,0,none⟩) n n) (w.alloc (.cells cells e (0,0))):=by
 unfold Kv at h
 split at h
 ·rename_i e' hu
  split at h
  ·rename_i i hi
   split at h
   ·rename_i z hz
    split at h
    ·rename_i hc
     simp only[Option.some.injEq,rH] at h
     obtain ⟨rfl,rfl,rfl,rfl⟩:=h
     refine ⟨λj=>some (j*i.size,i.size),λj x hx=>?_,bn,λparts cells w hf=>?_⟩
     ·rw[fj] at hx
      rcases fN j n with q|q
      ·rw[List.getElem?_range q] at hx;simpa using hx
      ·rw[gv Gn] at hx;cases hx
     ·have hf':Instr.fill (λj=>some (j*i.size,i.size)) ((Array.range (n*i.size)).map λj=>z.cells[j % z.cells.size]!) parts.toList=some cells:=by
       rw[<- hf];congr 1
       rw[<- Array.toList_inj];simp[Array.toList_range]
      have h0:n*i.size≠0:=by omega
      have hle:¬ (2 ^ 24<n*i.size):=by omega
      simp[Instr.buildSlice,run_underlying hu,sizeOf,typeInfo,hi,zeroValue,hz,h0,hle,hf',newRow]
    ·cases h
   ·cases h
  ·cases h
 ·cases h
def Fj {ev:Operand->Value} (hv:∀ p,p∈parts->VR g (fr.val p.2) (ev p.2)) :
  M g ((parts.map λp=>(p.1,fr.val p.2)).map (·.2)) ((parts.map λp=>(p.1,ev p.2)).map (·.2)):=by
 have:∀ (ps:List (Nat×Operand)),(∀ p,p∈ps->p∈parts)->M g ((ps.map λp=>(p.1,fr.val p.2)).map (·.2)) ((ps.map λp=>(p.1,ev p.2)).map (·.2)):=by
  intro ps
  induction ps with
  | nil=>intro _;exact .nil
  | cons p ps ih=>intro hm;exact .cons (hv p (hm p bn)) (ih λq hq=>hm q (by simp[hq]))
 exact this parts λ_ hp=>hp
def vk.H2 {ps:List PV}:∀ {vs:List Value},M g (ps.map .pv) vs->vk g ps vs:=by
 induction ps with
 | nil=>intro vs h;cases h;exact .nil
 | cons p ps ih=>intro vs h;cases h with|cons h t=>cases h with|pv h=>exact .cons h (ih t)
def B6 {zs:List Value} (ht:Kv P t n=some (e,sz,zs,places)) (h:nW places (zs.map λv=>.pv (.sc v)) (parts.map λp=>(p.1,fr.val p.2))=some (cells.map .pv)):Z5 P (.buildSlice t n parts.toArray) fr (.pv (.sl n cells)):=by
 intro o ho g ev w hv;obtain ⟨place,hp,hzl,hb⟩:=wC ht;obtain ⟨lO,hf,hr⟩:=CA (g:=g) (vs:=parts.map λp=>(p.1,ev p.2)) (cs:=zs.toArray) hp h Zr bn
  (Fj λp hp=>hv p.2 Vs) trivial (CB h)
 have e1:(parts.toArray.map λ(x:Nat×Operand)=>(x.1,ev x.2)).toList=parts.map λp=>(p.1,ev p.2):=by simp
 have pN:=hb (parts.toArray.map λ(x:Nat×Operand)=>(x.1,ev x.2)) lO w Vl;have hps:=vk.H2 hr;exact ahP
def Mu {zs:List Value} (nm:Nat) (ht:Kv P t n=some (e,sz,zs,places)) (h:nW places (zs.map λv=>.pv (.sc v)) (parts.map λp=>(p.1,fr.val p.2))=some (cells.map .pv)) (hl:cells.length=n*sz) (hn:n<=maxLen) :
  QU P (.buildSlice t n parts.toArray) fr nm (.arr e sz cells) (.arr nm n):=by
 intro o ho g ev w hG0 hv
 obtain ⟨place,hp,hzl,hb⟩:=wC ht
 obtain ⟨lO,hf,hr⟩:=CA (g:=g) (vs:=parts.map λp=>(p.1,ev p.2)) (cs:=zs.toArray) hp h Zr bn
  (Fj λp hp=>(hv p.2 Vs).1) trivial (CB h)
 have e1:(parts.toArray.map λ(x:Nat×Operand)=>(x.1,ev x.2)).toList=parts.map λp=>(p.1,ev p.2):=by simp
 have pN:=hb (parts.toArray.map λ(x:Nat×Operand)=>(x.1,ev x.2)) lO w Vl
 have hlen:=hr.length
 simp at hlen
 refine ⟨.slice (some ⟨w.heap.size,0,none⟩) n n,lO,e,n,?_,?_,?_⟩
 ·simp only[execOp,ho,cF,pN,bR,eF]
 ·refine .arr (Gs ..) (heap_alloc_new w _) aB (by simp only[Gh.fresh];rw[Fi];omega) (by simp only[Gh.fresh];rw[Fi];exact hn) ?_
  rw[dM qI]
  exact (vk.H2 hr).le Vj
 ·have:=VR.arr (g:=g.bind nm w.heap.size n) (k:=nm) n (Gs ..)
  rwa [Fi] at this
def IS {zs:List Value} (nm:Nat) (ht:Kv P t n=some (e,sz,zs,places)) (h:nW places (zs.map λv=>.pv (.sc v)) (parts.map λp=>(p.1,fr.val p.2))=some (cells.map .pv)) (hl:cells.length=n*sz) (hn:n<=maxLen) :
  QU P (.buildSlice t n parts.toArray) fr nm (.app e sz cells) (.arr nm n):=by
 intro o ho g ev w hG0 hv
 obtain ⟨place,hp,hzl,hb⟩:=wC ht
 obtain ⟨lO,hf,hr⟩:=CA (g:=g) (vs:=parts.map λp=>(p.1,ev p.2)) (cs:=zs.toArray) hp h (by simpa using vg _ zs) bn
  (Fj λp hp=>(hv p.2 Vs).1) trivial (CB h)
 ·have e1:(parts.toArray.map λ(x:Nat×Operand)=>(x.1,ev x.2)).toList=parts.map λp=>(p.1,ev p.2):=by simp
  have pN:=hb (parts.toArray.map λ(x:Nat×Operand)=>(x.1,ev x.2)) lO w Vl
  have hps:=vk.H2 hr
  have hlen:=hps.length
  simp at hlen
  refine ⟨.slice (some ⟨w.heap.size,0,none⟩) n n,lO,e,n,?_,?_,?_⟩
  ·simp only[execOp,ho,cF,pN,bR,eF]
  ·refine .app (by simp[Gh.fresh,Gh.bind,Gh.iS]) (by simp[Gh.fresh,Gh.iS]) (heap_alloc_new w _) aB (by simp[Gh.fresh,Gh.bind,Gh.iS];omega) (by simp[Gh.fresh,Gh.bind,Gh.iS];exact hn) ?_
   rw[dM qI]
   exact hps.le (xf.fresh g nm _ n (.app e sz cells) hG0)
  ·have:=VR.arr (g:=g.fresh nm w.heap.size n (.app e sz cells)) (k:=nm) (b:=w.heap.size) n (by simp[Gh.fresh,Gh.bind,Gh.iS])
   simpa[Gh.fresh,Gh.bind,Gh.iS] using this
end
end
section
inductive Ns where
 | normal
 | exit (id:Nat)
 | goto (l:Nat)
 | ret
 | panic (v:AV)
inductive G7 where
 | ret (v:AV)
 | panic (v:AV)
inductive XR (g:Gh):Ns->Exit->Prop
 | normal:XR g .normal .normal
 | exit (id:Nat):XR g (.exit id) (.exit id)
 | goto (l:Nat):XR g (.goto l) (.goto l)
 | ret:XR g .ret .ret
 | panic {v:AV} {c:Value} (h:VR g v c):XR g (.panic v) (.panic [{ v:=c,recovered:=false }])
inductive ER (g:Gh):G7->Ending->Prop
 | ret {v:AV} {c:Value} (h:VR g v c):ER g (.ret v) (.returned c)
 | panic {v:AV} {c:Value} (h:VR g v c):ER g (.panic v) (.panicked [{ v:=c,recovered:=false }])
abbrev gJ:=Ns->k9->fC->Prop
def LQ (E:Env) (n:Nat) (Q:gJ):Exit->Act->World->Prop:=
 λe a w=>∃ g ae fr σ,Q ae fr σ/\XR g ae e/\Rel E g σ w/\FR n g fr a
variable {Q':gJ} {v:AV} {next:k9->fC->Prop} {g:Gh} {b:Bool} {c:Code} {id:Nat} {x y:Code} {pn:k9}
def Step (P:Program) (E:Env) (n:Nat) (Q:gJ) (o:Oper) (fr:k9) (σ:fC) (next:k9->fC->Prop):Prop:=
 ∀ (g:Gh) (a:Act) (w:World) (K:Act->World->Prop),Rel E g σ w->FR n g fr a->
  (∀ g' pn σ' a' w',next pn σ'->Rel E g' σ' w'->FR n g' pn a'->K a' w')->o.wp P a w K (LQ E n Q)
def SL (P:Program) (E:Env) (n:Nat) (ops:Array Oper) (Q:gJ) (l:List Oper) (fr:k9) (σ:fC):Prop:=
 ∀ (g:Gh) (a:Act) (w:World),Rel E g σ w->FR n g fr a->wpList P ops (LQ E n Q) l a w
def SW (P:Program) (E:Env) (n:Nat) (c:Code) (Q:gJ) (fr:k9) (σ:fC):Prop:=
 ∀ (g:Gh) (a:Act) (w:World),Rel E g σ w->FR n g fr a->c.wp P (LQ E n Q) a w
def SC (P:Program) (f:FuncId) (args:List AV) (σ:fC) (R:G7->fC->Prop):Prop:=
 ∀ (wS:World) (g:Gh) (w:World) (vs:List Value),Rel (Env.of wS g σ w) g σ w->M g args vs->
  Calls P f vs.toArray w λe w'=>∃ g' ae σ',R ae σ'/\ER g' ae e/\Rel (Env.of wS g σ w) g' σ' w'
section
variable {P:Program} {E:Env} {Q:gJ} {fr:k9} {σ:fC}
def Oz {rd:List (Nat×cV)} (h:X P o.op fr rd v) (hr:∀ p,p∈rd->Cov σ p) (hd:∀ d,o.dst=some d->d<n) (hn:next (fr.qv o.dst v) σ):Step P E n Q o fr σ next:=by
 intro g a w K hR hF hK;obtain ⟨c,pN,hv⟩:=h o rfl g a.eval w hR.gl (λx _=>hF.eval x) (λp hp=>let ⟨e,h1,h2⟩:=hr p hp;h2 _ _ _ (hR.sv _ _ h1));simp only[Oper.wp,pN,Oper.upon];exact hK g _ σ _ w hn hR (hF.put hd hv)
def JC {nm:Nat} {e:cV} (h:QU P o.op fr nm e v) (hc:fr.clear nm) (hs:σ.clear nm) (hf:E.fix nm=none) (hd:∀ d,o.dst=some d->d<n) (hn:next (fr.qv o.dst v) (σ.set nm e)):Step P E n Q o fr σ next:=by
 intro g a w K hR hF hK;have Al:∀ x,(fr.val x).jh nm=false:=λx=>by
  cases x with
  | tmp t=>exact hc.1 t
  | const v=>rfl
  | global k=>rfl
  | func f=>rfl
 obtain ⟨c,cs,el,cap,pN,he,hv⟩:=h o rfl g a.eval w hR.gl.fresh (λx _=>⟨hF.eval x,Al x⟩);simp only[Oper.wp,pN,Oper.upon];refine hK (g.fresh nm w.heap.size cap e) _ _ _ _ hn (hR.ZU hs hf he) (FR.put ?_ hd hv);exact hF.le (xf.fresh g nm _ _ e hR.gl.fresh) λk q=>by subst q;exact hc
def VM (h:Z5 P o.op fr v) (hd:∀ d,o.dst=some d->d<n) (hn:next (fr.qv o.dst v) σ):Step P E n Q o fr σ next:=by
 intro g a w K hR hF hK;obtain ⟨c,cs,el,ys,pN,hl,hp,hv⟩:=h o rfl g a.eval w (λx _=>hF.eval x);simp only[Oper.wp,pN,Oper.upon];exact hK (g.iS w.heap.size ys) _ _ _ _ hn (hR.frozen hl hp) ((hF.le (nn:=λ_=>False) (qQ g _ ys hR.gl.fresh) λk q=>q.elim).put hd hv)
def FR.VN (hF:FR n g fr a) {v:Value} (hj:(ops[j]?).bind (·.dst)=some d) (hb:fr.s d=Sc v) (hv:v≠.bool want):yielded ops a.tmps j≠some want:=by
 have:=hF.pA d;rw[hb] at this;have h1:=this.iv;intro q;simp only[yielded,hj,tg] at q;split at q
 ·rename_i b h2;cases q;rw[e7,h2] at h1;exact hv (by simpa using h1.symm)
 cases q
def tH (h:Q .normal fr σ):SL P E n ops Q [] fr σ:=λg _ _ hR hF=>⟨g,.normal,fr,σ,h,.normal,hR,hF⟩
def rn (hg:o.guard=none) (h:Step P E n Q o fr σ (SL P E n ops Q rest)):SL P E n ops Q (o::rest) fr σ:=by
 intro g a w hR hF;unfold wpList;rw[aL (by simp[Region.wanted,hg])];exact .inl (h g a w _ hR hF λg' pn σ' a' w' hn lq tt=>hn g' a' w' lq tt)
def FR.yield (hF:FR n g fr a) (hj:(ops[j]?).bind (·.dst)=some d) (hb:fr.s d=Bo b):yielded ops a.tmps j=some b:=by
 have:=hF.pA d;rw[hb] at this;have h1:=this.iv;have iy:d<a.tmps.size:=by
  rcases fN d a.tmps.size with q|q
  ·exact q
  rw[e7,hU q] at h1;simp[undef] at h1
 have h2:a.tmps[d]?=some (.bool b):=by
  rw[e7,gU iy] at h1;rw[gU iy];simpa using h1
 simp[yielded,hj,h2]
def G8 (hg:o.guard=some (j,want)) (hj:(ops[j]?).bind (·.dst)=some d) (hb:fr.s d=Bo b) (hd:∀ d,o.dst=some d->d<n) (hyes:b=want->Step P E n Q o fr σ (SL P E n ops Q rest)) (G9:b≠want->SL P E n ops Q rest (fr.qv o.dst (Sc undef)) σ) :
  SL P E n ops Q (o::rest) fr σ:=by
 intro g a w hR hF
 unfold wpList
 have hy:=hF.yield (ops:=ops) hj hb
 by_cases hw:b=want
 ·rw[aL (by simp[Region.wanted,hg,hy,hw])]
  exact .inl (hyes hw g a w _ hR hF λg' pn σ' a' w' hn lq tt=>hn g' a' w' lq tt)
 ·rw[aE (by simp[Region.wanted,hg,hy,hw])]
  exact G9 hw g _ w hR (hF.put hd (.pv (.sc _)))
def aeE {v:Value} (hg:o.guard=some (j,want)) (hj:(ops[j]?).bind (·.dst)=some d) (hb:fr.s d=Sc v) (hv:v≠.bool want) (hd:∀ d,o.dst=some d->d<n) (G9:SL P E n ops Q rest (fr.qv o.dst (Sc undef)) σ):SL P E n ops Q (o::rest) fr σ:=by
 intro g a w hR hF;unfold wpList;rw[aE (by simp[Region.wanted,hg,hF.VN hj hb hv])];exact G9 g _ w hR (hF.put hd (.pv (.sc _)))
variable {l:List Oper}
def bB (h:SL P E n l.toArray Q l fr σ):SW P E n (.region id l.toArray false) Q fr σ:=
 λg a w hR hF=>wp_region_lit (h g a w hR hF)
def BH (K:k9->fC->Prop) (Q:gJ):gJ
 | .normal,fr,σ=>K fr σ
 | e,fr,σ=>Q e fr σ
def TK (id:Nat) (Q:gJ):gJ
 | .exit id',fr,σ=>if id'=id then Q .normal fr σ else Q (.exit id') fr σ
 | e,fr,σ=>Q e fr σ
def Z6 (h:SW P E n x (BH (SW P E n y Q) Q) fr σ):SW P E n (.seq x y) Q fr σ:=by
 intro g a w hR hF;refine wp_seq (wp_mono (h g a w hR hF) λe a w hq=>?_);obtain ⟨g',ae,pn,σ',q,hx,lq,tt⟩:=hq;cases hx with
 | normal=>exact q g' a w lq tt
 | exit id=>exact ⟨g',_,pn,σ',q,.exit id,lq,tt⟩
 | goto l=>exact ⟨g',_,pn,σ',q,.goto l,lq,tt⟩
 | ret=>exact ZJ
 | panic hv=>exact ZG
def bE (h:∀ K:k9->fC->Prop,(∀ fr σ,SW P E n y Q fr σ->K fr σ)->SW P E n x (BH K Q) fr σ):SW P E n (.seq x y) Q fr σ:=
 Z6 (h _ λ_ _ h=>h)
def ż {c:Operand} (hb:fr.val c=Bo b) (ht:b=true->SW P E n x Q fr σ) (hf:b=false->SW P E n y Q fr σ):SW P E n (.cond c x y) Q fr σ:=by
 intro g a w hR hF;have:=hF.eval c;rw[hb] at this;exact wp_cond_split this.iv (λh=>ht h g a w hR hF) (λh=>hf h g a w hR hF)
def mR (h:Q .normal fr σ):SW P E n .skip Q fr σ:=λg _ _ hR hF=>wp_skip ⟨g,.normal,fr,σ,h,.normal,hR,hF⟩
def Kw {l:Nat} (h:Q .normal fr σ):SW P E n (.label l) Q fr σ:=λg _ _ hR hF=>wp_label ⟨g,.normal,fr,σ,h,.normal,hR,hF⟩
def Ha (h:Q (.exit id) fr σ):SW P E n (.exit id) Q fr σ:=λg _ _ hR hF=>wp_exit ⟨g,.exit id,fr,σ,h,.exit id,hR,hF⟩
def tc (h:Q .ret fr σ):SW P E n .ret Q fr σ:=λg _ _ hR hF=>wp_ret ⟨g,.ret,fr,σ,h,.ret,hR,hF⟩
def CC (h:SW P E n c (TK id Q) fr σ):SW P E n (.block id c) Q fr σ:=by
 intro g a w hR hF;refine wp_block (wp_mono (h g a w hR hF) λe a w hq=>?_);obtain ⟨g',ae,pn,σ',q,hx,lq,tt⟩:=hq;cases hx with
 | normal=>exact Zp
 | exit id'=>
  simp only[TK] at q
  simp only[Exit.inBlock]
  split at q
  ·rename_i he;rw[aL he];exact Zp
  ·rename_i he;rw[aE he];exact ⟨g',_,pn,σ',q,.exit id',lq,tt⟩
 | goto l=>exact ⟨g',_,pn,σ',q,.goto l,lq,tt⟩
 | ret=>exact ZJ
 | panic hv=>exact ZG
def Ž (I:Nat->k9->fC->Prop) (m:Nat) (h0:I m fr σ) (round:∀ k fr σ,I k fr σ->SW P E n c (BH (λpn σ'=>∃ j,j<k/\I j pn σ') Q) fr σ):SW P E n (.loop c) Q fr σ:=by
 have key:∀ k,∀ fr σ,I k fr σ->SW P E n (.loop c) Q fr σ/\∀ (g:Gh) (a:Act) (w:World),Rel E g σ w->FR n g fr a->∀ (b:Frame) (kk:List Item) (cs:List Frame),
   ∃ e a' w',LQ E n Q e a' w'/\Arrives P (lone (b.at a (.code c::.inLoop c::kk)) cs w) b kk cs e a' w':=by
  intro k
  induction k using Nat.strongRecOn with
  | _ k ih=>
   intro fr σ hI
   have main:∀ (g:Gh) (a:Act) (w:World),Rel E g σ w->FR n g fr a->∀ (b:Frame) (kk:List Item) (cs:List Frame),
     ∃ e a' w',LQ E n Q e a' w'/\Arrives P (lone (b.at a (.code c::.inLoop c::kk)) cs w) b kk cs e a' w':=by
    intro g a w hR hF b kk cs
    obtain ⟨e,a₁,w₁,hq,TD⟩:=round k fr σ hI g a w hR hF b (.inLoop c::kk) cs
    obtain ⟨g',ae,pn,σ',q,hx,lq,tt⟩:=hq
    cases hx with
    | normal=>
     obtain ⟨j,hj,Kx⟩:=q
     obtain ⟨e₂,a₂,w₂,hq₂,harr₂⟩:=(ih j hj pn σ' Kx).2 g' a₁ w₁ lq tt b kk cs
     exact ⟨e₂,a₂,w₂,hq₂,.of_steps (Steps.trans TD (.one step_inLoop)) harr₂⟩
    | exit id=>exact ahm
    | goto l=>exact ahn
    | ret=>exact aho
    | panic hv=>exact ahl
   refine ⟨λg a w hR hF b kk cs=>?_,main⟩
   obtain ⟨e,a',w',hq,TD⟩:=main g a w hR hF b kk cs
   exact ⟨e,a',w',hq,.of_steps (.one step_loop) TD⟩
 exact (key m fr σ h0).1
def k9.le (fr pn:k9):Prop:=(∀ i,pn.s i=fr.s i\/pn.s i=.any)/\pn.ds=fr.ds
def FR.Mv (h:fr.le pn) (hF:FR n g fr a):FR n g pn a:=
 ⟨hF.size,λi=>by
  rcases h.1 i with q|q
  ·rw[q];exact hF.pA i
  rw[q];exact .any _,by rw[h.2];exact hF.ds⟩
variable {σ':fC}
def VO (hf:fr.le pn) (hs:∀ k e,σ' k=some e->σ k=some e) (h:SW P E n c Q pn σ'):SW P E n c Q fr σ:=
 λg a w hR hF=>h g a w (hR.sub hs) (hF.Mv hf)
end
end
def QW {α:Type} (A v:List α) (off c:Nat) (h1:off+v.length<=c) (h2:c<=A.length) :
  (A.take off++v++A.drop (off+v.length)).take c=(A.take c).take off++v++(A.take c).drop (off+v.length):=by
 rw[List.take_append,oK,sD,tM aB]
 have e:(A.take off++v).length=off+v.length:=by simp;omega
 rw[e,dM (by rw[e];exact h1)]
def AV.aeF:AV->PV
 | .pv p=>p
 | _=>.sc undef
def yd (nm:Nat):∀ l:List PV,AV.jh.kJ nm (l.map .pv)=false
 | []=>rfl
 | x::l=>by simp[AV.jh.kJ,AV.jh,yd nm l]
def Ky:∀ l:List PV,(l.map AV.pv).map AV.aeF=l
 | []=>rfl
 | x::l=>by rw[kv,kv,Ky l];rfl
def cV.Z7:cV->Bool
 | .arr ..=>true
 | _=>false
def cV.Xw (off:Nat) (l:List AV):cV->cV
 | .box cs=>.box (cs.take off++l++cs.drop (off+l.length))
 | .arr el sz cs=>.arr el sz (cs.take off++l.map AV.aeF++cs.drop (off+l.length))
 | e=>e
section
variable {P:Program} {E:Env} {Q:gJ} {fr:k9} {σ:fC}
variable {next:k9->fC->Prop} {l:List PV} {len m:Nat} {news:List Value} {bytes:Nat} {g:Gh}
def De {y:Operand} {off:Nat} {e:cV} {l:List AV} (ho:o.op=.store t x y) (hd:o.dst=none) (hx:fr.val x=.ptr k off) (hk:σ k=some e) (Cw:e.isApp=false) (hy:(fr.val y).jG=some l) (h1:AV.p9 l=true) (ht:Mb P t=some l.length) (hl:off+l.length<=e.cells.length) (hpa:e.Z7=true->∃ ps:List PV,l=ps.map .pv) (hn:next fr (σ.set k (e.Xw off l))):Step P E n Q o fr σ next:=by
 intro g a w K hR hF hK;have q:=hF.eval x;rw[hx] at q;have r:=(hF.eval y).jG hy;generalize hq:a.eval x=c at q;cases q with
 | ptr _ hb=>
  rename_i b
  obtain ⟨cs,el,hw,Ko,hc⟩:=(hR.sv k e hk).at hb
  have hlen:=r.length
  simp at hlen
  have Fy:=run_storeCells_at P b off el (a.eval y).cells.toList 0 cs w hw qI (r.one h1)
  simp only[Nat.add_zero] at Fy
  have hput:a.put o.dst undef=a:=by rw[hd];rfl
  have pN:(execOp a.eval o).run P w=.ok .skip (w.setRow b (cs.toList.take off++(a.eval y).cells.toList++cs.toList.drop (off+(a.eval y).cells.toList.length)).toArray):=by
   simp only[execOp,ho,hq,Instr.storeAt,Instr.sureAddr,cF,eF,bR,storeVar,vU ht];rw[aE qI];simp[Fy]
  simp only[Oper.wp,pN,Oper.upon,hput]
  refine hK g _ _ _ _ hn (hR.write hk Cw hb ?_ ⟨_,_,_,hw,qI,λ_ hf v hv=>(by
   simp only[bH] at hv;rcases hv with (hv|hv)|hv
   ·exact hf v (qt hv)
   ·exact r.one h1 v hv
   exact hf v (List.mem_of_mem_drop hv))⟩ (λ⟨c,q⟩=>by cases e with|box c=>exact ⟨_,rfl⟩|arr _ _ _=>cases q|app _ _ _=>cases q)) hF
  have hlen2:(a.eval y).cells.toList.length=l.length:=by simp;omega
  rw[hlen2]
  cases e with
  | box cells=>
   cases hR.sv k _ hk with
   | box h P1 hc0 hb1=>
    rw[h] at hb;cases hb
    rw[hw] at P1;cases P1
    refine .box h (setRow_heap w b cs _ el _ hw) ?_ ?_
    ·simp only;exact ((hc0.take off).append r).append (hc0.drop (off+l.length))
    ·intro v hv;simp only[bH] at hv;rcases hv with (hv|hv)|hv
     ·exact hb1 v (qt hv)
     ·exact r.one h1 v hv
     exact hb1 v (List.mem_of_mem_drop hv)
  | arr ee sz cells=>
   cases hR.sv k _ hk with
   | Bm h=>rw[h] at hb;cases hb
   | arr h P1 G2 hz hm hc0=>
    rw[h] at hb;cases hb
    rw[hw] at P1;cases P1
    obtain ⟨ps,hps⟩:=hpa rfl
    have r':=vk.H2 (hps▸r)
    have hpl:ps.length=l.length:=by rw[hps,ik]
    simp only[cV.cells,ik] at hl Ko hc
    have hc:=hc0
    have e0:l.map AV.aeF=ps:=by rw[hps,Ky]
    have PZ:(cells.take off++ps++cells.drop (off+l.length)).length=cells.length:=by simp;omega
    simp only[cV.Xw]
    rw[e0]
    refine .arr h (setRow_heap w b cs _ el _ hw) ?_ ?_ hm ?_
    ·simp;omega
    ·rw[<- hz];simp;omega
    ·rw[PZ];have e1:=QW cs.toList (a.eval y).cells.toList off cells.length (by rw[hlen2];exact hl) (by simpa using Ko);rw[hlen2] at e1;simp only;rw[e1];exact ((hc.take off).append r').append (hc.drop (off+l.length))
  | app ee sz cells=>cases Cw
def TL {v:AV} (ho:o.op=.panic x) (hx:fr.val x=.vV t v) (hq:Q (.panic (.vV t v)) fr σ) :
  Step P E n Q o fr σ next:=by
 intro g a w K hR hF hK
 have q:=hF.eval x;rw[hx] at q
 generalize he:a.eval x=c at q
 cases q with
 | vV _ h=>
  rename_i v'
  have pN:(execOp a.eval o).run P w=.halt (.panic (.iface t v')) w:=by simp[execOp,ho,he,Instr.panic]
  simp only[Oper.wp,pN,Oper.upon]
  exact ⟨g,_,fr,σ,hq,.panic (.vV t h),hR,hF⟩
def Df (P:Program) (t:TypeId):Option (Nat×Nat):=(P.info? t).bind λi=>i.zero.bind λz=>if z.cells.size=i.size/\0<i.size then some (i.size,i.bytes) else none
variable {i:TypeInfo}
def vz (ht:P.underlying t=some (.slice e)) (hi:P.info? e=some i) (a:Option Addr) (sLen sCap cap:Nat) (hl:sLen<=sCap) (w:World) :
  (Builtin.append_ #[t,t] ty #[.slice a sLen sCap,.slice none 0 cap]).run P w=.ok (.slice a sLen sCap) w:=by
 cases a<;>simp[Builtin.append_,run_underlying ht,sizeOf,typeInfo,hi,Builtin.lenOf,hl,Builtin.firstCells,storeCells]
variable {z:Value} {a:Addr} {c:Nat}
def Hb (ht:P.underlying t=some (.slice e)) (hi:P.info? e=some i) (hz:i.zero=some z) (hzs:z.cells.size=i.size) (w:World) {b cap:Nat} {cs:Array Value} (hw:w.heap[b]?=some (.cells cs e (0,0))) (xJ:cs.size=cap*i.size) (hlen:len<=cap) (hl:news.length=m*i.size) (UY:∀ j u,news[j]?=some u->w.cell? (a.add j)=some u) (h1:∀ u∈news,u.oneCell'=true) (Ez:len+m<=maxLen) (FD:(len+m)*i.bytes<=140737488355328) :
   ∃ v' w',(Builtin.append_ #[t,t] ty #[.slice (some ⟨b,0,none⟩) len cap,.slice (some a) m c]).run P w=.ok v' w'/\
     ((len+m<=cap/\v'=.slice (some ⟨b,0,none⟩) (len+m) cap/\w'=w.setRow b (cs.toList.take (len*i.size)++news++cs.toList.drop (len*i.size+news.length)).toArray)\/
      ∃ sj lO,v'=.slice (some ⟨w.heap.size,0,none⟩) (len+m) sj/\w'=w.drew.alloc (.cells lO e (0,0))/\lO.size=sj*i.size/\sj<=maxLen/\len+m<=sj/\
        lO.toList.take ((len+m)*i.size)=cs.toList.take (len*i.size)++news):=by
 have hsmall:len+m<=9223372036854775807:=by simp only[maxLen] at Ez;omega
 have hle:len*i.size<=cs.size:=by rw[xJ];exact gT _ hlen
 by_cases J1:len+m<=cap
 · have hfit:len*i.size+news.length<=cs.size:=by rw[hl,xJ,<- kD];exact gT _ J1
   exact akW
 · have Ml:(cs.toList.take (len*i.size)).length=len*i.size:=by simp;omega
   have hr:=run_append_grow (P:=P) w t ty e i z ht hi hz ⟨b,0,none⟩ len cap (cs.toList.take (len*i.size)) Ml (λj u hj=>by
     rw[sC,cell_of_row w b _ cs e _ hw]
     rw[hY] at hj
     split at hj
     · simpa using hj
     · cases hj) a m c news hl UY aB aB (growslice_fits aB FD)
   have FE:=grownCap_ge w (len+m) cap e
   refine ⟨_,_,hr,.inr ⟨_,_,rfl,rfl,?_,grownCap_le_maxLen w _ _ e Ez,FE,?_⟩⟩
   · simp only[Array.size_append,List.size_toArray,size_zeroCells,hzs,Ml,hl,<- kD]
     congr 1
     omega
   · have e1:(cs.toList.take (len*i.size)++news).length=(len+m)*i.size:=by rw[eb,Ml,hl,kD]
     simp only[Array.toList_append,fY]
     rw[<- fY,<- e1]
     exact uC
def CD (ht:P.underlying t=some (.slice e)) (hi:P.info? e=some i) (hz:i.zero=some z) (hzs:z.cells.size=i.size) (w:World) (hl:news.length=m*i.size) (UY:∀ j u,news[j]?=some u->w.cell? (a.add j)=some u) (Ez:m<=maxLen) (FD:m*i.bytes<=140737488355328) (hm:0<m) :
   ∃ v' w',(Builtin.append_ #[t,t] ty #[.slice none 0 0,.slice (some a) m c]).run P w=.ok v' w'/\
      ∃ sj lO,v'=.slice (some ⟨w.heap.size,0,none⟩) m sj/\w'=w.drew.alloc (.cells lO e (0,0))/\lO.size=sj*i.size/\sj<=maxLen/\m<=sj/\
        lO.toList.take (m*i.size)=news:=by
 have hsmall:m<=9223372036854775807:=by simp only[maxLen] at Ez;omega
 have hr:=run_append_nil (P:=P) w t ty e i z ht hi hz a m c news hl UY hm aB aB
 have FE:=grownCap_ge w m 0 e
 refine ⟨_,_,hr,_,_,rfl,rfl,?_,grownCap_le_maxLen w _ _ e Ez,FE,?_⟩
 · simp only[Array.size_append,List.size_toArray,size_zeroCells,hzs,hl,<- kD]
   congr 1
   omega
 · simp only[Array.toList_append]
   rw[<- hl]
   exact uC
def Kz {e:Nat} (h:Df P e=some (sz,bytes)):∃ i z,P.info? e=some i/\i.zero=some z/\z.cells.size=i.size/\0<i.size/\i.size=sz/\i.bytes=bytes:=by
 unfold Df at h;cases hi:P.info? e with
 | none=>simp[hi] at h
 | some i=>
  cases hz:i.zero with
  | none=>simp[hi,hz] at h
  | some z=>
   simp[hi,hz] at h
   exact ⟨i,z,rfl,hz,h.1.1,h.1.2,h.2.1,h.2.2⟩
variable {sj:Nat} {lO:Array Value}
def XB (hR:Rel E g σ w) {e:Nat} (hs:σ.clear nm) (hf:E.fix nm=none) (hl:vk g l news) (PZ:l.length=m*sz) (h1:lO.size=sj*sz) (h2:sj<=maxLen) (h3:m<=sj) (h4:lO.toList.take (m*sz)=news) :
  Rel E (g.bind nm w.heap.size sj) (σ.set nm (.arr e sz l)) (w.drew.alloc (.cells lO e (0,0))):=by
 have hle:l.length<=lO.size:=by rw[PZ,h1];exact gT _ h3
 have h0:=hR.drew
 have:=h0.alloc (nm:=nm) (cap:=sj) (e:=.arr e sz l) (o:=.cells lO e (0,0)) hs hf (.arr (by simp[Gh.bind]) (heap_alloc_new w.drew _) hle (by rw[Fi];exact h1) (by rw[Fi];exact h2)
  (by rw[PZ,h4];exact hl.le Vj))
 exact this
def TM (hR:Rel E g σ w) {e:Nat} (hs:σ.clear nm) (hf:E.fix nm=none) (hl:vk g l news) (PZ:l.length=m*sz) (h1:lO.size=sj*sz) (h2:sj<=maxLen) (h3:m<=sj) (h4:lO.toList.take (m*sz)=news) :
  Rel E ((g.bind nm w.heap.size sj).iS w.heap.size l) (σ.set nm (.app e sz l)) (w.drew.alloc (.cells lO e (0,0))):=by
 have hle:l.length<=lO.size:=by rw[PZ,h1];exact gT _ h3
 exact hR.drew.QP hs hf hle h1 h2 (by rw[PZ,h4];exact hl.le (nn:=λ_=>False) (qQ g _ l hR.gl.fresh))
def PV.one:PV->Bool
 | .sc v=>v.oneCell'
 | _=>true
def PV.p9:List PV->Bool
 | []=>true
 | x::xs=>x.one&&p9 xs
def PR.one {v:PV} {c:Value} (h:PR g v c) (ho:v.one=true):c.oneCell'=true:=by
 cases h with
 | sc v=>exact ho
 | nil=>rfl
 | sl=>rfl
 | ZT=>rfl
 | YT=>rfl
def vk.one:∀ {l:List PV} {vs:List Value},vk g l vs->PV.p9 l=true->∀ v,v∈vs->v.oneCell'=true
 | _,_,.nil,_,v,hv=>by cases hv
 | _,_,.cons h t,ho,v,hv=>by
  simp[PV.p9] at ho;rcases cb.1 hv with q|q
  ·subst q;exact h.one ho.1
  exact t.one ho.2 v q
inductive ĸ (sz:Nat):AV->Nat->List PV->Prop
 | sl (m:Nat) (cells:List PV) (h:cells.length=m*sz):ĸ sz (.pv (.sl m cells)) m cells
 | nil:ĸ sz (nSl) 0 []
def ĸ.read {x:AV} {c:Value} (h:ĸ sz x m l) (hG:Vz g w) (hv:VR g x c) :
  (∃ a cap news,c=.slice (some a) m cap/\vk g l news/\∀ j u,news[j]?=some u->w.cell? (a.add j)=some u)\/∃ cap,c=.slice none m cap/\m=0/\l=[]:=by
 cases h with
 | sl m cells h=>
  cases hv with
  | pv hv=>
   cases hv with
   | nil a cap=>
    cases a with
    | none=>exact .inr ⟨_,rfl,rfl,rfl⟩
    | some a=>exact .inl ⟨a,cap,[],rfl,.nil,λj u hj=>by simp at hj⟩
   | sl b ys off _ cap _ hb hl hc hn=>
    obtain ⟨cs,el,fz,hw,h1,h2⟩:=VG hG hb hl hc
    refine .inl ⟨_,cap,_,rfl,h2,λj u hj=>?_⟩
    rw[sC,cell_of_row w b _ cs el fz hw]
    rw[hY] at hj
    split at hj
    ·rw[dD] at hj;simpa using hj
    ·cases hj
 | nil=>cases hv with|pv hv=>cases hv with|sc=>exact .inr ⟨0,rfl,rfl,rfl⟩
variable {s:Operand} {cells:List PV}
def Hc (ho:o.op=.call ⟨.builtin .append,#[s,x],#[t,t]⟩) (ht:P.underlying t=some (.slice e)) (hb:Df P e=some (sz,bytes)) (hs:fr.val s=.arr k len) (hk:σ k=some (.app e sz cells)) (hlen:cells.length=len*sz) (hx:ĸ sz (fr.val x) m l) (h1:PV.p9 l=true) (hc:fr.clear nm) (xJ:(σ.del k).clear nm) (hf:E.fix nm=none) (FD:(len+m)*bytes<=140737488355328) (Ez:len+m<=maxLen) (hd:∀ d,o.dst=some d->d<n) (hn:next (fr.qv o.dst (.arr nm (len+m))) ((σ.del k).set nm (.app e sz (cells++l)))):Step P E n Q o fr σ next:=by
 obtain ⟨i,z,hi,hz,hzs,Ma,rfl,rfl⟩:=Kz hb;intro g a w K hR hF hK;have qs:=hF.eval s;rw[hs] at qs;have qx:=hF.eval x;generalize fr.val x=av at hx qx;have hml:AV.jh.kJ nm (cV.app e i.size (cells++l)).cells=false:=by
  have:∀ zs:List PV,AV.jh.kJ nm (zs.map .pv)=false:=by
   intro zs;induction zs with
   | nil=>rfl
   | cons z zs ih=>simp[AV.jh.kJ,AV.jh,ih]
  exact this _
 have PZ:l.length=m*i.size:=by
  cases hx with
  | sl m cells h=>exact h
  | nil=>simp
 have Ko:(cells++l).length=(len+m)*i.size:=by rw[eb,hlen,PZ,kD]
 have EA:=hx.read hR.gl qx;have G6:∀ v' w',(Builtin.append_ #[t,t] o.type #[a.eval s,a.eval x]).run P w=.ok v' w'->(∃ g',Rel E g' ((σ.del k).set nm (.app e i.size (cells++l))) w'/\FR n g' fr a/\VR g' (.arr nm (len+m)) v')->
   o.wp P a w K (LQ E n Q):=by
  intro v' w' pN ⟨g',lq,tt,GU⟩
  have hrun':(execOp a.eval o).run P w=.ok (.value v') w':=by
   simp only[execOp,ho,resolve,invoke,builtin,cF,eF,bR,vI,kv,ua,pN]
  simp only[Oper.wp,hrun',Oper.upon]
  exact hK g' _ _ _ _ hn lq (tt.put hd GU)
 have hsub:Rel E g (σ.del k) w:=hR.sub λj e' hj=>by
  by_cases q:j=k
  ·subst q;simp[fC.del] at hj
  simpa[fC.del,q] using hj
 have Cx:m=0->l=[]->(Builtin.append_ #[t,t] o.type #[a.eval s,a.eval x]).run P w=.ok (a.eval s) w->o.wp P a w K (LQ E n Q):=by
  intro hm G2 pN;subst hm G2;refine G6 _ _ pN ⟨g.alias nm k,?_,hF.le (xf.alias g nm k) (λj q=>by subst q;exact hc),?_⟩
  ·rw[my] at hml ⊢;exact hR.rename hk xJ hml hf (λ_ q=>by cases q)
  have hn1:(g.alias nm k).ρ nm=g.ρ k:=by simp[Gh.alias]
  have Jg:(g.alias nm k).cp nm=g.cp k:=by simp[Gh.alias]
  generalize hq:a.eval s=cc at qs;cases qs with
  | arr _ h=>rw[<- Jg];exact .arr _ (hn1.trans h)
  | Bm h=>exact .Bm (hn1.trans h)
 have hwr:∀ (sj:Nat) (lO:Array Value) (news:List Value) (v':Value),v'=.slice (some ⟨w.heap.size,0,none⟩) (len+m) sj->vk g (cells++l) news->
   lO.size=sj*i.size->sj<=maxLen->len+m<=sj->lO.toList.take ((len+m)*i.size)=news->
   (Builtin.append_ #[t,t] o.type #[a.eval s,a.eval x]).run P w=.ok v' (w.drew.alloc (.cells lO e (0,0)))->o.wp P a w K (LQ E n Q):=by
  intro sj lO news v' GU HT e1 e2 e3 e4 pN
  have hle:xf (·=nm) g ((g.bind nm w.heap.size sj).iS w.heap.size (cells++l)):=
   (xI g nm _ _).trans (qQ _ _ _ (by simpa[Gh.bind] using hR.gl.fresh))
  refine G6 _ _ pN ⟨_,TM hsub xJ hf HT Ko e1 e2 e3 e4,hF.le hle (λj q=>by subst q;exact hc),?_⟩
  rw[GU]
  have:=VR.arr (g:=(g.bind nm w.heap.size sj).iS w.heap.size (cells++l)) (k:=nm) (b:=w.heap.size) (len+m) (by simp[Gh.bind,Gh.iS])
  simpa[Gh.bind,Gh.iS] using this
 generalize hq:a.eval s=cc at qs;cases qs with
 | Bm hρ=>
  have hc0:cells=[]:=fh (by simpa using hlen)
  subst hc0
  rcases EA with ⟨ad,cap,news,UX,HT,KA⟩|⟨cap,UX,hm,G2⟩
  ·by_cases hm:m=0
   ·subst hm;have G2:l=[]:=fh (by simpa using PZ);refine Cx rfl G2 ?_;rw[hq,UX];have hn0:news=[]:=fh (by rw[<- HT.length,G2];rfl);simp[Builtin.append_,run_underlying ht,sizeOf,typeInfo,hi,Builtin.lenOf,Builtin.firstCells,loadCells,loadCellsFrom]
   have Ja:news.length=m*i.size:=by rw[<- HT.length,PZ]
   obtain ⟨v',w',pN,sj,lO,GU,Mc,e1,e2,e3,e4⟩:=CD (P:=P) (ty:=o.type) (c:=cap) ht hi hz hzs w Ja KA aB (by simpa using FD) (Nat.pos_of_ne_zero hm);subst Mc;exact hwr sj lO news v' (by simpa using GU) (by simpa using HT) e1 e2 (by simpa using e3) (by simpa using e4) Xt
  ·refine Cx hm G2 ?_;rw[hq,UX,hm];exact vz ht hi none 0 0 cap (iJ _) w
 | arr _ hρ=>
  rename_i b
  cases hR.sv k _ hk with
  | Jb h=>rw[h] at hρ;cases hρ
  | app h hGk hw hcle hcz hcm P3=>
   rename_i cs
   rw[h] at hρ;cases hρ
   have hlc:len<=g.cp k:=by
    have:len*i.size<=g.cp k*i.size:=by rw[<- hlen,<- hcz];exact hcle
    exact mT this Ma
   rcases EA with ⟨ad,cap,news,UX,HT,KA⟩|⟨cap,UX,hm,G2⟩
   ·have Ja:news.length=m*i.size:=by rw[<- HT.length,PZ]
    obtain ⟨v',w',pN,hcase⟩:=Hb (P:=P) (ty:=o.type) (c:=cap) ht hi hz hzs w hw hcz hlc Ja KA (HT.one h1) Ez FD;rw[hlen] at P3;rcases hcase with ⟨J1,GU,Mc⟩|⟨sj,lO,GU,Mc,e1,e2,e3,e4⟩
    ·subst Mc;have hfit:len*i.size+news.length<=cs.size:=by rw[Ja,hcz,<- kD];exact gT _ J1
     have htake:(cs.toList.take (len*i.size)++news++cs.toList.drop (len*i.size+news.length)).take (cells++l).length=cs.toList.take (len*i.size)++news:=by
      have:(cs.toList.take (len*i.size)++news).length=(cells++l).length:=by rw[Ko,eb,Ja,kD];simp;omega
      rw[<- this];exact uC
     have hR1:=hR.extend (k:=k) (us:=l) (cs:=(cs.toList.take (len*i.size)++news++cs.toList.drop (len*i.size+news.length)).toArray) hk h
      (by rw[Ko];simp;rw[Ja,kD];omega) (by rw[<- hcz];simp;omega) ⟨_,hw⟩ (by simp only;rw[htake];exact P3.append HT)
     have Mw:=hR1.rename (nm:=nm) (k:=k) (e:=.app e i.size (cells++l)) (by simp[fC.set]) (λj e' hj=>xJ j e' (by
      by_cases q:j=k
      ·subst q;simp[fC.del] at hj
      simpa[fC.del,fC.set,q] using hj)) hml hf (λ_ q=>by cases q)
     have hσ:((σ.set k (.app e i.size (cells++l))).del k).set nm (.app e i.size (cells++l))=(σ.del k).set nm (.app e i.size (cells++l)):=by
      funext j;simp only[fC.set,fC.del];split<;>(try rfl);split<;>rfl
     rw[hσ] at Mw;refine G6 _ _ Xt ⟨_,Mw,hF.le ((xf.grow g b cells l hGk).trans (xf.alias _ nm k)) (λj q=>by subst q;exact hc),?_⟩;rw[GU];have hn1:((g.iS b (cells++l)).alias nm k).ρ nm=g.ρ k:=by simp[Gh.alias,Gh.iS]
     have Jg:((g.iS b (cells++l)).alias nm k).cp nm=g.cp k:=by simp[Gh.alias,Gh.iS]
     rw[<- Jg];exact .arr _ (hn1.trans h)
    subst Mc;exact hwr sj lO _ v' GU (P3.append HT) e1 e2 e3 e4 Xt
   ·refine Cx hm G2 ?_;rw[hq,UX,hm];exact vz ht hi _ _ _ cap hlc w
def KB:∀ {l:List PV},PV.p9 l=true->AV.p9 (l.map .pv)=true
 | [],_=>rfl
 | x::l,h=>by
  simp[PV.p9] at h;have hx:(AV.pv x).one=true:=by
   cases x with
   | sc v=>simpa[AV.one,PV.one] using h.1
   | sl _ _=>rfl
   | pt _=>rfl
  simp[AV.p9,hx,KB h.2]
def He (ho:o.op=.call ⟨.builtin .append,#[s,x],#[t,t]⟩) (ht:P.underlying t=some (.slice e)) (hb:Df P e=some (sz,bytes)) (hs:fr.val s=.arr k len) (hk:σ k=some (.arr e sz cells)) (hlen:cells.length=len*sz) (hx:ĸ sz (fr.val x) m l) (h1:PV.p9 l=true) (hc:fr.clear nm) (xJ:(σ.del k).clear nm) (hf:E.fix nm=none) (FD:(len+m)*bytes<=140737488355328) (Ez:len+m<=maxLen) (hd:∀ d,o.dst=some d->d<n) (hn:next (fr.qv o.dst (.arr nm (len+m))) ((σ.del k).set nm (.arr e sz (cells++l)))):Step P E n Q o fr σ next:=by
 obtain ⟨i,z,hi,hz,hzs,Ma,rfl,rfl⟩:=Kz hb;intro g a w K hR hF hK;have qs:=hF.eval s;rw[hs] at qs;have qx:=hF.eval x;generalize fr.val x=av at hx qx;have PZ:l.length=m*i.size:=by
  cases hx with
  | sl m cells h=>exact h
  | nil=>simp
 have Ko:(cells++l).length=(len+m)*i.size:=by rw[eb,hlen,PZ,kD]
 have EA:=hx.read hR.gl qx;have G6:∀ v' w',(Builtin.append_ #[t,t] o.type #[a.eval s,a.eval x]).run P w=.ok v' w'->(∃ g',Rel E g' ((σ.del k).set nm (.arr e i.size (cells++l))) w'/\FR n g' fr a/\VR g' (.arr nm (len+m)) v')->
   o.wp P a w K (LQ E n Q):=by
  exact akZ
 have hsub:Rel E g (σ.del k) w:=hR.sub λj e' hj=>by
  by_cases q:j=k
  ·subst q;simp[fC.del] at hj
  simpa[fC.del,q] using hj
 have Cx:m=0->l=[]->(Builtin.append_ #[t,t] o.type #[a.eval s,a.eval x]).run P w=.ok (a.eval s) w->o.wp P a w K (LQ E n Q):=by
  intro hm G2 pN;subst hm G2;refine G6 _ _ pN ⟨g.alias nm k,?_,hF.le (xf.alias g nm k) aei,?_⟩
  ·rw[my];exact hR.rename hk xJ (yd nm _) hf QJ
  have hn1:(g.alias nm k).ρ nm=g.ρ k:=by simp[Gh.alias]
  have Jg:(g.alias nm k).cp nm=g.cp k:=by simp[Gh.alias]
  generalize hq:a.eval s=cc at qs;cases qs with
  | arr _ h=>rw[<- Jg];exact .arr _ (hn1.trans h)
  | Bm h=>exact .Bm (hn1.trans h)
 have hwr:∀ (b:Nat) (sj:Nat) (lO:Array Value) (news:List Value) (v':Value),v'=.slice (some ⟨w.heap.size,0,none⟩) (len+m) sj->vk g (cells++l) news->
   lO.size=sj*i.size->sj<=maxLen->len+m<=sj->lO.toList.take ((len+m)*i.size)=news->
   (Builtin.append_ #[t,t] o.type #[a.eval s,a.eval x]).run P w=.ok v' (w.drew.alloc (.cells lO e (0,0)))->o.wp P a w K (LQ E n Q):=by
  intro b sj lO news v' GU HT e1 e2 e3 e4 pN
  refine G6 _ _ pN ⟨g.bind nm w.heap.size sj,XB hsub xJ hf HT Ko e1 e2 e3 e4,hF.le Vj aei,?_⟩
  rw[GU]
  have:=VR.arr (g:=g.bind nm w.heap.size sj) (k:=nm) (len+m) (Gs ..)
  rwa [Fi] at this
 generalize hq:a.eval s=cc at qs;cases qs with
 | Bm hρ=>
  have hc0:cells=[]:=fh (by simpa using hlen)
  subst hc0
  rcases EA with ⟨ad,cap,news,UX,HT,KA⟩|⟨cap,UX,hm,G2⟩
  ·by_cases hm:m=0
   ·exact ak0
   have Ja:news.length=m*i.size:=by rw[<- HT.length,PZ]
   obtain ⟨v',w',pN,sj,lO,GU,Mc,e1,e2,e3,e4⟩:=CD (P:=P) (ty:=o.type) (c:=cap) ht hi hz hzs w Ja KA aB (by simpa using FD) (Nat.pos_of_ne_zero hm);subst Mc;exact hwr 0 sj lO news v' (by simpa using GU) (by simpa using HT) e1 e2 (by simpa using e3) (by simpa using e4) Xt
  ·exact aiC
 | arr _ hρ=>
  rename_i b
  cases hR.sv k _ hk with
  | Bm h=>rw[h] at hρ;cases hρ
  | arr h hw hcle hcz hcm P3=>
   rename_i cs
   rw[h] at hρ;cases hρ
   have hlc:len<=g.cp k:=by
    exact aiB
   rcases EA with ⟨ad,cap,news,UX,HT,KA⟩|⟨cap,UX,hm,G2⟩
   ·have Ja:news.length=m*i.size:=by rw[<- HT.length,PZ]
    obtain ⟨v',w',pN,hcase⟩:=Hb (P:=P) (ty:=o.type) (c:=cap) ht hi hz hzs w hw hcz hlc Ja KA (HT.one h1) Ez FD;rw[hlen] at P3;rcases hcase with ⟨J1,GU,Mc⟩|⟨sj,lO,GU,Mc,e1,e2,e3,e4⟩
    ·subst Mc;have hfit:len*i.size+news.length<=cs.size:=by rw[Ja,hcz,<- kD];exact gT _ J1
     have htake:(cs.toList.take (len*i.size)++news++cs.toList.drop (len*i.size+news.length)).take (cells++l).length=cs.toList.take (len*i.size)++news:=by
      exact ak2
     have On:rC g (w.setRow b (cs.toList.take (len*i.size)++news++cs.toList.drop (len*i.size+news.length)).toArray) k (.arr e i.size (cells++l)):=by
      refine .arr h (setRow_heap w b cs _ e _ hw) ?_ ?_ hcm ?_
      ·rw[Ko];simp;rw[Ja,kD];omega
      ·rw[<- hcz];simp;omega
      simp only;rw[htake];exact P3.append HT
     have hR1:=hR.write hk rfl h On ⟨_,_,_,hw,qI,λ⟨k',q⟩ _=>(by
      have:=hR.x.xh k' b k q (by rw[hk];rfl) h;subst this;obtain ⟨_,q'⟩:=hR.x.xi k b _ q hk;cases q')⟩ (λ⟨_,q⟩=>by cases q)
     have Mw:=hR1.rename (nm:=nm) (k:=k) (e:=.arr e i.size (cells++l)) (by simp[fC.set]) (λj e' hj=>xJ j e' (by
      by_cases q:j=k
      ·subst q;simp[fC.del] at hj
      simpa[fC.del,fC.set,q] using hj)) (yd nm _) hf QJ
     have hσ:((σ.set k (.arr e i.size (cells++l))).del k).set nm (.arr e i.size (cells++l))=(σ.del k).set nm (.arr e i.size (cells++l)):=by
      funext j;simp only[fC.set,fC.del];split<;>(try rfl);split<;>rfl
     rw[hσ] at Mw;refine G6 _ _ Xt ⟨g.alias nm k,Mw,hF.le (xf.alias g nm k) aei,?_⟩;rw[GU];have hn1:(g.alias nm k).ρ nm=g.ρ k:=by simp[Gh.alias]
     have Jg:(g.alias nm k).cp nm=g.cp k:=by simp[Gh.alias]
     rw[<- Jg];exact .arr _ (hn1.trans h)
    subst Mc;exact hwr b sj lO _ v' GU (P3.append HT) e1 e2 e3 e4 Xt
   ·refine Cx hm G2 ?_;rw[hq,UX,hm];exact vz ht hi _ _ _ cap hlc w
end
section
def AV.mh (π:Nat->Nat):AV->AV
 | .any=>.any
 | .oc=>.oc
 | .pv p=>.pv p
 | .ptr k off=>.ptr (π k) off
 | .arr k n=>.arr (π k) n
 | .sp cells=>.sp cells
 | .fn f xs ys=>.fn f (ud π xs) (ud π ys)
 | .agg cs=>.agg (ud π cs)
 | .mE cs=>.mE (ud π cs)
 | .vV t v=>.vV t (v.mh π)
where
 ud (π:Nat->Nat):List AV->List AV
  | []=>[]
  | x::xs=>x.mh π::ud π xs
def cV.mh (π:Nat->Nat):cV->cV
 | .box cs=>.box (AV.mh.ud π cs)
 | .arr el sz cs=>.arr el sz cs
 | .app el sz cs=>.app el sz cs
def cV.OA (π:Nat->Nat) (e:cV):(e.mh π).isApp=e.isApp:=by cases e<;>rfl
def AV.only (p:Nat->Bool):AV->Bool
 | .any|.oc|.pv _|.sp _=>true
 | .ptr k _=>p k
 | .arr k _=>p k
 | .fn _ xs ys=>tz p xs&&tz p ys
 | .agg cs=>tz p cs
 | .mE cs=>tz p cs
 | .vV _ v=>v.only p
where
 tz (p:Nat->Bool):List AV->Bool
  | []=>true
  | x::xs=>x.only p&&tz p xs
def Gh.pull (g:Gh) (π:Nat->Nat):Gh:={ ρ:=λj=>g.ρ (π j),cp:=λj=>g.cp (π j),G:=g.G }
mutual
def VR.pull {g:Gh} {π:Nat->Nat}:∀ {x:AV} {c:Value},VR g (x.mh π) c->VR (g.pull π) x c
 | .any,_,_=>.any _
 | .oc,_,h=>by simp only[AV.mh] at h;cases h with|oc h=>exact .oc h
 | .pv _,_,h=>by simp only[AV.mh] at h;cases h with|pv h=>exact .pv (PR.congr (g:=g) (g':=g.pull π) (λ_ _ q=>q) h)
 | .ptr k off,_,h=>by simp only[AV.mh] at h;cases h with|ptr _ h=>exact .ptr off h
 | .arr k n,_,h=>by
  simp only[AV.mh] at h;cases h with
  | arr _ h=>exact VR.arr (g:=g.pull π) (k:=k) n h
  | Bm h=>exact .Bm h
 | .sp _,_,h=>by simp only[AV.mh] at h;cases h with|sp off h hl hc=>exact .sp off h hl hc
 | .fn f xs ys,_,h=>by simp only[AV.mh] at h;cases h with|fn _ hx hy=>exact .fn f (M.pull hx) (M.pull hy)
 | .agg cs,_,h=>by simp only[AV.mh] at h;cases h with|agg h=>exact .agg (M.pull h)
 | .mE cs,_,h=>by simp only[AV.mh] at h;cases h with|mE h=>exact .mE (M.pull h)
 | .vV t v,_,h=>by simp only[AV.mh] at h;cases h with|vV _ h=>exact .vV t (VR.pull h)
def M.pull {g:Gh} {π:Nat->Nat}:∀ {x:List AV} {c:List Value},M g (AV.mh.ud π x) c->M (g.pull π) x c
 | [],_,h=>by simp only[AV.mh.ud] at h;cases h;exact .nil
 | x::xs,_,h=>by simp only[AV.mh.ud] at h;cases h with|cons h t=>exact .cons (VR.pull h) (M.pull t)
end
mutual
def VR.push {J:Nat->Bool} {g g':Gh} {π:Nat->Nat} (hρ:∀ j,J j=true->g'.ρ (π j)=g.ρ j) (Jz:∀ j,J j=true->g'.cp (π j)=g.cp j) (hG:∀ b ys,g.G b=some ys->g'.G b=some ys) :
  ∀ {x:AV} {c:Value},x.only J=true->VR g x c->VR g' (x.mh π) c
 | .any,_,_,_=>by simp only[AV.mh];exact .any _
 | .oc,_,_,h=>by simp only[AV.mh];cases h with|oc h=>exact .oc h
 | .pv _,_,_,h=>by simp only[AV.mh];cases h with|pv h=>exact .pv (h.congr hG)
 | .ptr k off,_,ho,h=>by
  simp only[AV.mh];simp only[AV.only] at ho
  cases h with|ptr _ h=>exact .ptr off ((hρ k ho).trans h)
 | .arr k n,_,ho,h=>by
  simp only[AV.mh];simp only[AV.only] at ho
  cases h with
  | arr _ h=>rw[<- Jz k ho];exact .arr n ((hρ k ho).trans h)
  | Bm h=>exact .Bm ((hρ k ho).trans h)
 | .sp _,_,_,h=>by simp only[AV.mh];cases h with|sp off h hl hc=>exact .sp off (hG _ _ h) hl hc
 | .fn f xs ys,_,ho,h=>by
  simp only[AV.mh];simp only[AV.only,bm] at ho
  cases h with|fn _ hx hy=>exact .fn f (M.push hρ Jz hG ho.1 hx) (M.push hρ Jz hG ho.2 hy)
 | .agg cs,_,ho,h=>by simp only[AV.mh];simp only[AV.only] at ho;cases h with|agg h=>exact .agg (M.push hρ Jz hG ho h)
 | .mE cs,_,ho,h=>by simp only[AV.mh];simp only[AV.only] at ho;cases h with|mE h=>exact .mE (M.push hρ Jz hG ho h)
 | .vV t v,_,ho,h=>by simp only[AV.mh];simp only[AV.only] at ho;cases h with|vV _ h=>exact .vV t (VR.push hρ Jz hG ho h)
def M.push {J:Nat->Bool} {g g':Gh} {π:Nat->Nat} (hρ:∀ j,J j=true->g'.ρ (π j)=g.ρ j) (Jz:∀ j,J j=true->g'.cp (π j)=g.cp j) (hG:∀ b ys,g.G b=some ys->g'.G b=some ys) :
  ∀ {x:List AV} {c:List Value},AV.only.tz J x=true->M g x c->M g' (AV.mh.ud π x) c
 | [],_,_,h=>by simp only[AV.mh.ud];cases h;exact .nil
 | x::xs,_,ho,h=>by
  simp only[AV.mh.ud];simp only[AV.only.tz,bm] at ho
  cases h with|cons h t=>exact .cons (VR.push hρ Jz hG ho.1 h) (M.push hρ Jz hG ho.2 t)
end
variable {g:Gh} {e:cV} {σ0:fC}
def rC.pull (h:rC g w (π j) (e.mh π)):rC (g.pull π) w j e:=by
 cases e with
 | box cells=>
  simp only[cV.mh] at h
  cases h with|box h hw hc h1=>exact .box h hw (M.pull hc) h1
 | arr el sz cells=>
  simp only[cV.mh] at h
  cases h with
  | Bm h=>exact .Bm h
  | arr h hw hl hz hm hc=>exact .arr h hw hl hz hm (s5 (g:=g) (g':=g.pull π) (λ_ _ q=>q) hc)
 | app el sz cells=>
  simp only[cV.mh] at h
  cases h with
  | Jb h=>exact .Jb h
  | app h hG hw hl hz hm hc=>exact .app h hG hw hl hz hm (s5 (g:=g) (g':=g.pull π) (λ_ _ q=>q) hc)
variable {g':Gh}
def rC.push {J:Nat->Bool} (hρ:∀ j,J j=true->g'.ρ (π j)=g.ρ j) (Jz:∀ j,J j=true->g'.cp (π j)=g.cp j) (hG:∀ b ys,g.G b=some ys->g'.G b=some ys) (hj:J j=true) (ho:AV.only.tz J e.cells=true) (h:rC g w j e):rC g' w (π j) (e.mh π):=by
 cases h with
 | box h hw hc h1=>exact .box ((hρ j hj).trans h) hw (hc.push hρ Jz hG ho) h1
 | Bm h=>exact .Bm ((hρ j hj).trans h)
 | arr h hw hl hz hm hc=>exact .arr ((hρ j hj).trans h) hw hl (by rw[Jz j hj];exact hz) (by rw[Jz j hj];exact hm) (hc.congr hG)
 | Jb h=>exact .Jb ((hρ j hj).trans h)
 | app h hg hw hl hz hm hc=>exact .app ((hρ j hj).trans h) (hG _ _ hg) hw hl (by rw[Jz j hj];exact hz) (by rw[Jz j hj];exact hm) (hc.congr hG)
def after (σ:fC) (π:Nat->Nat) (L J:List Nat) (σc:fC):fC:=λk=>
 match J.find? (λj=>π j==k) with
 | some j=>(σc j).map (cV.mh π)
 | none=>if L.any (λj=>π j==k) then none else σ k
structure Jh (E:Env) (fr:k9) (σ:fC) (π:Nat->Nat) (L J:List Nat) (σ0 σc:fC) (v:AV):Prop where
 dom:∀ j e,σc j=some e->J.contains j=true/\AV.only.tz J.contains e.cells=true
 val:v.only J.contains=true
 inj:∀ j j',J.contains j=true->J.contains j'=true->π j=π j'->j=j'
 same:∀ j,J.contains j=true->(∃ cs,σ0 j=some (.box cs))\/(fr.clear (π j)/\(∀ k e,L.any (λi=>π i==k)=false->σ k=some e->AV.jh.kJ (π j) e.cells=false)/\E.fix (π j)=none)
section
variable {P:Program} {E:Env} {Q:gJ} {fr:k9} {σ:fC}
def Gh.join (g g':Gh) (π:Nat->Nat) (J:List Nat):Gh where
 ρ:=λk=>match J.find? (λj=>π j==k) with
  | some j=>g'.ρ j
  | none=>g.ρ k
 cp:=λk=>match J.find? (λj=>π j==k) with
  | some j=>g'.cp j
  | none=>g.cp k
 G:=g'.G
variable {J:List Nat}
def Z8 (inj:∀ j j',J.contains j=true->J.contains j'=true->π j=π j'->j=j') (hj:J.contains j=true) :
  J.find? (λi=>π i==π j)=some j:=by
 cases h:J.find? (λi=>π i==π j) with
 | none=>
  have:=ls.1 h j BA
  simp at this
 | some i=>
  have h1:=nU h
  have h2:=fo h
  rw[inj i j xq hj FY]
def H3 {w':World} {a:Act} {L:List Nat} {σc:fC} {v:AV} {c:Value} (hR:Rel E g σ w) (hF:FR n g fr a) (hL:∀ j,(σ0 j).isSome=true->L.contains j=true) (hσ:∀ j e,σ0 j=some e->σ (π j)=some (e.mh π)) (hB:Jh E fr σ π L J σ0 σc v) (lq:Rel (Env.of E.wS (g.pull π) σ0 w) g' σc w') (hv:VR g' v c) :
  Rel E (g.join g' π J) (after σ π L J σc) w'/\FR n (g.join g' π J) fr a/\VR (g.join g' π J) (v.mh π) c:=by
 have hfind:∀ j,J.contains j=true->J.find? (λi=>π i==π j)=some j:=λj hj=>Z8 hB.inj hj
 have hρJ:∀ j,J.contains j=true->(g.join g' π J).ρ (π j)=g'.ρ j:=λj hj=>by simp only[Gh.join,hfind j hj]
 have hcJ:∀ j,J.contains j=true->(g.join g' π J).cp (π j)=g'.cp j:=λj hj=>by simp only[Gh.join,hfind j hj]
 have hbox:∀ j cs,σ0 j=some (.box cs)->g'.ρ j=g.ρ (π j)/\g'.cp j=g.cp (π j):=λj cs xJ=>by
  have he:=hσ j _ xJ
  cases hR.sv _ _ he with
  | box hb=>
   rename_i b _ _ _ _ _
   have S8:(Env.of E.wS (g.pull π) σ0 w).fix j=some b:=by simp only[Env.of,xJ,Gh.pull];exact hb
   exact ⟨(lq.fix j b S8).trans hb.symm,lq.qq j b S8⟩
 have hle:xf (λk=>∃ j,J.contains j=true/\π j=k/\¬ ∃ cs,σ0 j=some (.box cs)) g (g.join g' π J):=by
  refine ⟨λk hk=>?_,λk hk=>?_,λb ys hb=>lq.g0 b ys hb⟩
  all_goals
   cases hf:J.find? (λj=>π j==k) with
   | none=>simp only[Gh.join,hf]
   | some j=>
    have h1:=nU hf
    have h2:=fo hf
    have hj:J.contains j=true:=by simpa using h2
    have hjk:π j=k:=by simpa using h1
    simp only[Gh.join,hf]
    have hb:∃ cs,σ0 j=some (.box cs):=Classical.byContradiction λq=>hk ⟨j,hj,hjk,q⟩
    obtain ⟨cs,xJ⟩:=hb
    have:=hbox j cs xJ
    rw[hjk] at this
    first|exact this.1|exact this.2
 have OB:∀ k,(∃ j,J.contains j=true/\π j=k/\¬ ∃ cs,σ0 j=some (.box cs))->fr.clear k/\(∀ i e,L.any (λj=>π j==i)=false->σ i=some e->AV.jh.kJ k e.cells=false)/\E.fix k=none:=by
  rintro k ⟨j,hj,rfl,hn⟩
  rcases hB.same j hj with q|q
  ·exact ao q hn
  ·exact q
 have hown0:∀ b,(Env.of E.wS (g.pull π) σ0 w).own b↔∃ j,(σ0 j).isSome=true/\g.ρ (π j)=some b:=λb=>Iff.rfl
 have vX:∀ j,(σ0 j).isSome=true->(σ (π j)).isSome=true:=λj hj=>by
  cases q:σ0 j with
  | none=>rw[q] at hj;cases hj
  | some e=>rw[hσ j e q];rfl
 have KC:∀ k e,after σ π L J σc k=some e->(∃ j ec,J.contains j=true/\π j=k/\σc j=some ec/\e=ec.mh π)\/
   (σ k=some e/\L.any (λj=>π j==k)=false/\∀ j,J.contains j=true->π j≠k):=by
  intro k e hk
  unfold after at hk
  cases hf:J.find? (λj=>π j==k) with
  | some j=>
   rw[hf] at hk
   have h1:=nU hf
   have h2:=fo hf
   simp only at hk
   cases q:σc j with
   | none=>rw[q] at hk;cases hk
   | some ec=>rw[q] at hk;cases hk;exact .inl ⟨j,ec,by simpa using h2,by simpa using h1,q,rfl⟩
  | none=>
   rw[hf] at hk
   simp only at hk
   split at hk
   ·cases hk
   ·rename_i hn
    refine .inr ⟨hk,by simpa using hn,λj hj q=>?_⟩
    have:=ls.1 hf j BA
    simp[q] at this
 have hnot:∀ k b,(σ k).isSome=true->L.any (λj=>π j==k)=false->g.ρ k=some b->¬ (Env.of E.wS (g.pull π) σ0 w).own b:=by
  rintro k b hk hl hb ⟨j,hj,Jy⟩
  have:=hR.inj (π j) k b (vX j hj) hk Jy hb
  have hlj:=hL j hj
  have:L.any (λj=>π j==k)=true:=mX.2 ⟨j,by simpa using hlj,by simpa using this⟩
  rw[hl] at this;cases this
 have KD:∀ k,(∀ j,J.contains j=true->π j≠k)->(g.join g' π J).ρ k=g.ρ k:=λk hk=>by
  cases hf:J.find? (λj=>π j==k) with
  | none=>simp only[Gh.join,hf]
  | some j=>
   have h1:=nU hf
   have h2:=fo hf
   exact ao FY (hk j xq)
 have hJc:∀ j ec,σc j=some ec->J.contains j=true:=λj ec h=>(hB.dom j ec h).1
 have hown:∀ b,(Env.of E.wS (g.pull π) σ0 w).own b->E.own b\/E.w0.heap.size<=b:=by
  rintro b ⟨j,hj,Jy⟩
  exact hR.own (π j) b (vX j hj) Jy
 have hGk:∀ k e b,σ k=some e->L.any (λj=>π j==k)=false->g.ρ k=some b->e.isApp=true->(g.join g' π J).G b=g.G b:=by
  intro k e b he hl hb Cw
  have xM:(σ k).isSome=true:=by rw[he];rfl
  cases e with
  | box _=>cases Cw
  | arr _ _ _=>cases Cw
  | app el sz cells=>
   cases hR.sv k _ he with
   | Jb h=>rw[h] at hb;cases hb
   | app h hG=>
    rw[h] at hb;cases hb
    obtain ⟨zs,h1⟩:=lq.g0 b cells hG
    rcases lq.gn b _ h1 with q|q|q
    ·have q':g.G b=some (cells++zs):=q
     exact h1.trans q'.symm
    ·exact (hnot k b xM hl h q).elim
    ·exact ao (hR.lt xM h) (rQ.2 q)
 refine ⟨{ sv:=?_,inj:=?_,gl:=?_,apart:=?_,size:=?_,yV:=?_,own:=?_,fix:=?_,qq:=?_,g0:=?_,gn:=?_,os:=?_,out:=?_,tape:=?_,x:=?_ },?_,?_⟩
 ·intro k e hk
  rcases KC k e hk with ⟨j,ec,hj,rfl,hec,rfl⟩|⟨he,hl,hJ⟩
  ·exact (lq.sv j ec hec).push (λi hi=>hρJ i hi) (λi hi=>hcJ i hi) (λ_ _ q=>q) hj (hB.dom j ec hec).2
  ·have xM:(σ k).isSome=true:=by rw[he];rfl
   refine (hR.sv k e he).le hle (λq=>?_) (λb hb Cw=>hGk k e b he hl hb Cw) (λi hi=>(OB i hi).2.1 k e hl he) (λb hb=>?_)
   ·obtain ⟨j,hj,hjk,_⟩:=q;exact hJ j hj hjk
   ·exact lq.yV b ((hR.sv k e he).lt hb) (hnot k b xM hl hb)
 ·intro k k' b hk F1 hb x8
  have key:∀ k,(after σ π L J σc k).isSome=true->(g.join g' π J).ρ k=some b->(∃ j,J.contains j=true/\π j=k/\(σc j).isSome=true/\g'.ρ j=some b)\/((σ k).isSome=true/\L.any (λj=>π j==k)=false/\g.ρ k=some b):=by
   intro k hk hb
   cases q:after σ π L J σc k with
   | none=>rw[q] at hk;cases hk
   | some e=>
    rcases KC k e q with ⟨j,ec,hj,rfl,hec,rfl⟩|⟨he,hl,hJ⟩
    ·exact .inl ⟨j,hj,rfl,QE,(hρJ j hj).symm.trans hb⟩
    ·exact .inr ⟨QH,hl,(KD k hJ).symm.trans hb⟩
  have EB:∀ j k,(σc j).isSome=true->g'.ρ j=some b->(σ k).isSome=true->L.any (λi=>π i==k)=false->g.ρ k=some b->False:=by
   intro j k hj Jy hk hl hkb
   rcases lq.own j b hj Jy with q|q
   ·exact hnot k b hk hl hkb q
   ·exact ao (hR.lt hk hkb) (rQ.2 q)
  rcases key k hk hb with ⟨j,hj,rfl,hs,hr⟩|⟨hs,hl,hr⟩
  ·rcases key k' F1 x8 with ⟨j',zT,rfl,QX,Fh⟩|⟨QX,Ms,Fh⟩
   ·rw[lq.inj j j' b hs QX hr Fh]
   ·exact (EB j k' hs hr QX Ms Fh).elim
  ·rcases key k' F1 x8 with ⟨j',zT,rfl,QX,Fh⟩|⟨QX,Ms,Fh⟩
   ·exact (EB j' k QX Fh hs hl hr).elim
   ·exact hR.inj k k' b hs QX hr Fh
 ·intro b ys hb
  obtain ⟨cs,el,fz,h1,h2,h3⟩:=lq.gl b ys hb
  exact ⟨cs,el,fz,h1,h2,s5 (g:=g') (g':=g.join g' π J) (λ_ _ q=>q) h3⟩
 ·intro k b e q Cw hb
  rcases KC k e q with ⟨j,ec,hj,rfl,hec,rfl⟩|⟨he,hl,hJ⟩
  ·exact lq.apart j b ec hec (by rw[<- Cw,cV.OA]) ((hρJ j hj).symm.trans hb)
  ·have hkb:=(KD k hJ).symm.trans hb
   have xM:(σ k).isSome=true:=by rw[he];rfl
   cases hG:(g.join g' π J).G b with
   | none=>rfl
   | some ys=>
    rcases lq.gn b ys hG with q|q|q
    ·have:=hR.apart k b e he Cw hkb
     simp only[Env.of,Gh.pull] at q
     rw[this] at q;cases q
    ·exact (hnot k b xM hl hkb q).elim
    ·exact ao (hR.lt xM hkb) (rQ.2 q)
 ·exact kt hR.size lq.size
 ·intro b hb ho
  have h1:¬ (Env.of E.wS (g.pull π) σ0 w).own b:=λq=>by
   rcases hown b q with q|q
   ·exact ho q
   ·exact ao hb (rQ.2 q)
  rw[lq.yV b (lx hb hR.size) h1]
  exact hR.yV b hb ho
 ·intro k b hk hb
  cases q:after σ π L J σc k with
  | none=>rw[q] at hk;cases hk
  | some e=>
   rcases KC k e q with ⟨j,ec,hj,rfl,hec,rfl⟩|⟨he,hl,hJ⟩
   ·rcases lq.own j b QE ((hρJ j hj).symm.trans hb) with q|q
    ·exact hown b q
    ·exact .inr (kt hR.size q)
   ·exact hR.own k b QH ((KD k hJ).symm.trans hb)
 ·intro k b hk
  rw[hle.ρ k (λq=>by have:=(OB k q).2.2;rw[this] at hk;cases hk)]
  exact hR.fix k b hk
 ·intro k b hk
  rw[hle.cp k (λq=>by have:=(OB k q).2.2;rw[this] at hk;cases hk)]
  exact hR.qq k b hk
 ·intro b ys hb
  obtain ⟨zs,h1⟩:=hR.g0 b ys hb
  obtain ⟨us,h2⟩:=lq.g0 b _ h1
  exact ⟨zs++us,by rw[<- fY];exact h2⟩
 ·intro b ys hb
  rcases lq.gn b ys hb with q|q|q
  ·exact hR.gn b ys q
  ·exact .inr (hown b q)
  ·exact .inr (.inr (kt hR.size q))
 ·exact lq.os.trans hR.os
 ·exact lq.out.trans hR.out
 ·exact lq.tape.trans hR.tape
 ·exact {
      IL:=λb cs el fz hb=>by
       obtain ⟨c1,h1,h2⟩:=hR.x.IL b cs el fz hb
       obtain ⟨c2,h3,h4⟩:=lq.x.IL b c1 el fz h1
       exact ⟨c2,h3,h4.trans h2⟩
      flat:=λk b cs el fz hk hb S7=>by
       obtain ⟨c1,h1,h1f⟩:=hR.x.flat k b cs el fz hk hb S7
       by_cases q:∃ j,(σ0 j).isSome=true/\g.ρ (π j)=some b
       ·obtain ⟨j,hj,Jy⟩:=q
        have hkj:=hR.x.xh k b (π j) hk (vX j hj) Jy
        cases q0:σ0 j with
        | none=>rw[q0] at hj;cases hj
        | some e0=>
         have h2:=hσ j e0 q0
         rw[hkj] at h2
         obtain ⟨cs2,h3⟩:=hR.x.xi k b _ hk h2
         cases e0 with
         | box IN=>
          have S8:(Env.of E.wS (g.pull π) σ0 w).fix j=some b:=by simp only[Env.of,q0];exact Jy
          exact lq.x.flat j b c1 el fz S8 h1 h1f
         | arr _ _ _=>cases h3
         | app _ _ _=>cases h3
       ·exact ⟨c1,by rw[lq.yV b (Bx h1) (λ⟨j,hj,Jy⟩=>q ⟨j,hj,Jy⟩)];exact h1,h1f⟩
      set:=lq.x.set,HX:=hR.x.HX
      hi:=λk b hk hb=>by
       cases q:after σ π L J σc k with
       | none=>rw[q] at hk;cases hk
       | some e=>
        rcases KC k e q with ⟨j,ec,hj,rfl,hec,rfl⟩|⟨he,hl,hJ⟩
        ·exact lq.x.hi j b QE ((hρJ j hj).symm.trans hb)
        ·exact hR.x.hi k b QH ((KD k hJ).symm.trans hb)
      gf:=hR.x.gf
      xg:=hR.x.xg
      xQ:=λk b hf=>by
       cases hG:(g.join g' π J).G b with
       | none=>rfl
       | some ys=>
        rcases lq.gn b ys hG with q|q|q
        ·have:=hR.x.xQ k b hf
         simp only[Env.of,Gh.pull] at q
         rw[this] at q;cases q
        ·obtain ⟨j,hj,Jy⟩:=q
         have hjb':g.ρ (π j)=some b:=Jy
         have hkj:=hR.x.xh k b (π j) hf (vX j hj) hjb'
         cases q0:σ0 j with
         | none=>rw[q0] at hj;cases hj
         | some e0=>
          have h1:=hσ j e0 q0
          rw[hkj] at h1
          obtain ⟨cs,h2⟩:=hR.x.xi k b _ hf h1
          cases e0 with
          | box IN=>
           have S8:(Env.of E.wS (g.pull π) σ0 w).fix j=some b:=by simp only[Env.of,q0];exact Jy
           have:=lq.x.xQ j b S8
           have hG':g'.G b=some ys:=hG
           rw[this] at hG';cases hG'
          | arr _ _ _=>cases h2
          | app _ _ _=>cases h2
        ·have:=hR.x.xg k b hf
         exact ao (lx this hR.size) (rQ.2 q)
      xh:=λk b k' hf hk hb=>by
       cases q:after σ π L J σc k' with
       | none=>rw[q] at hk;cases hk
       | some e=>
        rcases KC k' e q with ⟨j,ec,hj,rfl,hec,rfl⟩|⟨he,hl,hJ⟩
        ·have Jy:=(hρJ j hj).symm.trans hb
         rcases lq.own j b QE Jy with q1|q1
         ·obtain ⟨j0,hj0,hjb0⟩:=q1
          have hkj:=hR.x.xh k b (π j0) hf (vX j0 hj0) hjb0
          cases q0:σ0 j0 with
          | none=>rw[q0] at hj0;cases hj0
          | some e0=>
           have h1:=hσ j0 e0 q0
           rw[hkj] at h1
           obtain ⟨cs,h2⟩:=hR.x.xi k b _ hf h1
           cases e0 with
           | box IN=>
            have S8:(Env.of E.wS (g.pull π) σ0 w).fix j0=some b:=by simp only[Env.of,q0];exact hjb0
            have:=lq.x.xh j0 b j S8 QE Jy
            rw[this];exact hkj
           | arr _ _ _=>cases h2
           | app _ _ _=>cases h2
         ·have:=hR.x.xg k b hf
          exact ao (lx this hR.size) (rQ.2 q1)
        ·exact hR.x.xh k b k' hf QH ((KD k' hJ).symm.trans hb)
      xi:=λk b e hf hk=>by
       rcases KC k e hk with ⟨j,ec,hj,rfl,hec,rfl⟩|⟨he,hl,hJ⟩
       ·rcases hB.same j hj with ⟨cs,xJ⟩|⟨_,_,h3⟩
        ·have S8:∃ b',(Env.of E.wS (g.pull π) σ0 w).fix j=some b':=by
          cases hR.sv _ _ (hσ j _ xJ) with
          | box h1=>exact ⟨_,by simp only[Env.of,xJ];exact h1⟩
         obtain ⟨b',S8⟩:=S8
         obtain ⟨lO,h4⟩:=lq.x.xi j b' ec S8 hec
         subst h4;exact ⟨_,rfl⟩
        ·rw[h3] at hf;cases hf
       ·exact hR.x.xi k b e hf he }
 ·exact hF.le hle λk hk=>(OB k hk).1
 ·exact hv.push (λi hi=>hρJ i hi) (λi hi=>hcJ i hi) (λ_ _ q=>q) hB.val
def VS (hR:Rel E g σ w) (hσ:∀ j e,σ0 j=some e->σ (π j)=some (e.mh π)) (Hf:∀ j j',(σ0 j).isSome=true->(σ0 j').isSome=true->π j=π j'->j=j'):Rel (Env.of E.wS (g.pull π) σ0 w) (g.pull π) σ0 w:=by
 have vX:∀ j,(σ0 j).isSome=true->(σ (π j)).isSome=true:=λj hj=>by
  cases q:σ0 j with
  | none=>rw[q] at hj;cases hj
  | some e=>rw[hσ j e q];rfl
 exact {
  sv:=λk e hk=>(hR.sv _ _ (hσ k e hk)).pull
  inj:=λk k' b hk F1 hb x8=>Hf k k' hk F1 (hR.inj _ _ b (vX k hk) (vX k' F1) hb x8)
  gl:=λb ys hb=>by
   obtain ⟨cs,el,fz,h1,h2,h3⟩:=hR.gl b ys hb;exact ⟨cs,el,fz,h1,h2,s5 (g:=g) (g':=g.pull π) (λ_ _ q=>q) h3⟩
  apart:=λk b e hk Cw hb=>hR.apart _ b (e.mh π) (hσ k e hk) (by rw[cV.OA];exact Cw) hb
  size:=iJ _
  yV:=λ_ _ _=>rfl
  own:=λk b hk hb=>.inl ⟨k,hk,hb⟩
  fix:=λk b hk=>by
   simp only[Env.of] at hk;split at hk
   ·exact hk
   cases hk
  qq:=λ_ _ _=>rfl
  g0:=λ_ _ h=>⟨[],by simpa[Env.of] using h⟩
  gn:=λ_ _ h=>.inl h
  os:=rfl,out:=rfl,tape:=rfl
  x:={
   IL:=λ_ cs _ _ h=>⟨cs,h,rfl⟩
   flat:=λ_ _ cs _ _ _ h hf=>⟨cs,h,hf⟩
   set:=hR.x.set,HX:=kt hR.x.HX hR.size
   hi:=λk b hk hb=>hR.x.hi (π k) b (vX k hk) hb
   gf:=hR.x.gf
   xg:=λk b hk=>by
    simp only[Env.of] at hk;split at hk
    ·rename_i cs hc;exact hR.lt (vX k M7) hk
    cases hk
   xQ:=λk b hk=>by
    simp only[Env.of] at hk;split at hk
    ·rename_i cs hc;exact hR.apart (π k) b _ (hσ k _ hc) rfl hk
    cases hk
   xh:=λk b k' hk F1 hb=>by
    simp only[Env.of] at hk;split at hk
    ·rename_i cs hc;exact Hf k' k F1 M7 (hR.inj _ _ b (vX k' F1) (vX k M7) hb hk)
    cases hk
   xi:=λk b e hk he=>by
    simp only[Env.of] at hk;split at hk
    ·rename_i cs hc;rw[hc] at he;cases he;exact ⟨cs,rfl⟩
    cases hk } }
def Enters (P:Program) (f:FuncId):Prop:=∀ (args:Array Value) (w:World),(callFunc f args).run P w=.ok (.enter f args) w
def M.ak9 {ev:Operand->Value} (h:∀ x,VR g (fr.val x) (ev x)) (xs:List Operand):M g (xs.map fr.val) (xs.map ev):=M.map λx _=>h x
variable {f:Operand} {kC:FuncId} {first cap fS:List AV} {R:G7->fC->Prop} {next:k9->fC->Prop}
def KE {pn:k9} (hwk:fr.le pn) (π:Nat->Nat) (L:List Nat) (wu:Enters P kC) (ho:o.op=.call ⟨.value f,args.toArray,ts⟩) (hf:fr.val f=.fn kC first cap) (Nt:first++args.map fr.val++cap=AV.mh.ud π fS) (hC:SC P kC fS σ0 R) (hL:∀ j,(σ0 j).isSome=true->L.contains j=true) (hσ:∀ j e,σ0 j=some e->σ (π j)=some (e.mh π)) (Hf:∀ j j',(σ0 j).isSome=true->(σ0 j').isSome=true->π j=π j'->j=j') (hd:∀ d,o.dst=some d->d<n) (oB:∀ v σc,R (.ret v) σc->∃ J,Jh E pn σ π L J σ0 σc v/\next (pn.qv o.dst (v.mh π)) (after σ π L J σc)) (wm:∀ v σc,R (.panic v) σc->∃ J,Jh E pn σ π L J σ0 σc v/\Q (.panic (v.mh π)) pn (after σ π L J σc)):Step P E n Q o fr σ next:=by
 intro g a w K hR hF hK;have qf:=hF.eval f;rw[hf] at qf;have qa:=M.ak9 (fr:=fr) (λx=>hF.eval x) args;generalize he:a.eval f=c at qf;cases qf with
 | fn _ hx hy=>
  rename_i xs ys
  have FF:M g (AV.mh.ud π fS) (xs++args.map a.eval++ys):=by rw[<- Nt];exact (hx.append qa).append hy
  have hcall:=hC E.wS (g.pull π) w _ (VS hR hσ Hf) FF.pull
  have pN:(execOp a.eval o).run P w=.ok (.enter kC (xs++args.map a.eval++ys).toArray) w:=by
   simp only[execOp,ho,resolve,he,Deferred.ofValue,cF,eF,bR,invoke,vI,List.append_toArray,wu _ w]
  simp only[Oper.wp,pN,Oper.upon]
  refine hcall.mono λe w' hq=>?_
  obtain ⟨g',ae,σc,hr,hE,lq⟩:=hq
  cases hE with
  | ret hv=>
   obtain ⟨J,hB,hn⟩:=oB _ _ hr
   obtain ⟨h1,h2,h3⟩:=H3 hR (hF.Mv hwk) hL hσ hB lq hv
   exact hK _ _ _ _ _ hn h1 (h2.put hd h3)
  | panic hv=>
   obtain ⟨J,hB,hn⟩:=wm _ _ hr
   obtain ⟨h1,h2,h3⟩:=H3 hR (hF.Mv hwk) hL hσ hB lq hv
   exact ⟨_,_,pn,_,hn,.panic h3,h1,h2⟩
def Nu (π:Nat->Nat) (L:List Nat) (wu:Enters P kC) (ho:o.op=.call ⟨.value f,args.toArray,ts⟩) (hf:fr.val f=.fn kC first cap) (Nt:first++args.map fr.val++cap=AV.mh.ud π fS) (hC:SC P kC fS σ0 R) (hL:∀ j,(σ0 j).isSome=true->L.contains j=true) (hσ:∀ j e,σ0 j=some e->σ (π j)=some (e.mh π)) (Hf:∀ j j',(σ0 j).isSome=true->(σ0 j').isSome=true->π j=π j'->j=j') (hd:∀ d,o.dst=some d->d<n) (oB:∀ v σc,R (.ret v) σc->∃ J,Jh E fr σ π L J σ0 σc v/\next (fr.qv o.dst (v.mh π)) (after σ π L J σc)) (wm:∀ v σc,R (.panic v) σc->∃ J,Jh E fr σ π L J σ0 σc v/\Q (.panic (v.mh π)) fr (after σ π L J σc)):Step P E n Q o fr σ next:=
 KE Vd π L wu ho hf Nt hC hL hσ Hf hd oB wm
end
end
section
def tI:List (Nat×AV)->Nat->AV
 | [],_=>.any
 | (j,v)::l,i=>if i=j then v else tI l i
def vh:List (Nat×cV)->Nat->Option cV
 | [],_=>none
 | (j,v)::l,i=>if i=j then some v else vh l i
def cA (l:List (Nat×AV)) (ds:List (FuncId×List AV):=[]):k9:=⟨tI l,ds⟩
def bW (l:List (Nat×cV)):fC:=vh l
def QY (l:List (Nat×AV)) (ds:List (FuncId×List AV)) (d:Nat) (v:AV):(cA l ds).qv (some d) v=cA ((d,v)::l) ds:=rfl
def mW (k:Nat):List (Nat×AV)->Bool
 | []=>false
 | (_,v)::l=>v.jh k||mW k l
def ko (k:Nat):List (FuncId×List AV)->Bool
 | []=>false
 | (_,v)::l=>AV.jh.kJ k v||ko k l
def cV.mq (k:Nat):cV->Bool
 | .app _ _ _=>false
 | .box cs=>AV.jh.kJ k cs
 | .arr _ _ _=>false
variable {g:Gh}
def cV.OD:∀ {e:cV},e.mq k=false->AV.jh.kJ k e.cells=false
 | .app _ _ c,_=>yd k c
 | .box _,h=>h
 | .arr _ _ c,_=>yd k c
def qb (k:Nat):List (Nat×cV)->Bool
 | []=>false
 | (_,e)::l=>e.mq k||qb k l
def Nv:∀ {l:List (Nat×AV)},mW k l=false->∀ i,(tI l i).jh k=false
 | [],_,_=>rfl
 | (j,v)::l,h,i=>by
  simp only[mW,lS] at h;simp only[tI];split
  ·exact h.1
  exact Nv h.2 i
def Gt:∀ {l:List (FuncId×List AV)},ko k l=false->∀ p∈l,AV.jh.kJ k p.2=false
 | [],_,p,hp=>by cases hp
 | (f,v)::l,h,p,hp=>by
  simp only[ko,lS] at h;rcases cb.1 hp with q|q
  ·subst q;exact h.1
  exact Gt h.2 p q
variable {l:List (Nat×AV)}
def uA {ds:List (FuncId×List AV)} (h:mW k l=false) (hd:ko k ds=false):(cA l ds).clear k:=⟨λi=>Nv h i,Gt hd⟩
def Ay:∀ {l:List (Nat×cV)},qb k l=false->(bW l).clear k
 | [],_,j,e,h=>by cases h
 | (i,v)::l,h,j,e,he=>by
  simp only[qb,lS] at h;simp only[bW,vh] at he;split at he
  ·cases he;exact cV.OD h.1
  exact Ay h.2 j e he
variable {σ:fC}
def OE {fr:k9} (h:∀ p∈l,fr.s p.1=tI l p.1):fr.le (cA l fr.ds):=by
 refine ⟨λi=>?_,rfl⟩;have key:∀ m:List (Nat×AV),(∃ p∈m,p.1=i)\/tI m i=.any:=by
  intro m
  induction m with
  | nil=>exact .inr rfl
  | cons a m ih=>
   obtain ⟨j,v⟩:=a
   by_cases q:i=j
   ·exact .inl ⟨(j,v),by simp,q.symm⟩
   ·rcases ih with ⟨p,hp,he⟩|he
    ·exact .inl ⟨p,by simp[hp],he⟩
    exact .inr (by simp[tI,q,he])
 rcases key l with ⟨p,hp,he⟩|he
 ·left;have:=h p hp;rw[he] at this;exact this.symm
 exact .inr he
def OF {l:List (Nat×cV)} (h:∀ p∈l,σ p.1=vh l p.1):∀ k e,bW l k=some e->σ k=some e:=by
 intro k e hk;have key:∀ m:List (Nat×cV),vh m k=some e->∃ p∈m,p.1=k:=by
  intro m
  induction m with
  | nil=>intro h;cases h
  | cons a m ih=>
   obtain ⟨j,v⟩:=a
   intro h
   by_cases q:k=j
   ·exact ⟨(j,v),by simp,q.symm⟩
   ·simp only[vh,aE q] at h;obtain ⟨p,hp,he⟩:=ih h;exact ⟨p,by simp[hp],he⟩
 obtain ⟨p,hp,he⟩:=key l hk;have:=h p hp;rw[he] at this;exact this.trans hk
def AV.le (x y:AV):Prop:=∀ (g:Gh) (c:Value),VR g x c->VR g y c
def AV.le_refl (x:AV):x.le x:=λ_ _ h=>h
def iz:=@AV.le_refl
def AV.le_nil:(nSl).le (.pv (.sl 0 [])):=λg c h=>by rw[h.iv];exact .pv (.nil _ _)
inductive F2:List AV->List AV->Prop
 | nil:F2 [] []
 | cons {x y:AV} {xs ys:List AV} (h:x.le y) (t:F2 xs ys):F2 (x::xs) (y::ys)
def F2.vrs:∀ {xs ys:List AV},F2 xs ys->∀ {vs:List Value},M g xs vs->M g ys vs
 | _,_,.nil,_,.nil=>.nil
 | _,_,.cons h t,_,.cons a b=>.cons (h g _ a) (t.vrs b)
def F2.refl:∀ l:List AV,F2 l l
 | []=>.nil
 | x::l=>.cons (iz x) (F2.refl l)
variable {xs ys:List AV}
def AV.KF (h:F2 xs ys):(AV.agg xs).le (.agg ys):=λg c q=>by cases q with|agg q=>exact .agg (h.vrs q)
def AV.aeG (h:F2 xs ys):(AV.mE xs).le (.mE ys):=λg c q=>by cases q with|mE q=>exact .mE (h.vrs q)
inductive RV (P:Program) (fr:k9) (σ:fC):ResultVar->AV->Prop
 | tmp (t:Nat):RV P fr σ (.tmp t) (fr.s t)
 | agg {a k:Nat} {t:TypeId} {cs:List AV} (hk:fr.s a=.ptr k 0) (hs:σ k=some (.box cs)) (ht:Mb P t=some cs.length) (ha:AN P t=some true):RV P fr σ (.cell a t) (.agg cs)
 | one {a k:Nat} {t:TypeId} {c:AV} (hk:fr.s a=.ptr k 0) (hs:σ k=some (.box [c])) (ha:AN P t=some false):RV P fr σ (.cell a t) c
inductive P4 (P:Program) (fr:k9) (σ:fC):List ResultVar->List AV->Prop
 | nil:P4 P fr σ [] []
 | cons {r:ResultVar} {v:AV} {rs:List ResultVar} {vs:List AV} (h:RV P fr σ r v) (t:P4 P fr σ rs vs):P4 P fr σ (r::rs) (v::vs)
def yY:List AV->AV
 | [v]=>v
 | vs=>.mE vs
section
variable {P:Program} {E:Env} {Q:gJ} {fr:k9}
def J4 (tmps:Array Value):ResultVar->Sem Value
 | .tmp t=>pure (tmps.getD t undef)
 | .cell a t=>do loadVar t (<- asAddr (tmps.getD a undef))
def RV.run (hR:Rel E g σ w) (hF:FR n g fr a) {r:ResultVar} {v:AV} (h:RV P fr σ r v):∃ c,(J4 a.tmps r).run P w=.ok c w/\VR g v c:=by
 cases h with
 | tmp t=>exact ⟨_,rfl,hF.pA t⟩
 | agg hk hs ht ha=>
  rename_i x k t cs
  have q:=hF.pA x;rw[hk] at q
  generalize hq:a.tmps.getD x undef=c at q
  cases q with
  | ptr _ hb=>
   obtain ⟨lO,el,hw,hl,hc⟩:=(hR.sv k _ hs).at hb
   simp only[cV.cells] at hl hc
   refine ⟨.agg ((lO.toList.drop 0).take cs.length).toArray,?_,.agg (by simpa using hc)⟩
   simp only[J4,hq,asAddr,cF,eF,bR,Eu ht ha hw (show 0+cs.length<=lO.size by omega)]
 | one hk hs ha=>
  rename_i x k t
  have q:=hF.pA x;rw[hk] at q
  generalize hq:a.tmps.getD x undef=c at q
  cases q with
  | ptr _ hb=>
   obtain ⟨lO,el,hw,hl,hc⟩:=(hR.sv k _ hs).at hb
   simp only[cV.cells] at hl hc
   obtain ⟨c,h1,h2⟩:=hc.get 0 v rfl
   have h3:lO.toList[0]?=some c:=by
    rw[hY] at h1;split at h1
    ·exact h1
    cases h1
   exact ahp
def Kn (fn:Func) (tmps:Array Value):results fn tmps=(do
  let vs <- fn.results.mapM (J4 tmps)
  pure (if h:vs.size=1 then vs[0] else .tuple vs)):=by
 unfold results
 congr 1
def P4.run (hR:Rel E g σ w) (hF:FR n g fr a):∀ {rs:List ResultVar} {vs:List AV},P4 P fr σ rs vs->
  ∃ cs,(rs.mapM (J4 a.tmps)).run P w=.ok cs w/\M g vs cs
 | _,_,.nil=>⟨[],bn,.nil⟩
 | _,_,.cons h t=>by
  obtain ⟨c,h1,h2⟩:=h.run hR hF
  obtain ⟨cs,h3,h4⟩:=P4.run hR hF t
  exact ⟨c::cs,by simp[h1,h3],.cons h2 h4⟩
def M.yY {vs:List AV} {cs:List Value} (h:M g vs cs):VR g (yY vs) (if hh:cs.toArray.size=1 then cs.toArray[0] else .tuple cs.toArray):=by
 cases h with
 | nil=>exact .mE .nil
 | cons h t=>
  cases t with
  | nil=>simpa[Abs.yY] using h
  | cons h' t=>rw[dif_neg bn];exact .mE (.cons h (.cons h' t))
def wo (P:Program) (fn:Func) (R:G7->fC->Prop):gJ
 | .normal,fr,σ|.ret,fr,σ=>fr.ds=[]/\∃ vs v σ',P4 P fr σ fn.results.toList vs/\(yY vs).le v/\(∀ k e,σ' k=some e->σ k=some e)/\R (.ret v) σ'
 | .panic v,fr,σ=>fr.ds=[]/\∃ σ',(∀ k e,σ' k=some e->σ k=some e)/\R (.panic v) σ'
 | _,_,_=>False
def DR.Fg {ds:List Deferred} (h:DR g [] ds):ds=[]:=by cases h;rfl
variable {f:FuncId} {args:List AV} {R:G7->fC->Prop}
def Z9 {fn:Func} {c:Code} (hf:P.funcs[f]?=some fn) (hb:fn.body=some c) (hn:args.length<=fn.ntmps) (h:∀ E:Env,(∀ k,(∀ cs,σ k≠some (.box cs))->E.fix k=none)->SW P E fn.ntmps c (wo P fn R) ⟨λi=>args[i]?.getD .any,[]⟩ σ):SC P f args σ R:=by
 intro wS g w vs hR hv;have hE:∀ k,(∀ cs,σ k≠some (.box cs))->(Env.of wS g σ w).fix k=none:=λk hk=>by
  cases q:σ k with
  | none=>simp only[Env.of,q]
  | some e=>cases e with
   | box cs=>exact ao q (hk cs)
   | arr el sz cs=>simp only[Env.of,q]
   | app el sz cs=>simp only[Env.of,q]
 have hlen:=hv.length;refine calls_of_wp hf hb (wp_mono (h _ hE g { tmps:=vs.toArray++Array.replicate (fn.ntmps - vs.toArray.size) undef,defers:=[] } w hR ⟨qI,λi=>?_,.nil⟩) λe a w' hq=>?_)
 ·exact ahJ
 obtain ⟨g',ae,pn,σ',q,hx,lq,tt⟩:=hq;have fin:∀ vs v σ2,P4 P pn σ' fn.results.toList vs->(yY vs).le v->(∀ k e,σ2 k=some e->σ' k=some e)->R (.ret v) σ2->
   ∃ c,(results fn a.tmps).run P w'=.ok c w'/\∃ g' ae σ',R ae σ'/\ER g' ae (.returned c)/\Rel (Env.of wS g σ w) g' σ' w':=by
  intro vs v σ2 h1 h2 hs h3
  exact ahU
 cases hx with
 | normal=>
  exact aij
 | ret=>
  exact aij
 | panic hv=>
  obtain ⟨hd,σ2,hs,h1⟩:=q
  have:=tt.ds;rw[hd] at this
  exact ⟨this.Fg,g',_,σ2,h1,.panic hv,lq.sub hs⟩
 | exit id=>exact q.elim
 | goto l=>exact q.elim
end
end
section
def ye (ops:Array Oper):Nat->Nat->Nat->Bool
 | 0,_,_=>false
 | fuel+1,j,i=>match ops[j]? with
  | none=>false
  | some o=>o.after.toList.any (λe=>Region.binds .any e&&e.on==i)||o.after.toList.any (λe=>Region.binds .any e&&ye ops fuel e.on i)
def fO (o:Oper):Bool:=
 match o.op with
 | .call c=>match c.callee with
  | .builtin .len|.builtin .min|.builtin .max=>false
  | _=>true
 | .store ..|.assign _|.panic _=>true
 | _=>false
def looks (ops:Array Oper) (o:Oper):List Nat:=o.looksAt ops
def B7 (ops:Array Oper) (i j:Nat):Bool:=
 match ops[i]?,ops[j]? with
 | some a,some b=>
  !ye ops ops.size i j&&(!fO a||fO b||ye ops ops.size j i)&&
  (match b.dst with|some d=>fO a||(!(looks ops a).contains d&&a.dst !=some d)|none=>true)&&
  (match a.dst with|some d=>!(looks ops b).contains d||ye ops ops.size j i|none=>true)
 | _,_=>false
def wD (ops:Array Oper):List Nat->Bool
 | []=>true
 | i::l=>!l.contains i&&l.all (B7 ops i)&&wD ops l
def strict (ops:Array Oper):List Nat->Bool
 | []=>true
 | i::l=>l.all (λj=>match ops[i]?,ops[j]? with
  | some a,some b=>!(fO a&&fO b)||ye ops ops.size j i
  | _,_=>true)&&strict ops l
variable {l:List Nat} {fr:k9} {m:Nat->Bool} {v:AV} {σ:fC}
def H4 {ops:Array Oper} {j:Nat} {a b:Oper} (h:strict ops (i::l)=true) (hj:j∈l) (ha:ops[i]?=some a) (hb:ops[j]?=some b) (h1:fO a=true) (h2:fO b=true):ye ops ops.size j i=true:=by
 simp only[strict,bm,jm] at h;have:=h.1 j hj;simp only[ha,hb,h1,h2,Bool.and_self,iT,lP] at this;exact this
def rS {ops:Array Oper} (h:strict ops (i::l)=true):strict ops l=true:=by
 simp only[strict,bm] at h;exact h.2
def HV (ops:Array Oper) (i:Nat):Bool:=
 match ops[i]? with
 | some o=>o.after.toList.all (λe=>!Region.binds .any e||decide (e.on<i))&&(fO o||(match o.dst with|some d=>!(looks ops o).contains d|none=>true))
 | none=>false
def chk (ops:Array Oper) (L:List Nat):Bool:=
 L.all (HV ops)&&(List.range ops.size).all (λi=>L.contains i)&&L.all (λi=>decide (i<ops.size))&&wD ops L&&strict ops L&&L.length==ops.size
structure Rec where
 i:Nat
 dst:Option Nat
 rd:List (Nat×cV)
 nm:Option Nat
def mK (ops:Array Oper) (bk:List Rec) (j:Nat):List Rec:=bk.filter λr=>!ye ops ops.size j r.i
def jH (fr:k9) (m:Nat->Bool):k9:=⟨λi=>if m i then .any else fr.s i,fr.ds⟩
def jz (σ:fC) (m:Nat->Bool):fC:=λk=>if m k then none else σ k
section
variable (P:Program) (E:Env) (n:Nat) (Q:gJ) (N:Prop)
inductive IT (o:Oper) (fr:k9) (σ:fC) (next:k9->fC->Prop):List Nat->Prop
 | ev {v:AV} (h:X P o.op fr [] v) (hd:∀ d,o.dst=some d->d<n) (hn:next (fr.qv o.dst v) σ):IT o fr σ next []
 | store {t:TypeId} {x y:Operand} {k off:Nat} {e:cV} {l:List AV} (ho:o.op=.store t x y) (hd:o.dst=none)
  (hx:fr.val x=.ptr k off) (hk:σ k=some e) (Cw:e.isApp=false) (hy:(fr.val y).jG=some l) (h1:AV.p9 l=true) (ht:Mb P t=some l.length) (hl:off+l.length<=e.cells.length)
  (hpa:e.Z7=true->∃ ps:List PV,l=ps.map .pv) (hn:next fr (σ.set k (e.Xw off l))):IT o fr σ next [k]
 | append {t e:TypeId} {s x:Operand} {sz bytes k nm m len:Nat} {cells l:List PV}
  (ho:o.op=.call ⟨.builtin .append,#[s,x],#[t,t]⟩) (ht:P.underlying t=some (.slice e)) (hb:Df P e=some (sz,bytes))
  (hs:fr.val s=.arr k len) (hk:σ k=some (.app e sz cells)) (hlen:cells.length=len*sz) (hx:ĸ sz (fr.val x) m l)
  (h1:PV.p9 l=true) (hc:fr.clear nm) (xJ:(σ.del k).clear nm) (hf:E.fix nm=none)
  (FD:(len+m)*bytes<=140737488355328) (Ez:len+m<=maxLen) (hd:∀ d,o.dst=some d->d<n)
  (hn:next (fr.qv o.dst (.arr nm (len+m))) ((σ.del k).set nm (.app e sz (cells++l)))):IT o fr σ next [k,nm]
 | VT {t e:TypeId} {s x:Operand} {sz bytes k nm m len:Nat} {cells l:List PV}
  (ho:o.op=.call ⟨.builtin .append,#[s,x],#[t,t]⟩) (ht:P.underlying t=some (.slice e)) (hb:Df P e=some (sz,bytes))
  (hs:fr.val s=.arr k len) (hk:σ k=some (.arr e sz cells)) (hlen:cells.length=len*sz) (hx:ĸ sz (fr.val x) m l)
  (h1:PV.p9 l=true) (hc:fr.clear nm) (xJ:(σ.del k).clear nm) (hf:E.fix nm=none)
  (FD:(len+m)*bytes<=140737488355328) (Ez:len+m<=maxLen) (hd:∀ d,o.dst=some d->d<n)
  (hn:next (fr.qv o.dst (.arr nm (len+m))) ((σ.del k).set nm (.arr e sz (cells++l)))):IT o fr σ next [k,nm]
 | call {f:Operand} {args:List Operand} {ts:Array TypeId} {kC:FuncId} {first cap fS:List AV} {σ0:fC} {R:G7->fC->Prop}
  (π:Nat->Nat) (L:List Nat) (wu:Enters P kC) (ho:o.op=.call ⟨.value f,args.toArray,ts⟩) (hf:fr.val f=.fn kC first cap)
  (Nt:first++args.map fr.val++cap=AV.mh.ud π fS) (hC:SC P kC fS σ0 R) (hL:∀ j,(σ0 j).isSome=true->L.contains j=true)
  (hσ:∀ j e,σ0 j=some e->σ (π j)=some (e.mh π)) (hL':∀ j,L.contains j=true->(σ0 j).isSome=true)
  (Hf:∀ j j',(σ0 j).isSome=true->(σ0 j').isSome=true->π j=π j'->j=j')
  (hd:∀ d,o.dst=some d->d<n)
  (oB:∀ v σc,R (.ret v) σc->Jh E fr σ π L L σ0 σc v/\next (fr.qv o.dst (v.mh π)) (after σ π L L σc))
  (wm:∀ v σc,R (.panic v) σc->Jh E fr σ π L L σ0 σc v/\∀ pn σ',pn.ds=fr.ds->(∀ k e,σ' k=some e->after σ π L L σc k=some e)->(N->pn=fr/\σ'=after σ π L L σc)->Q (.panic (v.mh π)) pn σ'):IT o fr σ next (L.map π)
variable {P E n Q N}
def QZ {x:Operand} (h:∀ t,x=.tmp t->m t=false):(jH fr m).val x=fr.val x:=by
 cases x with
 | tmp t=>simp[k9.val,jH,h t rfl]
 | const v=>rfl
 | global k=>rfl
 | func f=>rfl
variable {d:Option Nat}
def Fe (h:∀ x,d=some x->m x=false):(jH fr m).qv d v=jH (fr.qv d v) m:=by
 cases d with
 | none=>rfl
 | some d=>
  simp only[k9.qv,k9.put,jH,k9.mk.injEq,and_true]
  funext i
  by_cases q:i=d
  ·subst q;simp[h i rfl]
  ·simp[q]
def Gu (h:fr.clear k):(jH fr m).clear k:=⟨λi=>by
 simp only[jH];split
 ·rfl
 exact h.1 i,h.2⟩
def IU (h:σ.clear k):(jz σ m).clear k:=λj e he=>by
 simp only[jz] at he;split at he
 ·cases he
 exact h j e he
variable {e:cV}
def KG (h:jz σ m k=some e):σ k=some e:=by
 simp only[jz] at h;split at h
 ·cases h
 exact h
def GR (h:m k=false):jz σ m k=σ k:=by simp[jz,h]
def No (h:m k=false):(jz σ m).set k e=jz (σ.set k e) m:=by
 funext j;by_cases q:j=k
 ·subst q;simp[fC.set,jz,h]
 simp[fC.set,jz,q]
def HU:(jz σ m).del k=jz (σ.del k) m:=by
 funext j;by_cases q:j=k
 ·subst q;simp[fC.del,jz]
 simp[fC.del,jz,q]
variable {L:List Nat} {σc:fC}
def EC (h:∀ j,L.contains j=true->m (π j)=false) :
  after (jz σ m) π L L σc=jz (after σ π L L σc) m:=by
 funext k
 simp only[after,jz]
 cases hf:L.find? (λj=>π j==k) with
 | some j=>
  have h1:=nU hf
  have h2:=fo hf
  have:m k=false:=by
   have hk:π j=k:=by simpa using h1
   rw[<- hk];exact h j xq
  simp[this]
 | none=>
  simp only
  by_cases q:m k=true
  ·simp[q]
  ·simp[q]
variable {mm:Nat->Bool}
def Jh.mask {J:List Nat} {σ0:fC} (h:Jh E fr σ π L J σ0 σc v) :
  Jh E (jH fr m) (jz σ mm) π L J σ0 σc v where
 dom:=h.dom
 val:=h.val
 inj:=h.inj
 same:=λj hj=>by
  rcases h.same j hj with q|⟨q1,q2,q3⟩
  ·exact .inl q
  ·exact .inr ⟨Gu q1,λk e hl he=>q2 k e hl (KG he),q3⟩
structure Chg (o:Oper) (ks:List Nat) (fr TN:k9) (σ σ0:fC):Prop where
 s:∀ i,o.dst≠some i->TN.s i=fr.s i
 ds:TN.ds=fr.ds
 h:∀ k,k ∉ ks->σ0 k=σ k
def GS (i:Nat) (h:o.dst≠some i):(fr.qv o.dst v).s i=fr.s i:=by
 cases hd:o.dst with
 | none=>rfl
 | some d=>
  have:i≠d:=λq=>h (by rw[hd,q])
  simp[k9.qv,k9.put,this]
def Gq:(fr.qv d v).ds=fr.ds:=by cases d<;>rfl
def IT.run {next:k9->fC->Prop} {ks:List Nat} (h:IT P E n Q N o fr σ next ks) (hN:N->(∀ k,mm k=false)/\∀ i,m i=false) (hm:∀ t,.tmp t∈o.op.operands->m t=false) (hdm:∀ d,o.dst=some d->m d=false) (hmm:∀ k,k∈ks->mm k=false) :
  Step P E n Q o (jH fr m) (jz σ mm) (λpn σ'=>∃ TN σ0,next TN σ0/\Chg o ks fr TN σ σ0/\pn=jH TN m/\σ'=jz σ0 mm):=by
 have Al:∀ x,x∈o.op.operands->(jH fr m).val x=fr.val x:=λx hx=>QZ λt ht=>hm t (ht▸hx)
 cases h with
 | @ev v h hd hn=>
  refine Oz (rd:=[]) (v:=v) (λo' P5 g ev w hG hv hr=>h o' P5 g ev w hG (λx hx=>by rw[<- Al x hx];exact hv x hx) hr) (λp hp=>by cases hp) hd ?_
  exact ahx
 | @store t x y k off e l ho hd hx hk Cw hy h1 ht hl hpa hn=>
  have hkm:=hmm k bn
  refine De ho hd (by rw[Al x (by simp[ho,Op.operands])];exact hx) Zx Cw (by rw[Al y (by simp[ho,Op.operands])];exact hy) h1 ht hl hpa ?_
  refine ⟨_,_,hn,⟨λ_ _=>rfl,rfl,λj hj=>?_⟩,rfl,No hkm⟩
  simp at hj;simp[fC.set,hj]
 | @append t e s x sz bytes k nm mm' len cells l ho ht hb hs hk hlen hx h1 hc xJ hf FD Ez hd hn=>
  have hkm:=hmm k bn
  have pL:=hmm nm bn
  refine Hc (nm:=nm) ho ht hb (by rw[Al s Y9];exact hs) Zx hlen (by rw[Al x Y9];exact hx) h1 (Gu hc)
   (by rw[HU];exact IU xJ) hf FD Ez hd ?_
  exact aip
 | @VT t e s x sz bytes k nm mm' len cells l ho ht hb hs hk hlen hx h1 hc xJ hf FD Ez hd hn=>
  have hkm:=hmm k bn
  have pL:=hmm nm bn
  refine He (nm:=nm) ho ht hb (by rw[Al s Y9];exact hs) Zx hlen (by rw[Al x Y9];exact hx) h1 (Gu hc)
   (by rw[HU];exact IU xJ) hf FD Ez hd ?_
  exact aip
 | @call f args ts kC first cap fS σ0 R π L wu ho hf Nt hC hL hσ hL' Hf hd oB wm=>
  have hLm:∀ j,L.contains j=true->mm (π j)=false:=λj hj=>hmm _ (wx.2 ⟨j,BA,rfl⟩)
  have hav:args.map (jH fr m).val=args.map fr.val:=List.map_congr_left λx hx=>Al x (by simp[ho,Op.operands,Call.operands,hx])
  refine Nu π L wu ho (by rw[Al f Y9];exact hf) (by rw[hav];exact Nt) hC hL
   (λj e hj=>by rw[GR (hLm j (hL j (by rw[hj];rfl)))];exact hσ j e hj) Hf hd (λv σc hr=>?_) (λv σc hr=>?_)
  ·obtain ⟨hB,hn⟩:=oB v σc hr
   refine ⟨L,hB.mask,_,_,hn,⟨GS,Gq,λk hk=>?_⟩,Fe hdm,EC hLm⟩
   have G9:∀ j,j∈L->π j≠k:=λj hj q=>hk (wx.2 ⟨j,hj,q⟩)
   have h1:L.find? (λj=>π j==k)=none:=ls.2 λj hj=>by simpa using G9 j hj
   have h2:L.any (λj=>π j==k)=false:=by
    rw[sw];intro j hj;simpa using G9 j hj
   simp[after,h1,h2]
  ·obtain ⟨hB,hn⟩:=wm v σc hr
   refine ⟨L,hB.mask,hn _ _ rfl (λk e hk=>?_) (λq=>?_)⟩
   ·rw[EC hLm] at hk
    exact KG hk
   ·refine ⟨?_,by rw[EC hLm];funext k;exact GR ((hN q).1 k)⟩
    have:(λi=>if m i then AV.any else fr.s i)=fr.s:=by funext i;simp[(hN q).2 i]
    simp only[jH,this]
end
end
def oL (ops:Array Oper) (o:Oper) (fr:k9):Prop:=o.guard=none\/∃ j want d,o.guard=some (j,want)/\(ops[j]?).bind (·.dst)=some d/\fr.s d=Bo want
def ED (ops:Array Oper) (o:Oper) (fr:k9):Prop:=∃ (j:Nat) (want:Bool) (d:Nat) (v:Value),o.guard=some (j,want)/\(ops[j]?).bind (·.dst)=some d/\fr.s d=Sc v/\v≠.bool want
section
variable (P:Program) (E:Env) (n:Nat) (ops:Array Oper) (Q:gJ)
inductive DStep (next:List Rec->k9->fC->Prop) (bk:List Rec) (i:Nat) (o:Oper) (fr:k9) (σ:fC):Prop
 | skip (hu:ED ops o fr) (hd:∀ d,o.dst=some d->d<n) (hn:next (if fO o then bk else ⟨i,o.dst,[],none⟩::bk) (fr.qv o.dst (Sc undef)) σ)
 | ev (hw:oL ops o fr) (hh:fO o=false) {rd:List (Nat×cV)} {v:AV} (h:X P o.op fr rd v) (hr:∀ p,p∈rd->Cov σ p) (hd:∀ d,o.dst=some d->d<n)
  (hc:∀ r,r∈mK ops bk i->∀ nm,r.nm=some nm->v.jh nm=false/\∀ p,p∈rd->p.1≠nm) (hn:next (⟨i,o.dst,rd,none⟩::bk) (fr.qv o.dst v) σ)
 | nw (hw:oL ops o fr) (hh:fO o=false) {nm:Nat} {e:cV} {v:AV} (h:QU P o.op fr nm e v) (hcf:fr.clear nm) (xJ:σ.clear nm) (hs:σ nm=none) (hf:E.fix nm=none)
  (hd:∀ d,o.dst=some d->d<n) (hc:∀ r,r∈mK ops bk i->∀ k,r.nm=some k->v.jh k=false/\AV.jh.kJ k e.cells=false) (Om:∀ r,r∈bk->r.nm≠some nm)
  (EA:∀ r,r∈bk->∀ p,p∈r.rd->p.1≠nm) (hnv:AV.jh.kJ nm e.cells=false)
  (hn:next (⟨i,o.dst,[],some nm⟩::bk) (fr.qv o.dst v) (σ.set nm e))
 | fz (hw:oL ops o fr) (hh:fO o=false) {v:AV} (h:Z5 P o.op fr v) (hd:∀ d,o.dst=some d->d<n)
  (hc:∀ r,r∈mK ops bk i->∀ nm,r.nm=some nm->v.jh nm=false) (hn:next (⟨i,o.dst,[],none⟩::bk) (fr.qv o.dst v) σ)
 | fO (hw:oL ops o fr) (hh:fO o=true) {ks:List Nat} (h:IT P E n Q (mK ops bk i=[]) o fr σ (λpn σ'=>(∀ r,r∈mK ops bk i->(∀ p,p∈r.rd->Cov σ' p)/\
   ∀ nm,r.nm=some nm->(∀ d,o.dst=some d->(pn.s d).jh nm=false)/\∀ k,k∈ks->∀ e,σ' k=some e->AV.jh.kJ nm e.cells=false)/\next bk pn σ') ks)
  (hk:∀ r,r∈mK ops bk i->∀ k,k∈ks->r.nm≠some k)
def pq (B:List Rec->k9->fC->Prop):List Nat->List Rec->k9->fC->Prop
 | [],bk,fr,σ=>B bk fr σ
 | i::L,bk,fr,σ=>∃ o,ops[i]?=some o/\DStep P E n ops Q (pq B L) bk i o fr σ
abbrev DW:List Nat->List Rec->k9->fC->Prop:=pq P E n ops Q λ_ fr σ=>Q .normal fr σ
inductive n' (fr:k9) (σ:fC) (r:Rec) (o:Oper):Prop
 | skip (hu:ED ops o fr) (hv:∀ d,o.dst=some d->fr.s d=Sc undef) (EA:r.rd=[]) (pL:r.nm=none)
 | ev (hw:oL ops o fr) {v:AV} (h:X P o.op fr r.rd v) (hv:∀ d,o.dst=some d->fr.s d=v) (pL:r.nm=none)
 | nw (hw:oL ops o fr) {nm:Nat} {e:cV} {v:AV} (h:QU P o.op fr nm e v) (hv:∀ d,o.dst=some d->fr.s d=v) (EA:r.rd=[]) (pL:r.nm=some nm) (hs:σ nm=some e) (hf:E.fix nm=none)
  (uB:AV.jh.kJ nm e.cells=false)
 | fz (hw:oL ops o fr) {v:AV} (h:Z5 P o.op fr v) (hv:∀ d,o.dst=some d->fr.s d=v) (EA:r.rd=[]) (pL:r.nm=none)
variable {P E n ops Q}
def C4 (listed:Array Bool) (i:Nat):Bool:=listed.getD i false
def vK (listed:Array Bool) (bk:List Rec):List Rec:=bk.filter λr=>!C4 listed r.i
def mF (listed:Array Bool) (bk:List Rec):Nat->Bool:=λi=>(vK listed bk).any λr=>r.dst==some i
def mS (listed:Array Bool) (bk:List Rec):Nat->Bool:=λk=>(vK listed bk).any λr=>r.nm==some k
variable {bk:List Rec} {fr:k9}
def gO {r:Rec}:r∈vK listed bk↔r∈bk/\C4 listed r.i=false:=by simp[vK]
def ti:mF listed bk i=true↔∃ r,r∈vK listed bk/\r.dst=some i:=by simp[mF]
def pG:mS listed bk i=true↔∃ r,r∈vK listed bk/\r.nm=some i:=by simp[mS]
variable (P E n ops) in
structure Inv (listed:Array Bool) (L:List Nat) (bk:List Rec) (fr:k9) (σ:fC):Prop where
 size:listed.size=ops.size
 todo:∀ i,i∈L->i<ops.size/\C4 listed i=false
 done:∀ i o,ops[i]?=some o->i ∉ L->(fO o=true->C4 listed i=true)/\(fO o=false->∃ r,r∈bk/\r.i=i)
 rj:∀ r,r∈bk->r.i ∉ L/\∃ o,ops[r.i]?=some o/\fO o=false/\r.dst=o.dst/\∀ d,o.dst=some d->d<n/\d ∉ o.looksAt ops
 KH:∀ i,i∈L->HV ops i=true
 apart:∀ r r',r∈bk->r'∈bk->r.i=r'.i->r=r'
 names:∀ r r' k,r∈bk->r'∈bk->r.nm=some k->r'.nm=some k->r=r'
 Nw:∀ r r',r∈bk->r'∈bk->r.i≠r'.i->B7 ops r.i r'.i=true\/B7 ops r'.i r.i=true
 Kq:∀ i j,i<ops.size->i ∉ L->j∈L->B7 ops i j=true
 H5:wD ops L=true
 down:∀ i o,ops[i]?=some o->C4 listed i=true->∀ e,e∈o.after.toList->Region.binds .any e=true->C4 listed e.on=true
 Ny:∀ r,r∈vK listed bk->∃ o,ops[r.i]?=some o/\n' P E ops fr σ r o
 reads:∀ r,r∈vK listed bk->∀ p,p∈r.rd->Cov σ p
 pA:∀ r,r∈vK listed bk->∀ nm,r.nm=some nm->∀ i,mF listed bk i=false->(fr.s i).jh nm=false
 ds:∀ r,r∈vK listed bk->∀ nm,r.nm=some nm->∀ p,p∈fr.ds->AV.jh.kJ nm p.2=false
 XC:∀ r,r∈vK listed bk->∀ nm,r.nm=some nm->∀ k e,mS listed bk k=false->σ k=some e->AV.jh.kJ nm e.cells=false
 EB:∀ r r',r∈vK listed bk->r'∈vK listed bk->∀ nm,r.nm=some nm->ye ops ops.size r'.i r.i=false->r.i≠r'.i->
  (∀ d,r'.dst=some d->(fr.s d).jh nm=false)/\(∀ k e,r'.nm=some k->σ k=some e->AV.jh.kJ nm e.cells=false)/\∀ p,p∈r'.rd->p.1≠nm
def AK (down:∀ i o,ops[i]?=some o->C4 listed i=true->∀ e,e∈o.after.toList->Region.binds .any e=true->C4 listed e.on=true) :
  ∀ (fuel j i:Nat) (o:Oper),ops[j]?=some o->(∀ e,e∈o.after.toList->Region.binds .any e=true->C4 listed e.on=true)->ye ops fuel j i=true->C4 listed i=true
 | 0,_,_,_,_,_,h=>by simp[ye] at h
 | fuel+1,j,i,o,ho,hr,h=>by
  simp only[ye,ho,mw,mX,bm] at h
  rcases h with ⟨e,he,hb,hi⟩|⟨e,he,hb,hi⟩
  ·have:=hr e he hb
   rw[cg.1 hi] at this;exact this
  ·have hran:=hr e he hb
   cases hoe:ops[e.on]? with
   | none=>cases fuel<;>simp[ye,hoe] at hi
   | some oe=>exact AK down fuel e.on i oe hoe (down e.on oe hoe hran) hi
def Gv (hs:listed.size=ops.size) (h:i∈Region.ready .any ops listed) :
  i<ops.size/\C4 listed i=false/\∃ o,ops[i]?=some o/\∀ e,e∈o.after.toList->Region.binds .any e=true->C4 listed e.on=true:=by
 simp only[Region.ready,ij,uD,bm,fD] at h
 obtain ⟨iy,h1,h2⟩:=h
 refine ⟨iy,?_,?_⟩
 ·have:listed.getD i true=listed.getD i false:=by simp[Array.getD,hs,iy]
  unfold C4;rw[<- this];exact h1
 ·rw[gU iy] at h2 ⊢
  simp only[wy,AM] at h2
  refine ⟨_,rfl,λe he hb=>?_⟩
  rw[Array.all_eq_true_iff_forall_mem] at h2
  have:=h2 e DN
  simpa[hb,C4] using this
variable {m:Nat->Bool}
def BI (h:oL ops o fr) (hm:∀ d,d∈o.looksAt ops->m d=false):oL ops o (jH fr m):=by
 rcases h with q|⟨j,want,d,hg,hj,hb⟩
 ·exact .inl q
 refine .inr ⟨j,want,d,hg,hj,?_⟩;have:m d=false:=hm d Xr;simp[jH,this,hb]
def F3 (h:ED ops o fr) (hm:∀ d,d∈o.looksAt ops->m d=false):ED ops o (jH fr m):=by
 obtain ⟨j,want,d,b,hg,hj,hb,hn⟩:=h;refine ⟨j,want,d,b,hg,hj,?_,hn⟩;have:m d=false:=hm d Xr;simp[jH,this,hb]
def EE {t:Nat} (h:.tmp t∈o.op.operands):t∈o.looksAt ops:=by
 simp only[Oper.looksAt,bH,List.mem_filterMap];exact .inl ⟨.tmp t,by simpa using h,rfl⟩
variable {Q':Exit->Act->World->Prop} {g:Gh} {K:Act->World->Prop}
def BJ (ho:ops[i]?=some o) (hw:oL ops o fr) (hF:FR n g fr a) (h:o.wp P a w K Q'):wpOp P ops Q' i K a w:=by
 unfold wpOp;rw[ho];simp only;rcases hw with q|⟨j,want,d,hg,hj,hb⟩
 ·rw[aL (by simp[Region.wanted,q])];exact .inl h
 rw[aL (by simp[Region.wanted,hg,hF.yield hj hb])];exact .inl h
def F4 (ho:ops[i]?=some o) (hw:ED ops o fr) (hF:FR n g fr a) (h:K (a.put o.dst undef) w):wpOp P ops Q' i K a w:=by
 unfold wpOp;rw[ho];simp only;obtain ⟨j,want,d,b,hg,hj,hb,hn⟩:=hw;rw[aE (by simp[Region.wanted,hg,hF.VN hj hb hn])];exact h
def xN {j:Nat} {a b:Oper} (ha:ops[i]?=some a) (hb:ops[j]?=some b) (h:B7 ops i j=true) :
  (fO a=false->∀ d,b.dst=some d->d ∉ a.looksAt ops/\a.dst≠some d)/\(∀ d,a.dst=some d->d∈b.looksAt ops->ye ops ops.size j i=true)/\
  (fO a=true->fO b=true\/ye ops ops.size j i=true):=by
 simp only[B7,ha,hb,bm,looks] at h
 obtain ⟨⟨⟨_,h1⟩,h2⟩,h3⟩:=h
 refine ⟨λhh d hd=>?_,λd hd hl=>?_,λhh=>by simpa[hh] using h1⟩
 ·rw[hd] at h2;simpa[hh] using h2
 ·rw[hd] at h3
  simp only[mw,fD] at h3
  rcases h3 with q|q
  ·simp at q;exact ao hl q
  ·exact q
end
section
variable {P:Program} {E:Env} {Q:gJ} {L:List Nat} {bk:List Rec} {fr:k9} {σ:fC}
def Ak (hi:i<listed.size):C4 (listed.setIfInBounds i true) k=(decide (k=i)||C4 listed k):=by
 simp only[C4,e7];by_cases h:k=i
 ·subst h;simp[hi]
 rw[Array.getElem?_setIfInBounds_ne (λq=>h q.symm)];simp[h]
def Q0 (hI:Inv P E n ops listed L bk fr σ) (ho:ops[i]?=some o) (hr:∀ e,e∈o.after.toList->Region.binds .any e=true->C4 listed e.on=true) (hi:(∃ r,r∈bk/\r.i=i)\/i∈L):∀ d,d∈o.looksAt ops->mF listed bk d=false:=by
 intro d hd;cases hm:mF listed bk d with
 | false=>rfl
 | true=>
  exfalso
  obtain ⟨r,S9,EA⟩:=ti.1 hm
  obtain ⟨HH,hran⟩:=gO.1 S9
  obtain ⟨hnL,or,II,hheavy,hdst,AO⟩:=hI.rj r HH
  rw[hdst] at EA
  have G9:ye ops ops.size i r.i=true->False:=λq=>by
   have:=AK hI.down _ _ _ o ho hr q;rw[this] at hran;cases hran
  have iy:r.i<ops.size:=by
   exact Ŭ
  rcases hi with ⟨ri,D2,rfl⟩|hi
  ·by_cases q:r.i=ri.i
   ·have:=hI.apart r ri HH D2 q;subst this;rw[II] at ho;cases ho;exact (AO d EA).2 hd
   rcases hI.Nw r ri HH D2 q with h|h
   ·exact G9 ((xN II ho h).2.1 d EA hd)
   obtain ⟨_,ori,hori,hh,_⟩:=hI.rj ri D2;rw[ho] at hori;cases hori;exact ((xN ho II h).1 hh d EA).1 hd
  ·exact G9 ((xN II ho (hI.Kq r.i i iy hnL hi)).2.1 d EA hd)
variable {r:Rec}
def qc (hi:i<listed.size):r∈vK (listed.setIfInBounds i true) bk↔r∈vK listed bk/\r.i≠i:=by
 rw[gO,gO,Ak hi];constructor
 ·rintro ⟨h1,h2⟩;simp at h2;exact ⟨⟨h1,h2.2⟩,h2.1⟩
 rintro ⟨⟨h1,h2⟩,h3⟩;exact ⟨h1,by simp[h2,h3]⟩
def OG (hi:i<listed.size) (h:mF listed bk k=false):mF (listed.setIfInBounds i true) bk k=false:=by
 cases q:mF (listed.setIfInBounds i true) bk k with
 | false=>rfl
 | true=>
  obtain ⟨r,hr,hd⟩:=ti.1 q
  have:=ti.2 ⟨r,((qc hi).1 hr).1,hd⟩
  rw[h] at this;cases this
def Dg (hi:i<listed.size) (h:mS listed bk k=false):mS (listed.setIfInBounds i true) bk k=false:=by
 cases q:mS (listed.setIfInBounds i true) bk k with
 | false=>rfl
 | true=>
  obtain ⟨r,hr,hd⟩:=pG.1 q
  have:=pG.2 ⟨r,((qc hi).1 hr).1,hd⟩
  rw[h] at this;cases this
def Inv.goes (hI:Inv P E n ops listed L bk fr σ) (ho:ops[i]?=some o) (hr:∀ e,e∈o.after.toList->Region.binds .any e=true->C4 listed e.on=true) (S9:r∈vK listed bk) (D2:r.i=i):Inv P E n ops (listed.setIfInBounds i true) L bk fr σ:=by
 have HH:=(gO.1 S9).1;have iy:i<listed.size:=by
  rw[hI.size];rcases fN i ops.size with q|q
  ·exact q
  rw[hU q] at ho;cases ho
 have G9:∀ r1,r1∈vK listed bk->ye ops ops.size i r1.i=false:=λr1 h1=>by
  cases q:ye ops ops.size i r1.i with
  | false=>rfl
  | true=>
   have:=AK hI.down _ _ _ o ho hr q
   rw[(gO.1 h1).2] at this;cases this
 have HG:i ∉ L:=D2▸(hI.rj r HH).1;refine Inv.mk (by simpa using hI.size) (λk hk=>?_) (λk ok GX hk=>?_) hI.rj hI.KH hI.apart hI.names hI.Nw hI.Kq hI.H5
  (λk ok GX hk e he hb=>?_) (λr1 h1=>hI.Ny r1 ((qc iy).1 h1).1) (λr1 h1=>hI.reads r1 ((qc iy).1 h1).1) (λr1 h1 nm pL k hk=>?_)
  (λr1 h1=>hI.ds r1 ((qc iy).1 h1).1) (λr1 h1 nm pL k e hk he=>?_) (λr1 r2 h1 h2=>hI.EB r1 r2 ((qc iy).1 h1).1 ((qc iy).1 h2).1)
 ·have:=hI.todo k hk;refine ⟨this.1,?_⟩;have uB:k≠i:=λq=>HG (q▸hk);rw[Ak iy];simp[uB,this.2]
 ·have:=hI.done k ok GX hk;exact ⟨λq=>by rw[Ak iy];simp[this.1 q],this.2⟩
 ·rw[Ak iy] at hk ⊢;simp only[mw,decide_eq_true_eq] at hk;rcases hk with q|q
  ·subst q;rw[ho] at GX;cases GX;simp[hr e he hb]
  simp[hI.down k ok GX q e he hb]
 ·obtain ⟨h1,h1i⟩:=(qc iy).1 h1;cases q:mF listed bk k with
  | false=>exact hI.pA r1 h1 nm pL k q
  | true=>
   obtain ⟨r2,h2,hd⟩:=ti.1 q
   by_cases q2:r2.i=i
   ·have e2:=hI.apart r2 r (gO.1 h2).1 HH (q2.trans D2.symm);subst e2;exact (hI.EB r1 r2 h1 h2 nm pL (by rw[q2];exact G9 r1 h1) (λq3=>h1i (q3.trans q2))).1 k hd
   ·have:=ti.2 ⟨r2,(qc iy).2 ⟨h2,q2⟩,hd⟩;rw[hk] at this;cases this
 obtain ⟨h1,h1i⟩:=(qc iy).1 h1;cases q:mS listed bk k with
 | false=>exact hI.XC r1 h1 nm pL k e q he
 | true=>
  obtain ⟨r2,h2,hd⟩:=pG.1 q
  by_cases q2:r2.i=i
  ·have e2:=hI.apart r2 r (gO.1 h2).1 HH (q2.trans D2.symm);subst e2;exact (hI.EB r1 r2 h1 h2 nm pL (by rw[q2];exact G9 r1 h1) (λq3=>h1i (q3.trans q2))).2.1 k e hd he
  ·have:=pG.2 ⟨r2,(qc iy).2 ⟨h2,q2⟩,hd⟩;rw[hk] at this;cases this
def FR.OH {m m':Nat->Bool} {g:Gh} {a:Act} {d:Option Nat} {v:AV} {c:Value} (hF:FR n g (jH fr m) a) (hd:∀ x,d=some x->x<n) (hv:VR g v c)
  (hs:∀ x,d=some x->fr.s x=v) (hm:∀ i,m' i=false->m i=false\/d=some i):FR n g (jH fr m') (a.put d c):=by
 have h1:=hF.put hd hv
 have Ek:((jH fr m).qv d v).ds=(jH fr m').ds:=Gq
 refine ⟨h1.size,λi=>?_,by rw[<- Ek];exact h1.ds⟩
 ·by_cases q:m' i=true
  ·simp only[jH,q,if_true];exact .any _
  ·have q':m' i=false:=by simpa using q
   have h2:=h1.pA i
   simp only[jH,q',fF,if_false]
   by_cases hdi:d=some i
   ·subst hdi
    simp only[k9.qv,k9.put,if_true] at h2
    rw[hs i rfl];exact h2
   ·have hmi:m i=false:=(hm i q').resolve_right hdi
    cases d with
    | none=>simpa[k9.qv,jH,hmi] using h2
    | some x=>
     have:i≠x:=λq=>hdi (by rw[q])
     simpa[k9.qv,k9.put,jH,hmi,this] using h2
end
section
variable {P:Program} {E:Env} {Q:gJ} {L:List Nat} {bk:List Rec} {fr:k9} {σ:fC}
variable {r:Rec}
def Q1 {i:Nat} (hI:Inv P E n ops listed L bk fr σ) (ho:ops[i]?=some o) (hr:∀ e,e∈o.after.toList->Region.binds .any e=true->C4 listed e.on=true) (S9:r∈vK listed bk) (D2:r.i=i) {g:Gh} {a:Act} {w:World} (hR:Rel E g (jz σ (mS listed bk)) w) (hF:FR n g (jH fr (mF listed bk)) a) {K:Act->World->Prop} {Q':Exit->Act->World->Prop} (hK:∀ g' a' w',Inv P E n ops (listed.setIfInBounds i true) L bk fr σ->Rel E g' (jz σ (mS (listed.setIfInBounds i true) bk)) w'->
   FR n g' (jH fr (mF (listed.setIfInBounds i true) bk)) a'->K a' w'):wpOp P ops Q' i K a w:=by
 have HH:=(gO.1 S9).1
 have Kx:=hI.goes ho hr S9 D2
 have iy:i<listed.size:=by
  rw[hI.size]
  rcases fN i ops.size with q|q
  ·exact q
  ·rw[hU q] at ho;cases ho
 have G9:∀ r1,r1∈vK listed bk->ye ops ops.size i r1.i=false:=λr1 h1=>by
  cases q:ye ops ops.size i r1.i with
  | false=>rfl
  | true=>
   have:=AK hI.down _ _ _ o ho hr q
   rw[(gO.1 h1).2] at this;cases this
 obtain ⟨HG,or,II,hheavy,hdst,AO⟩:=hI.rj r HH
 rw[D2,ho] at II;cases II
 have hum:=Q0 hI ho hr (.inl ⟨r,HH,D2⟩)
 have hmF:∀ k,mF (listed.setIfInBounds i true) bk k=false->mF listed bk k=false\/o.dst=some k:=λk hk=>by
  cases q:mF listed bk k with
  | false=>exact .inl rfl
  | true=>
   obtain ⟨r2,h2,hd⟩:=ti.1 q
   by_cases q2:r2.i=i
   ·have e2:=hI.apart r2 r (gO.1 h2).1 HH (q2.trans D2.symm);subst e2
    exact .inr (hdst.symm.trans hd)
   ·have:=ti.2 ⟨r2,(qc iy).2 ⟨h2,q2⟩,hd⟩
    rw[hk] at this;cases this
 have hmS:r.nm=none->jz σ (mS (listed.setIfInBounds i true) bk)=jz σ (mS listed bk):=λpL=>by
  funext k
  have:mS (listed.setIfInBounds i true) bk k=mS listed bk k:=by
   cases q:mS listed bk k with
   | false=>exact Dg iy q
   | true=>
    obtain ⟨r2,h2,hd⟩:=pG.1 q
    refine pG.2 ⟨r2,(qc iy).2 ⟨h2,λq2=>?_⟩,hd⟩
    have e2:=hI.apart r2 r (gO.1 h2).1 HH (q2.trans D2.symm);subst e2
    rw[pL] at hd;cases hd
  simp[jz,this]
 have hopd:∀ x,x∈o.op.operands->VR g (fr.val x) (a.eval x):=λx hx=>by
  have h1:=hF.eval x
  rwa [QZ (λt ht=>hum t (EE (ht▸hx)))] at h1
 have hdn:∀ x,o.dst=some x->x<n:=λx hx=>(AO x hx).1
 obtain ⟨o',P5,hp⟩:=hI.Ny r S9
 rw[D2,ho] at P5;cases P5
 cases hp with
 | skip hu hv EA pL=>
  refine F4 ho (F3 hu hum) hF (hK g _ w Kx ?_ ?_)
  ·rw[hmS pL];exact hR
  ·exact hF.OH (v:=Sc undef) hdn (.pv (.sc _)) hv hmF
 | @ev hw v h hv pL=>
  refine BJ ho (BI hw hum) hF ?_
  obtain ⟨c,pN,HT⟩:=h o rfl g a.eval w hR.gl hopd (λp hp=>by
   obtain ⟨e0,hs,hle⟩:=hI.reads r S9 p hp
   refine hle _ _ _ (hR.sv p.1 e0 ?_)
   rw[GR]
   ·exact hs
   ·cases q:mS listed bk p.1 with
    | false=>rfl
    | true=>
     exfalso
     obtain ⟨r2,h2,hd⟩:=pG.1 q
     by_cases q2:r2.i=i
     ·have e2:=hI.apart r2 r (gO.1 h2).1 HH (q2.trans D2.symm);subst e2
      rw[pL] at hd;cases hd
     ·exact (hI.EB r2 r h2 S9 _ hd (by rw[D2];exact G9 r2 h2) (λq3=>q2 (q3.trans D2))).2.2 p hp rfl)
  simp only[Oper.wp,pN,Oper.upon]
  refine hK g _ w Kx ?_ ?_
  ·rw[hmS pL];exact hR
  ·exact hF.OH hdn HT hv hmF
 | @nw hw nm e v h hv EA pL hs hf uB=>
  refine BJ ho (BI hw hum) hF ?_
  have hsl:=hI.pA r S9 nm pL
  have Ko:(jH fr (mF listed bk)).clear nm:=⟨λk=>by
   simp only[jH];split
   ·rfl
   ·rename_i q;exact hsl k Gn,hI.ds r S9 nm pL⟩
  have xJ:(jz σ (mS listed bk)).clear nm:=λk e' hk=>by
   simp only[jz] at hk
   split at hk
   ·cases hk
   ·rename_i q;exact hI.XC r S9 nm pL k e' Gn hk
  obtain ⟨c,cs,el,cap,pN,he,HT⟩:=h o rfl g a.eval w hR.gl.fresh (λx hx=>⟨hopd x hx,by
   cases x with
   | tmp t=>exact hsl t (hum t (EE hx))
   | const v=>rfl
   | global k=>rfl
   | func f=>rfl⟩)
  simp only[Oper.wp,pN,Oper.upon]
  have Mw:=hR.ZU xJ hf he
  have VU:FR n (g.fresh nm w.heap.size cap e) (jH fr (mF listed bk)) a:=hF.le (xf.fresh g nm _ _ e hR.gl.fresh) λk q=>by subst q;exact Ko
  refine hK _ _ _ Kx ?_ (VU.OH hdn HT hv hmF)
  have:jz σ (mS (listed.setIfInBounds i true) bk)=(jz σ (mS listed bk)).set nm e:=by
   funext k
   by_cases q:k=nm
   ·subst q
    have:mS (listed.setIfInBounds i true) bk k=false:=by
     cases q:mS (listed.setIfInBounds i true) bk k with
     | false=>rfl
     | true=>
      exfalso
      obtain ⟨r2,h2,hd⟩:=pG.1 q
      obtain ⟨h2,h2i⟩:=(qc iy).1 h2
      have:=hI.names r2 r k (gO.1 h2).1 HH hd pL
      subst this;exact h2i D2
    simp[jz,this,fC.set,hs]
   ·have:mS (listed.setIfInBounds i true) bk k=mS listed bk k:=by
     cases q2:mS listed bk k with
     | false=>exact Dg iy q2
     | true=>
      obtain ⟨r2,h2,hd⟩:=pG.1 q2
      refine pG.2 ⟨r2,(qc iy).2 ⟨h2,λq3=>?_⟩,hd⟩
      have e2:=hI.apart r2 r (gO.1 h2).1 HH (q3.trans D2.symm);subst e2
      rw[pL] at hd;cases hd;exact q rfl
    simp[jz,this,fC.set,q]
  rw[this];exact Mw
 | @fz hw v h hv EA pL=>
  refine BJ ho (BI hw hum) hF ?_
  obtain ⟨c,cs,el,ys,pN,hl,hp,HT⟩:=h o rfl g a.eval w hopd
  simp only[Oper.wp,pN,Oper.upon]
  refine hK (g.iS w.heap.size ys) _ _ Kx ?_ ?_
  ·rw[hmS pL];exact hR.frozen hl hp
  ·exact (hF.le (nn:=λ_=>False) (qQ g _ ys hR.gl.fresh) λk q=>q.elim).OH hdn HT hv hmF
def n'.congr {pn:k9} {σ':fC} (h:n' P E ops fr σ r o) (hl:∀ t,t∈o.looksAt ops->pn.s t=fr.s t) (hd:∀ d,o.dst=some d->pn.s d=fr.s d) (hs:∀ nm,r.nm=some nm->σ' nm=σ nm):n' P E ops pn σ' r o:=by
 have Al:∀ x,x∈o.op.operands->pn.val x=fr.val x:=λx hx=>by
  cases x with
  | tmp t=>exact hl t (EE hx)
  | const v=>rfl
  | global k=>rfl
  | func f=>rfl
 have hwan:oL ops o fr->oL ops o pn:=λhw=>by
  rcases hw with q|⟨j,want,d,hg,hj,hb⟩
  ·exact .inl q
  exact .inr ⟨j,want,d,hg,hj,by rw[hl d Xr];exact hb⟩
 cases h with
 | skip hu hv EA pL=>
  obtain ⟨j,want,d,b,hg,hj,hb,hn⟩:=hu
  exact .skip ⟨j,want,d,b,hg,hj,by rw[hl d Xr];exact hb,hn⟩ (λd Cz=>(hd d Cz).trans (hv d Cz)) EA pL
 | ev hw h hv pL=>exact .ev (hwan hw) (λo' P5 g ev w hG hx=>h o' P5 g ev w hG λx tw=>by rw[<- Al x tw];exact hx x tw) (λd Cz=>(hd d Cz).trans (hv d Cz)) pL
 | nw hw h hv EA pL QX hf uB=>
  exact .nw (hwan hw) (λo' P5 g ev w hG0 hx=>h o' P5 g ev w hG0 λx tw=>by rw[<- Al x tw];exact hx x tw) (λd Cz=>(hd d Cz).trans (hv d Cz)) EA pL ((hs _ pL).trans QX) hf uB
 | fz hw h hv EA pL=>exact .fz (hwan hw) (λo' P5 g ev w hx=>h o' P5 g ev w λx tw=>by rw[<- Al x tw];exact hx x tw) (λd Cz=>(hd d Cz).trans (hv d Cz)) EA pL
end
section
variable {P:Program} {E:Env} {Q:gJ} {L:List Nat} {bk:List Rec} {fr:k9} {σ:fC}
variable {d:Option Nat} {v:AV}
def ue (h:d≠some i):(fr.qv d v).s i=fr.s i:=by
 cases d with
 | none=>rfl
 | some d=>
  have:i≠d:=λq=>h (by rw[q])
  simp[k9.qv,k9.put,this]
def HP (h:d=some i):(fr.qv d v).s i=v:=by
 subst h;simp[k9.qv,k9.put]
variable {c:Nat} {rd:List (Nat×cV)} {g:Gh}
def advance {KI:Option Nat} {σ':fC} (hI:Inv P E n ops listed (c::L) bk fr σ) (ho:ops[c]?=some o) (hh:fO o=false) (hd:∀ d,o.dst=some d->d<n) (hp:n' P E ops (fr.qv o.dst v) σ' ⟨c,o.dst,rd,KI⟩ o) (hσ:∀ k,KI≠some k->σ' k=σ k) (Om:∀ k,KI=some k->(∀ r,r∈bk->r.nm≠some k/\∀ p,p∈r.rd->p.1≠k)/\σ k=none/\fr.clear k/\σ.clear k/\∀ e,σ' k=some e->AV.jh.kJ k e.cells=false) (EA:∀ p,p∈rd->Cov σ' p) (hc:∀ r,r∈mK ops bk c->∀ nm,r.nm=some nm->v.jh nm=false/\(∀ p,p∈rd->p.1≠nm)/\∀ k e,KI=some k->σ' k=some e->AV.jh.kJ nm e.cells=false) (hR:Rel E g (jz σ (mS listed bk)) w) (hF:FR n g (jH fr (mF listed bk)) a) :
  Inv P E n ops listed L (⟨c,o.dst,rd,KI⟩::bk) (fr.qv o.dst v) σ'/\Rel E g (jz σ' (mS listed (⟨c,o.dst,rd,KI⟩::bk))) w/\
   FR n g (jH (fr.qv o.dst v) (mF listed (⟨c,o.dst,rd,KI⟩::bk))) a:=by
 have hcL:=hI.todo c bn
 have hPP:=hI.H5
 simp only[wD,bm,fD] at hPP
 obtain ⟨⟨hcn,hca⟩,hPL⟩:=hPP
 have hcnL:c ∉ L:=by simpa using hcn
 have AO:=hI.KH c bn
 simp only[HV,ho,hh,lP,bm,looks] at AO
 have hdl:∀ d,o.dst=some d->d ∉ o.looksAt ops:=λd Cz=>by
  have:=AO.2;rw[Cz] at this;simpa using this
 have uB:∀ r,r∈bk->r.i≠c:=λr hr q=>(hI.rj r hr).1 (by simp[q])
 have iy:∀ r,r∈bk->r.i<ops.size:=λr hr=>by
  obtain ⟨_,or,II,_⟩:=hI.rj r hr
  exact Ŭ
 have IK:∀ r,r∈bk->B7 ops r.i c=true:=λr hr=>hI.Kq r.i c (iy r hr) (hI.rj r hr).1 bn
 have Nq:∀ r,r∈bk->∀ or,ops[r.i]?=some or->∀ d,o.dst=some d->d ∉ or.looksAt ops/\or.dst≠some d:=λr hr or II d Cz=>by
  exact aiy
 have VV:∀ r,r∈bk->∀ d,r.dst=some d->o.dst≠some d:=λr hr d Cz q=>by
  exact adj
 have Q2:∀ r,r∈bk->∀ d,r.dst=some d->(fr.qv o.dst v).s d=fr.s d:=λr hr d Cz=>ue (VV r hr d Cz)
 have XE:∀ r,r∈vK listed (⟨c,o.dst,rd,KI⟩::bk)↔r=⟨c,o.dst,rd,KI⟩\/r∈vK listed bk:=λr=>by
  rw[gO,gO]
  constructor
  ·rintro ⟨h1,h2⟩
   rcases cb.1 h1 with q|q
   ·exact .inl q
   ·exact .inr ⟨q,h2⟩
  ·rintro (q|⟨h1,h2⟩)
   ·subst q;exact ⟨by simp,hcL.2⟩
   ·exact ⟨by simp[h1],h2⟩
 have hmF:∀ k,mF listed (⟨c,o.dst,rd,KI⟩::bk) k=false->o.dst≠some k/\mF listed bk k=false:=λk hk=>by
  refine ⟨λq=>?_,?_⟩
  ·have:=ti.2 ⟨⟨c,o.dst,rd,KI⟩,(XE _).2 (.inl rfl),q⟩
   rw[hk] at this;cases this
  ·cases q:mF listed bk k with
   | false=>rfl
   | true=>
    obtain ⟨r,h1,h2⟩:=ti.1 q
    have:=ti.2 ⟨r,(XE r).2 (.inr h1),h2⟩
    rw[hk] at this;cases this
 have hmS:∀ k,mS listed (⟨c,o.dst,rd,KI⟩::bk) k=false->KI≠some k/\mS listed bk k=false:=λk hk=>by
  refine ⟨λq=>?_,?_⟩
  ·have:=pG.2 ⟨⟨c,o.dst,rd,KI⟩,(XE _).2 (.inl rfl),q⟩
   rw[hk] at this;cases this
  ·cases q:mS listed bk k with
   | false=>rfl
   | true=>
    obtain ⟨r,h1,h2⟩:=pG.1 q
    have:=pG.2 ⟨r,(XE r).2 (.inr h1),h2⟩
    rw[hk] at this;cases this
 have hmS':∀ k,mS listed (⟨c,o.dst,rd,KI⟩::bk) k=true->KI=some k\/mS listed bk k=true:=λk hk=>by
  obtain ⟨r,h1,h2⟩:=pG.1 hk
  rcases (XE r).1 h1 with q|q
  ·subst q;exact .inl h2
  ·exact .inr (pG.2 ⟨r,q,h2⟩)
 refine ⟨?_,?_,?_⟩
 ·refine Inv.mk hI.size (λi hi=>hI.todo i (by simp[hi])) (λi oi hoi hi=>?_) (λr hr=>?_) (λi hi=>hI.KH i (by simp[hi])) (λr r' hr Fh q=>?_) (λr r' k hr Fh q q'=>?_)
   (λr r' hr Fh q=>?_) (λi j hi HG hj=>?_) hPL hI.down (λr hr=>?_) (λr hr p hpr=>?_) (λr hr nm pL i hi=>?_) (λr hr nm pL p hpp=>?_) (λr hr nm pL k e hk he=>?_)
   (λr r' hr Fh nm pL hord D2=>?_)
  ·by_cases q:i=c
   ·subst q;rw[ho] at hoi;cases hoi
    exact ⟨λq=>(by rw[hh] at q;cases q),λ_=>⟨_,List.mem_cons_self ..,rfl⟩⟩
   ·obtain ⟨h1,h2⟩:=hI.done i oi hoi (by simp[q,hi])
    exact ⟨h1,λq2=>let ⟨r,hr,e⟩:=h2 q2;⟨r,by simp[hr],e⟩⟩
  ·rcases cb.1 hr with q|q
   ·subst q;exact ⟨hcnL,o,ho,hh,rfl,λd Cz=>⟨hd d Cz,hdl d Cz⟩⟩
   ·obtain ⟨h1,h2⟩:=hI.rj r q
    exact ⟨λq2=>h1 (by simp[q2]),h2⟩
  ·rcases cb.1 hr with h1|h1
   ·rcases cb.1 Fh with h2|h2
    ·rw[h1,h2]
    ·subst h1;exact ao q.symm (uB r' h2)
   ·rcases cb.1 Fh with h2|h2
    ·subst h2;exact ao q (uB r h1)
    ·exact hI.apart r r' h1 h2 q
  ·rcases cb.1 hr with h1|h1
   ·rcases cb.1 Fh with h2|h2
    ·rw[h1,h2]
    ·subst h1;exact ao q' ((Om k q).1 r' h2).1
   ·rcases cb.1 Fh with h2|h2
    ·subst h2;exact ao q ((Om k q').1 r h1).1
    ·exact hI.names r r' k h1 h2 q q'
  ·rcases cb.1 hr with h1|h1
   ·rcases cb.1 Fh with h2|h2
    ·subst h1 h2;exact ao rfl q
    ·subst h1;exact .inr (IK r' h2)
   ·rcases cb.1 Fh with h2|h2
    ·subst h2;exact .inl (IK r h1)
    ·exact hI.Nw r r' h1 h2 q
  ·exact ac5
  ·rcases (XE r).1 hr with q|q
   ·subst q;exact ⟨o,ho,hp⟩
   ·obtain ⟨or,II,hpr⟩:=hI.Ny r q
    have HH:=(gO.1 q).1
    refine ⟨or,II,hpr.congr (λt ht=>ue λq2=>(Nq r HH or II t q2).1 ht) (λd Cz=>ue λq2=>(Nq r HH or II d q2).2 Cz) (λnm pL=>hσ nm λq2=>((Om nm q2).1 r HH).1 pL)⟩
  ·rcases (XE r).1 hr with q|q
   ·subst q;exact EA p hpr
   ·obtain ⟨e0,hs,hle⟩:=hI.reads r q p hpr
    exact ⟨e0,by rw[hσ p.1 λq2=>((Om p.1 q2).1 r (gO.1 q).1).2 p hpr rfl];exact hs,hle⟩
  ·obtain ⟨h1,h2⟩:=hmF i hi
   rw[ue h1]
   rcases (XE r).1 hr with q|q
   ·subst q;exact (Om nm pL).2.2.1.1 i
   ·exact hI.pA r q nm pL i h2
  ·rw[Gq] at hpp
   rcases (XE r).1 hr with q|q
   ·subst q;exact (Om nm pL).2.2.1.2 p hpp
   ·exact hI.ds r q nm pL p hpp
  ·obtain ⟨h1,h2⟩:=hmS k hk
   rw[hσ k h1] at he
   rcases (XE r).1 hr with q|q
   ·subst q;exact (Om nm pL).2.2.2.1 k e he
   ·exact hI.XC r q nm pL k e h2 he
  ·rcases (XE r).1 hr with q|q
   ·subst q
    rcases (XE r').1 Fh with q'|q'
    ·subst q';exact ao rfl D2
    ·have XG:=(gO.1 q').1
     refine ⟨λd Cz=>by rw[Q2 r' XG d Cz];exact (Om nm pL).2.2.1.1 d,λk e hk he=>?_,λp hpp=>((Om nm pL).1 r' XG).2 p hpp⟩
     rw[hσ k (λq2=>((Om k q2).1 r' XG).1 hk)] at he
     exact (Om nm pL).2.2.2.1 k e he
   ·have HH:=(gO.1 q).1
    rcases (XE r').1 Fh with q'|q'
    ·subst q'
     have S7:r∈mK ops bk c:=by simp[mK,HH,hord]
     obtain ⟨h1,h2,h3⟩:=hc r S7 nm pL
     exact ⟨λd Cz=>by rw[HP Cz];exact h1,λk e hk he=>h3 k e hk he,h2⟩
    ·have XG:=(gO.1 q').1
     obtain ⟨h1,h2,h3⟩:=hI.EB r r' q q' nm pL hord D2
     refine ⟨λd Cz=>by rw[Q2 r' XG d Cz];exact h1 d Cz,λk e hk he=>?_,h3⟩
     rw[hσ k (λq2=>((Om k q2).1 r' XG).1 hk)] at he
     exact h2 k e hk he
 ·have:jz σ' (mS listed (⟨c,o.dst,rd,KI⟩::bk))=jz σ (mS listed bk):=by
   funext k
   simp only[jz]
   cases q:mS listed (⟨c,o.dst,rd,KI⟩::bk) k with
   | false=>
    obtain ⟨h1,h2⟩:=hmS k q
    simp[h2,hσ k h1]
   | true=>
    simp only[if_true]
    rcases hmS' k q with h1|h1
    ·split
     ·rfl
     ·exact (Om k h1).2.1.symm
    ·simp[h1]
  rw[this];exact hR
 ·refine ⟨hF.size,λi=>?_,?_⟩
  ·simp only[jH]
   split
   ·exact .any _
   ·rename_i q
    obtain ⟨h1,h2⟩:=hmF i Gn
    have:=hF.pA i
    simp only[jH,h2] at this
    rw[ue h1];exact this
  ·have h0:(jH (fr.qv o.dst v) (mF listed (⟨c,o.dst,rd,KI⟩::bk))).ds=fr.ds:=Gq
   rw[h0];exact hF.ds
def X.congr {op:Op} {fr pn:k9} (h:X P op fr rd v) (he:∀ x,x∈op.operands->pn.val x=fr.val x):X P op pn rd v:=
 λo' P5 g ev w hG hx=>h o' P5 g ev w hG λx tw=>by rw[<- he x tw];exact hx x tw
def A' {x:Operand} (h:∀ t,x=.tmp t->d≠some t):(fr.qv d v).val x=fr.val x:=by
 cases x with
 | tmp t=>exact ue (h t rfl)
 | const v=>rfl
 | global k=>rfl
 | func f=>rfl
def EF (h:oL ops o fr) (hd:∀ t,t∈o.looksAt ops->d≠some t):oL ops o (fr.qv d v):=by
 rcases h with q|⟨j,want,x,hg,hj,hb⟩
 ·exact .inl q
 exact .inr ⟨j,want,x,hg,hj,by rw[ue (hd x Xr)];exact hb⟩
def walk {next:List Rec->k9->fC->Prop} (hI:Inv P E n ops listed (c::L) bk fr σ) (ho:ops[c]?=some o) (hh:fO o=false) (hS:DStep P E n ops Q next bk c o fr σ) (hR:Rel E g (jz σ (mS listed bk)) w) (hF:FR n g (jH fr (mF listed bk)) a) :
  ∃ r rq pn σ',rq=r::bk/\r.i=c/\next rq pn σ'/\Inv P E n ops listed L rq pn σ'/\Rel E g (jz σ' (mS listed rq)) w/\FR n g (jH pn (mF listed rq)) a:=by
 have AO:=hI.KH c bn
 simp only[HV,ho,hh,lP,bm,looks] at AO
 have hdl:∀ t,t∈o.looksAt ops->o.dst≠some t:=λt ht q=>by
  have:=AO.2;rw[q] at this;simp at this;exact this ht
 have Al:∀ v x,x∈o.op.operands->(fr.qv o.dst v).val x=fr.val x:=λv x hx=>A' λt ht=>hdl t (EE (ht▸hx))
 cases hS with
 | skip hu hd hn=>
  simp only[hh,fF,if_false] at hn
  obtain ⟨j,want,d,b,hg,hj,hb,uB⟩:=hu
  obtain ⟨h1,h2,h3⟩:=advance (v:=Sc undef) (rd:=[]) (KI:=none) (σ':=σ) hI ho hh hd
   (.skip ⟨j,want,d,b,hg,hj,by rw[ue (hdl d Xr)];exact hb,uB⟩ Vk rfl rfl)
   (λ_ _=>rfl) (λk q=>by cases q) Nj (λr _ nm _=>⟨rfl,Nj,λk e q=>by cases q⟩) hR hF
  exact Ţ
 | @ev hw _ rd v h hr hd hc hn=>
  obtain ⟨h1,h2,h3⟩:=advance (v:=v) (rd:=rd) (KI:=none) (σ':=σ) hI ho hh hd (.ev (EF hw hdl) (h.congr (Al v)) Vk rfl)
   (λ_ _=>rfl) (λk q=>by cases q) hr (λr hr nm pL=>⟨(hc r hr nm pL).1,(hc r hr nm pL).2,λk e q=>by cases q⟩) hR hF
  exact Ţ
 | @nw hw _ nm e v h hcf xJ hs hf hd hc Om EA hnv hn=>
  obtain ⟨h1,h2,h3⟩:=advance (v:=v) (rd:=[]) (KI:=some nm) (σ':=σ.set nm e) hI ho hh hd
   (.nw (EF hw hdl) (λo' P5 g ev w hG0 hx=>h o' P5 g ev w hG0 λx tw=>by rw[<- Al v x tw];exact hx x tw) Vk rfl rfl (by simp[fC.set]) hf hnv)
   (λk q=>by
    have:k≠nm:=λq2=>q (by rw[q2])
    simp[fC.set,this])
   (λk q=>by
    cases q
    exact ⟨λr hr=>⟨Om r hr,EA r hr⟩,hs,hcf,xJ,λe' Md=>by simp[fC.set] at Md;subst Md;exact hnv⟩)
   Nj (λr hr k hk=>⟨(hc r hr k hk).1,Nj,λk' e' q Md=>by cases q;simp[fC.set] at Md;subst Md;exact (hc r hr k hk).2⟩) hR hF
  exact Ţ
 | @fz hw _ v h hd hc hn=>
  obtain ⟨h1,h2,h3⟩:=advance (v:=v) (rd:=[]) (KI:=none) (σ':=σ) hI ho hh hd
   (.fz (EF hw hdl) (λo' P5 g ev w hx=>h o' P5 g ev w λx tw=>by rw[<- Al v x tw];exact hx x tw) Vk rfl rfl)
   (λ_ _=>rfl) (λk q=>by cases q) Nj (λr hr nm pL=>⟨hc r hr nm pL,Nj,λk e q=>by cases q⟩) hR hF
  exact Ţ
 | fO _ hh'=>rw[hh] at hh';cases hh'
end
section
variable {P:Program} {E:Env} {Q:gJ}
variable {L:List Nat} {bk:List Rec} {fr:k9} {σ:fC}
def H6 {c:Nat} {next:List Rec->k9->fC->Prop} (hI:Inv P E n ops listed (c::L) bk fr σ) (ho:ops[c]?=some o) (hh:fO o=true) (hr:∀ e,e∈o.after.toList->Region.binds .any e=true->C4 listed e.on=true) (hS:DStep P E n ops Q next bk c o fr σ) {g:Gh} {a:Act} {w:World} (hR:Rel E g (jz σ (mS listed bk)) w) (hF:FR n g (jH fr (mF listed bk)) a) {K:Act->World->Prop} (hK:∀ g' pn σ' a' w',next bk pn σ'->Inv P E n ops (listed.setIfInBounds c true) L bk pn σ'->Rel E g' (jz σ' (mS (listed.setIfInBounds c true) bk)) w'->
   FR n g' (jH pn (mF (listed.setIfInBounds c true) bk)) a'->K a' w'):wpOp P ops (LQ E n Q) c K a w:=by
 have hcL:=hI.todo c bn
 have iy:c<listed.size:=by rw[hI.size];exact hcL.1
 have hPP:=hI.H5
 simp only[wD,bm,fD] at hPP
 obtain ⟨⟨hcn,hca⟩,hPL⟩:=hPP
 have hcnL:c ∉ L:=by simpa using hcn
 have uB:∀ r,r∈bk->r.i≠c:=λr hr q=>(hI.rj r hr).1 (by simp[q])
 have hltr:∀ r,r∈bk->r.i<ops.size:=λr hr=>by
  obtain ⟨_,or,II,_⟩:=hI.rj r hr
  exact Ŭ
 have IK:∀ r,r∈bk->B7 ops r.i c=true:=λr hr=>hI.Kq r.i c (hltr r hr) (hI.rj r hr).1 bn
 have Nq:∀ r,r∈bk->∀ or,ops[r.i]?=some or->∀ d,o.dst=some d->d ∉ or.looksAt ops/\or.dst≠some d:=λr hr or II d Cz=>by
  exact aiy
 have VV:∀ r,r∈bk->∀ d,r.dst=some d->o.dst≠some d:=λr hr d Cz q=>by
  exact adj
 have G9:∀ r1,r1∈vK listed bk->ye ops ops.size c r1.i=false:=λr1 h1=>by
  cases q:ye ops ops.size c r1.i with
  | false=>rfl
  | true=>
   exact ak5
 have S7:∀ r,r∈vK listed bk->r∈mK ops bk c:=λr hr=>by simp[mK,(gO.1 hr).1,G9 r hr]
 have hum:=Q0 hI ho hr (.inr bn)
 have hdm:∀ d,o.dst=some d->mF listed bk d=false:=λd hd=>by
  cases q:mF listed bk d with
  | false=>rfl
  | true=>
   obtain ⟨r,h1,h2⟩:=ti.1 q
   exact ao hd (VV r (gO.1 h1).1 d h2)
 have hpe:∀ r,r∈vK (listed.setIfInBounds c true) bk↔r∈vK listed bk:=λr=>by
  rw[qc iy];exact ⟨λh=>h.1,λh=>⟨h,uB r (gO.1 h).1⟩⟩
 have hmFe:mF (listed.setIfInBounds c true) bk=mF listed bk:=by
  funext k
  cases q:mF listed bk k with
  | false=>exact OG iy q
  | true=>
   obtain ⟨r,h1,h2⟩:=ti.1 q
   exact ti.2 ⟨r,(hpe r).2 h1,h2⟩
 have hmSe:mS (listed.setIfInBounds c true) bk=mS listed bk:=by
  funext k
  cases q:mS listed bk k with
  | false=>exact Dg iy q
  | true=>
   obtain ⟨r,h1,h2⟩:=pG.1 q
   exact pG.2 ⟨r,(hpe r).2 h1,h2⟩
 have hinv:∀ TN σ0 ks,Chg o ks fr TN σ σ0->(∀ r,r∈vK listed bk->∀ k,k∈ks->r.nm≠some k)->
   (∀ r,r∈vK listed bk->(∀ p,p∈r.rd->Cov σ0 p)/\∀ nm,r.nm=some nm->(∀ d,o.dst=some d->(TN.s d).jh nm=false)/\∀ k,k∈ks->∀ e,σ0 k=some e->AV.jh.kJ nm e.cells=false)->
   Inv P E n ops (listed.setIfInBounds c true) L bk TN σ0:=by
  intro TN σ0 ks hch xM Fy
  have hs:∀ r,r∈bk->∀ d,r.dst=some d->TN.s d=fr.s d:=λr hr d hd=>hch.s d (VV r hr d hd)
  refine Inv.mk (by simpa using hI.size) (λi hi=>?_) (λi oi hoi hi=>?_) (λr hr=>?_) (λi hi=>hI.KH i (by simp[hi])) hI.apart hI.names hI.Nw (λi j hi HG hj=>?_) hPL
   (λk ok GX hk e he hb=>?_) (λr Fh=>?_) (λr Fh=>(Fy r ((hpe r).1 Fh)).1) (λr Fh nm pL i hi=>?_) (λr Fh nm pL p hp=>?_) (λr Fh nm pL k e hk he=>?_)
   (λr r' h1 h2 nm pL hord D2=>?_)
  ·have:=hI.todo i (by simp[hi])
   have hn:i≠c:=λq=>hcnL (q▸hi)
   exact ⟨this.1,by rw[Ak iy];simp[hn,this.2]⟩
  ·by_cases q:i=c
   ·subst q;rw[ho] at hoi;cases hoi
    exact ⟨λ_=>by rw[Ak iy];simp,λq=>(by rw[hh] at q;cases q)⟩
   ·obtain ⟨h1,h2⟩:=hI.done i oi hoi (by simp[q,hi])
    exact ⟨λq2=>by rw[Ak iy];simp[h1 q2],h2⟩
  ·obtain ⟨h1,h2⟩:=hI.rj r hr
   exact ⟨λq=>h1 (by simp[q]),h2⟩
  ·exact ac5
  ·exact ak1
  ·have hp:=(hpe r).1 Fh
   have HH:=(gO.1 hp).1
   obtain ⟨or,II,hpp⟩:=hI.Ny r hp
   exact ⟨or,II,hpp.congr (λt ht=>hch.s t λq=>(Nq r HH or II t q).1 ht) (λd hd=>hch.s d λq=>(Nq r HH or II d q).2 hd) (λnm pL=>hch.h nm λq=>xM r hp nm q pL)⟩
  ·have hp:=(hpe r).1 Fh
   rw[hmFe] at hi
   by_cases q:o.dst=some i
   ·exact ((Fy r hp).2 nm pL).1 i q
   ·rw[hch.s i q];exact hI.pA r hp nm pL i hi
  ·rw[hch.ds] at hp;exact hI.ds r ((hpe r).1 Fh) nm pL p hp
  ·have hp:=(hpe r).1 Fh
   rw[hmSe] at hk
   by_cases q:k∈ks
   ·exact ((Fy r hp).2 nm pL).2 k q e he
   ·rw[hch.h k q] at he;exact hI.XC r hp nm pL k e hk he
  ·have hp:=(hpe r).1 h1
   have hp':=(hpe r').1 h2
   obtain ⟨q1,q2,q3⟩:=hI.EB r r' hp hp' nm pL hord D2
   refine ⟨λd hd=>by rw[hs r' (gO.1 hp').1 d hd];exact q1 d hd,λk e hk he=>?_,q3⟩
   rw[hch.h k λq=>xM r' hp' k q hk] at he
   exact q2 k e hk he
 cases hS with
 | skip hu hd hn=>
  simp only[hh,if_true] at hn
  refine F4 ho (F3 hu hum) hF (hK g _ σ _ w hn (hinv _ _ [] ⟨GS,Gq,λ_ _=>rfl⟩ (λ_ _ _ q=>by cases q) λr hr=>?_) ?_ ?_)
  ·exact ⟨hI.reads r hr,λnm pL=>⟨λd Cz=>by rw[HP Cz];rfl,λk q=>by cases q⟩⟩
  ·rw[hmSe];exact hR
  ·rw[hmFe,<- Fe hdm];exact hF.put hd (.pv (.sc _))
 | ev _ hh'=>rw[hh] at hh';cases hh'
 | nw _ hh'=>rw[hh] at hh';cases hh'
 | fz _ hh'=>rw[hh] at hh';cases hh'
 | @fO hw _ ks h hk=>
  have Fy:=h.run (m:=mF listed bk) (mm:=mS listed bk) (λhN=>by
   have hp:∀ r,r∈vK listed bk->False:=λr hr=>by
    have h1:=G9 r hr
    have h2:r∈mK ops bk c:=by simp[mK,(gO.1 hr).1,h1]
    rw[hN] at h2;cases h2
   refine ⟨λk=>?_,λk=>?_⟩
   ·cases q:mS listed bk k with
    | false=>rfl
    | true=>obtain ⟨r,hr,_⟩:=pG.1 q;exact (hp r hr).elim
   ·cases q:mF listed bk k with
    | false=>rfl
    | true=>obtain ⟨r,hr,_⟩:=ti.1 q;exact (hp r hr).elim) (λt ht=>hum t (EE ht)) hdm (λk hkk=>by
   cases q:mS listed bk k with
   | false=>rfl
   | true=>
    obtain ⟨r,h1,h2⟩:=pG.1 q
    exact ao h2 (hk r (S7 r h1) k hkk))
  refine BJ ho (BI hw hum) hF (Fy g a w K hR hF λg' pn σ' a' w' hq lq tt=>?_)
  obtain ⟨TN,σ0,⟨hst2,hn⟩,hch,rfl,rfl⟩:=hq
  refine hK g' TN σ0 a' w' hn (hinv TN σ0 ks hch (λr hr k hkk=>hk r (S7 r hr) k hkk) λr hr=>hst2 r (S7 r hr)) ?_ ?_
  ·rw[hmSe];exact lq
  ·rw[hmFe];exact tt
def VW (ho:ops[i]?=some o) (hr:∀ e,e∈o.after.toList->Region.binds .any e=true->C4 listed e.on=true) :
  ∀ (L:List Nat) (bk:List Rec) (fr:k9) (σ:fC) (g:Gh) (a:Act) (w:World),i∈L->strict ops L=true->Inv P E n ops listed L bk fr σ->DW P E n ops Q L bk fr σ->Rel E g (jz σ (mS listed bk)) w->
   FR n g (jH fr (mF listed bk)) a->∃ L' rq pn σ',strict ops (i::L')=true/\Inv P E n ops listed (i::L') rq pn σ'/\DW P E n ops Q (i::L') rq pn σ'/\Rel E g (jz σ' (mS listed rq)) w/\FR n g (jH pn (mF listed rq)) a
 | [],_,_,_,_,_,_,hi,_,_,_,_,_=>by cases hi
 | c::L,bk,fr,σ,g,a,w,hi,hs,hI,hD,hR,hF=>by
  by_cases q:c=i
  ·subst q;exact ⟨L,bk,fr,σ,hs,hI,hD,hR,hF⟩
  ·have HG:i∈L:=by
    rcases cb.1 hi with h|h
    ·exact ao h.symm q
    ·exact h
   obtain ⟨oc,Q3,hS⟩:=hD
   have hPP:=hI.H5
   simp only[wD,bm] at hPP
   have IK:B7 ops c i=true:=jm.1 hPP.1.2 i HG
   have hhv:fO oc=false:=by
    cases h:fO oc with
    | false=>rfl
    | true=>
     have h1:ye ops ops.size i c=true:=by
      rcases (xN Q3 ho IK).2.2 h with h0|h0
      ·exact H4 hs HG Q3 ho h h0
      ·exact h0
     have h2:=AK hI.down _ _ _ o ho hr h1
     rw[(hI.todo c bn).2] at h2;cases h2
   obtain ⟨r,rq,pn,σ',rfl,_,hn,Kx,lq,tt⟩:=walk hI Q3 hhv hS hR hF
   exact VW ho hr L _ pn σ' g a w HG (rS hs) Kx hn lq tt
def VY (hI:Inv P E n ops listed L bk fr σ) (hsm:∀ i o,ops[i]?=some o->∀ e,e∈o.after.toList->Region.binds .any e=true->e.on<i) (h:Region.ready .any ops listed=[]):∀ i,i<ops.size->C4 listed i=true:=by
 intro i
 induction i using Nat.strongRecOn with
 | _ i ih=>
  intro hi
  cases q:C4 listed i with
  | true=>rfl
  | false=>
   exfalso
   have:i∈Region.ready .any ops listed:=by
    simp only[Region.ready,ij,uD,bm,fD];refine ⟨hi,?_,?_⟩
    ·have h1:listed.getD i true=listed.getD i false:=by simp[Array.getD,hI.size,hi]
     rw[h1];exact q
    rw[gU hi];simp only[wy,AM];rw[Array.all_eq_true_iff_forall_mem];intro e he;by_cases hb:Region.binds .any e=true
    ·have iy:=hsm i _ (gU hi) e DN hb;have:=ih e.on iy (Nat.lt_trans iy hi);simpa[hb,C4] using this
    simp[hb]
   rw[h] at this;cases this
def left (ops:Array Oper) (listed:Array Bool):Nat:=(List.range ops.size).countP λi=>!C4 listed i
def Q4 (hs:listed.size=ops.size) (hi:i<ops.size) (hr:C4 listed i=false):left ops (listed.setIfInBounds i true)<left ops listed:=by
 have key:∀ l:List Nat,l.countP (λk=>!C4 (listed.setIfInBounds i true) k)<=l.countP (λk=>!C4 listed k)/\
   (i∈l->l.countP (λk=>!C4 (listed.setIfInBounds i true) k)<l.countP (λk=>!C4 listed k)):=by
  intro l
  induction l with
  | nil=>simp
  | cons k l ih=>
   have hk:C4 (listed.setIfInBounds i true) k=(decide (k=i)||C4 listed k):=Ak (by rw[hs];exact hi)
   simp only[List.countP_cons,hk]
   by_cases q:k=i
   ·subst q
    simp only[decide_true,Bool.true_or,hr,iT,sE,if_true,fF,if_false]
    exact ⟨by omega,λ_=>by omega⟩
   ·simp only[q,decide_false,lP]
    refine ⟨aB,λh=>?_⟩
    rcases cb.1 h with h|h
    ·exact ao h.symm q
    ·have:=ih.2 h;omega
 exact (key _).2 FZ
def Q5 (hsm:∀ i o,ops[i]?=some o->∀ e,e∈o.after.toList->Region.binds .any e=true->e.on<i) :
  ∀ (fuel:Nat) (listed:Array Bool) (L:List Nat) (bk:List Rec) (fr:k9) (σ:fC) (g:Gh) (a:Act) (w:World),left ops listed<=fuel->strict ops L=true->Inv P E n ops listed L bk fr σ->DW P E n ops Q L bk fr σ->
   Rel E g (jz σ (mS listed bk)) w->FR n g (jH fr (mF listed bk)) a->wpAny P .any ops (LQ E n Q) fuel listed a w:=by
 intro fuel
 have fin:∀ (listed:Array Bool) (L:List Nat) (bk:List Rec) (fr:k9) (σ:fC) (g:Gh) (a:Act) (w:World),Inv P E n ops listed L bk fr σ->DW P E n ops Q L bk fr σ->
   Rel E g (jz σ (mS listed bk)) w->FR n g (jH fr (mF listed bk)) a->(∀ i,i<ops.size->C4 listed i=true)->LQ E n Q .normal a w:=by
  intro listed L bk fr σ g a w hI hD hR hF FF
  have hL:L=[]:=by
   cases L with
   | nil=>rfl
   | cons c L=>
    have:=hI.todo c bn
    rw[FF c this.1] at this;cases this.2
  subst hL
  have hp:∀ r,r ∉ vK listed bk:=λr hr=>by
   obtain ⟨h1,h2⟩:=gO.1 hr
   obtain ⟨_,or,II,_⟩:=hI.rj r h1
   have:r.i<ops.size:=by
    exact Ŭ
   rw[FF r.i this] at h2;cases h2
  have h1:mF listed bk=λ_=>false:=by
   funext k
   cases q:mF listed bk k with
   | false=>rfl
   | true=>obtain ⟨r,hr,_⟩:=ti.1 q;exact ao hr (hp r)
  have h2:mS listed bk=λ_=>false:=by
   funext k
   cases q:mS listed bk k with
   | false=>rfl
   | true=>obtain ⟨r,hr,_⟩:=pG.1 q;exact ao hr (hp r)
  have h3:jH fr (λ_=>false)=fr:=by simp[jH]
  have h4:jz σ (λ_=>false)=σ:=by funext k;simp[jz]
  rw[h2,h4] at hR
  rw[h1,h3] at hF
  exact ⟨g,.normal,fr,σ,hD,.normal,hR,hF⟩
 induction fuel with
 | zero=>
  intro listed L bk fr σ g a w hfu hs hI hD hR hF
  have FF:∀ i,i<ops.size->C4 listed i=true:=λi hi=>by
   exact aiw
  refine ⟨?_,fin listed L bk fr σ g a w hI hD hR hF FF⟩
  cases q:Region.ready .any ops listed with
  | nil=>rfl
  | cons i l=>
   exfalso
   have hi:i∈Region.ready .any ops listed:=by rw[q];simp
   obtain ⟨h1,h2,_⟩:=Gv hI.size hi
   rw[FF i h1] at h2;cases h2
 | succ fuel ih=>
  intro listed L bk fr σ g a w hfu hs hI hD hR hF
  refine ⟨λhnil=>fin listed L bk fr σ g a w hI hD hR hF (VY hI hsm hnil),λi hi=>?_⟩
  obtain ⟨h1,h2,o,ho,hr⟩:=Gv hI.size hi
  have hlf:left ops (listed.setIfInBounds i true)<=fuel:=by have:=Q4 hI.size h1 h2;omega
  have Q6:∀ L bk fr σ g a w,strict ops L=true->(∃ r,r∈vK listed bk/\r.i=i)->Inv P E n ops listed L bk fr σ->DW P E n ops Q L bk fr σ->Rel E g (jz σ (mS listed bk)) w->FR n g (jH fr (mF listed bk)) a->
    wpOp P ops (LQ E n Q) i (wpAny P .any ops (LQ E n Q) fuel (listed.setIfInBounds i true)) a w:=by
   rintro L bk fr σ g a w hs ⟨r,S9,D2⟩ hI hD hR hF
   exact Q1 hI ho hr S9 D2 hR hF λg' a' w' Kx lq tt=>ih _ L bk fr σ g' a' w' hlf hs Kx hD lq tt
  by_cases HG:i∈L
  ·obtain ⟨L',rq,pn,σ',QX,Kx,hD',lq,tt⟩:=VW ho hr L bk fr σ g a w HG hs hI hD hR hF
   obtain ⟨oc,Q3,hS⟩:=hD'
   rw[ho] at Q3;cases Q3
   cases hh:fO o with
   | true=>
    exact H6 Kx ho hh hr hS lq tt λg2 fr2 σ2 a2 w2 hn hI2 Mw VU=>ih _ L' rq fr2 σ2 g2 a2 w2 hlf (rS QX) hI2 hn Mw VU
   | false=>
    obtain ⟨r,recs2,fr2,σ2,rfl,D2,hn,hI2,Mw,VU⟩:=walk Kx ho hh hS lq tt
    exact Q6 L' _ fr2 σ2 g a w (rS QX) ⟨r,gO.2 ⟨bn,Vi⟩,D2⟩ hI2 hn Mw VU
  ·obtain ⟨hd1,Hg⟩:=hI.done i o ho HG
   cases hh:fO o with
   | true=>rw[hd1 hh] at h2;cases h2
   | false=>
    obtain ⟨r,HH,D2⟩:=Hg hh
    exact Q6 L bk fr σ g a w hs ⟨r,gO.2 ⟨HH,Vi⟩,D2⟩ hI hD hR hF
def ſ {id:Nat} (L:List Nat) (hm:P.follows .mixedOrders=true) (EG:chk ops L=true) (h:DW P E n ops Q L [] fr σ):SW P E n (.region id ops true) Q fr σ:=by
 intro g a w hR hF;simp only[chk,bm,jm,decide_eq_true_eq] at EG;obtain ⟨⟨⟨⟨⟨AO,FF⟩,hin⟩,TO⟩,hstr⟩,_⟩:=EG;have hsm:∀ i o,ops[i]?=some o->∀ e,e∈o.after.toList->Region.binds .any e=true->e.on<i:=λi o ho e he hb=>by
  have hi:i<ops.size:=by
   exact yC9
  have h1:=AO i (by simpa using FF i FZ);exact adf
 have Cx:∀ i,C4 (Array.replicate ops.size false) i=false:=λi=>by
  exact aik
 have hI:Inv P E n ops (Array.replicate ops.size false) L [] fr σ:=
  Inv.mk bn (λi hi=>⟨by simpa using hin i hi,Cx i⟩) (λi o ho hi=>by
    exfalso
    have iy:i<ops.size:=by
     exact yC9
    exact hi (by simpa using FF i (by simpa using iy))) I7 AO M2 (λr _ _ hr=>by cases hr) M2
   (λi j hi HG hj=>ao (by simpa using FF i FZ) HG) TO (λi o _ h=>by rw[Cx i] at h;cases h) I7 I7
   I7 I7 I7 M2
 have h1:mF (Array.replicate ops.size false) []=λ_=>false:=rfl;have h2:mS (Array.replicate ops.size false) []=λ_=>false:=rfl;have h3:jH fr (λ_=>false)=fr:=by simp[jH]
 have h4:jz σ (λ_=>false)=σ:=by funext k;simp[jz]
 refine wp_region_any hm (Q5 hsm ops.size _ L [] fr σ g a _ ?_ hstr hI h ?_ ?_)
 ·exact kt (List.countP_le_length) bn
 ·rw[h2,h4];exact hR.drew
 rw[h1,h3];exact hF
end
section
def mL:List (Nat×AV)->Nat->Option AV
 | [],_=>none
 | (j,v)::l,i=>match Nat.beq i j with
  | true=>some v
  | false=>mL l i
def dJ:List (Nat×cV)->Nat->Option cV
 | [],_=>none
 | (j,v)::l,i=>match Nat.beq i j with
  | true=>some v
  | false=>dJ l i
def bU (l:List (Nat×AV)):Operand->Option AV
 | .tmp t=>mL l t
 | .const v=>some (Sc v)
 | .global _=>some .any
 | .func f=>some (.fn f [] [])
def jY:∀ {l:List (Nat×AV)} {i:Nat} {v:AV},mL l i=some v->tI l i=v
 | [],_,_,h=>by simp[mL] at h
 | (j,w)::l,i,v,h=>by
  simp only[mL] at h;split at h
  ·rename_i q;cases h;have:=lg q;simp[tI,this]
  rename_i q;have hn:i≠j:=λe=>by subst e;simp at q
  simp[tI,hn,jY h]
def fK:∀ {l:List (Nat×cV)} {i:Nat} {v:cV},dJ l i=some v->bW l i=some v
 | [],_,_,h=>by simp[dJ] at h
 | (j,w)::l,i,v,h=>by
  simp only[dJ] at h;split at h
  ·rename_i q;cases h;have:=lg q;simp[bW,vh,this]
  rename_i q;have hn:i≠j:=λe=>by subst e;simp at q
  have:=fK h;simp only[bW] at this;simp[bW,vh,hn,this]
variable {v:AV} {op:Op} {k:IntKind} {c:List PV} {a b:Int} {y:Operand} {i:Int} {m:Nat} {rd:List (Nat×cV)} {pos:String} {af:Array Edge} {g:Nat}
def dX {l:List (Nat×AV)} {ds:List (FuncId×List AV)} (h:bU l x=some v):(cA l ds).val x=v:=by
 cases x with
 | tmp t=>exact jY h
 | const c=>simpa[bU,k9.val] using h
 | global k=>simpa[bU,k9.val] using h
 | func f=>simpa[bU,k9.val] using h
class yR (P:Program) (t:TypeId) (n:outParam Nat):Prop where h:Mb P t=some n:=by kernel_rfl
class oM (P:Program) (t:TypeId) (b:outParam Bool):Prop where h:AN P t=some b:=by kernel_rfl
class T (P:Program) (s:TypeId) (f:Nat) (d:outParam Nat):Prop where h:tfo P s f=some d:=by kernel_rfl
class P6 (P:Program) (t:TypeId) (e:outParam TypeId) (sz:outParam Nat):Prop where h:tel P t=some (e,sz):=by kernel_rfl
class D' (P:Program) (t:TypeId) (k:outParam Nat) (sz:outParam Nat):Prop where h:ZV P t=some (k,sz):=by kernel_rfl
class uP (P:Program) (t:TypeId) (d:outParam TypeDesc):Prop where h:P.underlying t=some d:=by kernel_rfl
class ru (P:Program) (t:TypeId) (z:outParam (List Value)):Prop where h:VE P t=some z:=by kernel_rfl
class lT (P:Program) (t:TypeId) (z:outParam (List Value)) (pl:outParam (List (Nat×Nat))):Prop where h:JB P t=some (z,pl):=by kernel_rfl
class nQ (P:Program) (t:TypeId) (n:Nat) (e sz:outParam Nat) (zs:outParam (List Value)) (pl:outParam (List (Nat×Nat))):Prop where h:Kv P t n=some (e,sz,zs,pl):=by kernel_rfl
class uf (P:Program) (t:TypeId) (sz b:outParam Nat):Prop where h:Df P t=some (sz,b):=by kernel_rfl
structure na (P:Program) (op:Op) (l:List (Nat×AV)) (ds:List (FuncId×List AV)) (s:List (Nat×cV)) (v:AV) (rd:List (Nat×cV)):Prop where
 h:X P op (cA l ds) rd v
 r:∀ p,p∈rd->Cov (bW s) p
section
variable {P:Program} {l:List (Nat×AV)} {ds:List (FuncId×List AV)} {s:List (Nat×cV)}
def na.of (h:X P op (cA l ds) [] v):na P op l ds s v []:=⟨h,λp hp=>by cases hp⟩
def na.on {k:Nat} {e:cV} (hk:dJ s k=some e) (h:X P op (cA l ds) [(k,e)] v):na P op l ds s v [(k,e)]:=
 ⟨h,λp hp=>by simp at hp;subst hp;exact ⟨_,fK hk,nR _⟩⟩
def TF (hx:bU l x=some v):na P (.move x) l ds s v []:=.of (dX (ds:=ds) hx▸Ŷ x)
def Q7 (hx:bU l x=some v):na P (.assign x) l ds s v []:=.of (dX (ds:=ds) hx▸Nc x)
def VZ {c a b:Operand} (hc:bU l c=some (Bo true)) (ha:bU l a=some v):na P (.pick c a b) l ds s v []:=
 .of (by have:=VF (P:=P) (a:=a) (b:=b) (dX (ds:=ds) hc);rw[aL rfl,dX ha] at this;exact this)
def aaa {c a b:Operand} (hc:bU l c=some (Bo false)) (hb:bU l b=some v):na P (.pick c a b) l ds s v []:=
 .of (by have:=VF (P:=P) (a:=a) (b:=b) (dX (ds:=ds) hc);rw[aE bn,dX hb] at this;exact this)
def KJ {k:Nat} (hx:bU l x=some (.ptr k off)):na P (.nilCheck x) l ds s (.ptr k off) []:=.of (Jc kp)
def aeI (hx:bU l x=some (.sp c)):na P (.nilCheck x) l ds s (.sp c) []:=.of (Kr kp)
def aeJ {f:FuncId} {a b:List AV} (hx:bU l x=some (.fn f a b)):na P (.nilCheck x) l ds s (.fn f a b) []:=.of (Ks kp)
def E' {k:Nat} [hf:T P t f d] (hx:bU l x=some (.ptr k off)):na P (.fieldAddr t x f) l ds s (.ptr k (off+d)) []:=.of (Oo hf.h kp)
def aiD [hf:T P t f d] (hx:bU l x=some (.sp c)) (hd:Nat.ble d c.length=true):na P (.fieldAddr t x f) l ds s (.sp (c.drop d)) []:=
 .of (Jd hf.h kp (gq hd))
def KK {k:Nat} {e:cV} [ha:oM P t false] (hx:bU l x=some (.ptr k off)) (hk:dJ s k=some e) (hv:e.cells[off]?=some v) :
 na P (.load t x) l ds s v [(k,e)]:=.on hk (Ew ha.h kp hv)
def Zn {k:Nat} {e:cV} {cs:List AV} [ha:oM P t true] [hz:yR P t n] (hx:bU l x=some (.ptr k off)) (hk:dJ s k=some e) (hn:Nat.ble (off+n) e.cells.length=true) (hc:(e.cells.drop off).take n=cs):na P (.load t x) l ds s (.agg cs) [(k,e)]:=
 .on hk (hc▸QQ hz.h ha.h kp Vg)
def aeK {p:PV} [ha:oM P t false] (hx:bU l x=some (.sp c)) (hv:c[0]?=some p):na P (.load t x) l ds s (.pv p) []:=
 .of (Ku ha.h kp hv)
def aeL [ha:oM P t true] [hz:yR P t n] (hx:bU l x=some (.sp c)) (hn:Nat.ble n c.length=true) :
 na P (.load t x) l ds s (.agg ((c.take n).map .pv)) []:=.of (Kt hz.h ha.h kp Vg)
def ado {b:Bool} (hx:bU l x=some (Bo b)):na P (.unOp .not t x) l ds s (Bo (!b)) []:=.of (aeA kp)
def Q8 {op:BinOp} {r:Bool} (hx:bU l x=some (Sc (.int k a))) (hy:bU l y=some (Sc (.int k b))) (hr:ŷ op a b=some r) :
 na P (.binOp op xt x y yt) l ds s (Bo r) []:=.of (Ÿ kp tY hr)
def aiE {a b:ByS} (hx:bU l x=some (eu a)) (hy:bU l y=some (eu b)):na P (.binOp .eql xt x y yt) l ds s (Bo (a==b)) []:=
 .of (aew kp tY)
def aiF {a b:ByS} (hx:bU l x=some (eu a)) (hy:bU l y=some (eu b)):na P (.binOp .neq xt x y yt) l ds s (Bo (a !=b)) []:=
 .of (aex kp tY)
def Nz {i:Nat} {vs:List AV} (hx:bU l x=some (.mE vs)) (hv:vs[i]?=some v):na P (.extract x i) l ds s v []:=.of (TI kp hv)
end
section
variable {P:Program} {l:List (Nat×AV)} {ds:List (FuncId×List AV)} {s:List (Nat×cV)}
def adp (hx:bU l x=some (I a)) (hy:bU l y=some (I b)) (h:-9223372036854775808<=a+b/\a+b<=9223372036854775807) :
 na P (.binOp .add xt x y yt) l ds s (I (a+b)) []:=.of (aeu kp tY h)
def aiG (hx:bU l x=some (I a)) (hy:bU l y=some (I b)) (h:-9223372036854775808<=a - b/\a - b<=9223372036854775807) :
 na P (.binOp .sub xt x y yt) l ds s (I (a - b)) []:=.of (aev kp tY h)
def aeM {a b:ByS} (hx:bU l x=some (eu a)) (hy:bU l y=some (eu b)) (h:a.length+b.length<=9223372036854775807) :
 na P (.binOp .add xt x y yt) l ds s (eu (a++b)) []:=.of (ź kp tY h)
def aab {cells c':List PV} [ht:P6 P t e sz] (hx:bU l x=some (.pv (.sl m cells))) (hi:bU l ix=some (Sc (.int k i))) (h0:0<=i) (h1:i<m) (h2:i.toNat*sz<=cells.length) (hc:cells.drop (i.toNat*sz)=c'):na P (.indexAddr t x ix) l ds s (.sp c') []:=
 .of (hc▸Jf ht.h kp (dX hi) h0 h1 h2)
def AP [ht:P6 P t e sz] (hx:bU l x=some (.arr kk m)) (hi:bU l ix=some (Sc (.int k i))) (h0:0<=i) (h1:i<m) :
 na P (.indexAddr t x ix) l ds s (.ptr kk (i.toNat*sz)) []:=.of (HY ht.h kp (dX hi) h0 h1)
def Q9 [ht:D' P t m sz] (hx:bU l x=some (.ptr kk off)) (hi:bU l ix=some (Sc (.int k i))) (h0:0<=i) (h1:i<m) :
 na P (.indexAddr t x ix) l ds s (.ptr kk (off+i.toNat*sz)) []:=.of (HZ ht.h kp (dX hi) h0 h1)
def NA {c:ByS} {b:UInt8} [ht:uP P t .string] (hx:bU l x=some (eu c)) (hi:bU l ix=some (Sc (.int k i))) (h0:0<=i) (hb:c[i.toNat]?=some b):na P (.index t x ix) l ds s (Sc (.int .u8 b.toNat)) []:=.of (Xx ht.h kp (dX hi) h0 hb)
def aiH {k':IntKind} {j:Int} {c:ByS} [ht:uP P t .string] (hx:bU l x=some (eu c)) (hl:bU l lo=some (Sc (.int k i))) (hh:bU l hi=some (Sc (.int k' j))) (h0:0<=i) (h1:i<=j) (h2:j<=c.length):na P (.slice t x (some lo) (some hi) none) l ds s (eu ((c.drop i.toNat).take (j.toNat - i.toNat))) []:=
 .of (Xy ht.h kp (dX hl) (dX hh) h0 h1 h2)
def JD {c:ByS} [ht:uP P t .string] (hx:bU l x=some (eu c)) (hl:bU l lo=some (Sc (.int k i))) (h0:0<=i) (h2:i<=c.length):na P (.slice t x (some lo) none none) l ds s (eu (c.drop i.toNat)) []:=.of (Ou ht.h kp (dX hl) h0 h2)
def aac {j:Int} {c:ByS} [ht:uP P t .string] (hx:bU l x=some (eu c)) (hh:bU l hi=some (Sc (.int k j))) (h0:0<=j) (h2:j<=c.length):na P (.slice t x none (some hi) none) l ds s (eu (c.take j.toNat)) []:=.of (Ov ht.h kp (dX hh) h0 h2)
def KM {c:ByS} [ht:uP P t .string] (hx:bU l x=some (eu c)):na P (.call ⟨.builtin .len,#[x],#[t]⟩) l ds s (I c.length) []:=.of (Ż ht.h kp)
def OI [ht:P6 P t e sz] (hx:bU l x=some (.pv (.sl m c))):na P (.call ⟨.builtin .len,#[x],#[t]⟩) l ds s (I m) []:=
 .of (Z2 (JA ht.h).1 kp)
def Ra {k:Nat} [ht:P6 P t e sz] (hx:bU l x=some (.arr k m)):na P (.call ⟨.builtin .len,#[x],#[t]⟩) l ds s (I m) []:=
 .of (Xz (JA ht.h).1 kp)
def F' [ht:P6 P t e sz] (hx:bU l x=some (Sc (.slice none 0 m))):na P (.call ⟨.builtin .len,#[x],#[t]⟩) l ds s (I 0) []:=
 .of (XA (JA ht.h).1 kp)
def aiI (hx:bU l x=some (Sc (.int k a))) (hy:bU l y=some (Sc (.int k b))) :
 na P (.call ⟨.builtin .min,#[x,y],ts⟩) l ds s (Sc (.int k (if b<a then b else a))) []:=.of (aeB kp tY)
def aiJ (hx:bU l x=some (Sc (.int k a))) (hy:bU l y=some (Sc (.int k b))) :
 na P (.call ⟨.builtin .max,#[x,y],ts⟩) l ds s (Sc (.int k (if b>a then b else a))) []:=.of (aeC kp tY)
def GM {parts:List (Nat×Operand)} {z:List Value} {pl:List (Nat×Nat)} {pv:List (Nat×AV)} {out:List AV} [ht:lT P t z pl] (hp:parts.mapM (λp=>(bU l p.2).map λv=>(p.1,v))=some pv) (h:nW pl (z.map λv=>.pv (.sc v)) pv=some out):na P (.build t parts.toArray) l ds s (.agg out) []:=by
 refine .of (Z4 ht.h ?_);have key:∀ (ps:List (Nat×Operand)) (pv:List (Nat×AV)),ps.mapM (λp=>(bU l p.2).map λv=>(p.1,v))=some pv->(ps.map λp=>(p.1,(cA l ds).val p.2))=pv:=by
  intro ps
  induction ps with
  | nil=>intro pv h;simp at h;simp[h]
  | cons p ps ih=>
   intro pv h
   rw[xO] at h
   cases hv:bU l p.2 with
   | none=>simp[hv] at h
   | some v=>
    cases hr:ps.mapM (λp=>(bU l p.2).map λv=>(p.1,v)) with
    | none=>simp[hv,hr] at h
    | some r=>
     exact ZR
 rw[key parts pv hp];exact h
def aad {el:TypeId} {k:Nat} [ht:uP P xt (.pointer el)] (hx:bU l x=some (.ptr k off)) (hy:bU l y=some (Sc (.pointer none))):na P (.binOp .eql xt x y yt) l ds s (Bo false) []:=
 .of (ZY ht.h kp tY)
def aae {el:TypeId} [ht:uP P xt (.pointer el)] (hx:bU l x=some (Sc (.pointer none))) (hy:bU l y=some (Sc (.pointer none))):na P (.binOp .eql xt x y yt) l ds s (Bo true) []:=
 .of (Z0 ht.h kp tY)
def aaf {el:TypeId} {k:Nat} [ht:uP P xt (.pointer el)] (hx:bU l x=some (.ptr k off)) (hy:bU l y=some (Sc (.pointer none))):na P (.binOp .neq xt x y yt) l ds s (Bo true) []:=
 .of (ZZ ht.h kp tY)
def aag {el:TypeId} [ht:uP P xt (.pointer el)] (hx:bU l x=some (Sc (.pointer none))) (hy:bU l y=some (Sc (.pointer none))):na P (.binOp .neq xt x y yt) l ds s (Bo false) []:=
 .of (Z1 ht.h kp tY)
def aiK {a b:Bool} [ht:uP P xt .bool] (hx:bU l x=some (Bo a)) (hy:bU l y=some (Bo b)):na P (.binOp .eql xt x y yt) l ds s (Bo (a==b)) []:=
 .of (aey ht.h kp tY)
def aiL {a b:Bool} [ht:uP P xt .bool] (hx:bU l x=some (Bo a)) (hy:bU l y=some (Bo b)):na P (.binOp .neq xt x y yt) l ds s (Bo (a !=b)) []:=
 .of (aez ht.h kp tY)
end
section
variable {P:Program} {E:Env} {Q:gJ} {l:List (Nat×AV)} {ds:List (FuncId×List AV)} {s:List (Nat×cV)}
def fg (h:na P op l ds s v rd) (hd:Nat.blt d n=true) (hn:SL P E n ops Q rest (cA ((d,v)::l) ds) (bW s)):SL P E n ops Q (⟨some d,op,ty,pos,af,none⟩::rest) (cA l ds) (bW s):=
 rn rfl (Oz h.h h.r Xp hn)
def aeN (hj:(ops[j]?).bind (·.dst)=some g/\mL l g=some (Bo want)) (h:na P op l ds s v rd) (hd:Nat.blt d n=true) (hn:SL P E n ops Q rest (cA ((d,v)::l) ds) (bW s)):SL P E n ops Q (⟨some d,op,ty,pos,af,some (j,want)⟩::rest) (cA l ds) (bW s):=
 G8 rfl hj.1 (jY hj.2) Xp (λ_=>Oz h.h h.r Xp hn) (λq=>ao rfl q)
def aiM {b:Bool} (h:(ops[j]?).bind (·.dst)=some g/\mL l g=some (Bo b)/\(b==want)=false) (hd:Nat.blt d n=true) (hn:SL P E n ops Q rest (cA ((d,Sc undef)::l) ds) (bW s)):SL P E n ops Q (⟨some d,op,ty,pos,af,some (j,want)⟩::rest) (cA l ds) (bW s):=
 G8 rfl h.1 (jY h.2.1) Xp (λq=>by have:=h.2.2;subst q;simp at this) (λ_=>hn)
def aiN (h:(ops[j]?).bind (·.dst)=some g/\mL l g=some (Sc undef)) (hd:Nat.blt d n=true) (hn:SL P E n ops Q rest (cA ((d,Sc undef)::l) ds) (bW s)):SL P E n ops Q (⟨some d,op,ty,pos,af,some (j,want)⟩::rest) (cA l ds) (bW s):=
 aeE rfl h.1 (jY h.2) (by simp[undef]) Xp hn
def H7 {c:List AV} (nm:Nat) (hE:E.fix nm=none) (h:bU l x=some v/\v.jG=some c/\AV.jh.kJ nm c=false/\mW nm l=false/\ko nm ds=false/\qb nm s=false/\AV.p9 c=true) (hd:Nat.blt d n=true) (hn:SL P E n ops Q rest (cA ((d,.ptr nm 0)::l) ds) (bW ((nm,.box c)::s))) :
  SL P E n ops Q (⟨some d,.box t x,ty,pos,af,none⟩::rest) (cA l ds) (bW s):=
 rn rfl (JC (aeD nm (by rw[dX h.1];exact h.2.1) h.2.2.2.2.2.2 h.2.2.1) (uA h.2.2.2.1 h.2.2.2.2.1) (Ay h.2.2.2.2.2.1) hE Xp hn)
end
end
section
def zU (l:List (Nat×AV)):List Operand->Option (List AV)
 | []=>some []
 | x::xs=>match bU l x,zU l xs with
  | some v,some vs=>some (v::vs)
  | _,_=>none
variable {l:List (Nat×AV)} {ds:List (FuncId×List AV)} {p:Nat->Bool} {es:List cV} {s:List (Nat×cV)}
def C7:∀ {xs:List Operand} {vs:List AV},zU l xs=some vs->xs.map (cA l ds).val=vs
 | [],_,h=>by simp[zU] at h;simp[h]
 | x::xs,vs,h=>by
  simp only[zU] at h;split at h
  ·rename_i v vs' hv hvs;cases h;simp[dX hv,C7 hvs]
  cases h
mutual
def CF {π:Nat->Nat}:∀ {v:AV},v.only (λ_=>false)=true->v.mh π=v
 | .any,_=>rfl
 | .oc,_=>rfl
 | .pv _,_=>rfl
 | .ptr _ _,h=>by simp[AV.only] at h
 | .arr _ _,h=>by simp[AV.only] at h
 | .sp _,_=>rfl
 | .fn f xs ys,h=>by simp only[AV.only,bm] at h;simp only[AV.mh,CG h.1,CG h.2]
 | .agg cs,h=>by simp only[AV.only] at h;simp only[AV.mh,CG h]
 | .mE cs,h=>by simp only[AV.only] at h;simp only[AV.mh,CG h]
 | .vV t v,h=>by simp only[AV.only] at h;simp only[AV.mh,CF h]
def CG {π:Nat->Nat}:∀ {v:List AV},AV.only.tz (λ_=>false) v=true->AV.mh.ud π v=v
 | [],_=>rfl
 | x::xs,h=>by simp only[AV.only.tz,bm] at h;simp only[AV.mh.ud,CF h.1,CG h.2]
end
def BD {a b:Nat}:Nat.blt a b=true↔a<b:=by rw[ta]
def gK:Nat->List cV->List (Nat×cV)
 | _,[]=>[]
 | i,e::es=>(i,e)::gK (i+1) es
def tK:List Nat->List cV->List (Nat×cV)
 | k::ks,e::es=>(k,e)::tK ks es
 | _,_=>[]
def AQ (s:List (Nat×cV)):List Nat->Option (List cV)
 | []=>some []
 | k::ks=>match dJ s k,AQ s ks with
  | some e,some es=>some (e::es)
  | _,_=>none
def nodupB:List Nat->Bool
 | []=>true
 | k::ks=>!ks.any (Nat.beq k)&&nodupB ks
def qd (π:Nat->Nat):List cV->List cV
 | []=>[]
 | e::es=>e.mh π::qd π es
def cV.oq (p:Nat->Bool):cV->Bool
 | .app _ _ _=>true
 | .box cs=>AV.only.tz p cs
 | .arr _ _ _=>true
def Hh (p:Nat->Bool):∀ l:List PV,AV.only.tz p (l.map .pv)=true
 | []=>rfl
 | x::l=>by simp[AV.only.tz,AV.only,Hh p l]
def cV.aah:∀ {e:cV},e.oq p=true->AV.only.tz p e.cells=true
 | .app _ _ c,_=>Hh p c
 | .box _,h=>h
 | .arr _ _ c,_=>Hh p c
def qe (p:Nat->Bool):List cV->Bool
 | []=>true
 | e::es=>e.oq p&&qe p es
def nth:List Nat->Nat->Nat
 | [],_=>0
 | k::_,0=>k
 | _::ks,j+1=>nth ks j
def below (m:Nat):Nat->Bool:=λj=>Nat.blt j m
def pQ:∀ {es:List cV} {i j:Nat} {e:cV},bW (gK i es) j=some e->i<=j/\es[j - i]?=some e
 | [],_,_,_,h=>by cases h
 | a::es,i,j,e,h=>by
  simp only[gK,bW,vh] at h;split at h
  ·rename_i q;cases h;subst q;simp
  rename_i q;obtain ⟨h1,h2⟩:=pQ (es:=es) (i:=i+1) h;refine ⟨aB,?_⟩;rw[show j - i=(j - (i+1))+1 by omega];simpa using h2
def AJ:∀ {i j:Nat} {e:cV},es[j]?=some e->bW (gK i es) (i+j)=some e:=by
 induction es with
 | nil=>intro i j e h;simp at h
 | cons a es ih=>
  intro i j e h
  cases j with
  | zero=>simp at h;simp[gK,bW,vh,h]
  | succ j=>
   have:=ih (i:=i+1) (j:=j) jg
   simp only[bW] at this
   simp only[gK,bW,vh]
   rw[aE aB,show i+(j+1)=i+1+j by omega];exact this
def Bw:∀ {ks:List Nat},nodupB ks=true->∀ {i j:Nat},i<ks.length->j<ks.length->nth ks i=nth ks j->i=j:=by
 have mem:∀ {ks:List Nat} {j:Nat},j<ks.length->nth ks j∈ks:=by
  intro ks
  induction ks with
  | nil=>intro j h;simp at h
  | cons k ks ih=>
   intro j h
   cases j with
   | zero=>simp[nth]
   | succ j=>simp only[nth];exact th _ (ih jg)
 intro ks
 induction ks with
 | nil=>intro _ i j h;simp at h
 | cons k ks ih=>
  intro h i j hi hj he
  simp only[nodupB,bm,fD] at h
  have hk:∀ j,j<ks.length->nth ks j≠k:=λj hj q=>by
   have h1:=mem hj;rw[q] at h1;have:ks.any (Nat.beq k)=true:=mX.2 ⟨k,h1,bn⟩;rw[h.1] at this;cases this
  cases i with
  | zero=>
   cases j with
   | zero=>rfl
   | succ j=>simp only[nth] at he;exact ao he.symm (hk j BA)
  | succ i=>
   cases j with
   | zero=>simp only[nth] at he;exact ao he (hk i FZ)
   | succ j=>simp only[nth] at he;rw[ih h.2 FZ BA he]
def AR:∀ {ks:List Nat} {es:List cV},AQ s ks=some es->es.length=ks.length/\∀ j e,es[j]?=some e->bW s (nth ks j)=some e
 | [],_,h=>by simp[AQ] at h;simp[h]
 | k::ks,es,h=>by
  simp only[AQ] at h;split at h
  ·rename_i e es' he hes;cases h;obtain ⟨h1,h2⟩:=AR hes;refine ⟨by simp[h1],λj e' hj=>?_⟩;cases j with
   | zero=>simp at hj;subst hj;exact fK he
   | succ j=>exact h2 j e' BA
  cases h
def G1 (π:Nat->Nat):∀ {es:List cV} {j:Nat},(qd π es)[j]?=(es[j]?).map (cV.mh π)
 | [],_=>by simp[qd]
 | e::es,0=>by simp[qd]
 | e::es,j+1=>by simp[qd,G1 π (es:=es)]
def sZ (π:Nat->Nat):∀ es:List cV,(qd π es).length=es.length
 | []=>rfl
 | _::es=>by simp[qd,sZ π es]
def G3:∀ {es:List cV},qe p es=true->∀ {j:Nat} {e:cV},es[j]?=some e->AV.only.tz p e.cells=true
 | [],_,j,e,h=>by simp at h
 | a::es,h,0,e,he=>by simp only[qe,bm] at h;simp at he;subst he;exact cV.aah h.1
 | a::es,h,j+1,e,he=>by simp only[qe,bm] at h;exact G3 h.2 DN
def EH (k:Nat) (ks:List Nat):List (Nat×cV)->Bool
 | []=>false
 | (j,e)::s=>(!ks.any (Nat.beq j)&&e.mq k)||EH k ks s
def P0 (l:List (Nat×AV)) (ds:List (FuncId×List AV)) (s:List (Nat×cV)) (ks0:List Nat):List Nat->List cV->Bool
 | _::ks,.box _::es=>P0 l ds s ks0 ks es
 | k::ks,_::es=>!mW k l&&!ko k ds&&!EH k ks0 s&&P0 l ds s ks0 ks es
 | _,_=>true
def FG (E:Env):List Nat->List cV->Prop
 | _::ks,.box _::es=>FG E ks es
 | k::ks,_::es=>E.fix k=none/\FG E ks es
 | _,_=>True
variable {ks:List Nat}
def Dd:∀ {s:List (Nat×cV)},EH k ks s=false->∀ j e,ks.any (Nat.beq j)=false->bW s j=some e->AV.jh.kJ k e.cells=false
 | [],_,j,e,_,h=>by cases h
 | (i,v)::s,h,j,e,hj,he=>by
  simp only[EH,lS] at h;simp only[bW,vh] at he;split at he
  ·rename_i q;cases he;subst q;exact cV.OD (by simpa[hj] using h.1)
  exact Dd h.2 j e hj he
def Oh {E:Env} {ks0:List Nat}:∀ {ks:List Nat} {es:List cV},P0 l ds s ks0 ks es=true->FG E ks es->∀ {j:Nat} {e:cV},
  j<ks.length->es[j]?=some e->(∃ cs,e=.box cs)\/(mW (nth ks j) l=false/\ko (nth ks j) ds=false/\EH (nth ks j) ks0 s=false/\E.fix (nth ks j)=none)
 | [],_,_,_,j,e,hj,_=>by simp at hj
 | _::_,[],_,_,j,e,_,he=>by simp at he
 | k::ks,.box cs::es,h,hf,0,e,_,he=>by simp at he;exact .inl ⟨cs,he.symm⟩
 | k::ks,.box cs::es,h,hf,j+1,e,hj,he=>Oh (ks:=ks) (es:=es) h hf BA DN
 | k::ks,.arr _ _ _::es,h,hf,0,e,_,he=>by
  exact adk
 | k::ks,.arr _ _ _::es,h,hf,j+1,e,hj,he=>by
  exact aiA
 | k::ks,.app _ _ _::es,h,hf,0,e,_,he=>by
  exact adk
 | k::ks,.app _ _ _::es,h,hf,j+1,e,hj,he=>by
  exact aiA
def OJ:∀ {ks:List Nat} {es:List cV},es.length=ks.length->nodupB ks=true->∀ k,
  bW (tK ks es++s) k=match (List.range ks.length).find? (λj=>nth ks j==k) with|some j=>es[j]?|none=>bW s k:=by
 intro ks
 induction ks with
 | nil=>intro es _ _ k;cases es<;>simp[tK]
 | cons a ks ih=>
  intro es hl hn k
  cases es with
  | nil=>simp at hl
  | cons e es=>
   simp only[nodupB,bm] at hn
   have hr:List.range (a::ks).length=0::(List.range ks.length).map (·+1):=by
    rw[j6,List.range_succ_eq_map]
   rw[hr]
   simp only[List.find?_cons,nth]
   by_cases q:a=k
   ·subst q;simp[tK,bW,vh]
   ·have q':(a==k)=false:=by simpa using q
    have:=ih (es:=es) (by simpa using hl) hn.2 k
    simp only[bW] at this
    simp only[q',tK,mY,bW,vh]
    rw[aE (λh=>q h.symm),this]
    rw[List.find?_map]
    have:((λj=>nth (a::ks) j==k) ∘ (·+1))=λj=>nth ks j==k:=by funext j;simp[nth]
    rw[this]
    cases (List.range ks.length).find? (λj=>nth ks j==k)<;>simp
def zh {X:Type} (V:X->AV) (C:X->List cV) (G:X->Prop) (H:AV->Prop):G7->fC->Prop:=
 λae σ=>(∃ x,G x/\ae=.ret (V x)/\σ=bW (gK 0 (C x)))\/(∃ v,H v/\ae=.panic v/\σ=bW [])
def Vv (h:(List.range ks.length).any (λi=>nth ks i==k)=false):ks.any (Nat.beq k)=false:=by
 rw[sw] at h ⊢;intro x hx q;obtain ⟨i,hi,rfl⟩:=rk hx;have key:∀ (ks:List Nat) (i:Nat) (h:i<ks.length),nth ks i=ks[i]:=by
  intro ks
  induction ks with
  | nil=>intro i h;simp at h
  | cons a ks ih=>
   intro i h
   cases i with
   | zero=>rfl
   | succ i=>simp only[nth];exact ih i jg
 refine h i FZ ?_;rw[key ks i hi];have:=lg q;simp[this]
section
variable {P:Program} {E:Env} {Q:gJ}
structure vL (E:Env) (ds:List (FuncId×List AV)) (l:List (Nat×AV)) (s:List (Nat×cV)) (ks:List Nat) (f:Operand) (args:List Operand) (kC:FuncId) (fS:List AV) (es:List cV) (first cap vs:List AV) (l':List (Nat×AV):=l):Prop where
 f:bU l f=some (.fn kC first cap)
 a:zU l args=some vs
 e:first++vs++cap=AV.mh.ud (nth ks) fS
 gs:AQ s ks=some (qd (nth ks) es)
 nd:nodupB ks=true
 bx:P0 l' ds s ks ks es=true
 fx:FG E ks es
variable {X:Type} {V:X->AV} {C:X->List cV} {G:X->Prop} {H:AV->Prop} {f:Operand} {kC:FuncId} {fS first cap vs:List AV} {next:k9->fC->Prop}
def KN {l':List (Nat×AV)} (hwk:(cA l ds).le (cA l' ds)) (ks:List Nat) (wu:Enters P kC) (ho:o.op=.call ⟨.value f,args.toArray,ts⟩) (hC:SC P kC fS (bW (gK 0 es)) (zh V C G H)) (hk:vL E ds l s ks f args kC fS es first cap vs l') (hd:∀ d,o.dst=some d->d<n) (hx:∀ x,G x->(C x).length=ks.length/\qe (below ks.length) (C x)=true/\(V x).only (below ks.length)=true) (oB:∀ x,G x->next ((cA l' ds).qv o.dst ((V x).mh (nth ks))) (bW (tK ks (qd (nth ks) (C x))++s))) (wm:∀ v,H v->v.only (λ_=>false)=true/\Q (.panic v) (cA l' ds) (after (bW s) (nth ks) (List.range ks.length) [] (bW []))):Step P E n Q o (cA l ds) (bW s) next:=by
 obtain ⟨hl,Km⟩:=AR hk.gs;rw[sZ] at hl;have hcon:∀ j,(List.range ks.length).contains j=below ks.length j:=λj=>by
  exact ahS
 have Vx:(List.range ks.length).contains=below ks.length:=funext hcon;have hltr:∀ j,below ks.length j=true->j<ks.length:=λj h=>BD.1 h;have vX:∀ j,(bW (gK 0 es) j).isSome=true->j<ks.length:=λj hj=>by
  cases q:bW (gK 0 es) j with
  | none=>rw[q] at hj;cases hj
  | some e=>
   obtain ⟨_,h2⟩:=pQ q
   have:=(an.1 h2).1
   simp at this;omega
 refine KE hwk (nth ks) (List.range ks.length) wu ho (dX hk.f) U0 hC (λj hj=>by simpa using vX j hj) (λj e hj=>?_)
  (λj j' hj zT he=>Bw hk.nd (vX j hj) (vX j' zT) he) hd (λv σc hr=>?_) (λv σc hr=>?_)
 ·exact ZN
 ·rcases hr with ⟨x,hg,he,rfl⟩|⟨_,_,he,_⟩
  ·cases he;obtain ⟨h1,h2,h3⟩:=hx x hg;refine ⟨List.range ks.length,{ dom:=λj e hj=>?_,val:=by rw[Vx];exact h3,inj:=λj j' hj zT he=>Bw hk.nd BA Vu he,same:=λj hj=>?_ },?_⟩
   ·exact ait
   ·exact ahQ
   have:after (bW s) (nth ks) (List.range ks.length) (List.range ks.length) (bW (gK 0 (C x)))=bW (tK ks (qd (nth ks) (C x))++s):=by
    funext k;rw[OJ Ve hk.nd];simp only[after];cases hf:(List.range ks.length).find? (λj=>nth ks j==k) with
    | some j=>
     exact ah7
    | none=>
     exact aep
   rw[this];exact oB x hg
  cases he
 rcases hr with ⟨_,_,he,_⟩|⟨v',hh,he,rfl⟩
 ·cases he
 cases he;obtain ⟨h1,h2⟩:=wm v hh;refine ⟨[],{ dom:=λj e hj=>(by cases hj),val:=?_,inj:=λj _ hj=>(by simp at hj),same:=λj hj=>(by simp at hj) },?_⟩
 ·have:([]:List Nat).contains=λ_=>false:=by funext k;simp
  rw[this];exact h1
 rw[CF h1];exact h2
def XH (ks:List Nat) (wu:Enters P kC) (ho:o.op=.call ⟨.value f,args.toArray,ts⟩) (hC:SC P kC fS (bW (gK 0 es)) (zh V C G H)) (hk:vL E ds l s ks f args kC fS es first cap vs) (hd:∀ d,o.dst=some d->d<n) (hx:∀ x,G x->(C x).length=ks.length/\qe (below ks.length) (C x)=true/\(V x).only (below ks.length)=true) (oB:∀ x,G x->next ((cA l ds).qv o.dst ((V x).mh (nth ks))) (bW (tK ks (qd (nth ks) (C x))++s))) (wm:∀ v,H v->v.only (λ_=>false)=true/\Q (.panic v) (cA l ds) (after (bW s) (nth ks) (List.range ks.length) [] (bW []))):Step P E n Q o (cA l ds) (bW s) next:=
 KN Vd ks wu ho hC hk hd hx oB wm
end
end
section
variable {P:Program} {E:Env} {Q:gJ} {l:List (Nat×AV)} {ds:List (FuncId×List AV)} {s:List (Nat×cV)}
 {ty:TypeId} {pos:String} {af:Array Edge}
variable {m:Nat} {e:cV} {v:AV} {X:Type} {V:X->AV} {C:X->List cV} {G:X->Prop} {H:AV->Prop} {es:List cV} {fn:Func}
def Ob {n:Nat} (h:Nat.blt d n=true):∀ x,some d=some x->x<n:=λx hx=>by cases hx;exact BD.1 h
def lY {z:List Value} [hz:ru P t z] {zs:List AV} (nm:Nat) (hE:E.fix nm=none) (h:z.map (λv=>AV.pv (.sc v))=zs/\mW nm l=false/\ko nm ds=false/\qb nm s=false) (hd:Nat.blt d n=true) (hn:SL P E n ops Q rest (cA ((d,.ptr nm 0)::l) ds) (bW ((nm,.box zs)::s))):SL P E n ops Q (⟨some d,.alloc t,ty,pos,af,none⟩::rest) (cA l ds) (bW s):=
 rn rfl (JC (QV nm hz.h) (uA h.2.1 h.2.2.1) (Ay h.2.2.2) hE B3 (by rw[h.1];exact hn))
variable {y:Operand} {c:List AV}
def Rb:List AV->Nat->List AV->List AV
 | cs,0,v=>ovl cs v
 | [],_+1,_=>[]
 | c::cs,k+1,v=>c::Rb cs k v
where
 ovl:List AV->List AV->List AV
  | cs,[]=>cs
  | [],_::_=>[]
  | _::cs,v::vs=>v::ovl cs vs
def G':∀ {cs v:List AV},v.length<=cs.length->Rb.ovl cs v=v++cs.drop v.length
 | cs,[],_=>by simp[Rb.ovl]
 | [],_::_,h=>by simp at h
 | c::cs,v::vs,h=>by simp[Rb.ovl,G' (cs:=cs) (v:=vs) jg]
def V0:∀ {cs:List AV} {off:Nat} {v:List AV},off+v.length<=cs.length->Rb cs off v=cs.take off++v++cs.drop (off+v.length)
 | cs,0,v,h=>by simp[Rb,G' (cs:=cs) (v:=v) jg]
 | [],k+1,v,h=>by simp at h
 | c::cs,k+1,v,h=>by
  simp only[Rb];rw[V0 (cs:=cs) (off:=k) (v:=v) (by simp at h;omega)];simp[show k+1+v.length=(k+v.length)+1 by omega]
def cV.put (off:Nat) (v:List AV):cV->cV
 | .box cs=>.box (Rb cs off v)
 | e=>e
def cV.F5:cV->Bool
 | .box _=>true
 | _=>false
def put_eq {v:List AV} (hb:e.F5=true) (h:off+v.length<=e.cells.length):e.Xw off v=e.put off v:=by
 cases e with
 | box cs=>simp only[cV.Xw,cV.put];rw[V0 (cs:=cs) h]
 | arr el sz cs=>cases hb
 | app el sz cs=>cases hb
def H8 (h:e.F5=true):e.isApp=false:=by cases e<;>first|rfl|cases h
def H9 {p:Prop} (h:e.F5=true) (q:e.Z7=true):p:=by cases e with|box _=>cases q|arr _ _ _=>cases h|app _ _ _=>cases h
def Rc [ht:yR P t m] (h:bU l x=some (.ptr k off)/\dJ s k=some e/\e.F5=true/\bU l y=some v/\v.jG=some c/\AV.p9 c=true/\c.length=m/\Nat.ble (off+c.length) e.cells.length=true) (hn:∀ e',e.put off c=e'->SL P E n ops Q rest (cA l ds) (bW ((k,e')::s))):SL P E n ops Q (⟨none,.store t x y,ty,pos,af,none⟩::rest) (cA l ds) (bW s):=by
 obtain ⟨hx,hk,Cw,hy,hc,h1,hm,hl⟩:=h;have Ms:=gq hl;refine rn rfl (De rfl rfl kp M8 (H8 Cw) ZH h1 U5 Ms (H9 Cw) ?_);rw[put_eq Cw Ms];exact hn _ rfl
def adq {e:TypeId} {sz:Nat} {parts:List (Nat×Operand)} {zs:List Value} {pl:List (Nat×Nat)} {pv:List (Nat×AV)} {cells:List PV} [ht:nQ P t m e sz zs pl] (h:parts.mapM (λp=>(bU l p.2).map λv=>(p.1,v))=some pv/\nW pl (zs.map λv=>.pv (.sc v)) pv=some (cells.map .pv)) (hd:Nat.blt d n=true) (hn:SL P E n ops Q rest (cA ((d,.pv (.sl m cells))::l) ds) (bW s)):SL P E n ops Q (⟨some d,.buildSlice t m parts.toArray,ty,pos,af,none⟩::rest) (cA l ds) (bW s):=by
 refine rn rfl (VM (B6 ht.h ?_) B3 hn);have key:∀ (ps:List (Nat×Operand)) (pv:List (Nat×AV)),ps.mapM (λp=>(bU l p.2).map λv=>(p.1,v))=some pv->(ps.map λp=>(p.1,(cA l ds).val p.2))=pv:=by
  intro ps
  induction ps with
  | nil=>intro pv h;simp at h;simp[h]
  | cons p ps ih=>
   intro pv h
   rw[xO] at h
   cases hv:bU l p.2 with
   | none=>simp[hv] at h
   | some v=>
    cases hr:ps.mapM (λp=>(bU l p.2).map λv=>(p.1,v)) with
    | none=>simp[hv,hr] at h
    | some r=>
     exact ZR
 rw[key parts pv h.1];exact h.2
variable {vs:List AV}
def TP {fr:k9} {σ:fC} (hd:fr.ds=[]) (h:H v):wo P fn (zh V C G H) (.panic v) fr σ:=
 ⟨hd,bW [],λk e hk=>(by cases hk),.inr ⟨v,h,rfl,rfl⟩⟩
def Rd (h:∀ j e,es[j]?=some e->dJ s j=some e):∀ k e,bW (gK 0 es) k=some e->bW s k=some e:=λk e hk=>by
 obtain ⟨_,h2⟩:=pQ hk;exact fK (h k e xq)
def Ia (s:List (Nat×cV)):Nat->List cV->Prop
 | _,[]=>True
 | i,e::es=>dJ s i=some e/\Ia s (i+1) es
def Ib:∀ {es:List cV} {i:Nat},Ia s i es->∀ j e,es[j]?=some e->dJ s (i+j)=some e
 | [],_,_,j,e,h=>by simp at h
 | a::es,i,h,0,e,he=>by simp at he;subst he;exact h.1
 | a::es,i,h,j+1,e,he=>by
  have:=Ib h.2 j e DN;rw[show i+(j+1)=i+1+j by omega];exact this
def Cr {ae:Ns} (Ta:ae=.ret\/ae=.normal) (x:X) (hr:P4 P (cA l []) (bW s) fn.results.toList vs) (hg:G x) (hle:(yY vs).le (V x)) (hm:Ia s 0 (C x)):wo P fn (zh V C G H) ae (cA l []) (bW s):=by
 have h:(cA l []).ds=[]/\∃ vs v σ',P4 P (cA l []) (bW s) fn.results.toList vs/\(yY vs).le v/\(∀ k e,σ' k=some e->bW s k=some e)/\zh V C G H (.ret v) σ':=
  ⟨rfl,vs,V x,bW (gK 0 (C x)),hr,hle,Rd (λj e hj=>by have:=Ib hm j e hj;simpa using this),.inl ⟨x,hg,rfl,rfl⟩⟩
 rcases Ta with rfl|rfl
 ·exact h
 exact h
def C5 {t:Nat} (h:mL l t=some v):RV P (cA l ds) (bW s) (.tmp t) v:=by rw[<- jY h];exact .tmp t
variable {a:Nat}
def tX {cs:List AV} [ht:yR P t m] [ha:oM P t true] (hk:mL l a=some (.ptr k 0)) (hs:dJ s k=some (.box cs)) (hm:cs.length=m) :
 RV P (cA l ds) (bW s) (.cell a t) (.agg cs):=.agg (jY hk) (fK hs) U5 ha.h
def JX {c:AV} [ha:oM P t false] (hk:mL l a=some (.ptr k 0)) (hs:dJ s k=some (.box [c])):RV P (cA l ds) (bW s) (.cell a t) c:=.one (jY hk) (fK hs) ha.h
def KO (args:List AV):(⟨λi=>args[i]?.getD .any,[]⟩:k9)=cA ((List.range args.length).zip args) []:=by
 simp only[cA,k9.mk.injEq,and_true];funext i;have key:∀ (l:List AV) (k i:Nat),tI ((List.range' k l.length).zip l) (k+i)=l[i]?.getD .any:=by
  intro l
  induction l with
  | nil=>intro k i;simp[tI]
  | cons a l ih=>
   intro k i
   simp only[j6,List.range'_succ,List.zip_cons_cons,tI]
   cases i with
   | zero=>simp
   | succ i=>
    rw[aE aB,show k+(i+1)=k+1+i by omega,ih];simp
 have:=key args 0 i;rw[List.range_eq_range'];simpa using this.symm
def fu:List cV->Nat->Bool
 | [],_=>true
 | .box _::_,0=>false
 | _::_,0=>true
 | _::es,k+1=>fu es k
def aai {f:FuncId} {c:Code} {args:List AV} {R:G7->fC->Prop} (hf:P.funcs[f]?=some fn) (hb:fn.body=some c) (hn:Nat.ble args.length fn.ntmps=true) (h:∀ E:Env,(∀ k,fu es k=true->E.fix k=none)->SW P E fn.ntmps c (wo P fn R) (cA ((List.range args.length).zip args) []) (bW (gK 0 es))):SC P f args (bW (gK 0 es)) R:=
 Z9 hf hb Vg λE hE=>by
  rw[KO];refine h E λk hk=>hE k λcs xJ=>?_;exact ahK
end
section
variable {P:Program} {E:Env} {Q:gJ}
abbrev DX (P:Program) (E:Env) (n:Nat) (ops:Array Oper) (Q:gJ) (x y:Nat):List Nat->List Rec->k9->fC->Prop:=pq P E n ops Q λbk fr σ=>DW P E n ops Q [x,y] bk fr σ/\DW P E n ops Q [y,x] bk fr σ
variable {x y:Nat} {fr:k9} {σ:fC}
def Inv.swap {bk:List Rec} (h:Inv P E n ops listed [x,y] bk fr σ) (hp:wD ops [y,x]=true):Inv P E n ops listed [y,x] bk fr σ:=
 {
  size:=h.size
  todo:=λi hi=>h.todo i (by simp at hi ⊢;exact hi.symm)
  done:=λi o ho hi=>h.done i o ho (by simp at hi ⊢;exact ⟨hi.2,hi.1⟩)
  rj:=λr hr=>by
   obtain ⟨h1,h2⟩:=h.rj r hr;exact ⟨by simp at h1 ⊢;exact ⟨h1.2,h1.1⟩,h2⟩
  KH:=λi hi=>h.KH i (by simp at hi ⊢;exact hi.symm)
  apart:=h.apart,names:=h.names,Nw:=h.Nw
  Kq:=λi j hi HG hj=>h.Kq i j hi (by simp at HG ⊢;exact ⟨HG.2,HG.1⟩) (by simp at hj ⊢;exact hj.symm)
  H5:=hp
  down:=h.down,Ny:=h.Ny,reads:=h.reads,pA:=h.pA,ds:=h.ds,XC:=h.XC,EB:=h.EB }
def Re {i:Nat} {o:Oper} (ho:ops[i]?=some o) (hr:∀ e,e∈o.after.toList->Region.binds .any e=true->C4 listed e.on=true) :
  ∀ (L:List Nat) (bk:List Rec) (fr:k9) (σ:fC) (g:Gh) (a:Act) (w:World),i∈L++[x,y]->strict ops (L++[x])=true->strict ops (L++[y])=true->Inv P E n ops listed (L++[x,y]) bk fr σ->DX P E n ops Q x y L bk fr σ->
   Rel E g (jz σ (mS listed bk)) w->FR n g (jH fr (mF listed bk)) a->
   (∃ L' rq pn σ',strict ops (i::L'++[x])=true/\strict ops (i::L'++[y])=true/\Inv P E n ops listed (i::(L'++[x,y])) rq pn σ'/\DX P E n ops Q x y (i::L') rq pn σ'/\Rel E g (jz σ' (mS listed rq)) w/\FR n g (jH pn (mF listed rq)) a)\/
   ((i=x\/i=y)/\∃ rq pn σ',Inv P E n ops listed [x,y] rq pn σ'/\DX P E n ops Q x y [] rq pn σ'/\Rel E g (jz σ' (mS listed rq)) w/\FR n g (jH pn (mF listed rq)) a)
 | [],bk,fr,σ,g,a,w,hi,_,_,hI,hD,hR,hF=>.inr ⟨FZ,bk,fr,σ,hI,hD,hR,hF⟩
 | c::L,bk,fr,σ,g,a,w,hi,Tb,TH,hI,hD,hR,hF=>by
  by_cases q:c=i
  ·subst q;exact .inl ⟨L,bk,fr,σ,Tb,TH,hI,hD,hR,hF⟩
  ·have HG:i∈L++[x,y]:=by
    rcases cb.1 hi with h|h
    ·exact ao h.symm q
    ·exact h
   obtain ⟨oc,Q3,hS⟩:=hD
   have hPP:=hI.H5
   simp only[mY,wD,bm] at hPP
   have IK:B7 ops c i=true:=jm.1 hPP.1.2 i HG
   have hhv:fO oc=false:=by
    cases h:fO oc with
    | false=>rfl
    | true=>
     have h1:ye ops ops.size i c=true:=by
      rcases (xN Q3 ho IK).2.2 h with h0|h0
      ·have:i∈L++[x]\/i∈L++[y]:=by
        simp only[bH,cb,cn,or_false] at HG ⊢
        rcases HG with h|h|h
        ·exact .inl (.inl h)
        ·exact .inl (.inr h)
        ·exact .inr (.inr h)
       rcases this with hm|hm
       ·exact H4 Tb hm Q3 ho h h0
       ·exact H4 TH hm Q3 ho h h0
      ·exact h0
     have h2:=AK hI.down _ _ _ o ho hr h1
     rw[(hI.todo c bn).2] at h2;cases h2
   obtain ⟨r,rq,pn,σ',rfl,_,hn,Kx,lq,tt⟩:=walk hI Q3 hhv hS hR hF
   exact Re ho hr L _ pn σ' g a w HG (rS Tb) (rS TH) Kx hn lq tt
def aeO {ox oy:Oper} (hox:ops[x]?=some ox) (hoy:ops[y]?=some oy) (hhx:fO ox=true) (hhy:fO oy=true) (hpp:wD ops [y,x]=true) (hsm:∀ i o,ops[i]?=some o->∀ e,e∈o.after.toList->Region.binds .any e=true->e.on<i) :
  ∀ (fuel:Nat) (listed:Array Bool) (L:List Nat) (bk:List Rec) (fr:k9) (σ:fC) (g:Gh) (a:Act) (w:World),left ops listed<=fuel->strict ops (L++[x])=true->strict ops (L++[y])=true->Inv P E n ops listed (L++[x,y]) bk fr σ->DX P E n ops Q x y L bk fr σ->
   Rel E g (jz σ (mS listed bk)) w->FR n g (jH fr (mF listed bk)) a->wpAny P .any ops (LQ E n Q) fuel listed a w:=by
 intro fuel
 have never:∀ listed L bk fr σ,Inv P E n ops listed (L++[x,y]) bk fr σ->(∀ i,i<ops.size->C4 listed i=true)->False:=λlisted L bk fr σ hI FF=>by
  have:=hI.todo x bn
  rw[FF x this.1] at this;cases this.2
 induction fuel with
 | zero=>
  intro listed L bk fr σ g a w hfu Tb TH hI hD hR hF
  exfalso
  refine never listed L bk fr σ hI λi hi=>?_
  exact aiw
 | succ fuel ih=>
  intro listed L bk fr σ g a w hfu Tb TH hI hD hR hF
  refine ⟨λhnil=>(never listed L bk fr σ hI (VY hI hsm hnil)).elim,λi hi=>?_⟩
  obtain ⟨h1,h2,o,ho,hr⟩:=Gv hI.size hi
  have hlf:left ops (listed.setIfInBounds i true)<=fuel:=by have:=Q4 hI.size h1 h2;omega
  have Q6:∀ L bk fr σ g a w,strict ops (L++[x])=true->strict ops (L++[y])=true->(∃ r,r∈vK listed bk/\r.i=i)->Inv P E n ops listed (L++[x,y]) bk fr σ->DX P E n ops Q x y L bk fr σ->Rel E g (jz σ (mS listed bk)) w->FR n g (jH fr (mF listed bk)) a->
    wpOp P ops (LQ E n Q) i (wpAny P .any ops (LQ E n Q) fuel (listed.setIfInBounds i true)) a w:=by
   rintro L bk fr σ g a w Tb TH ⟨r,S9,D2⟩ hI hD hR hF
   exact Q1 hI ho hr S9 D2 hR hF λg' a' w' Kx lq tt=>ih _ L bk fr σ g' a' w' hlf Tb TH Kx hD lq tt
  by_cases HG:i∈L++[x,y]
  ·rcases Re ho hr L bk fr σ g a w HG Tb TH hI hD hR hF with ⟨L',rq,pn,σ',hs1',hs2',Kx,hD',lq,tt⟩|⟨hxy,rq,pn,σ',Kx,hD',lq,tt⟩
   ·obtain ⟨oc,Q3,hS⟩:=hD'
    rw[ho] at Q3;cases Q3
    cases hh:fO o with
    | true=>
     exact H6 Kx ho hh hr hS lq tt λg2 fr2 σ2 a2 w2 hn hI2 Mw VU=>ih _ L' rq fr2 σ2 g2 a2 w2 hlf (rS hs1') (rS hs2') hI2 hn Mw VU
    | false=>
     obtain ⟨r,recs2,fr2,σ2,rfl,D2,hn,hI2,Mw,VU⟩:=walk Kx ho hh hS lq tt
     exact Q6 L' _ fr2 σ2 g a w (rS hs1') (rS hs2') ⟨r,gO.2 ⟨bn,Vi⟩,D2⟩ hI2 hn Mw VU
   ·have fin:∀ u v ou,ops[u]?=some ou->fO ou=true->i=u->Inv P E n ops listed [u,v] rq pn σ'->DW P E n ops Q [u,v] rq pn σ'->
      wpOp P ops (LQ E n Q) i (wpAny P .any ops (LQ E n Q) fuel (listed.setIfInBounds i true)) a w:=λu v ou hou hhu hiu hIu hDu=>by
     subst hiu
     obtain ⟨oc,Q3,hS⟩:=hDu
     rw[ho] at Q3;cases Q3
     rw[ho] at hou;cases hou
     exact H6 hIu ho hhu hr hS lq tt λg2 fr2 σ2 a2 w2 hn hI2 Mw VU=>Q5 hsm fuel _ [v] rq fr2 σ2 g2 a2 w2 hlf rfl hI2 hn Mw VU
    rcases hxy with q|q
    ·exact fin x y ox hox hhx q Kx hD'.1
    ·exact fin y x oy hoy hhy q (Kx.swap hpp) hD'.2
  ·obtain ⟨hd1,Hg⟩:=hI.done i o ho HG
   cases hh:fO o with
   | true=>rw[hd1 hh] at h2;cases h2
   | false=>
    obtain ⟨r,HH,D2⟩:=Hg hh
    exact Q6 L bk fr σ g a w Tb TH ⟨r,gO.2 ⟨HH,Vi⟩,D2⟩ hI hD hR hF
def aeP (ops:Array Oper) (L:List Nat) (x y:Nat):Bool:=
 (L++[x,y]).all (HV ops)&&(List.range ops.size).all (λi=>(L++[x,y]).contains i)&&(L++[x,y]).all (λi=>decide (i<ops.size))&&wD ops (L++[x,y])&&
  strict ops (L++[x])&&strict ops (L++[y])&&wD ops [y,x]&&(match ops[x]?,ops[y]? with|some a,some b=>fO a&&fO b|_,_=>false)
def H' {id:Nat} (L:List Nat) (x y:Nat) (hm:P.follows .mixedOrders=true) (EG:aeP ops L x y=true) (h:DX P E n ops Q x y L [] fr σ):SW P E n (.region id ops true) Q fr σ:=by
 intro g a w hR hF;simp only[aeP,bm,jm,decide_eq_true_eq] at EG;obtain ⟨⟨⟨⟨⟨⟨⟨AO,FF⟩,hin⟩,TO⟩,Tb⟩,TH⟩,hpp⟩,hhv⟩:=EG;have hsm:∀ i o,ops[i]?=some o->∀ e,e∈o.after.toList->Region.binds .any e=true->e.on<i:=λi o ho e he hb=>by
  have hi:i<ops.size:=by
   exact yC9
  have h1:=AO i (by have:=FF i (uD.2 hi);simpa using this);exact adf
 have Cx:∀ i,C4 (Array.replicate ops.size false) i=false:=λi=>by
  exact aik
 have hmem:∀ i,i<ops.size->i∈L++[x,y]:=λi hi=>by have:=FF i (uD.2 hi);simpa using this
 have hI:Inv P E n ops (Array.replicate ops.size false) (L++[x,y]) [] fr σ:=
  Inv.mk bn (λi hi=>⟨hin i hi,Cx i⟩) (λi o ho hi=>by
    exfalso
    have iy:i<ops.size:=by
     exact yC9
    exact hi (hmem i iy)) I7 AO M2 (λr _ _ hr=>by cases hr) M2
   (λi j hi HG hj=>ao (hmem i hi) HG) TO (λi o _ h=>by rw[Cx i] at h;cases h) I7 I7
   I7 I7 I7 M2
 have h1:mF (Array.replicate ops.size false) []=λ_=>false:=rfl;have h2:mS (Array.replicate ops.size false) []=λ_=>false:=rfl;have h3:jH fr (λ_=>false)=fr:=by simp[jH]
 have h4:jz σ (λ_=>false)=σ:=by funext k;simp[jz]
 split at hhv
 ·rename_i ox oy hox hoy;simp only[bm] at hhv;refine wp_region_any hm (aeO hox hoy hhv.1 hhv.2 hpp hsm ops.size _ L [] fr σ g a _ ?_ Tb TH hI h ?_ ?_)
  ·exact kt (List.countP_le_length) bn
  ·rw[h2,h4];exact hR.drew
  rw[h1,h3];exact hF
 cases hhv
end
end Go.Abs
