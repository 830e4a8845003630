/- PROVED: lemmas of the proof of: configlanglaw26.ParserExprs returns true for every input. CONDITIONS: as each lemma states. -/
import Derived.Test.YtlfolpjenfkhiaaGreatDoorX0
import Derived.Recover
import Derived.Laws.BytesArg
import Derived.Laws.StructEq
set_option linter.all false
namespace Go.Abs
variable {n i d off j k:Nat} {l:List (Nat×AV)} {ds:List (FuncId×List AV)} {E:Env} {ops:Array Oper} {rest:List Oper} {x:Operand} {v:AV} {b want:Bool} {listed:Array Bool} {fr:kG} {σ:fi} {o:Oper} {op:Op} {t:TypeId} {ts:Array TypeId} {vs:List AV} {c:Code}
section
variable {P:Program} {Q:gh}
variable {L:List Nat} {bj:List Rec}
def HK {c:Nat} {next:List Rec->kG->fi->Prop} (hI:Inv P E n ops listed (c::L) bj fr σ) (ho:ops[c]?=some o) (hh:fB o=true) (hr:∀ e,e∈o.after.toList->Region.binds .any e=true->Cx listed e.on=true) (hS:DStep P E n ops Q next bj c o fr σ) {g:Gh} {a:Act} {w:World} (hR:Rel E g (jd σ (mS listed bj)) w) (hF:FR n g (jm fr (mF listed bj)) a) {K:Act->World->Prop} (hK:∀ g' oM σ' a' w',next bj oM σ'->Inv P E n ops (listed.setIfInBounds c true) L bj oM σ'->Rel E g' (jd σ' (mS (listed.setIfInBounds c true) bj)) w'->
   FR n g' (jm oM (mF (listed.setIfInBounds c true) bj)) a'->K a' w'):wpOp P ops (LQ E n Q) c K a w:=by
 have hcL:=hI.todo c bm
 have gR:c<listed.size:=by rw[hI.size];exact hcL.1
 have hPP:=hI.HJ
 simp only[vV,bk,fj] at hPP
 obtain ⟨⟨hcn,hca⟩,hPL⟩:=hPP
 have hcnL:c ∉ L:=by simpa using hcn
 have uv:∀ r,r∈bj->r.i≠c:=λr hr q=>(hI.qB r hr).1 (by simp[q])
 have hltr:∀ r,r∈bj->r.i<ops.size:=λr hr=>by
  obtain ⟨_,or,Im,_⟩:=hI.qB r hr
  exact Ś
 have Ip:∀ r,r∈bj->BC ops r.i c=true:=λr hr=>hI.JZ r.i c (hltr r hr) (hI.qB r hr).1 bm
 have MU:∀ r,r∈bj->∀ or,ops[r.i]?=some or->∀ d,o.dst=some d->d ∉ or.looksAt ops/\or.dst≠some d:=λr hr or Im d BZ=>by
  exact ahZ
 have Vt:∀ r,r∈bj->∀ d,r.dst=some d->o.dst≠some d:=λr hr d BZ q=>by
  exact acS
 have GO:∀ r1,r1∈ve listed bj->xM ops ops.size c r1.i=false:=λr1 h1=>by
  cases q:xM ops ops.size c r1.i with
  | false=>rfl
  | true=>
   exact akw
 have SK:∀ r,r∈ve listed bj->r∈mi ops bj c:=λr hr=>by simp[mi,(gk.1 hr).1,GO r hr]
 have hum:=QK hI ho hr (.inr bm)
 have hdm:∀ d,o.dst=some d->mF listed bj d=false:=λd hd=>by
  cases q:mF listed bj d with
  | false=>rfl
  | true=>
   obtain ⟨r,h1,h2⟩:=sL.1 q
   exact aw hd (Vt r (gk.1 h1).1 d h2)
 have hpe:∀ r,r∈ve (listed.setIfInBounds c true) bj↔r∈ve listed bj:=λr=>by
  rw[pz gR];exact ⟨λh=>h.1,λh=>⟨h,uv r (gk.1 h).1⟩⟩
 have hmFe:mF (listed.setIfInBounds c true) bj=mF listed bj:=by
  funext k
  cases q:mF listed bj k with
  | false=>exact N9 gR q
  | true=>
   obtain ⟨r,h1,h2⟩:=sL.1 q
   exact sL.2 ⟨r,(hpe r).2 h1,h2⟩
 have hmSe:mS (listed.setIfInBounds c true) bj=mS listed bj:=by
  funext k
  cases q:mS listed bj k with
  | false=>exact CM gR q
  | true=>
   obtain ⟨r,h1,h2⟩:=oS.1 q
   exact oS.2 ⟨r,(hpe r).2 h1,h2⟩
 have hinv:∀ Tw σ0 ks,Chg o ks fr Tw σ σ0->(∀ r,r∈ve listed bj->∀ k,k∈ks->r.nm≠some k)->
   (∀ r,r∈ve listed bj->(∀ p,p∈r.rd->Cov σ0 p)/\∀ nm,r.nm=some nm->(∀ d,o.dst=some d->(Tw.s d).iQ nm=false)/\∀ k,k∈ks->∀ e,σ0 k=some e->AV.iQ.ka nm e.cells=false)->
   Inv P E n ops (listed.setIfInBounds c true) L bj Tw σ0:=by
  intro Tw σ0 ks hch xp E7
  have hs:∀ r,r∈bj->∀ d,r.dst=some d->Tw.s d=fr.s d:=λr hr d hd=>hch.s d (Vt r hr d hd)
  refine Inv.mk (by simpa using hI.size) (λi hi=>?_) (λi oi hoi hi=>?_) (λr hr=>?_) (λi hi=>hI.Kh i (by simp[hi])) hI.apart hI.names hI.M0 (λi j hi Ho hj=>?_) hPL
   (λk ok Gz hk e he hb=>?_) (λr EU=>?_) (λr EU=>(E7 r ((hpe r).1 EU)).1) (λr EU nm pX i hi=>?_) (λr EU nm pX p hp=>?_) (λr EU nm pX k e hk he=>?_)
   (λr r' h1 h2 nm pX hord Dr=>?_)
  ·have:=hI.todo i (by simp[hi])
   have hn:i≠c:=λq=>hcnL (q▸hi)
   exact ⟨this.1,by rw[zh gR];simp[hn,this.2]⟩
  ·by_cases q:i=c
   ·subst q;rw[ho] at hoi;cases hoi
    exact ⟨λ_=>by rw[zh gR];simp,λq=>(by rw[hh] at q;cases q)⟩
   ·obtain ⟨h1,h2⟩:=hI.done i oi hoi (by simp[q,hi])
    exact ⟨λq2=>by rw[zh gR];simp[h1 q2],h2⟩
  ·obtain ⟨h1,h2⟩:=hI.qB r hr
   exact ⟨λq=>h1 (by simp[q]),h2⟩
  ·exact acF
  ·exact aks
  ·have hp:=(hpe r).1 EU
   have Hp:=(gk.1 hp).1
   obtain ⟨or,Im,hpp⟩:=hI.M1 r hp
   exact ⟨or,Im,hpp.congr (λt ht=>hch.s t λq=>(MU r Hp or Im t q).1 ht) (λd hd=>hch.s d λq=>(MU r Hp or Im d q).2 hd) (λnm pX=>hch.h nm λq=>xp r hp nm q pX)⟩
  ·have hp:=(hpe r).1 EU
   rw[hmFe] at hi
   by_cases q:o.dst=some i
   ·exact ((E7 r hp).2 nm pX).1 i q
   ·rw[hch.s i q];exact hI.oP r hp nm pX i hi
  ·rw[hch.ds] at hp;exact hI.ds r ((hpe r).1 EU) nm pX p hp
  ·have hp:=(hpe r).1 EU
   rw[hmSe] at hk
   by_cases q:k∈ks
   ·exact ((E7 r hp).2 nm pX).2 k q e he
   ·rw[hch.h k q] at he;exact hI.Xk r hp nm pX k e hk he
  ·have hp:=(hpe r).1 h1
   have hp':=(hpe r').1 h2
   obtain ⟨q1,q2,q3⟩:=hI.D8 r r' hp hp' nm pX hord Dr
   refine ⟨λd hd=>by rw[hs r' (gk.1 hp').1 d hd];exact q1 d hd,λk e hk he=>?_,q3⟩
   rw[hch.h k λq=>xp r' hp' k q hk] at he
   exact q2 k e hk he
 cases hS with
 | skip hu hd hn=>
  simp only[hh,if_true] at hn
  refine FF ho (FE hu hum) hF (hK g _ σ _ w hn (hinv _ _ [] ⟨Gv,F3,λ_ _=>rfl⟩ (λ_ _ _ q=>by cases q) λr hr=>?_) ?_ ?_)
  ·exact ⟨hI.reads r hr,λnm pX=>⟨λd BZ=>by rw[Ht BZ];rfl,λk q=>by cases q⟩⟩
  ·rw[hmSe];exact hR
  ·rw[hmFe,<- EP hdm];exact hF.put hd (.pv (.sc _))
 | ev _ hh'=>rw[hh] at hh';cases hh'
 | nw _ hh'=>rw[hh] at hh';cases hh'
 | fz _ hh'=>rw[hh] at hh';cases hh'
 | @fB hw _ ks h hk=>
  have E7:=h.run (m:=mF listed bj) (mm:=mS listed bj) (λhN=>by
   have hp:∀ r,r∈ve listed bj->False:=λr hr=>by
    have h1:=GO r hr
    have h2:r∈mi ops bj c:=by simp[mi,(gk.1 hr).1,h1]
    rw[hN] at h2;cases h2
   refine ⟨λk=>?_,λk=>?_⟩
   ·cases q:mS listed bj k with
    | false=>rfl
    | true=>obtain ⟨r,hr,_⟩:=oS.1 q;exact (hp r hr).elim
   ·cases q:mF listed bj k with
    | false=>rfl
    | true=>obtain ⟨r,hr,_⟩:=sL.1 q;exact (hp r hr).elim) (λt ht=>hum t (Eb ht)) hdm (λk hkk=>by
   cases q:mS listed bj k with
   | false=>rfl
   | true=>
    obtain ⟨r,h1,h2⟩:=oS.1 q
    exact aw h2 (hk r (SK r h1) k hkk))
  refine Bd ho (Bc hw hum) hF (E7 g a w K hR hF λg' oM σ' a' w' hq kL sR=>?_)
  obtain ⟨Tw,σ0,⟨hst2,hn⟩,hch,rfl,rfl⟩:=hq
  refine hK g' Tw σ0 a' w' hn (hinv Tw σ0 ks hch (λr hr k hkk=>hk r (SK r hr) k hkk) λr hr=>hst2 r (SK r hr)) ?_ ?_
  ·rw[hmSe];exact kL
  ·rw[hmFe];exact sR
def Vu (ho:ops[i]?=some o) (hr:∀ e,e∈o.after.toList->Region.binds .any e=true->Cx listed e.on=true) :
  ∀ (L:List Nat) (bj:List Rec) (fr:kG) (σ:fi) (g:Gh) (a:Act) (w:World),i∈L->strict ops L=true->Inv P E n ops listed L bj fr σ->DW P E n ops Q L bj fr σ->Rel E g (jd σ (mS listed bj)) w->
   FR n g (jm fr (mF listed bj)) a->∃ L' qF oM σ',strict ops (i::L')=true/\Inv P E n ops listed (i::L') qF oM σ'/\DW P E n ops Q (i::L') qF oM σ'/\Rel E g (jd σ' (mS listed qF)) w/\FR n g (jm oM (mF listed qF)) a
 | [],_,_,_,_,_,_,hi,_,_,_,_,_=>by cases hi
 | c::L,bj,fr,σ,g,a,w,hi,hs,hI,hD,hR,hF=>by
  by_cases q:c=i
  ·subst q;exact ⟨L,bj,fr,σ,hs,hI,hD,hR,hF⟩
  ·have Ho:i∈L:=by
    rcases cf.1 hi with h|h
    ·exact aw h.symm q
    ·exact h
   obtain ⟨oc,QN,hS⟩:=hD
   have hPP:=hI.HJ
   simp only[vV,bk] at hPP
   have Ip:BC ops c i=true:=iS.1 hPP.1.2 i Ho
   have hhv:fB oc=false:=by
    cases h:fB oc with
    | false=>rfl
    | true=>
     have h1:xM ops ops.size i c=true:=by
      rcases (xq QN ho Ip).2.2 h with h0|h0
      ·exact HI hs Ho QN ho h h0
      ·exact h0
     have h2:=Af hI.down _ _ _ o ho hr h1
     rw[(hI.todo c bm).2] at h2;cases h2
   obtain ⟨r,qF,oM,σ',rfl,_,hn,J7,kL,sR⟩:=walk hI QN hhv hS hR hF
   exact Vu ho hr L _ oM σ' g a w Ho (rf hs) J7 hn kL sR
def Vv (hI:Inv P E n ops listed L bj fr σ) (hsm:∀ i o,ops[i]?=some o->∀ e,e∈o.after.toList->Region.binds .any e=true->e.on<i) (h:Region.ready .any ops listed=[]):∀ i,i<ops.size->Cx listed i=true:=by
 intro i
 induction i using Nat.strongRecOn with
 | _ i ih=>
  intro hi
  cases q:Cx listed i with
  | true=>rfl
  | false=>
   exfalso
   have:i∈Region.ready .any ops listed:=by
    simp only[Region.ready,gK,tV,bk,fj];refine ⟨hi,?_,?_⟩
    ·have h1:listed.getD i true=listed.getD i false:=by simp[Array.getD,hI.size,hi]
     rw[h1];exact q
    rw[gv hi];simp only[vQ,Ah];rw[Array.all_eq_true_iff_forall_mem];intro e he;by_cases hb:Region.binds .any e=true
    ·have gR:=hsm i _ (gv hi) e Dh hb;have:=ih e.on gR (Nat.lt_trans gR hi);simpa[hb,Cx] using this
    simp[hb]
   rw[h] at this;cases this
def left (ops:Array Oper) (listed:Array Bool):Nat:=(List.range ops.size).countP λi=>!Cx listed i
def QO (hs:listed.size=ops.size) (hi:i<ops.size) (hr:Cx listed i=false):left ops (listed.setIfInBounds i true)<left ops listed:=by
 have key:∀ l:List Nat,l.countP (λk=>!Cx (listed.setIfInBounds i true) k)<=l.countP (λk=>!Cx listed k)/\
   (i∈l->l.countP (λk=>!Cx (listed.setIfInBounds i true) k)<l.countP (λk=>!Cx listed k)):=by
  intro l
  induction l with
  | nil=>simp
  | cons k l ih=>
   have hk:Cx (listed.setIfInBounds i true) k=(decide (k=i)||Cx listed k):=zh (by rw[hs];exact hi)
   simp only[List.countP_cons,hk]
   by_cases q:k=i
   ·subst q
    simp only[decide_true,Bool.true_or,hr,iC,r8,if_true,fm,if_false]
    exact ⟨by omega,λ_=>by omega⟩
   ·simp only[q,decide_false,ll]
    refine ⟨aD,λh=>?_⟩
    rcases cf.1 h with h|h
    ·exact aw h.symm q
    ·have:=ih.2 h;omega
 exact (key _).2 FA
def QP (hsm:∀ i o,ops[i]?=some o->∀ e,e∈o.after.toList->Region.binds .any e=true->e.on<i) :
  ∀ (fuel:Nat) (listed:Array Bool) (L:List Nat) (bj:List Rec) (fr:kG) (σ:fi) (g:Gh) (a:Act) (w:World),left ops listed<=fuel->strict ops L=true->Inv P E n ops listed L bj fr σ->DW P E n ops Q L bj fr σ->
   Rel E g (jd σ (mS listed bj)) w->FR n g (jm fr (mF listed bj)) a->wpAny P .any ops (LQ E n Q) fuel listed a w:=by
 intro fuel
 have fin:∀ (listed:Array Bool) (L:List Nat) (bj:List Rec) (fr:kG) (σ:fi) (g:Gh) (a:Act) (w:World),Inv P E n ops listed L bj fr σ->DW P E n ops Q L bj fr σ->
   Rel E g (jd σ (mS listed bj)) w->FR n g (jm fr (mF listed bj)) a->(∀ i,i<ops.size->Cx listed i=true)->LQ E n Q .normal a w:=by
  intro listed L bj fr σ g a w hI hD hR hF Fg
  have hL:L=[]:=by
   cases L with
   | nil=>rfl
   | cons c L=>
    have:=hI.todo c bm
    rw[Fg c this.1] at this;cases this.2
  subst hL
  have hp:∀ r,r ∉ ve listed bj:=λr hr=>by
   obtain ⟨h1,h2⟩:=gk.1 hr
   obtain ⟨_,or,Im,_⟩:=hI.qB r h1
   have:r.i<ops.size:=by
    exact Ś
   rw[Fg r.i this] at h2;cases h2
  have h1:mF listed bj=λ_=>false:=by
   funext k
   cases q:mF listed bj k with
   | false=>rfl
   | true=>obtain ⟨r,hr,_⟩:=sL.1 q;exact aw hr (hp r)
  have h2:mS listed bj=λ_=>false:=by
   funext k
   cases q:mS listed bj k with
   | false=>rfl
   | true=>obtain ⟨r,hr,_⟩:=oS.1 q;exact aw hr (hp r)
  have h3:jm fr (λ_=>false)=fr:=by simp[jm]
  have h4:jd σ (λ_=>false)=σ:=by funext k;simp[jd]
  rw[h2,h4] at hR
  rw[h1,h3] at hF
  exact ⟨g,.normal,fr,σ,hD,.normal,hR,hF⟩
 induction fuel with
 | zero=>
  intro listed L bj fr σ g a w hfu hs hI hD hR hF
  have Fg:∀ i,i<ops.size->Cx listed i=true:=λi hi=>by
   exact ahY
  refine ⟨?_,fin listed L bj fr σ g a w hI hD hR hF Fg⟩
  cases q:Region.ready .any ops listed with
  | nil=>rfl
  | cons i l=>
   exfalso
   have hi:i∈Region.ready .any ops listed:=by rw[q];simp
   obtain ⟨h1,h2,_⟩:=F8 hI.size hi
   rw[Fg i h1] at h2;cases h2
 | succ fuel ih=>
  intro listed L bj fr σ g a w hfu hs hI hD hR hF
  refine ⟨λhnil=>fin listed L bj fr σ g a w hI hD hR hF (Vv hI hsm hnil),λi hi=>?_⟩
  obtain ⟨h1,h2,o,ho,hr⟩:=F8 hI.size hi
  have hlf:left ops (listed.setIfInBounds i true)<=fuel:=by have:=QO hI.size h1 h2;omega
  have QQ:∀ L bj fr σ g a w,strict ops L=true->(∃ r,r∈ve listed bj/\r.i=i)->Inv P E n ops listed L bj fr σ->DW P E n ops Q L bj fr σ->Rel E g (jd σ (mS listed bj)) w->FR n g (jm fr (mF listed bj)) a->
    wpOp P ops (LQ E n Q) i (wpAny P .any ops (LQ E n Q) fuel (listed.setIfInBounds i true)) a w:=by
   rintro L bj fr σ g a w hs ⟨r,SN,Dr⟩ hI hD hR hF
   exact QL hI ho hr SN Dr hR hF λg' a' w' J7 kL sR=>ih _ L bj fr σ g' a' w' hlf hs J7 hD kL sR
  by_cases Ho:i∈L
  ·obtain ⟨L',qF,oM,σ',QH,J7,hD',kL,sR⟩:=Vu ho hr L bj fr σ g a w Ho hs hI hD hR hF
   obtain ⟨oc,QN,hS⟩:=hD'
   rw[ho] at QN;cases QN
   cases hh:fB o with
   | true=>
    exact HK J7 ho hh hr hS kL sR λg2 fr2 σ2 a2 w2 hn hI2 LZ Vs=>ih _ L' qF fr2 σ2 g2 a2 w2 hlf (rf QH) hI2 hn LZ Vs
   | false=>
    obtain ⟨r,recs2,fr2,σ2,rfl,Dr,hn,hI2,LZ,Vs⟩:=walk J7 ho hh hS kL sR
    exact QQ L' _ fr2 σ2 g a w (rf QH) ⟨r,gk.2 ⟨bm,UX⟩,Dr⟩ hI2 hn LZ Vs
  ·obtain ⟨hd1,GW⟩:=hI.done i o ho Ho
   cases hh:fB o with
   | true=>rw[hd1 hh] at h2;cases h2
   | false=>
    obtain ⟨r,Hp,Dr⟩:=GW hh
    exact QQ L bj fr σ g a w hs ⟨r,gk.2 ⟨Hp,UX⟩,Dr⟩ hI hD hR hF
def ŭ {id:Nat} (L:List Nat) (hm:P.follows .mixedOrders=true) (Ee:chk ops L=true) (h:DW P E n ops Q L [] fr σ):SW P E n (.region id ops true) Q fr σ:=by
 intro g a w hR hF;simp only[chk,bk,iS,decide_eq_true_eq] at Ee;obtain ⟨⟨⟨⟨⟨Aj,Fg⟩,hin⟩,Tx⟩,hstr⟩,_⟩:=Ee;have hsm:∀ i o,ops[i]?=some o->∀ e,e∈o.after.toList->Region.binds .any e=true->e.on<i:=λi o ho e he hb=>by
  have hi:i<ops.size:=by
   exact yC9
  have h1:=Aj i (by simpa using Fg i FA);exact acO
 have BY:∀ i,Cx (Array.replicate ops.size false) i=false:=λi=>by
  exact ahM
 have hI:Inv P E n ops (Array.replicate ops.size false) L [] fr σ:=
  Inv.mk bm (λi hi=>⟨by simpa using hin i hi,BY i⟩) (λi o ho hi=>by
    exfalso
    have gR:i<ops.size:=by
     exact yC9
    exact hi (by simpa using Fg i (by simpa using gR))) ID Aj MB (λr _ _ hr=>by cases hr) MB
   (λi j hi Ho hj=>aw (by simpa using Fg i FA) Ho) Tx (λi o _ h=>by rw[BY i] at h;cases h) ID ID
   ID ID ID MB
 have h1:mF (Array.replicate ops.size false) []=λ_=>false:=rfl;have h2:mS (Array.replicate ops.size false) []=λ_=>false:=rfl;have h3:jm fr (λ_=>false)=fr:=by simp[jm]
 have h4:jd σ (λ_=>false)=σ:=by funext k;simp[jd]
 refine wp_region_any hm (QP hsm ops.size _ L [] fr σ g a _ ?_ hstr hI h ?_ ?_)
 ·exact jV (List.countP_le_length) bm
 ·rw[h2,h4];exact hR.drew
 rw[h1,h3];exact hF
end
section
def mj:List (Nat×AV)->Nat->Option AV
 | [],_=>none
 | (j,v)::l,i=>match Nat.beq i j with
  | true=>some v
  | false=>mj l i
def dF:List (Nat×cQ)->Nat->Option cQ
 | [],_=>none
 | (j,v)::l,i=>match Nat.beq i j with
  | true=>some v
  | false=>dF l i
def bT (l:List (Nat×AV)):Operand->Option AV
 | .tmp t=>mj l t
 | .const v=>some (Sc v)
 | .global _=>some .any
 | .func f=>some (.fn f [] [])
def jF:∀ {l:List (Nat×AV)} {i:Nat} {v:AV},mj l i=some v->s6 l i=v
 | [],_,_,h=>by simp[mj] at h
 | (j,w)::l,i,v,h=>by
  simp only[mj] at h;split at h
  ·rename_i q;cases h;have:=kH q;simp[s6,this]
  rename_i q;have hn:i≠j:=λe=>by subst e;simp at q
  simp[s6,hn,jF h]
def fv:∀ {l:List (Nat×cQ)} {i:Nat} {v:cQ},dF l i=some v->bU l i=some v
 | [],_,_,h=>by simp[dF] at h
 | (j,w)::l,i,v,h=>by
  simp only[dF] at h;split at h
  ·rename_i q;cases h;have:=kH q;simp[bU,uC,this]
  rename_i q;have hn:i≠j:=λe=>by subst e;simp at q
  have:=fv h;simp only[bU] at this;simp[bU,uC,hn,this]
variable {k:IntKind} {e:TypeId} {c:List PV} {a b:Int} {y:Operand} {xt yt:TypeId} {i:Int} {sz m:Nat} {ix:Operand} {rd:List (Nat×cQ)} {ty:TypeId} {pos:String} {af:Array Edge} {g:Nat}
def dQ {l:List (Nat×AV)} {ds:List (FuncId×List AV)} (h:bT l x=some v):(cx l ds).val x=v:=by
 cases x with
 | tmp t=>exact jF h
 | const c=>simpa[bT,kG.val] using h
 | global k=>simpa[bT,kG.val] using h
 | func f=>simpa[bT,kG.val] using h
class yn (P:Program) (t:TypeId) (n:outParam Nat):Prop where h:Lv P t=some n:=by kernel_rfl
class nX (P:Program) (t:TypeId) (b:outParam Bool):Prop where h:Ai P t=some b:=by kernel_rfl
class T (P:Program) (s:TypeId) (f:Nat) (d:outParam Nat):Prop where h:tfo P s f=some d:=by kernel_rfl
class PL (P:Program) (t:TypeId) (e:outParam TypeId) (sz:outParam Nat):Prop where h:tel P t=some (e,sz):=by kernel_rfl
class Z1 (P:Program) (t:TypeId) (k:outParam Nat) (sz:outParam Nat):Prop where h:ZK P t=some (k,sz):=by kernel_rfl
class ug (P:Program) (t:TypeId) (d:outParam TypeDesc):Prop where h:P.underlying t=some d:=by kernel_rfl
class qG (P:Program) (t:TypeId) (z:outParam (List Value)):Prop where h:Vh P t=some z:=by kernel_rfl
class lr (P:Program) (t:TypeId) (z:outParam (List Value)) (pl:outParam (List (Nat×Nat))):Prop where h:Jc P t=some (z,pl):=by kernel_rfl
class ng (P:Program) (t:TypeId) (n:Nat) (e sz:outParam Nat) (zs:outParam (List Value)) (pl:outParam (List (Nat×Nat))):Prop where h:J5 P t n=some (e,sz,zs,pl):=by kernel_rfl
class tD (P:Program) (t:TypeId) (sz b:outParam Nat):Prop where h:CL P t=some (sz,b):=by kernel_rfl
structure mH (P:Program) (op:Op) (l:List (Nat×AV)) (ds:List (FuncId×List AV)) (s:List (Nat×cQ)) (v:AV) (rd:List (Nat×cQ)):Prop where
 h:X P op (cx l ds) rd v
 r:∀ p,p∈rd->Cov (bU s) p
section
variable {P:Program} {s:List (Nat×cQ)}
def mH.of (h:X P op (cx l ds) [] v):mH P op l ds s v []:=⟨h,λp hp=>by cases hp⟩
def mH.on {k:Nat} {e:cQ} (hk:dF s k=some e) (h:X P op (cx l ds) [(k,e)] v):mH P op l ds s v [(k,e)]:=
 ⟨h,λp hp=>by simp at hp;subst hp;exact ⟨_,fv hk,nh _⟩⟩
def To (hx:bT l x=some v):mH P (.move x) l ds s v []:=.of (dQ (ds:=ds) hx▸Ť x)
def QR (hx:bT l x=some v):mH P (.assign x) l ds s v []:=.of (dQ (ds:=ds) hx▸MK x)
def Vw {c a b:Operand} (hc:bT l c=some (Bo true)) (ha:bT l a=some v):mH P (.pick c a b) l ds s v []:=
 .of (by have:=Vi (P:=P) (a:=a) (b:=b) (dQ (ds:=ds) hc);rw[aL rfl,dQ ha] at this;exact this)
def CN {c a b:Operand} (hc:bT l c=some (Bo false)) (hb:bT l b=some v):mH P (.pick c a b) l ds s v []:=
 .of (by have:=Vi (P:=P) (a:=a) (b:=b) (dQ (ds:=ds) hc);rw[aC bm,dQ hb] at this;exact this)
def Kj {k:Nat} (hx:bT l x=some (.ptr k off)):mH P (.nilCheck x) l ds s (.ptr k off) []:=.of (II jT)
def aef (hx:bT l x=some (.sp c)):mH P (.nilCheck x) l ds s (.sp c) []:=.of (J1 jT)
def aeg {f:FuncId} {a b:List AV} (hx:bT l x=some (.fn f a b)):mH P (.nilCheck x) l ds s (.fn f a b) []:=.of (J2 jT)
variable {f:Nat}
def Ef {k:Nat} [hf:T P t f d] (hx:bT l x=some (.ptr k off)):mH P (.fieldAddr t x f) l ds s (.ptr k (off+d)) []:=.of (NS hf.h jT)
def ab7 [hf:T P t f d] (hx:bT l x=some (.sp c)) (hd:Nat.ble d c.length=true):mH P (.fieldAddr t x f) l ds s (.sp (c.drop d)) []:=
 .of (IJ hf.h jT (fR hd))
def UD {k:Nat} {e:cQ} [ha:nX P t false] (hx:bT l x=some (.ptr k off)) (hk:dF s k=some e) (hv:e.cells[off]?=some v) :
 mH P (.load t x) l ds s v [(k,e)]:=.on hk (D3 ha.h jT hv)
def Y9 {k:Nat} {e:cQ} {cs:List AV} [ha:nX P t true] [hz:yn P t n] (hx:bT l x=some (.ptr k off)) (hk:dF s k=some e) (hn:Nat.ble (off+n) e.cells.length=true) (hc:(e.cells.drop off).take n=cs):mH P (.load t x) l ds s (.agg cs) [(k,e)]:=
 .on hk (hc▸QB hz.h ha.h jT UU)
def Y5 {p:PV} [ha:nX P t false] (hx:bT l x=some (.sp c)) (hv:c[0]?=some p):mH P (.load t x) l ds s (.pv p) []:=
 .of (J4 ha.h jT hv)
def aeh [ha:nX P t true] [hz:yn P t n] (hx:bT l x=some (.sp c)) (hn:Nat.ble n c.length=true) :
 mH P (.load t x) l ds s (.agg ((c.take n).map .pv)) []:=.of (J3 hz.h ha.h jT UU)
def acX {b:Bool} (hx:bT l x=some (Bo b)):mH P (.unOp .not t x) l ds s (Bo (!b)) []:=.of (ad8 jT)
def YV {op:BinOp} {r:Bool} (hx:bT l x=some (Sc (.int k a))) (hy:bT l y=some (Sc (.int k b))) (hr:ť op a b=some r) :
 mH P (.binOp op xt x y yt) l ds s (Bo r) []:=.of (Ŧ jT tt hr)
def ah5 {a b:ByS} (hx:bT l x=some (eu a)) (hy:bT l y=some (eu b)):mH P (.binOp .eql xt x y yt) l ds s (Bo (a==b)) []:=
 .of (ad4 jT tt)
def ah6 {a b:ByS} (hx:bT l x=some (eu a)) (hy:bT l y=some (eu b)):mH P (.binOp .neq xt x y yt) l ds s (Bo (a !=b)) []:=
 .of (ad5 jT tt)
def M2 {i:Nat} {vs:List AV} (hx:bT l x=some (.lM vs)) (hv:vs[i]?=some v):mH P (.extract x i) l ds s v []:=.of (Tr jT hv)
end
section
variable {P:Program} {s:List (Nat×cQ)}
def acY (hx:bT l x=some (I a)) (hy:bT l y=some (I b)) (h:-9223372036854775808<=a+b/\a+b<=9223372036854775807) :
 mH P (.binOp .add xt x y yt) l ds s (I (a+b)) []:=.of (ad2 jT tt h)
def ah7 (hx:bT l x=some (I a)) (hy:bT l y=some (I b)) (h:-9223372036854775808<=a - b/\a - b<=9223372036854775807) :
 mH P (.binOp .sub xt x y yt) l ds s (I (a - b)) []:=.of (ad3 jT tt h)
def aei {a b:ByS} (hx:bT l x=some (eu a)) (hy:bT l y=some (eu b)) (h:a.length+b.length<=9223372036854775807) :
 mH P (.binOp .add xt x y yt) l ds s (eu (a++b)) []:=.of (Ũ jT tt h)
def Ů {cells c':List PV} [ht:PL P t e sz] (hx:bT l x=some (.pv (.sl m cells))) (hi:bT l ix=some (Sc (.int k i))) (h0:0<=i) (h1:i<m) (h2:i.toNat*sz<=cells.length) (hc:cells.drop (i.toNat*sz)=c'):mH P (.indexAddr t x ix) l ds s (.sp c') []:=
 .of (hc▸IL ht.h jT (dQ hi) h0 h1 h2)
variable {kk:Nat}
def Ak [ht:PL P t e sz] (hx:bT l x=some (.arr kk m)) (hi:bT l ix=some (Sc (.int k i))) (h0:0<=i) (h1:i<m) :
 mH P (.indexAddr t x ix) l ds s (.ptr kk (i.toNat*sz)) []:=.of (HD ht.h jT (dQ hi) h0 h1)
def QT [ht:Z1 P t m sz] (hx:bT l x=some (.ptr kk off)) (hi:bT l ix=some (Sc (.int k i))) (h0:0<=i) (h1:i<m) :
 mH P (.indexAddr t x ix) l ds s (.ptr kk (off+i.toNat*sz)) []:=.of (HE ht.h jT (dQ hi) h0 h1)
def M3 {c:ByS} {b:UInt8} [ht:ug P t .string] (hx:bT l x=some (eu c)) (hi:bT l ix=some (Sc (.int k i))) (h0:0<=i) (hb:c[i.toNat]?=some b):mH P (.index t x ix) l ds s (Sc (.int .u8 b.toNat)) []:=.of (Xf ht.h jT (dQ hi) h0 hb)
variable {lo hi:Operand}
def ah8 {k':IntKind} {j:Int} {c:ByS} [ht:ug P t .string] (hx:bT l x=some (eu c)) (hl:bT l lo=some (Sc (.int k i))) (hh:bT l hi=some (Sc (.int k' j))) (h0:0<=i) (h1:i<=j) (h2:j<=c.length):mH P (.slice t x (some lo) (some hi) none) l ds s (eu ((c.drop i.toNat).take (j.toNat - i.toNat))) []:=
 .of (Xg ht.h jT (dQ hl) (dQ hh) h0 h1 h2)
def Je {c:ByS} [ht:ug P t .string] (hx:bT l x=some (eu c)) (hl:bT l lo=some (Sc (.int k i))) (h0:0<=i) (h2:i<=c.length):mH P (.slice t x (some lo) none none) l ds s (eu (c.drop i.toNat)) []:=.of (NW ht.h jT (dQ hl) h0 h2)
def ů {j:Int} {c:ByS} [ht:ug P t .string] (hx:bT l x=some (eu c)) (hh:bT l hi=some (Sc (.int k j))) (h0:0<=j) (h2:j<=c.length):mH P (.slice t x none (some hi) none) l ds s (eu (c.take j.toNat)) []:=.of (NX ht.h jT (dQ hh) h0 h2)
def Kk {c:ByS} [ht:ug P t .string] (hx:bT l x=some (eu c)):mH P (.call ⟨.builtin .len,#[x],#[t]⟩) l ds s (I c.length) []:=.of (ũ ht.h jT)
def UZ [ht:PL P t e sz] (hx:bT l x=some (.pv (.sl m c))):mH P (.call ⟨.builtin .len,#[x],#[t]⟩) l ds s (I m) []:=
 .of (ZR (Jb ht.h).1 jT)
def QU {k:Nat} [ht:PL P t e sz] (hx:bT l x=some (.arr k m)):mH P (.call ⟨.builtin .len,#[x],#[t]⟩) l ds s (I m) []:=
 .of (Xh (Jb ht.h).1 jT)
def Z2 [ht:PL P t e sz] (hx:bT l x=some (Sc (.slice none 0 m))):mH P (.call ⟨.builtin .len,#[x],#[t]⟩) l ds s (I 0) []:=
 .of (Xi (Jb ht.h).1 jT)
def ah9 (hx:bT l x=some (Sc (.int k a))) (hy:bT l y=some (Sc (.int k b))) :
 mH P (.call ⟨.builtin .min,#[x,y],ts⟩) l ds s (Sc (.int k (if b<a then b else a))) []:=.of (ad9 jT tt)
def ah_ (hx:bT l x=some (Sc (.int k a))) (hy:bT l y=some (Sc (.int k b))) :
 mH P (.call ⟨.builtin .max,#[x,y],ts⟩) l ds s (Sc (.int k (if b>a then b else a))) []:=.of (ad_ jT tt)
def Gp {parts:List (Nat×Operand)} {z:List Value} {pl:List (Nat×Nat)} {pv:List (Nat×AV)} {out:List AV} [ht:lr P t z pl] (hp:parts.mapM (λp=>(bT l p.2).map λv=>(p.1,v))=some pv) (h:nr pl (z.map λv=>.pv (.sc v)) pv=some out):mH P (.build t parts.toArray) l ds s (.agg out) []:=by
 refine .of (ZT ht.h ?_);have key:∀ (ps:List (Nat×Operand)) (pv:List (Nat×AV)),ps.mapM (λp=>(bT l p.2).map λv=>(p.1,v))=some pv->(ps.map λp=>(p.1,(cx l ds).val p.2))=pv:=by
  intro ps
  induction ps with
  | nil=>intro pv h;simp at h;simp[h]
  | cons p ps ih=>
   intro pv h
   rw[xr] at h
   cases hv:bT l p.2 with
   | none=>simp[hv] at h
   | some v=>
    cases hr:ps.mapM (λp=>(bT l p.2).map λv=>(p.1,v)) with
    | none=>simp[hv,hr] at h
    | some r=>
     exact ZG
 rw[key parts pv hp];exact h
def Ű {el:TypeId} {k:Nat} [ht:ug P xt (.pointer el)] (hx:bT l x=some (.ptr k off)) (hy:bT l y=some (Sc (.pointer none))):mH P (.binOp .eql xt x y yt) l ds s (Bo false) []:=
 .of (ZN ht.h jT tt)
def ű {el:TypeId} [ht:ug P xt (.pointer el)] (hx:bT l x=some (Sc (.pointer none))) (hy:bT l y=some (Sc (.pointer none))):mH P (.binOp .eql xt x y yt) l ds s (Bo true) []:=
 .of (ZP ht.h jT tt)
def Ų {el:TypeId} {k:Nat} [ht:ug P xt (.pointer el)] (hx:bT l x=some (.ptr k off)) (hy:bT l y=some (Sc (.pointer none))):mH P (.binOp .neq xt x y yt) l ds s (Bo true) []:=
 .of (ZO ht.h jT tt)
def ų {el:TypeId} [ht:ug P xt (.pointer el)] (hx:bT l x=some (Sc (.pointer none))) (hy:bT l y=some (Sc (.pointer none))):mH P (.binOp .neq xt x y yt) l ds s (Bo false) []:=
 .of (ZQ ht.h jT tt)
def aia {a b:Bool} [ht:ug P xt .bool] (hx:bT l x=some (Bo a)) (hy:bT l y=some (Bo b)):mH P (.binOp .eql xt x y yt) l ds s (Bo (a==b)) []:=
 .of (ad6 ht.h jT tt)
def aib {a b:Bool} [ht:ug P xt .bool] (hx:bT l x=some (Bo a)) (hy:bT l y=some (Bo b)):mH P (.binOp .neq xt x y yt) l ds s (Bo (a !=b)) []:=
 .of (ad7 ht.h jT tt)
end
section
variable {P:Program} {Q:gh} {s:List (Nat×cQ)}
def et (h:mH P op l ds s v rd) (hd:Nat.blt d n=true) (hn:SL P E n ops Q rest (cx ((d,v)::l) ds) (bU s)):SL P E n ops Q (⟨some d,op,ty,pos,af,none⟩::rest) (cx l ds) (bU s):=
 qE rfl (N3 h.h h.r W5 hn)
def aej (hj:(ops[j]?).bind (·.dst)=some g/\mj l g=some (Bo want)) (h:mH P op l ds s v rd) (hd:Nat.blt d n=true) (hn:SL P E n ops Q rest (cx ((d,v)::l) ds) (bU s)):SL P E n ops Q (⟨some d,op,ty,pos,af,some (j,want)⟩::rest) (cx l ds) (bU s):=
 GM rfl hj.1 (jF hj.2) W5 (λ_=>N3 h.h h.r W5 hn) (λq=>aw rfl q)
def aic {b:Bool} (h:(ops[j]?).bind (·.dst)=some g/\mj l g=some (Bo b)/\(b==want)=false) (hd:Nat.blt d n=true) (hn:SL P E n ops Q rest (cx ((d,Sc undef)::l) ds) (bU s)):SL P E n ops Q (⟨some d,op,ty,pos,af,some (j,want)⟩::rest) (cx l ds) (bU s):=
 GM rfl h.1 (jF h.2.1) W5 (λq=>by have:=h.2.2;subst q;simp at this) (λ_=>hn)
def aid (h:(ops[j]?).bind (·.dst)=some g/\mj l g=some (Sc undef)) (hd:Nat.blt d n=true) (hn:SL P E n ops Q rest (cx ((d,Sc undef)::l) ds) (bU s)):SL P E n ops Q (⟨some d,op,ty,pos,af,some (j,want)⟩::rest) (cx l ds) (bU s):=
 aeb rfl h.1 (jF h.2) (by simp[undef]) W5 hn
def HL {c:List AV} (nm:Nat) (hE:E.fix nm=none) (h:bT l x=some v/\v.jl=some c/\AV.iQ.ka nm c=false/\mA nm l=false/\jS nm ds=false/\px nm s=false/\AV.pq c=true) (hd:Nat.blt d n=true) (hn:SL P E n ops Q rest (cx ((d,.ptr nm 0)::l) ds) (bU ((nm,.box c)::s))) :
  SL P E n ops Q (⟨some d,.box t x,ty,pos,af,none⟩::rest) (cx l ds) (bU s):=
 qE rfl (Jd (aea nm (by rw[dQ h.1];exact h.2.1) h.2.2.2.2.2.2 h.2.2.1) (tT h.2.2.2.1 h.2.2.2.2.1) (zT h.2.2.2.2.2.1) hE W5 hn)
end
end
section
def yN (l:List (Nat×AV)):List Operand->Option (List AV)
 | []=>some []
 | x::xs=>match bT l x,yN l xs with
  | some v,some vs=>some (v::vs)
  | _,_=>none
variable {p:Nat->Bool} {es:List cQ} {s:List (Nat×cQ)}
def CB:∀ {xs:List Operand} {vs:List AV},yN l xs=some vs->xs.map (cx l ds).val=vs
 | [],_,h=>by simp[yN] at h;simp[h]
 | x::xs,vs,h=>by
  simp only[yN] at h;split at h
  ·rename_i v vs' hv hvs;cases h;simp[dQ hv,CB hvs]
  cases h
mutual
def B4 {π:Nat->Nat}:∀ {v:AV},v.only (λ_=>false)=true->v.lO π=v
 | .any,_=>rfl
 | .oc,_=>rfl
 | .pv _,_=>rfl
 | .ptr _ _,h=>by simp[AV.only] at h
 | .arr _ _,h=>by simp[AV.only] at h
 | .sp _,_=>rfl
 | .fn f xs ys,h=>by simp only[AV.only,bk] at h;simp only[AV.lO,B5 h.1,B5 h.2]
 | .agg cs,h=>by simp only[AV.only] at h;simp only[AV.lO,B5 h]
 | .lM cs,h=>by simp only[AV.only] at h;simp only[AV.lO,B5 h]
 | .vu t v,h=>by simp only[AV.only] at h;simp only[AV.lO,B4 h]
def B5 {π:Nat->Nat}:∀ {v:List AV},AV.only.sS (λ_=>false) v=true->AV.lO.tB π v=v
 | [],_=>rfl
 | x::xs,h=>by simp only[AV.only.sS,bk] at h;simp only[AV.lO.tB,B4 h.1,B5 h.2]
end
def A7 {a b:Nat}:Nat.blt a b=true↔a<b:=by rw[sH]
def gi:Nat->List cQ->List (Nat×cQ)
 | _,[]=>[]
 | i,e::es=>(i,e)::gi (i+1) es
def s8:List Nat->List cQ->List (Nat×cQ)
 | k::ks,e::es=>(k,e)::s8 ks es
 | _,_=>[]
def Al (s:List (Nat×cQ)):List Nat->Option (List cQ)
 | []=>some []
 | k::ks=>match dF s k,Al s ks with
  | some e,some es=>some (e::es)
  | _,_=>none
def nodupB:List Nat->Bool
 | []=>true
 | k::ks=>!ks.any (Nat.beq k)&&nodupB ks
def pA (π:Nat->Nat):List cQ->List cQ
 | []=>[]
 | e::es=>e.lO π::pA π es
def cQ.oq (p:Nat->Bool):cQ->Bool
 | .app _ _ _=>true
 | .box cs=>AV.only.sS p cs
 | .arr _ _ _=>true
def GX (p:Nat->Bool):∀ l:List PV,AV.only.sS p (l.map .pv)=true
 | []=>rfl
 | x::l=>by simp[AV.only.sS,AV.only,GX p l]
def cQ.Ŵ:∀ {e:cQ},e.oq p=true->AV.only.sS p e.cells=true
 | .app _ _ c,_=>GX p c
 | .box _,h=>h
 | .arr _ _ c,_=>GX p c
def pB (p:Nat->Bool):List cQ->Bool
 | []=>true
 | e::es=>e.oq p&&pB p es
def nth:List Nat->Nat->Nat
 | [],_=>0
 | k::_,0=>k
 | _::ks,j+1=>nth ks j
def below (m:Nat):Nat->Bool:=λj=>Nat.blt j m
def o7:∀ {es:List cQ} {i j:Nat} {e:cQ},bU (gi i es) j=some e->i<=j/\es[j - i]?=some e
 | [],_,_,_,h=>by cases h
 | a::es,i,j,e,h=>by
  simp only[gi,bU,uC] at h;split at h
  ·rename_i q;cases h;subst q;simp
  rename_i q;obtain ⟨h1,h2⟩:=o7 (es:=es) (i:=i+1) h;refine ⟨aD,?_⟩;rw[show j - i=(j - (i+1))+1 by omega];simpa using h2
def Ae:∀ {i j:Nat} {e:cQ},es[j]?=some e->bU (gi i es) (i+j)=some e:=by
 induction es with
 | nil=>intro i j e h;simp at h
 | cons a es ih=>
  intro i j e h
  cases j with
  | zero=>simp at h;simp[gi,bU,uC,h]
  | succ j=>
   have:=ih (i:=i+1) (j:=j) jk
   simp only[bU] at this
   simp only[gi,bU,uC]
   rw[aC aD,show i+(j+1)=i+1+j by omega];exact this
def A1:∀ {ks:List Nat},nodupB ks=true->∀ {i j:Nat},i<ks.length->j<ks.length->nth ks i=nth ks j->i=j:=by
 have mem:∀ {ks:List Nat} {j:Nat},j<ks.length->nth ks j∈ks:=by
  intro ks
  induction ks with
  | nil=>intro j h;simp at h
  | cons k ks ih=>
   intro j h
   cases j with
   | zero=>simp[nth]
   | succ j=>simp only[nth];exact sK _ (ih jk)
 intro ks
 induction ks with
 | nil=>intro _ i j h;simp at h
 | cons k ks ih=>
  intro h i j hi hj he
  simp only[nodupB,bk,fj] at h
  have hk:∀ j,j<ks.length->nth ks j≠k:=λj hj q=>by
   have h1:=mem hj;rw[q] at h1;have:ks.any (Nat.beq k)=true:=mB.2 ⟨k,h1,bm⟩;rw[h.1] at this;cases this
  cases i with
  | zero=>
   cases j with
   | zero=>rfl
   | succ j=>simp only[nth] at he;exact aw he.symm (hk j A5)
  | succ i=>
   cases j with
   | zero=>simp only[nth] at he;exact aw he (hk i FA)
   | succ j=>simp only[nth] at he;rw[ih h.2 FA A5 he]
def Am:∀ {ks:List Nat} {es:List cQ},Al s ks=some es->es.length=ks.length/\∀ j e,es[j]?=some e->bU s (nth ks j)=some e
 | [],_,h=>by simp[Al] at h;simp[h]
 | k::ks,es,h=>by
  simp only[Al] at h;split at h
  ·rename_i e es' he hes;cases h;obtain ⟨h1,h2⟩:=Am hes;refine ⟨by simp[h1],λj e' hj=>?_⟩;cases j with
   | zero=>simp at hj;subst hj;exact fv he
   | succ j=>exact h2 j e' A5
  cases h
def GC (π:Nat->Nat):∀ {es:List cQ} {j:Nat},(pA π es)[j]?=(es[j]?).map (cQ.lO π)
 | [],_=>by simp[pA]
 | e::es,0=>by simp[pA]
 | e::es,j+1=>by simp[pA,GC π (es:=es)]
def sA (π:Nat->Nat):∀ es:List cQ,(pA π es).length=es.length
 | []=>rfl
 | _::es=>by simp[pA,sA π es]
def GH:∀ {es:List cQ},pB p es=true->∀ {j:Nat} {e:cQ},es[j]?=some e->AV.only.sS p e.cells=true
 | [],_,j,e,h=>by simp at h
 | a::es,h,0,e,he=>by simp only[pB,bk] at h;simp at he;subst he;exact cQ.Ŵ h.1
 | a::es,h,j+1,e,he=>by simp only[pB,bk] at h;exact GH h.2 Dh
def Eg (k:Nat) (ks:List Nat):List (Nat×cQ)->Bool
 | []=>false
 | (j,e)::s=>(!ks.any (Nat.beq j)&&e.mq k)||Eg k ks s
def PE (l:List (Nat×AV)) (ds:List (FuncId×List AV)) (s:List (Nat×cQ)) (ks0:List Nat):List Nat->List cQ->Bool
 | _::ks,.box _::es=>PE l ds s ks0 ks es
 | k::ks,_::es=>!mA k l&&!jS k ds&&!Eg k ks0 s&&PE l ds s ks0 ks es
 | _,_=>true
def Fh (E:Env):List Nat->List cQ->Prop
 | _::ks,.box _::es=>Fh E ks es
 | k::ks,_::es=>E.fix k=none/\Fh E ks es
 | _,_=>True
variable {ks:List Nat}
def CI:∀ {s:List (Nat×cQ)},Eg k ks s=false->∀ j e,ks.any (Nat.beq j)=false->bU s j=some e->AV.iQ.ka k e.cells=false
 | [],_,j,e,_,h=>by cases h
 | (i,v)::s,h,j,e,hj,he=>by
  simp only[Eg,lq] at h;simp only[bU,uC] at he;split at he
  ·rename_i q;cases he;subst q;exact cQ.N6 (by simpa[hj] using h.1)
  exact CI h.2 j e hj he
def NK {E:Env} {ks0:List Nat}:∀ {ks:List Nat} {es:List cQ},PE l ds s ks0 ks es=true->Fh E ks es->∀ {j:Nat} {e:cQ},
  j<ks.length->es[j]?=some e->(∃ cs,e=.box cs)\/(mA (nth ks j) l=false/\jS (nth ks j) ds=false/\Eg (nth ks j) ks0 s=false/\E.fix (nth ks j)=none)
 | [],_,_,_,j,e,hj,_=>by simp at hj
 | _::_,[],_,_,j,e,_,he=>by simp at he
 | k::ks,.box cs::es,h,hf,0,e,_,he=>by simp at he;exact .inl ⟨cs,he.symm⟩
 | k::ks,.box cs::es,h,hf,j+1,e,hj,he=>NK (ks:=ks) (es:=es) h hf A5 Dh
 | k::ks,.arr _ _ _::es,h,hf,0,e,_,he=>by
  exact acT
 | k::ks,.arr _ _ _::es,h,hf,j+1,e,hj,he=>by
  exact ah1
 | k::ks,.app _ _ _::es,h,hf,0,e,_,he=>by
  exact acT
 | k::ks,.app _ _ _::es,h,hf,j+1,e,hj,he=>by
  exact ah1
def Ob:∀ {ks:List Nat} {es:List cQ},es.length=ks.length->nodupB ks=true->∀ k,
  bU (s8 ks es++s) k=match (List.range ks.length).find? (λj=>nth ks j==k) with|some j=>es[j]?|none=>bU s k:=by
 intro ks
 induction ks with
 | nil=>intro es _ _ k;cases es<;>simp[s8]
 | cons a ks ih=>
  intro es hl hn k
  cases es with
  | nil=>simp at hl
  | cons e es=>
   simp only[nodupB,bk] at hn
   have hr:List.range (a::ks).length=0::(List.range ks.length).map (·+1):=by
    rw[jI,List.range_succ_eq_map]
   rw[hr]
   simp only[List.find?_cons,nth]
   by_cases q:a=k
   ·subst q;simp[s8,bU,uC]
   ·have q':(a==k)=false:=by simpa using q
    have:=ih (es:=es) (by simpa using hl) hn.2 k
    simp only[bU] at this
    simp only[q',s8,mC,bU,uC]
    rw[aC (λh=>q h.symm),this]
    rw[List.find?_map]
    have:((λj=>nth (a::ks) j==k) ∘ (·+1))=λj=>nth ks j==k:=by funext j;simp[nth]
    rw[this]
    cases (List.range ks.length).find? (λj=>nth ks j==k)<;>simp
def yw {X:Type} (V:X->AV) (C:X->List cQ) (G:X->Prop) (H:AV->Prop):GL->fi->Prop:=
 λae σ=>(∃ x,G x/\ae=.ret (V x)/\σ=bU (gi 0 (C x)))\/(∃ v,H v/\ae=.panic v/\σ=bU [])
def Vc (h:(List.range ks.length).any (λi=>nth ks i==k)=false):ks.any (Nat.beq k)=false:=by
 rw[rV] at h ⊢;intro x hx q;obtain ⟨i,hi,rfl⟩:=qC hx;have key:∀ (ks:List Nat) (i:Nat) (h:i<ks.length),nth ks i=ks[i]:=by
  intro ks
  induction ks with
  | nil=>intro i h;simp at h
  | cons a ks ih=>
   intro i h
   cases i with
   | zero=>rfl
   | succ i=>simp only[nth];exact ih i jk
 refine h i FA ?_;rw[key ks i hi];have:=kH q;simp[this]
section
variable {P:Program} {Q:gh}
structure vf (E:Env) (ds:List (FuncId×List AV)) (l:List (Nat×AV)) (s:List (Nat×cQ)) (ks:List Nat) (f:Operand) (args:List Operand) (j5:FuncId) (fF:List AV) (es:List cQ) (first cap vs:List AV) (l':List (Nat×AV):=l):Prop where
 f:bT l f=some (.fn j5 first cap)
 a:yN l args=some vs
 e:first++vs++cap=AV.lO.tB (nth ks) fF
 gs:Al s ks=some (pA (nth ks) es)
 nd:nodupB ks=true
 bx:PE l' ds s ks ks es=true
 fx:Fh E ks es
variable {X:Type} {V:X->AV} {C:X->List cQ} {G:X->Prop} {H:AV->Prop} {f:Operand} {args:List Operand} {j5:FuncId} {fF first cap:List AV} {next:kG->fi->Prop}
def Kl {l':List (Nat×AV)} (hwk:(cx l ds).le (cx l' ds)) (ks:List Nat) (vN:Enters P j5) (ho:o.op=.call ⟨.value f,args.toArray,ts⟩) (hC:SC P j5 fF (bU (gi 0 es)) (yw V C G H)) (hk:vf E ds l s ks f args j5 fF es first cap vs l') (hd:∀ d,o.dst=some d->d<n) (hx:∀ x,G x->(C x).length=ks.length/\pB (below ks.length) (C x)=true/\(V x).only (below ks.length)=true) (nP:∀ x,G x->next ((cx l' ds).pS o.dst ((V x).lO (nth ks))) (bU (s8 ks (pA (nth ks) (C x))++s))) (vK:∀ v,H v->v.only (λ_=>false)=true/\Q (.panic v) (cx l' ds) (after (bU s) (nth ks) (List.range ks.length) [] (bU []))):Step P E n Q o (cx l ds) (bU s) next:=by
 obtain ⟨hl,JV⟩:=Am hk.gs;rw[sA] at hl;have hcon:∀ j,(List.range ks.length).contains j=below ks.length j:=λj=>by
  exact ahk
 have Ve:(List.range ks.length).contains=below ks.length:=funext hcon;have hltr:∀ j,below ks.length j=true->j<ks.length:=λj h=>A7.1 h;have vy:∀ j,(bU (gi 0 es) j).isSome=true->j<ks.length:=λj hj=>by
  cases q:bU (gi 0 es) j with
  | none=>rw[q] at hj;cases hj
  | some e=>
   obtain ⟨_,h2⟩:=o7 q
   have:=(ao.1 h2).1
   simp at this;omega
 refine Ke hwk (nth ks) (List.range ks.length) vN ho (dQ hk.f) UG hC (λj hj=>by simpa using vy j hj) (λj e hj=>?_)
  (λj j' hj yL he=>A1 hk.nd (vy j hj) (vy j' yL) he) hd (λv σc hr=>?_) (λv σc hr=>?_)
 ·exact ZC
 ·rcases hr with ⟨x,hg,he,rfl⟩|⟨_,_,he,_⟩
  ·cases he;obtain ⟨h1,h2,h3⟩:=hx x hg;refine ⟨List.range ks.length,{ Ŭ:=λj e hj=>?_,val:=by rw[Ve];exact h3,inj:=λj j' hj yL he=>A1 hk.nd A5 Vb he,same:=λj hj=>?_ },?_⟩
   ·exact ahV
   ·exact ahi
   have:after (bU s) (nth ks) (List.range ks.length) (List.range ks.length) (bU (gi 0 (C x)))=bU (s8 ks (pA (nth ks) (C x))++s):=by
    funext k;rw[Ob UT hk.nd];simp only[after];cases hf:(List.range ks.length).find? (λj=>nth ks j==k) with
    | some j=>
     exact ahz
    | none=>
     exact adX
   rw[this];exact nP x hg
  cases he
 rcases hr with ⟨_,_,he,_⟩|⟨v',hh,he,rfl⟩
 ·cases he
 cases he;obtain ⟨h1,h2⟩:=vK v hh;refine ⟨[],{ Ŭ:=λj e hj=>(by cases hj),val:=?_,inj:=λj _ hj=>(by simp at hj),same:=λj hj=>(by simp at hj) },?_⟩
 ·have:([]:List Nat).contains=λ_=>false:=by funext k;simp
  rw[this];exact h1
 rw[B4 h1];exact h2
def Xn (ks:List Nat) (vN:Enters P j5) (ho:o.op=.call ⟨.value f,args.toArray,ts⟩) (hC:SC P j5 fF (bU (gi 0 es)) (yw V C G H)) (hk:vf E ds l s ks f args j5 fF es first cap vs) (hd:∀ d,o.dst=some d->d<n) (hx:∀ x,G x->(C x).length=ks.length/\pB (below ks.length) (C x)=true/\(V x).only (below ks.length)=true) (nP:∀ x,G x->next ((cx l ds).pS o.dst ((V x).lO (nth ks))) (bU (s8 ks (pA (nth ks) (C x))++s))) (vK:∀ v,H v->v.only (λ_=>false)=true/\Q (.panic v) (cx l ds) (after (bU s) (nth ks) (List.range ks.length) [] (bU []))):Step P E n Q o (cx l ds) (bU s) next:=
 Kl US ks vN ho hC hk hd hx nP vK
end
end
section
variable {P:Program} {Q:gh} {s:List (Nat×cQ)}
 {ty:TypeId} {pos:String} {af:Array Edge}
variable {m:Nat} {e:cQ} {X:Type} {V:X->AV} {C:X->List cQ} {G:X->Prop} {H:AV->Prop} {es:List cQ} {fn:Func}
def NF {n:Nat} (h:Nat.blt d n=true):∀ x,some d=some x->x<n:=λx hx=>by cases hx;exact A7.1 h
def gH {z:List Value} [hz:qG P t z] {zs:List AV} (nm:Nat) (hE:E.fix nm=none) (h:z.map (λv=>AV.pv (.sc v))=zs/\mA nm l=false/\jS nm ds=false/\px nm s=false) (hd:Nat.blt d n=true) (hn:SL P E n ops Q rest (cx ((d,.ptr nm 0)::l) ds) (bU ((nm,.box zs)::s))):SL P E n ops Q (⟨some d,.alloc t,ty,pos,af,none⟩::rest) (cx l ds) (bU s):=
 qE rfl (Jd (QF nm hz.h) (tT h.2.1 h.2.2.1) (zT h.2.2.2) hE By (by rw[h.1];exact hn))
variable {y:Operand} {c:List AV}
def QV:List AV->Nat->List AV->List AV
 | cs,0,v=>ovl cs v
 | [],_+1,_=>[]
 | c::cs,k+1,v=>c::QV cs k v
where
 ovl:List AV->List AV->List AV
  | cs,[]=>cs
  | [],_::_=>[]
  | _::cs,v::vs=>v::ovl cs vs
def Z3:∀ {cs v:List AV},v.length<=cs.length->QV.ovl cs v=v++cs.drop v.length
 | cs,[],_=>by simp[QV.ovl]
 | [],_::_,h=>by simp at h
 | c::cs,v::vs,h=>by simp[QV.ovl,Z3 (cs:=cs) (v:=vs) jk]
def Vx:∀ {cs:List AV} {off:Nat} {v:List AV},off+v.length<=cs.length->QV cs off v=cs.take off++v++cs.drop (off+v.length)
 | cs,0,v,h=>by simp[QV,Z3 (cs:=cs) (v:=v) jk]
 | [],k+1,v,h=>by simp at h
 | c::cs,k+1,v,h=>by
  simp only[QV];rw[Vx (cs:=cs) (off:=k) (v:=v) (by simp at h;omega)];simp[show k+1+v.length=(k+v.length)+1 by omega]
def cQ.put (off:Nat) (v:List AV):cQ->cQ
 | .box cs=>.box (QV cs off v)
 | e=>e
def cQ.FG:cQ->Bool
 | .box _=>true
 | _=>false
def put_eq {v:List AV} (hb:e.FG=true) (h:off+v.length<=e.cells.length):e.Xe off v=e.put off v:=by
 cases e with
 | box cs=>simp only[cQ.Xe,cQ.put];rw[Vx (cs:=cs) h]
 | arr el sz cs=>cases hb
 | app el sz cs=>cases hb
def HM (h:e.FG=true):e.isApp=false:=by cases e<;>first|rfl|cases h
def HN {p:Prop} (h:e.FG=true) (q:e.ZW=true):p:=by cases e with|box _=>cases q|arr _ _ _=>cases h|app _ _ _=>cases h
def QW [ht:yn P t m] (h:bT l x=some (.ptr k off)/\dF s k=some e/\e.FG=true/\bT l y=some v/\v.jl=some c/\AV.pq c=true/\c.length=m/\Nat.ble (off+c.length) e.cells.length=true) (hn:∀ e',e.put off c=e'->SL P E n ops Q rest (cx l ds) (bU ((k,e')::s))):SL P E n ops Q (⟨none,.store t x y,ty,pos,af,none⟩::rest) (cx l ds) (bU s):=by
 obtain ⟨hx,hk,BX,hy,hc,h1,hm,hl⟩:=h;have LW:=fR hl;refine qE rfl (CK rfl rfl jT MI (HM BX) Zx h1 UL LW (HN BX) ?_);rw[put_eq BX LW];exact hn _ rfl
def acZ {e:TypeId} {sz:Nat} {parts:List (Nat×Operand)} {zs:List Value} {pl:List (Nat×Nat)} {pv:List (Nat×AV)} {cells:List PV} [ht:ng P t m e sz zs pl] (h:parts.mapM (λp=>(bT l p.2).map λv=>(p.1,v))=some pv/\nr pl (zs.map λv=>.pv (.sc v)) pv=some (cells.map .pv)) (hd:Nat.blt d n=true) (hn:SL P E n ops Q rest (cx ((d,.pv (.sl m cells))::l) ds) (bU s)):SL P E n ops Q (⟨some d,.buildSlice t m parts.toArray,ty,pos,af,none⟩::rest) (cx l ds) (bU s):=by
 refine qE rfl (Vn (BB ht.h ?_) By hn);have key:∀ (ps:List (Nat×Operand)) (pv:List (Nat×AV)),ps.mapM (λp=>(bT l p.2).map λv=>(p.1,v))=some pv->(ps.map λp=>(p.1,(cx l ds).val p.2))=pv:=by
  intro ps
  induction ps with
  | nil=>intro pv h;simp at h;simp[h]
  | cons p ps ih=>
   intro pv h
   rw[xr] at h
   cases hv:bT l p.2 with
   | none=>simp[hv] at h
   | some v=>
    cases hr:ps.mapM (λp=>(bT l p.2).map λv=>(p.1,v)) with
    | none=>simp[hv,hr] at h
    | some r=>
     exact ZG
 rw[key parts pv h.1];exact h.2
def Ty {fr:kG} {σ:fi} (hd:fr.ds=[]) (h:H v):vL P fn (yw V C G H) (.panic v) fr σ:=
 ⟨hd,bU [],λk e hk=>(by cases hk),.inr ⟨v,h,rfl,rfl⟩⟩
def QX (h:∀ j e,es[j]?=some e->dF s j=some e):∀ k e,bU (gi 0 es) k=some e->bU s k=some e:=λk e hk=>by
 obtain ⟨_,h2⟩:=o7 hk;exact fv (h k e wZ)
def HO (s:List (Nat×cQ)):Nat->List cQ->Prop
 | _,[]=>True
 | i,e::es=>dF s i=some e/\HO s (i+1) es
def HP:∀ {es:List cQ} {i:Nat},HO s i es->∀ j e,es[j]?=some e->dF s (i+j)=some e
 | [],_,_,j,e,h=>by simp at h
 | a::es,i,h,0,e,he=>by simp at he;subst he;exact h.1
 | a::es,i,h,j+1,e,he=>by
  have:=HP h.2 j e Dh;rw[show i+(j+1)=i+1+j by omega];exact this
def BS {ae:MW} (SO:ae=.ret\/ae=.normal) (x:X) (hr:PJ P (cx l []) (bU s) fn.results.toList vs) (hg:G x) (hle:(yu vs).le (V x)) (hm:HO s 0 (C x)):vL P fn (yw V C G H) ae (cx l []) (bU s):=by
 have h:(cx l []).ds=[]/\∃ vs v σ',PJ P (cx l []) (bU s) fn.results.toList vs/\(yu vs).le v/\(∀ k e,σ' k=some e->bU s k=some e)/\yw V C G H (.ret v) σ':=
  ⟨rfl,vs,V x,bU (gi 0 (C x)),hr,hle,QX (λj e hj=>by have:=HP hm j e hj;simpa using this),.inl ⟨x,hg,rfl,rfl⟩⟩
 rcases SO with rfl|rfl
 ·exact h
 exact h
def CA {t:Nat} (h:mj l t=some v):RV P (cx l ds) (bU s) (.tmp t) v:=by rw[<- jF h];exact .tmp t
variable {a:Nat}
def tq {cs:List AV} [ht:yn P t m] [ha:nX P t true] (hk:mj l a=some (.ptr k 0)) (hs:dF s k=some (.box cs)) (hm:cs.length=m) :
 RV P (cx l ds) (bU s) (.cell a t) (.agg cs):=.agg (jF hk) (fv hs) UL ha.h
def Jy {c:AV} [ha:nX P t false] (hk:mj l a=some (.ptr k 0)) (hs:dF s k=some (.box [c])):RV P (cx l ds) (bU s) (.cell a t) c:=.one (jF hk) (fv hs) ha.h
def Km (args:List AV):(⟨λi=>args[i]?.getD .any,[]⟩:kG)=cx ((List.range args.length).zip args) []:=by
 simp only[cx,kG.mk.injEq,and_true];funext i;have key:∀ (l:List AV) (k i:Nat),s6 ((List.range' k l.length).zip l) (k+i)=l[i]?.getD .any:=by
  intro l
  induction l with
  | nil=>intro k i;simp[s6]
  | cons a l ih=>
   intro k i
   simp only[jI,List.range'_succ,List.zip_cons_cons,s6]
   cases i with
   | zero=>simp
   | succ i=>
    rw[aC aD,show k+(i+1)=k+1+i by omega,ih];simp
 have:=key args 0 i;rw[List.range_eq_range'];simpa using this.symm
def fc:List cQ->Nat->Bool
 | [],_=>true
 | .box _::_,0=>false
 | _::_,0=>true
 | _::es,k+1=>fc es k
def ŵ {f:FuncId} {c:Code} {args:List AV} {R:GL->fi->Prop} (hf:P.funcs[f]?=some fn) (hb:fn.body=some c) (hn:Nat.ble args.length fn.ntmps=true) (h:∀ E:Env,(∀ k,fc es k=true->E.fix k=none)->SW P E fn.ntmps c (vL P fn R) (cx ((List.range args.length).zip args) []) (bU (gi 0 es))):SC P f args (bU (gi 0 es)) R:=
 ZY hf hb UU λE hE=>by
  rw[Km];refine h E λk hk=>hE k λcs xm=>?_;exact ahc
end
section
variable {P:Program} {Q:gh}
abbrev DX (P:Program) (E:Env) (n:Nat) (ops:Array Oper) (Q:gh) (x y:Nat):List Nat->List Rec->kG->fi->Prop:=oN P E n ops Q λbj fr σ=>DW P E n ops Q [x,y] bj fr σ/\DW P E n ops Q [y,x] bj fr σ
variable {x y:Nat}
def Inv.swap {bj:List Rec} (h:Inv P E n ops listed [x,y] bj fr σ) (hp:vV ops [y,x]=true):Inv P E n ops listed [y,x] bj fr σ:=
 {
  size:=h.size
  todo:=λi hi=>h.todo i (by simp at hi ⊢;exact hi.symm)
  done:=λi o ho hi=>h.done i o ho (by simp at hi ⊢;exact ⟨hi.2,hi.1⟩)
  qB:=λr hr=>by
   obtain ⟨h1,h2⟩:=h.qB r hr;exact ⟨by simp at h1 ⊢;exact ⟨h1.2,h1.1⟩,h2⟩
  Kh:=λi hi=>h.Kh i (by simp at hi ⊢;exact hi.symm)
  apart:=h.apart,names:=h.names,M0:=h.M0
  JZ:=λi j hi Ho hj=>h.JZ i j hi (by simp at Ho ⊢;exact ⟨Ho.2,Ho.1⟩) (by simp at hj ⊢;exact hj.symm)
  HJ:=hp
  down:=h.down,M1:=h.M1,reads:=h.reads,oP:=h.oP,ds:=h.ds,Xk:=h.Xk,D8:=h.D8 }
def QY {i:Nat} {o:Oper} (ho:ops[i]?=some o) (hr:∀ e,e∈o.after.toList->Region.binds .any e=true->Cx listed e.on=true) :
  ∀ (L:List Nat) (bj:List Rec) (fr:kG) (σ:fi) (g:Gh) (a:Act) (w:World),i∈L++[x,y]->strict ops (L++[x])=true->strict ops (L++[y])=true->Inv P E n ops listed (L++[x,y]) bj fr σ->DX P E n ops Q x y L bj fr σ->
   Rel E g (jd σ (mS listed bj)) w->FR n g (jm fr (mF listed bj)) a->
   (∃ L' qF oM σ',strict ops (i::L'++[x])=true/\strict ops (i::L'++[y])=true/\Inv P E n ops listed (i::(L'++[x,y])) qF oM σ'/\DX P E n ops Q x y (i::L') qF oM σ'/\Rel E g (jd σ' (mS listed qF)) w/\FR n g (jm oM (mF listed qF)) a)\/
   ((i=x\/i=y)/\∃ qF oM σ',Inv P E n ops listed [x,y] qF oM σ'/\DX P E n ops Q x y [] qF oM σ'/\Rel E g (jd σ' (mS listed qF)) w/\FR n g (jm oM (mF listed qF)) a)
 | [],bj,fr,σ,g,a,w,hi,_,_,hI,hD,hR,hF=>.inr ⟨FA,bj,fr,σ,hI,hD,hR,hF⟩
 | c::L,bj,fr,σ,g,a,w,hi,SP,Tq,hI,hD,hR,hF=>by
  by_cases q:c=i
  ·subst q;exact .inl ⟨L,bj,fr,σ,SP,Tq,hI,hD,hR,hF⟩
  ·have Ho:i∈L++[x,y]:=by
    rcases cf.1 hi with h|h
    ·exact aw h.symm q
    ·exact h
   obtain ⟨oc,QN,hS⟩:=hD
   have hPP:=hI.HJ
   simp only[mC,vV,bk] at hPP
   have Ip:BC ops c i=true:=iS.1 hPP.1.2 i Ho
   have hhv:fB oc=false:=by
    cases h:fB oc with
    | false=>rfl
    | true=>
     have h1:xM ops ops.size i c=true:=by
      rcases (xq QN ho Ip).2.2 h with h0|h0
      ·have:i∈L++[x]\/i∈L++[y]:=by
        simp only[bL,cf,cw,or_false] at Ho ⊢
        rcases Ho with h|h|h
        ·exact .inl (.inl h)
        ·exact .inl (.inr h)
        ·exact .inr (.inr h)
       rcases this with hm|hm
       ·exact HI SP hm QN ho h h0
       ·exact HI Tq hm QN ho h h0
      ·exact h0
     have h2:=Af hI.down _ _ _ o ho hr h1
     rw[(hI.todo c bm).2] at h2;cases h2
   obtain ⟨r,qF,oM,σ',rfl,_,hn,J7,kL,sR⟩:=walk hI QN hhv hS hR hF
   exact QY ho hr L _ oM σ' g a w Ho (rf SP) (rf Tq) J7 hn kL sR
def aek {ox oy:Oper} (hox:ops[x]?=some ox) (hoy:ops[y]?=some oy) (hhx:fB ox=true) (hhy:fB oy=true) (hpp:vV ops [y,x]=true) (hsm:∀ i o,ops[i]?=some o->∀ e,e∈o.after.toList->Region.binds .any e=true->e.on<i) :
  ∀ (fuel:Nat) (listed:Array Bool) (L:List Nat) (bj:List Rec) (fr:kG) (σ:fi) (g:Gh) (a:Act) (w:World),left ops listed<=fuel->strict ops (L++[x])=true->strict ops (L++[y])=true->Inv P E n ops listed (L++[x,y]) bj fr σ->DX P E n ops Q x y L bj fr σ->
   Rel E g (jd σ (mS listed bj)) w->FR n g (jm fr (mF listed bj)) a->wpAny P .any ops (LQ E n Q) fuel listed a w:=by
 intro fuel
 have never:∀ listed L bj fr σ,Inv P E n ops listed (L++[x,y]) bj fr σ->(∀ i,i<ops.size->Cx listed i=true)->False:=λlisted L bj fr σ hI Fg=>by
  have:=hI.todo x bm
  rw[Fg x this.1] at this;cases this.2
 induction fuel with
 | zero=>
  intro listed L bj fr σ g a w hfu SP Tq hI hD hR hF
  exfalso
  refine never listed L bj fr σ hI λi hi=>?_
  exact ahY
 | succ fuel ih=>
  intro listed L bj fr σ g a w hfu SP Tq hI hD hR hF
  refine ⟨λhnil=>(never listed L bj fr σ hI (Vv hI hsm hnil)).elim,λi hi=>?_⟩
  obtain ⟨h1,h2,o,ho,hr⟩:=F8 hI.size hi
  have hlf:left ops (listed.setIfInBounds i true)<=fuel:=by have:=QO hI.size h1 h2;omega
  have QQ:∀ L bj fr σ g a w,strict ops (L++[x])=true->strict ops (L++[y])=true->(∃ r,r∈ve listed bj/\r.i=i)->Inv P E n ops listed (L++[x,y]) bj fr σ->DX P E n ops Q x y L bj fr σ->Rel E g (jd σ (mS listed bj)) w->FR n g (jm fr (mF listed bj)) a->
    wpOp P ops (LQ E n Q) i (wpAny P .any ops (LQ E n Q) fuel (listed.setIfInBounds i true)) a w:=by
   rintro L bj fr σ g a w SP Tq ⟨r,SN,Dr⟩ hI hD hR hF
   exact QL hI ho hr SN Dr hR hF λg' a' w' J7 kL sR=>ih _ L bj fr σ g' a' w' hlf SP Tq J7 hD kL sR
  by_cases Ho:i∈L++[x,y]
  ·rcases QY ho hr L bj fr σ g a w Ho SP Tq hI hD hR hF with ⟨L',qF,oM,σ',hs1',hs2',J7,hD',kL,sR⟩|⟨hxy,qF,oM,σ',J7,hD',kL,sR⟩
   ·obtain ⟨oc,QN,hS⟩:=hD'
    rw[ho] at QN;cases QN
    cases hh:fB o with
    | true=>
     exact HK J7 ho hh hr hS kL sR λg2 fr2 σ2 a2 w2 hn hI2 LZ Vs=>ih _ L' qF fr2 σ2 g2 a2 w2 hlf (rf hs1') (rf hs2') hI2 hn LZ Vs
    | false=>
     obtain ⟨r,recs2,fr2,σ2,rfl,Dr,hn,hI2,LZ,Vs⟩:=walk J7 ho hh hS kL sR
     exact QQ L' _ fr2 σ2 g a w (rf hs1') (rf hs2') ⟨r,gk.2 ⟨bm,UX⟩,Dr⟩ hI2 hn LZ Vs
   ·have fin:∀ u v ou,ops[u]?=some ou->fB ou=true->i=u->Inv P E n ops listed [u,v] qF oM σ'->DW P E n ops Q [u,v] qF oM σ'->
      wpOp P ops (LQ E n Q) i (wpAny P .any ops (LQ E n Q) fuel (listed.setIfInBounds i true)) a w:=λu v ou hou hhu hiu hIu hDu=>by
     subst hiu
     obtain ⟨oc,QN,hS⟩:=hDu
     rw[ho] at QN;cases QN
     rw[ho] at hou;cases hou
     exact HK hIu ho hhu hr hS kL sR λg2 fr2 σ2 a2 w2 hn hI2 LZ Vs=>QP hsm fuel _ [v] qF fr2 σ2 g2 a2 w2 hlf rfl hI2 hn LZ Vs
    rcases hxy with q|q
    ·exact fin x y ox hox hhx q J7 hD'.1
    ·exact fin y x oy hoy hhy q (J7.swap hpp) hD'.2
  ·obtain ⟨hd1,GW⟩:=hI.done i o ho Ho
   cases hh:fB o with
   | true=>rw[hd1 hh] at h2;cases h2
   | false=>
    obtain ⟨r,Hp,Dr⟩:=GW hh
    exact QQ L bj fr σ g a w SP Tq ⟨r,gk.2 ⟨Hp,UX⟩,Dr⟩ hI hD hR hF
def ael (ops:Array Oper) (L:List Nat) (x y:Nat):Bool:=
 (L++[x,y]).all (HA ops)&&(List.range ops.size).all (λi=>(L++[x,y]).contains i)&&(L++[x,y]).all (λi=>decide (i<ops.size))&&vV ops (L++[x,y])&&
  strict ops (L++[x])&&strict ops (L++[y])&&vV ops [y,x]&&(match ops[x]?,ops[y]? with|some a,some b=>fB a&&fB b|_,_=>false)
def Z4 {id:Nat} (L:List Nat) (x y:Nat) (hm:P.follows .mixedOrders=true) (Ee:ael ops L x y=true) (h:DX P E n ops Q x y L [] fr σ):SW P E n (.region id ops true) Q fr σ:=by
 intro g a w hR hF;simp only[ael,bk,iS,decide_eq_true_eq] at Ee;obtain ⟨⟨⟨⟨⟨⟨⟨Aj,Fg⟩,hin⟩,Tx⟩,SP⟩,Tq⟩,hpp⟩,hhv⟩:=Ee;have hsm:∀ i o,ops[i]?=some o->∀ e,e∈o.after.toList->Region.binds .any e=true->e.on<i:=λi o ho e he hb=>by
  have hi:i<ops.size:=by
   exact yC9
  have h1:=Aj i (by have:=Fg i (tV.2 hi);simpa using this);exact acO
 have BY:∀ i,Cx (Array.replicate ops.size false) i=false:=λi=>by
  exact ahM
 have hmem:∀ i,i<ops.size->i∈L++[x,y]:=λi hi=>by have:=Fg i (tV.2 hi);simpa using this
 have hI:Inv P E n ops (Array.replicate ops.size false) (L++[x,y]) [] fr σ:=
  Inv.mk bm (λi hi=>⟨hin i hi,BY i⟩) (λi o ho hi=>by
    exfalso
    have gR:i<ops.size:=by
     exact yC9
    exact hi (hmem i gR)) ID Aj MB (λr _ _ hr=>by cases hr) MB
   (λi j hi Ho hj=>aw (hmem i hi) Ho) Tx (λi o _ h=>by rw[BY i] at h;cases h) ID ID
   ID ID ID MB
 have h1:mF (Array.replicate ops.size false) []=λ_=>false:=rfl;have h2:mS (Array.replicate ops.size false) []=λ_=>false:=rfl;have h3:jm fr (λ_=>false)=fr:=by simp[jm]
 have h4:jd σ (λ_=>false)=σ:=by funext k;simp[jd]
 split at hhv
 ·rename_i ox oy hox hoy;simp only[bk] at hhv;refine wp_region_any hm (aek hox hoy hhv.1 hhv.2 hpp hsm ops.size _ L [] fr σ g a _ ?_ SP Tq hI h ?_ ?_)
  ·exact jV (List.countP_le_length) bm
  ·rw[h2,h4];exact hR.drew
  rw[h1,h3];exact hF
 cases hhv
end
section
def FH (ops:Array Oper) (i:Nat) (v:AV) (rd:List (Nat×cQ)):List Rec->Bool
 | []=>true
 | r::rs=>(match r.nm with|none=>true|some nm=>xM ops ops.size i r.i||(!v.iQ nm&&rd.all λp=>!Nat.beq p.1 nm))&&FH ops i v rd rs
variable {rd:List (Nat×cQ)} {g:Nat}
def F9 {ops:Array Oper} {i:Nat}:∀ {bj:List Rec},FH ops i v rd bj=true->
  ∀ r,r∈mi ops bj i->∀ nm,r.nm=some nm->v.iQ nm=false/\∀ p,p∈rd->p.1≠nm
 | [],_,r,hr=>by simp[mi] at hr
 | a::rs,h,r,hr=>by
  simp only[FH,bk] at h
  intro nm pX
  simp only[mi,gK,fj] at hr
  rcases cf.1 hr.1 with q|q
  ·subst q
   have h1:=h.1
   rw[pX] at h1
   simp only[hr.2,ll,bk,fj,iS] at h1
   refine ⟨h1.1,λp hp e=>?_⟩
   have:=h1.2 p hp
   rw[e] at this
   simp at this
  ·exact F9 h.2 r (by simp[mi,q,hr.2]) nm pX
section
variable {P:Program} {Q:gh} {B:List Rec->kG->fi->Prop} {L:List Nat} {bj:List Rec} {s:List (Nat×cQ)}
 {ty:TypeId} {pos:String} {af:Array Edge}
def An (h:Q .normal (cx l ds) (bU s)):DW P E n ops Q [] bj (cx l ds) (bU s):=h
def ac0 (ho:ops[i]?=some ⟨some d,op,ty,pos,af,none⟩) (h:mH P op l ds s v rd) (hc:fB ⟨some d,op,ty,pos,af,none⟩=false/\Nat.blt d n=true/\FH ops i v rd bj=true) (hn:oN P E n ops Q B L (⟨i,some d,rd,none⟩::bj) (cx ((d,v)::l) ds) (bU s)):oN P E n ops Q B (i::L) bj (cx l ds) (bU s):=
 ⟨_,ho,.ev (.inl rfl) hc.1 h.h h.r (NF hc.2.1) (F9 hc.2.2) hn⟩
def aem (ho:ops[i]?=some ⟨some d,op,ty,pos,af,some (j,want)⟩) (hj:(ops[j]?).bind (·.dst)=some g/\mj l g=some (Bo want)) (h:mH P op l ds s v rd) (hc:fB ⟨some d,op,ty,pos,af,some (j,want)⟩=false/\Nat.blt d n=true/\FH ops i v rd bj=true) (hn:oN P E n ops Q B L (⟨i,some d,rd,none⟩::bj) (cx ((d,v)::l) ds) (bU s)):oN P E n ops Q B (i::L) bj (cx l ds) (bU s):=
 ⟨_,ho,.ev (.inr ⟨j,want,g,rfl,hj.1,jF hj.2⟩) hc.1 h.h h.r (NF hc.2.1) (F9 hc.2.2) hn⟩
def aif (ho:ops[i]?=some ⟨some d,op,ty,pos,af,some (j,want)⟩) (hj:(ops[j]?).bind (·.dst)=some g/\mj l g=some (Bo b)/\(b==want)=false) (hc:fB ⟨some d,op,ty,pos,af,some (j,want)⟩=false/\Nat.blt d n=true) (hn:oN P E n ops Q B L (⟨i,some d,[],none⟩::bj) (cx ((d,Sc undef)::l) ds) (bU s)):oN P E n ops Q B (i::L) bj (cx l ds) (bU s):=
 agK
def aen (ho:ops[i]?=some ⟨some d,op,ty,pos,af,some (j,want)⟩) (hj:(ops[j]?).bind (·.dst)=some g/\mj l g=some (Bo b)/\(b==want)=false) (hc:fB ⟨some d,op,ty,pos,af,some (j,want)⟩=true/\Nat.blt d n=true) (hn:oN P E n ops Q B L bj (cx ((d,Sc undef)::l) ds) (bU s)):oN P E n ops Q B (i::L) bj (cx l ds) (bU s):=
 agK
def aih (ho:ops[i]?=some ⟨some d,op,ty,pos,af,some (j,want)⟩) (hj:(ops[j]?).bind (·.dst)=some g/\mj l g=some (Sc undef)) (hc:fB ⟨some d,op,ty,pos,af,some (j,want)⟩=false/\Nat.blt d n=true) (hn:oN P E n ops Q B L (⟨i,some d,[],none⟩::bj) (cx ((d,Sc undef)::l) ds) (bU s)):oN P E n ops Q B (i::L) bj (cx l ds) (bU s):=
 ab2
def aeo (ho:ops[i]?=some ⟨some d,op,ty,pos,af,some (j,want)⟩) (hj:(ops[j]?).bind (·.dst)=some g/\mj l g=some (Sc undef)) (hc:fB ⟨some d,op,ty,pos,af,some (j,want)⟩=true/\Nat.blt d n=true) (hn:oN P E n ops Q B L bj (cx ((d,Sc undef)::l) ds) (bU s)):oN P E n ops Q B (i::L) bj (cx l ds) (bU s):=
 ab2
def nt:List Rec->Bool
 | []=>true
 | r::rs=>r.nm.isNone&&nt rs
def pN:∀ {bj:List Rec},nt bj=true->∀ r,r∈bj->r.nm=none
 | [],_,r,hr=>by cases hr
 | a::rs,h,r,hr=>by
  simp only[nt,bk,Option.isNone_iff_eq_none] at h;rcases cf.1 hr with q|q
  ·subst q;exact h.1
  exact pN h.2 r q
mutual
def EX {p q:Nat->Bool} (hpq:∀ k,p k=true->q k=true):∀ {v:AV},v.only p=true->v.only q=true
 | .any,_=>rfl
 | .oc,_=>rfl
 | .pv _,_=>rfl
 | .ptr _ _,h=>hpq _ h
 | .arr _ _,h=>hpq _ h
 | .sp _,_=>rfl
 | .fn f xs ys,h=>by simp only[AV.only,bk] at h ⊢;exact ⟨Ao hpq h.1,Ao hpq h.2⟩
 | .agg cs,h=>by simp only[AV.only] at h ⊢;exact Ao hpq h
 | .lM cs,h=>by simp only[AV.only] at h ⊢;exact Ao hpq h
 | .vu t v,h=>by simp only[AV.only] at h ⊢;exact EX hpq h
def Ao {p q:Nat->Bool} (hpq:∀ k,p k=true->q k=true):∀ {v:List AV},AV.only.sS p v=true->AV.only.sS q v=true
 | [],_=>rfl
 | x::xs,h=>by simp only[AV.only.sS,bk] at h ⊢;exact ⟨EX hpq h.1,Ao hpq h.2⟩
end
def Eh (ks:List Nat):List Rec->Bool
 | []=>true
 | r::rs=>(match r.nm with
  | none=>true
  | some k=>!ks.any (Nat.beq k))&&Eh ks rs
def Ei {ks:List Nat}:∀ {bj:List Rec},Eh ks bj=true->∀ r,r∈bj->∀ nm,r.nm=some nm->nm ∉ ks
 | a::rs,h,r,hr,nm,hn,hk=>by
  simp only[Eh,bk] at h;rcases cf.1 hr with q|q
  ·subst q;rw[hn] at h;have h1:=h.1;simp only[fj,rV,vd] at h1;have:=h1 nm hk;simp at this
  exact Ei h.2 r q nm hn hk
def Jf:∀ {ks:List Nat} {j:Nat},j<ks.length->nth ks j∈ks
 | _::_,0,_=>by simp[nth]
 | _::ks,j+1,h=>by simp only[nth];exact sK _ (Jf jk)
mutual
def Kn {ks:List Nat} {nm:Nat} (hn:nm ∉ ks):∀ {v:AV},v.only (below ks.length)=true->(v.lO (nth ks)).iQ nm=false
 | .any,_=>rfl
 | .oc,_=>rfl
 | .pv _,_=>rfl
 | .ptr j _,h=>by
  simp only[AV.only] at h;simp only[AV.lO,AV.iQ];have:=Jf (ks:=ks) (A7.1 h);simp;intro q;subst q;exact hn this
 | .arr j _,h=>by
  simp only[AV.only] at h;simp only[AV.lO,AV.iQ];have:=Jf (ks:=ks) (A7.1 h);simp;intro q;subst q;exact hn this
 | .sp _,_=>rfl
 | .fn f xs ys,h=>by simp only[AV.only,bk] at h;simp only[AV.lO,AV.iQ,zV hn h.1,zV hn h.2,Bool.or_self]
 | .agg cs,h=>by simp only[AV.only] at h;simp only[AV.lO,AV.iQ,zV hn h]
 | .lM cs,h=>by simp only[AV.only] at h;simp only[AV.lO,AV.iQ,zV hn h]
 | .vu t v,h=>by simp only[AV.only] at h;simp only[AV.lO,AV.iQ];exact Kn hn h
def zV {ks:List Nat} {nm:Nat} (hn:nm ∉ ks):∀ {v:List AV},AV.only.sS (below ks.length) v=true->AV.iQ.ka nm (AV.lO.tB (nth ks) v)=false
 | [],_=>rfl
 | x::xs,h=>by simp only[AV.only.sS,bk] at h;simp only[AV.lO.tB,AV.iQ.ka,Kn hn h.1,zV hn h.2,Bool.or_self]
end
def qn (ops:Array Oper) (i:Nat) (s':List (Nat×cQ)) (bj:List Rec):Prop:=
 ∀ r,r∈mi ops bj i->∀ p,p∈r.rd->∃ e,dF s' p.1=some e/\e.le p.2
def HQ (ho:ops[i]?=some ⟨some d,.assign x,ty,pos,af,none⟩) (hx:bT l x=some v) (hd:Nat.blt d n=true) (hs:qn ops i s bj) (pX:nt bj=true) (hn:oN P E n ops Q B L bj (cx ((d,v)::l) ds) (bU s)):oN P E n ops Q B (i::L) bj (cx l ds) (bU s):=
 ⟨_,ho,.fB (.inl rfl) rfl (.ev (v:=v) aci By
  ⟨λr hr=>⟨λp hp=>(let ⟨e,h1,h2⟩:=hs r hr p hp;⟨e,fv h1,h2⟩),λnm q=>by rw[pN pX r (gK.1 hr).1] at q;cases q⟩,hn⟩) (λr _ k hk=>by cases hk)⟩
def sa {t:TypeId} {y:Operand} {k off m:Nat} {e:cQ} {c:List AV} [ht:yn P t m] (ho:ops[i]?=some ⟨none,.store t x y,ty,pos,af,none⟩) (h:bT l x=some (.ptr k off)/\dF s k=some e/\e.FG=true/\bT l y=some v/\v.jl=some c/\AV.pq c=true/\c.length=m/\Nat.ble (off+c.length) e.cells.length=true) (pX:nt bj=true) (hn:∀ e',e.put off c=e'->qn ops i ((k,e')::s) bj/\oN P E n ops Q B L bj (cx l ds) (bU ((k,e')::s))):oN P E n ops Q B (i::L) bj (cx l ds) (bU s):=by
 obtain ⟨hx,hk,BX,hy,hc,h1,hm,hl⟩:=h;have LW:=fR hl;obtain ⟨E7,hn⟩:=hn _ rfl;refine ⟨_,ho,.fB (.inl rfl) rfl (.store rfl rfl jT MI (HM BX) Zx h1 UL LW (HN BX) ?_) YS⟩;rw[put_eq BX LW];exact agF
def Vy {X:Type} {V:X->AV} {C:X->List cQ} {G:X->Prop} {H:AV->Prop} {f:Operand} {args:List Operand} {ts:Array TypeId} {j5:FuncId} {fF first cap vs:List AV} {es:List cQ} {gd:Option (Nat×Bool)} (ho:ops[i]?=some ⟨some d,.call ⟨.value f,args.toArray,ts⟩,ty,pos,af,gd⟩) (hw:nW ops ⟨some d,.call ⟨.value f,args.toArray,ts⟩,ty,pos,af,gd⟩ (cx l ds)) (ks:List Nat) (vN:Enters P j5) (hC:SC P j5 fF (bU (gi 0 es)) (yw V C G H)) (hk:vf E ds l s ks f args j5 fF es first cap vs) (hd:Nat.blt d n=true) (pX:Eh ks bj=true) (hx:∀ x,G x->(C x).length=ks.length/\pB (below ks.length) (C x)=true/\(V x).only (below ks.length)=true) (vK:∀ v,H v->v.only (λ_=>false)=true/\∀ oM σ',oM.ds=ds->Q (.panic v) oM σ') (nP:∀ x,G x->∀ v' s',(V x).lO (nth ks)=v'->s8 ks (pA (nth ks) (C x))++s=s'->qn ops i s' bj/\oN P E n ops Q B L bj (cx ((d,v')::l) ds) (bU s')) :
  oN P E n ops Q B (i::L) bj (cx l ds) (bU s):=by
 obtain ⟨hl,JV⟩:=Am hk.gs
 rw[sA] at hl
 have hcon:∀ j,(List.range ks.length).contains j=below ks.length j:=λj=>by
  exact ahk
 have Ve:(List.range ks.length).contains=below ks.length:=funext hcon
 have vy:∀ j,(bU (gi 0 es) j).isSome=true->j<ks.length:=λj hj=>by
  cases q:bU (gi 0 es) j with
  | none=>rw[q] at hj;cases hj
  | some e=>
   obtain ⟨_,h2⟩:=o7 q
   have:=(ao.1 h2).1
   simp at this;omega
 have GV:∀ j j',(List.range ks.length).contains j=true->(List.range ks.length).contains j'=true->nth ks j=nth ks j'->j=j':=λj j' hj yL he=>A1 hk.nd A5 Vb he
 have hat0:∀ j,(List.range ks.length).contains j=true->∃ e,bU (gi 0 es) j=some e:=λj hj=>by
  have yL:j<es.length:=by simp at hj;omega
  exact ⟨_,by have:=Ae (i:=0) (aA yL);simpa using this⟩
 have QM:∀ j,(List.range ks.length).contains j=true->(∃ cs,bU (gi 0 es) j=some (.box cs))\/((cx l ds).clear (nth ks j)/\
   (∀ k e,(List.range ks.length).any (λi=>nth ks i==k)=false->bU s k=some e->AV.iQ.ka (nth ks j) e.cells=false)/\E.fix (nth ks j)=none):=λj hj=>by
  exact ahi
 refine ⟨_,ho,.fB hw rfl (.call (nth ks) (List.range ks.length) vN rfl (dQ hk.f) UG hC (λj hj=>by simpa using vy j hj) (λj e hj=>?_)
   (λj hj=>by obtain ⟨e,he⟩:=hat0 j hj;rw[he];rfl) (λj j' hj yL he=>A1 hk.nd (vy j hj) (vy j' yL) he) By (λv σc hr=>?_) (λv σc hr=>?_))
  (λr hr k FC q=>by
   obtain ⟨j,hj,rfl⟩:=vP.1 FC
   exact Ei pX r (gK.1 hr).1 _ q (Jf A5))⟩
 ·exact ZC
 ·rcases hr with ⟨x,hg,he,rfl⟩|⟨_,_,he,_⟩
  ·cases he
   obtain ⟨h1,h2,h3⟩:=hx x hg
   obtain ⟨E7,hn⟩:=nP x hg _ _ rfl rfl
   refine ⟨{ Ŭ:=λj e hj=>?_,val:=by rw[Ve];exact h3,inj:=GV,same:=QM },?_⟩
   ·exact ahV
   ·have:after (bU s) (nth ks) (List.range ks.length) (List.range ks.length) (bU (gi 0 (C x)))=bU (s8 ks (pA (nth ks) (C x))++s):=by
     funext k
     rw[Ob UT hk.nd]
     simp only[after]
     cases hf:(List.range ks.length).find? (λj=>nth ks j==k) with
     | some j=>
      exact ahz
     | none=>
      exact adX
    rw[this]
    refine ⟨λr hr=>⟨λp hp=>(let ⟨e,h1,h2⟩:=E7 r hr p hp;⟨e,fv h1,h2⟩),λnm q=>?_⟩,hn⟩
    have hnk:=Ei pX r (gK.1 hr).1 nm q
    refine ⟨λd' BZ=>?_,λk FC e he=>?_⟩
    ·cases BZ
     simp only[kG.pS,kG.put,if_true]
     exact Kn hnk h3
    ·obtain ⟨j,hj,rfl⟩:=vP.1 FC
     have yL:j<ks.length:=by simpa using hj
     have JY:j<(C x).length:=by omega
     rw[Ob UT hk.nd] at he
     have hfd:(List.range ks.length).find? (λj'=>nth ks j'==nth ks j)=some j:=by
      cases hf:(List.range ks.length).find? (λj'=>nth ks j'==nth ks j) with
      | none=>have:=kN.1 hf j Vb;simp at this
      | some j2=>
       have h7:=nj hf
       have h8:=e9 hf
       simp at h7 h8
       rw[A1 hk.nd h8 yL h7]
     rw[hfd] at he
     simp only[GC,aA JY,vQ] at he
     injection he with he
     subst he
     have:=GH h2 (aA JY)
     generalize (C x)[j]=ce at this
     cases ce with
     | box cs=>exact zV hnk this
     | arr _ _ cs=>exact xL _ _
     | app _ _ cs=>exact xL _ _
  ·cases he
 ·rcases hr with ⟨_,_,he,_⟩|⟨v',hh,he,rfl⟩
  ·cases he
  ·cases he
   obtain ⟨h1,h2⟩:=vK v hh
   refine ⟨{ Ŭ:=λj e hj=>(by cases hj),val:=?_,inj:=GV,same:=QM },λoM σ' DO _ _=>?_⟩
   ·exact EX (λk hk=>by cases hk) h1
   ·rw[B4 h1];exact h2 oM σ' DO
end
end
section
structure sT where
 t:TypeId
 cells:List PV
def sT.av (p:sT):AV:=.vu p.t (.agg (p.cells.map .pv))
def sT.only (p:sT) (q:Nat->Bool):p.av.only q=true:=by simp[sT.av,AV.only,GX]
inductive aG (α:Type) where
 | stuck
 | qH (p:sT)
 | ok (a:α)
namespace aG
variable {α β:Type}
def ag (x:aG α) (k:α->aG β):aG β:=
 match x with
 | .stuck=>.stuck
 | .qH v=>.qH v
 | .ok a=>k a
def br (b:Bool) (x y:aG α):aG α:=match b with|true=>x|false=>y
def gd (p:Prop) [Decidable p] (x:aG α):aG α:=if p then x else .stuck
def el (l:List β) (i:Int) (k:β->aG α):aG α:=if 0<=i then (match l[i.toNat]? with|some x=>k x|none=>.stuck) else .stuck
def some? (x:Option β) (k:β->aG α):aG α:=match x with|some x=>k x|none=>.stuck
def jn {X:Type} (j:X->aG α) (p:(X->aG α)->aG α):aG α:=p j
def iter {X:Type} (body:(X->aG α)->X->aG α):Nat->X->aG α
 | 0,_=>.stuck
 | n+1,x=>body (iter body n) x
variable {x y r:aG α} {X:Type}
def aep (hb:b=true) (h:br b x y=r):x=r:=by subst hb;exact h
def aeq (hb:b=false) (h:br b x y=r):y=r:=by subst hb;exact h
def aer {p:Prop} [Decidable p] (hr:r≠.stuck) (h:gd p x=r):p/\x=r:=by
 unfold gd at h;split at h
 ·exact ⟨‹p›,h⟩
 exact JI
variable {k:β->aG α}
def aii {l:List β} {i:Int} (hr:r≠.stuck) (h:el l i k=r):∃ x,0<=i/\i<l.length/\l[i.toNat]?=some x/\k x=r:=by
 unfold el at h;split at h
 ·rename_i h0;split at h
  ·rename_i x hx;have:=(ao.1 hx).1;exact ⟨x,h0,by omega,hx,h⟩
  exact JI
 exact JI
def aes {x:Option β} (hr:r≠.stuck) (h:some? x k=r):∃ y,x=some y/\k y=r:=by
 cases x with
 | none=>exact JI
 | some y=>exact ⟨y,rfl,h⟩
end aG
open aG
class CT (P:outParam Program) (f:outParam FuncId) (args:outParam (List AV)) (es:outParam (List cQ)) {X:Type} (res:aG X) (V:outParam (X->AV)) (C:outParam (X->List cQ)):Prop where
 h:∀ r,res=r->r≠.stuck->SC P f args (bU (gi 0 es)) (yw V C (λx=>r=.ok x) (λv=>∃ p,r=.qH p/\v=p.av))
section
variable {P:Program} {Q:gh} {s:List (Nat×cQ)}
 {ty:TypeId} {pos:String} {af:Array Edge}
variable {X:Type}
theorem Ŷ {f:FuncId} {fn:Func} {args:List AV} {es:List cQ} {res:aG X} {V:X->AV} {C:X->List cQ} (hf:P.funcs[f]?=some fn) (hb:fn.body=some c) (hn:Nat.ble args.length fn.ntmps=true) (h:∀ r,res=r->r≠.stuck->∀ E:Env,(∀ k,fc es k=true->E.fix k=none)->
   SW P E fn.ntmps c (vL P fn (yw V C (λx=>r=.ok x) (λv=>∃ p,r=.qH p/\v=p.av))) (cx ((List.range args.length).zip args) []) (bU (gi 0 es))):CT P f args es res V C:=
 ⟨λr hr hs=>ŵ hf hb hn (h r hr hs)⟩
def GB {c:Operand} {x y:Code} (hb:bT l c=some (Bo b)) (ht:b=true->SW P E n x Q (cx l ds) (bU s)) (hf:b=false->SW P E n y Q (cx l ds) (bU s)):SW P E n (.cond c x y) Q (cx l ds) (bU s):=
 Ū (dQ hb) ht hf
def Di (l G:List (Nat×AV)):List (Nat×AV)->Prop
 | []=>True
 | (i,_)::F=>mj l i=mj G i/\Di l G F
def FI (s G:List (Nat×cQ)):List (Nat×cQ)->Prop
 | []=>True
 | (i,_)::F=>dF s i=dF G i/\FI s G F
def M4:s6 l i=(mj l i).getD .any:=by
 induction l with
 | nil=>rfl
 | cons a l ih=>
  obtain ⟨j,v⟩:=a
  simp only[s6,mj]
  exact ahF
def CO {l:List (Nat×cQ)}:uC l i=dF l i:=by
 induction l with
 | nil=>rfl
 | cons a l ih=>
  obtain ⟨j,v⟩:=a
  simp only[uC,dF]
  exact ahF
def Ap {G:List (Nat×AV)}:∀ {F:List (Nat×AV)},Di l G F->∀ p∈F,s6 l p.1=s6 G p.1
 | [],_,p,hp=>by cases hp
 | (i,v)::F,h,p,hp=>by
  rcases cf.1 hp with q|q
  ·subst q;rw[M4,M4,h.1]
  exact Ap h.2 p q
def CP {s G:List (Nat×cQ)}:∀ {F:List (Nat×cQ)},FI s G F->∀ p∈F,uC s p.1=uC G p.1
 | [],_,p,hp=>by cases hp
 | (i,v)::F,h,p,hp=>by
  rcases cf.1 hp with q|q
  ·subst q;rw[CO,CO,h.1]
  exact CP h.2 p q
def Vz (l':List (Nat×AV)) (s':List (Nat×cQ)) (h1:Di l l' l') (h2:FI s s' s') (h:SW P E n c Q (cx l' ds) (bU s')):SW P E n c Q (cx l ds) (bU s):=
 Vp (N7 (Ap h1)) (N8 (CP h2)) h
def ŷ {x y:Code} (F:X->List (Nat×AV)) (H:X->List (Nat×cQ)) (G:X->Prop) (hy:∀ v,G v->SW P E n y Q (cx (F v) ds) (bU (H v))) (hx:∀ K:kG->fi->Prop,(∀ v l s,G v->Di l (F v) (F v)->FI s (H v) (H v)->K (cx l ds) (bU s))->SW P E n x (Bb K Q) (cx l ds) (bU s)):SW P E n (.seq x y) Q (cx l ds) (bU s):=
 ZV (hx _ λv _ _ hg h1 h2=>Vz (F v) (H v) h1 h2 (hy v hg))
def Xo {R:Type} (F:X->List (Nat×AV)) (H:X->List (Nat×cQ)) (body:(X->aG R)->X->aG R) (r:aG R) (m:Nat) (v:X) (hr:r≠.stuck) (h0:iter body m v=r) (h1:Di l (F v) (F v)) (h2:FI s (H v) (H v)) (hx:∀ (next:X->aG R) (v:X) (K:kG->fi->Prop),(∀ v l s,next v=r->Di l (F v) (F v)->FI s (H v) (H v)->K (cx l ds) (bU s))->body next v=r->SW P E n c (Bb K Q) (cx (F v) ds) (bU (H v))) :
  SW P E n (.loop c) Q (cx l ds) (bU s):=by
 refine Vz (F v) (H v) h1 h2 (ū (λk fr σ=>∃ v,iter body k v=r/\fr.le (cx (F v) ds)/\∀ j e,bU (H v) j=some e->σ j=some e) m ⟨v,h0,US,λ_ _ h=>h⟩ ?_)
 rintro k fr σ ⟨v,hv,hle,hsub⟩
 cases k with
 | zero=>exact aw hv.symm hr
 | succ k=>
  refine Vp hle hsub (hx (iter body k) v _ ?_ hv)
  intro v' l' s' Gw hf hs
  exact ⟨k,uZ k,v',Gw,N7 (Ap hf),N8 (CP hs)⟩
end
end
end Go.Abs
namespace Go.Abs
open aG
variable {n d j sz k i off nm bytes:Nat} {E:Env} {ops:Array Oper} {rest:List Oper} {t e xt yt ty:TypeId} {fr:kG} {x a f:Operand} {α β:Type} {σ:fi} {o:Oper} {ts:Array TypeId} {op:Op} {want b:Bool} {args:List Operand} {c:Code} {cells vs:List PV} {parts:List (Nat×Operand)} {next:kG->fi->Prop} {w:World} {z:List Value} {fn:Func} {pos:String} {af:Array Edge} {ae:MW} {xs:List Int} {v:Int}
section
variable {f:α->List PV} {v:AV} {rd:List (Nat×cQ)} {m:Nat} {o:Option (List PV)} {y:Operand} {b:Int}
def HR (hf:∀ x,(f x).length=sz):∀ {l:List α} {i:Nat} {x:α},l[i]?=some x->
  (l.flatMap f).drop (i*sz)=f x++(l.flatMap f).drop ((i+1)*sz):=by
 intro l
 induction l with
 | nil=>intro i x h;simp at h
 | cons a l ih=>
  intro i x h
  cases i with
  | zero=>
   simp at h;subst h
   rw[fk,Nat.zero_mul,tW,Nat.zero_add,xC,<- hf a,List.drop_left]
  | succ i=>
   have h1:=ih (i:=i) (x:=x) jk
   have h2:∀ j,(f a++l.flatMap f).drop ((j+1)*sz)=(l.flatMap f).drop (j*sz):=λj=>by
    rw[r9,tz,<- hf a,<- j8,List.drop_left]
   rw[fk,h2,h2,h1]
def tu (hf:∀ x,(f x).length=sz):∀ (l:List α),(l.flatMap f).length=l.length*sz
 | []=>by simp
 | a::l=>by simp[tu hf l,hf a,r9,tz]
section
variable {P:Program} {l:List (Nat×AV)} {ds:List (FuncId×List AV)} {s:List (Nat×cQ)}
def mH.two {e e':cQ} (hk:dF s k=some e) (hj:dF s j=some e') (h:X P op (cx l ds) [(k,e),(j,e')] v):mH P op l ds s v [(k,e),(j,e')]:=
 ⟨h,λp hp=>by
  simp at hp;rcases hp with q|q
  ·subst q;exact ⟨_,fv hk,nh _⟩
  subst q;exact ⟨_,fv hj,nh _⟩⟩
variable {v':AV}
def X.LY (h:X P op fr rd v) (hle:v.le v'):X P op fr rd v':=λo ho g ev w hG hv hr=>
 let ⟨c,h1,h2⟩:=h o ho g ev w hG hv hr;⟨c,h1,hle g c h2⟩
def mH.LY (h:mH P op l ds s v rd) (hle:v.le v'):mH P op l ds s v' rd:=⟨h.h.LY hle,h.r⟩
def AV.aij:(Sc (.pointer none)).le (.pv (.pt none)):=λg c h=>by rw[h.gO];exact .pv .ZI
def aet {el:TypeId} (hx:bT l x=some (.arr k m)) (hk:dF s k=some (.app el sz cells)) (hz:Nat.blt 0 sz=true) (hn:cells.length=m*sz) :
 mH P (.move x) l ds s (.pv (.sl m cells)) [(k,.app el sz cells)]:=.on hk (NT jT UJ hn)
def Z5 {off:Nat} {el:TypeId} {e:cQ} [ha:nX P t false] (hx:bT l x=some (.ptr k off)) (hk:dF s k=some e) (hv:e.cells[off]?=some (.arr j m)) (hj:dF s j=some (.app el sz cells)) (hz:Nat.blt 0 sz=true) (hn:cells.length=m*sz) :
 mH P (.load t x) l ds s (.pv (.sl m cells)) [(k,e),(j,.app el sz cells)]:=.two hk hj (NU ha.h jT hv UJ hn)
def HS {Cs:List α->List PV} {ix:Operand} {k:IntKind} {i:Int} {xs:List α} {a:α} [ht:PL P t e sz] (yo:∀ l,Cs l=l.flatMap f) (hf:∀ x,(f x).length=sz) (h0:0<=i) (h1:i<xs.length) (ha:xs[i.toNat]?=some a) (hx:bT l x=some (.pv (.sl m (Cs xs)))) (hm:m=xs.length) (hi:bT l ix=some (Sc (.int k i))) :
  mH P (.indexAddr t x ix) l ds s (.sp (f a++(xs.flatMap f).drop ((i.toNat+1)*sz))) []:=by
 subst hm
 rw[yo] at hx
 refine Ů hx hi h0 h1 ?_ (by rw[HR hf ha])
 rw[tu hf];exact acq
variable {pv:List (Nat×AV)}
def B6 (h:parts.mapM (λp=>(bT l p.2).map λv=>(p.1,v))=some pv):(parts.map λp=>(p.1,(cx l ds).val p.2))=pv:=by
 have key:∀ (ps:List (Nat×Operand)) (pv:List (Nat×AV)),ps.mapM (λp=>(bT l p.2).map λv=>(p.1,v))=some pv->(ps.map λp=>(p.1,(cx l ds).val p.2))=pv:=by
  intro ps
  induction ps with
  | nil=>intro pv h;simp at h;simp[h]
  | cons p ps ih=>
   intro pv h
   rw[xr] at h
   cases hv:bT l p.2 with
   | none=>simp[hv] at h
   | some v=>
    cases hr:ps.mapM (λp=>(bT l p.2).map λv=>(p.1,v)) with
    | none=>simp[hv,hr] at h
    | some r=>
     exact ZG
 exact key parts pv h
def tE (k:Nat):List (Nat×cQ)->List (Nat×cQ)
 | []=>[]
 | (j,e)::s=>match Nat.beq j k with
  | true=>tE k s
  | false=>(j,e)::tE k s
def Be {k:Nat}:∀ {s:List (Nat×cQ)},bU (tE k s)=(bU s).del k
 | []=>by funext j;simp[tE,bU,uC,fi.del]
 | (i,e)::s=>by
  have ih:=Be (k:=k) (s:=s);funext j;have ihj:=congrFun ih j;simp only[bU,fi.del] at ihj;simp only[tE];split
  ·rename_i q;have hik:=Nat.eq_of_beq_eq_true q;subst hik;simp only[bU,uC,fi.del];rw[ihj];split<;>simp_all
  rename_i q;have hik:i≠k:=λh=>by subst h;simp at q
  simp only[bU,uC,fi.del];by_cases hj:j=i
  ·subst hj;simp[hik]
  simp only[hj,if_false];exact ihj
def Ÿ {el:TypeId} (ht:P.underlying xt=some (.pointer el)) (hx:fr.val x=.pv (.pt o)) (hy:fr.val y=Sc (.pointer none)) :
  X P (.binOp .eql xt x y yt) fr [] (Bo o.isNone):=by
 intro o' ho g ev w _ hv _
 have q1:=hv x uy;rw[hx] at q1
 have q2:=hv y uy;rw[hy] at q2
 generalize hq:ev x=c at q1
 cases q1 with
 | pv q1=>cases q1 with
  | ZI=>
   refine ⟨.bool true,?_,.pv (.sc _)⟩
   simp only[execOp,ho,hq,q2.gO,binOp,cC,A9,ep,bQ];simp[Op.equal,Op.maxDepth,uR ht 9999]
  | YC=>
   refine ⟨.bool false,?_,.pv (.sc _)⟩
   simp only[execOp,ho,hq,q2.gO,eqGuard,binOp];simp[Op.equal,Op.maxDepth,yp ht 9999]
def Ź {el:TypeId} (ht:P.underlying xt=some (.pointer el)) (hx:fr.val x=.pv (.pt o)) (hy:fr.val y=Sc (.pointer none)) :
  X P (.binOp .neq xt x y yt) fr [] (Bo o.isSome):=by
 intro o' ho g ev w _ hv _
 have q1:=hv x uy;rw[hx] at q1
 have q2:=hv y uy;rw[hy] at q2
 generalize hq:ev x=c at q1
 cases q1 with
 | pv q1=>cases q1 with
  | ZI=>
   refine ⟨.bool false,?_,.pv (.sc _)⟩
   simp only[execOp,ho,hq,q2.gO,binOp,cC,A9,ep,bQ];simp[Op.equal,Op.maxDepth,uR ht 9999]
  | YC=>
   refine ⟨.bool true,?_,.pv (.sc _)⟩
   simp only[execOp,ho,hq,q2.gO,eqGuard,binOp];simp[Op.equal,Op.maxDepth,yp ht 9999]
variable {c:List PV}
def Z6 (hx:fr.val x=.pv (.pt (some c))):X P (.nilCheck x) fr [] (.sp c):=by
 intro o ho g ev w _ hv _;have h1:=hv x uy;rw[hx] at h1;generalize hq:ev x=c at h1;cases h1 with
 | pv h1=>cases h1 with
  | YC b ys off cells h hl hc=>exact ⟨_,by simp[execOp,ho,hq],.sp off h hl hc⟩
def aeu {el:TypeId} [ht:ug P xt (.pointer el)] (hx:bT l x=some (.pv (.pt o))) (hy:bT l y=some (Sc (.pointer none))) :
 mH P (.binOp .eql xt x y yt) l ds s (Bo o.isNone) []:=.of (Ÿ ht.h jT tt)
def aev {el:TypeId} [ht:ug P xt (.pointer el)] (hx:bT l x=some (.pv (.pt o))) (hy:bT l y=some (Sc (.pointer none))) :
 mH P (.binOp .neq xt x y yt) l ds s (Bo o.isSome) []:=.of (Ź ht.h jT tt)
def VD (hx:bT l x=some (.pv (.pt (some c)))):mH P (.nilCheck x) l ds s (.sp c) []:=.of (Z6 jT)
def VE {c b:Operand} {t:Bool} (ht:t=true) (hc:bT l c=some (Bo t)) (ha:bT l a=some v):mH P (.pick c a b) l ds s v []:=by subst ht;exact Vw hc ha
def VF {c b:Operand} {t:Bool} (ht:t=false) (hc:bT l c=some (Bo t)) (hb:bT l b=some v):mH P (.pick c a b) l ds s v []:=by subst ht;exact CN hc hb
def aew {k:IntKind} {a:Int} (hx:bT l x=some (Sc (.int k a))) (hy:bT l y=some (Sc (.int k b))):mH P (.binOp .add xt x y yt) l ds s (Sc (.int k (k.wrap (a+b)))) []:=
 .of (Vk jT tt)
def aex {k:IntKind} {a:Int} (hx:bT l x=some (Sc (.int k a))) (hy:bT l y=some (Sc (.int k b))):mH P (.binOp .sub xt x y yt) l ds s (Sc (.int k (k.wrap (a - b)))) []:=
 .of (Vl jT tt)
def aey {k:IntKind} {a:Int} (hx:bT l x=some (Sc (.int k a))) (hy:bT l y=some (Sc (.int k b))):mH P (.binOp .mul xt x y yt) l ds s (Sc (.int k (k.wrap (a*b)))) []:=
 .of (ŧ jT tt)
def ź {a b:TypeId} {k k':IntKind} {v:Int} [hs:ug P a (.int k')] [ht:ug P b (.int k)] (hx:bT l x=some (Sc (.int k' v))):mH P (.convert a b x) l ds s (Sc (.int k (k.wrap v))) []:=
 .of (Ts hs.h ht.h jT)
end
section
variable {P:Program} {Q:gh} {l:List (Nat×AV)} {ds:List (FuncId×List AV)} {s:List (Nat×cQ)}
 {ty:TypeId} {pos:String} {af:Array Edge}
variable {g:Nat}
def aik {b:Bool} (hb:b=want) (hj:(ops[j]?).bind (·.dst)=some g/\mj l g=some (Bo b)) (h:mH P op l ds s v rd) (hd:Nat.blt d n=true) (hn:SL P E n ops Q rest (cx ((d,v)::l) ds) (bU s)):SL P E n ops Q (⟨some d,op,ty,pos,af,some (j,want)⟩::rest) (cx l ds) (bU s):=by
 subst hb;exact aej hj h hd hn
def ac1 {b:Bool} (hb:b = !want) (hj:(ops[j]?).bind (·.dst)=some g/\mj l g=some (Bo b)) (hd:Nat.blt d n=true) (hn:SL P E n ops Q rest (cx ((d,Sc undef)::l) ds) (bU s)):SL P E n ops Q (⟨some d,op,ty,pos,af,some (j,want)⟩::rest) (cx l ds) (bU s):=by
 subst hb;exact aic Ze hd hn
variable {pv:List (Nat×AV)}
def Z7 {zs:List Value} {pl:List (Nat×Nat)} [ht:ng P t m e sz zs pl] (nm:Nat) (hE:E.fix nm=none) (h:parts.mapM (λp=>(bT l p.2).map λv=>(p.1,v))=some pv/\nr pl (zs.map λv=>.pv (.sc v)) pv=some (cells.map .pv)/\cells.length=m*sz/\Nat.ble m 1000=true) (hm:mA nm l=false/\jS nm ds=false/\px nm s=false) (hd:Nat.blt d n=true) (hn:SL P E n ops Q rest (cx ((d,.arr nm m)::l) ds) (bU ((nm,.app e sz cells)::s))):SL P E n ops Q (⟨some d,.buildSlice t m parts.toArray,ty,pos,af,none⟩::rest) (cx l ds) (bU s):=by
 refine qE rfl (Jd (Iu nm ht.h ?_ h.2.2.1 adT) acx If hE By hn);rw[B6 h.1];exact h.2.1
end
end
section
section
variable {P:Program} {Q:gh} {B:List Rec->kG->fi->Prop} {L:List Nat} {bj:List Rec} {l:List (Nat×AV)} {ds:List (FuncId×List AV)} {s:List (Nat×cQ)}
 {ty:TypeId} {pos:String} {af:Array Edge}
variable {g:Nat} {X R:Type} {res:aG X} {kk:X->aG R} {V V':X->AV} {C:X->List cQ} {C':X->List (Nat×cQ)} {j5:FuncId} {fF first cap vs:List AV} {es:List cQ} {r:aG R}
def ail {v:AV} {rd:List (Nat×cQ)} (hb:b=want) (ho:ops[i]?=some ⟨some d,op,ty,pos,af,some (j,want)⟩) (hj:(ops[j]?).bind (·.dst)=some g/\mj l g=some (Bo b)) (h:mH P op l ds s v rd) (hc:fB ⟨some d,op,ty,pos,af,some (j,want)⟩=false/\Nat.blt d n=true/\FH ops i v rd bj=true) (hn:oN P E n ops Q B L (⟨i,some d,rd,none⟩::bj) (cx ((d,v)::l) ds) (bU s)):oN P E n ops Q B (i::L) bj (cx l ds) (bU s):=by
 subst hb;exact aem ho hj h hc hn
def aim (hb:b = !want) (ho:ops[i]?=some ⟨some d,op,ty,pos,af,some (j,want)⟩) (hj:(ops[j]?).bind (·.dst)=some g/\mj l g=some (Bo b)) (hc:fB ⟨some d,op,ty,pos,af,some (j,want)⟩=false/\Nat.blt d n=true) (hn:oN P E n ops Q B L (⟨i,some d,[],none⟩::bj) (cx ((d,Sc undef)::l) ds) (bU s)):oN P E n ops Q B (i::L) bj (cx l ds) (bU s):=by
 subst hb;exact aif ho Ze hc hn
def aez (hb:b = !want) (ho:ops[i]?=some ⟨some d,op,ty,pos,af,some (j,want)⟩) (hj:(ops[j]?).bind (·.dst)=some g/\mj l g=some (Bo b)) (hc:fB ⟨some d,op,ty,pos,af,some (j,want)⟩=true/\Nat.blt d n=true) (hn:oN P E n ops Q B L bj (cx ((d,Sc undef)::l) ds) (bU s)):oN P E n ops Q B (i::L) bj (cx l ds) (bU s):=by
 subst hb;exact aen ho Ze hc hn
def sb {id:Nat} (L:List Nat) (hm:P.follows .mixedOrders=true) (Ee:chk ops L=true) (h:DW P E n ops Q L [] fr σ):SW P E n (.region id ops true) Q fr σ:=ŭ L hm Ee h
end
def BA {α β:Type} {x:aG α} {k:α->aG β} {r:aG β} (hr:r≠.stuck) (h:ag x k=r):x≠.stuck/\(∀ a,x=.ok a->k a=r)/\∀ p,x=.qH p->r=.qH p:=by
 cases x with
 | stuck=>exact JI
 | qH p=>exact ⟨bm,λ_ q=>by simp at q,λq hq=>by cases hq;exact h.symm⟩
 | ok a=>exact ⟨bm,λb q=>by cases q;exact h,λ_ q=>by simp at q⟩
section
variable {P:Program} {Q:gh} {l:List (Nat×AV)} {ds:List (FuncId×List AV)} {s:List (Nat×cQ)}
 {ty:TypeId} {pos:String} {af:Array Edge}
variable {X R:Type} {res:aG X} {kk:X->aG R} {r:aG R} {V V':X->AV} {C:X->List cQ} {C':X->List (Nat×cQ)} {j5:FuncId} {fF first cap vs:List AV} {es:List cQ} {g:Nat}
def QZ (hr:r≠.stuck) (h:ag res kk=r) {l':List (Nat×AV)} (hwk:(cx l ds).le (cx l' ds)) (ks:List Nat) (vN:Enters P j5) (ho:o.op=.call ⟨.value f,args.toArray,ts⟩) (hC:CT P j5 fF es res V C) (hk:vf E ds l s ks f args j5 fF es first cap vs l') (hd:∀ d,o.dst=some d->d<n) (hx:∀ x,(C x).length=ks.length/\pB (below ks.length) (C x)=true/\(V x).only (below ks.length)=true) (hV:∀ x,(V x).lO (nth ks)=V' x/\s8 ks (pA (nth ks) (C x))=C' x) (vK:∀ p fr σ,fr.ds=ds->r=.qH p->Q (.panic p.av) fr σ) (nP:∀ x,kk x=r->next ((cx l' ds).pS o.dst (V' x)) (bU (C' x++s))):Step P E n Q o (cx l ds) (bU s) next:=by
 obtain ⟨JT,Gz,hp⟩:=BA hr h;refine Kl hwk ks vN ho (hC.h res rfl JT) hk hd (λx _=>hx x) (λx hg=>?_) (λv hv=>?_)
 ·exact ad0
 obtain ⟨p,EY,rfl⟩:=hv;exact ⟨p.only _,vK p _ _ rfl (hp p EY)⟩
def VG (hr:r≠.stuck) (h:ag res kk=r) (ks:List Nat) (vN:Enters P j5) (ho:o.op=.call ⟨.value f,args.toArray,ts⟩) (hC:CT P j5 fF es res V C) (hk:vf E ds l s ks f args j5 fF es first cap vs) (hd:∀ d,o.dst=some d->d<n) (hx:∀ x,(C x).length=ks.length/\pB (below ks.length) (C x)=true/\(V x).only (below ks.length)=true) (hV:∀ x,(V x).lO (nth ks)=V' x/\s8 ks (pA (nth ks) (C x))=C' x) (vK:∀ p fr σ,fr.ds=ds->r=.qH p->Q (.panic p.av) fr σ) (nP:∀ x,kk x=r->next ((cx l ds).pS o.dst (V' x)) (bU (C' x++s))):Step P E n Q o (cx l ds) (bU s) next:=
 QZ hr h US ks vN ho hC hk hd hx hV vK nP
def GY (hr:r≠.stuck) (h:ag res kk=r) (ks:List Nat) (vN:Enters P j5) (hC:CT P j5 fF es res V C) (hk:vf E ds l s ks f args j5 fF es first cap vs) (hd:Nat.blt d n=true) (hx:∀ x,(C x).length=ks.length/\pB (below ks.length) (C x)=true/\(V x).only (below ks.length)=true) (hV:∀ x,(V x).lO (nth ks)=V' x/\s8 ks (pA (nth ks) (C x))=C' x) (vK:∀ p fr σ,fr.ds=ds->r=.qH p->Q (.panic p.av) fr σ) (nP:∀ x,kk x=r->SL P E n ops Q rest (cx ((d,V' x)::l) ds) (bU (C' x++s))) :
  SL P E n ops Q (⟨some d,.call ⟨.value f,args.toArray,ts⟩,ty,pos,af,none⟩::rest) (cx l ds) (bU s):=
 qE rfl (VG hr h ks vN rfl hC hk By hx hV vK nP)
def aeA (l':List (Nat×AV)) (hwk:Di l l' l') (hr:r≠.stuck) (h:ag res kk=r) (ks:List Nat) (vN:Enters P j5) (hC:CT P j5 fF es res V C) (hk:vf E ds l s ks f args j5 fF es first cap vs l') (hd:Nat.blt d n=true) (hx:∀ x,(C x).length=ks.length/\pB (below ks.length) (C x)=true/\(V x).only (below ks.length)=true) (hV:∀ x,(V x).lO (nth ks)=V' x/\s8 ks (pA (nth ks) (C x))=C' x) (vK:∀ p fr σ,fr.ds=ds->r=.qH p->Q (.panic p.av) fr σ) (nP:∀ x,kk x=r->SL P E n ops Q rest (cx ((d,V' x)::l') ds) (bU (C' x++s))) :
  SL P E n ops Q (⟨some d,.call ⟨.value f,args.toArray,ts⟩,ty,pos,af,none⟩::rest) (cx l ds) (bU s):=
 qE rfl (QZ hr h (N7 (Ap hwk)) ks vN rfl hC hk By hx hV vK nP)
def Z8 (hb:b=want) (hj:(ops[j]?).bind (·.dst)=some g/\mj l g=some (Bo b)) (hr:r≠.stuck) (h:ag res kk=r) (ks:List Nat) (vN:Enters P j5) (hC:CT P j5 fF es res V C) (hk:vf E ds l s ks f args j5 fF es first cap vs) (hd:Nat.blt d n=true) (hx:∀ x,(C x).length=ks.length/\pB (below ks.length) (C x)=true/\(V x).only (below ks.length)=true) (hV:∀ x,(V x).lO (nth ks)=V' x/\s8 ks (pA (nth ks) (C x))=C' x) (vK:∀ p fr σ,fr.ds=ds->r=.qH p->Q (.panic p.av) fr σ) (nP:∀ x,kk x=r->SL P E n ops Q rest (cx ((d,V' x)::l) ds) (bU (C' x++s))) :
  SL P E n ops Q (⟨some d,.call ⟨.value f,args.toArray,ts⟩,ty,pos,af,some (j,want)⟩::rest) (cx l ds) (bU s):=by
 subst hb
 exact GM rfl hj.1 (jF hj.2) By (λ_=>VG hr h ks vN rfl hC hk By hx hV vK nP) (λq=>aw rfl q)
end
section
variable {P:Program} {Q:gh} {B:List Rec->kG->fi->Prop} {L:List Nat} {bj:List Rec} {l:List (Nat×AV)} {ds:List (FuncId×List AV)} {s:List (Nat×cQ)}
 {ty:TypeId} {pos:String} {af:Array Edge}
variable {X R:Type} {res:aG X} {kk:X->aG R} {r:aG R} {V V':X->AV} {C:X->List cQ} {C':X->List (Nat×cQ)} {j5:FuncId} {fF first cap vs:List AV} {es:List cQ} {g:Nat}
def Ko {gd:Option (Nat×Bool)} (ho:ops[i]?=some ⟨some d,.call ⟨.value f,args.toArray,ts⟩,ty,pos,af,gd⟩) (hw:nW ops ⟨some d,.call ⟨.value f,args.toArray,ts⟩,ty,pos,af,gd⟩ (cx l ds)) (hr:r≠.stuck) (h:ag res kk=r) (ks:List Nat) (vN:Enters P j5) (hC:CT P j5 fF es res V C) (hk:vf E ds l s ks f args j5 fF es first cap vs) (hd:Nat.blt d n=true) (pX:Eh ks bj=true) (hx:∀ x,(C x).length=ks.length/\pB (below ks.length) (C x)=true/\(V x).only (below ks.length)=true) (hV:∀ x,(V x).lO (nth ks)=V' x/\s8 ks (pA (nth ks) (C x))=C' x) (vK:∀ p fr σ,fr.ds=ds->r=.qH p->Q (.panic p.av) fr σ) (nP:∀ x,kk x=r->qn ops i (C' x++s) bj/\oN P E n ops Q B L bj (cx ((d,V' x)::l) ds) (bU (C' x++s))):oN P E n ops Q B (i::L) bj (cx l ds) (bU s):=by
 obtain ⟨JT,Gz,hp⟩:=BA hr h;refine Vy ho hw ks vN (hC.h res rfl JT) hk hd pX (λx _=>hx x) (λv hv=>?_) (λx hg v' s' hv hs=>?_)
 ·obtain ⟨p,EY,rfl⟩:=hv;exact ⟨p.only _,λoM σ' DO=>vK p _ _ DO (hp p EY)⟩
 have:=nP x (Gz x hg);rw[<- (hV x).1,<- (hV x).2] at this;subst hv hs;exact this
def w4 (h:o.guard=none):nW ops o fr:=.inl h
def ain (hb:b=want) (h:o.guard=some (j,want)) (hj:(ops[j]?).bind (·.dst)=some g/\mj l g=some (Bo b)):nW ops o (cx l ds):=by
 subst hb;exact .inr ⟨j,b,g,h,hj.1,jF hj.2⟩
end
variable {X:Type} {V:X->AV} {C:X->List cQ} {g:Nat} {R:Type} {res:aG X} {kk:X->aG R} {V':X->AV} {C':X->List (Nat×cQ)} {j5:FuncId} {fF first cap vs:List AV} {es:List cQ} {r:aG R}
def Z9 {P:Program} {fn:Func} {r:aG X} {p:sT} (hd:fr.ds=[]) (h:r=.qH p) :
 vL P fn (yw V C (λx=>r=.ok x) (λv=>∃ p,r=.qH p/\v=p.av)) (.panic p.av) fr σ:=Ty hd ⟨p,h,rfl⟩
end
section
variable {g:Gh}
def Rel.Jg {E:Env} {σ:fi} {w:World} (h:Rel E g σ w) {nm:Nat} {el:TypeId} (hc:σ.clear nm) (hf:E.fix nm=none) :
  Rel E (g.unbind nm) (σ.set nm (.app el sz [])) w:=by
 have hle:=sI g nm
 have hρ:∀ j,j≠nm->(g.unbind nm).ρ j=g.ρ j:=λj q=>by simp[Gh.unbind,q]
 have PB:(g.unbind nm).ρ nm=none:=by simp[Gh.unbind]
 have uv:∀ j e,σ.set nm (.app el sz []) j=some e->j≠nm->σ j=some e:=λj e hj q=>by simpa[fi.set,q] using hj
 have hnes:∀ j,(σ.set nm (.app el sz []) j).isSome=true->j≠nm->(σ j).isSome=true:=λj hj q=>by simpa[fi.set,q] using hj
 refine { rU:=?_,inj:=?_,gl:=?_,apart:=?_,size:=h.size,yq:=h.yq,own:=?_,fix:=?_,pP:=?_,g0:=h.g0,gn:=h.gn,os:=h.os,out:=h.out,tape:=h.tape,x:=h.x.FB rfl rfl (λj b hj hb=>by
   by_cases q:j=nm
   ·subst q;rw[PB] at hb;cases hb
   ·exact ⟨j,hnes j hj q,by rw[<- hρ j q];exact hb,.inl rfl⟩) (λj b e' hfj hj=>by
   have q:j≠nm:=λq=>by subst q;rw[hf] at hfj;cases hfj
   exact ⟨e',uv j _ hj q,id⟩) }
 ·intro k e hk
  by_cases q:k=nm
  ·subst q;simp[fi.set] at hk;subst hk;exact .IH PB
  ·have FC:=uv k e hk q
   exact (h.rU k e FC).le hle q (λ_ _ _=>rfl) (λj hj=>by subst hj;exact hc k e FC) (λ_ _=>rfl)
 ·intro k k' b hk FC hb xH
  by_cases q:k=nm
  ·subst q;rw[PB] at hb;cases hb
  ·by_cases q':k'=nm
   ·subst q';rw[PB] at xH;cases xH
   ·rw[hρ k q] at hb;rw[hρ k' q'] at xH
    exact h.inj k k' b (hnes k hk q) (hnes k' FC q') hb xH
 ·exact h.gl.le hle rfl (λ_ _ _=>rfl)
 ·intro k b e hk hka hb
  by_cases q:k=nm
  ·subst q;rw[PB] at hb;cases hb
  ·rw[hρ k q] at hb;exact h.apart k b e (uv k e hk q) hka hb
 ·intro k b hk hb
  by_cases q:k=nm
  ·subst q;rw[PB] at hb;cases hb
  ·rw[hρ k q] at hb;exact h.own k b (hnes k hk q) hb
 ·exact adY
 ·intro k b hk
  have q:k≠nm:=λq=>by subst q;rw[hf] at hk;cases hk
  have:(g.unbind nm).cp k=g.cp k:=rfl
  rw[this];exact h.pP k b hk
section
variable {P:Program} {Q:gh} {l:List (Nat×AV)} {ds:List (FuncId×List AV)} {s:List (Nat×cQ)}
def ml (E:Env) (n:Nat) (l:List (Nat×AV)) (ds:List (FuncId×List AV)) (s:List (Nat×cQ)) (l':List (Nat×AV)) (s':List (Nat×cQ)):Prop:=
 ∀ (g:Gh) (a:Act) (w:World),Rel E g (bU s) w->FR n g (cx l ds) a->∃ g',Rel E g' (bU s') w/\FR n g' (cx l' ds) a
variable {l':List (Nat×AV)} {s':List (Nat×cQ)}
def nA (hg:ml E n l ds s l' s') (h:SW P E n c Q (cx l' ds) (bU s')):SW P E n c Q (cx l ds) (bU s):=λg a w hR hF=>
 let ⟨g',kL,sR⟩:=hg g a w hR hF;h g' a w kL sR
def lD (hg:ml E n l ds s l' s') (h:SL P E n ops Q rest (cx l' ds) (bU s')):SL P E n ops Q rest (cx l ds) (bU s):=λg a w hR hF=>
 let ⟨g',kL,sR⟩:=hg g a w hR hF;h g' a w kL sR
variable {m:Nat}
def aeB {el:TypeId} (hd:mj l d=some (.arr k m)) (hk:dF s k=some (.app el sz cells)) (hz:Nat.blt 0 sz=true) (hn:cells.length=m*sz) :
  ml E n l ds s ((d,.pv (.sl m cells))::l) s:=λg a w hR hF=>by
 refine ⟨g,hR,hF.size,λi=>?_,hF.ds⟩
 by_cases q:i=d
 ·subst q
  have h1:=hF.oP i
  simp only[cx,jF hd] at h1
  simpa[cx,s6] using h1.view (hR.rU k _ MI) UJ hn
 ·have h1:=hF.oP i
  simpa[cx,s6,q] using h1
def Y.set {v:AV}:∀ {cells:List AV} {vs:List Value} {off:Nat} {u:AV},Y g cells vs->cells[off]?=some u->(∀ c,VR g u c->VR g v c)->Y g (cells.set off v) vs
 | [],_,_,_,_,h,_=>by simp at h
 | x::xs,_,0,u,.cons h t,hu,hv=>by simp at hu;subst hu;exact .cons (hv _ h) t
 | x::xs,_,off+1,u,.cons h t,hu,hv=>.cons h (Y.set t (by simpa using hu) hv)
variable {cs:List AV}
def Ż {el:TypeId} (hj:dF s j=some (.box cs)) (hc:cs[off]?=some (.arr k m)) (hk:dF s k=some (.app el sz cells)) (hz:Nat.blt 0 sz=true) (hn:cells.length=m*sz):ml E n l ds s l ((j,.box (cs.set off (.pv (.sl m cells))))::s):=λg a w hR hF=>by
 refine ⟨g,?_,hF⟩;have SH:=fv hj;have xp:=fv hk;have he:∀ i e,bU ((j,.box (cs.set off (.pv (.sl m cells))))::s) i=some e->(bU s i).isSome=true/\(i≠j->bU s i=some e):=λi e h=>by
  exact ahI
 have hs:∀ i,(bU ((j,.box (cs.set off (.pv (.sl m cells))))::s) i).isSome=true->(bU s i).isSome=true:=λi h=>by
  cases q:bU ((j,.box (cs.set off (.pv (.sl m cells))))::s) i with
  | none=>rw[q] at h;cases h
  | some e=>exact (he i e q).1
 exact {
  rU:=λi e h=>by
   by_cases q:i=j
   ·subst q;have:e=.box (cs.set off (.pv (.sl m cells))):=by simpa[bU,uC] using h.symm
    subst this;cases hR.rU i _ SH with
    | box h1 h2 h3 h4=>exact .box h1 h2 (h3.set hc λc hc=>hc.view (hR.rU k _ xp) UJ hn) h4
   exact hR.rU i e ((he i e h).2 q)
  inj:=λi i' b h h'=>hR.inj i i' b (hs i h) (hs i' h')
  gl:=hR.gl
  apart:=λi b e h BX hb=>by
   exact ahp
  size:=hR.size,yq:=hR.yq,own:=λi b h=>hR.own i b (hs i h),fix:=hR.fix,pP:=hR.pP,g0:=hR.g0,gn:=hR.gn,os:=hR.os,out:=hR.out,tape:=hR.tape
  x:=hR.x.FB rfl rfl (λi b hi hb=>⟨i,hs i hi,hb,.inl rfl⟩) (λi b e' _ hi=>by
   by_cases q:i=j
   ·subst q;exact Zk
   exact ⟨e',(he i _ hi).2 q,id⟩) }
def aeC (nm:Nat) {el:TypeId} (hE:E.fix nm=none) (hd:mj l d=some (nSl)) (hm:mA nm l=false/\jS nm ds=false/\px nm s=false) :
  ml E n l ds s ((d,.arr nm 0)::l) ((nm,.app el sz [])::s):=λg a w hR hF=>by
 have h1:=hR.Jg (el:=el) (sz:=sz) If hE
 exact ahj
def I8 (nm:Nat) {el:TypeId} (hE:E.fix nm=none) (hj:dF s j=some (.box cs)) (hc:cs[off]?=some (nSl)) (hm:mA nm l=false/\jS nm ds=false/\px nm s=false) (hjn:Nat.beq j nm=false) :
  ml E n l ds s l ((j,.box (cs.set off (.arr nm 0)))::(nm,.app el sz [])::s):=λg a w hR hF=>by
 have hR:=hR.Jg (el:=el) (sz:=sz) If hE
 have hF:=hF.le (sI g nm) YW
 have hjn':j≠nm:=λq=>by subst q;simp at hjn
 have SH:(bU s).set nm (.app el sz []) j=some (.box cs):=by simp[fi.set,hjn',fv hj]
 refine ⟨g.unbind nm,?_,hF⟩
 have he:∀ i e,bU ((j,.box (cs.set off (.arr nm 0)))::(nm,.app el sz [])::s) i=some e->(((bU s).set nm (.app el sz [])) i).isSome=true/\(i≠j->((bU s).set nm (.app el sz [])) i=some e):=λi e h=>by
  by_cases q:i=j
  ·subst q;exact ⟨by rw[SH];rfl,λq=>aw rfl q⟩
  ·have:((bU s).set nm (.app el sz [])) i=some e:=by simpa[bU,uC,fi.set,q] using h
   exact ⟨by rw[this];rfl,λ_=>this⟩
 have hs:∀ i,(bU ((j,.box (cs.set off (.arr nm 0)))::(nm,.app el sz [])::s) i).isSome=true->(((bU s).set nm (.app el sz [])) i).isSome=true:=λi h=>by
  cases q:bU ((j,.box (cs.set off (.arr nm 0)))::(nm,.app el sz [])::s) i with
  | none=>rw[q] at h;cases h
  | some e=>exact (he i e q).1
 exact yC2
end
end
def cD (x:Int):Prop:=-9223372036854775808<=x/\x<=9223372036854775807
instance (x:Int):Decidable (cD x):=by unfold cD;exact inferInstance
def BR (a b:ByS):Prop:=a.length+b.length<=9223372036854775807
instance (a b:ByS):Decidable (BR a b):=by unfold BR;exact inferInstance
def sub (c:ByS) (i j:Int):ByS:=(c.drop i.toNat).take (j.toNat - i.toNat)
def gp (c:ByS) (i:Int):ByS:=c.drop i.toNat
def sd (c:ByS) (j:Int):ByS:=c.take j.toNat
def AV.nz:AV->AV
 | .pv (.sc (.slice none 0 0))=>.pv (.sl 0 [])
 | .pv (.sc (.pointer none))=>.pv (.pt none)
 | v=>v
def AV.VH (v:AV):v.le v.nz:=by
 unfold AV.nz;split
 ·exact AV.le_nil
 ·exact AV.aij
 exact gT _
def AV.VI:List AV->List AV
 | []=>[]
 | v::vs=>v.nz::VI vs
def AV.VJ:∀ l:List AV,FD l (AV.VI l)
 | []=>.nil
 | v::l=>.cons (AV.VH v) (AV.VJ l)
def sM:=@AV.VJ
section
variable {P:Program} {l:List (Nat×AV)} {ds:List (FuncId×List AV)} {s:List (Nat×cQ)}
variable {cs:List AV} {v:AV} {lj:List AV}
def Qa {parts:List (Nat×Operand)} {pl:List (Nat×Nat)} {pv:List (Nat×AV)} {out out':List AV} [ht:lr P t z pl] (hp:parts.mapM (λp=>(bT l p.2).map λv=>(p.1,v))=some pv) (h:nr pl (z.map λv=>.pv (.sc v)) pv=some out) (hn:AV.VI out=out'):mH P (.build t parts.toArray) l ds s (.agg out') []:=by
 subst hn;exact (Gp hp h).LY (AV.Kf (sM out))
end
class n' (P:Program) (t:TypeId):Prop where h:(P.underlying t).map ZS=some false:=by kernel_rfl
section
variable {P:Program} {l:List (Nat×AV)} {ds:List (FuncId×List AV)} {s:List (Nat×cQ)}
variable {f:Nat} {cs:List AV} {v:AV} {lj:List AV}
def A' [hd:T P t f d] (ha:∀ fields fd,P.underlying t=some (.struct fields)->fields[f]?=some fd->Ai P fd.type=some false) (hx:bT l x=some (.agg cs)) (hv:cs[d]?=some v):mH P (.field t x f) l ds s v []:=by
 have h:=hd.h;unfold tfo at h;split at h
 ·rename_i fs hu;split at h
  ·rename_i fd hf;split at h
   ·cases h;exact .of (NZ hu hf rfl (ha _ _ hu hf) jT hv)
   cases h
  cases h
 cases h
def aio [ht:n' P t] (hx:bT l x=some v):mH P (.makeInterface t x) l ds s (.vu t v) []:=by
 have h:=ht.h;cases hu:P.underlying t with
 | none=>simp[hu] at h
 | some d=>simp[hu] at h;exact .of (NY hu h jT)
def Kp {f:FuncId} {a b:List Operand} {va vb:List AV} (ha:yN l a=some va) (hb:yN l b=some vb):mH P (.makeFunc (.func f) a.toArray b.toArray) l ds s (.fn f va vb) []:=
 .of (by have:=QC (P:=P) (fr:=cx l ds) (f:=f) (a:=a) (b:=b);rw[CB ha,CB hb] at this;exact this)
end
section
variable {P:Program} {Q:gh} {l:List (Nat×AV)} {ds:List (FuncId×List AV)} {s:List (Nat×cQ)}
 {ty:TypeId} {pos:String} {af:Array Edge}
variable {cs lj:List AV} {v:AV}
def VM {g:Gh} {w:World} {k:Nat} (h:FD cs lj) (he:qN g w k (.box cs)):qN g w k (.box lj):=by
 cases he with|box h1 h2 h3 h4=>exact .box h1 h2 (h.vrs h3) h4
def VN {j:Nat} (hj:dF s j=some (.box cs)) (hl:FD cs lj):ml E n l ds s l ((j,.box lj)::s):=λg a w hR hF=>by
 refine ⟨g,?_,hF⟩;have SH:=fv hj;have he:∀ i e,bU ((j,.box lj)::s) i=some e->(bU s i).isSome=true/\(i≠j->bU s i=some e):=λi e h=>by
  exact ahI
 have hs:∀ i,(bU ((j,.box lj)::s) i).isSome=true->(bU s i).isSome=true:=λi h=>by
  cases q:bU ((j,.box lj)::s) i with
  | none=>rw[q] at h;cases h
  | some e=>exact (he i e q).1
 exact {
  rU:=λi e h=>by
   by_cases q:i=j
   ·subst q;have:e=.box lj:=by simpa[bU,uC] using h.symm
    subst this;exact VM hl (hR.rU i _ SH)
   exact hR.rU i e ((he i e h).2 q)
  inj:=λi i' b h h'=>hR.inj i i' b (hs i h) (hs i' h')
  gl:=hR.gl
  apart:=λi b e h BX hb=>by
   exact ahp
  size:=hR.size,yq:=hR.yq,own:=λi b h=>hR.own i b (hs i h),fix:=hR.fix,pP:=hR.pP,g0:=hR.g0,gn:=hR.gn,os:=hR.os,out:=hR.out,tape:=hR.tape
  x:=hR.x.FB rfl rfl (λi b hi hb=>⟨i,hs i hi,hb,.inl rfl⟩) (λi b e' _ hi=>by
   by_cases q:i=j
   ·subst q;exact Zk
   exact ⟨e',(he i _ hi).2 q,id⟩) }
def CH (j:Nat) (hj:dF s j=some (.box cs)) (hn:AV.VI cs=lj):ml E n l ds s l ((j,.box lj)::s):=by subst hn;exact VN hj (sM cs)
def Xp [hz:qG P t z] {zs:List AV} (nm:Nat) (hE:E.fix nm=none) (h:AV.VI (z.map (λv=>AV.pv (.sc v)))=zs/\mA nm l=false/\jS nm ds=false/\px nm s=false) (hd:Nat.blt d n=true) (hn:SL P E n ops Q rest (cx ((d,.ptr nm 0)::l) ds) (bU ((nm,.box zs)::(nm,.box (z.map (λv=>AV.pv (.sc v))))::s))) :
  SL P E n ops Q (⟨some d,.alloc t,ty,pos,af,none⟩::rest) (cx l ds) (bU s):=
 gH nm hE ⟨rfl,h.2⟩ hd (lD (CH nm (by simp[dF]) h.1) hn)
def aeD (p:sT) (hx:bT l x=some p.av) (hq:Q (.panic p.av) (cx l ds) (bU s)):SL P E n ops Q (⟨none,.panic x,ty,pos,af,none⟩::rest) (cx l ds) (bU s):=
 qE rfl (Tu rfl jT hq)
end
def quiet (ops:Array Oper) (i:Nat):List Rec->Bool
 | []=>true
 | r::rs=>(match r.rd with|[]=>true|_=>xM ops ops.size i r.i)&&quiet ops i rs
def ky {ops:Array Oper} {i:Nat} {s':List (Nat×cQ)} {bj:List Rec} (h:quiet ops i bj=true):qn ops i s' bj:=by
 induction bj with
 | nil=>intro r hr;simp[mi] at hr
 | cons a rs ih=>
  simp only[quiet,bk] at h
  intro r hr p hp
  simp only[mi,gK,fj] at hr
  rcases cf.1 hr.1 with q|q
  ·subst q;have h1:=h.1;split at h1
   ·rename_i h0;rw[h0] at hp;cases hp
   rw[hr.2] at h1;cases h1
  ·exact ih h.2 r (by simp[mi,q,hr.2]) p hp
def tff (P:Program) (s:TypeId) (f:Nat):Option Bool:=
 match P.underlying s with
 | some (.struct fs)=>match fs[f]? with
  | some fd=>Ai P fd.type
  | none=>none
 | _=>none
class Tff (P:Program) (t:TypeId) (f:Nat) (b:outParam Bool):Prop where h:tff P t f=some b:=by kernel_rfl
section
variable {P:Program} {l:List (Nat×AV)} {ds:List (FuncId×List AV)} {s:List (Nat×cQ)}
def Oc {x:Operand} {f:Nat} {cs:List AV} {v:AV} [hd:T P t f d] [hb:Tff P t f false] (hx:bT l x=some (.agg cs)) (hv:cs[d]?=some v):mH P (.field t x f) l ds s v []:=
 A' (λfields fd hu hf=>by have:=hb.h;simp only[tff,hu,hf] at this;exact this) hx hv
end
section
variable {P:Program} {Q:gh} {l:List (Nat×AV)} {ds:List (FuncId×List AV)} {s:List (Nat×cQ)}
 {ty:TypeId} {pos:String} {af:Array Edge}
def Kq {α:Type} {C:α->List PV} {Cs:List α->List PV} (xs:List α) (yo:∀ l,Cs l=l.flatMap C) {e:TypeId} {m sz:Nat} {parts:List (Nat×Operand)} {zs:List Value} {pl:List (Nat×Nat)} {pv:List (Nat×AV)} [ht:ng P t m e sz zs pl] (h:parts.mapM (λp=>(bT l p.2).map λv=>(p.1,v))=some pv/\nr pl (zs.map λv=>.pv (.sc v)) pv=some ((xs.flatMap C).map .pv)) (hd:Nat.blt d n=true) (hn:SL P E n ops Q rest (cx ((d,.pv (.sl m (Cs xs)))::l) ds) (bU s)):SL P E n ops Q (⟨some d,.buildSlice t m parts.toArray,ty,pos,af,none⟩::rest) (cx l ds) (bU s):=
 acZ h hd (by rw[<- yo];exact hn)
end
section
def GN (E:Env) (n:Nat) (ds:List (FuncId×List AV)) (Q:gh):gh
 | .normal,fr,σ=>∃ l s l' s',fr=cx l ds/\σ=bU s/\ml E n l ds s l' s'/\Q .normal (cx l' ds) (bU s')
 | e,fr,σ=>Q e fr σ
section
variable {P:Program} {Q:gh} {l:List (Nat×AV)} {ds:List (FuncId×List AV)} {s:List (Nat×cQ)}
variable {g:Gh} {C:α->List PV} {Cs:List α->List PV} {xs ys:List α} {cs lj:List AV}
def LQ.gn {e:Exit} {a:Act} (h:LQ E n (GN E n ds Q) e a w):LQ E n Q e a w:=by
 obtain ⟨g,ae,fr,σ,q,hx,hR,hF⟩:=h;cases hx with
 | normal=>
  obtain ⟨l,s,l',s',rfl,rfl,hg,hq⟩:=q
  obtain ⟨g',kL,sR⟩:=hg g a w hR hF
  exact ⟨g',_,_,_,hq,.normal,kL,sR⟩
 | exit id=>exact ⟨g,_,_,_,q,.exit id,hR,hF⟩
 | goto id=>exact ⟨g,_,_,_,q,.goto id,hR,hF⟩
 | ret=>exact ⟨g,_,_,_,q,.ret,hR,hF⟩
 | panic hv=>exact ⟨g,_,_,_,q,.panic hv,hR,hF⟩
def VO {fr:kG} {σ:fi} (ds:List (FuncId×List AV)) (h:SW P E n c (GN E n ds Q) fr σ):SW P E n c Q fr σ:=λg a w hR hF=>wp_mono (h g a w hR hF) λ_ _ _ q=>q.gn
variable {l':List (Nat×AV)} {s':List (Nat×cQ)}
def ml.trans {l1 l2:List (Nat×AV)} {s1 s2:List (Nat×cQ)} (h:ml E n l ds s l1 s1) (h':ml E n l1 ds s1 l2 s2):ml E n l ds s l2 s2:=λg a w hR hF=>
 let ⟨g',kL,sR⟩:=h g a w hR hF;h' g' a w kL sR
def ml.Qz (l':List (Nat×AV)) (s':List (Nat×cQ)) (h1:Di l l' l') (h2:FI s s' s'):ml E n l ds s l' s':=λg _ _ hR hF=>
 ⟨g,hR.sub (N8 (CP h2)),hF.LY (N7 (Ap h1))⟩
def wU (nm k:Nat):Nat->Nat:=λj=>match Nat.beq j nm with
 | true=>k
 | false=>j
def Xq (nm k:Nat) (l:List (Nat×AV)):List (Nat×AV)->Prop
 | []=>True
 | (i,v')::F=>(∃ v,mj l i=some v/\v.iQ k=false/\v.lO (wU nm k)=v')/\Xq nm k l F
def Xr (nm k:Nat) (s:List (Nat×cQ)):List (Nat×cQ)->Prop
 | []=>True
 | (i,e')::F=>(∃ e,dF s i=some e/\e.mq k=false/\e.lO (wU nm k)=e'/\Nat.beq i nm=false/\Nat.beq i k=false)/\Xr nm k s F
def Jh (nm k:Nat):wU nm k nm=k:=by simp[wU]
def VS (h:j≠nm):wU nm k j=j:=by
 unfold wU;split
 ·rename_i q;exact aw (kH q) h
 rfl
mutual
def VR.wU {g:Gh} {nm k:Nat}:∀ {v:AV} {c:Value},v.iQ k=false->VR g v c->VR (g.alias k nm) (v.lO (wU nm k)) c
 | .any,_,_,_=>.any _
 | .oc,_,_,h=>by cases h with|oc h=>exact .oc h
 | .pv _,_,_,h=>by cases h with|pv h=>exact .pv (PR.congr (g:=g) (g':=g.alias k nm) (λ_ _ q=>q) h)
 | .ptr j off,_,hm,h=>by
  have hj:j≠k:=by simpa[AV.iQ] using hm
  cases h with|ptr _ h=>
   by_cases q:j=nm
   ·subst q;simp only[AV.lO,Jh];exact .ptr off (by simp[Gh.alias,h])
   ·simp only[AV.lO,VS q];exact .ptr off (by simp[Gh.alias,hj,h])
 | .arr j m,_,hm,h=>by
  have hj:j≠k:=by simpa[AV.iQ] using hm
  by_cases q:j=nm
  ·subst q;simp only[AV.lO,Jh];have e1:(g.alias k j).ρ k=g.ρ j:=by simp[Gh.alias]
   have e2:(g.alias k j).cp k=g.cp j:=by simp[Gh.alias]
   cases h with
   | arr _ h=>rw[<- e2];exact .arr m (e1.trans h)
   | AS h=>exact .AS (e1.trans h)
  simp only[AV.lO,VS q];have e1:(g.alias k nm).ρ j=g.ρ j:=by simp[Gh.alias,hj]
  have e2:(g.alias k nm).cp j=g.cp j:=by simp[Gh.alias,hj]
  cases h with
  | arr _ h=>rw[<- e2];exact .arr m (e1.trans h)
  | AS h=>exact .AS (e1.trans h)
 | .sp _,_,_,h=>by cases h with|sp off h hl hc=>exact .sp off h hl hc
 | .fn f x y,_,hm,h=>by
  simp[AV.iQ] at hm;cases h with|fn _ hx hy=>exact .fn f (Y.wU hm.1 hx) (Y.wU hm.2 hy)
 | .agg x,_,hm,h=>by cases h with|agg h=>exact .agg (Y.wU Zp h)
 | .lM x,_,hm,h=>by cases h with|lM h=>exact .lM (Y.wU Zp h)
 | .vu t x,_,hm,h=>by cases h with|vu _ h=>exact .vu t (VR.wU Zp h)
def Y.wU {g:Gh} {nm k:Nat}:∀ {v:List AV} {c:List Value},AV.iQ.ka k v=false->Y g v c->Y (g.alias k nm) (AV.lO.tB (wU nm k) v) c
 | [],_,_,h=>by cases h;exact .nil
 | x::xs,_,hm,h=>by
  simp[AV.iQ.ka] at hm;cases h with|cons h t=>exact .cons (VR.wU hm.1 h) (Y.wU hm.2 t)
end
def uF.alias {ps:List PV} {vs:List Value} (h:uF g ps vs):uF (g.alias k nm) ps vs:=sB (g:=g) (g':=g.alias k nm) (λ_ _ q=>q) h
def qN.wU {e:cQ} (hj:j≠k) (hm:AV.iQ.ka k e.cells=false) (h:qN g w j e):qN (g.alias k nm) w j (e.lO (wU nm k)):=by
 have e1:(g.alias k nm).ρ j=g.ρ j:=by simp[Gh.alias,hj]
 have e2:(g.alias k nm).cp j=g.cp j:=by simp[Gh.alias,hj]
 cases h with
 | box h hw hc h1=>exact .box (e1.trans h) hw (hc.wU hm) h1
 | AS h=>exact .AS (e1.trans h)
 | arr h hw hl hz hx hc=>exact .arr (e1.trans h) hw hl Qk U3 hc.alias
 | IH h=>exact .IH (e1.trans h)
 | app h hG hw hl hz hx hc=>exact .app (e1.trans h) hG hw hl Qk U3 hc.alias
def qN.Jh {el:TypeId} (h:qN g w nm (.app el sz cells)):qN (g.alias k nm) w k (.app el sz cells):=by
 have e1:(g.alias k nm).ρ k=g.ρ nm:=by simp[Gh.alias]
 have e2:(g.alias k nm).cp k=g.cp nm:=by simp[Gh.alias]
 cases h with
 | IH h=>exact .IH (e1.trans h)
 | app h hG hw hl hz hx hc=>exact .app (e1.trans h) hG hw hl Qk U3 hc.alias
def M5 {l:List (Nat×AV)}:∀ {F:List (Nat×AV)},Xq nm k l F->∀ i,(∃ v,s6 l i=v/\v.iQ k=false/\s6 F i=v.lO (wU nm k))\/s6 F i=.any
 | [],_,i=>.inr rfl
 | (j,v')::F,h,i=>by
  obtain ⟨⟨v,h1,h2,h3⟩,ht⟩:=h;simp only[s6];by_cases q:i=j
  ·subst q;rw[aL rfl];exact .inl ⟨v,jF h1,h2,h3.symm⟩
  rw[aC q];exact M5 ht i
def M6 {s:List (Nat×cQ)}:∀ {F:List (Nat×cQ)},Xr nm k s F->∀ i e',bU F i=some e'->∃ e,bU s i=some e/\AV.iQ.ka k e.cells=false/\e.lO (wU nm k)=e'/\i≠nm/\i≠k
 | [],_,i,e',h=>by cases h
 | (j,v')::F,h,i,e',he=>by
  obtain ⟨⟨e,h1,h2,h3,h4,h5⟩,ht⟩:=h;simp only[bU,uC] at he;by_cases q:i=j
  ·subst q;rw[aL rfl] at he;cases he;exact ⟨e,fv h1,cQ.N6 h2,h3,λq=>by subst q;simp at h4,λq=>by subst q;simp at h5⟩
  rw[aC q] at he;exact M6 ht i e' he
def B' (nm k:Nat) {e0:cQ} (he0:∀ g w,qN g w nm e0->qN (g.alias k nm) w k e0) (hnb:∀ cs,e0≠.box cs) (l':List (Nat×AV)) (s':List (Nat×cQ)) (hE:E.fix k=none) (hnk:Nat.beq nm k=false) (hk:dF s nm=some e0)
  (hd:jS nm ds=false/\jS k ds=false) (h1:Xq nm k l l') (h2:Xr nm k s s'):ml E n l ds s l' ((k,e0)::s'):=λg a w hR hF=>by
 have uv:nm≠k:=λq=>by subst q;simp at hnk
 have xp:=fv hk
 have QH:∀ i e',bU ((k,e0)::s') i=some e'->(i=k/\e'=e0)\/(i≠k/\i≠nm/\∃ e,bU s i=some e/\AV.iQ.ka k e.cells=false/\e.lO (wU nm k)=e'):=λi e' he=>by
  simp only[bU,uC] at he
  by_cases q:i=k
  ·subst q;rw[aL rfl] at he;cases he;exact .inl ⟨rfl,rfl⟩
  ·rw[aC q] at he
   obtain ⟨e,h3,h4,h5,h6,h7⟩:=M6 h2 i e' he
   exact .inr ⟨q,h6,e,h3,h4,h5⟩
 have hρk:(g.alias k nm).ρ k=g.ρ nm:=by simp[Gh.alias]
 have hρ:∀ j,j≠k->(g.alias k nm).ρ j=g.ρ j:=λj hj=>by simp[Gh.alias,hj]
 have Ja:∀ j,j≠k->(g.alias k nm).cp j=g.cp j:=λj hj=>by simp[Gh.alias,hj]
 have hold:∀ i,(bU ((k,e0)::s') i).isSome=true->∃ j,(bU s j).isSome=true/\(g.alias k nm).ρ i=g.ρ j/\((i=k/\j=nm)\/(i≠k/\i≠nm/\j=i)):=λi hi=>by
  cases q:bU ((k,e0)::s') i with
  | none=>rw[q] at hi;cases hi
  | some e'=>
   rcases QH i e' q with ⟨rfl,_⟩|⟨q1,q2,e,q3,_⟩
   ·exact ⟨nm,by rw[xp];rfl,hρk,.inl ⟨rfl,rfl⟩⟩
   ·exact ⟨i,by rw[q3];rfl,hρ i q1,.inr ⟨q1,q2,rfl⟩⟩
 refine ⟨g.alias k nm,?_,⟨hF.size,λi=>?_,?_⟩⟩
 ·exact {
      rU:=λi e' h=>by
       rcases QH i e' h with ⟨rfl,rfl⟩|⟨q1,q2,e,q3,q4,rfl⟩
       ·exact he0 _ _ (hR.rU nm _ xp)
       ·exact (hR.rU i e q3).wU q1 q4
      inj:=λi i' b h h' hb xH=>by
       obtain ⟨j,j1,j2,j3⟩:=hold i h
       obtain ⟨j',j1',j2',j3'⟩:=hold i' h'
       have:=hR.inj j j' b j1 j1' (j2▸hb) (j2'▸xH)
       rcases j3 with ⟨rfl,rfl⟩|⟨q1,q2,rfl⟩<;>rcases j3' with ⟨rfl,rfl⟩|⟨q1',q2',rfl⟩
       ·rfl
       ·exact aw this.symm q2'
       ·exact aw this q2
       ·exact this
      gl:=λb ys hb=>by
       obtain ⟨cs,el,fz,h1,h2,h3⟩:=hR.gl b ys hb
       exact ⟨cs,el,fz,h1,h2,h3.alias⟩
      apart:=λi b e' h BX hb=>by
       rcases QH i e' h with ⟨rfl,rfl⟩|⟨q1,q2,e,q3,q4,rfl⟩
       ·rw[hρk] at hb;exact hR.apart nm b _ xp BX hb
       ·exact hR.apart i b e q3 (by rw[<- cQ.N4 (wU nm k) e];exact BX) (by rw[<- hρ i q1];exact hb)
      size:=hR.size,yq:=hR.yq
      own:=λi b h hb=>by
       obtain ⟨j,j1,j2,_⟩:=hold i h
       exact hR.own j b j1 (j2▸hb)
      fix:=λi b h=>by
       have q:i≠k:=λq=>by subst q;rw[hE] at h;cases h
       rw[hρ i q];exact hR.fix i b h
      pP:=λi b h=>by
       have q:i≠k:=λq=>by subst q;rw[hE] at h;cases h
       rw[Ja i q];exact hR.pP i b h
      g0:=hR.g0,gn:=hR.gn,os:=hR.os,out:=hR.out,tape:=hR.tape
      x:=hR.x.FB rfl rfl (λi b hi hb=>by
       obtain ⟨j,j1,j2,j3⟩:=hold i hi
       refine ⟨j,j1,j2▸hb,?_⟩
       rcases j3 with ⟨_,rfl⟩|⟨_,_,rfl⟩
       ·exact .inr ⟨_,xp,hnb⟩
       ·exact .inl rfl) (λi b e' hfi hi=>by
       rcases QH i _ hi with ⟨rfl,q⟩|⟨q1,q2,e,q3,q4,q5⟩
       ·rw[hE] at hfi;cases hfi
       ·refine ⟨e,q3,λ⟨c,q⟩=>?_⟩
        subst q;exact ⟨_,q5.symm⟩) }
 ·have hsl:=hF.oP i
  rcases M5 h1 i with ⟨v,q1,q2,q3⟩|q
  ·simp only[cx] at hsl ⊢
   rw[q3];rw[q1] at hsl;exact hsl.wU q2
  ·simp only[cx];rw[q];exact .any _
 ·refine hF.ds.le (wP.alias g k nm) λj q p hp=>?_
  subst q;exact F6 hd.2 p hp
def Q0 (nm k:Nat) {el:TypeId} (l':List (Nat×AV)) (s':List (Nat×cQ)) (hE:E.fix k=none) (hnk:Nat.beq nm k=false) (hk:dF s nm=some (.app el sz cells)) (hd:jS nm ds=false/\jS k ds=false) (h1:Xq nm k l l') (h2:Xr nm k s s'):ml E n l ds s l' ((k,.app el sz cells)::s'):=
 B' nm k (λ_ _ h=>h.Jh) Qs l' s' hE hnk hk hd h1 h2
def qN.D' {el:TypeId} (h:qN g w nm (.arr el sz cells)):qN (g.alias k nm) w k (.arr el sz cells):=by
 have e1:(g.alias k nm).ρ k=g.ρ nm:=by simp[Gh.alias]
 have e2:(g.alias k nm).cp k=g.cp nm:=by simp[Gh.alias]
 cases h with
 | AS h=>exact .AS (e1.trans h)
 | arr h hw hl hz hx hc=>exact .arr (e1.trans h) hw hl Qk U3 hc.alias
def E' (nm k:Nat) {el:TypeId} (l':List (Nat×AV)) (s':List (Nat×cQ)) (hE:E.fix k=none) (hnk:Nat.beq nm k=false) (hk:dF s nm=some (.arr el sz cells)) (hd:jS nm ds=false/\jS k ds=false) (h1:Xq nm k l l') (h2:Xr nm k s s'):ml E n l ds s l' ((k,.arr el sz cells)::s'):=
 B' nm k (λ_ _ h=>h.D') Qs l' s' hE hnk hk hd h1 h2
end
def ob (bytes a b:Nat):Prop:=(a+b)*bytes<=140737488355328/\a+b<=maxLen
instance (bytes a b:Nat):Decidable (ob bytes a b):=by unfold ob;exact inferInstance
def Q1:∀ {a b:List PV},PV.pq a=true->PV.pq b=true->PV.pq (a++b)=true
 | [],_,_,h=>h
 | x::a,b,h,h'=>by simp[PV.pq] at h ⊢;exact ⟨h.1,Q1 h.2 h'⟩
variable {C:α->List PV} {g:Gh} {Cs:List α->List PV} {xs ys:List α} {cs lj:List AV}
def MA (hC:∀ x,PV.pq (C x)=true):∀ l:List α,PV.pq (l.flatMap C)=true
 | []=>rfl
 | x::l=>by rw[fk];exact Q1 (hC x) (MA hC l)
section
variable {P:Program} {Q:gh} {l:List (Nat×AV)} {ds:List (FuncId×List AV)} {s:List (Nat×cQ)}
 {ty:TypeId} {pos:String} {af:Array Edge}
structure M7 (P:Program) (E:Env) (l:List (Nat×AV)) (ds:List (FuncId×List AV)) (s:List (Nat×cQ)) {α:Type} (C:α->List PV) (Cs:List α->List PV) (t e:TypeId) (sz bytes k nm:Nat) (a x:Operand) (xs ys:List α):Prop where
 hT:P.underlying t=some (.slice e)
 hB:CL P e=some (sz,bytes)
 yo:∀ l,Cs l=l.flatMap C
 hL:∀ x,(C x).length=sz
 h1:∀ x,PV.pq (C x)=true
 hE:E.fix nm=none
 hs:bT l a=some (.arr k xs.length)
 hk:dF s k=some (.app e sz (Cs xs))
 hx:bT l x=some (.pv (.sl ys.length (Cs ys)))\/(ys=[]/\bT l x=some (nSl))
 hm:mA nm l=false/\jS nm ds=false/\Eg nm [k] s=false
 hg:ob bytes xs.length ys.length
def M7.srp (h:M7 P E l ds s C Cs t e sz bytes k nm a x xs ys) :
  Ĩ sz ((cx l ds).val x) ys.length (Cs ys):=by
 exact ahN
def M7.clr (h:M7 P E l ds s C Cs t e sz bytes k nm a x xs ys) :
  ((bU s).del k).clear nm:=by
 exact ahA
def Od (nm:Nat) (h:M7 P E l ds s C Cs t e sz bytes k nm a x xs ys) (hd:Nat.blt d n=true) (hn:SL P E n ops Q rest (cx ((d,.arr nm (List.length (xs++ys)))::l) ds) (bU ((nm,.app e sz (Cs (xs++ys)))::tE k s))) :
  SL P E n ops Q (⟨some d,.call ⟨.builtin .append,#[a,x],#[t,t]⟩,ty,pos,af,none⟩::rest) (cx l ds) (bU s):=by
 refine qE rfl (GS (nm:=nm) rfl h.hT h.hB (dQ h.hs) ME Qe h.srp Ŕ UH h.clr h.hE h.hg.1 h.hg.2 By ?_)
 rw[<- Be,<- dS,show Cs xs++Cs ys=Cs (xs++ys) by rw[h.yo,h.yo,h.yo,qD]];exact hn
def ż {el:TypeId} (yo:∀ l,Cs l=l.flatMap C) (hC:∀ x,(C x).length=sz) (hz:Nat.blt 0 sz=true) (hd:mj l d=some (.arr k xs.length)) (hk:dF s k=some (.app el sz (Cs xs))) :
 ml E n l ds s ((d,.pv (.sl xs.length (Cs xs)))::l) s:=aeB hd hk hz UR
def F' {el:TypeId} (yo:∀ l,Cs l=l.flatMap C) (hC:∀ x,(C x).length=sz) (hz:Nat.blt 0 sz=true) (hj:dF s j=some (.box cs)) (hc:cs[off]?=some (.arr k xs.length)) (hk:dF s k=some (.app el sz (Cs xs))) (xm:cs.set off (.pv (.sl xs.length (Cs xs)))=lj):ml E n l ds s l ((j,.box lj)::s):=by
 subst xm;exact Ż hj hc hk hz UR
def Ž {el:TypeId} (yo:∀ l,Cs l=l.flatMap C) (hC:∀ x,(C x).length=sz) (hz:Nat.blt 0 sz=true) (hx:bT l x=some (.arr k xs.length)) (hk:dF s k=some (.app el sz (Cs xs))) :
 mH P (.move x) l ds s (.pv (.sl xs.length (Cs xs))) [(k,.app el sz (Cs xs))]:=aet hx hk hz UR
def Hs {el:TypeId} {e:cQ} [ha:nX P t false] (yo:∀ l,Cs l=l.flatMap C) (hC:∀ x,(C x).length=sz) (hz:Nat.blt 0 sz=true) (hx:bT l x=some (.ptr k off)) (hk:dF s k=some e) (hv:e.cells[off]?=some (.arr j xs.length)) (hj:dF s j=some (.app el sz (Cs xs))) :
 mH P (.load t x) l ds s (.pv (.sl xs.length (Cs xs))) [(k,e),(j,.app el sz (Cs xs))]:=Z5 hx hk hv hj hz UR
variable {v:AV}
def VT (hd:mj l d=some v) {v':AV} (hv:v.nz=v'):ml E n l ds s ((d,v')::l) s:=λg a w hR hF=>by
 subst hv;refine ⟨g,hR,hF.size,λi=>?_,hF.ds⟩;have h:=hF.oP i;by_cases q:i=d
 ·subst q;simp only[cx,s6,if_true];simp only[cx,jF hd] at h;exact AV.VH v g _ h
 simpa[cx,s6,q] using h
def AV.Tz (v:AV):v.le .any:=λ_ _ _=>.any _
def VU:∀ (cs:List AV) (off:Nat),FD cs (cs.set off .any)
 | [],_=>.nil
 | c::cs,0=>.cons (AV.Tz c) (Kr cs)
 | c::cs,off+1=>.cons (gT c) (VU cs off)
where Kr:∀ cs:List AV,FD cs cs
 | []=>.nil
 | c::cs=>.cons (gT c) (Kr cs)
def VV:∀ (cs:List AV) (off:Nat) (v:AV),cs[off]?=some v->FD cs (cs.set off v.nz)
 | [],_,_,h=>by simp at h
 | c::cs,0,v,h=>by simp at h;subst h;exact .cons (AV.VH c) (VU.Kr cs)
 | c::cs,off+1,v,h=>.cons (gT c) (VV cs off v jk)
def ac2 (j off:Nat) (hj:dF s j=some (.box cs)) (hv:cs[off]?=some v) (hn:cs.set off v.nz=lj):ml E n l ds s l ((j,.box lj)::s):=by subst hn;exact VN hj (VV cs off v hv)
end
section
variable {P:Program} {Q:gh} {B:List Rec->kG->fi->Prop} {L:List Nat} {bj:List Rec} {l:List (Nat×AV)} {ds:List (FuncId×List AV)} {s:List (Nat×cQ)}
 {ty:TypeId} {pos:String} {af:Array Edge}
variable {l':List (Nat×AV)} {s':List (Nat×cQ)}
def VW (hg:ml E n l ds s l' s') (h:Q .normal (cx l' ds) (bU s')):DW P E n ops (GN E n ds Q) [] bj (cx l ds) (bU s):=⟨l,s,l',s',rfl,rfl,hg,h⟩
def Of (xs:List α) (yo:∀ l,Cs l=l.flatMap C) {m:Nat} {parts:List (Nat×Operand)} {zs:List Value} {pl:List (Nat×Nat)} {pv:List (Nat×AV)} {gd:Option (Nat×Bool)} [ht:ng P t m e sz zs pl] (ho:ops[i]?=some ⟨some d,.buildSlice t m parts.toArray,ty,pos,af,gd⟩) (hw:nW ops ⟨some d,.buildSlice t m parts.toArray,ty,pos,af,gd⟩ (cx l ds)) (h:parts.mapM (λp=>(bT l p.2).map λv=>(p.1,v))=some pv/\nr pl (zs.map λv=>.pv (.sc v)) pv=some ((xs.flatMap C).map .pv)) (hc:fB ⟨some d,.buildSlice t m parts.toArray,ty,pos,af,gd⟩=false/\Nat.blt d n=true) (hn:oN P E n ops Q B L (⟨i,some d,[],none⟩::bj) (cx ((d,.pv (.sl m (Cs xs)))::l) ds) (bU s)):oN P E n ops Q B (i::L) bj (cx l ds) (bU s):=by
 refine ⟨_,ho,.fz hw hc.1 (v:=.pv (.sl m (Cs xs))) ?_ (NF hc.2) (λ_ _ _ _=>rfl) hn⟩;rw[yo];refine BB ht.h ?_;rw[B6 h.1];exact h.2
def G' {gd:Option (Nat×Bool)} (nm:Nat) (ho:ops[i]?=some ⟨some d,.call ⟨.builtin .append,#[a,x],#[t,t]⟩,ty,pos,af,gd⟩) (hw:nW ops ⟨some d,.call ⟨.builtin .append,#[a,x],#[t,t]⟩,ty,pos,af,gd⟩ (cx l ds)) (h:M7 P E l ds s C Cs t e sz bytes k nm a x xs ys) (hd:Nat.blt d n=true) (pX:nt bj=true) (hn:qn ops i ((nm,.app e sz (Cs (xs++ys)))::tE k s) bj/\oN P E n ops Q B L bj (cx ((d,.arr nm (List.length (xs++ys)))::l) ds) (bU ((nm,.app e sz (Cs (xs++ys)))::tE k s))) :
  oN P E n ops Q B (i::L) bj (cx l ds) (bU s):=by
 refine ⟨_,ho,.fB hw rfl (.append (nm:=nm) rfl h.hT h.hB (dQ h.hs) ME Qe h.srp Ŕ UH h.clr h.hE h.hg.1 h.hg.2 By ?_)
  YS⟩
 have e1:((bU s).del k).set nm (.app e sz (Cs xs++Cs ys))=bU ((nm,.app e sz (Cs (xs++ys)))::tE k s):=by
  rw[<- Be,show Cs xs++Cs ys=Cs (xs++ys) by rw[h.yo,h.yo,h.yo,qD]];rfl
 rw[e1,<- dS]
 exact adG
end
end
section
def cQ.lost:cQ->cQ
 | .box cs=>.box (cs.map λ_=>.any)
 | e=>e
def pO:List cQ->Bool
 | []=>true
 | .box _::es=>pO es
 | _::_=>false
def VY (g:Gh):∀ {cells:List AV} {vs:List Value},cells.length=vs.length->Y g (cells.map λ_=>AV.any) vs
 | [],[],_=>.nil
 | _::cells,v::vs,h=>.cons (.any v) (VY g jk)
 | [],_::_,h=>by simp at h
 | _::_,[],h=>by simp at h
variable {g:Gh} {f:FuncId} {args:List AV} {es:List cQ} {X:Type} {V:X->AV} {C:X->List cQ} {ks:List Nat} {j5:FuncId} {cap:List AV} {R:GL->fi->Prop} {res:aG X} {T:TypeId} {Fi:List AV}
def Rel.lost {wS:World} {g':Gh} {σ':fi} {w w':World} (h0:Rel (Env.of wS g σ w) g σ w) (hb:∀ k e,σ k=some e->∃ cs,e=.box cs) (h:Rel (Env.of wS g σ w) g' σ' w') :
   Rel (Env.of wS g σ w) g' (λk=>(σ k).map cQ.lost) w':=by
 have key:∀ k e,(σ k).map cQ.lost=some e->∃ cs b,σ k=some (.box cs)/\e=.box (cs.map λ_=>.any)/\g.ρ k=some b/\g'.ρ k=some b/\(Env.of wS g σ w).fix k=some b:=λk e he=>by
   cases q:σ k with
   | none=>rw[q] at he;cases he
   | some e0=>
     rw[q] at he
     obtain ⟨cs,rfl⟩:=hb k e0 q
     have Ly:e=.box (cs.map λ_=>.any):=by simpa[cQ.lost] using he.symm
     cases h0.rU k _ q with
     | box h1 h2 h3=>
       rename_i b _ _ _
       have hf:(Env.of wS g σ w).fix k=some b:=by simp only[Env.of,q];exact h1
       exact ⟨cs,b,rfl,Ly,h1,h.fix k b hf,hf⟩
 have xp:∀ k,((σ k).map cQ.lost).isSome=true->∃ e,(σ k).map cQ.lost=some e:=λk hk=>by
   cases q:(σ k).map cQ.lost with
   | none=>rw[q] at hk;cases hk
   | some e=>exact ⟨e,rfl⟩
 exact {
         rU:=λk e he=>by
           obtain ⟨cs,b,h1,rfl,h3,h4,h5⟩:=key k e he
           cases h0.rU k _ h1 with
           | box h6 h7 h8 Ji=>
             rw[h3] at h6;cases h6
             obtain ⟨lj,h9,yM⟩:=h.x.Iq b _ _ _ h7
             obtain ⟨cs'',LB,Og⟩:=h.x.flat k b _ _ _ h5 h7 Ji
             rw[h9] at LB;cases LB
             refine .box h4 h9 (VY g' ?_) Og
             rw[h8.length];simp[yM]
         inj:=λk k' b hk FC hb xH=>by
           obtain ⟨e,he⟩:=xp k hk
           obtain ⟨e',Ly⟩:=xp k' FC
           obtain ⟨cs,c,h1,_,h3,h4,_⟩:=key k e he
           obtain ⟨lj,c',h1',_,h3',h4',_⟩:=key k' e' Ly
           rw[h4] at hb;cases hb
           rw[h4'] at xH;cases xH
           exact h0.inj k k' _ (by rw[h1];rfl) (by rw[h1'];rfl) h3 h3'
         gl:=h.gl
         apart:=λk b e he _ hb=>by
           obtain ⟨cs,c,h1,_,h3,h4,h5⟩:=key k e he
           rw[h4] at hb;cases hb
           exact h.x.xw k _ h5
         size:=h.size,yq:=h.yq
         own:=λk b hk hb=>by
           obtain ⟨e,he⟩:=xp k hk
           obtain ⟨cs,c,h1,_,h3,h4,_⟩:=key k e he
           rw[h4] at hb;cases hb
           exact .inl ⟨k,by rw[h1];rfl,h3⟩
         fix:=h.fix,pP:=h.pP,g0:=h.g0,gn:=h.gn,os:=h.os,out:=h.out,tape:=h.tape
         x:={
                Iq:=h.x.Iq,flat:=h.x.flat,set:=h.x.set,HC:=h.x.HC
                hi:=λk b hk hb=>by
                  obtain ⟨e,he⟩:=xp k hk
                  obtain ⟨cs,c,h1,_,h3,h4,_⟩:=key k e he
                  rw[h4] at hb;cases hb
                  exact h0.x.hi k b (by rw[h1];rfl) h3
                gf:=h.x.gf
                wQ:=h.x.wQ,xw:=h.x.xw
                wR:=λk b k' hf hk hb=>by
                  obtain ⟨e,he⟩:=xp k' hk
                  obtain ⟨cs,c,h1,_,h3,h4,h5⟩:=key k' e he
                  rw[h4] at hb;cases hb
                  have h6:=h.fix k _ hf
                  simp only[Env.of] at hf
                  split at hf
                  · rename_i Ir hc
                    exact h0.inj k' k _ (by rw[h1];rfl) MH h3 hf
                  · cases hf
                wT:=λk b e hf hk=>by
                  obtain ⟨cs,c,h1,h2,_⟩:=key k _ hk
                  exact ⟨_,h2⟩ } }
def akA {X:Type} (V:X->AV) (C:X->List cQ) (G:X->Prop) (H:AV->Prop) (es:List cQ):GL->fi->Prop:=
 λae σ=>(∃ x,G x/\ae=.ret (V x)/\σ=bU (gi 0 (C x)))\/(∃ v,H v/\ae=.panic v/\σ=bU (gi 0 (es.map cQ.lost)))
def Q2:∀ {es:List cQ} {i:Nat},bU (gi i (es.map cQ.lost))=λk=>(bU (gi i es) k).map cQ.lost
 | [],i=>by funext k;rfl
 | e::es,i=>by
  funext k;have ih:=congrFun (Q2 (es:=es) (i:=i+1)) k;simp only[jW,gi,bU,uC] at ih ⊢;split
  ·rfl
  exact ih
def Ks:∀ {es:List cQ},pO es=true->∀ {j:Nat} {e:cQ},es[j]?=some e->∃ cs,e=.box cs
 | [],_,j,e,h=>by simp at h
 | .box cs::es,h,0,e,he=>by simp at he;exact ⟨cs,he.symm⟩
 | .box cs::es,h,j+1,e,he=>Ks (es:=es) UO Dh
 | .arr _ _ _::es,h,_,_,_=>by simp[pO] at h
 | .app _ _ _::es,h,_,_,_=>by simp[pO] at h
variable {G:X->Prop} {H:AV->Prop}
def SC.lost {P:Program} (hb:pO es=true) (h:SC P f args (bU (gi 0 es)) (yw V C G H)) :
  SC P f args (bU (gi 0 es)) (akA V C G H es):=λwS g w vs hR hv=>(h wS g w vs hR hv).mono λe w' ⟨g',ae,σ',q,hE,kL⟩=>by
 rcases q with q|⟨v,hH,rfl,rfl⟩
 ·exact ⟨g',ae,σ',.inl q,hE,kL⟩
 ·refine ⟨g',_,bU (gi 0 (es.map cQ.lost)),.inr ⟨v,hH,rfl,rfl⟩,hE,?_⟩
  rw[Q2]
  exact hR.lost (λk e hk=>by
   obtain ⟨_,h2⟩:=o7 hk
   exact Ks hb h2) kL
section
variable {P:Program} {Q:gh} {l:List (Nat×AV)} {ds:List (FuncId×List AV)} {s:List (Nat×cQ)}
def Ej (m:Nat):(List.range m).contains=below m:=by
 funext j;have h1:(List.range m).contains j=decide (j<m):=by
  by_cases q:j<m<;>simp[q]
 rw[h1];simp only[below];by_cases q:j<m
 ·simp[q,A7.2 q]
 have:Nat.blt j m=false:=by
  cases h:Nat.blt j m with
  | false=>rfl
  | true=>exact aw (A7.1 h) q
 simp[q,this]
variable {cs:List cQ}
def Aq (hnd:nodupB ks=true) (h1:cs.length=ks.length) :
  after (bU s) (nth ks) (List.range ks.length) (List.range ks.length) (bU (gi 0 cs))=bU (s8 ks (pA (nth ks) cs)++s):=by
 funext k
 rw[Ob UT hnd]
 simp only[after]
 cases hf:(List.range ks.length).find? (λj=>nth ks j==k) with
 | some j=>
  have hj:=e9 hf
  simp at hj
  simp only[GC]
  have:j<cs.length:=by omega
  rw[aA this]
  have h6:=Ae (i:=0) (aA this)
  simp at h6
  rw[h6]
 | none=>
  exact adX
def CC {j:Nat} (hj:(bU (gi 0 es) j).isSome=true):j<es.length:=by
 cases q:bU (gi 0 es) j with
 | none=>rw[q] at hj;cases hj
 | some e=>
  obtain ⟨_,h2⟩:=o7 q
  have:=(ao.1 h2).1
  simpa using this
def HT (p:Nat->Bool):∀ {es:List cQ},pO es=true->pB p (es.map cQ.lost)=true
 | [],_=>rfl
 | .box cs::es,h=>by
  simp only[jW,pB,cQ.lost,cQ.oq,bk];refine ⟨?_,HT p UO⟩;have:∀ cs:List AV,AV.only.sS p (cs.map λ_=>AV.any)=true:=λcs=>by
   induction cs with
   | nil=>rfl
   | cons c cs ih=>simp[AV.only.sS,AV.only,ih]
  exact this cs
 | .arr _ _ _::_,h=>by simp[pO] at h
 | .app _ _ _::_,h=>by simp[pO] at h
variable {v:AV}
def B7 (hfr:fr.s=(cx l ds).s/\fr.ds=ds) (hl:es.length=ks.length) (hnd:nodupB ks=true) (hbx:PE l ds s ks ks es=true) (SM:Fh E ks es) (xm:cs.length=ks.length) (ho:pB (below ks.length) cs=true) (hv:v.only (below ks.length)=true) :
  IP E fr (bU s) (nth ks) (List.range ks.length) (List.range ks.length) (bU (gi 0 es)) (bU (gi 0 cs)) v:=by
 have hfr':fr=cx l ds:=by cases fr;simp only[cx] at hfr ⊢;rw[hfr.1,hfr.2]
 subst hfr'
 refine { Ŭ:=λj e hj=>?_,val:=by rw[Ej];exact hv,inj:=λj j' hj yL he=>A1 hnd A5 Vb he,same:=λj hj=>?_ }
 ·obtain ⟨_,h4⟩:=o7 hj
  have h5:=(ao.1 h4).1
  exact ⟨rI,by rw[Ej];exact GH ho h4⟩
 ·have yL:j<es.length:=by simp at hj;omega
  rcases NK hbx SM A5 (aA yL) with ⟨cs,xm⟩|⟨q1,q2,q3,q4⟩
  ·exact .inl ⟨cs,by have:=Ae (i:=0) (aA yL);rw[xm] at this;simpa using this⟩
  ·exact .inr ⟨tT q1 q2,λk e hkl he=>CI q3 k e (Vc hkl) he,q4⟩
variable {fF first vs:List AV}
def TA {f:Operand} {args:List Operand} (ks:List Nat) (vN:Enters P j5) (ho:o.op=.call ⟨.value f,args.toArray,ts⟩) (hC:SC P j5 fF (bU (gi 0 es)) (yw V C G H)) (hk:vf E ds l s ks f args j5 fF es first cap vs) (hbb:pO es=true) (hd:∀ d,o.dst=some d->d<n) (hx:∀ x,G x->(C x).length=ks.length/\pB (below ks.length) (C x)=true/\(V x).only (below ks.length)=true) (nP:∀ x,G x->next ((cx l ds).pS o.dst ((V x).lO (nth ks))) (bU (s8 ks (pA (nth ks) (C x))++s))) (vK:∀ v,H v->v.only (λ_=>false)=true/\Q (.panic v) (cx l ds) (bU (s8 ks (pA (nth ks) (es.map cQ.lost))++s))):Step P E n Q o (cx l ds) (bU s) next:=by
 obtain ⟨hl,JV⟩:=Am hk.gs;rw[sA] at hl;refine MY (nth ks) (List.range ks.length) vN ho (dQ hk.f) UG (hC.lost hbb) (λj hj=>by have:=CC hj;simp;omega) (λj e hj=>?_)
  ab6 hd (λv σc hr=>?_) (λv σc hr=>?_)
 ·exact ZC
 ·rcases hr with ⟨x,hg,he,rfl⟩|⟨_,_,he,_⟩
  ·cases he;obtain ⟨h1,h2,h3⟩:=hx x hg;exact ⟨List.range ks.length,B7 uA hl hk.nd hk.bx hk.fx h1 h2 h3,by rw[Aq hk.nd h1];exact nP x hg⟩
  cases he
 rcases hr with ⟨_,_,he,_⟩|⟨v',hh,he,rfl⟩
 ·cases he
 cases he;obtain ⟨h1,h2⟩:=vK v hh;refine ⟨List.range ks.length,B7 uA hl hk.nd hk.bx hk.fx (by simp[hl]) (HT _ hbb) (EX (λk hk=>by cases hk) h1),?_⟩;rw[Aq hk.nd (by simp[hl]),B4 h1];exact h2
end
section
variable {P:Program} {Q:gh}
def H' (ho:o.op=.defer ⟨.value x,#[],ts⟩) (hx:fr.val x=.fn j5 [] cap) (hd:∀ d,o.dst=some d->d<n) (hn:next (kG.pS ⟨fr.s,(j5,cap)::fr.ds⟩ o.dst .any) σ):Step P E n Q o fr σ next:=by
 intro g a w K hR hF hK;have q:=hF.eval x;rw[hx] at q;generalize hq:a.eval x=c at q;cases q with
 | fn _ h1 h2=>
  rename_i xs ys
  have LN:xs=[]:=by cases h1;rfl
  subst LN
  have oY:(execOp a.eval o).run P w=.ok (.defer { target:=.fn (.func j5) ys.toArray,args:=#[] }) w:=by
   simp[execOp,ho,resolve,hq,Deferred.ofValue]
  simp only[Oper.wp,oY,Oper.upon]
  refine hK g _ _ _ _ hn hR ?_
  have sR:FR n g ⟨fr.s,(j5,cap)::fr.ds⟩ { a with defers:={ target:=.fn (.func j5) ys.toArray,args:=#[] }::a.defers }:=⟨hF.size,hF.oP,.cons h2 hF.ds⟩
  exact sR.put hd (.any _)
def Oh {l:List (Nat×AV)} {ds:List (FuncId×List AV)} {s:List (Nat×cQ)} {ty:TypeId} {pos:String} {af:Array Edge} (hx:bT l x=some (.fn j5 [] cap)) (hn:SL P E n ops Q rest (cx l ((j5,cap)::ds)) (bU s)):SL P E n ops Q (⟨none,.defer ⟨.value x,#[],ts⟩,ty,pos,af,none⟩::rest) (cx l ds) (bU s):=
 qE rfl (H' rfl jT Qs hn)
def Mo0:Option Value->FrameMode->Prop
 | none,u=>u=.returning
 | some c,u=>u=.panicking [{ v:=c,recovered:=false }]
def SCD (P:Program) (f:FuncId) (cap:List AV) (σ:fi) (m:Option Value) (R:fi->Prop):Prop:=
 ∀ (wS:World) (g:Gh) (w:World) (vs:List Value) (u:FrameMode),Rel (Env.of wS g σ w) g σ w->Y g cap vs->Mo0 m u->
  CallsD P f vs.toArray u w λe u' w'=>(∃ v,e=.returned v)/\settle u'=.returning/\∃ g' σ',R σ'/\Rel (Env.of wS g σ w) g' σ' w'
def Xs (P:Program) (f:FuncId) (cap:List AV) (es:List cQ) (m:Option Value) {X:Type} (res:aG X) (C:X->List cQ):Prop:=
 ∀ r,res=r->r≠.stuck->SCD P f cap (bU (gi 0 es)) m (λσ=>∃ x,r=.ok x/\σ=bU (gi 0 (C x)))
def Xt (P:Program) (E:Env) (fn:Func) (R:GL->fi->Prop) (j5:FuncId) (cap:List AV) (m:Option Value) (fr:kG) (σ:fi):Prop:=
 ∃ (π:Nat->Nat) (L:List Nat) (σ0:fi) (Fi:List AV) (R0:fi->Prop),Enters P j5/\cap=AV.lO.tB π Fi/\SCD P j5 Fi σ0 m R0/\(∀ j,(σ0 j).isSome=true->L.contains j=true)/\
  (∀ j e,σ0 j=some e->σ (π j)=some (e.lO π))/\(∀ j j',(σ0 j).isSome=true->(σ0 j').isSome=true->π j=π j'->j=j')/\
  ∀ σc,R0 σc->IP E fr σ π L L σ0 σc (.lM [])/\vL P fn R .ret ⟨fr.s,[]⟩ (after σ π L L σc)
def Ie (P:Program) (E:Env) (fn:Func) (R:GL->fi->Prop):gh
 | .normal,fr,σ|.ret,fr,σ=>vL P fn R .ret fr σ\/∃ j5 cap,fr.ds=[(j5,cap)]/\Xt P E fn R j5 cap none fr σ
 | .panic v,fr,σ=>vL P fn R (.panic v) fr σ\/∃ j5 cap c,fr.ds=[(j5,cap)]/\(∀ g c',VR g v c'->c'=c)/\Xt P E fn R j5 cap (some c) fr σ
 | _,_,_=>False
def Xu (hf:P.funcs[f]?=some fn) (hb:fn.body=some c) (hn:args.length<=fn.ntmps) (h:∀ E:Env,(∀ k,(∀ cs,σ k≠some (.box cs))->E.fix k=none)->SW P E fn.ntmps c (Ie P E fn R) ⟨λi=>args[i]?.getD .any,[]⟩ σ):SC P f args σ R:=by
 intro wS g w vs hR hv;have hE:∀ k,(∀ cs,σ k≠some (.box cs))->(Env.of wS g σ w).fix k=none:=λk hk=>by
  cases q:σ k with
  | none=>simp only[Env.of,q]
  | some e=>cases e with
   | box cs=>exact aw q (hk cs)
   | arr el sz cs=>simp only[Env.of,q]
   | app el sz cs=>simp only[Env.of,q]
 have hlen:=hv.length;refine calls_of_wp_defers hf hb (wp_mono (h _ hE g { tmps:=vs.toArray++Array.replicate (fn.ntmps - vs.toArray.size) undef,defers:=[] } w hR ⟨rI,λi=>?_,.nil⟩) λe a w' hq=>?_)
 ·exact ahb
 obtain ⟨g',ae,oM,σ',q,hx,kL,sR⟩:=hq;have fin:∀ g' (oM:kG) (a:Act) σ' w',Rel (Env.of wS g σ w) g' σ' w'->FR fn.ntmps g' oM a->vL P fn R .ret oM σ'->
   ∃ c,(results fn a.tmps).run P w'=.ok c w'/\∃ g' ae σ',R ae σ'/\ER g' ae (.returned c)/\Rel (Env.of wS g σ w) g' σ' w':=by
  intro g' oM a σ' w' kL sR ⟨_,vs,v,σ2,h1,h2,hs,h3⟩
  exact ahm
 have runs:∀ j5 cap m u,oM.ds=[(j5,cap)]->Xt P (Env.of wS g σ w) fn R j5 cap m oM σ'->Mo0 m u->u≠.run->
   Leaves P fn a.tmps (λe w'=>∃ g' ae σ',R ae σ'/\ER g' ae e/\Rel (Env.of wS g σ w) g' σ' w') a.defers u w':=by
  intro j5 cap m u DO ⟨π,L,σ0,Fi,R0,vN,hcap,hC,hL,hσ,GV,hback⟩ hm hu
  have hdr:=sR.ds;rw[DO] at hdr
  generalize hdf:a.defers=dd at hdr
  cases hdr with
  | cons hv hnil=>
   rename_i cv ds
   have:ds=[]:=hnil.ET
   subst this
   rw[hcap] at hv
   refine ⟨hu,.func j5,cv.toArray,j5,cv.toArray,rfl,by simpa[invoke] using vN cv.toArray w',?_⟩
   refine (hC (Env.of wS g σ w).wS (g'.pull π) w' cv u (Vq kL hσ GV) hv.pull hm).mono λe u' w2 ⟨⟨v,he⟩,hset,g2,σ2,hr0,LZ⟩=>?_
   subst he
   obtain ⟨hB,hpost⟩:=hback σ2 hr0
   obtain ⟨h1,h2,_⟩:=HH (v:=.lM []) (c:=.tuple #[]) kL sR hL hσ hB LZ (.lM .nil)
   simp only[hset]
   exact fin _ ⟨oM.s,[]⟩ { tmps:=a.tmps,defers:=[] } _ _ h1 ⟨h2.size,h2.oP,.nil⟩ hpost
 cases hx with
 | normal=>
  exact ahD
 | ret=>
  exact ahD
 | panic hv=>
  rcases q with ⟨hd,σ2,hs,h1⟩|⟨j5,cap,c,DO,hc,oY⟩
  ·have hdd:=sR.ds;rw[hd] at hdd;simp only[bodyPostD,hdd.ET];exact ⟨g',_,σ2,h1,.panic hv,kL.sub hs⟩
  ·rw[hc _ _ hv];exact runs j5 cap (some c) _ DO oY rfl bm
 | exit id=>exact q.elim
 | goto l=>exact q.elim
end
section
variable {P:Program} {Q:gh} {l:List (Nat×AV)} {ds:List (FuncId×List AV)} {s:List (Nat×cQ)}
theorem I' (hf:P.funcs[f]?=some fn) (hb:fn.body=some c) (hn:Nat.ble args.length fn.ntmps=true) (h:∀ r,res=r->r≠.stuck->∀ E:Env,(∀ k,fc es k=true->E.fix k=none)->
   SW P E fn.ntmps c (Ie P E fn (yw V C (λx=>r=.ok x) (λv=>∃ p,r=.qH p/\v=p.av))) (cx ((List.range args.length).zip args) []) (bU (gi 0 es))):CT P f args es res V C:=.mk <|
 λr hr hs=>Xu hf hb UU λE hE=>by
  rw[Km]
  refine h r hr hs E λk hk=>hE k λcs xm=>?_
  exact ahc
def Ar {α:Type} (x:aG α) (h:sT->aG α):aG α:=match x with
 | .stuck=>.stuck
 | .qH p=>h p
 | .ok a=>.ok a
variable {r:aG α}
def Jj {x:aG α} {h:sT->aG α} (hr:r≠.stuck) (hc:Ar x h=r):∃ r0,r0≠.stuck/\x=r0/\Ar r0 h=r:=by
 refine ⟨x,?_,rfl,hc⟩;intro q;subst q;exact hr hc.symm
def HU {α:Type} (T:TypeId) (p:sT) (k:Int->aG α):aG α:=match p with
 | ⟨t,[.sc (.int .i64 v)]⟩=>if t=T then k v else .stuck
 | _=>.stuck
def NI {p:sT} {k:Int->aG α} (hr:r≠.stuck) (h:HU T p k=r):∃ v,p=⟨T,[.sc (.int .i64 v)]⟩/\k v=r:=by
 unfold HU at h;split at h
 ·split at h
  ·rename_i v q;subst q;exact ⟨v,rfl,h⟩
  exact JI
 exact JI
def J' {v:Int} {c:Value} (h:VR g (sT.av ⟨T,[.sc (.int .i64 v)]⟩) c):c=.iface T (.agg #[.int .i64 v]):=by
 simp only[sT.av,jW,tw] at h;cases h with
 | vu _ h=>cases h with
  | agg h=>cases h with
   | cons h t=>
    cases t
    rw[h.gO]
def Xv (h:vL P fn R .normal fr σ):vL P fn R .ret fr σ:=h
def M' (SO:ae=.ret\/ae=.normal) (h:vL P fn R ae fr σ):Ie P E fn R ae fr σ:=by
 rcases SO with rfl|rfl
 ·exact .inl h
 exact .inl (Xv h)
variable {v:AV}
structure VZ (E:Env) (l:List (Nat×AV)) (s:List (Nat×cQ)) (ks:List Nat) (cap Fi:List AV) (es:List cQ):Prop where
 c:cap=AV.lO.tB (nth ks) Fi
 gs:Al s ks=some (pA (nth ks) es)
 nd:nodupB ks=true
 bx:pO es=true
def M8:∀ {ks:List Nat} {es:List cQ},pO es=true->Fh E ks es
 | [],_,_=>by cases ‹List cQ›<;>trivial
 | _::_,[],_=>trivial
 | k::ks,.box cs::es,h=>by simp only[Fh];exact M8 UO
 | _::_,.arr _ _ _::_,h=>by simp[pO] at h
 | _::_,.app _ _ _::_,h=>by simp[pO] at h
def Q3 {ks0:List Nat}:∀ {ks:List Nat} {es:List cQ},pO es=true->PE l ds s ks0 ks es=true
 | [],_,_=>by cases ‹List cQ›<;>rfl
 | _::_,[],_=>rfl
 | k::ks,.box cs::es,h=>by simp only[PE];simp[Q3 (ks:=ks) (es:=es) UO]
 | _::_,.arr _ _ _::_,h=>by simp[pO] at h
 | _::_,.app _ _ _::_,h=>by simp[pO] at h
def ac3 {m:Option Value} (vN:Enters P j5) (hC:Xs P j5 Fi es m res C) (JT:res≠.stuck) (hk:VZ E l s ks cap Fi es) (hx:∀ x,(C x).length=ks.length/\pB (below ks.length) (C x)=true) (nP:∀ x,res=.ok x->vL P fn R .ret (cx l []) (bU (s8 ks (pA (nth ks) (C x))++s))):Xt P E fn R j5 cap m (cx l [(j5,cap)]) (bU s):=by
 obtain ⟨hl,JV⟩:=Am hk.gs;rw[sA] at hl;refine ⟨nth ks,List.range ks.length,bU (gi 0 es),Fi,_,vN,hk.c,hC res rfl JT,λj hj=>by have:=CC hj;simp;omega,λj e hj=>?_,
  λj j' hj yL he=>A1 hk.nd (by have:=CC hj;omega) (by have:=CC yL;omega) he,?_⟩
 ·exact ZC
 rintro σc ⟨x,hxr,rfl⟩;obtain ⟨h1,h2⟩:=hx x;refine ⟨B7 (l:=l) (ds:=[(j5,cap)]) uA hl hk.nd (Q3 hk.bx) (M8 hk.bx) h1 h2 rfl,?_⟩;rw[Aq hk.nd h1];exact nP x hxr
def Xw (SO:ae=.ret\/ae=.normal) (ks:List Nat) {x:X} (vN:Enters P j5) (hC:Xs P j5 Fi es none (aG.ok x) C) (hk:VZ E l s ks cap Fi es) (hx:∀ x,(C x).length=ks.length/\pB (below ks.length) (C x)=true) {s':List (Nat×cQ)} (hs:s8 ks (pA (nth ks) (C x))++s=s') (nP:vL P fn R .ret (cx l []) (bU s')):Ie P E fn R ae (cx l [(j5,cap)]) (bU s):=by
 have:Xt P E fn R j5 cap none (cx l [(j5,cap)]) (bU s):=ac3 vN hC bm hk hx λy q=>by cases q;rw[hs];exact nP
 rcases SO with rfl|rfl
 ·exact .inr ⟨j5,cap,rfl,this⟩
 exact .inr ⟨j5,cap,rfl,this⟩
variable {fF first vs:List AV}
def BD {d:Nat} {R:Type} {kk:X->aG R} {r:aG R} {V':X->AV} {C':X->List (Nat×cQ)} {f:Operand} {args:List Operand} (hr:r≠.stuck) (h:ag res kk=r) (ks:List Nat) (vN:Enters P j5) (hC:CT P j5 fF es res V C) (hk:vf E ds l s ks f args j5 fF es first cap vs) (hbb:pO es=true) (hd:Nat.blt d n=true) (hx:∀ x,(C x).length=ks.length/\pB (below ks.length) (C x)=true/\(V x).only (below ks.length)=true) (hV:∀ x,(V x).lO (nth ks)=V' x/\s8 ks (pA (nth ks) (C x))=C' x) {sp:List (Nat×cQ)} (hsp:s8 ks (pA (nth ks) (es.map cQ.lost))++s=sp) (vK:∀ p,r=.qH p->Q (.panic p.av) (cx l ds) (bU sp)) (nP:∀ x,kk x=r->SL P E n ops Q rest (cx ((d,V' x)::l) ds) (bU (C' x++s))) :
  SL P E n ops Q (⟨some d,.call ⟨.value f,args.toArray,ts⟩,ty,pos,af,none⟩::rest) (cx l ds) (bU s):=by
 obtain ⟨JT,Gz,hp⟩:=BA hr h
 subst hsp
 refine qE rfl (TA ks vN rfl (hC.h res rfl JT) hk hbb By (λx _=>hx x) (λx hg=>?_) (λv hv=>?_))
 ·exact ad0
 ·obtain ⟨p,EY,rfl⟩:=hv
  exact ⟨p.only _,vK p (hp p EY)⟩
end
end
def xx (k:IntKind) (x y:Int):Int:=k.wrap (x*2 ^ (min y.toNat k.bits))
def air (k:IntKind) (x y:Int):Int:=x.fdiv (2 ^ (min y.toNat k.bits))
def Xx (k:IntKind) (x y:Int):Int:=k.wrap (BitVec.ofInt k.bits x&&& BitVec.ofInt k.bits y).toNat
def Cy (k:IntKind) (x y:Int):Int:=k.wrap (BitVec.ofInt k.bits x||| BitVec.ofInt k.bits y).toNat
def ž (k:IntKind) (x y:Int):Int:=k.wrap (BitVec.ofInt k.bits x ^^^ BitVec.ofInt k.bits y).toNat
def V0 (k:IntKind) (x y:Int):Int:=k.wrap (BitVec.ofInt k.bits x&&& ~~~BitVec.ofInt k.bits y).toNat
def L0 (k:IntKind) (x:Int):Int:=ž k (if k.signed then -1 else k.max) x
def jx (l:List Int) (i:Int):Int:=l.getD i.toNat 0
def sy (l:List Int) (i v:Int):List Int:=l.set i.toNat v
def jz (l:List Int):ByS:=l.map λi=>UInt8.ofNat i.toNat
section
variable {P:Program} {l:List (Nat×AV)} {ds:List (FuncId×List AV)} {s:List (Nat×cQ)}
variable {y:Operand} {k:IntKind} {a b:Int} {u:TypeId} {v:AV} {cs:List AV}
def aeE (hx:bT l x=some (Sc (.int k a))) (hy:bT l y=some (Sc (.int k b))) (h:b≠0):mH P (.binOp .quo xt x y yt) l ds s (Sc (.int k (k.wrap (a.tdiv b)))) []:=
 .of (Ba jT tt λw=>by simp[binOp,Op.intDiv,h])
def aeF (hx:bT l x=some (Sc (.int k a))) (hy:bT l y=some (Sc (.int k b))) (h:b≠0):mH P (.binOp .rem xt x y yt) l ds s (Sc (.int k (a.tmod b))) []:=
 .of (Ba jT tt λw=>by simp[binOp,Op.intDiv,h])
variable {k':IntKind}
def aeG (hx:bT l x=some (Sc (.int k a))) (hy:bT l y=some (Sc (.int k' b))) (h:0<=b):mH P (.binOp .shl xt x y yt) l ds s (Sc (.int k (xx k a b))) []:=
 .of (Ba jT tt λw=>by simp[binOp,Op.shift,Int.not_lt.2 h,xx])
def aeH (hx:bT l x=some (Sc (.int k a))) (hy:bT l y=some (Sc (.int k' b))) (h:0<=b):mH P (.binOp .shr xt x y yt) l ds s (Sc (.int k (air k a b))) []:=
 .of (Ba jT tt λw=>by simp[binOp,Op.shift,Int.not_lt.2 h,air])
def aeI (hx:bT l x=some (Sc (.int k a))) (hy:bT l y=some (Sc (.int k b))):mH P (.binOp .and xt x y yt) l ds s (Sc (.int k (Xx k a b))) []:=
 .of (Ba jT tt λw=>by simp[binOp,Op.intBits,Xx])
def ais (hx:bT l x=some (Sc (.int k a))) (hy:bT l y=some (Sc (.int k b))):mH P (.binOp .or xt x y yt) l ds s (Sc (.int k (Cy k a b))) []:=
 .of (Ba jT tt λw=>by simp[binOp,Op.intBits,Cy])
def aeJ (hx:bT l x=some (Sc (.int k a))) (hy:bT l y=some (Sc (.int k b))):mH P (.binOp .xor xt x y yt) l ds s (Sc (.int k (ž k a b))) []:=
 .of (Ba jT tt λw=>by simp[binOp,Op.intBits,ž])
def Xy (hx:bT l x=some (Sc (.int k a))) (hy:bT l y=some (Sc (.int k b))):mH P (.binOp .andNot xt x y yt) l ds s (Sc (.int k (V0 k a b))) []:=
 .of (Ba jT tt λw=>by simp[binOp,Op.intBits,V0])
def ac4 {op:UnOp} {a c:Value} (hx:fr.val x=Sc a) (h:∀ w,(Op.unary op a).run P w=.ok c w):X P (.unOp op t x) fr [] (Sc c):=by
 intro o ho g ev w _ hv _;have q1:=hv x uy;rw[hx] at q1;exact ⟨c,by simp[execOp,ho,q1.gO,h],.pv (.sc _)⟩
def aeK (hx:bT l x=some (Sc (.int k a))):mH P (.unOp .neg t x) l ds s (Sc (.int k (k.wrap (0 - a)))) []:=
 .of (ac4 jT λw=>by simp[Op.unary,Op.intArith])
def aeL (hx:bT l x=some (Sc (.int k a))):mH P (.unOp .xor t x) l ds s (Sc (.int k (L0 k a))) []:=
 .of (ac4 jT λw=>by simp[Op.unary,Op.intBits,L0,ž])
def Oe (T:TypeId) (b:Bool):AV:=match b with
 | true=>.vu T .any
 | false=>Sc .nilIface
class Q4 (P:Program) (t:TypeId):Prop where h:∃ ms,P.underlying t=some (.interface ms)
def Q5 (ht:∃ ms,P.underlying t=some (.interface ms)) (u:TypeId) (v:Value) (w:World):(Op.equal t (.iface u v) .nilIface).run P w=.ok false w:=by
 obtain ⟨ms,ht⟩:=ht;have:∀ d,(Op.equalIn (d+1) t (.iface u v) .nilIface).run P w=.ok false w:=λd=>by simp[Op.equalIn,run_underlying ht]
 exact this 9999
def Q6 (ht:∃ ms,P.underlying t=some (.interface ms)) (w:World):(Op.equal t .nilIface .nilIface).run P w=.ok true w:=by
 obtain ⟨ms,ht⟩:=ht;have:∀ d,(Op.equalIn (d+1) t .nilIface .nilIface).run P w=.ok true w:=λd=>by simp[Op.equalIn,run_underlying ht]
 exact this 9999
def ſ (ht:∃ ms,P.underlying xt=some (.interface ms)) (hx:fr.val x=.vu u v) (hy:fr.val y=Sc .nilIface):X P (.binOp .neq xt x y yt) fr [] (Bo true):=by
 intro o ho g ev w _ hv _;have q1:=hv x uy;rw[hx] at q1;have q2:=hv y uy;rw[hy] at q2;generalize hq:ev x=c at q1;cases q1 with
 | vu _ h=>
  rename_i vv
  refine ⟨.bool true,?_,.pv (.sc _)⟩
  simp[execOp,ho,hq,q2.gO,eqGuard,binOp,Q5 ht u vv w]
def aaa (ht:∃ ms,P.underlying xt=some (.interface ms)) (hx:fr.val x=.vu u v) (hy:fr.val y=Sc .nilIface):X P (.binOp .eql xt x y yt) fr [] (Bo false):=by
 intro o ho g ev w _ hv _;have q1:=hv x uy;rw[hx] at q1;have q2:=hv y uy;rw[hy] at q2;generalize hq:ev x=c at q1;cases q1 with
 | vu _ h=>
  rename_i vv
  refine ⟨.bool false,?_,.pv (.sc _)⟩
  simp[execOp,ho,hq,q2.gO,eqGuard,binOp,Q5 ht u vv w]
def aab (ht:∃ ms,P.underlying xt=some (.interface ms)) (hx:fr.val x=Sc .nilIface):X P (.binOp .neq xt x (.const .nilIface) yt) fr [] (Bo false):=by
 intro o ho g ev w _ hv _;have q1:=hv x uy;rw[hx] at q1;have q2:=hv (.const .nilIface) uy;have e2:ev (.const .nilIface)=.nilIface:=p8 q2;refine ⟨.bool false,?_,.pv (.sc _)⟩;simp[execOp,ho,q1.gO,e2,eqGuard,binOp,Q6 ht w]
def aac (ht:∃ ms,P.underlying xt=some (.interface ms)) (hx:fr.val x=Sc .nilIface):X P (.binOp .eql xt x (.const .nilIface) yt) fr [] (Bo true):=by
 intro o ho g ev w _ hv _;have q1:=hv x uy;rw[hx] at q1;have q2:=hv (.const .nilIface) uy;have e2:ev (.const .nilIface)=.nilIface:=p8 q2;refine ⟨.bool true,?_,.pv (.sc _)⟩;simp[execOp,ho,q1.gO,e2,eqGuard,binOp,Q6 ht w]
def Hv [ht:Q4 P xt] (hx:bT l x=some (.vu u v)) (hy:bT l y=some (Sc .nilIface)):mH P (.binOp .neq xt x y yt) l ds s (Bo true) []:=.of (ſ ht.h jT tt)
def aeM [ht:Q4 P xt] (hx:bT l x=some (.vu u v)) (hy:bT l y=some (Sc .nilIface)):mH P (.binOp .eql xt x y yt) l ds s (Bo false) []:=.of (aaa ht.h jT tt)
def NJ [ht:Q4 P xt] (hx:bT l x=some (Sc .nilIface)):mH P (.binOp .neq xt x (.const .nilIface) yt) l ds s (Bo false) []:=.of (aab ht.h jT)
def aeN [ht:Q4 P xt] (hx:bT l x=some (Sc .nilIface)):mH P (.binOp .eql xt x (.const .nilIface) yt) l ds s (Bo true) []:=.of (aac ht.h jT)
variable {T:TypeId}
def aeO {b:Bool} [ht:Q4 P xt] (hx:bT l x=some (Oe T b)):mH P (.binOp .neq xt x (.const .nilIface) yt) l ds s (Bo b) []:=by
 cases b with
 | true=>exact Hv hx rfl
 | false=>exact NJ hx
def aeP {d:TypeDesc} (ht:P.underlying t=some d) (hd:ZS d=false) (hx:fr.val x=.vu t v):X P (.typeAssert x xt t true) fr [] (.lM [v,Bo true]):=by
 intro o ho g ev w _ hv _;have q1:=hv x uy;rw[hx] at q1;generalize hq:ev x=c at q1;cases q1 with
 | vu _ h=>
  rename_i vv
  refine ⟨.tuple [vv,.bool true].toArray,?_,.lM (.cons h (.cons (.pv (.sc _)) .nil))⟩
  simp only[execOp,ho,hq,Instr.typeAssert,cC,run_underlying ht,bQ]
  cases d<;>simp_all [ZS]
def ac5 [ht:n' P t] (hx:bT l x=some (.vu t v)):mH P (.typeAssert x xt t true) l ds s (.lM [v,Bo true]) []:=by
 have h:=ht.h;cases hu:P.underlying t with
 | none=>simp[hu] at h
 | some d=>simp[hu] at h;exact .of (aeP hu h jT)
def Q7 (f:Int->AV):∀ {xs:List Int} {i:Int},0<=i->i<xs.length->(xs.map f)[i.toNat]?=some (f (jx xs i)):=λ{xs i} h0 h1=>by
 have:i.toNat<xs.length:=by omega
 simp[jx,this]
variable {i:Int}
def aeQ (f:Int->AV) {e:TypeId} {ix:Operand} [ht:ug P t (.array n e)] [ha:nX P e false] [hz:yn P e 1] (hx:bT l x=some (.agg cs)) (hi:bT l ix=some (Sc (.int k i))) (hc:cs=xs.map f) (hn:xs.length=n) (h0:0<=i) (h1:i<n):mH P (.index t x ix) l ds s (f (jx xs i)) []:=
 .of (N0 ht.h ha.h hz.h jT (dQ hi) h0 h1 (by rw[hc];exact Q7 f h0 (by rw[hn];exact h1)))
def aeR (f:Int->AV) {k:Nat} [ha:nX P t false] (hx:bT l x=some (.ptr k (0+i.toNat*1))) (hk:dF s k=some (.box cs)) (hc:cs=xs.map f) (h0:0<=i) (h1:i<xs.length) :
  mH P (.load t x) l ds s (f (jx xs i)) [(k,.box cs)]:=
 .on hk (D3 ha.h jT (by simp only[cQ.cells];rw[hc,show 0+i.toNat*1=i.toNat by omega];exact Q7 f h0 h1))
def aad {a b:TypeId} {c:ByS} [hs:ug P a .string] [ht:ug P b .string] (hx:bT l x=some (eu c)):mH P (.convert a b x) l ds s (eu c) []:=.of (by
 intro o ho g ev w _ hv _
 have q1:=hv x uy;rw[dQ hx] at q1
 exact ⟨S c,by simp[execOp,ho,q1.gO,convert,run_underlying hs.h,run_underlying ht.h,S],.pv (.sc _)⟩)
end
section
variable {g:Gh} {C:α->List PV} {Cs:List α->List PV} {xs:List α} {cs lj:List AV}
def qN.A8 {el:TypeId} {cells:List PV} (h:qN g w k (.arr el sz cells)):(g.ρ k=none/\cells=[])\/
  ∃ (b:Nat) (cs:Array Value) (el':TypeId),g.ρ k=some b/\w.heap[b]?=some (.cells cs el' (0,0))/\cells.length<=cs.size/\cs.size=g.cp k*sz:=by
 generalize he:cQ.arr el sz cells=e at h
 cases h with
 | box=>cases he
 | AS h=>cases he;exact .inl ⟨h,rfl⟩
 | arr h hw hl hz=>cases he;exact .inr ⟨_,_,_,h,hw,hl,hz⟩
 | IH=>cases he
 | app=>cases he
def VR.A8 {n:Nat} {c:Value} (h:VR g (.arr k n) c):(∃ b,g.ρ k=some b/\c=.slice (some ⟨b,0,none⟩) n (g.cp k))\/(g.ρ k=none/\n=0/\c=.slice none 0 0):=by
 generalize he:AV.arr k n=e at h;cases h with
 | arr m hb=>cases he;exact .inl ⟨_,hb,rfl⟩
 | AS hb=>cases he;exact .inr ⟨hb,rfl,rfl⟩
 | _=>cases he
variable {b:Nat}
def Rel.freeze (h:Rel E g σ w) {e:cQ} {ys:List PV} (hk:σ k=some e) (BX:e.isApp=false) (SM:E.fix k=none) (hb:g.ρ k=some b) (hc:e.cells=ys.map .pv) :
  Rel E (g.iB b ys) (σ.del k) w:=by
 have hG:=h.apart k b e hk BX hb
 have hle:wP (λ_=>False) g (g.iB b ys):=qm g b ys hG
 have xp:(σ k).isSome=true:=by rw[hk];rfl
 have hdel:∀ j e',(σ.del k) j=some e'->j≠k/\σ j=some e':=λj e' hj=>by
  by_cases q:j=k
  ·subst q;simp[fi.del] at hj
  ·exact ab5
 have Q8:∀ j,((σ.del k) j).isSome=true->j≠k/\(σ j).isSome=true:=λj hj=>by
  by_cases q:j=k
  ·subst q;simp[fi.del] at hj
  ·exact ab5
 have uv:∀ j c,j≠k->(σ j).isSome=true->g.ρ j=some c->c≠b:=λj c hj hs hc q=>by
  subst q;exact hj (h.inj j k c hs xp hc hb)
 have hfb:∀ j,E.fix j≠some b:=λj q=>by
  have:=h.x.wR j b k q xp hb
  subst this;rw[SM] at q;cases q
 obtain ⟨cs,el,hw,JY,PI⟩:=(h.rU k e hk).at hb
 rw[hc] at JY PI
 simp only[iE] at JY PI
 refine { rU:=?_,inj:=?_,gl:=?_,apart:=?_,size:=h.size,yq:=h.yq,own:=?_,fix:=h.fix,pP:=h.pP,g0:=?_,gn:=?_,os:=h.os,out:=h.out,tape:=h.tape,x:=?_ }
 ·intro j e' hj
  obtain ⟨q,yL⟩:=hdel j e' hj
  exact (h.rU j e' yL).le hle (λq=>q) (λc hc _=>by simp[Gh.iB,uv j c q (by rw[yL];rfl) hc]) (λ_ q=>q.elim) (λ_ _=>rfl)
 ·exact λj j' c hj yL=>h.inj j j' c (Q8 j hj).2 (Q8 j' yL).2
 ·intro c zs hz
  by_cases q:c=b
  ·subst q;simp[Gh.iB] at hz;subst hz
   exact ⟨cs,el,(0,0),hw,JY,(uF.HG PI).le hle⟩
  ·simp[Gh.iB,q] at hz
   obtain ⟨c1,e1,f1,h1,h2,h3⟩:=h.gl c zs hz
   exact ⟨c1,e1,f1,h1,h2,h3.le hle⟩
 ·intro j c e' hj hja hc'
  obtain ⟨q,yL⟩:=hdel j e' hj
  have:=uv j c q (by rw[yL];rfl) hc'
  simp only[Gh.iB,this,if_false]
  exact h.apart j c e' yL hja hc'
 ·exact λj c hj hc=>h.own j c (Q8 j hj).2 hc
 ·intro c zs hz
  obtain ⟨us,h1⟩:=h.g0 c zs hz
  obtain ⟨vs,h2⟩:=hle.G c _ h1
  exact adI
 ·intro c zs hz
  by_cases q:c=b
  ·subst q
   rcases h.own k c xp hb with q|q
   ·exact .inr (.inl q)
   ·exact .inr (.inr q)
  ·simp[Gh.iB,q] at hz;exact h.gn c zs hz
 ·exact {
      Iq:=h.x.Iq,flat:=h.x.flat,set:=h.x.set,HC:=h.x.HC,gf:=h.x.gf,wQ:=h.x.wQ
      hi:=λj c hj hc=>h.x.hi j c (Q8 j hj).2 hc
      xw:=λj c hf=>by
       have:c≠b:=λq=>by subst q;exact hfb j hf
       simp only[Gh.iB,this,if_false];exact h.x.xw j c hf
      wR:=λj c j' hf hj hc=>h.x.wR j c j' hf (Q8 j' hj).2 hc
      wT:=λj c e' hf hj=>h.x.wT j c e' hf (hdel j e' hj).2 }
section
variable {P:Program} {Q:gh} {l:List (Nat×AV)} {ds:List (FuncId×List AV)} {s:List (Nat×cQ)}
 {ty:TypeId} {pos:String} {af:Array Edge}
def aae (l:List (Nat×AV)) (s:List (Nat×cQ)):ml E n l ds s l s:=λg _ _ hR hF=>⟨g,hR,hF⟩
def N' {el:TypeId} (yo:∀ l,Cs l=l.flatMap C) (hC:∀ x,(C x).length=sz) (hz:0<sz) (hb:g.ρ k=some b) (he:qN g w k (.arr el sz (Cs xs))):VR (g.iB b (Cs xs)) (.pv (.sl xs.length (Cs xs))) (.slice (some ⟨b,0,none⟩) xs.length (g.cp k)):=by
 rcases he.A8 with ⟨h,_⟩|⟨b',cs,el',h,hw,hl,I7⟩
 ·rw[h] at hb;cases hb
 rw[h] at hb;cases hb;refine .pv (.sl _ (Cs xs) 0 _ _ (Cs xs) JK bm bm ?_);have h1:xs.length*sz<=g.cp k*sz:=by
  rw[<- I7];rw[yo,tu hC] at hl;exact hl
 exact mu h1 hz
def ZD (hC:∀ x,(C x).length=sz) (hz:0<sz) (h:xs.flatMap C=[]):xs=[]:=by
 have:=tu hC xs;rw[h] at this;cases xs with
 | nil=>rfl
 | cons a l=>simp[r9] at this;omega
def O' {el:TypeId} (yo:∀ l,Cs l=l.flatMap C) (hC:∀ x,(C x).length=sz) (hz:Nat.blt 0 sz=true) (hd:mj l d=some (.arr k xs.length)) (hk:dF s k=some (.arr el sz (Cs xs))) (hE:E.fix k=none):ml E n l ds s ((d,.pv (.sl xs.length (Cs xs)))::l) (tE k s):=λg a w hR hF=>by
 have xp:=fv hk;have I7:0<sz:=by simpa[sH] using hz
 have hs:=hF.oP d;simp only[cx,jF hd] at hs;rw[Be];cases hb:g.ρ k with
 | none=>
  have hx:xs=[]:=by
   exact ahJ
  subst hx
  have e0:Cs ([]:List α)=[]:=by rw[yo];rfl
  refine ⟨g,hR.sub λj e hj=>by
   unfold fi.del at hj;split at hj
   ·cases hj
   exact hj,hF.size,λi=>?_,hF.ds⟩
  by_cases q:i=d
  ·subst q;simp only[cx,s6,if_true];generalize a.tmps.getD i undef=c at hs ⊢;rcases hs.A8 with ⟨b',h,_⟩|⟨_,_,rfl⟩
   ·rw[h] at hb;cases hb
   rw[e0];exact .pv (.nil _ _)
  ·simpa[cx,s6,q] using hF.oP i
 | some b=>
  refine ⟨g.iB b (Cs xs),hR.freeze xp rfl hE hb rfl,?_⟩
  have hle:wP (λ_=>False) g (g.iB b (Cs xs)):=qm g b _ (hR.apart k b _ xp rfl hb)
  have sR:=hF.le hle (λ_ q=>q.elim)
  refine ⟨sR.size,λi=>?_,sR.ds⟩
  by_cases q:i=d
  ·subst q;simp only[cx,s6,if_true];generalize a.tmps.getD i undef=c at hs ⊢;rcases hs.A8 with ⟨b',h,rfl⟩|⟨h,_⟩
   ·rw[h] at hb;cases hb;exact N' yo hC I7 h (hR.rU k _ xp)
   rw[h] at hb;cases hb
  ·simpa[cx,s6,q] using sR.oP i
def aaf {el:TypeId} (yo:∀ l,Cs l=l.flatMap C) (hC:∀ x,(C x).length=sz) (hz:Nat.blt 0 sz=true) (hj:dF s j=some (.box cs)) (hc:cs[off]?=some (.arr k xs.length)) (hk:dF s k=some (.arr el sz (Cs xs))) (hE:E.fix k=none) (xm:cs.set off (.pv (.sl xs.length (Cs xs)))=lj) :
  ml E n l ds s l ((j,.box lj)::tE k s):=λg a w hR hF=>by
 subst xm
 have xp:=fv hk
 have SH:=fv hj
 have I7:0<sz:=by simpa[sH] using hz
 have hjk:j≠k:=λq=>by subst q;rw[SH] at xp;cases xp
 have fin:∀ g',Rel E g' ((bU s).del k) w->FR n g' (cx l ds) a->(∀ c,VR g (.arr k xs.length) c->VR g' (.pv (.sl xs.length (Cs xs))) c)->(∀ Ir:Array Value,Y g cs Ir.toList->Y g' (cs.set off (.pv (.sl xs.length (Cs xs)))) Ir.toList)->
   g'.ρ j=g.ρ j->∃ g',Rel E g' (bU ((j,.box (cs.set off (.pv (.sl xs.length (Cs xs)))))::tE k s)) w/\FR n g' (cx l ds) a:=λg' kL sR _ hbx hρ=>by
  refine ⟨g',?_,sR⟩
  have e1:bU ((j,.box (cs.set off (.pv (.sl xs.length (Cs xs)))))::tE k s)=((bU s).del k).set j (.box (cs.set off (.pv (.sl xs.length (Cs xs))))):=by
   rw[<- Be];rfl
  rw[e1]
  have hjd:((bU s).del k) j=some (.box cs):=by simp[fi.del,hjk,SH]
  cases hR.rU j _ SH with
  | box h1 h2 h3 h4=>
   exact {
       rU:=λi e he=>by
        by_cases q:i=j
        ·subst q;simp[fi.set] at he;subst he
         exact .box (hρ.trans h1) h2 (hbx _ h3) h4
        ·simp[fi.set,q] at he;exact kL.rU i e he
       inj:=λi i' b hi hi'=>kL.inj i i' b (by
        by_cases q:i=j
        ·subst q;rw[hjd];rfl
        ·simpa[fi.set,q] using hi) (by
        by_cases q:i'=j
        ·subst q;rw[hjd];rfl
        ·simpa[fi.set,q] using hi')
       gl:=kL.gl
       apart:=λi b e he BX hb=>by
        by_cases q:i=j
        ·subst q;exact kL.apart i b _ hjd rfl hb
        ·exact kL.apart i b e (by simpa[fi.set,q] using he) BX hb
       size:=kL.size,yq:=kL.yq
       own:=λi b hi hb=>kL.own i b (by
        by_cases q:i=j
        ·subst q;rw[hjd];rfl
        ·simpa[fi.set,q] using hi) hb
       fix:=kL.fix,pP:=kL.pP,g0:=kL.g0,gn:=kL.gn,os:=kL.os,out:=kL.out,tape:=kL.tape
       x:=kL.x.FB rfl rfl (λi b hi hb=>⟨i,by
        by_cases q:i=j
        ·subst q;rw[hjd];rfl
        ·simpa[fi.set,q] using hi,hb,.inl rfl⟩) (λi b e' _ hi=>by
        by_cases q:i=j
        ·subst q;exact ⟨_,hjd,λ_=>(by simp[fi.set] at hi;exact ⟨_,hi.symm⟩)⟩
        ·exact ⟨e',by simpa[fi.set,q] using hi,id⟩) }
 cases hb:g.ρ k with
 | none=>
  have hx:xs=[]:=by
   exact ahJ
  have e0:Cs xs=[]:=by rw[hx,yo];rfl
  have hv:∀ c,VR g (.arr k xs.length) c->VR g (.pv (.sl xs.length (Cs xs))) c:=λc PI=>by
   rw[e0]
   rcases PI.A8 with ⟨b',h,_⟩|⟨_,hn,rfl⟩
   ·rw[h] at hb;cases hb
   ·rw[hn];exact .pv (.nil _ _)
  exact fin g (hR.sub λi e hi=>by
   unfold fi.del at hi
   split at hi
   ·cases hi
   ·exact hi) hF hv (λIr h3=>h3.set hc hv) rfl
 | some b=>
  have hle:wP (λ_=>False) g (g.iB b (Cs xs)):=qm g b _ (hR.apart k b _ xp rfl hb)
  have hv:∀ c,VR g (.arr k xs.length) c->VR (g.iB b (Cs xs)) (.pv (.sl xs.length (Cs xs))) c:=λc PI=>by
   rcases PI.A8 with ⟨b',h,rfl⟩|⟨h,_⟩
   ·rw[h] at hb;cases hb;exact N' yo hC I7 h (hR.rU k _ xp)
   ·rw[h] at hb;cases hb
  refine fin _ (hR.freeze xp rfl hE hb rfl) (hF.le hle λ_ q=>q.elim) hv (λIr h3=>?_) rfl
  have h4:=h3.le hle (λ_ q=>q.elim)
  exact h4.set (g:=g.iB b (Cs xs)) hc λc PI=>by
   rcases PI.A8 with ⟨b',h,rfl⟩|⟨h,_⟩
   ·have h':g.ρ k=some b':=h
    rw[h'] at hb;cases hb;exact N' yo hC I7 h' (hR.rU k _ xp)
   ·have h':g.ρ k=none:=h
    rw[h'] at hb;cases hb
def aeS {ps:List PV} (hd:mj l d=some (.ptr k 0)) (hk:dF s k=some (.box (ps.map .pv))) (hE:E.fix k=none):ml E n l ds s ((d,.pv (.pt (some ps)))::l) (tE k s):=λg a w hR hF=>by
 have xp:=fv hk;have hs:=hF.oP d;simp only[cx,jF hd] at hs;rw[Be];generalize hc:a.tmps.getD d undef=c at hs;cases hs with
 | ptr _ hb=>
  rename_i b
  refine ⟨g.iB b ps,hR.freeze xp rfl hE hb rfl,?_⟩
  have hle:wP (λ_=>False) g (g.iB b ps):=qm g b _ (hR.apart k b _ xp rfl hb)
  have sR:=hF.le hle (λ_ q=>q.elim)
  refine ⟨sR.size,λi=>?_,sR.ds⟩
  by_cases q:i=d
  ·subst q;simp only[cx,s6,if_true];rw[hc];exact .pv (.YC b ps 0 ps JK bm bm)
  ·simpa[cx,s6,q] using sR.oP i
def S' (nm:Nat) {el:TypeId} (hE:E.fix nm=none) (hm:mA nm l=false/\jS nm ds=false/\px nm s=false):ml E n l ds s l ((nm,.app el sz [])::s):=λg a w hR hF=>
 ⟨g.unbind nm,hR.Jg If hE,hF.le (sI g nm) YW⟩
def aeT (nm:Nat) {el:TypeId} (l':List (Nat×AV)) (s':List (Nat×cQ)) (hE:E.fix nm=none) (h1:Di l l' l') (h2:FI s s' s') (hm:mA nm l'=false/\jS nm ds=false/\px nm s'=false) :
 ml E n l ds s l' ((nm,.app el sz [])::s'):=(ml.Qz l' s' h1 h2).trans (S' nm hE hm)
def Rel.Kt (h:Rel E g σ w) {nm:Nat} {el:TypeId} (hc:σ.clear nm) (hf:E.fix nm=none):Rel E (g.unbind nm) (σ.set nm (.arr el sz [])) w:=by
 have h0:=h.Jg (el:=el) (sz:=sz) hc hf;have PB:(g.unbind nm).ρ nm=none:=by simp[Gh.unbind]
 have uv:∀ j e,σ.set nm (.arr el sz []) j=some e->j≠nm->σ.set nm (.app el sz []) j=some e:=λj e hj q=>by simpa[fi.set,q] using hj
 have hs:∀ j,(σ.set nm (.arr el sz []) j).isSome=true->(σ.set nm (.app el sz []) j).isSome=true:=λj hj=>by
  by_cases q:j=nm
  ·subst q;simp[fi.set]
  simpa[fi.set,q] using hj
 exact {
  rU:=λj e hj=>by
   by_cases q:j=nm
   ·subst q;simp[fi.set] at hj;subst hj;exact .AS PB
   exact h0.rU j e (uv j e hj q)
  inj:=λj j' b hj yL=>h0.inj j j' b (hs j hj) (hs j' yL)
  gl:=h0.gl
  apart:=λj b e hj BX hb=>by
   by_cases q:j=nm
   ·subst q;rw[PB] at hb;cases hb
   exact h0.apart j b e (uv j e hj q) BX hb
  size:=h0.size,yq:=h0.yq,own:=λj b hj=>h0.own j b (hs j hj),fix:=h0.fix,pP:=h0.pP,g0:=h0.g0,gn:=h0.gn,os:=h0.os,out:=h0.out,tape:=h0.tape
  x:=h0.x.FB rfl rfl (λj b hj hb=>⟨j,hs j hj,hb,.inl rfl⟩) (λj b e' hfj hj=>by
   have q:j≠nm:=λq=>by subst q;rw[hf] at hfj;cases hfj
   exact ⟨e',uv j _ hj q,id⟩) }
def V1 (nm:Nat) {el:TypeId} (hE:E.fix nm=none) (hm:mA nm l=false/\jS nm ds=false/\px nm s=false):ml E n l ds s l ((nm,.arr el sz [])::s):=λg a w hR hF=>
 ⟨g.unbind nm,hR.Kt If hE,hF.le (sI g nm) YW⟩
def aag (nm:Nat) {el:TypeId} (hE:E.fix nm=none) (hd:mj l d=some (nSl)) (hm:mA nm l=false/\jS nm ds=false/\px nm s=false) :
  ml E n l ds s ((d,.arr nm 0)::l) ((nm,.arr el sz [])::s):=λg a w hR hF=>by
 have h1:=hR.Kt (el:=el) (sz:=sz) If hE
 exact ahj
def T' (nm:Nat) {el:TypeId} (hE:E.fix nm=none) (hj:dF s j=some (.box cs)) (hc:cs[off]?=some (nSl)) (hm:mA nm l=false/\jS nm ds=false/\px nm s=false) (hjn:Nat.beq j nm=false) (xm:cs.set off (.arr nm 0)=lj) :
  ml E n l ds s l ((j,.box lj)::(nm,.arr el sz [])::s):=λg a w hR hF=>by
 subst xm
 have hR:=hR.Kt (el:=el) (sz:=sz) If hE
 have hF:=hF.le (sI g nm) YW
 have hjn':j≠nm:=λq=>by subst q;simp at hjn
 have SH:(bU s).set nm (.arr el sz []) j=some (.box cs):=by simp[fi.set,hjn',fv hj]
 refine ⟨g.unbind nm,?_,hF⟩
 have he:∀ i e,bU ((j,.box (cs.set off (.arr nm 0)))::(nm,.arr el sz [])::s) i=some e->(((bU s).set nm (.arr el sz [])) i).isSome=true/\(i≠j->((bU s).set nm (.arr el sz [])) i=some e):=λi e h=>by
  by_cases q:i=j
  ·subst q;exact ⟨by rw[SH];rfl,λq=>aw rfl q⟩
  ·have:((bU s).set nm (.arr el sz [])) i=some e:=by simpa[bU,uC,fi.set,q] using h
   exact ⟨by rw[this];rfl,λ_=>this⟩
 have hs:∀ i,(bU ((j,.box (cs.set off (.arr nm 0)))::(nm,.arr el sz [])::s) i).isSome=true->(((bU s).set nm (.arr el sz [])) i).isSome=true:=λi h=>by
  cases q:bU ((j,.box (cs.set off (.arr nm 0)))::(nm,.arr el sz [])::s) i with
  | none=>rw[q] at h;cases h
  | some e=>exact (he i e q).1
 exact yC2
def aeU (hd:mj l d=some (.agg cs)) (hn:AV.VI cs=lj):ml E n l ds s ((d,.agg lj)::l) s:=λg a w hR hF=>by
 subst hn;refine ⟨g,hR,hF.size,λi=>?_,hF.ds⟩;have h:=hF.oP i;by_cases q:i=d
 ·subst q;simp only[cx,s6,if_true];simp only[cx,jF hd] at h;exact AV.Kf (sM cs) g _ h
 simpa[cx,s6,q] using h
end
end
section
variable {f:α->List PV} {i:Int} {a a':α} {C:α->List PV} {Cs:List α->List PV} {y:Operand} {m:Nat} {xs:List α} {v:AV} {pl:List (Nat×Nat)} {pv:List (Nat×AV)} {out:List AV}
def Xz (hf:∀ x,(f x).length=sz):∀ (l:List α) (i:Nat),(l.flatMap f).take (i*sz)=(l.take i).flatMap f:=by
 intro l
 induction l with
 | nil=>intro i;simp
 | cons a l ih=>
  intro i
  cases i with
  | zero=>simp
  | succ i=>
   rw[nQ,fk,fk,r9,tz,List.take_append]
   rw[dI (by rw[hf];omega),hf,show sz+i*sz - sz=i*sz by omega,ih]
def U' (hf:∀ x,(f x).length=sz) {l:List α} {i:Nat} (ha:l[i]?=some a) (hd:d+vs.length<=sz) (hu:f a'=(f a).take d++vs++(f a).drop (d+vs.length)) :
  (l.flatMap f).take (i*sz+d)++vs++(l.flatMap f).drop (i*sz+d+vs.length)=(l.set i a').flatMap f:=by
 have gR:i<l.length:=(ao.1 ha).1
 have hdrop:=HR hf ha
 have e1:(l.flatMap f).take (i*sz+d)=(l.take i).flatMap f++(f a).take d:=by
  rw[List.take_add,Xz hf,hdrop,List.take_append_of_le_length (by rw[hf];omega)]
 have e2:(l.flatMap f).drop (i*sz+d+vs.length)=(f a).drop (d+vs.length)++(l.drop (i+1)).flatMap f:=by
  rw[show i*sz+d+vs.length=i*sz+(d+vs.length) by omega,<- j8,hdrop,nN (by rw[hf];omega)]
  congr 1
  have:∀ (l:List α) (j:Nat),(l.flatMap f).drop (j*sz)=(l.drop j).flatMap f:=by
   intro l
   induction l with
   | nil=>intro j;simp
   | cons b l ih=>
    intro j
    cases j with
    | zero=>simp
    | succ j=>
     rw[List.drop_succ_cons,fk,r9,tz,<- j8]
     rw[List.drop_left' (hf b)];exact ih j
  exact this l (i+1)
 rw[e1,e2,List.set_eq_take_append_cons_drop,aL gR,qD,fk,hu]
 simp
section
variable {P:Program} {Q:gh} {l:List (Nat×AV)} {ds:List (FuncId×List AV)} {s:List (Nat×cQ)}
 {ty:TypeId} {pos:String} {af:Array Edge}
def Q9 {e:cQ}:bU ((k,e)::tE k s)=(bU s).set k e:=by
 funext j;have h:=congrFun (Be (k:=k) (s:=s)) j;simp only[bU,fi.del,fi.set,uC] at h ⊢;by_cases q:j=k
 ·simp[q]
 simp only[q,if_false] at h ⊢;exact h
structure StA (P:Program) {α:Type} (C:α->List PV) (Cs:List α->List PV) (l:List (Nat×AV)) (s:List (Nat×cQ)) (t:TypeId) (x y:Operand) (k off m sz:Nat) (el:TypeId) (i:Int) (xs:List α) (a a':α) (v:AV) (vs:List PV):Prop where
 yo:∀ l,Cs l=l.flatMap C
 hC:∀ x,(C x).length=sz
 h0:0<=i
 ha:xs[i.toNat]?=some a
 hx:bT l x=some (.ptr k (i.toNat*sz+off))
 hk:dF s k=some (.arr el sz (Cs xs))
 hy:bT l y=some v
 hv:v.jl=some (vs.map .pv)
 h1:PV.pq vs=true
 ht:Lv P t=some m
 hm:vs.length=m
 hb:Nat.ble (off+vs.length) sz=true
 hu:C a'=(C a).take off++vs++(C a).drop (off+vs.length)
def StA.Xe {el:TypeId} (h:StA P C Cs l s t x y k off m sz el i xs a a' v vs) :
  (cQ.arr el sz (Cs xs)).Xe (i.toNat*sz+off) (vs.map .pv)=.arr el sz (Cs (xs.set i.toNat a')):=by
 simp only[cQ.Xe,iE,J8]
 rw[h.yo,h.yo,U' h.hC h.ha (fR h.hb) h.hu]
def StA.le {el:TypeId} (h:StA P C Cs l s t x y k off m sz el i xs a a' v vs) :
  i.toNat*sz+off+(vs.map AV.pv).length<=(cQ.arr el sz (Cs xs)).cells.length:=by
 have gR:i.toNat<xs.length:=(ao.1 h.ha).1
 have hb:=fR h.hb
 simp only[cQ.cells,iE]
 rw[h.yo,tu h.hC]
 have:(i.toNat+1)*sz<=xs.length*sz:=gq _ gR
 rw[r9] at this
 omega
def TB {el:TypeId} (h:StA P C Cs l s t x y k off m sz el i xs a a' v vs) (hn:SL P E n ops Q rest (cx l ds) (bU ((k,.arr el sz (Cs (xs.set i.toNat a')))::tE k s))):SL P E n ops Q (⟨none,.store t x y,ty,pos,af,none⟩::rest) (cx l ds) (bU s):=by
 refine qE rfl (CK rfl rfl (dQ h.hx) ME rfl (by rw[dQ h.hy];exact h.hv) (Kb h.h1) (by rw[iE,h.hm];exact h.ht) h.le (λ_=>⟨_,rfl⟩) ?_);rw[h.Xe,<- Q9];exact hn
structure Ek (P:Program) (E:Env) (l:List (Nat×AV)) (ds:List (FuncId×List AV)) (s:List (Nat×cQ)) {α:Type} (C:α->List PV) (Cs:List α->List PV) (t e:TypeId) (sz bytes k nm:Nat) (a x:Operand) (xs ys:List α):Prop where
 hT:P.underlying t=some (.slice e)
 hB:CL P e=some (sz,bytes)
 yo:∀ l,Cs l=l.flatMap C
 hL:∀ x,(C x).length=sz
 h1:∀ x,PV.pq (C x)=true
 hE:E.fix nm=none
 hs:bT l a=some (.arr k xs.length)
 hk:dF s k=some (.arr e sz (Cs xs))
 hx:bT l x=some (.pv (.sl ys.length (Cs ys)))\/(ys=[]/\bT l x=some (nSl))
 hm:mA nm l=false/\jS nm ds=false/\Eg nm [k] s=false
 hg:ob bytes xs.length ys.length
section
variable {a:Operand} {ys:List α}
def Ek.srp (h:Ek P E l ds s C Cs t e sz bytes k nm a x xs ys):Ĩ sz ((cx l ds).val x) ys.length (Cs ys):=by
 exact ahN
def Ek.clr (h:Ek P E l ds s C Cs t e sz bytes k nm a x xs ys):((bU s).del k).clear nm:=by
 exact ahA
def Ek.st (h:Ek P E l ds s C Cs t e sz bytes k nm a x xs ys):((bU s).del k).set nm (.arr e sz (Cs xs++Cs ys))=bU ((nm,.arr e sz (Cs (xs++ys)))::tE k s):=by
 rw[<- Be,show Cs xs++Cs ys=Cs (xs++ys) by rw[h.yo,h.yo,h.yo,qD]];rfl
def aai (nm:Nat) (h:Ek P E l ds s C Cs t e sz bytes k nm a x xs ys) (hd:Nat.blt d n=true) (hn:SL P E n ops Q rest (cx ((d,.arr nm (List.length (xs++ys)))::l) ds) (bU ((nm,.arr e sz (Cs (xs++ys)))::tE k s))) :
  SL P E n ops Q (⟨some d,.call ⟨.builtin .append,#[a,x],#[t,t]⟩,ty,pos,af,none⟩::rest) (cx l ds) (bU s):=by
 refine qE rfl (GU (nm:=nm) rfl h.hT h.hB (dQ h.hs) ME Qe h.srp Ŕ UH h.clr h.hE h.hg.1 h.hg.2 By ?_)
 rw[h.st,<- dS];exact hn
end
end
section
variable {P:Program} {Q:gh} {B:List Rec->kG->fi->Prop} {i:Nat} {L:List Nat} {bj:List Rec} {l:List (Nat×AV)} {ds:List (FuncId×List AV)} {s:List (Nat×cQ)}
 {ty:TypeId} {pos:String} {af:Array Edge}
def aaj {a:Operand} {bytes:Nat} {gd:Option (Nat×Bool)} (nm:Nat) {ys:List α} (ho:ops[i]?=some ⟨some d,.call ⟨.builtin .append,#[a,x],#[t,t]⟩,ty,pos,af,gd⟩) (hw:nW ops ⟨some d,.call ⟨.builtin .append,#[a,x],#[t,t]⟩,ty,pos,af,gd⟩ (cx l ds)) (h:Ek P E l ds s C Cs t e sz bytes k nm a x xs ys) (hd:Nat.blt d n=true) (pX:nt bj=true) (hn:qn ops i ((nm,.arr e sz (Cs (xs++ys)))::tE k s) bj/\oN P E n ops Q B L bj (cx ((d,.arr nm (List.length (xs++ys)))::l) ds) (bU ((nm,.arr e sz (Cs (xs++ys)))::tE k s))) :
  oN P E n ops Q B (i::L) bj (cx l ds) (bU s):=by
 refine ⟨_,ho,.fB hw rfl (.Vr (nm:=nm) rfl h.hT h.hB (dQ h.hs) ME Qe h.srp Ŕ UH h.clr h.hE h.hg.1 h.hg.2 By ?_)
  YS⟩
 rw[h.st,<- dS]
 exact adG
def aeV {el:TypeId} {ii:Int} (ho:ops[i]?=some ⟨none,.store t x y,ty,pos,af,none⟩) (h:StA P C Cs l s t x y k off m sz el ii xs a a' v vs) (pX:nt bj=true) (hn:qn ops i ((k,.arr el sz (Cs (xs.set ii.toNat a')))::tE k s) bj/\oN P E n ops Q B L bj (cx l ds) (bU ((k,.arr el sz (Cs (xs.set ii.toNat a')))::tE k s))):oN P E n ops Q B (i::L) bj (cx l ds) (bU s):=by
 refine ⟨_,ho,.fB (.inl rfl) rfl (.store rfl rfl (dQ h.hx) ME rfl (by rw[dQ h.hy];exact h.hv) (Kb h.h1) (by rw[iE,h.hm];exact h.ht) h.le (λ_=>⟨_,rfl⟩) ?_) YS⟩;rw[h.Xe,<- Q9];exact adG
def TC (ho:ops[i]?=some ⟨some d,.assign x,ty,pos,af,none⟩) (hx:bT l x=some v) (hd:Nat.blt d n=true) (hs:qn ops i s bj) (pX:nt (mi ops bj i)=true) (hn:oN P E n ops Q B L bj (cx ((d,v)::l) ds) (bU s)):oN P E n ops Q B (i::L) bj (cx l ds) (bU s):=
 ⟨_,ho,.fB (.inl rfl) rfl (.ev (v:=v) aci By
  ⟨λr hr=>⟨λp hp=>(let ⟨e,h1,h2⟩:=hs r hr p hp;⟨e,fv h1,h2⟩),λnm q=>by rw[pN pX r hr] at q;cases q⟩,hn⟩) (λr _ k hk=>by cases hk)⟩
def XA {e:cQ} {c:List AV} [ht:yn P t m] (ho:ops[i]?=some ⟨none,.store t x y,ty,pos,af,none⟩) (h:bT l x=some (.ptr k off)/\dF s k=some e/\e.FG=true/\bT l y=some v/\v.jl=some c/\AV.pq c=true/\c.length=m/\Nat.ble (off+c.length) e.cells.length=true) (pX:nt (mi ops bj i)=true) (hn:∀ e',e.put off c=e'->qn ops i ((k,e')::s) bj/\oN P E n ops Q B L bj (cx l ds) (bU ((k,e')::s))):oN P E n ops Q B (i::L) bj (cx l ds) (bU s):=by
 obtain ⟨hx,hk,BX,hy,hc,h1,hm,hl⟩:=h;have LW:=fR hl;obtain ⟨E7,hn⟩:=hn _ rfl;refine ⟨_,ho,.fB (.inl rfl) rfl (.store rfl rfl jT MI (HM BX) Zx h1 UL LW (HN BX) ?_) (λr hr k' _=>by rw[pN pX r hr];simp)⟩;rw[put_eq BX LW];exact ⟨λr hr=>⟨λp hp=>(let ⟨e,h1,h2⟩:=E7 r hr p hp;⟨e,fv h1,h2⟩),λnm q=>by rw[pN pX r hr] at q;cases q⟩,hn⟩
def zj (nm:Nat):List Rec->Bool
 | []=>true
 | r::rs=>(match r.nm with|none=>true|some k=>!Nat.beq k nm)&&r.rd.all (λp=>!Nat.beq p.1 nm)&&zj nm rs
def tX {nm:Nat}:∀ {bj:List Rec},zj nm bj=true->∀ r,r∈bj->r.nm≠some nm/\∀ p,p∈r.rd->p.1≠nm
 | [],_,r,hr=>by cases hr
 | a::rs,h,r,hr=>by
  simp only[zj,bk,iS] at h;rcases cf.1 hr with q|q
  ·subst q;refine ⟨λq=>?_,λp hp q=>?_⟩
   ·have:=h.1.1;rw[q] at this;simp at this
   have:=h.1.2 p hp;rw[q] at this;simp at this
  exact tX h.2 r q
def aeW {op:Op} {e:cQ} {gd:Option (Nat×Bool)} (nm:Nat) (ho:ops[i]?=some ⟨some d,op,ty,pos,af,gd⟩) (hw:nW ops ⟨some d,op,ty,pos,af,gd⟩ (cx l ds)) (h:QE P op (cx l ds) nm e v) (hE:E.fix nm=none) (hm:mA nm l=false/\jS nm ds=false/\px nm s=false/\dF s nm=none) (hh:fB ⟨some d,op,ty,pos,af,gd⟩=false/\Nat.blt d n=true/\nt (mi ops bj i)=true/\zj nm bj=true) (hv:AV.iQ.ka nm e.cells=false) (hn:oN P E n ops Q B L (⟨i,some d,[],some nm⟩::bj) (cx ((d,v)::l) ds) (bU ((nm,e)::s))):oN P E n ops Q B (i::L) bj (cx l ds) (bU s):=by
 have hs:bU s nm=none:=by
  have:=CO (l:=s) (i:=nm);simp only[bU];rw[this];exact hm.2.2.2
 exact ⟨_,ho,.nw hw hh.1 h (tT hm.1 hm.2.1) (zT hm.2.2.1) hs hE (NF hh.2.1) (λr hr k q=>by rw[pN hh.2.2.1 r hr] at q;cases q)
  (λr hr=>(tX hh.2.2.2 r hr).1) (λr hr=>(tX hh.2.2.2 r hr).2) hv hn⟩
def X' {z:List Value} [hz:qG P t z] {zs:List AV} {gd:Option (Nat×Bool)} (ho:ops[i]?=some ⟨some d,.alloc t,ty,pos,af,gd⟩) (hw:nW ops ⟨some d,.alloc t,ty,pos,af,gd⟩ (cx l ds)) (nm:Nat) (hE:E.fix nm=none) (hm:z.map (λv=>AV.pv (.sc v))=zs/\mA nm l=false/\jS nm ds=false/\px nm s=false/\dF s nm=none) (hh:fB ⟨some d,.alloc t,ty,pos,af,gd⟩=false/\Nat.blt d n=true/\zj nm bj=true/\zj nm bj=true) (hn:oN P E n ops Q B L (⟨i,some d,[],some nm⟩::bj) (cx ((d,.ptr nm 0)::l) ds) (bU ((nm,.box zs)::s))):oN P E n ops Q B (i::L) bj (cx l ds) (bU s):=by
 obtain ⟨h1,h2⟩:=hm;subst h1;have this:∀ (k:Nat) (z:List Value),AV.iQ.ka k (z.map λv=>AV.pv (.sc v))=false:=λk z=>by
  induction z with
  | nil=>rfl
  | cons a z ih=>simp[AV.iQ.ka,AV.iQ,ih]
 have hs:bU s nm=none:=by
  have:=CO (l:=s) (i:=nm);simp only[bU];rw[this];exact h2.2.2.2
 refine ⟨_,ho,.nw hw hh.1 (QF nm hz.h) (tT h2.1 h2.2.1) (zT h2.2.2.1) hs hE (NF hh.2.1) (λr hr k q=>⟨?_,this k z⟩)
  (λr hr=>(tX hh.2.2.2 r hr).1) (λr hr=>(tX hh.2.2.2 r hr).2) (this nm z) hn⟩
 have uv:=(tX hh.2.2.2 r (gK.1 hr).1).1;have:nm≠k:=λe=>uv (by rw[q,e]);simpa[AV.iQ] using this
def aeX (xs:List α) (yo:∀ l,Cs l=l.flatMap C) (hC:∀ x,(C x).length=sz) {zs:List Value} {gd:Option (Nat×Bool)} [ht:ng P t m e sz zs pl] (ho:ops[i]?=some ⟨some d,.buildSlice t m parts.toArray,ty,pos,af,gd⟩) (hw:nW ops ⟨some d,.buildSlice t m parts.toArray,ty,pos,af,gd⟩ (cx l ds)) (nm:Nat) (hE:E.fix nm=none) (h:parts.mapM (λp=>(bT l p.2).map λv=>(p.1,v))=some pv/\nr pl (zs.map λv=>.pv (.sc v)) pv=some ((xs.flatMap C).map .pv)/\xs.length=m/\Nat.ble m 1000=true) (hm:mA nm l=false/\jS nm ds=false/\px nm s=false/\dF s nm=none) (hh:fB ⟨some d,.buildSlice t m parts.toArray,ty,pos,af,gd⟩=false/\Nat.blt d n=true/\nt (mi ops bj i)=true/\zj nm bj=true) (hn:oN P E n ops Q B L (⟨i,some d,[],some nm⟩::bj) (cx ((d,.arr nm xs.length)::l) ds) (bU ((nm,.app e sz (Cs xs))::s))):oN P E n ops Q B (i::L) bj (cx l ds) (bU s):=by
 rw[h.2.2.1] at hn;refine aeW nm ho hw (Iu nm ht.h ?_ ?_ adT) hE hm hh (by simp only[cQ.cells];exact xL _ _) hn
 ·rw[B6 h.1,yo];exact h.2.1
 rw[yo,tu hC,h.2.2.1]
end
section
variable {P:Program} {Q:gh} {l:List (Nat×AV)} {ds:List (FuncId×List AV)} {s:List (Nat×cQ)}
 {ty:TypeId} {pos:String} {af:Array Edge}
def aeY {zs:List Value} [ht:ng P t m e sz zs pl] (nm:Nat) (xs:List α) (yo:∀ l,Cs l=l.flatMap C) (hC:∀ x,(C x).length=sz) (hE:E.fix nm=none) (h:parts.mapM (λp=>(bT l p.2).map λv=>(p.1,v))=some pv/\nr pl (zs.map λv=>.pv (.sc v)) pv=some ((xs.flatMap C).map .pv)/\xs.length=m/\Nat.ble m 1000=true) (hm:mA nm l=false/\jS nm ds=false/\px nm s=false) (hd:Nat.blt d n=true) (hn:SL P E n ops Q rest (cx ((d,.arr nm xs.length)::l) ds) (bU ((nm,.app e sz (Cs xs))::s))):SL P E n ops Q (⟨some d,.buildSlice t m parts.toArray,ty,pos,af,none⟩::rest) (cx l ds) (bU s):=by
 rw[h.2.2.1,yo] at hn;exact Z7 nm hE ⟨h.1,h.2.1,by rw[tu hC,h.2.2.1],h.2.2.2⟩ hm hd hn
def aak {zs:List Value} [ht:ng P t m e sz zs pl] (nm:Nat) (xs:List α) (yo:∀ l,Cs l=l.flatMap C) (hC:∀ x,(C x).length=sz) (hE:E.fix nm=none) (h:parts.mapM (λp=>(bT l p.2).map λv=>(p.1,v))=some pv/\nr pl (zs.map λv=>.pv (.sc v)) pv=some ((xs.flatMap C).map .pv)/\xs.length=m/\Nat.ble m 1000=true) (hm:mA nm l=false/\jS nm ds=false/\px nm s=false) (hd:Nat.blt d n=true) (hn:SL P E n ops Q rest (cx ((d,.arr nm xs.length)::l) ds) (bU ((nm,.arr e sz (Cs xs))::s))):SL P E n ops Q (⟨some d,.buildSlice t m parts.toArray,ty,pos,af,none⟩::rest) (cx l ds) (bU s):=by
 rw[h.2.2.1,yo] at hn;refine qE rfl (Jd (LX nm ht.h ?_ (by rw[tu hC,h.2.2.1]) adT) acx If hE By hn);rw[B6 h.1];exact h.2.1
def Ku {fr:kG} {n:Nat} {zs:List Value} {places:List (Nat×Nat)} {cells:List PV} (ht:J5 P t n=some (e,sz,zs,places)) (h:nr places (zs.map λv=>.pv (.sc v)) (parts.map λp=>(p.1,fr.val p.2))=some out) (hn:AV.VI out=cells.map .pv):ZU P (.buildSlice t n parts.toArray) fr (.pv (.sl n cells)):=by
 intro o ho g ev w hv;obtain ⟨place,hp,hzl,hb⟩:=vU ht;obtain ⟨lj,hf,hr⟩:=B0 (g:=g) (vs:=parts.map λp=>(p.1,ev p.2)) (cs:=zs.toArray) hp h Zh bm
  (EW λp hp=>hv p.2 Va) trivial (B1 h)
 have e1:(parts.toArray.map λ(x:Nat×Operand)=>(x.1,ev x.2)).toList=parts.map λp=>(p.1,ev p.2):=by simp
 have oY:=hb (parts.toArray.map λ(x:Nat×Operand)=>(x.1,ev x.2)) lj w U2;have hps:=uF.HG (g:=g) (ps:=cells) (by rw[<- hn];exact (sM out).vrs hr);exact ahh
def aal (xs:List α) (yo:∀ l,Cs l=l.flatMap C) {j g:Nat} {want b:Bool} {zs:List Value} [ht:ng P t m e sz zs pl] (hb:b=want) (hj:(ops[j]?).bind (·.dst)=some g/\mj l g=some (Bo b)) (h:parts.mapM (λp=>(bT l p.2).map λv=>(p.1,v))=some pv/\nr pl (zs.map λv=>.pv (.sc v)) pv=some ((xs.flatMap C).map .pv)) (hd:Nat.blt d n=true) (hn:SL P E n ops Q rest (cx ((d,.pv (.sl m (Cs xs)))::l) ds) (bU s)):SL P E n ops Q (⟨some d,.buildSlice t m parts.toArray,ty,pos,af,some (j,want)⟩::rest) (cx l ds) (bU s):=by
 subst hb;rw[yo] at hn;exact GM rfl hj.1 (jF hj.2) By (λ_=>Vn (BB ht.h (by rw[B6 h.1];exact h.2)) By hn) (λq=>aw rfl q)
end
section
variable {P:Program} {Q:gh} {B:List Rec->kG->fi->Prop} {i:Nat} {L:List Nat} {bj:List Rec} {l:List (Nat×AV)} {ds:List (FuncId×List AV)} {s:List (Nat×cQ)}
 {ty:TypeId} {pos:String} {af:Array Edge}
def aeZ (xs:List α) (yo:∀ l,Cs l=l.flatMap C) {zs:List Value} {gd:Option (Nat×Bool)} [ht:ng P t m e sz zs pl] (ho:ops[i]?=some ⟨some d,.buildSlice t m parts.toArray,ty,pos,af,gd⟩) (hw:nW ops ⟨some d,.buildSlice t m parts.toArray,ty,pos,af,gd⟩ (cx l ds)) (h:parts.mapM (λp=>(bT l p.2).map λv=>(p.1,v))=some pv/\nr pl (zs.map λv=>.pv (.sc v)) pv=some out/\AV.VI out=(xs.flatMap C).map .pv) (hc:fB ⟨some d,.buildSlice t m parts.toArray,ty,pos,af,gd⟩=false/\Nat.blt d n=true) (hn:oN P E n ops Q B L (⟨i,some d,[],none⟩::bj) (cx ((d,.pv (.sl m (Cs xs)))::l) ds) (bU s)):oN P E n ops Q B (i::L) bj (cx l ds) (bU s):=by
 refine ⟨_,ho,.fz hw hc.1 (v:=.pv (.sl m (Cs xs))) ?_ (NF hc.2) (λ_ _ _ _=>rfl) hn⟩;rw[yo];exact Ku ht.h (by rw[B6 h.1];exact h.2.1) h.2.2
end
end
section
variable {f:FuncId} {es:List cQ} {X:Type} {V:X->AV} {C:X->List cQ} {x:aG α} {R:GL->fi->Prop} {res:aG X} {j5:FuncId} {cap:List AV} {V':X->AV} {C':X->List (Nat×cQ)} {fF first vs:List AV}
theorem rh {P:Program} {args:List AV}:CT P f args es (aG.stuck:aG X) V C:=⟨λ_ h hs=>aw h.symm hs⟩
variable {H:sT->aG α} {rO:aG α} {p:sT}
def I5 {r:aG α} (hc:Ar r H=rO) (hp:r=.qH p):H p=rO:=by subst hp;exact hc
def UB {r:aG α} {x:α} (hc:Ar r H=rO) (h:r=.ok x):rO=.ok x:=by subst h;exact hc.symm
def AV.wk:AV->AV
 | .ptr k o=>.ptr k o
 | _=>.any
def AV.ait (v:AV):v.le v.wk:=by
 cases v<;>first|exact gT _|exact AV.Tz _
def Y':∀ cs:List AV,FD cs (cs.map AV.wk)
 | []=>.nil
 | c::cs=>.cons (AV.ait c) (Y' cs)
section
variable {P:Program} {Q:gh} {l:List (Nat×AV)} {ds:List (FuncId×List AV)} {s:List (Nat×cQ)}
def wkS:List Nat->List (Nat×cQ)->Option (List (Nat×cQ))
 | [],s=>some s
 | k::ks,s=>match wkS ks s with
  | some s'=>match dF s' k with
   | some (.box cs)=>some ((k,.box (cs.map AV.wk))::s')
   | _=>none
  | none=>none
def aiv:∀ {ks:List Nat} {s':List (Nat×cQ)},wkS ks s=some s'->ml E n l ds s l s'
 | [],s',h=>by simp[wkS] at h;subst h;exact aae l s
 | k::ks,s',h=>by
  simp only[wkS] at h;split at h
  ·rename_i s1 h1;split at h
   ·rename_i cs h2;cases h;exact (aiv h1).trans (VN h2 (Y' cs))
   cases h
  cases h
def HV (P:Program) (E:Env) (n:Nat) (fn:Func) (R:GL->fi->Prop):gh
 | .panic v,fr,σ=>vL P fn R (.panic v) fr σ\/∃ l j5 cap c s s',fr=cx l [(j5,cap)]/\σ=bU s/\(∀ g c',VR g v c'->c'=c)/\ml E n l [(j5,cap)] s l s'/\Xt P E fn R j5 cap (some c) (cx l [(j5,cap)]) (bU s')
 | e,fr,σ=>Ie P E fn R e fr σ
def LQ.dg {e:Exit} {a:Act} {w:World} (h:LQ E n (HV P E n fn R) e a w):LQ E n (Ie P E fn R) e a w:=by
 obtain ⟨g,ae,fr,σ,q,hx,hR,hF⟩:=h;cases hx with
 | normal=>exact ⟨g,.normal,fr,σ,q,.normal,hR,hF⟩
 | exit id=>exact ⟨g,.exit id,fr,σ,q,.exit id,hR,hF⟩
 | goto id=>exact ⟨g,.goto id,fr,σ,q,.goto id,hR,hF⟩
 | ret=>exact ⟨g,.ret,fr,σ,q,.ret,hR,hF⟩
 | @panic v c0 hv=>
  rcases q with q|⟨l,j5,cap,c,s,s',rfl,rfl,hc,hg,hq⟩
  ·exact ⟨g,.panic v,fr,σ,(show Ie P E fn R (.panic v) fr σ from .inl q),.panic hv,hR,hF⟩
  ·obtain ⟨g',kL,sR⟩:=hg g a w hR hF;have hcc:=hc _ _ hv;subst hcc;exact akf
theorem EZ {c:Code} {args:List AV} (hf:P.funcs[f]?=some fn) (hb:fn.body=some c) (hn:Nat.ble args.length fn.ntmps=true) (h:∀ r,res=r->r≠.stuck->∀ E:Env,(∀ k,fc es k=true->E.fix k=none)->
   SW P E fn.ntmps c (HV P E fn.ntmps fn (yw V C (λx=>r=.ok x) (λv=>∃ p,r=.qH p/\v=p.av))) (cx ((List.range args.length).zip args) []) (bU (gi 0 es))):CT P f args es res V C:=
 I' hf hb hn λr hr hs E hE=>λg a w hR hF=>wp_mono (h r hr hs E hE g a w hR hF) λ_ _ _ q=>q.dg
def I4 (SO:ae=.ret\/ae=.normal) (h:vL P fn R ae fr σ):HV P E n fn R ae fr σ:=by
 rcases SO with rfl|rfl
 ·exact M' (.inl rfl) h
 exact M' (.inr rfl) h
def Jk {r:aG X} (hd:fr.ds=[]) (h:r=.qH p) :
 HV P E n fn (yw V C (λx=>r=.ok x) (λv=>∃ p,r=.qH p/\v=p.av)) (.panic p.av) fr σ:=.inl (Z9 hd h)
variable {Fi:List AV}
def vg (SO:ae=.ret\/ae=.normal) (ks:List Nat) (vN:Enters P j5) (hC:Xs P j5 Fi es none (aG.ok ()) (λ_=>es)) (hk:VZ E l s ks cap Fi es) (hx:pB (below ks.length) es=true) {s':List (Nat×cQ)} (hs:s8 ks (pA (nth ks) es)++s=s') (nP:vL P fn R .ret (cx l []) (bU s')):HV P E n fn R ae (cx l [(j5,cap)]) (bU s):=by
 have hl:es.length=ks.length:=by
  have:=(Am hk.gs).1;rwa [sA] at this
 have:=Xw (E:=E) SO ks vN hC hk (λ_=>⟨hl,hx⟩) hs nP;rcases SO with rfl|rfl
 ·exact this
 exact this
def CG {T:TypeId} (ks:List Nat) {s1:List (Nat×cQ)} (vN:Enters P j5) (hC:Xs P j5 Fi es (some (.iface T (.agg #[.int .i64 v]))) res C) (JT:res≠.stuck) (hw:wkS ks s=some s1) (hk:VZ E l s1 ks cap Fi es) (hx:∀ x,(C x).length=ks.length/\pB (below ks.length) (C x)=true) (nP:∀ x,res=.ok x->vL P fn R .ret (cx l []) (bU (s8 ks (pA (nth ks) (C x))++s1))):HV P E n fn R (.panic (sT.av ⟨T,[.sc (.int .i64 v)]⟩)) (cx l [(j5,cap)]) (bU s):=
 .inr ⟨l,j5,cap,_,s,s1,rfl,rfl,λ_ _ h=>J' h,aiv hw,ac3 vN hC JT hk hx nP⟩
def Z' (R:fi->Prop):gh
 | .normal,fr,σ|.ret,fr,σ=>fr.ds=[]/\∃ σ',(∀ k e,σ' k=some e->σ k=some e)/\R σ'
 | _,_,_=>False
def Hx (SO:ae=.ret\/ae=.normal) {r:aG X} (x:X) (hg:r=.ok x) (hm:HO s 0 (C x)):Z' (λσ=>∃ x,r=.ok x/\σ=bU (gi 0 (C x))) ae (cx l []) (bU s):=by
 have h:(cx l []).ds=[]/\∃ σ',(∀ k e,σ' k=some e->bU s k=some e)/\∃ x,r=.ok x/\σ'=bU (gi 0 (C x)):=
  ⟨rfl,bU (gi 0 (C x)),QX (λj e hj=>by have:=HP hm j e hj;simpa using this),x,hg,rfl⟩
 rcases SO with rfl|rfl
 ·exact h
 exact h
def Qy {r:aG Unit} (h:aG.ok ()=r) (SO:ae=.ret\/ae=.normal:=by first|exact .inr rfl|exact .inl rfl):Z' (λσ=>∃ x,r=.ok x/\σ=bU (gi 0 ((λ_:Unit=>es) x))) ae (cx l []) (bU (gi 0 es)):=by
 have q:(cx l []).ds=[]/\∃ σ',(∀ k e,σ' k=some e->bU (gi 0 es) k=some e)/\∃ x,r=.ok x/\σ'=bU (gi 0 ((λ_:Unit=>es) x)):=⟨rfl,_,λ_ _ h=>h,(),h.symm,rfl⟩;rcases SO with rfl|rfl
 ·exact q
 exact q
def xN {y:Code} {id d1 d2:Nat} {ts ty1 ty2:_} {p1 p2:String} {a1 a2:Array Edge} {m:Option Value} {mv:AV} (hmv:∀ g,VR g mv (m.getD .nilIface)) (hf:P.funcs[f]?=some fn) (hb:fn.body=some (.seq (.region id #[⟨some d1,.call ⟨.builtin .recover,#[],ts⟩,ty1,p1,a1,none⟩,⟨some d2,.assign (.tmp d1),ty2,p2,a2,none⟩] false) y)) (hres:fn.results = #[]) (hn:(Nat.ble cap.length fn.ntmps&&Nat.blt d1 fn.ntmps&&Nat.blt d2 fn.ntmps)=true) (h:∀ r,res=r->r≠.stuck->∀ E:Env,(∀ k,fc es k=true->E.fix k=none)->
   SW P E fn.ntmps y (Z' (λσ=>∃ x,r=.ok x/\σ=bU (gi 0 (C x)))) (cx ((d2,mv)::(d1,mv)::(List.range cap.length).zip cap) []) (bU (gi 0 es))):Xs P f cap es m res C:=by
 intro r hr hs wS g w vs u hR hv hu
 simp only[bk] at hn
 have hn1:=fR hn.1.1
 have hd1:d1<fn.ntmps:=by simpa[sH] using hn.1.2
 have GW:d2<fn.ntmps:=by simpa[sH] using hn.2
 have hlen:=hv.length
 let E:=Env.of wS g (bU (gi 0 es)) w
 have hE:∀ k,fc es k=true->E.fix k=none:=λk hk=>by
  have h3:∀ (es:List cQ) (k:Nat),fc es k=true->∀ cs,es[k]?≠some (.box cs):=by
   intro es
   induction es with
   | nil=>intro k _ cs;simp
   | cons e es ih=>
    intro k hk cs
    cases k with
    | zero=>intro q;simp at q;subst q;simp[fc] at hk
    | succ k=>simpa using ih k (by cases e<;>simpa[fc] using hk) cs
  simp only[E,Env.of]
  split
  ·rename_i cs xm
   obtain ⟨_,h2⟩:=o7 xm
   exact aw wZ (h3 es k hk cs)
  ·rfl
 have hW:=h r hr hs E hE
 refine callsD_of_wpS hf hb λc₀ cs hcm=>?_
 let a0:Act:={ tmps:=vs.toArray++Array.replicate (fn.ntmps - vs.toArray.size) undef,defers:=[] }
 have hF0:FR fn.ntmps g (cx ((List.range cap.length).zip cap) []) a0:=by
  rw[<- Km]
  refine ⟨by simp[a0];omega,λi=>?_,.nil⟩
  rw[eQ]
  rcases fA i cap.length with q|q
  ·obtain ⟨c,h1,h2⟩:=hv.get i cap[i] bm
   have:a0.tmps[i]?=some c:=by
    simp only[a0];rw[o6 rI];simpa using h1
   rw[this]
   simp[q];exact h2
  ·have e:cap[i]?=none:=gY q
   simp only[e,Ad];exact .any _
 have hF1:=hF0.put (d:=some d1) (v:=mv) (c:=m.getD .nilIface) (λx hx=>by cases hx;exact hd1) (hmv g)
 have Vs:=hF1.put (d:=some d2) (v:=mv) (c:=m.getD .nilIface) (λx hx=>by cases hx;exact GW) (hmv g)
 rw[QI,QI] at Vs
 have hwp:=hW g _ w hR Vs
 have fin:∀ u',(settle u'=.returning)->y.wpS P (bodyPostS P fn c₀ cs λe u' w'=>(∃ v,e=.returned v)/\settle u'=.returning/\∃ g' σ',(∃ x,r=.ok x/\σ'=bU (gi 0 (C x)))/\Rel E g' σ' w')
   ((a0.put (some d1) (m.getD .nilIface)).put (some d2) (m.getD .nilIface)) ({ c₀ with mode:=u' }::cs) w:=λu' hu'=>by
  refine wpS_of_wp (wp_mono hwp λe a w' hq=>?_)
  obtain ⟨g',ae,oM,σ',q,hx,kL,sR⟩:=hq
  have res:(results fn a.tmps).run P w'=.ok (.tuple #[]) w':=by
   rw[JW,hres];simp
  cases hx with
  | normal=>
   exact ahT
  | ret=>
   exact ahT
  | exit id=>exact q.elim
  | goto l=>exact q.elim
  | panic hv=>exact q.elim
 refine wpS_seq (wpS_region ?_)
 have Hq:List.range #[(⟨some d1,.call ⟨.builtin .recover,#[],ts⟩,ty1,p1,a1,none⟩:Oper),⟨some d2,.assign (.tmp d1),ty2,p2,a2,none⟩].size=[0,1]:=rfl
 rw[Hq]
 have hrec:∀ a:Act,(execOp a.eval (⟨some d1,.call ⟨.builtin .recover,#[],ts⟩,ty1,p1,a1,none⟩:Oper)).run P w=.ok .recover w:=λa=>by
  simp[execOp,resolve,invoke,builtin]
 have hev:∀ (a:Act) (c:Value),(a.put (some d1) c).tmps.getD d1 undef=c\/¬ d1<a.tmps.size:=λa c=>by
  by_cases q:d1<a.tmps.size
  ·left;simp[Act.put,q]
  ·right;exact q
 have MT:d1<a0.tmps.size:=by rw[hF0.size];exact hd1
 have hasg:∀ c:Value,(execOp (a0.put (some d1) c).eval (⟨some d2,.assign (.tmp d1),ty2,p2,a2,none⟩:Oper)).run P w=.ok (.value c) w:=λc=>by
  have:=(hev a0 c).resolve_right (λq=>q MT)
  simp[execOp,Act.eval,this]
 cases m with
 | none=>
  have hu':c₀.mode=.returning:=hcm.trans hu
  have D7:recoverD (c₀::cs)=none:=by simp[recoverD,hu']
  simp only[wpOpsS,List.getElem?_toArray,qL,nO,Region.wanted,if_true,hrec,D7]
  rw[show (Value.nilIface)=(none:Option Value).getD .nilIface from rfl,hasg]
  simp only[Oper.upon,Exit.thenS]
  exact fin c₀.mode (by rw[hu'];rfl)
 | some c=>
  have hu':c₀.mode=.panicking [{ v:=c,recovered:=false }]:=hcm.trans hu
  have D7:recoverD (c₀::cs)=some (c,{ c₀ with mode:=.panicking [{ v:=c,recovered:=true }] }::cs):=by simp[recoverD,hu']
  simp only[wpOpsS,List.getElem?_toArray,qL,nO,Region.wanted,if_true,hrec,D7]
  rw[hasg]
  simp only[Oper.upon,Exit.thenS]
  exact fin _ rfl
def NP {α:Type} (x:aG α):Prop:=∀ p,x≠.qH p
def NP.ok (a:α):NP (aG.ok a):=λ_ h=>by cases h
def NP.stuck:NP (aG.stuck:aG α):=λ_ h=>by cases h
def tF:=@NP.stuck
def NP.br {b:Bool} {y:aG α} (hx:NP x) (hy:NP y):NP (aG.br b x y):=by cases b<;>assumption
def NP.gd {p:Prop} [Decidable p] (hx:NP x):NP (aG.gd p x):=by unfold aG.gd;split;exact hx;exact tF
def NP.el {l:List β} {i:Int} {k:β->aG α} (hk:∀ x,NP (k x)):NP (aG.el l i k):=by
 unfold aG.el;split
 ·split
  ·exact hk _
  exact tF
 exact tF
def NP.some? {α β:Type} {o:Option β} {k:β->aG α} (hk:∀ x,NP (k x)):NP (aG.some? o k):=by cases o;exact tF;exact hk _
def NP.bind {k:α->aG β} (hx:NP x) (hk:∀ a,NP (k a)):NP (ag x k):=by
 cases x with
 | stuck=>exact tF
 | qH p=>exact aw rfl (hx p)
 | ok a=>exact hk a
def NP.jn {j:X->aG α} {p:(X->aG α)->aG α} (h:∀ j,(∀ x,NP (j x))->NP (p j)) (hj:∀ x,NP (j x)):NP (aG.jn j p):=h j hj
def NP.iter {body:(X->aG α)->X->aG α} (h:∀ nx,(∀ x,NP (nx x))->∀ x,NP (body nx x)):∀ (n:Nat) (x:X),NP (aG.iter body n x)
 | 0,_=>tF
 | n+1,x=>h _ (λy=>NP.iter h n y) x
end
section
variable {P:Program} {Q:gh} {B:List Rec->kG->fi->Prop} {L:List Nat} {bj:List Rec} {l:List (Nat×AV)} {ds:List (FuncId×List AV)} {s:List (Nat×cQ)}
 {ty:TypeId} {pos:String} {af:Array Edge}
def adW {R:Type} {kk:X->aG R} {r:aG R} {f:Operand} (hr:r≠.stuck) (h:ag res kk=r) (ks:List Nat) (vN:Enters P j5) (hC:CT P j5 fF es res V C) (hk:vf E ds l s ks f args j5 fF es first cap vs) (hd:Nat.blt d n=true) (hx:∀ x,(C x).length=ks.length/\pB (below ks.length) (C x)=true/\(V x).only (below ks.length)=true) (hV:∀ x,(V x).lO (nth ks)=V' x/\s8 ks (pA (nth ks) (C x))=C' x) (hnp:NP res) (nP:∀ x,kk x=r->SL P E n ops Q rest (cx ((d,V' x)::l) ds) (bU (C' x++s))) :
  SL P E n ops Q (⟨some d,.call ⟨.value f,args.toArray,ts⟩,ty,pos,af,none⟩::rest) (cx l ds) (bU s):=by
 obtain ⟨JT,Gz,hp⟩:=BA hr h
 refine qE rfl (Xn ks vN rfl (hC.h res rfl JT) hk By (λx _=>hx x) (λx hg=>?_) (λv hv=>?_))
 ·exact ad0
 ·obtain ⟨p,EY,_⟩:=hv
  exact aw EY (hnp p)
def ae0 {R:Type} {kk:X->aG R} {r:aG R} {f:Operand} {gd:Option (Nat×Bool)} (ho:ops[i]?=some ⟨some d,.call ⟨.value f,args.toArray,ts⟩,ty,pos,af,gd⟩) (hw:nW ops ⟨some d,.call ⟨.value f,args.toArray,ts⟩,ty,pos,af,gd⟩ (cx l ds)) (hr:r≠.stuck) (h:ag res kk=r) (ks:List Nat) (vN:Enters P j5) (hC:CT P j5 fF es res V C) (hk:vf E ds l s ks f args j5 fF es first cap vs) (hd:Nat.blt d n=true) (pX:Eh ks bj=true) (hx:∀ x,(C x).length=ks.length/\pB (below ks.length) (C x)=true/\(V x).only (below ks.length)=true) (hV:∀ x,(V x).lO (nth ks)=V' x/\s8 ks (pA (nth ks) (C x))=C' x) (hnp:NP res) (nP:∀ x,kk x=r->qn ops i (C' x++s) bj/\oN P E n ops Q B L bj (cx ((d,V' x)::l) ds) (bU (C' x++s))):oN P E n ops Q B (i::L) bj (cx l ds) (bU s):=by
 obtain ⟨JT,Gz,hp⟩:=BA hr h;refine Vy ho hw ks vN (hC.h res rfl JT) hk hd pX (λx _=>hx x) (λv hv=>?_) (λx hg v' s' hv hs=>?_)
 ·obtain ⟨p,EY,_⟩:=hv;exact aw EY (hnp p)
 have:=nP x (Gz x hg);rw[<- (hV x).1,<- (hV x).2] at this;subst hv hs;exact this
def ae1 {R:Type} {kk:X->aG R} {r:aG R} {f:Operand} {gd:Option (Nat×Bool)} (ho:ops[i]?=some ⟨some d,.call ⟨.value f,args.toArray,ts⟩,ty,pos,af,gd⟩) (hw:nW ops ⟨some d,.call ⟨.value f,args.toArray,ts⟩,ty,pos,af,gd⟩ (cx l ds)) (SK:mi ops bj i=[]) (hr:r≠.stuck) (h:ag res kk=r) (ks:List Nat) (vN:Enters P j5) (hC:CT P j5 fF es res V C) (hk:vf E ds l s ks f args j5 fF es first cap vs) (hbb:pO es=true) (hd:Nat.blt d n=true) (hx:∀ x,(C x).length=ks.length/\pB (below ks.length) (C x)=true/\(V x).only (below ks.length)=true) (hV:∀ x,(V x).lO (nth ks)=V' x/\s8 ks (pA (nth ks) (C x))=C' x) {sp:List (Nat×cQ)} (hsp:s8 ks (pA (nth ks) (es.map cQ.lost))++s=sp) (vK:∀ p,r=.qH p->Q (.panic p.av) (cx l ds) (bU sp)) (nP:∀ x,kk x=r->oN P E n ops Q B L bj (cx ((d,V' x)::l) ds) (bU (C' x++s))):oN P E n ops Q B (i::L) bj (cx l ds) (bU s):=by
 obtain ⟨JT,Gz,hp⟩:=BA hr h;subst hsp;obtain ⟨hl,JV⟩:=Am hk.gs;rw[sA] at hl;have hC':=(hC.h res rfl JT).lost hbb;refine ⟨_,ho,.fB hw rfl (.call (nth ks) (List.range ks.length) vN rfl (dQ hk.f) UG hC' (λj hj=>by have:=CC hj;simp;omega) (λj e hj=>?_)
  (λj hj=>by
   have yL:j<es.length:=by simp at hj;omega
   have:=Ae (i:=0) (aA yL);simp at this;rw[this];rfl)
  ab6 By (λv σc hr=>?_) (λv σc hr=>?_)) (λr hr=>by rw[SK] at hr;cases hr)⟩
 ·exact ZC
 ·rcases hr with ⟨x,hg,he,rfl⟩|⟨_,_,he,_⟩
  ·cases he;obtain ⟨h1,h2,h3⟩:=hx x;refine ⟨B7 uA hl hk.nd hk.bx hk.fx h1 h2 h3,?_⟩;rw[Aq hk.nd h1,(hV x).1,(hV x).2];exact ⟨λr hr=>(by rw[SK] at hr;cases hr),nP x (Gz x hg)⟩
  cases he
 rcases hr with ⟨_,_,he,_⟩|⟨v',⟨p,EY,TD⟩,he,rfl⟩
 ·cases he
 cases he;subst TD;refine ⟨B7 uA hl hk.nd hk.bx hk.fx (by simp[hl]) (HT _ hbb) (p.only _),λoM σ' _ _ hq=>?_⟩;obtain ⟨rfl,rfl⟩:=hq SK;rw[Aq hk.nd (by simp[hl]),B4 (p.only _)];exact vK p (hp p EY)
def š (f:Int->AV):∀ {xs:List Int} {i:Nat} {v:Int},(xs.map f).take i++[f v]++(xs.map f).drop (i+1)=(xs.set i v).map f\/xs.length<=i:=by
 intro xs i v;rcases fA i xs.length with q|q
 ·left;rw[List.set_eq_take_append_cons_drop,aL q];simp
 exact .inr q
def akB (f:Int->AV):∀ {xs:List Int},xs.length=4->xs.map f=[f (jx xs 0),f (jx xs 1),f (jx xs 2),f (jx xs 3)]
 | [_,_,_,_],_=>rfl
def aam (f:Int->AV) {t:TypeId} {x y:Operand} {k:Nat} {ii:Int} {xs:List Int} {cs lj:List AV} [ht:yn P t 1] (hx:bT l x=some (.ptr k (0+ii.toNat*1))) (hk:dF s k=some (.box cs)) (hc:cs=xs.map f) (hy:bT l y=some (f v)) (h0:0<=ii) (h1:ii<xs.length) (ho:∀ v,(f v).jl=some [f v]/\AV.pq [f v]=true) (hn':(sy xs ii v).map f=lj) (hn:SL P E n ops Q rest (cx l ds) (bU ((k,.box lj)::s))):SL P E n ops Q (⟨none,.store t x y,ty,pos,af,none⟩::rest) (cx l ds) (bU s):=by
 have gR:ii.toNat<xs.length:=by omega
 refine qE rfl (CK rfl rfl jT MI rfl (by rw[dQ hy];exact (ho v).1) (ho v).2 ht.h ab8 dC ?_);have e1:(cQ.box cs).Xe (0+ii.toNat*1) [f v]=.box lj:=by
  exact ahG
 rw[e1];exact hn
end
end
section
def wkC:List AV->List AV->Prop
 | [],[]=>True
 | a::as,b::bs=>(a=b\/b=.any)/\wkC as bs
 | _,_=>False
def V2:∀ {a b:List AV},wkC a b->FD a b
 | [],[],_=>.nil
 | a::as,b::bs,h=>.cons (by rcases h.1 with q|q<;>subst q;exact gT _;exact AV.Tz _) (V2 h.2)
 | [],_::_,h=>h.elim
 | _::_,[],h=>h.elim
def ae2 (s':List (Nat×cQ)):List (Nat×cQ)->Prop
 | []=>True
 | p::ps=>(∃ e,dF s' p.1=some e/\e.le p.2)/\ae2 s' ps
variable {s':List (Nat×cQ)} {cs lj:List AV} {v:AV} {a b:TypeId} {y:Operand} {m:Nat} {Q:gh}
def M9:∀ {l:List (Nat×cQ)},ae2 s' l->∀ p,p∈l->∃ e,dF s' p.1=some e/\e.le p.2
 | _::_,h,p,hp=>by
  rcases cf.1 hp with q|q
  ·subst q;exact h.1
  exact M9 h.2 p q
def V3 (ops:Array Oper) (i:Nat) (s':List (Nat×cQ)):List Rec->Prop
 | []=>True
 | r::rs=>(match r.rd with
  | []=>True
  | p::ps=>match xM ops ops.size i r.i with
   | true=>True
   | false=>ae2 s' (p::ps))/\V3 ops i s' rs
def pF {ops:Array Oper} {i:Nat} {bj:List Rec} (h:V3 ops i s' bj):qn ops i s' bj:=by
 induction bj with
 | nil=>intro r hr;simp[mi] at hr
 | cons a rs ih=>
  intro r hr p hp
  simp only[mi,gK,fj] at hr
  rcases cf.1 hr.1 with q|q
  ·subst q;have h1:=h.1;cases D7:r.rd with
   | nil=>rw[D7] at hp;cases hp
   | cons x xs=>
    rw[D7] at h1 hp
    simp only[hr.2] at h1
    exact M9 h1 p hp
  ·exact ih h.2 r (by simp[mi,q,hr.2]) p hp
def cQ.ae3 (h:wkC cs lj):cQ.le (.box cs) (.box lj):=λ_ _ _ he=>VM (V2 h) he
def og:=@cQ.ae3
section
variable {P:Program} {l:List (Nat×AV)} {ds:List (FuncId×List AV)} {s:List (Nat×cQ)}
def ae4 (lj:List AV) [ha:nX P t false] (hx:bT l x=some (.ptr k off)) (hk:dF s k=some (.box cs)) (hw:wkC cs lj) (hv:lj[off]?=some v) :
  mH P (.load t x) l ds s v [(k,.box lj)]:=
 ⟨D3 ha.h jT hv,λp hp=>by simp at hp;subst hp;exact ⟨_,fv hk,og hw⟩⟩
def ε (f:α->β):∀ l:List α,(l.flatMap λx=>[f x])=l.map f
 | []=>rfl
 | x::l=>by simp[fk,ε f l]
def XB {f:α->β} (l:List α):(l.flatMap λx=>[f x]).length=l.length:=by rw[ε,iE]
def ae5 [ha:nX P t false] (hx:bT l x=some (.ptr k off)) (hk:dF s k=some (.box cs)) (hv:cs[off]?=some .any) :
  mH P (.load t x) l ds s .oc [(k,.box cs)]:=.on hk (by
 intro o ho g ev w hG Gw hr
 have q:=Gw x uy;rw[dQ hx] at q
 have he:=hr (k,.box cs) bm
 generalize hq:ev x=c at q
 cases q with
 | ptr _ hb=>
  cases he with
  | box h hw hc h1=>
   rw[h] at hb;cases hb
   obtain ⟨v,hv1,_⟩:=hc.get off _ hv
   refine ⟨v,?_,.oc (h1 v (aP hv1))⟩
   simp only[execOp,ho,hq,Instr.loadAt,Instr.sureAddr,cC,ep,bQ,A0 ha.h hw hv1])
def XC (ha:P.underlying a=some (.slice e)) (he:P.underlying e=some (.int .u8)) (hb:P.underlying b=some .string) {g:Gh} {w:World} (hG:Vf g w) (hn:n=xs.length) {c:Value} (h:VR g (.pv (.sl n (xs.flatMap λx=>[PV.sc (.int .u8 x)]))) c):(convert a b c).run P w=.ok (S (jz xs)) w:=by
 subst hn;cases h with
 | pv h=>
  generalize xm:(xs.flatMap λx=>[PV.sc (.int .u8 x)])=cells at h
  generalize hl:xs.length=n at h
  cases h with
  | nil a' cap=>
   have:xs=[]:=qM.1 hl
   subst this
   rw[run_convert_bytes_string w a b e _ _ _ ha he hb]
   cases a' with
   | none=>simp[Conv.bytesToString,S,jz,ByteArray.empty,ByteArray.emptyWithCapacity];rfl
   | some a0=>
    rw[run_bytesToString w a0 0 cap [] (by simp[loadCells,loadCellsFrom,ep])]
    simp[S,jz,ByteArray.empty,ByteArray.emptyWithCapacity];rfl
  | sl blk ys off n cap cells h LW hc hnc=>
   have hlen:cells.length=xs.length:=by rw[<- xm];exact XB xs
   obtain ⟨cs,el,fz,hw,h1,h2⟩:=Vj hG h LW hc
   have:=run_convert_bytes_arg (P:=P) w a e ha he blk off xs.length cap xs rfl (λi hi=>by
    have hci:cells[i]?=some (.sc (.int .u8 (xs.getD i 0))):=by
     rw[<- xm];rw[ε,eX,aA hi];simp[List.getD,aA hi]
    obtain ⟨v,hv1,hv2⟩:=h2.get i _ hci;cases hv2;rw[gG] at hv1;split at hv1
    ·simp at hv1;simp[World.cell?,hw];exact hv1
    cases hv1) b hb
   rw[<- hl,this]
   rfl
def V4 [ha:ug P a (.slice e)] [he:ug P e (.int .u8)] [hb:ug P b .string] (hx:bT l x=some (.pv (.sl n (xs.flatMap λx=>[PV.sc (.int .u8 x)])))) (hn:n=xs.length) :
  mH P (.convert a b x) l ds s (eu (jz xs)) []:=.of (by
 intro o ho g ev w hG hv _
 have q1:=hv x uy;rw[dQ hx] at q1
 exact ⟨S (jz xs),by simp only[execOp,ho,cC,XC ha.h he.h hb.h hG hn q1,bQ,ep],.pv (.sc _)⟩)
end
section
variable {P:Program}
def akC (Q:gh):gh
 | .goto _,_,_=>False
 | e,fr,σ=>Q e fr σ
def ζ (h:SW P E n c (akC Q) fr σ):SW P E n (.scope c) Q fr σ:=λg a w hR hF=>by
 refine wp_scope_straight (wp_mono (h g a w hR hF) λe a w hq=>?_);obtain ⟨g',ae,oM,σ',q,hx,kL,sR⟩:=hq;cases hx with
 | goto l=>exact q.elim
 | normal=>exact Zf
 | exit id=>exact ⟨g',_,oM,σ',q,.exit id,kL,sR⟩
 | ret=>exact Zz
 | panic hv=>exact Zw
end
variable {T:TypeId}
def E0 {q:Nat->Bool} {b:Bool} (h:v.only q=true):(AV.lM [v,Oe T b]).only q=true:=by cases b<;>simp[AV.only,AV.only.sS,h,Oe]
def HW {f:Nat->Nat} {b:Bool}:(AV.lM [v,Oe T b]).lO f=.lM [v.lO f,Oe T b]:=by cases b<;>rfl
def aan (X:List α) (z:α):((X.length:Int))<((X++[z]).length:Int):=by simp;omega
def η (X:List α) (z:α):(X++[z])[((X.length:Int)).toNat]?=some z:=by simp
def θ (X:List α) (z a:α):(X++[z]).set ((X.length:Int)).toNat a=X++[a]:=by simp
section
variable {P:Program} {B:List Rec->kG->fi->Prop} {L:List Nat} {bj:List Rec} {l:List (Nat×AV)} {ds:List (FuncId×List AV)} {s:List (Nat×cQ)}
 {ty:TypeId} {pos:String} {af:Array Edge}
def aao (f:Int->AV) {ii:Int} {v:Int} [ht:yn P t 1] (hop:ops[i]?=some ⟨none,.store t x y,ty,pos,af,none⟩) (hx:bT l x=some (.ptr k (0+ii.toNat*1))) (hk:dF s k=some (.box cs)) (hc:cs=xs.map f) (hy:bT l y=some (f v)) (h0:0<=ii) (h1:ii<xs.length) (ho:∀ v,(f v).jl=some [f v]/\AV.pq [f v]=true) (hn':(sy xs ii v).map f=lj) (pX:nt bj=true) (hn:qn ops i ((k,.box lj)::s) bj/\oN P E n ops Q B L bj (cx l ds) (bU ((k,.box lj)::s))):oN P E n ops Q B (i::L) bj (cx l ds) (bU s):=by
 have gR:ii.toNat<xs.length:=by omega
 obtain ⟨E7,hn⟩:=hn;refine ⟨_,hop,.fB (.inl rfl) rfl (.store rfl rfl jT MI rfl (by rw[dQ hy];exact (ho v).1) (ho v).2 ht.h ab8 dC ?_) YS⟩;have e1:(cQ.box cs).Xe (0+ii.toNat*1) [f v]=.box lj:=by
  exact ahG
 rw[e1];exact agF
variable {C:α->List PV} {Cs:List α->List PV} {a':α}
def ae6 {el:TypeId} (xs:List α) {a:α} (ho:ops[i]?=some ⟨none,.store t x y,ty,pos,af,none⟩) (h:StA P C Cs l s t x y k off m sz el (xs.length:Int) (xs++[a]) a a' v vs) (pX:nt bj=true) (hn:qn ops i ((k,.arr el sz (Cs (xs++[a'])))::tE k s) bj/\oN P E n ops Q B L bj (cx l ds) (bU ((k,.arr el sz (Cs (xs++[a'])))::tE k s))):oN P E n ops Q B (i::L) bj (cx l ds) (bU s):=
 aeV ho h pX (by rw[θ];exact hn)
end
section
variable {l:List (Nat×AV)} {ds:List (FuncId×List AV)} {s:List (Nat×cQ)}
variable {m':Nat}
def TE (d:Nat) (hd:mj l d=some (.arr k m)) (hm:m=m'):ml E n l ds s ((d,.arr k m')::l) s:=λg a w hR hF=>by
 subst hm;refine ⟨g,hR,hF.size,λi=>?_,hF.ds⟩;by_cases q:i=d
 ·subst q;have:=hF.oP i;simp only[cx,jF hd] at this;simpa[cx,s6] using this
 have:=hF.oP i;simpa[cx,s6,q] using this
def ae7 (j off:Nat) (hj:dF s j=some (.box cs)) (hc:cs[off]?=some (.arr k m)) (hm:m=m') (xm:cs.set off (.arr k m')=lj):ml E n l ds s l ((j,.box lj)::s):=by
 subst hm;have:cs.set off (.arr k m)=cs:=by
  obtain ⟨h1,h2⟩:=ao.1 hc;rw[<- h2];exact List.set_getElem_self h1
 rw[this] at xm;subst xm;exact VN hj (FD.refl _)
end
section
variable {P:Program} {l:List (Nat×AV)} {s:List (Nat×cQ)}
def zS {fn:Func} {X:Type} {V:X->AV} {C:X->List cQ} {vs:List AV} {ae:MW} {r:aG X} (SO:ae=.ret\/ae=.normal) (x:X) (hr:PJ P (cx l []) (bU s) fn.results.toList vs)
 (hg:r=.ok x) (hle:(yu vs).le (V x)) (hm:HO s 0 (C x)):vL P fn (yw V C (λx=>r=.ok x) (λv=>∃ p,r=.qH p/\v=p.av)) ae (cx l []) (bU s):=BS SO x hr hg hle hm
end
def I6 {K:kG->fi->Prop} (h:Q (.panic v) fr σ):Bb K Q (.panic v) fr σ:=h
def GA {id:Nat} (h:Q (.panic v) fr σ):Tt id Q (.panic v) fr σ:=h
end
end Go.Abs
