/- PROVED: lemmas for ParserFiles. CONDITIONS: as each lemma states. -/
import Derived.Test.YtlfolpjenfkhiaaGreatDoorW0
import Derived.Recover
import Derived.Laws.BytesArg
import Derived.Laws.StructEq
set_option linter.all false
namespace Go.Abs
variable {b:Bool} {E:Env} {n i:Nat} {ops:Array Oper} {l:List (Nat×AV)} {ds:List (FuncId×List AV)} {s:List (Nat×cV)} {c:Code}
section
def F6 (ops:Array Oper) (i:Nat) (v:AV) (rd:List (Nat×cV)):List Rec->Bool
 | []=>true
 | r::rs=>(match r.nm with|none=>true|some nm=>ye ops ops.size i r.i||(!v.jh nm&&rd.all λp=>!Nat.beq p.1 nm))&&F6 ops i v rd rs
variable {v:AV} {rd:List (Nat×cV)} {d:Nat} {op:Op} {j g:Nat} {want:Bool}
def Gw {ops:Array Oper} {i:Nat}:∀ {bk:List Rec},F6 ops i v rd bk=true->
  ∀ r,r∈mK ops bk i->∀ nm,r.nm=some nm->v.jh nm=false/\∀ p,p∈rd->p.1≠nm
 | [],_,r,hr=>by simp[mK] at hr
 | a::rs,h,r,hr=>by
  simp only[F6,bm] at h
  intro nm pL
  simp only[mK,ij,fD] at hr
  rcases cb.1 hr.1 with q|q
  ·subst q
   have h1:=h.1
   rw[pL] at h1
   simp only[hr.2,lP,bm,fD,jm] at h1
   refine ⟨h1.1,λp hp e=>?_⟩
   have:=h1.2 p hp
   rw[e] at this
   simp at this
  ·exact Gw h.2 r (by simp[mK,q,hr.2]) nm pL
section
variable {P:Program} {Q:gJ} {B:List Rec->k9->fC->Prop} {L:List Nat} {bk:List Rec}
 {ty:TypeId} {pos:String} {af:Array Edge}
def AS (h:Q .normal (cA l ds) (bW s)):DW P E n ops Q [] bk (cA l ds) (bW s):=h
def adr (ho:ops[i]?=some ⟨some d,op,ty,pos,af,none⟩) (h:na P op l ds s v rd) (hc:fO ⟨some d,op,ty,pos,af,none⟩=false/\Nat.blt d n=true/\F6 ops i v rd bk=true) (hn:pq P E n ops Q B L (⟨i,some d,rd,none⟩::bk) (cA ((d,v)::l) ds) (bW s)):pq P E n ops Q B (i::L) bk (cA l ds) (bW s):=
 ⟨_,ho,.ev (.inl rfl) hc.1 h.h h.r (Ob hc.2.1) (Gw hc.2.2) hn⟩
def aeQ (ho:ops[i]?=some ⟨some d,op,ty,pos,af,some (j,want)⟩) (hj:(ops[j]?).bind (·.dst)=some g/\mL l g=some (Bo want)) (h:na P op l ds s v rd) (hc:fO ⟨some d,op,ty,pos,af,some (j,want)⟩=false/\Nat.blt d n=true/\F6 ops i v rd bk=true) (hn:pq P E n ops Q B L (⟨i,some d,rd,none⟩::bk) (cA ((d,v)::l) ds) (bW s)):pq P E n ops Q B (i::L) bk (cA l ds) (bW s):=
 ⟨_,ho,.ev (.inr ⟨j,want,g,rfl,hj.1,jY hj.2⟩) hc.1 h.h h.r (Ob hc.2.1) (Gw hc.2.2) hn⟩
def aiP (ho:ops[i]?=some ⟨some d,op,ty,pos,af,some (j,want)⟩) (hj:(ops[j]?).bind (·.dst)=some g/\mL l g=some (Bo b)/\(b==want)=false) (hc:fO ⟨some d,op,ty,pos,af,some (j,want)⟩=false/\Nat.blt d n=true) (hn:pq P E n ops Q B L (⟨i,some d,[],none⟩::bk) (cA ((d,Sc undef)::l) ds) (bW s)):pq P E n ops Q B (i::L) bk (cA l ds) (bW s):=
 ahe
def aeR (ho:ops[i]?=some ⟨some d,op,ty,pos,af,some (j,want)⟩) (hj:(ops[j]?).bind (·.dst)=some g/\mL l g=some (Bo b)/\(b==want)=false) (hc:fO ⟨some d,op,ty,pos,af,some (j,want)⟩=true/\Nat.blt d n=true) (hn:pq P E n ops Q B L bk (cA ((d,Sc undef)::l) ds) (bW s)):pq P E n ops Q B (i::L) bk (cA l ds) (bW s):=
 ahe
def aiQ (ho:ops[i]?=some ⟨some d,op,ty,pos,af,some (j,want)⟩) (hj:(ops[j]?).bind (·.dst)=some g/\mL l g=some (Sc undef)) (hc:fO ⟨some d,op,ty,pos,af,some (j,want)⟩=false/\Nat.blt d n=true) (hn:pq P E n ops Q B L (⟨i,some d,[],none⟩::bk) (cA ((d,Sc undef)::l) ds) (bW s)):pq P E n ops Q B (i::L) bk (cA l ds) (bW s):=
 acs
def aeS (ho:ops[i]?=some ⟨some d,op,ty,pos,af,some (j,want)⟩) (hj:(ops[j]?).bind (·.dst)=some g/\mL l g=some (Sc undef)) (hc:fO ⟨some d,op,ty,pos,af,some (j,want)⟩=true/\Nat.blt d n=true) (hn:pq P E n ops Q B L bk (cA ((d,Sc undef)::l) ds) (bW s)):pq P E n ops Q B (i::L) bk (cA l ds) (bW s):=
 acs
def nX:List Rec->Bool
 | []=>true
 | r::rs=>r.nm.isNone&&nX rs
def qo:∀ {bk:List Rec},nX bk=true->∀ r,r∈bk->r.nm=none
 | [],_,r,hr=>by cases hr
 | a::rs,h,r,hr=>by
  simp only[nX,bm,Option.isNone_iff_eq_none] at h;rcases cb.1 hr with q|q
  ·subst q;exact h.1
  exact qo h.2 r q
mutual
def Fk {p q:Nat->Bool} (hpq:∀ k,p k=true->q k=true):∀ {v:AV},v.only p=true->v.only q=true
 | .any,_=>rfl
 | .oc,_=>rfl
 | .pv _,_=>rfl
 | .ptr _ _,h=>hpq _ h
 | .arr _ _,h=>hpq _ h
 | .sp _,_=>rfl
 | .fn f xs ys,h=>by simp only[AV.only,bm] at h ⊢;exact ⟨AT hpq h.1,AT hpq h.2⟩
 | .agg cs,h=>by simp only[AV.only] at h ⊢;exact AT hpq h
 | .mE cs,h=>by simp only[AV.only] at h ⊢;exact AT hpq h
 | .vV t v,h=>by simp only[AV.only] at h ⊢;exact Fk hpq h
def AT {p q:Nat->Bool} (hpq:∀ k,p k=true->q k=true):∀ {v:List AV},AV.only.tz p v=true->AV.only.tz q v=true
 | [],_=>rfl
 | x::xs,h=>by simp only[AV.only.tz,bm] at h ⊢;exact ⟨Fk hpq h.1,AT hpq h.2⟩
end
def EI (ks:List Nat):List Rec->Bool
 | []=>true
 | r::rs=>(match r.nm with
  | none=>true
  | some k=>!ks.any (Nat.beq k))&&EI ks rs
def EJ {ks:List Nat}:∀ {bk:List Rec},EI ks bk=true->∀ r,r∈bk->∀ nm,r.nm=some nm->nm ∉ ks
 | a::rs,h,r,hr,nm,hn,hk=>by
  simp only[EI,bm] at h;rcases cb.1 hr with q|q
  ·subst q;rw[hn] at h;have h1:=h.1;simp only[fD,sw,vJ] at h1;have:=h1 nm hk;simp at this
  exact EJ h.2 r q nm hn hk
def JE:∀ {ks:List Nat} {j:Nat},j<ks.length->nth ks j∈ks
 | _::_,0,_=>by simp[nth]
 | _::ks,j+1,h=>by simp only[nth];exact th _ (JE jg)
mutual
def KP {ks:List Nat} {nm:Nat} (hn:nm ∉ ks):∀ {v:AV},v.only (below ks.length)=true->(v.mh (nth ks)).jh nm=false
 | .any,_=>rfl
 | .oc,_=>rfl
 | .pv _,_=>rfl
 | .ptr j _,h=>by
  simp only[AV.only] at h;simp only[AV.mh,AV.jh];have:=JE (ks:=ks) (BD.1 h);simp;intro q;subst q;exact hn this
 | .arr j _,h=>by
  simp only[AV.only] at h;simp only[AV.mh,AV.jh];have:=JE (ks:=ks) (BD.1 h);simp;intro q;subst q;exact hn this
 | .sp _,_=>rfl
 | .fn f xs ys,h=>by simp only[AV.only,bm] at h;simp only[AV.mh,AV.jh,AA hn h.1,AA hn h.2,Bool.or_self]
 | .agg cs,h=>by simp only[AV.only] at h;simp only[AV.mh,AV.jh,AA hn h]
 | .mE cs,h=>by simp only[AV.only] at h;simp only[AV.mh,AV.jh,AA hn h]
 | .vV t v,h=>by simp only[AV.only] at h;simp only[AV.mh,AV.jh];exact KP hn h
def AA {ks:List Nat} {nm:Nat} (hn:nm ∉ ks):∀ {v:List AV},AV.only.tz (below ks.length) v=true->AV.jh.kJ nm (AV.mh.ud (nth ks) v)=false
 | [],_=>rfl
 | x::xs,h=>by simp only[AV.only.tz,bm] at h;simp only[AV.mh.ud,AV.jh.kJ,KP hn h.1,AA hn h.2,Bool.or_self]
end
def qR (ops:Array Oper) (i:Nat) (s':List (Nat×cV)) (bk:List Rec):Prop:=
 ∀ r,r∈mK ops bk i->∀ p,p∈r.rd->∃ e,dJ s' p.1=some e/\e.le p.2
variable {x:Operand}
def Ic (ho:ops[i]?=some ⟨some d,.assign x,ty,pos,af,none⟩) (hx:bU l x=some v) (hd:Nat.blt d n=true) (hs:qR ops i s bk) (pL:nX bk=true) (hn:pq P E n ops Q B L bk (cA ((d,v)::l) ds) (bW s)):pq P E n ops Q B (i::L) bk (cA l ds) (bW s):=
 ⟨_,ho,.fO (.inl rfl) rfl (.ev (v:=v) acL B3
  ⟨λr hr=>⟨λp hp=>(let ⟨e,h1,h2⟩:=hs r hr p hp;⟨e,fK h1,h2⟩),λnm q=>by rw[qo pL r (ij.1 hr).1] at q;cases q⟩,hn⟩) (λr _ k hk=>by cases hk)⟩
def sG {t:TypeId} {y:Operand} {k off m:Nat} {e:cV} {c:List AV} [ht:yR P t m] (ho:ops[i]?=some ⟨none,.store t x y,ty,pos,af,none⟩) (h:bU l x=some (.ptr k off)/\dJ s k=some e/\e.F5=true/\bU l y=some v/\v.jG=some c/\AV.p9 c=true/\c.length=m/\Nat.ble (off+c.length) e.cells.length=true) (pL:nX bk=true) (hn:∀ e',e.put off c=e'->qR ops i ((k,e')::s) bk/\pq P E n ops Q B L bk (cA l ds) (bW ((k,e')::s))):pq P E n ops Q B (i::L) bk (cA l ds) (bW s):=by
 obtain ⟨hx,hk,Cw,hy,hc,h1,hm,hl⟩:=h;have Ms:=gq hl;obtain ⟨Fy,hn⟩:=hn _ rfl;refine ⟨_,ho,.fO (.inl rfl) rfl (.store rfl rfl kp M8 (H8 Cw) ZH h1 U5 Ms (H9 Cw) ?_) Y8⟩;rw[put_eq Cw Ms];exact ag_
def V1 {X:Type} {V:X->AV} {C:X->List cV} {G:X->Prop} {H:AV->Prop} {f:Operand} {args:List Operand} {ts:Array TypeId} {kC:FuncId} {fS first cap vs:List AV} {es:List cV} {gd:Option (Nat×Bool)} (ho:ops[i]?=some ⟨some d,.call ⟨.value f,args.toArray,ts⟩,ty,pos,af,gd⟩) (hw:oL ops ⟨some d,.call ⟨.value f,args.toArray,ts⟩,ty,pos,af,gd⟩ (cA l ds)) (ks:List Nat) (wu:Enters P kC) (hC:SC P kC fS (bW (gK 0 es)) (zh V C G H)) (hk:vL E ds l s ks f args kC fS es first cap vs) (hd:Nat.blt d n=true) (pL:EI ks bk=true) (hx:∀ x,G x->(C x).length=ks.length/\qe (below ks.length) (C x)=true/\(V x).only (below ks.length)=true) (wm:∀ v,H v->v.only (λ_=>false)=true/\∀ pn σ',pn.ds=ds->Q (.panic v) pn σ') (oB:∀ x,G x->∀ v' s',(V x).mh (nth ks)=v'->tK ks (qd (nth ks) (C x))++s=s'->qR ops i s' bk/\pq P E n ops Q B L bk (cA ((d,v')::l) ds) (bW s')) :
  pq P E n ops Q B (i::L) bk (cA l ds) (bW s):=by
 obtain ⟨hl,Km⟩:=AR hk.gs
 rw[sZ] at hl
 have hcon:∀ j,(List.range ks.length).contains j=below ks.length j:=λj=>by
  exact ahS
 have Vx:(List.range ks.length).contains=below ks.length:=funext hcon
 have vX:∀ j,(bW (gK 0 es) j).isSome=true->j<ks.length:=λj hj=>by
  cases q:bW (gK 0 es) j with
  | none=>rw[q] at hj;cases hj
  | some e=>
   obtain ⟨_,h2⟩:=pQ q
   have:=(an.1 h2).1
   simp at this;omega
 have Hf:∀ j j',(List.range ks.length).contains j=true->(List.range ks.length).contains j'=true->nth ks j=nth ks j'->j=j':=λj j' hj zT he=>Bw hk.nd BA Vu he
 have hat0:∀ j,(List.range ks.length).contains j=true->∃ e,bW (gK 0 es) j=some e:=λj hj=>by
  have zT:j<es.length:=by simp at hj;omega
  exact ⟨_,by have:=AJ (i:=0) (az zT);simpa using this⟩
 have Q2:∀ j,(List.range ks.length).contains j=true->(∃ cs,bW (gK 0 es) j=some (.box cs))\/((cA l ds).clear (nth ks j)/\
   (∀ k e,(List.range ks.length).any (λi=>nth ks i==k)=false->bW s k=some e->AV.jh.kJ (nth ks j) e.cells=false)/\E.fix (nth ks j)=none):=λj hj=>by
  exact ahQ
 refine ⟨_,ho,.fO hw rfl (.call (nth ks) (List.range ks.length) wu rfl (dX hk.f) U0 hC (λj hj=>by simpa using vX j hj) (λj e hj=>?_)
   (λj hj=>by obtain ⟨e,he⟩:=hat0 j hj;rw[he];rfl) (λj j' hj zT he=>Bw hk.nd (vX j hj) (vX j' zT) he) B3 (λv σc hr=>?_) (λv σc hr=>?_))
  (λr hr k F1 q=>by
   obtain ⟨j,hj,rfl⟩:=wx.1 F1
   exact EJ pL r (ij.1 hr).1 _ q (JE BA))⟩
 ·exact ZN
 ·rcases hr with ⟨x,hg,he,rfl⟩|⟨_,_,he,_⟩
  ·cases he
   obtain ⟨h1,h2,h3⟩:=hx x hg
   obtain ⟨Fy,hn⟩:=oB x hg _ _ rfl rfl
   refine ⟨{ dom:=λj e hj=>?_,val:=by rw[Vx];exact h3,inj:=Hf,same:=Q2 },?_⟩
   ·exact ait
   ·have:after (bW s) (nth ks) (List.range ks.length) (List.range ks.length) (bW (gK 0 (C x)))=bW (tK ks (qd (nth ks) (C x))++s):=by
     funext k
     rw[OJ Ve hk.nd]
     simp only[after]
     cases hf:(List.range ks.length).find? (λj=>nth ks j==k) with
     | some j=>
      exact ah7
     | none=>
      exact aep
    rw[this]
    refine ⟨λr hr=>⟨λp hp=>(let ⟨e,h1,h2⟩:=Fy r hr p hp;⟨e,fK h1,h2⟩),λnm q=>?_⟩,hn⟩
    have hnk:=EJ pL r (ij.1 hr).1 nm q
    refine ⟨λd' Cz=>?_,λk F1 e he=>?_⟩
    ·cases Cz
     simp only[k9.qv,k9.put,if_true]
     exact KP hnk h3
    ·obtain ⟨j,hj,rfl⟩:=wx.1 F1
     have zT:j<ks.length:=by simpa using hj
     have Ko:j<(C x).length:=by omega
     rw[OJ Ve hk.nd] at he
     have hfd:(List.range ks.length).find? (λj'=>nth ks j'==nth ks j)=some j:=by
      cases hf:(List.range ks.length).find? (λj'=>nth ks j'==nth ks j) with
      | none=>have:=ls.1 hf j Vu;simp at this
      | some j2=>
       have h7:=nU hf
       have h8:=fo hf
       simp at h7 h8
       rw[Bw hk.nd h8 zT h7]
     rw[hfd] at he
     simp only[G1,az Ko,wy] at he
     injection he with he
     subst he
     have:=G3 h2 (az Ko)
     generalize (C x)[j]=ce at this
     cases ce with
     | box cs=>exact AA hnk this
     | arr _ _ cs=>exact yd _ _
     | app _ _ cs=>exact yd _ _
  ·cases he
 ·rcases hr with ⟨_,_,he,_⟩|⟨v',hh,he,rfl⟩
  ·cases he
  ·cases he
   obtain ⟨h1,h2⟩:=wm v hh
   refine ⟨{ dom:=λj e hj=>(by cases hj),val:=?_,inj:=Hf,same:=Q2 },λpn σ' Ek _ _=>?_⟩
   ·exact Fk (λk hk=>by cases hk) h1
   ·rw[CF h1];exact h2 pn σ' Ek
end
end
section
structure sX where
 t:TypeId
 cells:List PV
def sX.av (p:sX):AV:=.vV p.t (.agg (p.cells.map .pv))
def sX.only (p:sX) (q:Nat->Bool):p.av.only q=true:=by simp[sX.av,AV.only,Hh]
inductive aI (α:Type) where
 | stuck
 | ry (p:sX)
 | ok (a:α)
namespace aI
variable {α β:Type}
def ag (x:aI α) (k:α->aI β):aI β:=
 match x with
 | .stuck=>.stuck
 | .ry v=>.ry v
 | .ok a=>k a
def br (b:Bool) (x y:aI α):aI α:=match b with|true=>x|false=>y
def gd (p:Prop) [Decidable p] (x:aI α):aI α:=if p then x else .stuck
def el (l:List β) (i:Int) (k:β->aI α):aI α:=if 0<=i then (match l[i.toNat]? with|some x=>k x|none=>.stuck) else .stuck
def some? (x:Option β) (k:β->aI α):aI α:=match x with|some x=>k x|none=>.stuck
def jn {X:Type} (j:X->aI α) (p:(X->aI α)->aI α):aI α:=p j
def iter {X:Type} (body:(X->aI α)->X->aI α):Nat->X->aI α
 | 0,_=>.stuck
 | n+1,x=>body (iter body n) x
variable {x y r:aI α} {X:Type}
def aeT (hb:b=true) (h:br b x y=r):x=r:=by subst hb;exact h
def aeU (hb:b=false) (h:br b x y=r):y=r:=by subst hb;exact h
def aeV {p:Prop} [Decidable p] (hr:r≠.stuck) (h:gd p x=r):p/\x=r:=by
 unfold gd at h;split at h
 ·exact ⟨‹p›,h⟩
 exact J9
variable {k:β->aI α}
def aiR {l:List β} {i:Int} (hr:r≠.stuck) (h:el l i k=r):∃ x,0<=i/\i<l.length/\l[i.toNat]?=some x/\k x=r:=by
 unfold el at h;split at h
 ·rename_i h0;split at h
  ·rename_i x hx;have:=(an.1 hx).1;exact ⟨x,h0,by omega,hx,h⟩
  exact J9
 exact J9
def aeW {x:Option β} (hr:r≠.stuck) (h:some? x k=r):∃ y,x=some y/\k y=r:=by
 cases x with
 | none=>exact J9
 | some y=>exact ⟨y,rfl,h⟩
end aI
open aI
class CT (P:outParam Program) (f:outParam FuncId) (args:outParam (List AV)) (es:outParam (List cV)) {X:Type} (res:aI X) (V:outParam (X->AV)) (C:outParam (X->List cV)):Prop where
 h:∀ r,res=r->r≠.stuck->SC P f args (bW (gK 0 es)) (zh V C (λx=>r=.ok x) (λv=>∃ p,r=.ry p/\v=p.av))
section
variable {P:Program} {Q:gJ} {rest:List Oper}
 {ty:TypeId} {pos:String} {af:Array Edge}
variable {X:Type}
theorem aaj {f:FuncId} {fn:Func} {args:List AV} {es:List cV} {res:aI X} {V:X->AV} {C:X->List cV} (hf:P.funcs[f]?=some fn) (hb:fn.body=some c) (hn:Nat.ble args.length fn.ntmps=true) (h:∀ r,res=r->r≠.stuck->∀ E:Env,(∀ k,fu es k=true->E.fix k=none)->
   SW P E fn.ntmps c (wo P fn (zh V C (λx=>r=.ok x) (λv=>∃ p,r=.ry p/\v=p.av))) (cA ((List.range args.length).zip args) []) (bW (gK 0 es))):CT P f args es res V C:=
 ⟨λr hr hs=>aai hf hb hn (h r hr hs)⟩
def GZ {c:Operand} {x y:Code} (hb:bU l c=some (Bo b)) (ht:b=true->SW P E n x Q (cA l ds) (bW s)) (hf:b=false->SW P E n y Q (cA l ds) (bW s)):SW P E n (.cond c x y) Q (cA l ds) (bW s):=
 ż (dX hb) ht hf
def DO (l G:List (Nat×AV)):List (Nat×AV)->Prop
 | []=>True
 | (i,_)::F=>mL l i=mL G i/\DO l G F
def F7 (s G:List (Nat×cV)):List (Nat×cV)->Prop
 | []=>True
 | (i,_)::F=>dJ s i=dJ G i/\F7 s G F
def NB:tI l i=(mL l i).getD .any:=by
 induction l with
 | nil=>rfl
 | cons a l ih=>
  obtain ⟨j,v⟩:=a
  simp only[tI,mL]
  exact aic
def Dh {l:List (Nat×cV)}:vh l i=dJ l i:=by
 induction l with
 | nil=>rfl
 | cons a l ih=>
  obtain ⟨j,v⟩:=a
  simp only[vh,dJ]
  exact aic
def AU {G:List (Nat×AV)}:∀ {F:List (Nat×AV)},DO l G F->∀ p∈F,tI l p.1=tI G p.1
 | [],_,p,hp=>by cases hp
 | (i,v)::F,h,p,hp=>by
  rcases cb.1 hp with q|q
  ·subst q;rw[NB,NB,h.1]
  exact AU h.2 p q
def Di {s G:List (Nat×cV)}:∀ {F:List (Nat×cV)},F7 s G F->∀ p∈F,vh s p.1=vh G p.1
 | [],_,p,hp=>by cases hp
 | (i,v)::F,h,p,hp=>by
  rcases cb.1 hp with q|q
  ·subst q;rw[Dh,Dh,h.1]
  exact Di h.2 p q
def V2 (l':List (Nat×AV)) (s':List (Nat×cV)) (h1:DO l l' l') (h2:F7 s s' s') (h:SW P E n c Q (cA l' ds) (bW s')):SW P E n c Q (cA l ds) (bW s):=
 VO (OE (AU h1)) (OF (Di h2)) h
def aak {x y:Code} (F:X->List (Nat×AV)) (H:X->List (Nat×cV)) (G:X->Prop) (hy:∀ v,G v->SW P E n y Q (cA (F v) ds) (bW (H v))) (hx:∀ K:k9->fC->Prop,(∀ v l s,G v->DO l (F v) (F v)->F7 s (H v) (H v)->K (cA l ds) (bW s))->SW P E n x (BH K Q) (cA l ds) (bW s)):SW P E n (.seq x y) Q (cA l ds) (bW s):=
 Z6 (hx _ λv _ _ hg h1 h2=>V2 (F v) (H v) h1 h2 (hy v hg))
def XI {R:Type} (F:X->List (Nat×AV)) (H:X->List (Nat×cV)) (body:(X->aI R)->X->aI R) (r:aI R) (m:Nat) (v:X) (hr:r≠.stuck) (h0:iter body m v=r) (h1:DO l (F v) (F v)) (h2:F7 s (H v) (H v)) (hx:∀ (next:X->aI R) (v:X) (K:k9->fC->Prop),(∀ v l s,next v=r->DO l (F v) (F v)->F7 s (H v) (H v)->K (cA l ds) (bW s))->body next v=r->SW P E n c (BH K Q) (cA (F v) ds) (bW (H v))) :
  SW P E n (.loop c) Q (cA l ds) (bW s):=by
 refine V2 (F v) (H v) h1 h2 (Ž (λk fr σ=>∃ v,iter body k v=r/\fr.le (cA (F v) ds)/\∀ j e,bW (H v) j=some e->σ j=some e) m ⟨v,h0,Vd,λ_ _ h=>h⟩ ?_)
 rintro k fr σ ⟨v,hv,hle,hsub⟩
 cases k with
 | zero=>exact ao hv.symm hr
 | succ k=>
  refine VO hle hsub (hx (iter body k) v _ ?_ hv)
  intro v' l' s' GU hf hs
  exact ⟨k,vH k,v',GU,OE (AU hf),OF (Di hs)⟩
end
end
end Go.Abs
namespace Go.Abs
open aI
variable {n d j sz k i off nm bytes:Nat} {E:Env} {ops:Array Oper} {rest:List Oper} {t e xt yt ty:TypeId} {fr:k9} {x a f:Operand} {α β:Type} {σ:fC} {o:Oper} {ts:Array TypeId} {op:Op} {want b:Bool} {args:List Operand} {c:Code} {cells vs:List PV} {parts:List (Nat×Operand)} {next:k9->fC->Prop} {w:World} {z:List Value} {fn:Func} {pos:String} {af:Array Edge} {ae:Ns} {xs:List Int} {v:Int}
section
variable {f:α->List PV} {v:AV} {rd:List (Nat×cV)} {m:Nat} {o:Option (List PV)} {y:Operand} {b:Int}
def Ie (hf:∀ x,(f x).length=sz):∀ {l:List α} {i:Nat} {x:α},l[i]?=some x->
  (l.flatMap f).drop (i*sz)=f x++(l.flatMap f).drop ((i+1)*sz):=by
 intro l
 induction l with
 | nil=>intro i x h;simp at h
 | cons a l ih=>
  intro i x h
  cases i with
  | zero=>
   simp at h;subst h
   rw[fE,Nat.zero_mul,uE,Nat.zero_add,xX,<- hf a,List.drop_left]
  | succ i=>
   have h1:=ih (i:=i) (x:=x) jg
   have h2:∀ j,(f a++l.flatMap f).drop ((j+1)*sz)=(l.flatMap f).drop (j*sz):=λj=>by
    rw[sF,ub,<- hf a,<- kF,List.drop_left]
   rw[fE,h2,h2,h1]
def tZ (hf:∀ x,(f x).length=sz):∀ (l:List α),(l.flatMap f).length=l.length*sz
 | []=>by simp
 | a::l=>by simp[tZ hf l,hf a,sF,ub]
section
variable {P:Program} {l:List (Nat×AV)} {ds:List (FuncId×List AV)} {s:List (Nat×cV)}
def na.two {e e':cV} (hk:dJ s k=some e) (hj:dJ s j=some e') (h:X P op (cA l ds) [(k,e),(j,e')] v):na P op l ds s v [(k,e),(j,e')]:=
 ⟨h,λp hp=>by
  simp at hp;rcases hp with q|q
  ·subst q;exact ⟨_,fK hk,nR _⟩
  subst q;exact ⟨_,fK hj,nR _⟩⟩
variable {v':AV}
def X.Mv (h:X P op fr rd v) (hle:v.le v'):X P op fr rd v':=λo ho g ev w hG hv hr=>
 let ⟨c,h1,h2⟩:=h o ho g ev w hG hv hr;⟨c,h1,hle g c h2⟩
def na.Mv (h:na P op l ds s v rd) (hle:v.le v'):na P op l ds s v' rd:=⟨h.h.Mv hle,h.r⟩
def AV.aiS:(Sc (.pointer none)).le (.pv (.pt none)):=λg c h=>by rw[h.iv];exact .pv .ZT
def aeX {el:TypeId} (hx:bU l x=some (.arr k m)) (hk:dJ s k=some (.app el sz cells)) (hz:Nat.blt 0 sz=true) (hn:cells.length=m*sz) :
 na P (.move x) l ds s (.pv (.sl m cells)) [(k,.app el sz cells)]:=.on hk (Oq kp U3 hn)
def I' {off:Nat} {el:TypeId} {e:cV} [ha:oM P t false] (hx:bU l x=some (.ptr k off)) (hk:dJ s k=some e) (hv:e.cells[off]?=some (.arr j m)) (hj:dJ s j=some (.app el sz cells)) (hz:Nat.blt 0 sz=true) (hn:cells.length=m*sz) :
 na P (.load t x) l ds s (.pv (.sl m cells)) [(k,e),(j,.app el sz cells)]:=.two hk hj (Ot ha.h kp hv U3 hn)
def ak_ {Cs:List α->List PV} {ix:Operand} {k:IntKind} {i:Int} {xs:List α} {a:α} [ht:P6 P t e sz] (yT:∀ l,Cs l=l.flatMap f) (hf:∀ x,(f x).length=sz) (h0:0<=i) (h1:i<xs.length) (ha:xs[i.toNat]?=some a) (hx:bU l x=some (.pv (.sl m (Cs xs)))) (hm:m=xs.length) (hi:bU l ix=some (Sc (.int k i))) :
  na P (.indexAddr t x ix) l ds s (.sp (f a++(xs.flatMap f).drop ((i.toNat+1)*sz))) []:=by
 subst hm
 rw[yT] at hx
 refine aab hx hi h0 h1 ?_ (by rw[Ie hf ha])
 rw[tZ hf];exact acS
variable {pv:List (Nat×AV)}
def CH (h:parts.mapM (λp=>(bU l p.2).map λv=>(p.1,v))=some pv):(parts.map λp=>(p.1,(cA l ds).val p.2))=pv:=by
 have key:∀ (ps:List (Nat×Operand)) (pv:List (Nat×AV)),ps.mapM (λp=>(bU l p.2).map λv=>(p.1,v))=some pv->(ps.map λp=>(p.1,(cA l ds).val p.2))=pv:=by
  intro ps
  induction ps with
  | nil=>intro pv h;simp at h;simp[h]
  | cons p ps ih=>
   intro pv h
   rw[xO] at h
   cases hv:bU l p.2 with
   | none=>simp[hv] at h
   | some v=>
    cases hr:ps.mapM (λp=>(bU l p.2).map λv=>(p.1,v)) with
    | none=>simp[hv,hr] at h
    | some r=>
     exact ZR
 exact key parts pv h
def ug (k:Nat):List (Nat×cV)->List (Nat×cV)
 | []=>[]
 | (j,e)::s=>match Nat.beq j k with
  | true=>ug k s
  | false=>(j,e)::ug k s
def BK {k:Nat}:∀ {s:List (Nat×cV)},bW (ug k s)=(bW s).del k
 | []=>by funext j;simp[ug,bW,vh,fC.del]
 | (i,e)::s=>by
  have ih:=BK (k:=k) (s:=s);funext j;have ihj:=congrFun ih j;simp only[bW,fC.del] at ihj;simp only[ug];split
  ·rename_i q;have hik:=Nat.eq_of_beq_eq_true q;subst hik;simp only[bW,vh,fC.del];rw[ihj];split<;>simp_all
  rename_i q;have hik:i≠k:=λh=>by subst h;simp at q
  simp only[bW,vh,fC.del];by_cases hj:j=i
  ·subst hj;simp[hik]
  simp only[hj,if_false];exact ihj
def aal {el:TypeId} (ht:P.underlying xt=some (.pointer el)) (hx:fr.val x=.pv (.pt o)) (hy:fr.val y=Sc (.pointer none)) :
  X P (.binOp .eql xt x y yt) fr [] (Bo o.isNone):=by
 intro o' ho g ev w _ hv _
 have q1:=hv x vd;rw[hx] at q1
 have q2:=hv y vd;rw[hy] at q2
 generalize hq:ev x=c at q1
 cases q1 with
 | pv q1=>cases q1 with
  | ZT=>
   refine ⟨.bool true,?_,.pv (.sc _)⟩
   simp only[execOp,ho,hq,q2.iv,binOp,cF,BF,eF,bR];simp[Op.equal,Op.maxDepth,vA ht 9999]
  | YT=>
   refine ⟨.bool false,?_,.pv (.sc _)⟩
   simp only[execOp,ho,hq,q2.iv,eqGuard,binOp];simp[Op.equal,Op.maxDepth,yU ht 9999]
def aam {el:TypeId} (ht:P.underlying xt=some (.pointer el)) (hx:fr.val x=.pv (.pt o)) (hy:fr.val y=Sc (.pointer none)) :
  X P (.binOp .neq xt x y yt) fr [] (Bo o.isSome):=by
 intro o' ho g ev w _ hv _
 have q1:=hv x vd;rw[hx] at q1
 have q2:=hv y vd;rw[hy] at q2
 generalize hq:ev x=c at q1
 cases q1 with
 | pv q1=>cases q1 with
  | ZT=>
   refine ⟨.bool false,?_,.pv (.sc _)⟩
   simp only[execOp,ho,hq,q2.iv,binOp,cF,BF,eF,bR];simp[Op.equal,Op.maxDepth,vA ht 9999]
  | YT=>
   refine ⟨.bool true,?_,.pv (.sc _)⟩
   simp only[execOp,ho,hq,q2.iv,eqGuard,binOp];simp[Op.equal,Op.maxDepth,yU ht 9999]
variable {c:List PV}
def J' (hx:fr.val x=.pv (.pt (some c))):X P (.nilCheck x) fr [] (.sp c):=by
 intro o ho g ev w _ hv _;have h1:=hv x vd;rw[hx] at h1;generalize hq:ev x=c at h1;cases h1 with
 | pv h1=>cases h1 with
  | YT b ys off cells h hl hc=>exact ⟨_,by simp[execOp,ho,hq],.sp off h hl hc⟩
def aeY {el:TypeId} [ht:uP P xt (.pointer el)] (hx:bU l x=some (.pv (.pt o))) (hy:bU l y=some (Sc (.pointer none))) :
 na P (.binOp .eql xt x y yt) l ds s (Bo o.isNone) []:=.of (aal ht.h kp tY)
def aeZ {el:TypeId} [ht:uP P xt (.pointer el)] (hx:bU l x=some (.pv (.pt o))) (hy:bU l y=some (Sc (.pointer none))) :
 na P (.binOp .neq xt x y yt) l ds s (Bo o.isSome) []:=.of (aam ht.h kp tY)
def V3 (hx:bU l x=some (.pv (.pt (some c)))):na P (.nilCheck x) l ds s (.sp c) []:=.of (J' kp)
def V4 {c b:Operand} {t:Bool} (ht:t=true) (hc:bU l c=some (Bo t)) (ha:bU l a=some v):na P (.pick c a b) l ds s v []:=by subst ht;exact VZ hc ha
def V5 {c b:Operand} {t:Bool} (ht:t=false) (hc:bU l c=some (Bo t)) (hb:bU l b=some v):na P (.pick c a b) l ds s v []:=by subst ht;exact aaa hc hb
def ae0 {k:IntKind} {a:Int} (hx:bU l x=some (Sc (.int k a))) (hy:bU l y=some (Sc (.int k b))):na P (.binOp .add xt x y yt) l ds s (Sc (.int k (k.wrap (a+b)))) []:=
 .of (VH kp tY)
def ae1 {k:IntKind} {a:Int} (hx:bU l x=some (Sc (.int k a))) (hy:bU l y=some (Sc (.int k b))):na P (.binOp .sub xt x y yt) l ds s (Sc (.int k (k.wrap (a - b)))) []:=
 .of (VI kp tY)
def ae2 {k:IntKind} {a:Int} (hx:bU l x=some (Sc (.int k a))) (hy:bU l y=some (Sc (.int k b))):na P (.binOp .mul xt x y yt) l ds s (Sc (.int k (k.wrap (a*b)))) []:=
 .of (Ź kp tY)
def aan {a b:TypeId} {k k':IntKind} {v:Int} [hs:uP P a (.int k')] [ht:uP P b (.int k)] (hx:bU l x=some (Sc (.int k' v))):na P (.convert a b x) l ds s (Sc (.int k (k.wrap v))) []:=
 .of (TJ hs.h ht.h kp)
end
section
variable {P:Program} {Q:gJ} {l:List (Nat×AV)} {ds:List (FuncId×List AV)} {s:List (Nat×cV)}
 {ty:TypeId} {pos:String} {af:Array Edge}
variable {g:Nat}
def aiT {b:Bool} (hb:b=want) (hj:(ops[j]?).bind (·.dst)=some g/\mL l g=some (Bo b)) (h:na P op l ds s v rd) (hd:Nat.blt d n=true) (hn:SL P E n ops Q rest (cA ((d,v)::l) ds) (bW s)):SL P E n ops Q (⟨some d,op,ty,pos,af,some (j,want)⟩::rest) (cA l ds) (bW s):=by
 subst hb;exact aeN hj h hd hn
def ads {b:Bool} (hb:b = !want) (hj:(ops[j]?).bind (·.dst)=some g/\mL l g=some (Bo b)) (hd:Nat.blt d n=true) (hn:SL P E n ops Q rest (cA ((d,Sc undef)::l) ds) (bW s)):SL P E n ops Q (⟨some d,op,ty,pos,af,some (j,want)⟩::rest) (cA l ds) (bW s):=by
 subst hb;exact aiM Zo hd hn
variable {pv:List (Nat×AV)}
def M' {zs:List Value} {pl:List (Nat×Nat)} [ht:nQ P t m e sz zs pl] (nm:Nat) (hE:E.fix nm=none) (h:parts.mapM (λp=>(bU l p.2).map λv=>(p.1,v))=some pv/\nW pl (zs.map λv=>.pv (.sc v)) pv=some (cells.map .pv)/\cells.length=m*sz/\Nat.ble m 1000=true) (hm:mW nm l=false/\ko nm ds=false/\qb nm s=false) (hd:Nat.blt d n=true) (hn:SL P E n ops Q rest (cA ((d,.arr nm m)::l) ds) (bW ((nm,.app e sz cells)::s))):SL P E n ops Q (⟨some d,.buildSlice t m parts.toArray,ty,pos,af,none⟩::rest) (cA l ds) (bW s):=by
 refine rn rfl (JC (IS nm ht.h ?_ h.2.2.1 aej) acW IB hE B3 hn);rw[CH h.1];exact h.2.1
end
end
section
section
variable {P:Program} {Q:gJ} {B:List Rec->k9->fC->Prop} {L:List Nat} {bk:List Rec} {l:List (Nat×AV)} {ds:List (FuncId×List AV)} {s:List (Nat×cV)}
 {ty:TypeId} {pos:String} {af:Array Edge}
variable {g:Nat} {X R:Type} {res:aI X} {kk:X->aI R} {V V':X->AV} {C:X->List cV} {C':X->List (Nat×cV)} {kC:FuncId} {fS first cap vs:List AV} {es:List cV} {r:aI R}
def aiU {v:AV} {rd:List (Nat×cV)} (hb:b=want) (ho:ops[i]?=some ⟨some d,op,ty,pos,af,some (j,want)⟩) (hj:(ops[j]?).bind (·.dst)=some g/\mL l g=some (Bo b)) (h:na P op l ds s v rd) (hc:fO ⟨some d,op,ty,pos,af,some (j,want)⟩=false/\Nat.blt d n=true/\F6 ops i v rd bk=true) (hn:pq P E n ops Q B L (⟨i,some d,rd,none⟩::bk) (cA ((d,v)::l) ds) (bW s)):pq P E n ops Q B (i::L) bk (cA l ds) (bW s):=by
 subst hb;exact aeQ ho hj h hc hn
def aiV (hb:b = !want) (ho:ops[i]?=some ⟨some d,op,ty,pos,af,some (j,want)⟩) (hj:(ops[j]?).bind (·.dst)=some g/\mL l g=some (Bo b)) (hc:fO ⟨some d,op,ty,pos,af,some (j,want)⟩=false/\Nat.blt d n=true) (hn:pq P E n ops Q B L (⟨i,some d,[],none⟩::bk) (cA ((d,Sc undef)::l) ds) (bW s)):pq P E n ops Q B (i::L) bk (cA l ds) (bW s):=by
 subst hb;exact aiP ho Zo hc hn
def ae3 (hb:b = !want) (ho:ops[i]?=some ⟨some d,op,ty,pos,af,some (j,want)⟩) (hj:(ops[j]?).bind (·.dst)=some g/\mL l g=some (Bo b)) (hc:fO ⟨some d,op,ty,pos,af,some (j,want)⟩=true/\Nat.blt d n=true) (hn:pq P E n ops Q B L bk (cA ((d,Sc undef)::l) ds) (bW s)):pq P E n ops Q B (i::L) bk (cA l ds) (bW s):=by
 subst hb;exact aeR ho Zo hc hn
def sH {id:Nat} (L:List Nat) (hm:P.follows .mixedOrders=true) (EG:chk ops L=true) (h:DW P E n ops Q L [] fr σ):SW P E n (.region id ops true) Q fr σ:=ſ L hm EG h
end
def B5 {α β:Type} {x:aI α} {k:α->aI β} {r:aI β} (hr:r≠.stuck) (h:ag x k=r):x≠.stuck/\(∀ a,x=.ok a->k a=r)/\∀ p,x=.ry p->r=.ry p:=by
 cases x with
 | stuck=>exact J9
 | ry p=>exact ⟨bn,λ_ q=>by simp at q,λq hq=>by cases hq;exact h.symm⟩
 | ok a=>exact ⟨bn,λb q=>by cases q;exact h,λ_ q=>by simp at q⟩
section
variable {P:Program} {Q:gJ} {l:List (Nat×AV)} {ds:List (FuncId×List AV)} {s:List (Nat×cV)}
 {ty:TypeId} {pos:String} {af:Array Edge}
variable {X R:Type} {res:aI X} {kk:X->aI R} {r:aI R} {V V':X->AV} {C:X->List cV} {C':X->List (Nat×cV)} {kC:FuncId} {fS first cap vs:List AV} {es:List cV} {g:Nat}
def Rf (hr:r≠.stuck) (h:ag res kk=r) {l':List (Nat×AV)} (hwk:(cA l ds).le (cA l' ds)) (ks:List Nat) (wu:Enters P kC) (ho:o.op=.call ⟨.value f,args.toArray,ts⟩) (hC:CT P kC fS es res V C) (hk:vL E ds l s ks f args kC fS es first cap vs l') (hd:∀ d,o.dst=some d->d<n) (hx:∀ x,(C x).length=ks.length/\qe (below ks.length) (C x)=true/\(V x).only (below ks.length)=true) (hV:∀ x,(V x).mh (nth ks)=V' x/\tK ks (qd (nth ks) (C x))=C' x) (wm:∀ p fr σ,fr.ds=ds->r=.ry p->Q (.panic p.av) fr σ) (oB:∀ x,kk x=r->next ((cA l' ds).qv o.dst (V' x)) (bW (C' x++s))):Step P E n Q o (cA l ds) (bW s) next:=by
 obtain ⟨Kk,GX,hp⟩:=B5 hr h;refine KN hwk ks wu ho (hC.h res rfl Kk) hk hd (λx _=>hx x) (λx hg=>?_) (λv hv=>?_)
 ·exact aes
 obtain ⟨p,Fm,rfl⟩:=hv;exact ⟨p.only _,wm p _ _ rfl (hp p Fm)⟩
def V6 (hr:r≠.stuck) (h:ag res kk=r) (ks:List Nat) (wu:Enters P kC) (ho:o.op=.call ⟨.value f,args.toArray,ts⟩) (hC:CT P kC fS es res V C) (hk:vL E ds l s ks f args kC fS es first cap vs) (hd:∀ d,o.dst=some d->d<n) (hx:∀ x,(C x).length=ks.length/\qe (below ks.length) (C x)=true/\(V x).only (below ks.length)=true) (hV:∀ x,(V x).mh (nth ks)=V' x/\tK ks (qd (nth ks) (C x))=C' x) (wm:∀ p fr σ,fr.ds=ds->r=.ry p->Q (.panic p.av) fr σ) (oB:∀ x,kk x=r->next ((cA l ds).qv o.dst (V' x)) (bW (C' x++s))):Step P E n Q o (cA l ds) (bW s) next:=
 Rf hr h Vd ks wu ho hC hk hd hx hV wm oB
def Hi (hr:r≠.stuck) (h:ag res kk=r) (ks:List Nat) (wu:Enters P kC) (hC:CT P kC fS es res V C) (hk:vL E ds l s ks f args kC fS es first cap vs) (hd:Nat.blt d n=true) (hx:∀ x,(C x).length=ks.length/\qe (below ks.length) (C x)=true/\(V x).only (below ks.length)=true) (hV:∀ x,(V x).mh (nth ks)=V' x/\tK ks (qd (nth ks) (C x))=C' x) (wm:∀ p fr σ,fr.ds=ds->r=.ry p->Q (.panic p.av) fr σ) (oB:∀ x,kk x=r->SL P E n ops Q rest (cA ((d,V' x)::l) ds) (bW (C' x++s))) :
  SL P E n ops Q (⟨some d,.call ⟨.value f,args.toArray,ts⟩,ty,pos,af,none⟩::rest) (cA l ds) (bW s):=
 rn rfl (V6 hr h ks wu rfl hC hk B3 hx hV wm oB)
def ae4 (l':List (Nat×AV)) (hwk:DO l l' l') (hr:r≠.stuck) (h:ag res kk=r) (ks:List Nat) (wu:Enters P kC) (hC:CT P kC fS es res V C) (hk:vL E ds l s ks f args kC fS es first cap vs l') (hd:Nat.blt d n=true) (hx:∀ x,(C x).length=ks.length/\qe (below ks.length) (C x)=true/\(V x).only (below ks.length)=true) (hV:∀ x,(V x).mh (nth ks)=V' x/\tK ks (qd (nth ks) (C x))=C' x) (wm:∀ p fr σ,fr.ds=ds->r=.ry p->Q (.panic p.av) fr σ) (oB:∀ x,kk x=r->SL P E n ops Q rest (cA ((d,V' x)::l') ds) (bW (C' x++s))) :
  SL P E n ops Q (⟨some d,.call ⟨.value f,args.toArray,ts⟩,ty,pos,af,none⟩::rest) (cA l ds) (bW s):=
 rn rfl (Rf hr h (OE (AU hwk)) ks wu rfl hC hk B3 hx hV wm oB)
def N' (hb:b=want) (hj:(ops[j]?).bind (·.dst)=some g/\mL l g=some (Bo b)) (hr:r≠.stuck) (h:ag res kk=r) (ks:List Nat) (wu:Enters P kC) (hC:CT P kC fS es res V C) (hk:vL E ds l s ks f args kC fS es first cap vs) (hd:Nat.blt d n=true) (hx:∀ x,(C x).length=ks.length/\qe (below ks.length) (C x)=true/\(V x).only (below ks.length)=true) (hV:∀ x,(V x).mh (nth ks)=V' x/\tK ks (qd (nth ks) (C x))=C' x) (wm:∀ p fr σ,fr.ds=ds->r=.ry p->Q (.panic p.av) fr σ) (oB:∀ x,kk x=r->SL P E n ops Q rest (cA ((d,V' x)::l) ds) (bW (C' x++s))) :
  SL P E n ops Q (⟨some d,.call ⟨.value f,args.toArray,ts⟩,ty,pos,af,some (j,want)⟩::rest) (cA l ds) (bW s):=by
 subst hb
 exact G8 rfl hj.1 (jY hj.2) B3 (λ_=>V6 hr h ks wu rfl hC hk B3 hx hV wm oB) (λq=>ao rfl q)
end
section
variable {P:Program} {Q:gJ} {B:List Rec->k9->fC->Prop} {L:List Nat} {bk:List Rec} {l:List (Nat×AV)} {ds:List (FuncId×List AV)} {s:List (Nat×cV)}
 {ty:TypeId} {pos:String} {af:Array Edge}
variable {X R:Type} {res:aI X} {kk:X->aI R} {r:aI R} {V V':X->AV} {C:X->List cV} {C':X->List (Nat×cV)} {kC:FuncId} {fS first cap vs:List AV} {es:List cV} {g:Nat}
def KQ {gd:Option (Nat×Bool)} (ho:ops[i]?=some ⟨some d,.call ⟨.value f,args.toArray,ts⟩,ty,pos,af,gd⟩) (hw:oL ops ⟨some d,.call ⟨.value f,args.toArray,ts⟩,ty,pos,af,gd⟩ (cA l ds)) (hr:r≠.stuck) (h:ag res kk=r) (ks:List Nat) (wu:Enters P kC) (hC:CT P kC fS es res V C) (hk:vL E ds l s ks f args kC fS es first cap vs) (hd:Nat.blt d n=true) (pL:EI ks bk=true) (hx:∀ x,(C x).length=ks.length/\qe (below ks.length) (C x)=true/\(V x).only (below ks.length)=true) (hV:∀ x,(V x).mh (nth ks)=V' x/\tK ks (qd (nth ks) (C x))=C' x) (wm:∀ p fr σ,fr.ds=ds->r=.ry p->Q (.panic p.av) fr σ) (oB:∀ x,kk x=r->qR ops i (C' x++s) bk/\pq P E n ops Q B L bk (cA ((d,V' x)::l) ds) (bW (C' x++s))):pq P E n ops Q B (i::L) bk (cA l ds) (bW s):=by
 obtain ⟨Kk,GX,hp⟩:=B5 hr h;refine V1 ho hw ks wu (hC.h res rfl Kk) hk hd pL (λx _=>hx x) (λv hv=>?_) (λx hg v' s' hv hs=>?_)
 ·obtain ⟨p,Fm,rfl⟩:=hv;exact ⟨p.only _,λpn σ' Ek=>wm p _ _ Ek (hp p Fm)⟩
 have:=oB x (GX x hg);rw[<- (hV x).1,<- (hV x).2] at this;subst hv hs;exact this
def xr (h:o.guard=none):oL ops o fr:=.inl h
def aiW (hb:b=want) (h:o.guard=some (j,want)) (hj:(ops[j]?).bind (·.dst)=some g/\mL l g=some (Bo b)):oL ops o (cA l ds):=by
 subst hb;exact .inr ⟨j,b,g,h,hj.1,jY hj.2⟩
end
variable {X:Type} {V:X->AV} {C:X->List cV} {g:Nat} {R:Type} {res:aI X} {kk:X->aI R} {V':X->AV} {C':X->List (Nat×cV)} {kC:FuncId} {fS first cap vs:List AV} {es:List cV} {r:aI R}
def O' {P:Program} {fn:Func} {r:aI X} {p:sX} (hd:fr.ds=[]) (h:r=.ry p) :
 wo P fn (zh V C (λx=>r=.ok x) (λv=>∃ p,r=.ry p/\v=p.av)) (.panic p.av) fr σ:=TP hd ⟨p,h,rfl⟩
end
section
variable {g:Gh}
def Rel.JF {E:Env} {σ:fC} {w:World} (h:Rel E g σ w) {nm:Nat} {el:TypeId} (hc:σ.clear nm) (hf:E.fix nm=none) :
  Rel E (g.unbind nm) (σ.set nm (.app el sz [])) w:=by
 have hle:=tf g nm
 have hρ:∀ j,j≠nm->(g.unbind nm).ρ j=g.ρ j:=λj q=>by simp[Gh.unbind,q]
 have PY:(g.unbind nm).ρ nm=none:=by simp[Gh.unbind]
 have uB:∀ j e,σ.set nm (.app el sz []) j=some e->j≠nm->σ j=some e:=λj e hj q=>by simpa[fC.set,q] using hj
 have hnes:∀ j,(σ.set nm (.app el sz []) j).isSome=true->j≠nm->(σ j).isSome=true:=λj hj q=>by simpa[fC.set,q] using hj
 refine { sv:=?_,inj:=?_,gl:=?_,apart:=?_,size:=h.size,yV:=h.yV,own:=?_,fix:=?_,qq:=?_,g0:=h.g0,gn:=h.gn,os:=h.os,out:=h.out,tape:=h.tape,x:=h.x.F0 rfl rfl (λj b hj hb=>by
   by_cases q:j=nm
   ·subst q;rw[PY] at hb;cases hb
   ·exact ⟨j,hnes j hj q,by rw[<- hρ j q];exact hb,.inl rfl⟩) (λj b e' hfj hj=>by
   have q:j≠nm:=λq=>by subst q;rw[hf] at hfj;cases hfj
   exact ⟨e',uB j _ hj q,id⟩) }
 ·intro k e hk
  by_cases q:k=nm
  ·subst q;simp[fC.set] at hk;subst hk;exact .Jb PY
  ·have F1:=uB k e hk q
   exact (h.sv k e F1).le hle q (λ_ _ _=>rfl) (λj hj=>by subst hj;exact hc k e F1) (λ_ _=>rfl)
 ·intro k k' b hk F1 hb x8
  by_cases q:k=nm
  ·subst q;rw[PY] at hb;cases hb
  ·by_cases q':k'=nm
   ·subst q';rw[PY] at x8;cases x8
   ·rw[hρ k q] at hb;rw[hρ k' q'] at x8
    exact h.inj k k' b (hnes k hk q) (hnes k' F1 q') hb x8
 ·exact h.gl.le hle rfl (λ_ _ _=>rfl)
 ·intro k b e hk hka hb
  by_cases q:k=nm
  ·subst q;rw[PY] at hb;cases hb
  ·rw[hρ k q] at hb;exact h.apart k b e (uB k e hk q) hka hb
 ·intro k b hk hb
  by_cases q:k=nm
  ·subst q;rw[PY] at hb;cases hb
  ·rw[hρ k q] at hb;exact h.own k b (hnes k hk q) hb
 ·exact aeq
 ·intro k b hk
  have q:k≠nm:=λq=>by subst q;rw[hf] at hk;cases hk
  have:(g.unbind nm).cp k=g.cp k:=rfl
  rw[this];exact h.qq k b hk
section
variable {P:Program} {Q:gJ} {l:List (Nat×AV)} {ds:List (FuncId×List AV)} {s:List (Nat×cV)}
def mM (E:Env) (n:Nat) (l:List (Nat×AV)) (ds:List (FuncId×List AV)) (s:List (Nat×cV)) (l':List (Nat×AV)) (s':List (Nat×cV)):Prop:=
 ∀ (g:Gh) (a:Act) (w:World),Rel E g (bW s) w->FR n g (cA l ds) a->∃ g',Rel E g' (bW s') w/\FR n g' (cA l' ds) a
variable {l':List (Nat×AV)} {s':List (Nat×cV)}
def nY (hg:mM E n l ds s l' s') (h:SW P E n c Q (cA l' ds) (bW s')):SW P E n c Q (cA l ds) (bW s):=λg a w hR hF=>
 let ⟨g',lq,tt⟩:=hg g a w hR hF;h g' a w lq tt
def lX (hg:mM E n l ds s l' s') (h:SL P E n ops Q rest (cA l' ds) (bW s')):SL P E n ops Q rest (cA l ds) (bW s):=λg a w hR hF=>
 let ⟨g',lq,tt⟩:=hg g a w hR hF;h g' a w lq tt
variable {m:Nat}
def ae5 {el:TypeId} (hd:mL l d=some (.arr k m)) (hk:dJ s k=some (.app el sz cells)) (hz:Nat.blt 0 sz=true) (hn:cells.length=m*sz) :
  mM E n l ds s ((d,.pv (.sl m cells))::l) s:=λg a w hR hF=>by
 refine ⟨g,hR,hF.size,λi=>?_,hF.ds⟩
 by_cases q:i=d
 ·subst q
  have h1:=hF.pA i
  simp only[cA,jY hd] at h1
  simpa[cA,tI] using h1.view (hR.sv k _ M8) U3 hn
 ·have h1:=hF.pA i
  simpa[cA,tI,q] using h1
def M.set {v:AV}:∀ {cells:List AV} {vs:List Value} {off:Nat} {u:AV},M g cells vs->cells[off]?=some u->(∀ c,VR g u c->VR g v c)->M g (cells.set off v) vs
 | [],_,_,_,_,h,_=>by simp at h
 | x::xs,_,0,u,.cons h t,hu,hv=>by simp at hu;subst hu;exact .cons (hv _ h) t
 | x::xs,_,off+1,u,.cons h t,hu,hv=>.cons h (M.set t (by simpa using hu) hv)
variable {cs:List AV}
def aao {el:TypeId} (hj:dJ s j=some (.box cs)) (hc:cs[off]?=some (.arr k m)) (hk:dJ s k=some (.app el sz cells)) (hz:Nat.blt 0 sz=true) (hn:cells.length=m*sz):mM E n l ds s l ((j,.box (cs.set off (.pv (.sl m cells))))::s):=λg a w hR hF=>by
 refine ⟨g,?_,hF⟩;have S5:=fK hj;have xM:=fK hk;have he:∀ i e,bW ((j,.box (cs.set off (.pv (.sl m cells))))::s) i=some e->(bW s i).isSome=true/\(i≠j->bW s i=some e):=λi e h=>by
  exact aif
 have hs:∀ i,(bW ((j,.box (cs.set off (.pv (.sl m cells))))::s) i).isSome=true->(bW s i).isSome=true:=λi h=>by
  cases q:bW ((j,.box (cs.set off (.pv (.sl m cells))))::s) i with
  | none=>rw[q] at h;cases h
  | some e=>exact (he i e q).1
 exact {
  sv:=λi e h=>by
   by_cases q:i=j
   ·subst q;have:e=.box (cs.set off (.pv (.sl m cells))):=by simpa[bW,vh] using h.symm
    subst this;cases hR.sv i _ S5 with
    | box h1 h2 h3 h4=>exact .box h1 h2 (h3.set hc λc hc=>hc.view (hR.sv k _ xM) U3 hn) h4
   exact hR.sv i e ((he i e h).2 q)
  inj:=λi i' b h h'=>hR.inj i i' b (hs i h) (hs i' h')
  gl:=hR.gl
  apart:=λi b e h Cw hb=>by
   exact ahX
  size:=hR.size,yV:=hR.yV,own:=λi b h=>hR.own i b (hs i h),fix:=hR.fix,qq:=hR.qq,g0:=hR.g0,gn:=hR.gn,os:=hR.os,out:=hR.out,tape:=hR.tape
  x:=hR.x.F0 rfl rfl (λi b hi hb=>⟨i,hs i hi,hb,.inl rfl⟩) (λi b e' _ hi=>by
   by_cases q:i=j
   ·subst q;exact Zu
   exact ⟨e',(he i _ hi).2 q,id⟩) }
def ae6 (nm:Nat) {el:TypeId} (hE:E.fix nm=none) (hd:mL l d=some (nSl)) (hm:mW nm l=false/\ko nm ds=false/\qb nm s=false) :
  mM E n l ds s ((d,.arr nm 0)::l) ((nm,.app el sz [])::s):=λg a w hR hF=>by
 have h1:=hR.JF (el:=el) (sz:=sz) IB hE
 exact ahR
def Jx (nm:Nat) {el:TypeId} (hE:E.fix nm=none) (hj:dJ s j=some (.box cs)) (hc:cs[off]?=some (nSl)) (hm:mW nm l=false/\ko nm ds=false/\qb nm s=false) (hjn:Nat.beq j nm=false) :
  mM E n l ds s l ((j,.box (cs.set off (.arr nm 0)))::(nm,.app el sz [])::s):=λg a w hR hF=>by
 have hR:=hR.JF (el:=el) (sz:=sz) IB hE
 have hF:=hF.le (tf g nm) Zb
 have hjn':j≠nm:=λq=>by subst q;simp at hjn
 have S5:(bW s).set nm (.app el sz []) j=some (.box cs):=by simp[fC.set,hjn',fK hj]
 refine ⟨g.unbind nm,?_,hF⟩
 have he:∀ i e,bW ((j,.box (cs.set off (.arr nm 0)))::(nm,.app el sz [])::s) i=some e->(((bW s).set nm (.app el sz [])) i).isSome=true/\(i≠j->((bW s).set nm (.app el sz [])) i=some e):=λi e h=>by
  by_cases q:i=j
  ·subst q;exact ⟨by rw[S5];rfl,λq=>ao rfl q⟩
  ·have:((bW s).set nm (.app el sz [])) i=some e:=by simpa[bW,vh,fC.set,q] using h
   exact ⟨by rw[this];rfl,λ_=>this⟩
 have hs:∀ i,(bW ((j,.box (cs.set off (.arr nm 0)))::(nm,.app el sz [])::s) i).isSome=true->(((bW s).set nm (.app el sz [])) i).isSome=true:=λi h=>by
  cases q:bW ((j,.box (cs.set off (.arr nm 0)))::(nm,.app el sz [])::s) i with
  | none=>rw[q] at h;cases h
  | some e=>exact (he i e q).1
 exact yC2
end
end
def cD (x:Int):Prop:=-9223372036854775808<=x/\x<=9223372036854775807
instance (x:Int):Decidable (cD x):=by unfold cD;exact inferInstance
def Bp (a b:ByS):Prop:=a.length+b.length<=9223372036854775807
instance (a b:ByS):Decidable (Bp a b):=by unfold Bp;exact inferInstance
def sub (c:ByS) (i j:Int):ByS:=(c.drop i.toNat).take (j.toNat - i.toNat)
def gL (c:ByS) (i:Int):ByS:=c.drop i.toNat
def sI (c:ByS) (j:Int):ByS:=c.take j.toNat
def AV.nz:AV->AV
 | .pv (.sc (.slice none 0 0))=>.pv (.sl 0 [])
 | .pv (.sc (.pointer none))=>.pv (.pt none)
 | v=>v
def AV.V7 (v:AV):v.le v.nz:=by
 unfold AV.nz;split
 ·exact AV.le_nil
 ·exact AV.aiS
 exact iz _
def AV.V8:List AV->List AV
 | []=>[]
 | v::vs=>v.nz::V8 vs
def AV.V9:∀ l:List AV,F2 l (AV.V8 l)
 | []=>.nil
 | v::l=>.cons (AV.V7 v) (AV.V9 l)
def tj:=@AV.V9
section
variable {P:Program} {l:List (Nat×AV)} {ds:List (FuncId×List AV)} {s:List (Nat×cV)}
variable {cs:List AV} {v:AV} {lO:List AV}
def Qr {parts:List (Nat×Operand)} {pl:List (Nat×Nat)} {pv:List (Nat×AV)} {out out':List AV} [ht:lT P t z pl] (hp:parts.mapM (λp=>(bU l p.2).map λv=>(p.1,v))=some pv) (h:nW pl (z.map λv=>.pv (.sc v)) pv=some out) (hn:AV.V8 out=out'):na P (.build t parts.toArray) l ds s (.agg out') []:=by
 subst hn;exact (GM hp h).Mv (AV.KF (tj out))
end
class S' (P:Program) (t:TypeId):Prop where h:(P.underlying t).map Z3=some false:=by kernel_rfl
section
variable {P:Program} {l:List (Nat×AV)} {ds:List (FuncId×List AV)} {s:List (Nat×cV)}
variable {f:Nat} {cs:List AV} {v:AV} {lO:List AV}
def T' [hd:T P t f d] (ha:∀ fields fd,P.underlying t=some (.struct fields)->fields[f]?=some fd->AN P fd.type=some false) (hx:bU l x=some (.agg cs)) (hv:cs[d]?=some v):na P (.field t x f) l ds s v []:=by
 have h:=hd.h;unfold tfo at h;split at h
 ·rename_i fs hu;split at h
  ·rename_i fd hf;split at h
   ·cases h;exact .of (Ox hu hf rfl (ha _ _ hu hf) kp hv)
   cases h
  cases h
 cases h
def aiX [ht:S' P t] (hx:bU l x=some v):na P (.makeInterface t x) l ds s (.vV t v) []:=by
 have h:=ht.h;cases hu:P.underlying t with
 | none=>simp[hu] at h
 | some d=>simp[hu] at h;exact .of (Ow hu h kp)
def KS {f:FuncId} {a b:List Operand} {va vb:List AV} (ha:zU l a=some va) (hb:zU l b=some vb):na P (.makeFunc (.func f) a.toArray b.toArray) l ds s (.fn f va vb) []:=
 .of (by have:=QR (P:=P) (fr:=cA l ds) (f:=f) (a:=a) (b:=b);rw[C7 ha,C7 hb] at this;exact this)
end
section
variable {P:Program} {Q:gJ} {l:List (Nat×AV)} {ds:List (FuncId×List AV)} {s:List (Nat×cV)}
 {ty:TypeId} {pos:String} {af:Array Edge}
variable {cs lO:List AV} {v:AV}
def Wa {g:Gh} {w:World} {k:Nat} (h:F2 cs lO) (he:rC g w k (.box cs)):rC g w k (.box lO):=by
 cases he with|box h1 h2 h3 h4=>exact .box h1 h2 (h.vrs h3) h4
def Wb {j:Nat} (hj:dJ s j=some (.box cs)) (hl:F2 cs lO):mM E n l ds s l ((j,.box lO)::s):=λg a w hR hF=>by
 refine ⟨g,?_,hF⟩;have S5:=fK hj;have he:∀ i e,bW ((j,.box lO)::s) i=some e->(bW s i).isSome=true/\(i≠j->bW s i=some e):=λi e h=>by
  exact aif
 have hs:∀ i,(bW ((j,.box lO)::s) i).isSome=true->(bW s i).isSome=true:=λi h=>by
  cases q:bW ((j,.box lO)::s) i with
  | none=>rw[q] at h;cases h
  | some e=>exact (he i e q).1
 exact {
  sv:=λi e h=>by
   by_cases q:i=j
   ·subst q;have:e=.box lO:=by simpa[bW,vh] using h.symm
    subst this;exact Wa hl (hR.sv i _ S5)
   exact hR.sv i e ((he i e h).2 q)
  inj:=λi i' b h h'=>hR.inj i i' b (hs i h) (hs i' h')
  gl:=hR.gl
  apart:=λi b e h Cw hb=>by
   exact ahX
  size:=hR.size,yV:=hR.yV,own:=λi b h=>hR.own i b (hs i h),fix:=hR.fix,qq:=hR.qq,g0:=hR.g0,gn:=hR.gn,os:=hR.os,out:=hR.out,tape:=hR.tape
  x:=hR.x.F0 rfl rfl (λi b hi hb=>⟨i,hs i hi,hb,.inl rfl⟩) (λi b e' _ hi=>by
   by_cases q:i=j
   ·subst q;exact Zu
   exact ⟨e',(he i _ hi).2 q,id⟩) }
def Dc (j:Nat) (hj:dJ s j=some (.box cs)) (hn:AV.V8 cs=lO):mM E n l ds s l ((j,.box lO)::s):=by subst hn;exact Wb hj (tj cs)
def XJ [hz:ru P t z] {zs:List AV} (nm:Nat) (hE:E.fix nm=none) (h:AV.V8 (z.map (λv=>AV.pv (.sc v)))=zs/\mW nm l=false/\ko nm ds=false/\qb nm s=false) (hd:Nat.blt d n=true) (hn:SL P E n ops Q rest (cA ((d,.ptr nm 0)::l) ds) (bW ((nm,.box zs)::(nm,.box (z.map (λv=>AV.pv (.sc v))))::s))) :
  SL P E n ops Q (⟨some d,.alloc t,ty,pos,af,none⟩::rest) (cA l ds) (bW s):=
 lY nm hE ⟨rfl,h.2⟩ hd (lX (Dc nm (by simp[dJ]) h.1) hn)
def ae7 (p:sX) (hx:bU l x=some p.av) (hq:Q (.panic p.av) (cA l ds) (bW s)):SL P E n ops Q (⟨none,.panic x,ty,pos,af,none⟩::rest) (cA l ds) (bW s):=
 rn rfl (TL rfl kp hq)
end
def quiet (ops:Array Oper) (i:Nat):List Rec->Bool
 | []=>true
 | r::rs=>(match r.rd with|[]=>true|_=>ye ops ops.size i r.i)&&quiet ops i rs
def kW {ops:Array Oper} {i:Nat} {s':List (Nat×cV)} {bk:List Rec} (h:quiet ops i bk=true):qR ops i s' bk:=by
 induction bk with
 | nil=>intro r hr;simp[mK] at hr
 | cons a rs ih=>
  simp only[quiet,bm] at h
  intro r hr p hp
  simp only[mK,ij,fD] at hr
  rcases cb.1 hr.1 with q|q
  ·subst q;have h1:=h.1;split at h1
   ·rename_i h0;rw[h0] at hp;cases hp
   rw[hr.2] at h1;cases h1
  ·exact ih h.2 r (by simp[mK,q,hr.2]) p hp
def tff (P:Program) (s:TypeId) (f:Nat):Option Bool:=
 match P.underlying s with
 | some (.struct fs)=>match fs[f]? with
  | some fd=>AN P fd.type
  | none=>none
 | _=>none
class Tff (P:Program) (t:TypeId) (f:Nat) (b:outParam Bool):Prop where h:tff P t f=some b:=by kernel_rfl
section
variable {P:Program} {l:List (Nat×AV)} {ds:List (FuncId×List AV)} {s:List (Nat×cV)}
def OK {x:Operand} {f:Nat} {cs:List AV} {v:AV} [hd:T P t f d] [hb:Tff P t f false] (hx:bU l x=some (.agg cs)) (hv:cs[d]?=some v):na P (.field t x f) l ds s v []:=
 T' (λfields fd hu hf=>by have:=hb.h;simp only[tff,hu,hf] at this;exact this) hx hv
end
section
variable {P:Program} {Q:gJ} {l:List (Nat×AV)} {ds:List (FuncId×List AV)} {s:List (Nat×cV)}
 {ty:TypeId} {pos:String} {af:Array Edge}
def KT {α:Type} {C:α->List PV} {Cs:List α->List PV} (xs:List α) (yT:∀ l,Cs l=l.flatMap C) {e:TypeId} {m sz:Nat} {parts:List (Nat×Operand)} {zs:List Value} {pl:List (Nat×Nat)} {pv:List (Nat×AV)} [ht:nQ P t m e sz zs pl] (h:parts.mapM (λp=>(bU l p.2).map λv=>(p.1,v))=some pv/\nW pl (zs.map λv=>.pv (.sc v)) pv=some ((xs.flatMap C).map .pv)) (hd:Nat.blt d n=true) (hn:SL P E n ops Q rest (cA ((d,.pv (.sl m (Cs xs)))::l) ds) (bW s)):SL P E n ops Q (⟨some d,.buildSlice t m parts.toArray,ty,pos,af,none⟩::rest) (cA l ds) (bW s):=
 adq h hd (by rw[<- yT];exact hn)
end
section
def GN (E:Env) (n:Nat) (ds:List (FuncId×List AV)) (Q:gJ):gJ
 | .normal,fr,σ=>∃ l s l' s',fr=cA l ds/\σ=bW s/\mM E n l ds s l' s'/\Q .normal (cA l' ds) (bW s')
 | e,fr,σ=>Q e fr σ
section
variable {P:Program} {Q:gJ} {l:List (Nat×AV)} {ds:List (FuncId×List AV)} {s:List (Nat×cV)}
variable {g:Gh} {C:α->List PV} {Cs:List α->List PV} {xs ys:List α} {cs lO:List AV}
def LQ.gn {e:Exit} {a:Act} (h:LQ E n (GN E n ds Q) e a w):LQ E n Q e a w:=by
 obtain ⟨g,ae,fr,σ,q,hx,hR,hF⟩:=h;cases hx with
 | normal=>
  obtain ⟨l,s,l',s',rfl,rfl,hg,hq⟩:=q
  obtain ⟨g',lq,tt⟩:=hg g a w hR hF
  exact ⟨g',_,_,_,hq,.normal,lq,tt⟩
 | exit id=>exact ⟨g,_,_,_,q,.exit id,hR,hF⟩
 | goto id=>exact ⟨g,_,_,_,q,.goto id,hR,hF⟩
 | ret=>exact ⟨g,_,_,_,q,.ret,hR,hF⟩
 | panic hv=>exact ⟨g,_,_,_,q,.panic hv,hR,hF⟩
def Wc {fr:k9} {σ:fC} (ds:List (FuncId×List AV)) (h:SW P E n c (GN E n ds Q) fr σ):SW P E n c Q fr σ:=λg a w hR hF=>wp_mono (h g a w hR hF) λ_ _ _ q=>q.gn
variable {l':List (Nat×AV)} {s':List (Nat×cV)}
def mM.trans {l1 l2:List (Nat×AV)} {s1 s2:List (Nat×cV)} (h:mM E n l ds s l1 s1) (h':mM E n l1 ds s1 l2 s2):mM E n l ds s l2 s2:=λg a w hR hF=>
 let ⟨g',lq,tt⟩:=h g a w hR hF;h' g' a w lq tt
def mM.QO (l':List (Nat×AV)) (s':List (Nat×cV)) (h1:DO l l' l') (h2:F7 s s' s'):mM E n l ds s l' s':=λg _ _ hR hF=>
 ⟨g,hR.sub (OF (Di h2)),hF.Mv (OE (AU h1))⟩
def xj (nm k:Nat):Nat->Nat:=λj=>match Nat.beq j nm with
 | true=>k
 | false=>j
def XK (nm k:Nat) (l:List (Nat×AV)):List (Nat×AV)->Prop
 | []=>True
 | (i,v')::F=>(∃ v,mL l i=some v/\v.jh k=false/\v.mh (xj nm k)=v')/\XK nm k l F
def XL (nm k:Nat) (s:List (Nat×cV)):List (Nat×cV)->Prop
 | []=>True
 | (i,e')::F=>(∃ e,dJ s i=some e/\e.mq k=false/\e.mh (xj nm k)=e'/\Nat.beq i nm=false/\Nat.beq i k=false)/\XL nm k s F
def JG (nm k:Nat):xj nm k nm=k:=by simp[xj]
def Wd (h:j≠nm):xj nm k j=j:=by
 unfold xj;split
 ·rename_i q;exact ao (lg q) h
 rfl
mutual
def VR.xj {g:Gh} {nm k:Nat}:∀ {v:AV} {c:Value},v.jh k=false->VR g v c->VR (g.alias k nm) (v.mh (xj nm k)) c
 | .any,_,_,_=>.any _
 | .oc,_,_,h=>by cases h with|oc h=>exact .oc h
 | .pv _,_,_,h=>by cases h with|pv h=>exact .pv (PR.congr (g:=g) (g':=g.alias k nm) (λ_ _ q=>q) h)
 | .ptr j off,_,hm,h=>by
  have hj:j≠k:=by simpa[AV.jh] using hm
  cases h with|ptr _ h=>
   by_cases q:j=nm
   ·subst q;simp only[AV.mh,JG];exact .ptr off (by simp[Gh.alias,h])
   ·simp only[AV.mh,Wd q];exact .ptr off (by simp[Gh.alias,hj,h])
 | .arr j m,_,hm,h=>by
  have hj:j≠k:=by simpa[AV.jh] using hm
  by_cases q:j=nm
  ·subst q;simp only[AV.mh,JG];have e1:(g.alias k j).ρ k=g.ρ j:=by simp[Gh.alias]
   have e2:(g.alias k j).cp k=g.cp j:=by simp[Gh.alias]
   cases h with
   | arr _ h=>rw[<- e2];exact .arr m (e1.trans h)
   | Bm h=>exact .Bm (e1.trans h)
  simp only[AV.mh,Wd q];have e1:(g.alias k nm).ρ j=g.ρ j:=by simp[Gh.alias,hj]
  have e2:(g.alias k nm).cp j=g.cp j:=by simp[Gh.alias,hj]
  cases h with
  | arr _ h=>rw[<- e2];exact .arr m (e1.trans h)
  | Bm h=>exact .Bm (e1.trans h)
 | .sp _,_,_,h=>by cases h with|sp off h hl hc=>exact .sp off h hl hc
 | .fn f x y,_,hm,h=>by
  simp[AV.jh] at hm;cases h with|fn _ hx hy=>exact .fn f (M.xj hm.1 hx) (M.xj hm.2 hy)
 | .agg x,_,hm,h=>by cases h with|agg h=>exact .agg (M.xj Zz h)
 | .mE x,_,hm,h=>by cases h with|mE h=>exact .mE (M.xj Zz h)
 | .vV t x,_,hm,h=>by cases h with|vV _ h=>exact .vV t (VR.xj Zz h)
def M.xj {g:Gh} {nm k:Nat}:∀ {v:List AV} {c:List Value},AV.jh.kJ k v=false->M g v c->M (g.alias k nm) (AV.mh.ud (xj nm k) v) c
 | [],_,_,h=>by cases h;exact .nil
 | x::xs,_,hm,h=>by
  simp[AV.jh.kJ] at hm;cases h with|cons h t=>exact .cons (VR.xj hm.1 h) (M.xj hm.2 t)
end
def vk.alias {ps:List PV} {vs:List Value} (h:vk g ps vs):vk (g.alias k nm) ps vs:=s5 (g:=g) (g':=g.alias k nm) (λ_ _ q=>q) h
def rC.xj {e:cV} (hj:j≠k) (hm:AV.jh.kJ k e.cells=false) (h:rC g w j e):rC (g.alias k nm) w j (e.mh (xj nm k)):=by
 have e1:(g.alias k nm).ρ j=g.ρ j:=by simp[Gh.alias,hj]
 have e2:(g.alias k nm).cp j=g.cp j:=by simp[Gh.alias,hj]
 cases h with
 | box h hw hc h1=>exact .box (e1.trans h) hw (hc.xj hm) h1
 | Bm h=>exact .Bm (e1.trans h)
 | arr h hw hl hz hx hc=>exact .arr (e1.trans h) hw hl QB Vm hc.alias
 | Jb h=>exact .Jb (e1.trans h)
 | app h hG hw hl hz hx hc=>exact .app (e1.trans h) hG hw hl QB Vm hc.alias
def rC.JG {el:TypeId} (h:rC g w nm (.app el sz cells)):rC (g.alias k nm) w k (.app el sz cells):=by
 have e1:(g.alias k nm).ρ k=g.ρ nm:=by simp[Gh.alias]
 have e2:(g.alias k nm).cp k=g.cp nm:=by simp[Gh.alias]
 cases h with
 | Jb h=>exact .Jb (e1.trans h)
 | app h hG hw hl hz hx hc=>exact .app (e1.trans h) hG hw hl QB Vm hc.alias
def NC {l:List (Nat×AV)}:∀ {F:List (Nat×AV)},XK nm k l F->∀ i,(∃ v,tI l i=v/\v.jh k=false/\tI F i=v.mh (xj nm k))\/tI F i=.any
 | [],_,i=>.inr rfl
 | (j,v')::F,h,i=>by
  obtain ⟨⟨v,h1,h2,h3⟩,ht⟩:=h;simp only[tI];by_cases q:i=j
  ·subst q;rw[aL rfl];exact .inl ⟨v,jY h1,h2,h3.symm⟩
  rw[aE q];exact NC ht i
def ND {s:List (Nat×cV)}:∀ {F:List (Nat×cV)},XL nm k s F->∀ i e',bW F i=some e'->∃ e,bW s i=some e/\AV.jh.kJ k e.cells=false/\e.mh (xj nm k)=e'/\i≠nm/\i≠k
 | [],_,i,e',h=>by cases h
 | (j,v')::F,h,i,e',he=>by
  obtain ⟨⟨e,h1,h2,h3,h4,h5⟩,ht⟩:=h;simp only[bW,vh] at he;by_cases q:i=j
  ·subst q;rw[aL rfl] at he;cases he;exact ⟨e,fK h1,cV.OD h2,h3,λq=>by subst q;simp at h4,λq=>by subst q;simp at h5⟩
  rw[aE q] at he;exact ND ht i e' he
def U' (nm k:Nat) {e0:cV} (he0:∀ g w,rC g w nm e0->rC (g.alias k nm) w k e0) (hnb:∀ cs,e0≠.box cs) (l':List (Nat×AV)) (s':List (Nat×cV)) (hE:E.fix k=none) (hnk:Nat.beq nm k=false) (hk:dJ s nm=some e0)
  (hd:ko nm ds=false/\ko k ds=false) (h1:XK nm k l l') (h2:XL nm k s s'):mM E n l ds s l' ((k,e0)::s'):=λg a w hR hF=>by
 have uB:nm≠k:=λq=>by subst q;simp at hnk
 have xM:=fK hk
 have QX:∀ i e',bW ((k,e0)::s') i=some e'->(i=k/\e'=e0)\/(i≠k/\i≠nm/\∃ e,bW s i=some e/\AV.jh.kJ k e.cells=false/\e.mh (xj nm k)=e'):=λi e' he=>by
  simp only[bW,vh] at he
  by_cases q:i=k
  ·subst q;rw[aL rfl] at he;cases he;exact .inl ⟨rfl,rfl⟩
  ·rw[aE q] at he
   obtain ⟨e,h3,h4,h5,h6,h7⟩:=ND h2 i e' he
   exact .inr ⟨q,h6,e,h3,h4,h5⟩
 have hρk:(g.alias k nm).ρ k=g.ρ nm:=by simp[Gh.alias]
 have hρ:∀ j,j≠k->(g.alias k nm).ρ j=g.ρ j:=λj hj=>by simp[Gh.alias,hj]
 have Jz:∀ j,j≠k->(g.alias k nm).cp j=g.cp j:=λj hj=>by simp[Gh.alias,hj]
 have hold:∀ i,(bW ((k,e0)::s') i).isSome=true->∃ j,(bW s j).isSome=true/\(g.alias k nm).ρ i=g.ρ j/\((i=k/\j=nm)\/(i≠k/\i≠nm/\j=i)):=λi hi=>by
  cases q:bW ((k,e0)::s') i with
  | none=>rw[q] at hi;cases hi
  | some e'=>
   rcases QX i e' q with ⟨rfl,_⟩|⟨q1,q2,e,q3,_⟩
   ·exact ⟨nm,by rw[xM];rfl,hρk,.inl ⟨rfl,rfl⟩⟩
   ·exact ⟨i,by rw[q3];rfl,hρ i q1,.inr ⟨q1,q2,rfl⟩⟩
 refine ⟨g.alias k nm,?_,⟨hF.size,λi=>?_,?_⟩⟩
 ·exact {
      sv:=λi e' h=>by
       rcases QX i e' h with ⟨rfl,rfl⟩|⟨q1,q2,e,q3,q4,rfl⟩
       ·exact he0 _ _ (hR.sv nm _ xM)
       ·exact (hR.sv i e q3).xj q1 q4
      inj:=λi i' b h h' hb x8=>by
       obtain ⟨j,j1,j2,j3⟩:=hold i h
       obtain ⟨j',j1',j2',j3'⟩:=hold i' h'
       have:=hR.inj j j' b j1 j1' (j2▸hb) (j2'▸x8)
       rcases j3 with ⟨rfl,rfl⟩|⟨q1,q2,rfl⟩<;>rcases j3' with ⟨rfl,rfl⟩|⟨q1',q2',rfl⟩
       ·rfl
       ·exact ao this.symm q2'
       ·exact ao this q2
       ·exact this
      gl:=λb ys hb=>by
       obtain ⟨cs,el,fz,h1,h2,h3⟩:=hR.gl b ys hb
       exact ⟨cs,el,fz,h1,h2,h3.alias⟩
      apart:=λi b e' h Cw hb=>by
       rcases QX i e' h with ⟨rfl,rfl⟩|⟨q1,q2,e,q3,q4,rfl⟩
       ·rw[hρk] at hb;exact hR.apart nm b _ xM Cw hb
       ·exact hR.apart i b e q3 (by rw[<- cV.OA (xj nm k) e];exact Cw) (by rw[<- hρ i q1];exact hb)
      size:=hR.size,yV:=hR.yV
      own:=λi b h hb=>by
       obtain ⟨j,j1,j2,_⟩:=hold i h
       exact hR.own j b j1 (j2▸hb)
      fix:=λi b h=>by
       have q:i≠k:=λq=>by subst q;rw[hE] at h;cases h
       rw[hρ i q];exact hR.fix i b h
      qq:=λi b h=>by
       have q:i≠k:=λq=>by subst q;rw[hE] at h;cases h
       rw[Jz i q];exact hR.qq i b h
      g0:=hR.g0,gn:=hR.gn,os:=hR.os,out:=hR.out,tape:=hR.tape
      x:=hR.x.F0 rfl rfl (λi b hi hb=>by
       obtain ⟨j,j1,j2,j3⟩:=hold i hi
       refine ⟨j,j1,j2▸hb,?_⟩
       rcases j3 with ⟨_,rfl⟩|⟨_,_,rfl⟩
       ·exact .inr ⟨_,xM,hnb⟩
       ·exact .inl rfl) (λi b e' hfi hi=>by
       rcases QX i _ hi with ⟨rfl,q⟩|⟨q1,q2,e,q3,q4,q5⟩
       ·rw[hE] at hfi;cases hfi
       ·refine ⟨e,q3,λ⟨c,q⟩=>?_⟩
        subst q;exact ⟨_,q5.symm⟩) }
 ·have hsl:=hF.pA i
  rcases NC h1 i with ⟨v,q1,q2,q3⟩|q
  ·simp only[cA] at hsl ⊢
   rw[q3];rw[q1] at hsl;exact hsl.xj q2
  ·simp only[cA];rw[q];exact .any _
 ·refine hF.ds.le (xf.alias g k nm) λj q p hp=>?_
  subst q;exact Gt hd.2 p hp
def Rg (nm k:Nat) {el:TypeId} (l':List (Nat×AV)) (s':List (Nat×cV)) (hE:E.fix k=none) (hnk:Nat.beq nm k=false) (hk:dJ s nm=some (.app el sz cells)) (hd:ko nm ds=false/\ko k ds=false) (h1:XK nm k l l') (h2:XL nm k s s'):mM E n l ds s l' ((k,.app el sz cells)::s'):=
 U' nm k (λ_ _ h=>h.JG) QJ l' s' hE hnk hk hd h1 h2
def rC.X' {el:TypeId} (h:rC g w nm (.arr el sz cells)):rC (g.alias k nm) w k (.arr el sz cells):=by
 have e1:(g.alias k nm).ρ k=g.ρ nm:=by simp[Gh.alias]
 have e2:(g.alias k nm).cp k=g.cp nm:=by simp[Gh.alias]
 cases h with
 | Bm h=>exact .Bm (e1.trans h)
 | arr h hw hl hz hx hc=>exact .arr (e1.trans h) hw hl QB Vm hc.alias
def Y' (nm k:Nat) {el:TypeId} (l':List (Nat×AV)) (s':List (Nat×cV)) (hE:E.fix k=none) (hnk:Nat.beq nm k=false) (hk:dJ s nm=some (.arr el sz cells)) (hd:ko nm ds=false/\ko k ds=false) (h1:XK nm k l l') (h2:XL nm k s s'):mM E n l ds s l' ((k,.arr el sz cells)::s'):=
 U' nm k (λ_ _ h=>h.X') QJ l' s' hE hnk hk hd h1 h2
end
def nP (bytes a b:Nat):Prop:=(a+b)*bytes<=140737488355328/\a+b<=maxLen
instance (bytes a b:Nat):Decidable (nP bytes a b):=by unfold nP;exact inferInstance
def Rh:∀ {a b:List PV},PV.p9 a=true->PV.p9 b=true->PV.p9 (a++b)=true
 | [],_,_,h=>h
 | x::a,b,h,h'=>by simp[PV.p9] at h ⊢;exact ⟨h.1,Rh h.2 h'⟩
variable {C:α->List PV} {g:Gh} {Cs:List α->List PV} {xs ys:List α} {cs lO:List AV}
def M1 (hC:∀ x,PV.p9 (C x)=true):∀ l:List α,PV.p9 (l.flatMap C)=true
 | []=>rfl
 | x::l=>by rw[fE];exact Rh (hC x) (M1 hC l)
section
variable {P:Program} {Q:gJ} {l:List (Nat×AV)} {ds:List (FuncId×List AV)} {s:List (Nat×cV)}
 {ty:TypeId} {pos:String} {af:Array Edge}
structure NF (P:Program) (E:Env) (l:List (Nat×AV)) (ds:List (FuncId×List AV)) (s:List (Nat×cV)) {α:Type} (C:α->List PV) (Cs:List α->List PV) (t e:TypeId) (sz bytes k nm:Nat) (a x:Operand) (xs ys:List α):Prop where
 hT:P.underlying t=some (.slice e)
 hB:Df P e=some (sz,bytes)
 yT:∀ l,Cs l=l.flatMap C
 hL:∀ x,(C x).length=sz
 h1:∀ x,PV.p9 (C x)=true
 hE:E.fix nm=none
 hs:bU l a=some (.arr k xs.length)
 hk:dJ s k=some (.app e sz (Cs xs))
 hx:bU l x=some (.pv (.sl ys.length (Cs ys)))\/(ys=[]/\bU l x=some (nSl))
 hm:mW nm l=false/\ko nm ds=false/\EH nm [k] s=false
 hg:nP bytes xs.length ys.length
def NF.srp (h:NF P E l ds s C Cs t e sz bytes k nm a x xs ys) :
  ĸ sz ((cA l ds).val x) ys.length (Cs ys):=by
 exact ail
def NF.clr (h:NF P E l ds s C Cs t e sz bytes k nm a x xs ys) :
  ((bW s).del k).clear nm:=by
 exact ah8
def OL (nm:Nat) (h:NF P E l ds s C Cs t e sz bytes k nm a x xs ys) (hd:Nat.blt d n=true) (hn:SL P E n ops Q rest (cA ((d,.arr nm (List.length (xs++ys)))::l) ds) (bW ((nm,.app e sz (Cs (xs++ys)))::ug k s))) :
  SL P E n ops Q (⟨some d,.call ⟨.builtin .append,#[a,x],#[t,t]⟩,ty,pos,af,none⟩::rest) (cA l ds) (bW s):=by
 refine rn rfl (Hc (nm:=nm) rfl h.hT h.hB (dX h.hs) M5 Qv h.srp ŧ U1 h.clr h.hE h.hg.1 h.hg.2 B3 ?_)
 rw[<- BK,<- eb,show Cs xs++Cs ys=Cs (xs++ys) by rw[h.yT,h.yT,h.yT,rm]];exact hn
def aap {el:TypeId} (yT:∀ l,Cs l=l.flatMap C) (hC:∀ x,(C x).length=sz) (hz:Nat.blt 0 sz=true) (hd:mL l d=some (.arr k xs.length)) (hk:dJ s k=some (.app el sz (Cs xs))) :
 mM E n l ds s ((d,.pv (.sl xs.length (Cs xs)))::l) s:=ae5 hd hk hz Vc
def Z' {el:TypeId} (yT:∀ l,Cs l=l.flatMap C) (hC:∀ x,(C x).length=sz) (hz:Nat.blt 0 sz=true) (hj:dJ s j=some (.box cs)) (hc:cs[off]?=some (.arr k xs.length)) (hk:dJ s k=some (.app el sz (Cs xs))) (xJ:cs.set off (.pv (.sl xs.length (Cs xs)))=lO):mM E n l ds s l ((j,.box lO)::s):=by
 subst xJ;exact aao hj hc hk hz Vc
def aaq {el:TypeId} (yT:∀ l,Cs l=l.flatMap C) (hC:∀ x,(C x).length=sz) (hz:Nat.blt 0 sz=true) (hx:bU l x=some (.arr k xs.length)) (hk:dJ s k=some (.app el sz (Cs xs))) :
 na P (.move x) l ds s (.pv (.sl xs.length (Cs xs))) [(k,.app el sz (Cs xs))]:=aeX hx hk hz Vc
def HO {el:TypeId} {e:cV} [ha:oM P t false] (yT:∀ l,Cs l=l.flatMap C) (hC:∀ x,(C x).length=sz) (hz:Nat.blt 0 sz=true) (hx:bU l x=some (.ptr k off)) (hk:dJ s k=some e) (hv:e.cells[off]?=some (.arr j xs.length)) (hj:dJ s j=some (.app el sz (Cs xs))) :
 na P (.load t x) l ds s (.pv (.sl xs.length (Cs xs))) [(k,e),(j,.app el sz (Cs xs))]:=I' hx hk hv hj hz Vc
variable {v:AV}
def We (hd:mL l d=some v) {v':AV} (hv:v.nz=v'):mM E n l ds s ((d,v')::l) s:=λg a w hR hF=>by
 subst hv;refine ⟨g,hR,hF.size,λi=>?_,hF.ds⟩;have h:=hF.pA i;by_cases q:i=d
 ·subst q;simp only[cA,tI,if_true];simp only[cA,jY hd] at h;exact AV.V7 v g _ h
 simpa[cA,tI,q] using h
def AV.TQ (v:AV):v.le .any:=λ_ _ _=>.any _
def Wf:∀ (cs:List AV) (off:Nat),F2 cs (cs.set off .any)
 | [],_=>.nil
 | c::cs,0=>.cons (AV.TQ c) (KU cs)
 | c::cs,off+1=>.cons (iz c) (Wf cs off)
where KU:∀ cs:List AV,F2 cs cs
 | []=>.nil
 | c::cs=>.cons (iz c) (KU cs)
def Wg:∀ (cs:List AV) (off:Nat) (v:AV),cs[off]?=some v->F2 cs (cs.set off v.nz)
 | [],_,_,h=>by simp at h
 | c::cs,0,v,h=>by simp at h;subst h;exact .cons (AV.V7 c) (Wf.KU cs)
 | c::cs,off+1,v,h=>.cons (iz c) (Wg cs off v jg)
def adt (j off:Nat) (hj:dJ s j=some (.box cs)) (hv:cs[off]?=some v) (hn:cs.set off v.nz=lO):mM E n l ds s l ((j,.box lO)::s):=by subst hn;exact Wb hj (Wg cs off v hv)
end
section
variable {P:Program} {Q:gJ} {B:List Rec->k9->fC->Prop} {L:List Nat} {bk:List Rec} {l:List (Nat×AV)} {ds:List (FuncId×List AV)} {s:List (Nat×cV)}
 {ty:TypeId} {pos:String} {af:Array Edge}
variable {l':List (Nat×AV)} {s':List (Nat×cV)}
def Wh (hg:mM E n l ds s l' s') (h:Q .normal (cA l' ds) (bW s')):DW P E n ops (GN E n ds Q) [] bk (cA l ds) (bW s):=⟨l,s,l',s',rfl,rfl,hg,h⟩
def OM (xs:List α) (yT:∀ l,Cs l=l.flatMap C) {m:Nat} {parts:List (Nat×Operand)} {zs:List Value} {pl:List (Nat×Nat)} {pv:List (Nat×AV)} {gd:Option (Nat×Bool)} [ht:nQ P t m e sz zs pl] (ho:ops[i]?=some ⟨some d,.buildSlice t m parts.toArray,ty,pos,af,gd⟩) (hw:oL ops ⟨some d,.buildSlice t m parts.toArray,ty,pos,af,gd⟩ (cA l ds)) (h:parts.mapM (λp=>(bU l p.2).map λv=>(p.1,v))=some pv/\nW pl (zs.map λv=>.pv (.sc v)) pv=some ((xs.flatMap C).map .pv)) (hc:fO ⟨some d,.buildSlice t m parts.toArray,ty,pos,af,gd⟩=false/\Nat.blt d n=true) (hn:pq P E n ops Q B L (⟨i,some d,[],none⟩::bk) (cA ((d,.pv (.sl m (Cs xs)))::l) ds) (bW s)):pq P E n ops Q B (i::L) bk (cA l ds) (bW s):=by
 refine ⟨_,ho,.fz hw hc.1 (v:=.pv (.sl m (Cs xs))) ?_ (Ob hc.2) (λ_ _ _ _=>rfl) hn⟩;rw[yT];refine B6 ht.h ?_;rw[CH h.1];exact h.2
def ε {gd:Option (Nat×Bool)} (nm:Nat) (ho:ops[i]?=some ⟨some d,.call ⟨.builtin .append,#[a,x],#[t,t]⟩,ty,pos,af,gd⟩) (hw:oL ops ⟨some d,.call ⟨.builtin .append,#[a,x],#[t,t]⟩,ty,pos,af,gd⟩ (cA l ds)) (h:NF P E l ds s C Cs t e sz bytes k nm a x xs ys) (hd:Nat.blt d n=true) (pL:nX bk=true) (hn:qR ops i ((nm,.app e sz (Cs (xs++ys)))::ug k s) bk/\pq P E n ops Q B L bk (cA ((d,.arr nm (List.length (xs++ys)))::l) ds) (bW ((nm,.app e sz (Cs (xs++ys)))::ug k s))) :
  pq P E n ops Q B (i::L) bk (cA l ds) (bW s):=by
 refine ⟨_,ho,.fO hw rfl (.append (nm:=nm) rfl h.hT h.hB (dX h.hs) M5 Qv h.srp ŧ U1 h.clr h.hE h.hg.1 h.hg.2 B3 ?_)
  Y8⟩
 have e1:((bW s).del k).set nm (.app e sz (Cs xs++Cs ys))=bW ((nm,.app e sz (Cs (xs++ys)))::ug k s):=by
  rw[<- BK,show Cs xs++Cs ys=Cs (xs++ys) by rw[h.yT,h.yT,h.yT,rm]];rfl
 rw[e1,<- eb]
 exact ad7
end
end
section
def cV.lost:cV->cV
 | .box cs=>.box (cs.map λ_=>.any)
 | e=>e
def qp:List cV->Bool
 | []=>true
 | .box _::es=>qp es
 | _::_=>false
def Wi (g:Gh):∀ {cells:List AV} {vs:List Value},cells.length=vs.length->M g (cells.map λ_=>AV.any) vs
 | [],[],_=>.nil
 | _::cells,v::vs,h=>.cons (.any v) (Wi g jg)
 | [],_::_,h=>by simp at h
 | _::_,[],h=>by simp at h
variable {g:Gh} {f:FuncId} {args:List AV} {es:List cV} {X:Type} {V:X->AV} {C:X->List cV} {ks:List Nat} {kC:FuncId} {cap:List AV} {R:G7->fC->Prop} {res:aI X} {T:TypeId} {FH:List AV}
def Rel.lost {wS:World} {g':Gh} {σ':fC} {w w':World} (h0:Rel (Env.of wS g σ w) g σ w) (hb:∀ k e,σ k=some e->∃ cs,e=.box cs) (h:Rel (Env.of wS g σ w) g' σ' w') :
   Rel (Env.of wS g σ w) g' (λk=>(σ k).map cV.lost) w':=by
 have key:∀ k e,(σ k).map cV.lost=some e->∃ cs b,σ k=some (.box cs)/\e=.box (cs.map λ_=>.any)/\g.ρ k=some b/\g'.ρ k=some b/\(Env.of wS g σ w).fix k=some b:=λk e he=>by
   cases q:σ k with
   | none=>rw[q] at he;cases he
   | some e0=>
     rw[q] at he
     obtain ⟨cs,rfl⟩:=hb k e0 q
     have Md:e=.box (cs.map λ_=>.any):=by simpa[cV.lost] using he.symm
     cases h0.sv k _ q with
     | box h1 h2 h3=>
       rename_i b _ _ _
       have hf:(Env.of wS g σ w).fix k=some b:=by simp only[Env.of,q];exact h1
       exact ⟨cs,b,rfl,Md,h1,h.fix k b hf,hf⟩
 have xM:∀ k,((σ k).map cV.lost).isSome=true->∃ e,(σ k).map cV.lost=some e:=λk hk=>by
   cases q:(σ k).map cV.lost with
   | none=>rw[q] at hk;cases hk
   | some e=>exact ⟨e,rfl⟩
 exact {
         sv:=λk e he=>by
           obtain ⟨cs,b,h1,rfl,h3,h4,h5⟩:=key k e he
           cases h0.sv k _ h1 with
           | box h6 h7 h8 If=>
             rw[h3] at h6;cases h6
             obtain ⟨lO,h9,xd⟩:=h.x.IL b _ _ _ h7
             obtain ⟨cs'',IW,JH⟩:=h.x.flat k b _ _ _ h5 h7 If
             rw[h9] at IW;cases IW
             refine .box h4 h9 (Wi g' ?_) JH
             rw[h8.length];simp[xd]
         inj:=λk k' b hk F1 hb x8=>by
           obtain ⟨e,he⟩:=xM k hk
           obtain ⟨e',Md⟩:=xM k' F1
           obtain ⟨cs,c,h1,_,h3,h4,_⟩:=key k e he
           obtain ⟨lO,c',h1',_,h3',h4',_⟩:=key k' e' Md
           rw[h4] at hb;cases hb
           rw[h4'] at x8;cases x8
           exact h0.inj k k' _ QG (by rw[h1'];rfl) h3 h3'
         gl:=h.gl
         apart:=λk b e he _ hb=>by
           obtain ⟨cs,c,h1,_,h3,h4,h5⟩:=key k e he
           rw[h4] at hb;cases hb
           exact h.x.xQ k _ h5
         size:=h.size,yV:=h.yV
         own:=λk b hk hb=>by
           obtain ⟨e,he⟩:=xM k hk
           obtain ⟨cs,c,h1,_,h3,h4,_⟩:=key k e he
           rw[h4] at hb;cases hb
           exact .inl ⟨k,QG,h3⟩
         fix:=h.fix,qq:=h.qq,g0:=h.g0,gn:=h.gn,os:=h.os,out:=h.out,tape:=h.tape
         x:={
                IL:=h.x.IL,flat:=h.x.flat,set:=h.x.set,HX:=h.x.HX
                hi:=λk b hk hb=>by
                  obtain ⟨e,he⟩:=xM k hk
                  obtain ⟨cs,c,h1,_,h3,h4,_⟩:=key k e he
                  rw[h4] at hb;cases hb
                  exact h0.x.hi k b QG h3
                gf:=h.x.gf
                xg:=h.x.xg,xQ:=h.x.xQ
                xh:=λk b k' hf hk hb=>by
                  obtain ⟨e,he⟩:=xM k' hk
                  obtain ⟨cs,c,h1,_,h3,h4,h5⟩:=key k' e he
                  rw[h4] at hb;cases hb
                  have h6:=h.fix k _ hf
                  simp only[Env.of] at hf
                  split at hf
                  · rename_i IN hc
                    exact h0.inj k' k _ QG M7 h3 hf
                  · cases hf
                xi:=λk b e hf hk=>by
                  obtain ⟨cs,c,h1,h2,_⟩:=key k _ hk
                  exact ⟨_,h2⟩ } }
def ala {X:Type} (V:X->AV) (C:X->List cV) (G:X->Prop) (H:AV->Prop) (es:List cV):G7->fC->Prop:=
 λae σ=>(∃ x,G x/\ae=.ret (V x)/\σ=bW (gK 0 (C x)))\/(∃ v,H v/\ae=.panic v/\σ=bW (gK 0 (es.map cV.lost)))
def Ri:∀ {es:List cV} {i:Nat},bW (gK i (es.map cV.lost))=λk=>(bW (gK i es) k).map cV.lost
 | [],i=>by funext k;rfl
 | e::es,i=>by
  funext k;have ih:=congrFun (Ri (es:=es) (i:=i+1)) k;simp only[kv,gK,bW,vh] at ih ⊢;split
  ·rfl
  exact ih
def KV:∀ {es:List cV},qp es=true->∀ {j:Nat} {e:cV},es[j]?=some e->∃ cs,e=.box cs
 | [],_,j,e,h=>by simp at h
 | .box cs::es,h,0,e,he=>by simp at he;exact ⟨cs,he.symm⟩
 | .box cs::es,h,j+1,e,he=>KV (es:=es) U8 DN
 | .arr _ _ _::es,h,_,_,_=>by simp[qp] at h
 | .app _ _ _::es,h,_,_,_=>by simp[qp] at h
variable {G:X->Prop} {H:AV->Prop}
def SC.lost {P:Program} (hb:qp es=true) (h:SC P f args (bW (gK 0 es)) (zh V C G H)) :
  SC P f args (bW (gK 0 es)) (ala V C G H es):=λwS g w vs hR hv=>(h wS g w vs hR hv).mono λe w' ⟨g',ae,σ',q,hE,lq⟩=>by
 rcases q with q|⟨v,hH,rfl,rfl⟩
 ·exact ⟨g',ae,σ',.inl q,hE,lq⟩
 ·refine ⟨g',_,bW (gK 0 (es.map cV.lost)),.inr ⟨v,hH,rfl,rfl⟩,hE,?_⟩
  rw[Ri]
  exact hR.lost (λk e hk=>by
   obtain ⟨_,h2⟩:=pQ hk
   exact KV hb h2) lq
section
variable {P:Program} {Q:gJ} {l:List (Nat×AV)} {ds:List (FuncId×List AV)} {s:List (Nat×cV)}
def EK (m:Nat):(List.range m).contains=below m:=by
 funext j;have h1:(List.range m).contains j=decide (j<m):=by
  by_cases q:j<m<;>simp[q]
 rw[h1];simp only[below];by_cases q:j<m
 ·simp[q,BD.2 q]
 have:Nat.blt j m=false:=by
  cases h:Nat.blt j m with
  | false=>rfl
  | true=>exact ao (BD.1 h) q
 simp[q,this]
variable {cs:List cV}
def AW (hnd:nodupB ks=true) (h1:cs.length=ks.length) :
  after (bW s) (nth ks) (List.range ks.length) (List.range ks.length) (bW (gK 0 cs))=bW (tK ks (qd (nth ks) cs)++s):=by
 funext k
 rw[OJ Ve hnd]
 simp only[after]
 cases hf:(List.range ks.length).find? (λj=>nth ks j==k) with
 | some j=>
  have hj:=fo hf
  simp at hj
  simp only[G1]
  have:j<cs.length:=by omega
  rw[az this]
  have h6:=AJ (i:=0) (az this)
  simp at h6
  rw[h6]
 | none=>
  exact aep
def C8 {j:Nat} (hj:(bW (gK 0 es) j).isSome=true):j<es.length:=by
 cases q:bW (gK 0 es) j with
 | none=>rw[q] at hj;cases hj
 | some e=>
  obtain ⟨_,h2⟩:=pQ q
  have:=(an.1 h2).1
  simpa using this
def Ig (p:Nat->Bool):∀ {es:List cV},qp es=true->qe p (es.map cV.lost)=true
 | [],_=>rfl
 | .box cs::es,h=>by
  simp only[kv,qe,cV.lost,cV.oq,bm];refine ⟨?_,Ig p U8⟩;have:∀ cs:List AV,AV.only.tz p (cs.map λ_=>AV.any)=true:=λcs=>by
   induction cs with
   | nil=>rfl
   | cons c cs ih=>simp[AV.only.tz,AV.only,ih]
  exact this cs
 | .arr _ _ _::_,h=>by simp[qp] at h
 | .app _ _ _::_,h=>by simp[qp] at h
variable {v:AV}
def CI (hfr:fr.s=(cA l ds).s/\fr.ds=ds) (hl:es.length=ks.length) (hnd:nodupB ks=true) (hbx:P0 l ds s ks ks es=true) (S8:FG E ks es) (xJ:cs.length=ks.length) (ho:qe (below ks.length) cs=true) (hv:v.only (below ks.length)=true) :
  Jh E fr (bW s) (nth ks) (List.range ks.length) (List.range ks.length) (bW (gK 0 es)) (bW (gK 0 cs)) v:=by
 have hfr':fr=cA l ds:=by cases fr;simp only[cA] at hfr ⊢;rw[hfr.1,hfr.2]
 subst hfr'
 refine { dom:=λj e hj=>?_,val:=by rw[EK];exact hv,inj:=λj j' hj zT he=>Bw hnd BA Vu he,same:=λj hj=>?_ }
 ·obtain ⟨_,h4⟩:=pQ hj
  have h5:=(an.1 h4).1
  exact ⟨qI,by rw[EK];exact G3 ho h4⟩
 ·have zT:j<es.length:=by simp at hj;omega
  rcases Oh hbx S8 BA (az zT) with ⟨cs,xJ⟩|⟨q1,q2,q3,q4⟩
  ·exact .inl ⟨cs,by have:=AJ (i:=0) (az zT);rw[xJ] at this;simpa using this⟩
  ·exact .inr ⟨uA q1 q2,λk e hkl he=>Dd q3 k e (Vv hkl) he,q4⟩
variable {fS first vs:List AV}
def TR {f:Operand} {args:List Operand} (ks:List Nat) (wu:Enters P kC) (ho:o.op=.call ⟨.value f,args.toArray,ts⟩) (hC:SC P kC fS (bW (gK 0 es)) (zh V C G H)) (hk:vL E ds l s ks f args kC fS es first cap vs) (hbb:qp es=true) (hd:∀ d,o.dst=some d->d<n) (hx:∀ x,G x->(C x).length=ks.length/\qe (below ks.length) (C x)=true/\(V x).only (below ks.length)=true) (oB:∀ x,G x->next ((cA l ds).qv o.dst ((V x).mh (nth ks))) (bW (tK ks (qd (nth ks) (C x))++s))) (wm:∀ v,H v->v.only (λ_=>false)=true/\Q (.panic v) (cA l ds) (bW (tK ks (qd (nth ks) (es.map cV.lost))++s))):Step P E n Q o (cA l ds) (bW s) next:=by
 obtain ⟨hl,Km⟩:=AR hk.gs;rw[sZ] at hl;refine Nu (nth ks) (List.range ks.length) wu ho (dX hk.f) U0 (hC.lost hbb) (λj hj=>by have:=C8 hj;simp;omega) (λj e hj=>?_)
  acx hd (λv σc hr=>?_) (λv σc hr=>?_)
 ·exact ZN
 ·rcases hr with ⟨x,hg,he,rfl⟩|⟨_,_,he,_⟩
  ·cases he;obtain ⟨h1,h2,h3⟩:=hx x hg;exact ⟨List.range ks.length,CI vf hl hk.nd hk.bx hk.fx h1 h2 h3,by rw[AW hk.nd h1];exact oB x hg⟩
  cases he
 rcases hr with ⟨_,_,he,_⟩|⟨v',hh,he,rfl⟩
 ·cases he
 cases he;obtain ⟨h1,h2⟩:=wm v hh;refine ⟨List.range ks.length,CI vf hl hk.nd hk.bx hk.fx (by simp[hl]) (Ig _ hbb) (Fk (λk hk=>by cases hk) h1),?_⟩;rw[AW hk.nd (by simp[hl]),CF h1];exact h2
end
section
variable {P:Program} {Q:gJ}
def ζ (ho:o.op=.defer ⟨.value x,#[],ts⟩) (hx:fr.val x=.fn kC [] cap) (hd:∀ d,o.dst=some d->d<n) (hn:next (k9.qv ⟨fr.s,(kC,cap)::fr.ds⟩ o.dst .any) σ):Step P E n Q o fr σ next:=by
 intro g a w K hR hF hK;have q:=hF.eval x;rw[hx] at q;generalize hq:a.eval x=c at q;cases q with
 | fn _ h1 h2=>
  rename_i xs ys
  have Ml:xs=[]:=by cases h1;rfl
  subst Ml
  have pN:(execOp a.eval o).run P w=.ok (.defer { target:=.fn (.func kC) ys.toArray,args:=#[] }) w:=by
   simp[execOp,ho,resolve,hq,Deferred.ofValue]
  simp only[Oper.wp,pN,Oper.upon]
  refine hK g _ _ _ _ hn hR ?_
  have tt:FR n g ⟨fr.s,(kC,cap)::fr.ds⟩ { a with defers:={ target:=.fn (.func kC) ys.toArray,args:=#[] }::a.defers }:=⟨hF.size,hF.pA,.cons h2 hF.ds⟩
  exact tt.put hd (.any _)
def ON {l:List (Nat×AV)} {ds:List (FuncId×List AV)} {s:List (Nat×cV)} {ty:TypeId} {pos:String} {af:Array Edge} (hx:bU l x=some (.fn kC [] cap)) (hn:SL P E n ops Q rest (cA l ((kC,cap)::ds)) (bW s)):SL P E n ops Q (⟨none,.defer ⟨.value x,#[],ts⟩,ty,pos,af,none⟩::rest) (cA l ds) (bW s):=
 rn rfl (ζ rfl kp QJ hn)
def Mo0:Option Value->FrameMode->Prop
 | none,u=>u=.returning
 | some c,u=>u=.panicking [{ v:=c,recovered:=false }]
def SCD (P:Program) (f:FuncId) (cap:List AV) (σ:fC) (m:Option Value) (R:fC->Prop):Prop:=
 ∀ (wS:World) (g:Gh) (w:World) (vs:List Value) (u:FrameMode),Rel (Env.of wS g σ w) g σ w->M g cap vs->Mo0 m u->
  CallsD P f vs.toArray u w λe u' w'=>(∃ v,e=.returned v)/\settle u'=.returning/\∃ g' σ',R σ'/\Rel (Env.of wS g σ w) g' σ' w'
def XM (P:Program) (f:FuncId) (cap:List AV) (es:List cV) (m:Option Value) {X:Type} (res:aI X) (C:X->List cV):Prop:=
 ∀ r,res=r->r≠.stuck->SCD P f cap (bW (gK 0 es)) m (λσ=>∃ x,r=.ok x/\σ=bW (gK 0 (C x)))
def XN (P:Program) (E:Env) (fn:Func) (R:G7->fC->Prop) (kC:FuncId) (cap:List AV) (m:Option Value) (fr:k9) (σ:fC):Prop:=
 ∃ (π:Nat->Nat) (L:List Nat) (σ0:fC) (FH:List AV) (R0:fC->Prop),Enters P kC/\cap=AV.mh.ud π FH/\SCD P kC FH σ0 m R0/\(∀ j,(σ0 j).isSome=true->L.contains j=true)/\
  (∀ j e,σ0 j=some e->σ (π j)=some (e.mh π))/\(∀ j j',(σ0 j).isSome=true->(σ0 j').isSome=true->π j=π j'->j=j')/\
  ∀ σc,R0 σc->Jh E fr σ π L L σ0 σc (.mE [])/\wo P fn R .ret ⟨fr.s,[]⟩ (after σ π L L σc)
def IA (P:Program) (E:Env) (fn:Func) (R:G7->fC->Prop):gJ
 | .normal,fr,σ|.ret,fr,σ=>wo P fn R .ret fr σ\/∃ kC cap,fr.ds=[(kC,cap)]/\XN P E fn R kC cap none fr σ
 | .panic v,fr,σ=>wo P fn R (.panic v) fr σ\/∃ kC cap c,fr.ds=[(kC,cap)]/\(∀ g c',VR g v c'->c'=c)/\XN P E fn R kC cap (some c) fr σ
 | _,_,_=>False
def XO (hf:P.funcs[f]?=some fn) (hb:fn.body=some c) (hn:args.length<=fn.ntmps) (h:∀ E:Env,(∀ k,(∀ cs,σ k≠some (.box cs))->E.fix k=none)->SW P E fn.ntmps c (IA P E fn R) ⟨λi=>args[i]?.getD .any,[]⟩ σ):SC P f args σ R:=by
 intro wS g w vs hR hv;have hE:∀ k,(∀ cs,σ k≠some (.box cs))->(Env.of wS g σ w).fix k=none:=λk hk=>by
  cases q:σ k with
  | none=>simp only[Env.of,q]
  | some e=>cases e with
   | box cs=>exact ao q (hk cs)
   | arr el sz cs=>simp only[Env.of,q]
   | app el sz cs=>simp only[Env.of,q]
 have hlen:=hv.length;refine calls_of_wp_defers hf hb (wp_mono (h _ hE g { tmps:=vs.toArray++Array.replicate (fn.ntmps - vs.toArray.size) undef,defers:=[] } w hR ⟨qI,λi=>?_,.nil⟩) λe a w' hq=>?_)
 ·exact ahJ
 obtain ⟨g',ae,pn,σ',q,hx,lq,tt⟩:=hq;have fin:∀ g' (pn:k9) (a:Act) σ' w',Rel (Env.of wS g σ w) g' σ' w'->FR fn.ntmps g' pn a->wo P fn R .ret pn σ'->
   ∃ c,(results fn a.tmps).run P w'=.ok c w'/\∃ g' ae σ',R ae σ'/\ER g' ae (.returned c)/\Rel (Env.of wS g σ w) g' σ' w':=by
  intro g' pn a σ' w' lq tt ⟨_,vs,v,σ2,h1,h2,hs,h3⟩
  exact ahU
 have runs:∀ kC cap m u,pn.ds=[(kC,cap)]->XN P (Env.of wS g σ w) fn R kC cap m pn σ'->Mo0 m u->u≠.run->
   Leaves P fn a.tmps (λe w'=>∃ g' ae σ',R ae σ'/\ER g' ae e/\Rel (Env.of wS g σ w) g' σ' w') a.defers u w':=by
  intro kC cap m u Ek ⟨π,L,σ0,FH,R0,wu,hcap,hC,hL,hσ,Hf,hback⟩ hm hu
  have hdr:=tt.ds;rw[Ek] at hdr
  generalize hdf:a.defers=dd at hdr
  cases hdr with
  | cons hv hnil=>
   rename_i cv ds
   have:ds=[]:=hnil.Fg
   subst this
   rw[hcap] at hv
   refine ⟨hu,.func kC,cv.toArray,kC,cv.toArray,rfl,by simpa[invoke] using wu cv.toArray w',?_⟩
   refine (hC (Env.of wS g σ w).wS (g'.pull π) w' cv u (VS lq hσ Hf) hv.pull hm).mono λe u' w2 ⟨⟨v,he⟩,hset,g2,σ2,hr0,Mw⟩=>?_
   subst he
   obtain ⟨hB,hpost⟩:=hback σ2 hr0
   obtain ⟨h1,h2,_⟩:=H3 (v:=.mE []) (c:=.tuple #[]) lq tt hL hσ hB Mw (.mE .nil)
   simp only[hset]
   exact fin _ ⟨pn.s,[]⟩ { tmps:=a.tmps,defers:=[] } _ _ h1 ⟨h2.size,h2.pA,.nil⟩ hpost
 cases hx with
 | normal=>
  exact aia
 | ret=>
  exact aia
 | panic hv=>
  rcases q with ⟨hd,σ2,hs,h1⟩|⟨kC,cap,c,Ek,hc,pN⟩
  ·have hdd:=tt.ds;rw[hd] at hdd;simp only[bodyPostD,hdd.Fg];exact ⟨g',_,σ2,h1,.panic hv,lq.sub hs⟩
  ·rw[hc _ _ hv];exact runs kC cap (some c) _ Ek pN rfl bn
 | exit id=>exact q.elim
 | goto l=>exact q.elim
end
section
variable {P:Program} {Q:gJ} {l:List (Nat×AV)} {ds:List (FuncId×List AV)} {s:List (Nat×cV)}
theorem η (hf:P.funcs[f]?=some fn) (hb:fn.body=some c) (hn:Nat.ble args.length fn.ntmps=true) (h:∀ r,res=r->r≠.stuck->∀ E:Env,(∀ k,fu es k=true->E.fix k=none)->
   SW P E fn.ntmps c (IA P E fn (zh V C (λx=>r=.ok x) (λv=>∃ p,r=.ry p/\v=p.av))) (cA ((List.range args.length).zip args) []) (bW (gK 0 es))):CT P f args es res V C:=.mk <|
 λr hr hs=>XO hf hb Vg λE hE=>by
  rw[KO]
  refine h r hr hs E λk hk=>hE k λcs xJ=>?_
  exact ahK
def AX {α:Type} (x:aI α) (h:sX->aI α):aI α:=match x with
 | .stuck=>.stuck
 | .ry p=>h p
 | .ok a=>.ok a
variable {r:aI α}
def JI {x:aI α} {h:sX->aI α} (hr:r≠.stuck) (hc:AX x h=r):∃ r0,r0≠.stuck/\x=r0/\AX r0 h=r:=by
 refine ⟨x,?_,rfl,hc⟩;intro q;subst q;exact hr hc.symm
def Ih {α:Type} (T:TypeId) (p:sX) (k:Int->aI α):aI α:=match p with
 | ⟨t,[.sc (.int .i64 v)]⟩=>if t=T then k v else .stuck
 | _=>.stuck
def Of {p:sX} {k:Int->aI α} (hr:r≠.stuck) (h:Ih T p k=r):∃ v,p=⟨T,[.sc (.int .i64 v)]⟩/\k v=r:=by
 unfold Ih at h;split at h
 ·split at h
  ·rename_i v q;subst q;exact ⟨v,rfl,h⟩
  exact J9
 exact J9
def θ {v:Int} {c:Value} (h:VR g (sX.av ⟨T,[.sc (.int .i64 v)]⟩) c):c=.iface T (.agg #[.int .i64 v]):=by
 simp only[sX.av,kv,ua] at h;cases h with
 | vV _ h=>cases h with
  | agg h=>cases h with
   | cons h t=>
    cases t
    rw[h.iv]
def XP (h:wo P fn R .normal fr σ):wo P fn R .ret fr σ:=h
def ι (Ta:ae=.ret\/ae=.normal) (h:wo P fn R ae fr σ):IA P E fn R ae fr σ:=by
 rcases Ta with rfl|rfl
 ·exact .inl h
 exact .inl (XP h)
variable {v:AV}
structure Wj (E:Env) (l:List (Nat×AV)) (s:List (Nat×cV)) (ks:List Nat) (cap FH:List AV) (es:List cV):Prop where
 c:cap=AV.mh.ud (nth ks) FH
 gs:AQ s ks=some (qd (nth ks) es)
 nd:nodupB ks=true
 bx:qp es=true
def NG:∀ {ks:List Nat} {es:List cV},qp es=true->FG E ks es
 | [],_,_=>by cases ‹List cV›<;>trivial
 | _::_,[],_=>trivial
 | k::ks,.box cs::es,h=>by simp only[FG];exact NG U8
 | _::_,.arr _ _ _::_,h=>by simp[qp] at h
 | _::_,.app _ _ _::_,h=>by simp[qp] at h
def Rj {ks0:List Nat}:∀ {ks:List Nat} {es:List cV},qp es=true->P0 l ds s ks0 ks es=true
 | [],_,_=>by cases ‹List cV›<;>rfl
 | _::_,[],_=>rfl
 | k::ks,.box cs::es,h=>by simp only[P0];simp[Rj (ks:=ks) (es:=es) U8]
 | _::_,.arr _ _ _::_,h=>by simp[qp] at h
 | _::_,.app _ _ _::_,h=>by simp[qp] at h
def adu {m:Option Value} (wu:Enters P kC) (hC:XM P kC FH es m res C) (Kk:res≠.stuck) (hk:Wj E l s ks cap FH es) (hx:∀ x,(C x).length=ks.length/\qe (below ks.length) (C x)=true) (oB:∀ x,res=.ok x->wo P fn R .ret (cA l []) (bW (tK ks (qd (nth ks) (C x))++s))):XN P E fn R kC cap m (cA l [(kC,cap)]) (bW s):=by
 obtain ⟨hl,Km⟩:=AR hk.gs;rw[sZ] at hl;refine ⟨nth ks,List.range ks.length,bW (gK 0 es),FH,_,wu,hk.c,hC res rfl Kk,λj hj=>by have:=C8 hj;simp;omega,λj e hj=>?_,
  λj j' hj zT he=>Bw hk.nd (by have:=C8 hj;omega) (by have:=C8 zT;omega) he,?_⟩
 ·exact ZN
 rintro σc ⟨x,hxr,rfl⟩;obtain ⟨h1,h2⟩:=hx x;refine ⟨CI (l:=l) (ds:=[(kC,cap)]) vf hl hk.nd (Rj hk.bx) (NG hk.bx) h1 h2 rfl,?_⟩;rw[AW hk.nd h1];exact oB x hxr
def XS (Ta:ae=.ret\/ae=.normal) (ks:List Nat) {x:X} (wu:Enters P kC) (hC:XM P kC FH es none (aI.ok x) C) (hk:Wj E l s ks cap FH es) (hx:∀ x,(C x).length=ks.length/\qe (below ks.length) (C x)=true) {s':List (Nat×cV)} (hs:tK ks (qd (nth ks) (C x))++s=s') (oB:wo P fn R .ret (cA l []) (bW s')):IA P E fn R ae (cA l [(kC,cap)]) (bW s):=by
 have:XN P E fn R kC cap none (cA l [(kC,cap)]) (bW s):=adu wu hC bn hk hx λy q=>by cases q;rw[hs];exact oB
 rcases Ta with rfl|rfl
 ·exact .inr ⟨kC,cap,rfl,this⟩
 exact .inr ⟨kC,cap,rfl,this⟩
variable {fS first vs:List AV}
def B8 {d:Nat} {R:Type} {kk:X->aI R} {r:aI R} {V':X->AV} {C':X->List (Nat×cV)} {f:Operand} {args:List Operand} (hr:r≠.stuck) (h:ag res kk=r) (ks:List Nat) (wu:Enters P kC) (hC:CT P kC fS es res V C) (hk:vL E ds l s ks f args kC fS es first cap vs) (hbb:qp es=true) (hd:Nat.blt d n=true) (hx:∀ x,(C x).length=ks.length/\qe (below ks.length) (C x)=true/\(V x).only (below ks.length)=true) (hV:∀ x,(V x).mh (nth ks)=V' x/\tK ks (qd (nth ks) (C x))=C' x) {sp:List (Nat×cV)} (hsp:tK ks (qd (nth ks) (es.map cV.lost))++s=sp) (wm:∀ p,r=.ry p->Q (.panic p.av) (cA l ds) (bW sp)) (oB:∀ x,kk x=r->SL P E n ops Q rest (cA ((d,V' x)::l) ds) (bW (C' x++s))) :
  SL P E n ops Q (⟨some d,.call ⟨.value f,args.toArray,ts⟩,ty,pos,af,none⟩::rest) (cA l ds) (bW s):=by
 obtain ⟨Kk,GX,hp⟩:=B5 hr h
 subst hsp
 refine rn rfl (TR ks wu rfl (hC.h res rfl Kk) hk hbb B3 (λx _=>hx x) (λx hg=>?_) (λv hv=>?_))
 ·exact aes
 ·obtain ⟨p,Fm,rfl⟩:=hv
  exact ⟨p.only _,wm p (hp p Fm)⟩
end
end
def B9 (k:IntKind) (x y:Int):Int:=k.wrap (x*2 ^ (min y.toNat k.bits))
def ai0 (k:IntKind) (x y:Int):Int:=x.fdiv (2 ^ (min y.toNat k.bits))
def XT (k:IntKind) (x y:Int):Int:=k.wrap (BitVec.ofInt k.bits x&&& BitVec.ofInt k.bits y).toNat
def HI (k:IntKind) (x y:Int):Int:=k.wrap (BitVec.ofInt k.bits x||| BitVec.ofInt k.bits y).toNat
def aar (k:IntKind) (x y:Int):Int:=k.wrap (BitVec.ofInt k.bits x ^^^ BitVec.ofInt k.bits y).toNat
def Wk (k:IntKind) (x y:Int):Int:=k.wrap (BitVec.ofInt k.bits x&&& ~~~BitVec.ofInt k.bits y).toNat
def aas (k:IntKind) (x:Int):Int:=aar k (if k.signed then -1 else k.max) x
def tA (l:List Int) (i:Int):Int:=l.getD i.toNat 0
def Bq (l:List Int) (i v:Int):List Int:=l.set i.toNat v
def jQ (l:List Int):ByS:=l.map λi=>UInt8.ofNat i.toNat
section
variable {P:Program} {l:List (Nat×AV)} {ds:List (FuncId×List AV)} {s:List (Nat×cV)}
variable {y:Operand} {k:IntKind} {a b:Int} {u:TypeId} {v:AV} {cs:List AV}
def ae8 (hx:bU l x=some (Sc (.int k a))) (hy:bU l y=some (Sc (.int k b))) (h:b≠0):na P (.binOp .quo xt x y yt) l ds s (Sc (.int k (k.wrap (a.tdiv b)))) []:=
 .of (BG kp tY λw=>by simp[binOp,Op.intDiv,h])
def ae9 (hx:bU l x=some (Sc (.int k a))) (hy:bU l y=some (Sc (.int k b))) (h:b≠0):na P (.binOp .rem xt x y yt) l ds s (Sc (.int k (a.tmod b))) []:=
 .of (BG kp tY λw=>by simp[binOp,Op.intDiv,h])
variable {k':IntKind}
def ae_ (hx:bU l x=some (Sc (.int k a))) (hy:bU l y=some (Sc (.int k' b))) (h:0<=b):na P (.binOp .shl xt x y yt) l ds s (Sc (.int k (B9 k a b))) []:=
 .of (BG kp tY λw=>by simp[binOp,Op.shift,Int.not_lt.2 h,B9])
def afa (hx:bU l x=some (Sc (.int k a))) (hy:bU l y=some (Sc (.int k' b))) (h:0<=b):na P (.binOp .shr xt x y yt) l ds s (Sc (.int k (ai0 k a b))) []:=
 .of (BG kp tY λw=>by simp[binOp,Op.shift,Int.not_lt.2 h,ai0])
def afb (hx:bU l x=some (Sc (.int k a))) (hy:bU l y=some (Sc (.int k b))):na P (.binOp .and xt x y yt) l ds s (Sc (.int k (XT k a b))) []:=
 .of (BG kp tY λw=>by simp[binOp,Op.intBits,XT])
def ai1 (hx:bU l x=some (Sc (.int k a))) (hy:bU l y=some (Sc (.int k b))):na P (.binOp .or xt x y yt) l ds s (Sc (.int k (HI k a b))) []:=
 .of (BG kp tY λw=>by simp[binOp,Op.intBits,HI])
def afc (hx:bU l x=some (Sc (.int k a))) (hy:bU l y=some (Sc (.int k b))):na P (.binOp .xor xt x y yt) l ds s (Sc (.int k (aar k a b))) []:=
 .of (BG kp tY λw=>by simp[binOp,Op.intBits,aar])
def XU (hx:bU l x=some (Sc (.int k a))) (hy:bU l y=some (Sc (.int k b))):na P (.binOp .andNot xt x y yt) l ds s (Sc (.int k (Wk k a b))) []:=
 .of (BG kp tY λw=>by simp[binOp,Op.intBits,Wk])
def adw {op:UnOp} {a c:Value} (hx:fr.val x=Sc a) (h:∀ w,(Op.unary op a).run P w=.ok c w):X P (.unOp op t x) fr [] (Sc c):=by
 intro o ho g ev w _ hv _;have q1:=hv x vd;rw[hx] at q1;exact ⟨c,by simp[execOp,ho,q1.iv,h],.pv (.sc _)⟩
def afd (hx:bU l x=some (Sc (.int k a))):na P (.unOp .neg t x) l ds s (Sc (.int k (k.wrap (0 - a)))) []:=
 .of (adw kp λw=>by simp[Op.unary,Op.intArith])
def afe (hx:bU l x=some (Sc (.int k a))):na P (.unOp .xor t x) l ds s (Sc (.int k (aas k a))) []:=
 .of (adw kp λw=>by simp[Op.unary,Op.intBits,aas,aar])
def Oe (T:TypeId) (b:Bool):AV:=match b with
 | true=>.vV T .any
 | false=>Sc .nilIface
class Rk (P:Program) (t:TypeId):Prop where h:∃ ms,P.underlying t=some (.interface ms)
def Rl (ht:∃ ms,P.underlying t=some (.interface ms)) (u:TypeId) (v:Value) (w:World):(Op.equal t (.iface u v) .nilIface).run P w=.ok false w:=by
 obtain ⟨ms,ht⟩:=ht;have:∀ d,(Op.equalIn (d+1) t (.iface u v) .nilIface).run P w=.ok false w:=λd=>by simp[Op.equalIn,run_underlying ht]
 exact this 9999
def Rm (ht:∃ ms,P.underlying t=some (.interface ms)) (w:World):(Op.equal t .nilIface .nilIface).run P w=.ok true w:=by
 obtain ⟨ms,ht⟩:=ht;have:∀ d,(Op.equalIn (d+1) t .nilIface .nilIface).run P w=.ok true w:=λd=>by simp[Op.equalIn,run_underlying ht]
 exact this 9999
def aat (ht:∃ ms,P.underlying xt=some (.interface ms)) (hx:fr.val x=.vV u v) (hy:fr.val y=Sc .nilIface):X P (.binOp .neq xt x y yt) fr [] (Bo true):=by
 intro o ho g ev w _ hv _;have q1:=hv x vd;rw[hx] at q1;have q2:=hv y vd;rw[hy] at q2;generalize hq:ev x=c at q1;cases q1 with
 | vV _ h=>
  rename_i vv
  refine ⟨.bool true,?_,.pv (.sc _)⟩
  simp[execOp,ho,hq,q2.iv,eqGuard,binOp,Rl ht u vv w]
def aau (ht:∃ ms,P.underlying xt=some (.interface ms)) (hx:fr.val x=.vV u v) (hy:fr.val y=Sc .nilIface):X P (.binOp .eql xt x y yt) fr [] (Bo false):=by
 intro o ho g ev w _ hv _;have q1:=hv x vd;rw[hx] at q1;have q2:=hv y vd;rw[hy] at q2;generalize hq:ev x=c at q1;cases q1 with
 | vV _ h=>
  rename_i vv
  refine ⟨.bool false,?_,.pv (.sc _)⟩
  simp[execOp,ho,hq,q2.iv,eqGuard,binOp,Rl ht u vv w]
def aav (ht:∃ ms,P.underlying xt=some (.interface ms)) (hx:fr.val x=Sc .nilIface):X P (.binOp .neq xt x (.const .nilIface) yt) fr [] (Bo false):=by
 intro o ho g ev w _ hv _;have q1:=hv x vd;rw[hx] at q1;have q2:=hv (.const .nilIface) vd;have e2:ev (.const .nilIface)=.nilIface:=qB q2;refine ⟨.bool false,?_,.pv (.sc _)⟩;simp[execOp,ho,q1.iv,e2,eqGuard,binOp,Rm ht w]
def aaw (ht:∃ ms,P.underlying xt=some (.interface ms)) (hx:fr.val x=Sc .nilIface):X P (.binOp .eql xt x (.const .nilIface) yt) fr [] (Bo true):=by
 intro o ho g ev w _ hv _;have q1:=hv x vd;rw[hx] at q1;have q2:=hv (.const .nilIface) vd;have e2:ev (.const .nilIface)=.nilIface:=qB q2;refine ⟨.bool true,?_,.pv (.sc _)⟩;simp[execOp,ho,q1.iv,e2,eqGuard,binOp,Rm ht w]
def HQ [ht:Rk P xt] (hx:bU l x=some (.vV u v)) (hy:bU l y=some (Sc .nilIface)):na P (.binOp .neq xt x y yt) l ds s (Bo true) []:=.of (aat ht.h kp tY)
def aff [ht:Rk P xt] (hx:bU l x=some (.vV u v)) (hy:bU l y=some (Sc .nilIface)):na P (.binOp .eql xt x y yt) l ds s (Bo false) []:=.of (aau ht.h kp tY)
def Og [ht:Rk P xt] (hx:bU l x=some (Sc .nilIface)):na P (.binOp .neq xt x (.const .nilIface) yt) l ds s (Bo false) []:=.of (aav ht.h kp)
def afg [ht:Rk P xt] (hx:bU l x=some (Sc .nilIface)):na P (.binOp .eql xt x (.const .nilIface) yt) l ds s (Bo true) []:=.of (aaw ht.h kp)
variable {T:TypeId}
def afh {b:Bool} [ht:Rk P xt] (hx:bU l x=some (Oe T b)):na P (.binOp .neq xt x (.const .nilIface) yt) l ds s (Bo b) []:=by
 cases b with
 | true=>exact HQ hx rfl
 | false=>exact Og hx
def afi {d:TypeDesc} (ht:P.underlying t=some d) (hd:Z3 d=false) (hx:fr.val x=.vV t v):X P (.typeAssert x xt t true) fr [] (.mE [v,Bo true]):=by
 intro o ho g ev w _ hv _;have q1:=hv x vd;rw[hx] at q1;generalize hq:ev x=c at q1;cases q1 with
 | vV _ h=>
  rename_i vv
  refine ⟨.tuple [vv,.bool true].toArray,?_,.mE (.cons h (.cons (.pv (.sc _)) .nil))⟩
  simp only[execOp,ho,hq,Instr.typeAssert,cF,run_underlying ht,bR]
  cases d<;>simp_all [Z3]
def adx [ht:S' P t] (hx:bU l x=some (.vV t v)):na P (.typeAssert x xt t true) l ds s (.mE [v,Bo true]) []:=by
 have h:=ht.h;cases hu:P.underlying t with
 | none=>simp[hu] at h
 | some d=>simp[hu] at h;exact .of (afi hu h kp)
def Rn (f:Int->AV):∀ {xs:List Int} {i:Int},0<=i->i<xs.length->(xs.map f)[i.toNat]?=some (f (tA xs i)):=λ{xs i} h0 h1=>by
 have:i.toNat<xs.length:=by omega
 simp[tA,this]
variable {i:Int}
def afj (f:Int->AV) {e:TypeId} {ix:Operand} [ht:uP P t (.array n e)] [ha:oM P e false] [hz:yR P e 1] (hx:bU l x=some (.agg cs)) (hi:bU l ix=some (Sc (.int k i))) (hc:cs=xs.map f) (hn:xs.length=n) (h0:0<=i) (h1:i<n):na P (.index t x ix) l ds s (f (tA xs i)) []:=
 .of (Oy ht.h ha.h hz.h kp (dX hi) h0 h1 (by rw[hc];exact Rn f h0 (by rw[hn];exact h1)))
def afk (f:Int->AV) {k:Nat} [ha:oM P t false] (hx:bU l x=some (.ptr k (0+i.toNat*1))) (hk:dJ s k=some (.box cs)) (hc:cs=xs.map f) (h0:0<=i) (h1:i<xs.length) :
  na P (.load t x) l ds s (f (tA xs i)) [(k,.box cs)]:=
 .on hk (Ew ha.h kp (by simp only[cV.cells];rw[hc,show 0+i.toNat*1=i.toNat by omega];exact Rn f h0 h1))
def aax {a b:TypeId} {c:ByS} [hs:uP P a .string] [ht:uP P b .string] (hx:bU l x=some (eu c)):na P (.convert a b x) l ds s (eu c) []:=.of (by
 intro o ho g ev w _ hv _
 have q1:=hv x vd;rw[dX hx] at q1
 exact ⟨S c,by simp[execOp,ho,q1.iv,convert,run_underlying hs.h,run_underlying ht.h,S],.pv (.sc _)⟩)
end
section
variable {g:Gh} {C:α->List PV} {Cs:List α->List PV} {xs:List α} {cs lO:List AV}
def rC.BE {el:TypeId} {cells:List PV} (h:rC g w k (.arr el sz cells)):(g.ρ k=none/\cells=[])\/
  ∃ (b:Nat) (cs:Array Value) (el':TypeId),g.ρ k=some b/\w.heap[b]?=some (.cells cs el' (0,0))/\cells.length<=cs.size/\cs.size=g.cp k*sz:=by
 generalize he:cV.arr el sz cells=e at h
 cases h with
 | box=>cases he
 | Bm h=>cases he;exact .inl ⟨h,rfl⟩
 | arr h hw hl hz=>cases he;exact .inr ⟨_,_,_,h,hw,hl,hz⟩
 | Jb=>cases he
 | app=>cases he
def VR.BE {n:Nat} {c:Value} (h:VR g (.arr k n) c):(∃ b,g.ρ k=some b/\c=.slice (some ⟨b,0,none⟩) n (g.cp k))\/(g.ρ k=none/\n=0/\c=.slice none 0 0):=by
 generalize he:AV.arr k n=e at h;cases h with
 | arr m hb=>cases he;exact .inl ⟨_,hb,rfl⟩
 | Bm hb=>cases he;exact .inr ⟨hb,rfl,rfl⟩
 | _=>cases he
variable {b:Nat}
def Rel.freeze (h:Rel E g σ w) {e:cV} {ys:List PV} (hk:σ k=some e) (Cw:e.isApp=false) (S8:E.fix k=none) (hb:g.ρ k=some b) (hc:e.cells=ys.map .pv) :
  Rel E (g.iS b ys) (σ.del k) w:=by
 have hG:=h.apart k b e hk Cw hb
 have hle:xf (λ_=>False) g (g.iS b ys):=qQ g b ys hG
 have xM:(σ k).isSome=true:=by rw[hk];rfl
 have hdel:∀ j e',(σ.del k) j=some e'->j≠k/\σ j=some e':=λj e' hj=>by
  by_cases q:j=k
  ·subst q;simp[fC.del] at hj
  ·exact acw
 have Ro:∀ j,((σ.del k) j).isSome=true->j≠k/\(σ j).isSome=true:=λj hj=>by
  by_cases q:j=k
  ·subst q;simp[fC.del] at hj
  ·exact acw
 have uB:∀ j c,j≠k->(σ j).isSome=true->g.ρ j=some c->c≠b:=λj c hj hs hc q=>by
  subst q;exact hj (h.inj j k c hs xM hc hb)
 have hfb:∀ j,E.fix j≠some b:=λj q=>by
  have:=h.x.xh j b k q xM hb
  subst this;rw[S8] at q;cases q
 obtain ⟨cs,el,hw,Ko,P3⟩:=(h.sv k e hk).at hb
 rw[hc] at Ko P3
 simp only[ik] at Ko P3
 refine { sv:=?_,inj:=?_,gl:=?_,apart:=?_,size:=h.size,yV:=h.yV,own:=?_,fix:=h.fix,qq:=h.qq,g0:=?_,gn:=?_,os:=h.os,out:=h.out,tape:=h.tape,x:=?_ }
 ·intro j e' hj
  obtain ⟨q,zT⟩:=hdel j e' hj
  exact (h.sv j e' zT).le hle (λq=>q) (λc hc _=>by simp[Gh.iS,uB j c q (by rw[zT];rfl) hc]) (λ_ q=>q.elim) (λ_ _=>rfl)
 ·exact λj j' c hj zT=>h.inj j j' c (Ro j hj).2 (Ro j' zT).2
 ·intro c zs hz
  by_cases q:c=b
  ·subst q;simp[Gh.iS] at hz;subst hz
   exact ⟨cs,el,(0,0),hw,Ko,(vk.H2 P3).le hle⟩
  ·simp[Gh.iS,q] at hz
   obtain ⟨c1,e1,f1,h1,h2,h3⟩:=h.gl c zs hz
   exact ⟨c1,e1,f1,h1,h2,h3.le hle⟩
 ·intro j c e' hj hja hc'
  obtain ⟨q,zT⟩:=hdel j e' hj
  have:=uB j c q (by rw[zT];rfl) hc'
  simp only[Gh.iS,this,if_false]
  exact h.apart j c e' zT hja hc'
 ·exact λj c hj hc=>h.own j c (Ro j hj).2 hc
 ·intro c zs hz
  obtain ⟨us,h1⟩:=h.g0 c zs hz
  obtain ⟨vs,h2⟩:=hle.G c _ h1
  exact ad9
 ·intro c zs hz
  by_cases q:c=b
  ·subst q
   rcases h.own k c xM hb with q|q
   ·exact .inr (.inl q)
   ·exact .inr (.inr q)
  ·simp[Gh.iS,q] at hz;exact h.gn c zs hz
 ·exact {
      IL:=h.x.IL,flat:=h.x.flat,set:=h.x.set,HX:=h.x.HX,gf:=h.x.gf,xg:=h.x.xg
      hi:=λj c hj hc=>h.x.hi j c (Ro j hj).2 hc
      xQ:=λj c hf=>by
       have:c≠b:=λq=>by subst q;exact hfb j hf
       simp only[Gh.iS,this,if_false];exact h.x.xQ j c hf
      xh:=λj c j' hf hj hc=>h.x.xh j c j' hf (Ro j' hj).2 hc
      xi:=λj c e' hf hj=>h.x.xi j c e' hf (hdel j e' hj).2 }
section
variable {P:Program} {Q:gJ} {l:List (Nat×AV)} {ds:List (FuncId×List AV)} {s:List (Nat×cV)}
 {ty:TypeId} {pos:String} {af:Array Edge}
def aay (l:List (Nat×AV)) (s:List (Nat×cV)):mM E n l ds s l s:=λg _ _ hR hF=>⟨g,hR,hF⟩
def κ {el:TypeId} (yT:∀ l,Cs l=l.flatMap C) (hC:∀ x,(C x).length=sz) (hz:0<sz) (hb:g.ρ k=some b) (he:rC g w k (.arr el sz (Cs xs))):VR (g.iS b (Cs xs)) (.pv (.sl xs.length (Cs xs))) (.slice (some ⟨b,0,none⟩) xs.length (g.cp k)):=by
 rcases he.BE with ⟨h,_⟩|⟨b',cs,el',h,hw,hl,Jw⟩
 ·rw[h] at hb;cases hb
 rw[h] at hb;cases hb;refine .pv (.sl _ (Cs xs) 0 _ _ (Cs xs) Kb bn bn ?_);have h1:xs.length*sz<=g.cp k*sz:=by
  rw[<- Jw];rw[yT,tZ hC] at hl;exact hl
 exact mT h1 hz
def ZO (hC:∀ x,(C x).length=sz) (hz:0<sz) (h:xs.flatMap C=[]):xs=[]:=by
 have:=tZ hC xs;rw[h] at this;cases xs with
 | nil=>rfl
 | cons a l=>simp[sF] at this;omega
def μ {el:TypeId} (yT:∀ l,Cs l=l.flatMap C) (hC:∀ x,(C x).length=sz) (hz:Nat.blt 0 sz=true) (hd:mL l d=some (.arr k xs.length)) (hk:dJ s k=some (.arr el sz (Cs xs))) (hE:E.fix k=none):mM E n l ds s ((d,.pv (.sl xs.length (Cs xs)))::l) (ug k s):=λg a w hR hF=>by
 have xM:=fK hk;have Jw:0<sz:=by simpa[ta] using hz
 have hs:=hF.pA d;simp only[cA,jY hd] at hs;rw[BK];cases hb:g.ρ k with
 | none=>
  have hx:xs=[]:=by
   exact aih
  subst hx
  have e0:Cs ([]:List α)=[]:=by rw[yT];rfl
  refine ⟨g,hR.sub λj e hj=>by
   unfold fC.del at hj;split at hj
   ·cases hj
   exact hj,hF.size,λi=>?_,hF.ds⟩
  by_cases q:i=d
  ·subst q;simp only[cA,tI,if_true];generalize a.tmps.getD i undef=c at hs ⊢;rcases hs.BE with ⟨b',h,_⟩|⟨_,_,rfl⟩
   ·rw[h] at hb;cases hb
   rw[e0];exact .pv (.nil _ _)
  ·simpa[cA,tI,q] using hF.pA i
 | some b=>
  refine ⟨g.iS b (Cs xs),hR.freeze xM rfl hE hb rfl,?_⟩
  have hle:xf (λ_=>False) g (g.iS b (Cs xs)):=qQ g b _ (hR.apart k b _ xM rfl hb)
  have tt:=hF.le hle (λ_ q=>q.elim)
  refine ⟨tt.size,λi=>?_,tt.ds⟩
  by_cases q:i=d
  ·subst q;simp only[cA,tI,if_true];generalize a.tmps.getD i undef=c at hs ⊢;rcases hs.BE with ⟨b',h,rfl⟩|⟨h,_⟩
   ·rw[h] at hb;cases hb;exact κ yT hC Jw h (hR.sv k _ xM)
   rw[h] at hb;cases hb
  ·simpa[cA,tI,q] using tt.pA i
def aaz {el:TypeId} (yT:∀ l,Cs l=l.flatMap C) (hC:∀ x,(C x).length=sz) (hz:Nat.blt 0 sz=true) (hj:dJ s j=some (.box cs)) (hc:cs[off]?=some (.arr k xs.length)) (hk:dJ s k=some (.arr el sz (Cs xs))) (hE:E.fix k=none) (xJ:cs.set off (.pv (.sl xs.length (Cs xs)))=lO) :
  mM E n l ds s l ((j,.box lO)::ug k s):=λg a w hR hF=>by
 subst xJ
 have xM:=fK hk
 have S5:=fK hj
 have Jw:0<sz:=by simpa[ta] using hz
 have hjk:j≠k:=λq=>by subst q;rw[S5] at xM;cases xM
 have fin:∀ g',Rel E g' ((bW s).del k) w->FR n g' (cA l ds) a->(∀ c,VR g (.arr k xs.length) c->VR g' (.pv (.sl xs.length (Cs xs))) c)->(∀ IN:Array Value,M g cs IN.toList->M g' (cs.set off (.pv (.sl xs.length (Cs xs)))) IN.toList)->
   g'.ρ j=g.ρ j->∃ g',Rel E g' (bW ((j,.box (cs.set off (.pv (.sl xs.length (Cs xs)))))::ug k s)) w/\FR n g' (cA l ds) a:=λg' lq tt _ hbx hρ=>by
  refine ⟨g',?_,tt⟩
  have e1:bW ((j,.box (cs.set off (.pv (.sl xs.length (Cs xs)))))::ug k s)=((bW s).del k).set j (.box (cs.set off (.pv (.sl xs.length (Cs xs))))):=by
   rw[<- BK];rfl
  rw[e1]
  have hjd:((bW s).del k) j=some (.box cs):=by simp[fC.del,hjk,S5]
  cases hR.sv j _ S5 with
  | box h1 h2 h3 h4=>
   exact {
       sv:=λi e he=>by
        by_cases q:i=j
        ·subst q;simp[fC.set] at he;subst he
         exact .box (hρ.trans h1) h2 (hbx _ h3) h4
        ·simp[fC.set,q] at he;exact lq.sv i e he
       inj:=λi i' b hi hi'=>lq.inj i i' b (by
        by_cases q:i=j
        ·subst q;rw[hjd];rfl
        ·simpa[fC.set,q] using hi) (by
        by_cases q:i'=j
        ·subst q;rw[hjd];rfl
        ·simpa[fC.set,q] using hi')
       gl:=lq.gl
       apart:=λi b e he Cw hb=>by
        by_cases q:i=j
        ·subst q;exact lq.apart i b _ hjd rfl hb
        ·exact lq.apart i b e (by simpa[fC.set,q] using he) Cw hb
       size:=lq.size,yV:=lq.yV
       own:=λi b hi hb=>lq.own i b (by
        by_cases q:i=j
        ·subst q;rw[hjd];rfl
        ·simpa[fC.set,q] using hi) hb
       fix:=lq.fix,qq:=lq.qq,g0:=lq.g0,gn:=lq.gn,os:=lq.os,out:=lq.out,tape:=lq.tape
       x:=lq.x.F0 rfl rfl (λi b hi hb=>⟨i,by
        by_cases q:i=j
        ·subst q;rw[hjd];rfl
        ·simpa[fC.set,q] using hi,hb,.inl rfl⟩) (λi b e' _ hi=>by
        by_cases q:i=j
        ·subst q;exact ⟨_,hjd,λ_=>(by simp[fC.set] at hi;exact ⟨_,hi.symm⟩)⟩
        ·exact ⟨e',by simpa[fC.set,q] using hi,id⟩) }
 cases hb:g.ρ k with
 | none=>
  have hx:xs=[]:=by
   exact aih
  have e0:Cs xs=[]:=by rw[hx,yT];rfl
  have hv:∀ c,VR g (.arr k xs.length) c->VR g (.pv (.sl xs.length (Cs xs))) c:=λc P3=>by
   rw[e0]
   rcases P3.BE with ⟨b',h,_⟩|⟨_,hn,rfl⟩
   ·rw[h] at hb;cases hb
   ·rw[hn];exact .pv (.nil _ _)
  exact fin g (hR.sub λi e hi=>by
   unfold fC.del at hi
   split at hi
   ·cases hi
   ·exact hi) hF hv (λIN h3=>h3.set hc hv) rfl
 | some b=>
  have hle:xf (λ_=>False) g (g.iS b (Cs xs)):=qQ g b _ (hR.apart k b _ xM rfl hb)
  have hv:∀ c,VR g (.arr k xs.length) c->VR (g.iS b (Cs xs)) (.pv (.sl xs.length (Cs xs))) c:=λc P3=>by
   rcases P3.BE with ⟨b',h,rfl⟩|⟨h,_⟩
   ·rw[h] at hb;cases hb;exact κ yT hC Jw h (hR.sv k _ xM)
   ·rw[h] at hb;cases hb
  refine fin _ (hR.freeze xM rfl hE hb rfl) (hF.le hle λ_ q=>q.elim) hv (λIN h3=>?_) rfl
  have h4:=h3.le hle (λ_ q=>q.elim)
  exact h4.set (g:=g.iS b (Cs xs)) hc λc P3=>by
   rcases P3.BE with ⟨b',h,rfl⟩|⟨h,_⟩
   ·have h':g.ρ k=some b':=h
    rw[h'] at hb;cases hb;exact κ yT hC Jw h' (hR.sv k _ xM)
   ·have h':g.ρ k=none:=h
    rw[h'] at hb;cases hb
def afl {ps:List PV} (hd:mL l d=some (.ptr k 0)) (hk:dJ s k=some (.box (ps.map .pv))) (hE:E.fix k=none):mM E n l ds s ((d,.pv (.pt (some ps)))::l) (ug k s):=λg a w hR hF=>by
 have xM:=fK hk;have hs:=hF.pA d;simp only[cA,jY hd] at hs;rw[BK];generalize hc:a.tmps.getD d undef=c at hs;cases hs with
 | ptr _ hb=>
  rename_i b
  refine ⟨g.iS b ps,hR.freeze xM rfl hE hb rfl,?_⟩
  have hle:xf (λ_=>False) g (g.iS b ps):=qQ g b _ (hR.apart k b _ xM rfl hb)
  have tt:=hF.le hle (λ_ q=>q.elim)
  refine ⟨tt.size,λi=>?_,tt.ds⟩
  by_cases q:i=d
  ·subst q;simp only[cA,tI,if_true];rw[hc];exact .pv (.YT b ps 0 ps Kb bn bn)
  ·simpa[cA,tI,q] using tt.pA i
def ν (nm:Nat) {el:TypeId} (hE:E.fix nm=none) (hm:mW nm l=false/\ko nm ds=false/\qb nm s=false):mM E n l ds s l ((nm,.app el sz [])::s):=λg a w hR hF=>
 ⟨g.unbind nm,hR.JF IB hE,hF.le (tf g nm) Zb⟩
def afm (nm:Nat) {el:TypeId} (l':List (Nat×AV)) (s':List (Nat×cV)) (hE:E.fix nm=none) (h1:DO l l' l') (h2:F7 s s' s') (hm:mW nm l'=false/\ko nm ds=false/\qb nm s'=false) :
 mM E n l ds s l' ((nm,.app el sz [])::s'):=(mM.QO l' s' h1 h2).trans (ν nm hE hm)
def Rel.KX (h:Rel E g σ w) {nm:Nat} {el:TypeId} (hc:σ.clear nm) (hf:E.fix nm=none):Rel E (g.unbind nm) (σ.set nm (.arr el sz [])) w:=by
 have h0:=h.JF (el:=el) (sz:=sz) hc hf;have PY:(g.unbind nm).ρ nm=none:=by simp[Gh.unbind]
 have uB:∀ j e,σ.set nm (.arr el sz []) j=some e->j≠nm->σ.set nm (.app el sz []) j=some e:=λj e hj q=>by simpa[fC.set,q] using hj
 have hs:∀ j,(σ.set nm (.arr el sz []) j).isSome=true->(σ.set nm (.app el sz []) j).isSome=true:=λj hj=>by
  by_cases q:j=nm
  ·subst q;simp[fC.set]
  simpa[fC.set,q] using hj
 exact {
  sv:=λj e hj=>by
   by_cases q:j=nm
   ·subst q;simp[fC.set] at hj;subst hj;exact .Bm PY
   exact h0.sv j e (uB j e hj q)
  inj:=λj j' b hj zT=>h0.inj j j' b (hs j hj) (hs j' zT)
  gl:=h0.gl
  apart:=λj b e hj Cw hb=>by
   by_cases q:j=nm
   ·subst q;rw[PY] at hb;cases hb
   exact h0.apart j b e (uB j e hj q) Cw hb
  size:=h0.size,yV:=h0.yV,own:=λj b hj=>h0.own j b (hs j hj),fix:=h0.fix,qq:=h0.qq,g0:=h0.g0,gn:=h0.gn,os:=h0.os,out:=h0.out,tape:=h0.tape
  x:=h0.x.F0 rfl rfl (λj b hj hb=>⟨j,hs j hj,hb,.inl rfl⟩) (λj b e' hfj hj=>by
   have q:j≠nm:=λq=>by subst q;rw[hf] at hfj;cases hfj
   exact ⟨e',uB j _ hj q,id⟩) }
def Wl (nm:Nat) {el:TypeId} (hE:E.fix nm=none) (hm:mW nm l=false/\ko nm ds=false/\qb nm s=false):mM E n l ds s l ((nm,.arr el sz [])::s):=λg a w hR hF=>
 ⟨g.unbind nm,hR.KX IB hE,hF.le (tf g nm) Zb⟩
def aaA (nm:Nat) {el:TypeId} (hE:E.fix nm=none) (hd:mL l d=some (nSl)) (hm:mW nm l=false/\ko nm ds=false/\qb nm s=false) :
  mM E n l ds s ((d,.arr nm 0)::l) ((nm,.arr el sz [])::s):=λg a w hR hF=>by
 have h1:=hR.KX (el:=el) (sz:=sz) IB hE
 exact ahR
def ξ (nm:Nat) {el:TypeId} (hE:E.fix nm=none) (hj:dJ s j=some (.box cs)) (hc:cs[off]?=some (nSl)) (hm:mW nm l=false/\ko nm ds=false/\qb nm s=false) (hjn:Nat.beq j nm=false) (xJ:cs.set off (.arr nm 0)=lO) :
  mM E n l ds s l ((j,.box lO)::(nm,.arr el sz [])::s):=λg a w hR hF=>by
 subst xJ
 have hR:=hR.KX (el:=el) (sz:=sz) IB hE
 have hF:=hF.le (tf g nm) Zb
 have hjn':j≠nm:=λq=>by subst q;simp at hjn
 have S5:(bW s).set nm (.arr el sz []) j=some (.box cs):=by simp[fC.set,hjn',fK hj]
 refine ⟨g.unbind nm,?_,hF⟩
 have he:∀ i e,bW ((j,.box (cs.set off (.arr nm 0)))::(nm,.arr el sz [])::s) i=some e->(((bW s).set nm (.arr el sz [])) i).isSome=true/\(i≠j->((bW s).set nm (.arr el sz [])) i=some e):=λi e h=>by
  by_cases q:i=j
  ·subst q;exact ⟨by rw[S5];rfl,λq=>ao rfl q⟩
  ·have:((bW s).set nm (.arr el sz [])) i=some e:=by simpa[bW,vh,fC.set,q] using h
   exact ⟨by rw[this];rfl,λ_=>this⟩
 have hs:∀ i,(bW ((j,.box (cs.set off (.arr nm 0)))::(nm,.arr el sz [])::s) i).isSome=true->(((bW s).set nm (.arr el sz [])) i).isSome=true:=λi h=>by
  cases q:bW ((j,.box (cs.set off (.arr nm 0)))::(nm,.arr el sz [])::s) i with
  | none=>rw[q] at h;cases h
  | some e=>exact (he i e q).1
 exact yC2
def afn (hd:mL l d=some (.agg cs)) (hn:AV.V8 cs=lO):mM E n l ds s ((d,.agg lO)::l) s:=λg a w hR hF=>by
 subst hn;refine ⟨g,hR,hF.size,λi=>?_,hF.ds⟩;have h:=hF.pA i;by_cases q:i=d
 ·subst q;simp only[cA,tI,if_true];simp only[cA,jY hd] at h;exact AV.KF (tj cs) g _ h
 simpa[cA,tI,q] using h
end
end
section
variable {f:α->List PV} {i:Int} {a a':α} {C:α->List PV} {Cs:List α->List PV} {y:Operand} {m:Nat} {xs:List α} {v:AV} {pl:List (Nat×Nat)} {pv:List (Nat×AV)} {out:List AV}
def XV (hf:∀ x,(f x).length=sz):∀ (l:List α) (i:Nat),(l.flatMap f).take (i*sz)=(l.take i).flatMap f:=by
 intro l
 induction l with
 | nil=>intro i;simp
 | cons a l ih=>
  intro i
  cases i with
  | zero=>simp
  | succ i=>
   rw[oC,fE,fE,sF,ub,List.take_append]
   rw[dM (by rw[hf];omega),hf,show sz+i*sz - sz=i*sz by omega,ih]
def ο (hf:∀ x,(f x).length=sz) {l:List α} {i:Nat} (ha:l[i]?=some a) (hd:d+vs.length<=sz) (hu:f a'=(f a).take d++vs++(f a).drop (d+vs.length)) :
  (l.flatMap f).take (i*sz+d)++vs++(l.flatMap f).drop (i*sz+d+vs.length)=(l.set i a').flatMap f:=by
 have iy:i<l.length:=(an.1 ha).1
 have hdrop:=Ie hf ha
 have e1:(l.flatMap f).take (i*sz+d)=(l.take i).flatMap f++(f a).take d:=by
  rw[List.take_add,XV hf,hdrop,List.take_append_of_le_length (by rw[hf];omega)]
 have e2:(l.flatMap f).drop (i*sz+d+vs.length)=(f a).drop (d+vs.length)++(l.drop (i+1)).flatMap f:=by
  rw[show i*sz+d+vs.length=i*sz+(d+vs.length) by omega,<- kF,hdrop,oz (by rw[hf];omega)]
  congr 1
  have:∀ (l:List α) (j:Nat),(l.flatMap f).drop (j*sz)=(l.drop j).flatMap f:=by
   intro l
   induction l with
   | nil=>intro j;simp
   | cons b l ih=>
    intro j
    cases j with
    | zero=>simp
    | succ j=>
     rw[List.drop_succ_cons,fE,sF,ub,<- kF]
     rw[List.drop_left' (hf b)];exact ih j
  exact this l (i+1)
 rw[e1,e2,List.set_eq_take_append_cons_drop,aL iy,rm,fE,hu]
 simp
section
variable {P:Program} {Q:gJ} {l:List (Nat×AV)} {ds:List (FuncId×List AV)} {s:List (Nat×cV)}
 {ty:TypeId} {pos:String} {af:Array Edge}
def Rp {e:cV}:bW ((k,e)::ug k s)=(bW s).set k e:=by
 funext j;have h:=congrFun (BK (k:=k) (s:=s)) j;simp only[bW,fC.del,fC.set,vh] at h ⊢;by_cases q:j=k
 ·simp[q]
 simp only[q,if_false] at h ⊢;exact h
structure StA (P:Program) {α:Type} (C:α->List PV) (Cs:List α->List PV) (l:List (Nat×AV)) (s:List (Nat×cV)) (t:TypeId) (x y:Operand) (k off m sz:Nat) (el:TypeId) (i:Int) (xs:List α) (a a':α) (v:AV) (vs:List PV):Prop where
 yT:∀ l,Cs l=l.flatMap C
 hC:∀ x,(C x).length=sz
 h0:0<=i
 ha:xs[i.toNat]?=some a
 hx:bU l x=some (.ptr k (i.toNat*sz+off))
 hk:dJ s k=some (.arr el sz (Cs xs))
 hy:bU l y=some v
 hv:v.jG=some (vs.map .pv)
 h1:PV.p9 vs=true
 ht:Mb P t=some m
 hm:vs.length=m
 hb:Nat.ble (off+vs.length) sz=true
 hu:C a'=(C a).take off++vs++(C a).drop (off+vs.length)
def StA.Xw {el:TypeId} (h:StA P C Cs l s t x y k off m sz el i xs a a' v vs) :
  (cV.arr el sz (Cs xs)).Xw (i.toNat*sz+off) (vs.map .pv)=.arr el sz (Cs (xs.set i.toNat a')):=by
 simp only[cV.Xw,ik,Ky]
 rw[h.yT,h.yT,ο h.hC h.ha (gq h.hb) h.hu]
def StA.le {el:TypeId} (h:StA P C Cs l s t x y k off m sz el i xs a a' v vs) :
  i.toNat*sz+off+(vs.map AV.pv).length<=(cV.arr el sz (Cs xs)).cells.length:=by
 have iy:i.toNat<xs.length:=(an.1 h.ha).1
 have hb:=gq h.hb
 simp only[cV.cells,ik]
 rw[h.yT,tZ h.hC]
 have:(i.toNat+1)*sz<=xs.length*sz:=gT _ iy
 rw[sF] at this
 omega
def TT {el:TypeId} (h:StA P C Cs l s t x y k off m sz el i xs a a' v vs) (hn:SL P E n ops Q rest (cA l ds) (bW ((k,.arr el sz (Cs (xs.set i.toNat a')))::ug k s))):SL P E n ops Q (⟨none,.store t x y,ty,pos,af,none⟩::rest) (cA l ds) (bW s):=by
 refine rn rfl (De rfl rfl (dX h.hx) M5 rfl (by rw[dX h.hy];exact h.hv) (KB h.h1) (by rw[ik,h.hm];exact h.ht) h.le (λ_=>⟨_,rfl⟩) ?_);rw[h.Xw,<- Rp];exact hn
structure EL (P:Program) (E:Env) (l:List (Nat×AV)) (ds:List (FuncId×List AV)) (s:List (Nat×cV)) {α:Type} (C:α->List PV) (Cs:List α->List PV) (t e:TypeId) (sz bytes k nm:Nat) (a x:Operand) (xs ys:List α):Prop where
 hT:P.underlying t=some (.slice e)
 hB:Df P e=some (sz,bytes)
 yT:∀ l,Cs l=l.flatMap C
 hL:∀ x,(C x).length=sz
 h1:∀ x,PV.p9 (C x)=true
 hE:E.fix nm=none
 hs:bU l a=some (.arr k xs.length)
 hk:dJ s k=some (.arr e sz (Cs xs))
 hx:bU l x=some (.pv (.sl ys.length (Cs ys)))\/(ys=[]/\bU l x=some (nSl))
 hm:mW nm l=false/\ko nm ds=false/\EH nm [k] s=false
 hg:nP bytes xs.length ys.length
section
variable {a:Operand} {ys:List α}
def EL.srp (h:EL P E l ds s C Cs t e sz bytes k nm a x xs ys):ĸ sz ((cA l ds).val x) ys.length (Cs ys):=by
 exact ail
def EL.clr (h:EL P E l ds s C Cs t e sz bytes k nm a x xs ys):((bW s).del k).clear nm:=by
 exact ah8
def EL.st (h:EL P E l ds s C Cs t e sz bytes k nm a x xs ys):((bW s).del k).set nm (.arr e sz (Cs xs++Cs ys))=bW ((nm,.arr e sz (Cs (xs++ys)))::ug k s):=by
 rw[<- BK,show Cs xs++Cs ys=Cs (xs++ys) by rw[h.yT,h.yT,h.yT,rm]];rfl
def aaC (nm:Nat) (h:EL P E l ds s C Cs t e sz bytes k nm a x xs ys) (hd:Nat.blt d n=true) (hn:SL P E n ops Q rest (cA ((d,.arr nm (List.length (xs++ys)))::l) ds) (bW ((nm,.arr e sz (Cs (xs++ys)))::ug k s))) :
  SL P E n ops Q (⟨some d,.call ⟨.builtin .append,#[a,x],#[t,t]⟩,ty,pos,af,none⟩::rest) (cA l ds) (bW s):=by
 refine rn rfl (He (nm:=nm) rfl h.hT h.hB (dX h.hs) M5 Qv h.srp ŧ U1 h.clr h.hE h.hg.1 h.hg.2 B3 ?_)
 rw[h.st,<- eb];exact hn
end
end
section
variable {P:Program} {Q:gJ} {B:List Rec->k9->fC->Prop} {i:Nat} {L:List Nat} {bk:List Rec} {l:List (Nat×AV)} {ds:List (FuncId×List AV)} {s:List (Nat×cV)}
 {ty:TypeId} {pos:String} {af:Array Edge}
def aaD {a:Operand} {bytes:Nat} {gd:Option (Nat×Bool)} (nm:Nat) {ys:List α} (ho:ops[i]?=some ⟨some d,.call ⟨.builtin .append,#[a,x],#[t,t]⟩,ty,pos,af,gd⟩) (hw:oL ops ⟨some d,.call ⟨.builtin .append,#[a,x],#[t,t]⟩,ty,pos,af,gd⟩ (cA l ds)) (h:EL P E l ds s C Cs t e sz bytes k nm a x xs ys) (hd:Nat.blt d n=true) (pL:nX bk=true) (hn:qR ops i ((nm,.arr e sz (Cs (xs++ys)))::ug k s) bk/\pq P E n ops Q B L bk (cA ((d,.arr nm (List.length (xs++ys)))::l) ds) (bW ((nm,.arr e sz (Cs (xs++ys)))::ug k s))) :
  pq P E n ops Q B (i::L) bk (cA l ds) (bW s):=by
 refine ⟨_,ho,.fO hw rfl (.VT (nm:=nm) rfl h.hT h.hB (dX h.hs) M5 Qv h.srp ŧ U1 h.clr h.hE h.hg.1 h.hg.2 B3 ?_)
  Y8⟩
 rw[h.st,<- eb]
 exact ad7
def afo {el:TypeId} {ii:Int} (ho:ops[i]?=some ⟨none,.store t x y,ty,pos,af,none⟩) (h:StA P C Cs l s t x y k off m sz el ii xs a a' v vs) (pL:nX bk=true) (hn:qR ops i ((k,.arr el sz (Cs (xs.set ii.toNat a')))::ug k s) bk/\pq P E n ops Q B L bk (cA l ds) (bW ((k,.arr el sz (Cs (xs.set ii.toNat a')))::ug k s))):pq P E n ops Q B (i::L) bk (cA l ds) (bW s):=by
 refine ⟨_,ho,.fO (.inl rfl) rfl (.store rfl rfl (dX h.hx) M5 rfl (by rw[dX h.hy];exact h.hv) (KB h.h1) (by rw[ik,h.hm];exact h.ht) h.le (λ_=>⟨_,rfl⟩) ?_) Y8⟩;rw[h.Xw,<- Rp];exact ad7
def TU (ho:ops[i]?=some ⟨some d,.assign x,ty,pos,af,none⟩) (hx:bU l x=some v) (hd:Nat.blt d n=true) (hs:qR ops i s bk) (pL:nX (mK ops bk i)=true) (hn:pq P E n ops Q B L bk (cA ((d,v)::l) ds) (bW s)):pq P E n ops Q B (i::L) bk (cA l ds) (bW s):=
 ⟨_,ho,.fO (.inl rfl) rfl (.ev (v:=v) acL B3
  ⟨λr hr=>⟨λp hp=>(let ⟨e,h1,h2⟩:=hs r hr p hp;⟨e,fK h1,h2⟩),λnm q=>by rw[qo pL r hr] at q;cases q⟩,hn⟩) (λr _ k hk=>by cases hk)⟩
def XW {e:cV} {c:List AV} [ht:yR P t m] (ho:ops[i]?=some ⟨none,.store t x y,ty,pos,af,none⟩) (h:bU l x=some (.ptr k off)/\dJ s k=some e/\e.F5=true/\bU l y=some v/\v.jG=some c/\AV.p9 c=true/\c.length=m/\Nat.ble (off+c.length) e.cells.length=true) (pL:nX (mK ops bk i)=true) (hn:∀ e',e.put off c=e'->qR ops i ((k,e')::s) bk/\pq P E n ops Q B L bk (cA l ds) (bW ((k,e')::s))):pq P E n ops Q B (i::L) bk (cA l ds) (bW s):=by
 obtain ⟨hx,hk,Cw,hy,hc,h1,hm,hl⟩:=h;have Ms:=gq hl;obtain ⟨Fy,hn⟩:=hn _ rfl;refine ⟨_,ho,.fO (.inl rfl) rfl (.store rfl rfl kp M8 (H8 Cw) ZH h1 U5 Ms (H9 Cw) ?_) (λr hr k' _=>by rw[qo pL r hr];simp)⟩;rw[put_eq Cw Ms];exact ⟨λr hr=>⟨λp hp=>(let ⟨e,h1,h2⟩:=Fy r hr p hp;⟨e,fK h1,h2⟩),λnm q=>by rw[qo pL r hr] at q;cases q⟩,hn⟩
def Am (nm:Nat):List Rec->Bool
 | []=>true
 | r::rs=>(match r.nm with|none=>true|some k=>!Nat.beq k nm)&&r.rd.all (λp=>!Nat.beq p.1 nm)&&Am nm rs
def uF {nm:Nat}:∀ {bk:List Rec},Am nm bk=true->∀ r,r∈bk->r.nm≠some nm/\∀ p,p∈r.rd->p.1≠nm
 | [],_,r,hr=>by cases hr
 | a::rs,h,r,hr=>by
  simp only[Am,bm,jm] at h;rcases cb.1 hr with q|q
  ·subst q;refine ⟨λq=>?_,λp hp q=>?_⟩
   ·have:=h.1.1;rw[q] at this;simp at this
   have:=h.1.2 p hp;rw[q] at this;simp at this
  exact uF h.2 r q
def afp {op:Op} {e:cV} {gd:Option (Nat×Bool)} (nm:Nat) (ho:ops[i]?=some ⟨some d,op,ty,pos,af,gd⟩) (hw:oL ops ⟨some d,op,ty,pos,af,gd⟩ (cA l ds)) (h:QU P op (cA l ds) nm e v) (hE:E.fix nm=none) (hm:mW nm l=false/\ko nm ds=false/\qb nm s=false/\dJ s nm=none) (hh:fO ⟨some d,op,ty,pos,af,gd⟩=false/\Nat.blt d n=true/\nX (mK ops bk i)=true/\Am nm bk=true) (hv:AV.jh.kJ nm e.cells=false) (hn:pq P E n ops Q B L (⟨i,some d,[],some nm⟩::bk) (cA ((d,v)::l) ds) (bW ((nm,e)::s))):pq P E n ops Q B (i::L) bk (cA l ds) (bW s):=by
 have hs:bW s nm=none:=by
  have:=Dh (l:=s) (i:=nm);simp only[bW];rw[this];exact hm.2.2.2
 exact ⟨_,ho,.nw hw hh.1 h (uA hm.1 hm.2.1) (Ay hm.2.2.1) hs hE (Ob hh.2.1) (λr hr k q=>by rw[qo hh.2.2.1 r hr] at q;cases q)
  (λr hr=>(uF hh.2.2.2 r hr).1) (λr hr=>(uF hh.2.2.2 r hr).2) hv hn⟩
def ς {z:List Value} [hz:ru P t z] {zs:List AV} {gd:Option (Nat×Bool)} (ho:ops[i]?=some ⟨some d,.alloc t,ty,pos,af,gd⟩) (hw:oL ops ⟨some d,.alloc t,ty,pos,af,gd⟩ (cA l ds)) (nm:Nat) (hE:E.fix nm=none) (hm:z.map (λv=>AV.pv (.sc v))=zs/\mW nm l=false/\ko nm ds=false/\qb nm s=false/\dJ s nm=none) (hh:fO ⟨some d,.alloc t,ty,pos,af,gd⟩=false/\Nat.blt d n=true/\Am nm bk=true/\Am nm bk=true) (hn:pq P E n ops Q B L (⟨i,some d,[],some nm⟩::bk) (cA ((d,.ptr nm 0)::l) ds) (bW ((nm,.box zs)::s))):pq P E n ops Q B (i::L) bk (cA l ds) (bW s):=by
 obtain ⟨h1,h2⟩:=hm;subst h1;have this:∀ (k:Nat) (z:List Value),AV.jh.kJ k (z.map λv=>AV.pv (.sc v))=false:=λk z=>by
  induction z with
  | nil=>rfl
  | cons a z ih=>simp[AV.jh.kJ,AV.jh,ih]
 have hs:bW s nm=none:=by
  have:=Dh (l:=s) (i:=nm);simp only[bW];rw[this];exact h2.2.2.2
 refine ⟨_,ho,.nw hw hh.1 (QV nm hz.h) (uA h2.1 h2.2.1) (Ay h2.2.2.1) hs hE (Ob hh.2.1) (λr hr k q=>⟨?_,this k z⟩)
  (λr hr=>(uF hh.2.2.2 r hr).1) (λr hr=>(uF hh.2.2.2 r hr).2) (this nm z) hn⟩
 have uB:=(uF hh.2.2.2 r (ij.1 hr).1).1;have:nm≠k:=λe=>uB (by rw[q,e]);simpa[AV.jh] using this
def afq (xs:List α) (yT:∀ l,Cs l=l.flatMap C) (hC:∀ x,(C x).length=sz) {zs:List Value} {gd:Option (Nat×Bool)} [ht:nQ P t m e sz zs pl] (ho:ops[i]?=some ⟨some d,.buildSlice t m parts.toArray,ty,pos,af,gd⟩) (hw:oL ops ⟨some d,.buildSlice t m parts.toArray,ty,pos,af,gd⟩ (cA l ds)) (nm:Nat) (hE:E.fix nm=none) (h:parts.mapM (λp=>(bU l p.2).map λv=>(p.1,v))=some pv/\nW pl (zs.map λv=>.pv (.sc v)) pv=some ((xs.flatMap C).map .pv)/\xs.length=m/\Nat.ble m 1000=true) (hm:mW nm l=false/\ko nm ds=false/\qb nm s=false/\dJ s nm=none) (hh:fO ⟨some d,.buildSlice t m parts.toArray,ty,pos,af,gd⟩=false/\Nat.blt d n=true/\nX (mK ops bk i)=true/\Am nm bk=true) (hn:pq P E n ops Q B L (⟨i,some d,[],some nm⟩::bk) (cA ((d,.arr nm xs.length)::l) ds) (bW ((nm,.app e sz (Cs xs))::s))):pq P E n ops Q B (i::L) bk (cA l ds) (bW s):=by
 rw[h.2.2.1] at hn;refine afp nm ho hw (IS nm ht.h ?_ ?_ aej) hE hm hh (by simp only[cV.cells];exact yd _ _) hn
 ·rw[CH h.1,yT];exact h.2.1
 rw[yT,tZ hC,h.2.2.1]
end
section
variable {P:Program} {Q:gJ} {l:List (Nat×AV)} {ds:List (FuncId×List AV)} {s:List (Nat×cV)}
 {ty:TypeId} {pos:String} {af:Array Edge}
def afr {zs:List Value} [ht:nQ P t m e sz zs pl] (nm:Nat) (xs:List α) (yT:∀ l,Cs l=l.flatMap C) (hC:∀ x,(C x).length=sz) (hE:E.fix nm=none) (h:parts.mapM (λp=>(bU l p.2).map λv=>(p.1,v))=some pv/\nW pl (zs.map λv=>.pv (.sc v)) pv=some ((xs.flatMap C).map .pv)/\xs.length=m/\Nat.ble m 1000=true) (hm:mW nm l=false/\ko nm ds=false/\qb nm s=false) (hd:Nat.blt d n=true) (hn:SL P E n ops Q rest (cA ((d,.arr nm xs.length)::l) ds) (bW ((nm,.app e sz (Cs xs))::s))):SL P E n ops Q (⟨some d,.buildSlice t m parts.toArray,ty,pos,af,none⟩::rest) (cA l ds) (bW s):=by
 rw[h.2.2.1,yT] at hn;exact M' nm hE ⟨h.1,h.2.1,by rw[tZ hC,h.2.2.1],h.2.2.2⟩ hm hd hn
def aaE {zs:List Value} [ht:nQ P t m e sz zs pl] (nm:Nat) (xs:List α) (yT:∀ l,Cs l=l.flatMap C) (hC:∀ x,(C x).length=sz) (hE:E.fix nm=none) (h:parts.mapM (λp=>(bU l p.2).map λv=>(p.1,v))=some pv/\nW pl (zs.map λv=>.pv (.sc v)) pv=some ((xs.flatMap C).map .pv)/\xs.length=m/\Nat.ble m 1000=true) (hm:mW nm l=false/\ko nm ds=false/\qb nm s=false) (hd:Nat.blt d n=true) (hn:SL P E n ops Q rest (cA ((d,.arr nm xs.length)::l) ds) (bW ((nm,.arr e sz (Cs xs))::s))):SL P E n ops Q (⟨some d,.buildSlice t m parts.toArray,ty,pos,af,none⟩::rest) (cA l ds) (bW s):=by
 rw[h.2.2.1,yT] at hn;refine rn rfl (JC (Mu nm ht.h ?_ (by rw[tZ hC,h.2.2.1]) aej) acW IB hE B3 hn);rw[CH h.1];exact h.2.1
def KY {fr:k9} {n:Nat} {zs:List Value} {places:List (Nat×Nat)} {cells:List PV} (ht:Kv P t n=some (e,sz,zs,places)) (h:nW places (zs.map λv=>.pv (.sc v)) (parts.map λp=>(p.1,fr.val p.2))=some out) (hn:AV.V8 out=cells.map .pv):Z5 P (.buildSlice t n parts.toArray) fr (.pv (.sl n cells)):=by
 intro o ho g ev w hv;obtain ⟨place,hp,hzl,hb⟩:=wC ht;obtain ⟨lO,hf,hr⟩:=CA (g:=g) (vs:=parts.map λp=>(p.1,ev p.2)) (cs:=zs.toArray) hp h Zr bn
  (Fj λp hp=>hv p.2 Vs) trivial (CB h)
 have e1:(parts.toArray.map λ(x:Nat×Operand)=>(x.1,ev x.2)).toList=parts.map λp=>(p.1,ev p.2):=by simp
 have pN:=hb (parts.toArray.map λ(x:Nat×Operand)=>(x.1,ev x.2)) lO w Vl;have hps:=vk.H2 (g:=g) (ps:=cells) (by rw[<- hn];exact (tj out).vrs hr);exact ahP
def aaF (xs:List α) (yT:∀ l,Cs l=l.flatMap C) {j g:Nat} {want b:Bool} {zs:List Value} [ht:nQ P t m e sz zs pl] (hb:b=want) (hj:(ops[j]?).bind (·.dst)=some g/\mL l g=some (Bo b)) (h:parts.mapM (λp=>(bU l p.2).map λv=>(p.1,v))=some pv/\nW pl (zs.map λv=>.pv (.sc v)) pv=some ((xs.flatMap C).map .pv)) (hd:Nat.blt d n=true) (hn:SL P E n ops Q rest (cA ((d,.pv (.sl m (Cs xs)))::l) ds) (bW s)):SL P E n ops Q (⟨some d,.buildSlice t m parts.toArray,ty,pos,af,some (j,want)⟩::rest) (cA l ds) (bW s):=by
 subst hb;rw[yT] at hn;exact G8 rfl hj.1 (jY hj.2) B3 (λ_=>VM (B6 ht.h (by rw[CH h.1];exact h.2)) B3 hn) (λq=>ao rfl q)
end
section
variable {P:Program} {Q:gJ} {B:List Rec->k9->fC->Prop} {i:Nat} {L:List Nat} {bk:List Rec} {l:List (Nat×AV)} {ds:List (FuncId×List AV)} {s:List (Nat×cV)}
 {ty:TypeId} {pos:String} {af:Array Edge}
def afs (xs:List α) (yT:∀ l,Cs l=l.flatMap C) {zs:List Value} {gd:Option (Nat×Bool)} [ht:nQ P t m e sz zs pl] (ho:ops[i]?=some ⟨some d,.buildSlice t m parts.toArray,ty,pos,af,gd⟩) (hw:oL ops ⟨some d,.buildSlice t m parts.toArray,ty,pos,af,gd⟩ (cA l ds)) (h:parts.mapM (λp=>(bU l p.2).map λv=>(p.1,v))=some pv/\nW pl (zs.map λv=>.pv (.sc v)) pv=some out/\AV.V8 out=(xs.flatMap C).map .pv) (hc:fO ⟨some d,.buildSlice t m parts.toArray,ty,pos,af,gd⟩=false/\Nat.blt d n=true) (hn:pq P E n ops Q B L (⟨i,some d,[],none⟩::bk) (cA ((d,.pv (.sl m (Cs xs)))::l) ds) (bW s)):pq P E n ops Q B (i::L) bk (cA l ds) (bW s):=by
 refine ⟨_,ho,.fz hw hc.1 (v:=.pv (.sl m (Cs xs))) ?_ (Ob hc.2) (λ_ _ _ _=>rfl) hn⟩;rw[yT];exact KY ht.h (by rw[CH h.1];exact h.2.1) h.2.2
end
end
section
variable {f:FuncId} {es:List cV} {X:Type} {V:X->AV} {C:X->List cV} {x:aI α} {R:G7->fC->Prop} {res:aI X} {kC:FuncId} {cap:List AV} {V':X->AV} {C':X->List (Nat×cV)} {fS first vs:List AV}
theorem rU {P:Program} {args:List AV}:CT P f args es (aI.stuck:aI X) V C:=⟨λ_ h hs=>ao h.symm hs⟩
variable {H:sX->aI α} {rO:aI α} {p:sX}
def Ju {r:aI α} (hc:AX r H=rO) (hp:r=.ry p):H p=rO:=by subst hp;exact hc
def UU {r:aI α} {x:α} (hc:AX r H=rO) (h:r=.ok x):rO=.ok x:=by subst h;exact hc.symm
def AV.wk:AV->AV
 | .ptr k o=>.ptr k o
 | _=>.any
def AV.ai2 (v:AV):v.le v.wk:=by
 cases v<;>first|exact iz _|exact AV.TQ _
def τ:∀ cs:List AV,F2 cs (cs.map AV.wk)
 | []=>.nil
 | c::cs=>.cons (AV.ai2 c) (τ cs)
section
variable {P:Program} {Q:gJ} {l:List (Nat×AV)} {ds:List (FuncId×List AV)} {s:List (Nat×cV)}
def wkS:List Nat->List (Nat×cV)->Option (List (Nat×cV))
 | [],s=>some s
 | k::ks,s=>match wkS ks s with
  | some s'=>match dJ s' k with
   | some (.box cs)=>some ((k,.box (cs.map AV.wk))::s')
   | _=>none
  | none=>none
def ai4:∀ {ks:List Nat} {s':List (Nat×cV)},wkS ks s=some s'->mM E n l ds s l s'
 | [],s',h=>by simp[wkS] at h;subst h;exact aay l s
 | k::ks,s',h=>by
  simp only[wkS] at h;split at h
  ·rename_i s1 h1;split at h
   ·rename_i cs h2;cases h;exact (ai4 h1).trans (Wb h2 (τ cs))
   cases h
  cases h
def Ii (P:Program) (E:Env) (n:Nat) (fn:Func) (R:G7->fC->Prop):gJ
 | .panic v,fr,σ=>wo P fn R (.panic v) fr σ\/∃ l kC cap c s s',fr=cA l [(kC,cap)]/\σ=bW s/\(∀ g c',VR g v c'->c'=c)/\mM E n l [(kC,cap)] s l s'/\XN P E fn R kC cap (some c) (cA l [(kC,cap)]) (bW s')
 | e,fr,σ=>IA P E fn R e fr σ
def LQ.dg {e:Exit} {a:Act} {w:World} (h:LQ E n (Ii P E n fn R) e a w):LQ E n (IA P E fn R) e a w:=by
 obtain ⟨g,ae,fr,σ,q,hx,hR,hF⟩:=h;cases hx with
 | normal=>exact ⟨g,.normal,fr,σ,q,.normal,hR,hF⟩
 | exit id=>exact ⟨g,.exit id,fr,σ,q,.exit id,hR,hF⟩
 | goto id=>exact ⟨g,.goto id,fr,σ,q,.goto id,hR,hF⟩
 | ret=>exact ⟨g,.ret,fr,σ,q,.ret,hR,hF⟩
 | @panic v c0 hv=>
  rcases q with q|⟨l,kC,cap,c,s,s',rfl,rfl,hc,hg,hq⟩
  ·exact ⟨g,.panic v,fr,σ,(show IA P E fn R (.panic v) fr σ from .inl q),.panic hv,hR,hF⟩
  ·obtain ⟨g',lq,tt⟩:=hg g a w hR hF;have hcc:=hc _ _ hv;subst hcc;exact akO
theorem Fo {c:Code} {args:List AV} (hf:P.funcs[f]?=some fn) (hb:fn.body=some c) (hn:Nat.ble args.length fn.ntmps=true) (h:∀ r,res=r->r≠.stuck->∀ E:Env,(∀ k,fu es k=true->E.fix k=none)->
   SW P E fn.ntmps c (Ii P E fn.ntmps fn (zh V C (λx=>r=.ok x) (λv=>∃ p,r=.ry p/\v=p.av))) (cA ((List.range args.length).zip args) []) (bW (gK 0 es))):CT P f args es res V C:=
 η hf hb hn λr hr hs E hE=>λg a w hR hF=>wp_mono (h r hr hs E hE g a w hR hF) λ_ _ _ q=>q.dg
def Js (Ta:ae=.ret\/ae=.normal) (h:wo P fn R ae fr σ):Ii P E n fn R ae fr σ:=by
 rcases Ta with rfl|rfl
 ·exact ι (.inl rfl) h
 exact ι (.inr rfl) h
def JJ {r:aI X} (hd:fr.ds=[]) (h:r=.ry p) :
 Ii P E n fn (zh V C (λx=>r=.ok x) (λv=>∃ p,r=.ry p/\v=p.av)) (.panic p.av) fr σ:=.inl (O' hd h)
variable {FH:List AV}
def vM (Ta:ae=.ret\/ae=.normal) (ks:List Nat) (wu:Enters P kC) (hC:XM P kC FH es none (aI.ok ()) (λ_=>es)) (hk:Wj E l s ks cap FH es) (hx:qe (below ks.length) es=true) {s':List (Nat×cV)} (hs:tK ks (qd (nth ks) es)++s=s') (oB:wo P fn R .ret (cA l []) (bW s')):Ii P E n fn R ae (cA l [(kC,cap)]) (bW s):=by
 have hl:es.length=ks.length:=by
  have:=(AR hk.gs).1;rwa [sZ] at this
 have:=XS (E:=E) Ta ks wu hC hk (λ_=>⟨hl,hx⟩) hs oB;rcases Ta with rfl|rfl
 ·exact this
 exact this
def Db {T:TypeId} (ks:List Nat) {s1:List (Nat×cV)} (wu:Enters P kC) (hC:XM P kC FH es (some (.iface T (.agg #[.int .i64 v]))) res C) (Kk:res≠.stuck) (hw:wkS ks s=some s1) (hk:Wj E l s1 ks cap FH es) (hx:∀ x,(C x).length=ks.length/\qe (below ks.length) (C x)=true) (oB:∀ x,res=.ok x->wo P fn R .ret (cA l []) (bW (tK ks (qd (nth ks) (C x))++s1))):Ii P E n fn R (.panic (sX.av ⟨T,[.sc (.int .i64 v)]⟩)) (cA l [(kC,cap)]) (bW s):=
 .inr ⟨l,kC,cap,_,s,s1,rfl,rfl,λ_ _ h=>θ h,ai4 hw,adu wu hC Kk hk hx oB⟩
def υ (R:fC->Prop):gJ
 | .normal,fr,σ|.ret,fr,σ=>fr.ds=[]/\∃ σ',(∀ k e,σ' k=some e->σ k=some e)/\R σ'
 | _,_,_=>False
def HS (Ta:ae=.ret\/ae=.normal) {r:aI X} (x:X) (hg:r=.ok x) (hm:Ia s 0 (C x)):υ (λσ=>∃ x,r=.ok x/\σ=bW (gK 0 (C x))) ae (cA l []) (bW s):=by
 have h:(cA l []).ds=[]/\∃ σ',(∀ k e,σ' k=some e->bW s k=some e)/\∃ x,r=.ok x/\σ'=bW (gK 0 (C x)):=
  ⟨rfl,bW (gK 0 (C x)),Rd (λj e hj=>by have:=Ib hm j e hj;simpa using this),x,hg,rfl⟩
 rcases Ta with rfl|rfl
 ·exact h
 exact h
def QN {r:aI Unit} (h:aI.ok ()=r) (Ta:ae=.ret\/ae=.normal:=by first|exact .inr rfl|exact .inl rfl):υ (λσ=>∃ x,r=.ok x/\σ=bW (gK 0 ((λ_:Unit=>es) x))) ae (cA l []) (bW (gK 0 es)):=by
 have q:(cA l []).ds=[]/\∃ σ',(∀ k e,σ' k=some e->bW (gK 0 es) k=some e)/\∃ x,r=.ok x/\σ'=bW (gK 0 ((λ_:Unit=>es) x)):=⟨rfl,_,λ_ _ h=>h,(),h.symm,rfl⟩;rcases Ta with rfl|rfl
 ·exact q
 exact q
def yf {y:Code} {id d1 d2:Nat} {ts ty1 ty2:_} {p1 p2:String} {a1 a2:Array Edge} {m:Option Value} {mv:AV} (hmv:∀ g,VR g mv (m.getD .nilIface)) (hf:P.funcs[f]?=some fn) (hb:fn.body=some (.seq (.region id #[⟨some d1,.call ⟨.builtin .recover,#[],ts⟩,ty1,p1,a1,none⟩,⟨some d2,.assign (.tmp d1),ty2,p2,a2,none⟩] false) y)) (hres:fn.results = #[]) (hn:(Nat.ble cap.length fn.ntmps&&Nat.blt d1 fn.ntmps&&Nat.blt d2 fn.ntmps)=true) (h:∀ r,res=r->r≠.stuck->∀ E:Env,(∀ k,fu es k=true->E.fix k=none)->
   SW P E fn.ntmps y (υ (λσ=>∃ x,r=.ok x/\σ=bW (gK 0 (C x)))) (cA ((d2,mv)::(d1,mv)::(List.range cap.length).zip cap) []) (bW (gK 0 es))):XM P f cap es m res C:=by
 intro r hr hs wS g w vs u hR hv hu
 simp only[bm] at hn
 have hn1:=gq hn.1.1
 have hd1:d1<fn.ntmps:=by simpa[ta] using hn.1.2
 have Hg:d2<fn.ntmps:=by simpa[ta] using hn.2
 have hlen:=hv.length
 let E:=Env.of wS g (bW (gK 0 es)) w
 have hE:∀ k,fu es k=true->E.fix k=none:=λk hk=>by
  have h3:∀ (es:List cV) (k:Nat),fu es k=true->∀ cs,es[k]?≠some (.box cs):=by
   intro es
   induction es with
   | nil=>intro k _ cs;simp
   | cons e es ih=>
    intro k hk cs
    cases k with
    | zero=>intro q;simp at q;subst q;simp[fu] at hk
    | succ k=>simpa using ih k (by cases e<;>simpa[fu] using hk) cs
  simp only[E,Env.of]
  split
  ·rename_i cs xJ
   obtain ⟨_,h2⟩:=pQ xJ
   exact ao xq (h3 es k hk cs)
  ·rfl
 have hW:=h r hr hs E hE
 refine callsD_of_wpS hf hb λc₀ cs hcm=>?_
 let a0:Act:={ tmps:=vs.toArray++Array.replicate (fn.ntmps - vs.toArray.size) undef,defers:=[] }
 have hF0:FR fn.ntmps g (cA ((List.range cap.length).zip cap) []) a0:=by
  rw[<- KO]
  refine ⟨by simp[a0];omega,λi=>?_,.nil⟩
  rw[e7]
  rcases fN i cap.length with q|q
  ·obtain ⟨c,h1,h2⟩:=hv.get i cap[i] bn
   have:a0.tmps[i]?=some c:=by
    simp only[a0];rw[pP qI];simpa using h1
   rw[this]
   simp[q];exact h2
  ·have e:cap[i]?=none:=gv q
   simp only[e,AI];exact .any _
 have hF1:=hF0.put (d:=some d1) (v:=mv) (c:=m.getD .nilIface) (λx hx=>by cases hx;exact hd1) (hmv g)
 have VU:=hF1.put (d:=some d2) (v:=mv) (c:=m.getD .nilIface) (λx hx=>by cases hx;exact Hg) (hmv g)
 rw[QY,QY] at VU
 have hwp:=hW g _ w hR VU
 have fin:∀ u',(settle u'=.returning)->y.wpS P (bodyPostS P fn c₀ cs λe u' w'=>(∃ v,e=.returned v)/\settle u'=.returning/\∃ g' σ',(∃ x,r=.ok x/\σ'=bW (gK 0 (C x)))/\Rel E g' σ' w')
   ((a0.put (some d1) (m.getD .nilIface)).put (some d2) (m.getD .nilIface)) ({ c₀ with mode:=u' }::cs) w:=λu' hu'=>by
  refine wpS_of_wp (wp_mono hwp λe a w' hq=>?_)
  obtain ⟨g',ae,pn,σ',q,hx,lq,tt⟩:=hq
  have res:(results fn a.tmps).run P w'=.ok (.tuple #[]) w':=by
   rw[Kn,hres];simp
  cases hx with
  | normal=>
   exact air
  | ret=>
   exact air
  | exit id=>exact q.elim
  | goto l=>exact q.elim
  | panic hv=>exact q.elim
 refine wpS_seq (wpS_region ?_)
 have HJ:List.range #[(⟨some d1,.call ⟨.builtin .recover,#[],ts⟩,ty1,p1,a1,none⟩:Oper),⟨some d2,.assign (.tmp d1),ty2,p2,a2,none⟩].size=[0,1]:=rfl
 rw[HJ]
 have hrec:∀ a:Act,(execOp a.eval (⟨some d1,.call ⟨.builtin .recover,#[],ts⟩,ty1,p1,a1,none⟩:Oper)).run P w=.ok .recover w:=λa=>by
  simp[execOp,resolve,invoke,builtin]
 have hev:∀ (a:Act) (c:Value),(a.put (some d1) c).tmps.getD d1 undef=c\/¬ d1<a.tmps.size:=λa c=>by
  by_cases q:d1<a.tmps.size
  ·left;simp[Act.put,q]
  ·right;exact q
 have Ma:d1<a0.tmps.size:=by rw[hF0.size];exact hd1
 have hasg:∀ c:Value,(execOp (a0.put (some d1) c).eval (⟨some d2,.assign (.tmp d1),ty2,p2,a2,none⟩:Oper)).run P w=.ok (.value c) w:=λc=>by
  have:=(hev a0 c).resolve_right (λq=>q Ma)
  simp[execOp,Act.eval,this]
 cases m with
 | none=>
  have hu':c₀.mode=.returning:=hcm.trans hu
  have EA:recoverD (c₀::cs)=none:=by simp[recoverD,hu']
  simp only[wpOpsS,List.getElem?_toArray,rA,oA,Region.wanted,if_true,hrec,EA]
  rw[show (Value.nilIface)=(none:Option Value).getD .nilIface from rfl,hasg]
  simp only[Oper.upon,Exit.thenS]
  exact fin c₀.mode (by rw[hu'];rfl)
 | some c=>
  have hu':c₀.mode=.panicking [{ v:=c,recovered:=false }]:=hcm.trans hu
  have EA:recoverD (c₀::cs)=some (c,{ c₀ with mode:=.panicking [{ v:=c,recovered:=true }] }::cs):=by simp[recoverD,hu']
  simp only[wpOpsS,List.getElem?_toArray,rA,oA,Region.wanted,if_true,hrec,EA]
  rw[hasg]
  simp only[Oper.upon,Exit.thenS]
  exact fin _ rfl
def NP {α:Type} (x:aI α):Prop:=∀ p,x≠.ry p
def NP.ok (a:α):NP (aI.ok a):=λ_ h=>by cases h
def NP.stuck:NP (aI.stuck:aI α):=λ_ h=>by cases h
def uh:=@NP.stuck
def NP.br {b:Bool} {y:aI α} (hx:NP x) (hy:NP y):NP (aI.br b x y):=by cases b<;>assumption
def NP.gd {p:Prop} [Decidable p] (hx:NP x):NP (aI.gd p x):=by unfold aI.gd;split;exact hx;exact uh
def NP.el {l:List β} {i:Int} {k:β->aI α} (hk:∀ x,NP (k x)):NP (aI.el l i k):=by
 unfold aI.el;split
 ·split
  ·exact hk _
  exact uh
 exact uh
def NP.some? {α β:Type} {o:Option β} {k:β->aI α} (hk:∀ x,NP (k x)):NP (aI.some? o k):=by cases o;exact uh;exact hk _
def NP.bind {k:α->aI β} (hx:NP x) (hk:∀ a,NP (k a)):NP (ag x k):=by
 cases x with
 | stuck=>exact uh
 | ry p=>exact ao rfl (hx p)
 | ok a=>exact hk a
def NP.jn {j:X->aI α} {p:(X->aI α)->aI α} (h:∀ j,(∀ x,NP (j x))->NP (p j)) (hj:∀ x,NP (j x)):NP (aI.jn j p):=h j hj
def NP.iter {body:(X->aI α)->X->aI α} (h:∀ nx,(∀ x,NP (nx x))->∀ x,NP (body nx x)):∀ (n:Nat) (x:X),NP (aI.iter body n x)
 | 0,_=>uh
 | n+1,x=>h _ (λy=>NP.iter h n y) x
end
section
variable {P:Program} {Q:gJ} {B:List Rec->k9->fC->Prop} {L:List Nat} {bk:List Rec} {l:List (Nat×AV)} {ds:List (FuncId×List AV)} {s:List (Nat×cV)}
 {ty:TypeId} {pos:String} {af:Array Edge}
def aeo {R:Type} {kk:X->aI R} {r:aI R} {f:Operand} (hr:r≠.stuck) (h:ag res kk=r) (ks:List Nat) (wu:Enters P kC) (hC:CT P kC fS es res V C) (hk:vL E ds l s ks f args kC fS es first cap vs) (hd:Nat.blt d n=true) (hx:∀ x,(C x).length=ks.length/\qe (below ks.length) (C x)=true/\(V x).only (below ks.length)=true) (hV:∀ x,(V x).mh (nth ks)=V' x/\tK ks (qd (nth ks) (C x))=C' x) (hnp:NP res) (oB:∀ x,kk x=r->SL P E n ops Q rest (cA ((d,V' x)::l) ds) (bW (C' x++s))) :
  SL P E n ops Q (⟨some d,.call ⟨.value f,args.toArray,ts⟩,ty,pos,af,none⟩::rest) (cA l ds) (bW s):=by
 obtain ⟨Kk,GX,hp⟩:=B5 hr h
 refine rn rfl (XH ks wu rfl (hC.h res rfl Kk) hk B3 (λx _=>hx x) (λx hg=>?_) (λv hv=>?_))
 ·exact aes
 ·obtain ⟨p,Fm,_⟩:=hv
  exact ao Fm (hnp p)
def aft {R:Type} {kk:X->aI R} {r:aI R} {f:Operand} {gd:Option (Nat×Bool)} (ho:ops[i]?=some ⟨some d,.call ⟨.value f,args.toArray,ts⟩,ty,pos,af,gd⟩) (hw:oL ops ⟨some d,.call ⟨.value f,args.toArray,ts⟩,ty,pos,af,gd⟩ (cA l ds)) (hr:r≠.stuck) (h:ag res kk=r) (ks:List Nat) (wu:Enters P kC) (hC:CT P kC fS es res V C) (hk:vL E ds l s ks f args kC fS es first cap vs) (hd:Nat.blt d n=true) (pL:EI ks bk=true) (hx:∀ x,(C x).length=ks.length/\qe (below ks.length) (C x)=true/\(V x).only (below ks.length)=true) (hV:∀ x,(V x).mh (nth ks)=V' x/\tK ks (qd (nth ks) (C x))=C' x) (hnp:NP res) (oB:∀ x,kk x=r->qR ops i (C' x++s) bk/\pq P E n ops Q B L bk (cA ((d,V' x)::l) ds) (bW (C' x++s))):pq P E n ops Q B (i::L) bk (cA l ds) (bW s):=by
 obtain ⟨Kk,GX,hp⟩:=B5 hr h;refine V1 ho hw ks wu (hC.h res rfl Kk) hk hd pL (λx _=>hx x) (λv hv=>?_) (λx hg v' s' hv hs=>?_)
 ·obtain ⟨p,Fm,_⟩:=hv;exact ao Fm (hnp p)
 have:=oB x (GX x hg);rw[<- (hV x).1,<- (hV x).2] at this;subst hv hs;exact this
def afu {R:Type} {kk:X->aI R} {r:aI R} {f:Operand} {gd:Option (Nat×Bool)} (ho:ops[i]?=some ⟨some d,.call ⟨.value f,args.toArray,ts⟩,ty,pos,af,gd⟩) (hw:oL ops ⟨some d,.call ⟨.value f,args.toArray,ts⟩,ty,pos,af,gd⟩ (cA l ds)) (S7:mK ops bk i=[]) (hr:r≠.stuck) (h:ag res kk=r) (ks:List Nat) (wu:Enters P kC) (hC:CT P kC fS es res V C) (hk:vL E ds l s ks f args kC fS es first cap vs) (hbb:qp es=true) (hd:Nat.blt d n=true) (hx:∀ x,(C x).length=ks.length/\qe (below ks.length) (C x)=true/\(V x).only (below ks.length)=true) (hV:∀ x,(V x).mh (nth ks)=V' x/\tK ks (qd (nth ks) (C x))=C' x) {sp:List (Nat×cV)} (hsp:tK ks (qd (nth ks) (es.map cV.lost))++s=sp) (wm:∀ p,r=.ry p->Q (.panic p.av) (cA l ds) (bW sp)) (oB:∀ x,kk x=r->pq P E n ops Q B L bk (cA ((d,V' x)::l) ds) (bW (C' x++s))):pq P E n ops Q B (i::L) bk (cA l ds) (bW s):=by
 obtain ⟨Kk,GX,hp⟩:=B5 hr h;subst hsp;obtain ⟨hl,Km⟩:=AR hk.gs;rw[sZ] at hl;have hC':=(hC.h res rfl Kk).lost hbb;refine ⟨_,ho,.fO hw rfl (.call (nth ks) (List.range ks.length) wu rfl (dX hk.f) U0 hC' (λj hj=>by have:=C8 hj;simp;omega) (λj e hj=>?_)
  (λj hj=>by
   have zT:j<es.length:=by simp at hj;omega
   have:=AJ (i:=0) (az zT);simp at this;rw[this];rfl)
  acx B3 (λv σc hr=>?_) (λv σc hr=>?_)) (λr hr=>by rw[S7] at hr;cases hr)⟩
 ·exact ZN
 ·rcases hr with ⟨x,hg,he,rfl⟩|⟨_,_,he,_⟩
  ·cases he;obtain ⟨h1,h2,h3⟩:=hx x;refine ⟨CI vf hl hk.nd hk.bx hk.fx h1 h2 h3,?_⟩;rw[AW hk.nd h1,(hV x).1,(hV x).2];exact ⟨λr hr=>(by rw[S7] at hr;cases hr),oB x (GX x hg)⟩
  cases he
 rcases hr with ⟨_,_,he,_⟩|⟨v',⟨p,Fm,TV⟩,he,rfl⟩
 ·cases he
 cases he;subst TV;refine ⟨CI vf hl hk.nd hk.bx hk.fx (by simp[hl]) (Ig _ hbb) (p.only _),λpn σ' _ _ hq=>?_⟩;obtain ⟨rfl,rfl⟩:=hq S7;rw[AW hk.nd (by simp[hl]),CF (p.only _)];exact wm p (hp p Fm)
def ų (f:Int->AV):∀ {xs:List Int} {i:Nat} {v:Int},(xs.map f).take i++[f v]++(xs.map f).drop (i+1)=(xs.set i v).map f\/xs.length<=i:=by
 intro xs i v;rcases fN i xs.length with q|q
 ·left;rw[List.set_eq_take_append_cons_drop,aL q];simp
 exact .inr q
def alb (f:Int->AV):∀ {xs:List Int},xs.length=4->xs.map f=[f (tA xs 0),f (tA xs 1),f (tA xs 2),f (tA xs 3)]
 | [_,_,_,_],_=>rfl
def aaG (f:Int->AV) {t:TypeId} {x y:Operand} {k:Nat} {ii:Int} {xs:List Int} {cs lO:List AV} [ht:yR P t 1] (hx:bU l x=some (.ptr k (0+ii.toNat*1))) (hk:dJ s k=some (.box cs)) (hc:cs=xs.map f) (hy:bU l y=some (f v)) (h0:0<=ii) (h1:ii<xs.length) (ho:∀ v,(f v).jG=some [f v]/\AV.p9 [f v]=true) (hn':(Bq xs ii v).map f=lO) (hn:SL P E n ops Q rest (cA l ds) (bW ((k,.box lO)::s))):SL P E n ops Q (⟨none,.store t x y,ty,pos,af,none⟩::rest) (cA l ds) (bW s):=by
 have iy:ii.toNat<xs.length:=by omega
 refine rn rfl (De rfl rfl kp M8 rfl (by rw[dX hy];exact (ho v).1) (ho v).2 ht.h acy du ?_);have e1:(cV.box cs).Xw (0+ii.toNat*1) [f v]=.box lO:=by
  exact aid
 rw[e1];exact hn
end
end
section
def wkC:List AV->List AV->Prop
 | [],[]=>True
 | a::as,b::bs=>(a=b\/b=.any)/\wkC as bs
 | _,_=>False
def Wm:∀ {a b:List AV},wkC a b->F2 a b
 | [],[],_=>.nil
 | a::as,b::bs,h=>.cons (by rcases h.1 with q|q<;>subst q;exact iz _;exact AV.TQ _) (Wm h.2)
 | [],_::_,h=>h.elim
 | _::_,[],h=>h.elim
def afv (s':List (Nat×cV)):List (Nat×cV)->Prop
 | []=>True
 | p::ps=>(∃ e,dJ s' p.1=some e/\e.le p.2)/\afv s' ps
variable {s':List (Nat×cV)} {cs lO:List AV} {v:AV} {a b:TypeId} {y:Operand} {m:Nat} {Q:gJ}
def NH:∀ {l:List (Nat×cV)},afv s' l->∀ p,p∈l->∃ e,dJ s' p.1=some e/\e.le p.2
 | _::_,h,p,hp=>by
  rcases cb.1 hp with q|q
  ·subst q;exact h.1
  exact NH h.2 p q
def Wn (ops:Array Oper) (i:Nat) (s':List (Nat×cV)):List Rec->Prop
 | []=>True
 | r::rs=>(match r.rd with
  | []=>True
  | p::ps=>match ye ops ops.size i r.i with
   | true=>True
   | false=>afv s' (p::ps))/\Wn ops i s' rs
def qg {ops:Array Oper} {i:Nat} {bk:List Rec} (h:Wn ops i s' bk):qR ops i s' bk:=by
 induction bk with
 | nil=>intro r hr;simp[mK] at hr
 | cons a rs ih=>
  intro r hr p hp
  simp only[mK,ij,fD] at hr
  rcases cb.1 hr.1 with q|q
  ·subst q;have h1:=h.1;cases EA:r.rd with
   | nil=>rw[EA] at hp;cases hp
   | cons x xs=>
    rw[EA] at h1 hp
    simp only[hr.2] at h1
    exact NH h1 p hp
  ·exact ih h.2 r (by simp[mK,q,hr.2]) p hp
def cV.afw (h:wkC cs lO):cV.le (.box cs) (.box lO):=λ_ _ _ he=>Wa (Wm h) he
def oV:=@cV.afw
section
variable {P:Program} {l:List (Nat×AV)} {ds:List (FuncId×List AV)} {s:List (Nat×cV)}
def afx (lO:List AV) [ha:oM P t false] (hx:bU l x=some (.ptr k off)) (hk:dJ s k=some (.box cs)) (hw:wkC cs lO) (hv:lO[off]?=some v) :
  na P (.load t x) l ds s v [(k,.box lO)]:=
 ⟨Ew ha.h kp hv,λp hp=>by simp at hp;subst hp;exact ⟨_,fK hk,oV hw⟩⟩
def φ (f:α->β):∀ l:List α,(l.flatMap λx=>[f x])=l.map f
 | []=>rfl
 | x::l=>by simp[fE,φ f l]
def XY {f:α->β} (l:List α):(l.flatMap λx=>[f x]).length=l.length:=by rw[φ,ik]
def afy [ha:oM P t false] (hx:bU l x=some (.ptr k off)) (hk:dJ s k=some (.box cs)) (hv:cs[off]?=some .any) :
  na P (.load t x) l ds s .oc [(k,.box cs)]:=.on hk (by
 intro o ho g ev w hG GU hr
 have q:=GU x vd;rw[dX hx] at q
 have he:=hr (k,.box cs) bn
 generalize hq:ev x=c at q
 cases q with
 | ptr _ hb=>
  cases he with
  | box h hw hc h1=>
   rw[h] at hb;cases hb
   obtain ⟨v,hv1,_⟩:=hc.get off _ hv
   refine ⟨v,?_,.oc (h1 v (aQ hv1))⟩
   simp only[execOp,ho,hq,Instr.loadAt,Instr.sureAddr,cF,eF,bR,Bv ha.h hw hv1])
def XZ (ha:P.underlying a=some (.slice e)) (he:P.underlying e=some (.int .u8)) (hb:P.underlying b=some .string) {g:Gh} {w:World} (hG:Vz g w) (hn:n=xs.length) {c:Value} (h:VR g (.pv (.sl n (xs.flatMap λx=>[PV.sc (.int .u8 x)]))) c):(convert a b c).run P w=.ok (S (jQ xs)) w:=by
 subst hn;cases h with
 | pv h=>
  generalize xJ:(xs.flatMap λx=>[PV.sc (.int .u8 x)])=cells at h
  generalize hl:xs.length=n at h
  cases h with
  | nil a' cap=>
   have:xs=[]:=rB.1 hl
   subst this
   rw[run_convert_bytes_string w a b e _ _ _ ha he hb]
   cases a' with
   | none=>simp[Conv.bytesToString,S,jQ,ByteArray.empty,ByteArray.emptyWithCapacity];rfl
   | some a0=>
    rw[run_bytesToString w a0 0 cap [] (by simp[loadCells,loadCellsFrom,eF])]
    simp[S,jQ,ByteArray.empty,ByteArray.emptyWithCapacity];rfl
  | sl blk ys off n cap cells h Ms hc hnc=>
   have hlen:cells.length=xs.length:=by rw[<- xJ];exact XY xs
   obtain ⟨cs,el,fz,hw,h1,h2⟩:=VG hG h Ms hc
   have:=run_convert_bytes_arg (P:=P) w a e ha he blk off xs.length cap xs rfl (λi hi=>by
    have hci:cells[i]?=some (.sc (.int .u8 (xs.getD i 0))):=by
     rw[<- xJ];rw[φ,fj,az hi];simp[List.getD,az hi]
    obtain ⟨v,hv1,hv2⟩:=h2.get i _ hci;cases hv2;rw[hY] at hv1;split at hv1
    ·simp at hv1;simp[World.cell?,hw];exact hv1
    cases hv1) b hb
   rw[<- hl,this]
   rfl
def Wo [ha:uP P a (.slice e)] [he:uP P e (.int .u8)] [hb:uP P b .string] (hx:bU l x=some (.pv (.sl n (xs.flatMap λx=>[PV.sc (.int .u8 x)])))) (hn:n=xs.length) :
  na P (.convert a b x) l ds s (eu (jQ xs)) []:=.of (by
 intro o ho g ev w hG hv _
 have q1:=hv x vd;rw[dX hx] at q1
 exact ⟨S (jQ xs),by simp only[execOp,ho,cF,XZ ha.h he.h hb.h hG hn q1,bR,eF],.pv (.sc _)⟩)
end
section
variable {P:Program}
def alc (Q:gJ):gJ
 | .goto _,_,_=>False
 | e,fr,σ=>Q e fr σ
def χ (h:SW P E n c (alc Q) fr σ):SW P E n (.scope c) Q fr σ:=λg a w hR hF=>by
 refine wp_scope_straight (wp_mono (h g a w hR hF) λe a w hq=>?_);obtain ⟨g',ae,pn,σ',q,hx,lq,tt⟩:=hq;cases hx with
 | goto l=>exact q.elim
 | normal=>exact Zp
 | exit id=>exact ⟨g',_,pn,σ',q,.exit id,lq,tt⟩
 | ret=>exact ZJ
 | panic hv=>exact ZG
end
variable {T:TypeId}
def Fp {q:Nat->Bool} {b:Bool} (h:v.only q=true):(AV.mE [v,Oe T b]).only q=true:=by cases b<;>simp[AV.only,AV.only.tz,h,Oe]
def Ij {f:Nat->Nat} {b:Bool}:(AV.mE [v,Oe T b]).mh f=.mE [v.mh f,Oe T b]:=by cases b<;>rfl
def aaH (X:List α) (z:α):((X.length:Int))<((X++[z]).length:Int):=by simp;omega
def ψ (X:List α) (z:α):(X++[z])[((X.length:Int)).toNat]?=some z:=by simp
def ω (X:List α) (z a:α):(X++[z]).set ((X.length:Int)).toNat a=X++[a]:=by simp
section
variable {P:Program} {B:List Rec->k9->fC->Prop} {L:List Nat} {bk:List Rec} {l:List (Nat×AV)} {ds:List (FuncId×List AV)} {s:List (Nat×cV)}
 {ty:TypeId} {pos:String} {af:Array Edge}
def aaI (f:Int->AV) {ii:Int} {v:Int} [ht:yR P t 1] (hop:ops[i]?=some ⟨none,.store t x y,ty,pos,af,none⟩) (hx:bU l x=some (.ptr k (0+ii.toNat*1))) (hk:dJ s k=some (.box cs)) (hc:cs=xs.map f) (hy:bU l y=some (f v)) (h0:0<=ii) (h1:ii<xs.length) (ho:∀ v,(f v).jG=some [f v]/\AV.p9 [f v]=true) (hn':(Bq xs ii v).map f=lO) (pL:nX bk=true) (hn:qR ops i ((k,.box lO)::s) bk/\pq P E n ops Q B L bk (cA l ds) (bW ((k,.box lO)::s))):pq P E n ops Q B (i::L) bk (cA l ds) (bW s):=by
 have iy:ii.toNat<xs.length:=by omega
 obtain ⟨Fy,hn⟩:=hn;refine ⟨_,hop,.fO (.inl rfl) rfl (.store rfl rfl kp M8 rfl (by rw[dX hy];exact (ho v).1) (ho v).2 ht.h acy du ?_) Y8⟩;have e1:(cV.box cs).Xw (0+ii.toNat*1) [f v]=.box lO:=by
  exact aid
 rw[e1];exact ag_
variable {C:α->List PV} {Cs:List α->List PV} {a':α}
def afz {el:TypeId} (xs:List α) {a:α} (ho:ops[i]?=some ⟨none,.store t x y,ty,pos,af,none⟩) (h:StA P C Cs l s t x y k off m sz el (xs.length:Int) (xs++[a]) a a' v vs) (pL:nX bk=true) (hn:qR ops i ((k,.arr el sz (Cs (xs++[a'])))::ug k s) bk/\pq P E n ops Q B L bk (cA l ds) (bW ((k,.arr el sz (Cs (xs++[a'])))::ug k s))):pq P E n ops Q B (i::L) bk (cA l ds) (bW s):=
 afo ho h pL (by rw[ω];exact hn)
end
section
variable {l:List (Nat×AV)} {ds:List (FuncId×List AV)} {s:List (Nat×cV)}
variable {m':Nat}
def TW (d:Nat) (hd:mL l d=some (.arr k m)) (hm:m=m'):mM E n l ds s ((d,.arr k m')::l) s:=λg a w hR hF=>by
 subst hm;refine ⟨g,hR,hF.size,λi=>?_,hF.ds⟩;by_cases q:i=d
 ·subst q;have:=hF.pA i;simp only[cA,jY hd] at this;simpa[cA,tI] using this
 have:=hF.pA i;simpa[cA,tI,q] using this
def afA (j off:Nat) (hj:dJ s j=some (.box cs)) (hc:cs[off]?=some (.arr k m)) (hm:m=m') (xJ:cs.set off (.arr k m')=lO):mM E n l ds s l ((j,.box lO)::s):=by
 subst hm;have:cs.set off (.arr k m)=cs:=by
  obtain ⟨h1,h2⟩:=an.1 hc;rw[<- h2];exact List.set_getElem_self h1
 rw[this] at xJ;subst xJ;exact Wb hj (F2.refl _)
end
section
variable {P:Program} {l:List (Nat×AV)} {s:List (Nat×cV)}
def Ax {fn:Func} {X:Type} {V:X->AV} {C:X->List cV} {vs:List AV} {ae:Ns} {r:aI X} (Ta:ae=.ret\/ae=.normal) (x:X) (hr:P4 P (cA l []) (bW s) fn.results.toList vs)
 (hg:r=.ok x) (hle:(yY vs).le (V x)) (hm:Ia s 0 (C x)):wo P fn (zh V C (λx=>r=.ok x) (λv=>∃ p,r=.ry p/\v=p.av)) ae (cA l []) (bW s):=Cr Ta x hr hg hle hm
end
def Jv {K:k9->fC->Prop} (h:Q (.panic v) fr σ):BH K Q (.panic v) fr σ:=h
def GY {id:Nat} (h:Q (.panic v) fr σ):TK id Q (.panic v) fr σ:=h
end
end Go.Abs
