/- PROVED: lemmas for ParserFiles. CONDITIONS: as each lemma states. -/
import Derived.Test.YtlfolpjenfkhiaaGreatDoorW1
import Derived.HandedShaped
import Derived.LaidMore
import Derived.Laws.Cover1
import Derived.Lay
import Derived.Lib.LaidU8
import Derived.OpenShut
import Derived.ProofKit
import Derived.SevenTiedAt
import Derived.Shelf.Slices.Turned
import Derived.Shelf.Small.Strs
import Derived.Shelf.Strconv.ErrVarParseInt
import Derived.Shelf.Strconv.Itoa3
import Derived.Shelf.Strings.Explode
import Derived.Shelf.Strings.LastIndexAll
import Derived.Shelf.Strings.Prefix
import Derived.Shelf.Strings.Shaped
import Derived.Shelf.Strings.SplitShaped
import Derived.Shelf.Unicode.DecodeAny
import Derived.Shelf.Utf8.RuneCount
import Derived.Test.YtlfolpjenfkhiaaGreatDoorProg
set_option linter.all false
namespace Go.Abs
open aI
section
def bL (m:Nat->Nat):Prop:=∀ N,∃ M,∀ i,M<=i->N<=m i
def bL.id:bL λi=>i:=λN=>⟨N,λ_ h=>h⟩
def mG:=@bL.id
variable {m:Nat->Nat}
def bL.pred (h:bL m):bL λi=>m i - 1:=λN=>
 let ⟨M,hM⟩:=h (N+1);⟨M,λi hi=>by have:=hM i hi;show N<=m i - 1;omega⟩
def aI.sat {α:Type} (r:aI α) (Q:α->Prop) (R:sX->Prop):Prop:=match r with
 | .stuck=>False
 | .ok a=>Q a
 | .ry p=>R p
def Ev {α:Type} (F:Nat->aI α) (Q:α->Prop) (R:sX->Prop):Prop:=∃ r:aI α,r.sat Q R/\∃ N,∀ i,N<=i->F i=r
section
variable {α β X:Type} {Q Q':α->Prop} {R R':sX->Prop} {Qb:β->Prop}
variable {a:α} {F:Nat->aI α} {x:X} {K:Nat->α->aI β}
def Ev.ok (h:Q a):Ev (λ_=>.ok a) Q R:=⟨.ok a,h,0,λ_ _=>rfl⟩
def aj:=@Ev.ok
def Ev.ry {p:sX} (h:R p):Ev (λ_=>(.ry p:aI α)) Q R:=⟨.ry p,h,0,λ_ _=>rfl⟩
def Ev.mono (h:Ev F Q' R') (hq:∀ a,Q' a->Q a) (hr:∀ p,R' p->R p):Ev F Q R:=by
 obtain ⟨r,h1,h2⟩:=h;refine ⟨r,?_,h2⟩;cases r with
 | stuck=>exact h1
 | ok a=>exact hq a h1
 | ry p=>exact hr p h1
def Ev.qh (h:Ev F Q' R) (hq:∀ a,Q' a->Q a):Ev F Q R:=h.mono hq λ_ q=>q
def Ev.bind (h:Ev F Q R') (hr:∀ p,R' p->R p) (hk:∀ a,Q a->Ev (λi=>K i a) Qb R):Ev (λi=>ag (F i) (K i)) Qb R:=by
 obtain ⟨r,h1,N,hN⟩:=h;cases r with
 | stuck=>exact h1.elim
 | ok a=>
  obtain ⟨r',h2,M,hM⟩:=hk a h1
  exact acT
 | ry p=>exact ⟨.ry p,hr p h1,N,λi hi=>by dsimp only;rw[hN i hi];rfl⟩
def rL:=@Ev.bind
def Ev.gw (h:Ev F Q R) (hk:∀ a,Q a->Ev (λi=>K i a) Qb R):Ev (λi=>ag (F i) (K i)) Qb R:=rL h (λ_ q=>q) hk
def ai:=@Ev.gw
def Ev.Α {x:aI α} (h:x=.ok a) (hk:Ev (λi=>K i a) Qb R):Ev (λi=>ag x (K i)) Qb R:=by
 subst h;exact hk
def bC:=@Ev.Α
def Ev.br {b:Bool} {G:Nat->aI α} (ht:b=true->Ev F Q R) (hf:b=false->Ev G Q R):Ev (λi=>aI.br b (F i) (G i)) Q R:=by
 cases b with
 | true=>exact ht rfl
 | false=>exact hf rfl
def aw:=@Ev.br
def Ev.gd {p:Prop} [Decidable p] (hp:p) (h:Ev F Q R):Ev (λi=>aI.gd p (F i)) Q R:=by
 have:(λi=>aI.gd p (F i))=F:=by funext i;simp[aI.gd,hp]
 rw[this];exact h
def dy:=@Ev.gd
variable {l:List X} {j:Int}
def Ev.el {K:Nat->X->aI α} (h0:0<=j) (h1:j<l.length) (h:∀ x,l[j.toNat]?=some x->Ev (λi=>K i x) Q R):Ev (λi=>aI.el l j (K i)) Q R:=by
 have h2:j.toNat<l.length:=by omega
 have:=h _ (az h2);have he:(λi=>aI.el l j (K i))=λi=>K i l[j.toNat]:=by funext i;simp[aI.el,h0,az h2]
 rw[he];exact this
def gm:=@Ev.el
def Ev.elx {K:Nat->X->aI α} (h0:0<=j) (hx:l[j.toNat]?=some x) (h:Ev (λi=>K i x) Q R):Ev (λi=>aI.el l j (K i)) Q R:=by
 have he:(λi=>aI.el l j (K i))=λi=>K i x:=by funext i;simp[aI.el,h0,hx]
 rw[he];exact h
def g:=@Ev.elx
def Ev.some {o:Option X} {K:Nat->X->aI α} (hx:o=some x) (h:Ev (λi=>K i x) Q R):Ev (λi=>aI.some? o (K i)) Q R:=by subst hx;exact h
def Ev.jn {j:Nat->X->aI α} {p:Nat->(X->aI α)->aI α} (J:X->Prop) (hj:∀ v,J v->Ev (λi=>j i v) Q R)
 (hp:∀ j:Nat->X->aI α,(∀ v,J v->Ev (λi=>j i v) Q R)->Ev (λi=>p i (j i)) Q R):Ev (λi=>aI.jn (j i) (p i)) Q R:=hp j hj
def bz:=@Ev.jn
def Ev.grow (hm:bL m) (h:∀ m',bL m'->Ev (λi=>F (m' i+1)) Q R):Ev (λi=>F (m i)) Q R:=by
 obtain ⟨r,h1,N,hN⟩:=h _ hm.pred;obtain ⟨M,hM⟩:=hm 1;refine ⟨r,h1,N+M,λi hi=>?_⟩;have:=hN i aB;have h2:=hM i aB;simp only[Nat.sub_add_cancel h2] at this;exact this
def bX:=@Ev.grow
def Ev.iter {body:Nat->(X->aI α)->X->aI α} (hm:bL m) (I:X->Prop) (f:X->Nat) (h0:I x) (hb:∀ x,I x->∀ next:Nat->X->aI α,(∀ y,I y->f y<f x->Ev (λi=>next i y) Q R)->Ev (λi=>body i (next i) x) Q R) :
  Ev (λi=>aI.iter (body i) (m i) x) Q R:=by
 have key:∀ (k:Nat) (x:X) (m:Nat->Nat),bL m->I x->f x<k->Ev (λi=>aI.iter (body i) (m i) x) Q R:=by
  intro k
  induction k with
  | zero=>intro x m _ _ h;exact ao h GL
  | succ k ih=>
   intro x m hm hx hk
   obtain ⟨r,h1,N,hN⟩:=hb x hx (λi=>aI.iter (body i) (m i - 1)) λy hy iy=>ih y _ hm.pred hy aB
   exact aie
 exact key _ x m hm h0 Qu
def bN:=@Ev.iter
def Ev.Β {H:Nat->sX->aI α} (h:Ev F Q R') (hh:∀ p,R' p->Ev (λi=>H i p) Q R):Ev (λi=>AX (F i) (H i)) Q R:=by
 obtain ⟨r,h1,N,hN⟩:=h;cases r with
 | stuck=>exact h1.elim
 | ok a=>exact ⟨.ok a,h1,N,λi hi=>by dsimp only;rw[hN i hi];rfl⟩
 | ry p=>
  obtain ⟨r',h2,M,hM⟩:=hh p h1
  exact acT
def Ev.Ih {T:TypeId} {v:Int} {K:Nat->Int->aI α} (h:Ev (λi=>K i v) Q R):Ev (λi=>Go.Abs.Ih T ⟨T,[.sc (.int .i64 v)]⟩ (K i)) Q R:=by
 have:(λi=>Go.Abs.Ih T ⟨T,[.sc (.int .i64 v)]⟩ (K i))=λi=>K i v:=by funext i;simp[Go.Abs.Ih]
 rw[this];exact h
def Ev.get (h:Ev F Q λ_=>False):∃ a,Q a/\∃ N,∀ i,N<=i->F i=.ok a:=by
 obtain ⟨r,h1,h2⟩:=h;cases r with
 | stuck=>exact h1.elim
 | ok a=>exact ⟨a,h1,h2⟩
 | ry p=>exact h1.elim
def Ev.of_eq {r:aI α} {N:Nat} (h:∀ i,N<=i->F i=r) (hr:r.sat Q R):Ev F Q R:=⟨r,hr,N,h⟩
def oJ:=@Ev.of_eq
end
end
end Go.Abs
namespace Go.Abs
open aI Go.RowKit
variable {E:Env} {b:Nat} {ys:List PV} {e:Int} {q:Nat->Bool} {f:Nat->Nat}
section
variable {g:Gh} {σ:fC} {w w':World}
def Vz.Γ (h:Vz g w) (hb:w.heap.size<=b):g.G b=none:=by
 cases q:g.G b with
 | none=>rfl
 | some ys=>have:=h.lt q;omega
def xf.ady (h:g.G b=none):xf (λ_=>False) g (g.iS b ys):=by
 refine ⟨λ_ _=>rfl,λ_ _=>rfl,λc zs hc=>?_⟩;have:c≠b:=λq=>by subst q;rw[h] at hc;cases hc
 exact ⟨[],by simp[Gh.iS,this,hc]⟩
def Rel.below (h:Rel E g σ w) (hb:Below w.heap.size w w'):Rel E g σ w':=by
 have hs:=hb.size;refine { sv:=?_,inj:=h.inj,gl:=?_,apart:=h.apart,size:=kt h.size hs,yV:=?_,own:=h.own,fix:=h.fix,qq:=h.qq,g0:=h.g0,gn:=h.gn,os:=hb.os.trans h.os,out:=hb.output.trans h.out,tape:=hb.tape.trans h.tape,x:=?_ }
 ·intro k e hk;exact (h.sv k e hk).le (xf.refl (λ_=>False) g) (λq=>q) (λ_ _ _=>rfl) (λ_ q=>q.elim) (λb x8=>hb.block b ((h.sv k e hk).lt x8))
 ·intro b ys hG;obtain ⟨c,e,f,h1,h2,h3⟩:=h.gl b ys hG;exact ⟨c,e,f,by rw[hb.block b (h.gl.lt hG)];exact h1,h2,h3⟩
 ·intro b x8 ho;rw[hb.block b (lx x8 h.size)];exact h.yV b x8 ho
 exact {
  IL:=λb cs el fz h1=>let ⟨lO,h2,h3⟩:=h.x.IL b cs el fz h1;⟨lO,by rw[hb.block b (Bx h2)];exact h2,h3⟩
  flat:=λk b cs el fz h0 h1 hf=>let ⟨lO,h2,h3⟩:=h.x.flat k b cs el fz h0 h1 hf;⟨lO,by rw[hb.block b (Bx h2)];exact h2,h3⟩
  set:=λb x8=>by
   have h1:=h.x.set b x8;have:E.wS.heap[b]?=some E.wS.heap[b]:=gU x8;rw[hb.block b (Bx (h1.trans this))];exact h1
  HX:=h.x.HX,hi:=h.x.hi,gf:=h.x.gf,xg:=h.x.xg,xQ:=h.x.xQ,xh:=h.x.xh,xi:=h.x.xi }
variable {cs:Array Value} {fz:Nat×Nat}
def Rel.ai5 (h:Rel E g σ w) (FE:E.w0.heap.size<=b) (hG:g.G b=none) (hk:∀ k,(σ k).isSome=true->g.ρ k≠some b) {el:TypeId} (hw:w.heap[b]?=some (.cells cs el fz)) (hl:ys.length<=cs.size) (hp:vk g ys (cs.toList.take ys.length)) :
  Rel E (g.iS b ys) σ w:=by
 have hle:xf (λ_=>False) g (g.iS b ys):=xf.ady hG
 refine { sv:=?_,inj:=h.inj,gl:=?_,apart:=?_,size:=h.size,yV:=h.yV,own:=h.own,fix:=h.fix,qq:=h.qq,g0:=?_,gn:=?_,os:=h.os,out:=h.out,tape:=h.tape,x:=?_ }
 ·intro k e F1
  exact (h.sv k e F1).le hle (λq=>q) (λc hc _=>by
   have:c≠b:=λq=>by subst q;exact hk k (by rw[F1];rfl) hc
   simp[Gh.iS,this]) (λ_ q=>q.elim) (λ_ _=>rfl)
 ·intro c zs hc
  by_cases q:c=b
  ·subst q
   simp[Gh.iS] at hc;subst hc
   exact ⟨cs,el,fz,hw,hl,hp.le hle⟩
  ·simp[Gh.iS,q] at hc
   obtain ⟨c',e,f,h1,h2,h3⟩:=h.gl c zs hc
   exact ⟨c',e,f,h1,h2,h3.le hle⟩
 ·intro k c e' F1 hka hc
  have q:c≠b:=λq=>by subst q;exact hk k (by rw[F1];rfl) hc
  simp only[Gh.iS,q,if_false]
  exact h.apart k c e' F1 hka hc
 ·intro c zs hc
  obtain ⟨us,h1⟩:=h.g0 c zs hc
  obtain ⟨vs,h2⟩:=hle.G c _ h1
  exact ad9
 ·intro c zs hc
  by_cases q:c=b
  ·subst q;exact .inr (.inr FE)
  ·simp[Gh.iS,q] at hc;exact h.gn c zs hc
 ·have hx:=h.x
  exact {
      IL:=hx.IL,flat:=hx.flat,set:=hx.set,HX:=hx.HX,hi:=hx.hi,gf:=hx.gf,xg:=hx.xg
      xQ:=λk c hf=>by
       have:=hx.xg k c hf
       have q:c≠b:=by omega
       simp only[Gh.iS,q,if_false];exact hx.xQ k c hf
      xh:=hx.xh,xi:=hx.xi }
def Rel.grown (h:Rel E g σ w) (hb:Below w.heap.size w w') (FE:w.heap.size<=b) {el:TypeId} (hw:w'.heap[b]?=some (.cells cs el fz)) (hl:ys.length<=cs.size) (hp:vk g ys (cs.toList.take ys.length)) :
  Rel E (g.iS b ys) σ w':=
 (h.below hb).ai5 (kt h.size FE) (h.gl.Γ FE) (λk hk q=>by have:=h.lt hk q;omega) hw hl hp
def IX (w:World) (e:TypeId) (s:ByteArray):Below w.heap.size w (Lib.bytesWorld w e s):=
 ⟨rfl,rfl,rfl,by rw[Lib.bytesWorld_size];omega,λk hk=>Lib.bytesWorld_at_old w e s k hk⟩
end
def ofBytes (s:ByS):List Int:=s.map λb=>(b.toNat:Int)
def NI {g:Gh}:∀ l:ByS,vk g ((ofBytes l).flatMap λx=>[PV.sc (.int .u8 x)]) (l.map λb=>Value.int .u8 b.toNat)
 | []=>.nil
 | b::l=>.cons (.sc _) (NI l)
section
variable {P:Program} {n:Nat} {ops:Array Oper} {Q:gJ} {rest:List Oper} {l:List (Nat×AV)} {ds:List (FuncId×List AV)} {s:List (Nat×cV)}
 {ty:TypeId} {pos:String} {af:Array Edge}
variable {x:Operand}
def afB {d:Nat} {a b e:TypeId} {u:TypeDesc} {c:ByS} {Cs:List Int->List PV} [hs:uP P a u] [ht:uP P b (.slice e)] [he:uP P e (.int .u8)] (hx:bU l x=some (eu c)) (hC:∀ l,Cs l=l.flatMap λx=>[PV.sc (.int .u8 x)]) (hd:Nat.blt d n=true) (hn:SL P E n ops Q rest (cA ((d,.pv (.sl (ofBytes c).length (Cs (ofBytes c))))::l) ds) (bW s)):SL P E n ops Q (⟨some d,.convert a b x,ty,pos,af,none⟩::rest) (cA l ds) (bW s):=by
 refine rn rfl ?_;intro g act w K hR hF hK;have q:=hF.eval x;rw[dX hx] at q;have hq:=q.iv;have pN:=Lib.run_convert_string_bytes w a b e ⟨c.toArray⟩ hs.h ht.h he.h;have hev:(execOp act.eval ⟨some d,.convert a b x,ty,pos,af,none⟩).run P w=.ok (.value (.slice (some ⟨w.heap.size,0,none⟩) (ByteArray.size ⟨c.toArray⟩) (grownCap w (ByteArray.size ⟨c.toArray⟩) 0 e))) (Lib.bytesWorld w e ⟨c.toArray⟩):=by
  simp only[execOp,hq];simp[S,pN]
 simp only[Oper.wp,hev,Oper.upon];have Ma:ByteArray.size ⟨c.toArray⟩=c.length:=by simp[ByteArray.size]
 have On:=Lib.bytesWorld_at_new w e ⟨c.toArray⟩;have S7:((ofBytes c).flatMap λx=>[PV.sc (.int .u8 x)]).length=c.length:=by
  rw[tZ (sz:=1) (λ_=>rfl)];simp[ofBytes]
 have Ko:(Lib.bytesCells w e ⟨c.toArray⟩).toList.take c.length=c.map λb=>Value.int .u8 b.toNat:=by
  simp[Lib.bytesCells]
 have lq:=hR.grown (IX w e ⟨c.toArray⟩) HN On (ys:=(ofBytes c).flatMap λx=>[PV.sc (.int .u8 x)]) (by rw[S7];simp[Lib.bytesCells]) (by rw[S7,Ko];exact NI c);refine hK _ _ _ _ _ hn lq ((hF.le (nn:=λ_=>False) (xf.ady (hR.gl.Γ HN)) λk q=>q.elim).put B3 ?_);rw[hC];have hcap:(ofBytes c).length<=grownCap w (ByteArray.size ⟨c.toArray⟩) 0 e:=by
  have:(ofBytes c).length=ByteArray.size ⟨c.toArray⟩:=by simp[ofBytes,Ma]
  rw[this];exact grownCap_ge _ _ _ _
 have e2:ByteArray.size ⟨c.toArray⟩=(ofBytes c).length:=by simp[ofBytes,Ma]
 rw[e2] at hcap ⊢;exact .pv (.sl w.heap.size ((ofBytes c).flatMap λx=>[PV.sc (.int .u8 x)]) 0 (ofBytes c).length _ _ Kb bn (by rw[uE,qP]) hcap)
def Oi (e:Int):AV:=match e with
 | .ofNat 0=>Sc .nilIface
 | e=>.vV 208 (I e)
variable {T:TypeId}
def AY {b:Bool}:(Oe T b).only q=true:=by cases b<;>rfl
def Dj {b:Bool}:(Oe T b).mh f=Oe T b:=by cases b<;>rfl
def AZ:(Oi e).only q=true:=by unfold Oi;split<;>rfl
def BL:(Oi e).mh f=Oi e:=by unfold Oi;split<;>rfl
variable {v:AV}
def Dk (h:v.only q=true):(AV.mE [v,Oi e]).only q=true:=by simp[AV.only,AV.only.tz,h,AZ]
def Gx:(AV.mE [v,Oi e]).mh f=.mE [v.mh f,Oi e]:=by simp[AV.mh,AV.mh.ud,BL]
def Wp (h:e≠0):Oi e=.vV 208 (I e):=by
 unfold Oi;split
 ·exact Kf
 rfl
def Δ {xt yt:TypeId} [ht:Rk P xt] (hx:bU l x=some (Oi e)):na P (.binOp .neq xt x (.const .nilIface) yt) l ds s (Bo (e !=0)) []:=by
 by_cases h:e=0
 ·subst h;exact Og hx
 rw[Wp h] at hx;have:(e !=0)=true:=by simpa using h
 rw[this];exact HQ hx rfl
end
end Go.Abs
namespace Go.Abs
variable {s rd:List (Nat×cV)} {e:cV} {k n off j:Nat} {E:Env} {ops:Array Oper} {α β:Type} {a c x f:Operand} {b want:Bool} {t:TypeId} {op:Op} {args:List Operand} {es:List cV} {fn:Func} {q:Prop} {fr:k9} {σ:fC}
section
def O.{u} {α:Sort u} {a:α}:a=a:=rfl
def O2.{u0,u1} {a0:Sort u0} {a1:Sort u1} {b0:a0} {b1:a1}:b0=b0/\b1=b1:=vf
def O3.{u0,u1,u2} {a0:Sort u0} {a1:Sort u1} {a2:Sort u2} {b0:a0} {b1:a1} {b2:a2}:b0=b0/\b1=b1/\b2=b2:=J8
def O4.{u0,u1,u2,u3} {a0:Sort u0} {a1:Sort u1} {a2:Sort u2} {a3:Sort u3} {b0:a0} {b1:a1} {b2:a2} {b3:a3}:b0=b0/\b1=b1/\b2=b2/\b3=b3:=TA
def O7.{u0,u1,u2,u3,u4,u5,u6} {a0:Sort u0} {a1:Sort u1} {a2:Sort u2} {a3:Sort u3} {a4:Sort u4} {a5:Sort u5} {a6:Sort u6} {b0:a0} {b1:a1} {b2:a2} {b3:a3} {b4:a4} {b5:a5} {b6:a6}:b0=b0/\b1=b1/\b2=b2/\b3=b3/\b4=b4/\b5=b5/\b6=b6:=⟨rfl,rfl,rfl,rfl,rfl,rfl,rfl⟩
def O8.{u0,u1,u2,u3,u4,u5,u6,u7} {a0:Sort u0} {a1:Sort u1} {a2:Sort u2} {a3:Sort u3} {a4:Sort u4} {a5:Sort u5} {a6:Sort u6} {a7:Sort u7} {b0:a0} {b1:a1} {b2:a2} {b3:a3} {b4:a4} {b5:a5} {b6:a6} {b7:a7}:b0=b0/\b1=b1/\b2=b2/\b3=b3/\b4=b4/\b5=b5/\b6=b6/\b7=b7:=⟨rfl,rfl,rfl,rfl,rfl,rfl,rfl,rfl⟩
open aI
section
variable {P:Program} {Q:gJ} {rest:List Oper} {l:List (Nat×AV)} {ds:List (FuncId×List AV)}
 {ty:TypeId} {pos:String} {af:Array Edge} {d:Nat}
variable {v:AV} {m:Nat} {y:Operand} {vs:List AV} {g:Nat} {kC:FuncId} {fS:List AV} {first cap:List AV} {X R:Type} {res:aI X} {V:X->AV} {C:X->List cV} {u:aI R} {H:AV->Prop} {r:aI R}
def p1 {a c:α} {b e:β} (h:(a,b)=(c,e)):a=c:=iP Prod.fst h
def p2 {a c:α} {b e:β} (h:(a,b)=(c,e)):b=e:=iP Prod.snd h
def zm (h:(bU l x,Nat.blt d n)=(some v,true)) (hn:SL P E n ops Q rest (cA ((d,v)::l) ds) (bW s)):SL P E n ops Q (⟨some d,.move x,ty,pos,af,none⟩::rest) (cA l ds) (bW s):=
 fg (TF (p1 h)) (p2 h) hn
def za (h:(bU l x,Nat.blt d n)=(some v,true)) (hn:SL P E n ops Q rest (cA ((d,v)::l) ds) (bW s)):SL P E n ops Q (⟨some d,.assign x,ty,pos,af,none⟩::rest) (cA l ds) (bW s):=
 fg (Q7 (p1 h)) (p2 h) hn
def zn (h:(bU l x,Nat.blt d n)=(some (.ptr k off),true)) (hn:SL P E n ops Q rest (cA ((d,.ptr k off)::l) ds) (bW s)):SL P E n ops Q (⟨some d,.nilCheck x,ty,pos,af,none⟩::rest) (cA l ds) (bW s):=
 fg (KJ (p1 h)) (p2 h) hn
def zf {f:Nat} [hf:T P t f m] (h:(bU l x,Nat.blt d n)=(some (.ptr k off),true)) (hn:SL P E n ops Q rest (cA ((d,.ptr k (off+m))::l) ds) (bW s)) :
 SL P E n ops Q (⟨some d,.fieldAddr t x f,ty,pos,af,none⟩::rest) (cA l ds) (bW s):=fg (E' (p1 h)) (p2 h) hn
def zl [ha:oM P t false] (h:(bU l x,dJ s k,e.cells[off]?,Nat.blt d n)=(some (.ptr k off),some e,some v,true)) (hn:SL P E n ops Q rest (cA ((d,v)::l) ds) (bW s)):SL P E n ops Q (⟨some d,.load t x,ty,pos,af,none⟩::rest) (cA l ds) (bW s):=fg (KK (p1 h) Ct (p1 qz)) Af hn
def zA {cs:List AV} [ha:oM P t true] [hz:yR P t m] (h:(bU l x,dJ s k,Nat.ble (off+m) e.cells.length,(e.cells.drop off).take m,Nat.blt d n)=(some (.ptr k off),some e,true,cs,true)) (hn:SL P E n ops Q rest (cA ((d,.agg cs)::l) ds) (bW s)):SL P E n ops Q (⟨some d,.load t x,ty,pos,af,none⟩::rest) (cA l ds) (bW s):=fg (Zn (p1 h) Ct (p1 qz) (p1 Af)) Cv hn
variable {xt yt:TypeId}
def zc {op:BinOp} {k:IntKind} {a b:Int} {r:Bool} (h:(bU l x,bU l y,ŷ op a b,Nat.blt d n)=(some (Sc (.int k a)),some (Sc (.int k b)),some r,true)) (hn:SL P E n ops Q rest (cA ((d,Bo r)::l) ds) (bW s)):SL P E n ops Q (⟨some d,.binOp op xt x y yt,ty,pos,af,none⟩::rest) (cA l ds) (bW s):=fg (Q8 (p1 h) Ct (p1 qz)) Af hn
def zy {b:Operand} {t:Bool} (ht:t=true) (h:(bU l c,bU l a,Nat.blt d n)=(some (Bo t),some v,true)) (hn:SL P E n ops Q rest (cA ((d,v)::l) ds) (bW s)) :
 SL P E n ops Q (⟨some d,.pick c a b,ty,pos,af,none⟩::rest) (cA l ds) (bW s):=fg (V4 ht (p1 h) Ct) qz hn
def zw {b:Operand} {t:Bool} (ht:t=false) (h:(bU l c,bU l b,Nat.blt d n)=(some (Bo t),some v,true)) (hn:SL P E n ops Q rest (cA ((d,v)::l) ds) (bW s)) :
 SL P E n ops Q (⟨some d,.pick c a b,ty,pos,af,none⟩::rest) (cA l ds) (bW s):=fg (V5 ht (p1 h) Ct) qz hn
def zt {b:Operand} (h:(bU l c,bU l a,Nat.blt d n)=(some (Bo true),some v,true)) (hn:SL P E n ops Q rest (cA ((d,v)::l) ds) (bW s)) :
 SL P E n ops Q (⟨some d,.pick c a b,ty,pos,af,none⟩::rest) (cA l ds) (bW s):=fg (VZ (p1 h) Ct) qz hn
def zo {a b:Int} (hg:-9223372036854775808<=a+b/\a+b<=9223372036854775807) (h:(bU l x,bU l y,Nat.blt d n)=(some (I a),some (I b),true)) (hn:SL P E n ops Q rest (cA ((d,I (a+b))::l) ds) (bW s)):SL P E n ops Q (⟨some d,.binOp .add xt x y yt,ty,pos,af,none⟩::rest) (cA l ds) (bW s):=fg (adp (p1 h) Ct hg) qz hn
def zx {i:Nat} (h:(bU l x,vs[i]?,Nat.blt d n)=(some (.mE vs),some v,true)) (hn:SL P E n ops Q rest (cA ((d,v)::l) ds) (bW s)) :
 SL P E n ops Q (⟨some d,.extract x i,ty,pos,af,none⟩::rest) (cA l ds) (bW s):=fg (Nz (p1 h) Ct) qz hn
def zg (hb:b = !want) (h:((ops[j]?).bind (·.dst),mL l g,Nat.blt d n)=(some g,some (Bo b),true)) (hn:SL P E n ops Q rest (cA ((d,Sc undef)::l) ds) (bW s)):SL P E n ops Q (⟨some d,op,ty,pos,af,some (j,want)⟩::rest) (cA l ds) (bW s):=ads hb ⟨p1 h,p1 (p2 h)⟩ qz hn
def Ε (ops:Array Oper) (n:Nat):Nat->List (Nat×AV)->List Oper->Option (List (Option AV×Bool)×List (Nat×AV)×List Oper)
 | 0,l,r=>some ([],l,r)
 | k+1,l,r=>match r with
  | ⟨some d,_,_,_,_,some (j,want)⟩::r=>match (ops[j]?).bind (·.dst),Nat.blt d n with
   | some g,true=>match Ε ops n k ((d,Sc undef)::l) r with
    | some (vs,x)=>some ((mL l g,want)::vs,x)
    | none=>none
   | _,_=>none
  | _=>none
def zH {w:Bool}:∀ (k:Nat) {l l':List (Nat×AV)} {r r':List Oper},Ε ops n k l r=some (List.replicate k (some (Bo b),w),l',r')->b = !w->SL P E n ops Q r' (cA l' ds) (bW s)->SL P E n ops Q r (cA l ds) (bW s)
 | 0,_,_,_,_,h,_,hn=>by cases h;exact hn
 | k+1,l,l',r,r',h,hb,hn=>by
  unfold Ε at h;split at h
  ·split at h
   ·rename_i g hj hd;split at h
    ·rename_i vs x hx;simp only[List.replicate_succ,Option.some.injEq,rH,wz] at h;obtain ⟨⟨⟨h1,rfl⟩,rfl⟩,rfl⟩:=h;exact ads hb ⟨hj,h1⟩ hd (zH k hx hb hn)
    cases h
   cases h
  cases h
def zG (hb:b=want) (h:((ops[j]?).bind (·.dst),mL l g,Nat.blt d n)=(some g,some (Bo b),true)) (he:na P op l ds s v rd) (hn:SL P E n ops Q rest (cA ((d,v)::l) ds) (bW s)):SL P E n ops Q (⟨some d,op,ty,pos,af,some (j,want)⟩::rest) (cA l ds) (bW s):=aiT hb ⟨p1 h,p1 (p2 h)⟩ he qz hn
def zu (h:((ops[j]?).bind (·.dst),mL l g,Nat.blt d n)=(some g,some (Sc undef),true)) (hn:SL P E n ops Q rest (cA ((d,Sc undef)::l) ds) (bW s)):SL P E n ops Q (⟨some d,op,ty,pos,af,some (j,want)⟩::rest) (cA l ds) (bW s):=aiN ⟨p1 h,p1 (p2 h)⟩ qz hn
def zs {c:List AV} [ht:yR P t m] (h:(bU l x,dJ s k,e.F5,bU l y,v.jG,AV.p9 c,c.length,Nat.ble (off+c.length) e.cells.length)=(some (.ptr k off),some e,true,some v,some c,true,m,true)) (hn:SL P E n ops Q rest (cA l ds) (bW ((k,e.put off c)::s))):SL P E n ops Q (⟨none,.store t x y,ty,pos,af,none⟩::rest) (cA l ds) (bW s):=
 Rc ⟨p1 h,p1 (p2 h),p1 qz,p1 Af,p1 Cv,p1 Er,p1 BC,p2 BC⟩ (λ_ q=>q▸hn)
def Rq (E:Env) (ds:List (FuncId×List AV)) (l:List (Nat×AV)) (s:List (Nat×cV)) (ks:List Nat) (f:Operand) (args:List Operand) (kC:FuncId) (fS:List AV) (es:List cV) (first cap vs:List AV) (l':List (Nat×AV)) (d n:Nat):Prop:=
 (bU l f,zU l args,first++vs++cap,AQ s ks,nodupB ks,P0 l' ds s ks ks es,FG E ks es,Nat.blt d n)=(some (.fn kC first cap),some vs,AV.mh.ud (nth ks) fS,some (qd (nth ks) es),true,true,True,true)
variable {ks:List Nat} {l':List (Nat×AV)}
def Rq.ok (h:Rq E ds l s ks f args kC fS es first cap vs l' d n) :
  vL E ds l s ks f args kC fS es first cap vs l':=
 ⟨p1 h,p1 (p2 h),p1 qz,p1 Af,p1 Cv,p1 Er,of_eq_true (p1 BC)⟩
def Rq.bl (h:Rq E ds l s ks f args kC fS es first cap vs l' d n) :
 Nat.blt d n=true:=p2 BC
variable {kk:X->aI R} {V':X->AV} {C':X->List (Nat×cV)} {ts:Array TypeId}
def zk (hp:∀ p fr σ,fr.ds=ds->r=.ry p->Q (.panic p.av) fr σ) (hr:r≠.stuck) (h:ag res kk=r) (ks:List Nat) (wu:Enters P kC) (hC:CT P kC fS es res V C) (hk:(bU l f,zU l args,first++vs++cap,AQ s ks,nodupB ks,P0 l ds s ks ks es,FG E ks es,Nat.blt d n)=(some (.fn kC first cap),some vs,AV.mh.ud (nth ks) fS,some (qd (nth ks) es),true,true,True,true)) (hx:∀ x,((C x).length,qe (below ks.length) (C x),(V x).only (below ks.length),(V x).mh (nth ks),tK ks (qd (nth ks) (C x)))=(ks.length,true,true,V' x,C' x)) (oB:∀ x,kk x=r->SL P E n ops Q rest (cA ((d,V' x)::l) ds) (bW (C' x++s))) :
  SL P E n ops Q (⟨some d,.call ⟨.value f,args.toArray,ts⟩,ty,pos,af,none⟩::rest) (cA l ds) (bW s):=
 Hi hr h ks wu hC (Rq.ok (d:=d) (n:=n) hk) (Rq.bl hk) (λx=>⟨p1 (hx x),p1 (p2 (hx x)),p1 Gp⟩) (λx=>⟨p1 (p2 Gp),p2 (p2 Gp)⟩) hp oB
def zK (hb:b=want) (hj:((ops[j]?).bind (·.dst),mL l g)=(some g,some (Bo b))) (hp:∀ p fr σ,fr.ds=ds->r=.ry p->Q (.panic p.av) fr σ) (hr:r≠.stuck) (h:ag res kk=r) (ks:List Nat) (wu:Enters P kC) (hC:CT P kC fS es res V C) (hk:(bU l f,zU l args,first++vs++cap,AQ s ks,nodupB ks,P0 l ds s ks ks es,FG E ks es,Nat.blt d n)=(some (.fn kC first cap),some vs,AV.mh.ud (nth ks) fS,some (qd (nth ks) es),true,true,True,true)) (hx:∀ x,((C x).length,qe (below ks.length) (C x),(V x).only (below ks.length),(V x).mh (nth ks),tK ks (qd (nth ks) (C x)))=(ks.length,true,true,V' x,C' x)) (oB:∀ x,kk x=r->SL P E n ops Q rest (cA ((d,V' x)::l) ds) (bW (C' x++s))) :
  SL P E n ops Q (⟨some d,.call ⟨.value f,args.toArray,ts⟩,ty,pos,af,some (j,want)⟩::rest) (cA l ds) (bW s):=
 N' hb ⟨p1 hj,p2 hj⟩ hr h ks wu hC (Rq.ok (d:=d) (n:=n) hk) (Rq.bl hk) (λx=>⟨p1 (hx x),p1 (p2 (hx x)),p1 Gp⟩) (λx=>⟨p1 (p2 Gp),p2 (p2 Gp)⟩) hp oB
theorem zC {f:FuncId} {c:Code} {args:List AV} (hf:P.funcs[f]?=some fn) (hb:(fn.body,Nat.ble args.length fn.ntmps)=(some c,true)) (h:∀ r,(∀ p fr (σ:fC),fr.ds=[]->r=.ry p->wo P fn (zh V C (λx=>r=.ok x) (λv=>∃ p,r=.ry p/\v=p.av)) (.panic p.av) fr σ)->res=r->r≠.stuck->∀ E:Env,(∀ k,fu es k=true->E.fix k=none)->
   SW P E fn.ntmps c (wo P fn (zh V C (λx=>r=.ok x) (λv=>∃ p,r=.ry p/\v=p.av))) (cA ((List.range args.length).zip args) []) (bW (gK 0 es))):CT P f args es res V C:=
 aaj hf (p1 hb) (p2 hb) λr hr hs=>h r (λ_ _ _ hd hp=>O' hd hp) hr hs
def zB {x y:Code} {v:aI R} (hb:bU l c=some (Bo b)) (h:br b u v=r) (ht:b=true->u=r->SW P E n x Q (cA l ds) (bW s)) (hf:b=false->v=r->SW P E n y Q (cA l ds) (bW s)):SW P E n (.cond c x y) Q (cA l ds) (bW s):=
 GZ hb (λq=>ht q (aeT q h)) (λq=>hf q (aeU q h))
def zd {p:Prop} [Decidable p] {x:aI R} (hr:r≠.stuck) (h:gd p x=r) (k:p->x=r->q):q:=k (aeV hr h).1 (aeV hr h).2
def ze {l:List β} {i:Int} {k:β->aI R} (hr:r≠.stuck) (h:el l i k=r) (c:∀ x,0<=i->i<l.length->l[i.toNat]?=some x->k x=r->q):q:=
 let ⟨x,a,b,d,e⟩:=aiR hr h;c x a b d e
def z1 {v:aI R} (hb:b=true) (h:br b u v=r) (k:u=r->q):q:=k (aeT hb h)
def z2 {v:aI R} (hb:b=false) (h:br b u v=r) (k:v=r->q):q:=k (aeU hb h)
def zb (b:Bool) (h1:b=true->q) (h2:b=false->q):q:=by cases b;exact h2 rfl;exact h1 rfl
def gF (l:List (Nat×AV)):List (Nat×AV)->List (Option AV)
 | []=>[]
 | (i,_)::F=>mL l i::gF l F
def gS (s:List (Nat×cV)):List (Nat×cV)->List (Option cV)
 | []=>[]
 | (i,_)::F=>dJ s i::gS s F
def aaJ {l G:List (Nat×AV)}:∀ {F:List (Nat×AV)},gF l F=gF G F->DO l G F
 | [],_=>trivial
 | (_,_)::_,h=>⟨(pT h).1,aaJ (pT h).2⟩
def aaK {l G:List (Nat×cV)}:∀ {F:List (Nat×cV)},gS l F=gS G F->F7 l G F
 | [],_=>trivial
 | (_,_)::_,h=>⟨(pT h).1,aaK (pT h).2⟩
def zM {x y:Code} {j:X->aI R} {p:(X->aI R)->aI R} (h:jn j p=r) (F:X->List (Nat×AV)) (H:X->List (Nat×cV)) (hy:∀ v,j v=r->SW P E n y Q (cA (F v) ds) (bW (H v))) (hx:∀ (j':X->aI R) (K:k9->fC->Prop),(∀ v l s,j' v=r->(gF l (F v),gS s (H v))=(gF (F v) (F v),gS (H v) (H v))->K (cA l ds) (bW s))->p j'=r->SW P E n x (BH K Q) (cA l ds) (bW s)):SW P E n (.seq x y) Q (cA l ds) (bW s):=
 aak F H (λv=>j v=r) hy (λK hK=>hx j K (λv l s a b=>hK v l s a (aaJ (p1 b)) (aaK (p2 b))) h)
def zL {c:Code} {body:(X->aI R)->X->aI R} {v:X} (hr:r≠.stuck) (h0:iter body m v=r) (F:X->List (Nat×AV)) (H:X->List (Nat×cV)) (h1:(gF l (F v),gS s (H v))=(gF (F v) (F v),gS (H v) (H v))) (hx:∀ (next:X->aI R) (v:X) (K:k9->fC->Prop),(∀ v l s,next v=r->(gF l (F v),gS s (H v))=(gF (F v) (F v),gS (H v) (H v))->K (cA l ds) (bW s))->body next v=r->SW P E n c (BH K Q) (cA (F v) ds) (bW (H v))) :
  SW P E n (.loop c) Q (cA l ds) (bW s):=
 XI F H body r m v hr h0 (aaJ (p1 h1)) (aaK (p2 h1)) (λnext v K hK h=>hx next v K (λv l s a b=>hK v l s a (aaJ (p1 b)) (aaK (p2 b))) h)
def zQ {c:Code} {Q':gJ} (k:∀ fr σ,SW P E n c Q' fr σ->Q .normal fr σ) (h:SW P E n c Q' fr σ):SL P E n ops Q [] fr σ:=tH (k _ _ h)
def gM (s:List (Nat×cV)):Nat->List cV->List (Option cV)
 | _,[]=>[]
 | i,_::es=>dJ s i::gM s (i+1) es
def aaL {s:List (Nat×cV)}:∀ {es:List cV} {i:Nat},gM s i es=es.map some->Ia s i es
 | [],_,_=>trivial
 | _::_,_,h=>⟨(pT h).1,aaL (pT h).2⟩
def zX {r:aI X} {x:X} (hr:P4 P (cA l []) (bW s) fn.results.toList vs) (hg:.ok x=r) (hm:(yY vs,gM s 0 (C x))=(V x,(C x).map some)) :
 wo P fn (zh V C (λx=>r=.ok x) H) .ret (cA l []) (bW s):=Cr (.inl rfl) x hr hg.symm (p1 hm▸iz _) (aaL (p2 hm))
def zRt {r:aI X} {x:X} {t:Nat} (h:(fn.results.toList,mL l t)=([.tmp t],some v)) (hg:.ok x=r) (hm:(v,gM s 0 (C x))=(V x,(C x).map some)) :
 wo P fn (zh V C (λx=>r=.ok x) H) .ret (cA l []) (bW s):=zX (vs:=[v]) (by rw[p1 h];exact .cons (C5 (p2 h)) .nil) hg hm
def zY {r:aI X} {x:X} (hr:P4 P (cA l []) (bW s) fn.results.toList vs) (hg:.ok x=r) (hm:(yY vs,gM s 0 (C x))=(V x,(C x).map some)) :
 wo P fn (zh V C (λx=>r=.ok x) H) .normal (cA l []) (bW s):=Cr (.inr rfl) x hr hg.symm (p1 hm▸iz _) (aaL (p2 hm))
end
section
variable {P:Program} {Q:gJ} {B:List Rec->k9->fC->Prop} {i:Nat} {L:List Nat} {bk:List Rec} {l:List (Nat×AV)} {ds:List (FuncId×List AV)}
 {ty:TypeId} {pos:String} {af:Array Edge} {d:Nat}
variable {v:AV} {m:Nat} {y:Operand} {vs:List AV} {g:Nat} {kC:FuncId} {fS:List AV} {first cap:List AV} {X R:Type} {res:aI X} {V:X->AV} {C:X->List cV} {u:aI R} {H:AV->Prop} {r:aI R}
def zD (ho:ops[i]?=some ⟨some d,op,ty,pos,af,none⟩) (h:na P op l ds s v rd) (hc:(fO ⟨some d,op,ty,pos,af,none⟩,Nat.blt d n,F6 ops i v rd bk)=(false,true,true)) (hn:pq P E n ops Q B L (⟨i,some d,rd,none⟩::bk) (cA ((d,v)::l) ds) (bW s)):pq P E n ops Q B (i::L) bk (cA l ds) (bW s):=adr ho h ⟨p1 hc,p1 (p2 hc),p2 (p2 hc)⟩ hn
end
end
section
def AV.B4:AV->Bool
 | .any|.oc=>true
 | .pv (.sc _)=>true
 | .pv _|.sp _=>false
 | .ptr ..|.arr ..=>true
 | .fn _ xs ys=>KZ xs&&KZ ys
 | .agg cs=>KZ cs
 | .mE cs=>KZ cs
 | .vV _ v=>v.B4
where
 KZ:List AV->Bool
  | []=>true
  | x::xs=>x.B4&&KZ xs
def PV.Rr:List PV->Bool
 | []=>true
 | .sc _::l=>Rr l
 | _::_=>false
mutual
def VR.B4 {g g':Gh} (hρ:g'.ρ=g.ρ) (hc:g'.cp=g.cp):∀ {x:AV} {c:Value},x.B4=true->VR g x c->VR g' x c
 | .any,_,_,_=>.any _
 | .oc,_,_,h=>by cases h with|oc h=>exact .oc h
 | .pv (.sc v),_,_,h=>by cases h with|pv h=>cases h;exact .pv (.sc _)
 | .pv (.sl _ _),_,hs,_=>by simp[AV.B4] at hs
 | .pv (.pt _),_,hs,_=>by simp[AV.B4] at hs
 | .sp _,_,hs,_=>by simp[AV.B4] at hs
 | .ptr k off,_,_,h=>by cases h with|ptr _ h=>exact .ptr off (by rw[hρ];exact h)
 | .arr k n,_,_,h=>by
  cases h with
  | arr _ h=>rw[<- hc];exact .arr n (by rw[hρ];exact h)
  | Bm h=>exact .Bm (by rw[hρ];exact h)
 | .fn f xs ys,_,hs,h=>by
  simp only[AV.B4,bm] at hs;cases h with|fn _ hx hy=>exact .fn f (M.B4 hρ hc hs.1 hx) (M.B4 hρ hc hs.2 hy)
 | .agg xs,_,hs,h=>by cases h with|agg h=>exact .agg (M.B4 hρ hc ZA h)
 | .mE xs,_,hs,h=>by cases h with|mE h=>exact .mE (M.B4 hρ hc ZA h)
 | .vV t x,_,hs,h=>by cases h with|vV _ h=>exact .vV t (VR.B4 hρ hc ZA h)
def M.B4 {g g':Gh} (hρ:g'.ρ=g.ρ) (hc:g'.cp=g.cp):∀ {x:List AV} {c:List Value},AV.B4.KZ x=true->M g x c->M g' x c
 | [],_,_,h=>by cases h;exact .nil
 | x::xs,_,hs,h=>by
  simp only[AV.B4.KZ,bm] at hs;cases h with|cons h t=>exact .cons (VR.B4 hρ hc hs.1 h) (M.B4 hρ hc hs.2 t)
end
variable {g:Gh} {sz:Nat}
def vk.Rr {g':Gh}:∀ {l:List PV} {vs:List Value},PV.Rr l=true->vk g l vs->vk g' l vs
 | [],_,_,h=>by cases h;exact .nil
 | .sc v::l,_,hs,h=>by cases h with|cons h t=>cases h;exact .cons (.sc _) (vk.Rr (by simpa[PV.Rr] using hs) t)
 | .sl _ _::l,_,hs,_=>by simp[PV.Rr] at hs
 | .pt _::l,_,hs,_=>by simp[PV.Rr] at hs
variable {C:α->List PV}
def Rs (h:∀ x,PV.Rr (C x)=true):∀ l:List α,PV.Rr (l.flatMap C)=true
 | []=>rfl
 | x::l=>by
  have app:∀ a b:List PV,PV.Rr a=true->PV.Rr b=true->PV.Rr (a++b)=true:=by
   intro a
   induction a with
   | nil=>intro b _ h;exact h
   | cons p a ih=>
    intro b ha hb
    cases p with
    | sc v=>exact ih b (by simpa[PV.Rr] using ha) hb
    | sl _ _=>simp[PV.Rr] at ha
    | pt _=>simp[PV.Rr] at ha
  rw[fE];exact app _ _ (h x) (Rs h l)
def of1 {e':cV} (h:bW (gK 0 [e]) k=some e'):k=0/\e'=e:=by
 obtain ⟨_,h2⟩:=pQ h;cases k with
 | zero=>simp at h2;exact ⟨rfl,h2.symm⟩
 | succ k=>simp at h2
def Rt (h:(bW (gK 0 [e]) k).isSome=true):k=0:=by
 cases q:bW (gK 0 [e]) k with
 | none=>rw[q] at h;cases h
 | some e'=>exact (of1 q).1
def afC:bW (gK 0 [e]) 0=some e:=AJ (i:=0) (j:=0) rfl
def CJ {wS:World} {w:World} {el:TypeId} {cs:List PV}:(Env.of wS g (bW (gK 0 [.app el sz cs])) w).fix k=none/\(Env.of wS g (bW (gK 0 [.arr el sz cs])) w).fix k=none:=by
 constructor;all_goals
  simp only[Env.of]
  split
  ·rename_i q;have:=(of1 q).2;cases this
  ·rfl
theorem CT.ald {P:Program} {f:FuncId} {args:List AV} {X:Type} {res:aI X} {V:X->AV} {el:TypeId} {C:X->List PV} [h:CT P f args [.app el sz []] res V (λx=>[.app el sz (C x)])] (ha:∀ k,AV.jh.kJ k args=false) (hV:∀ x,(V x).B4=true) (hC:∀ x,PV.Rr (C x)=true):CT P f args [.arr el sz []] res V (λx=>[.arr el sz (C x)]):=by
 refine ⟨λr hr hs wS g w vs hR hv=>?_⟩;have hR0:Rel (Env.of wS (g.unbind 0) (bW (gK 0 [.app el sz []])) w) (g.unbind 0) (bW (gK 0 [.app el sz []])) w:=by
  have hx:=hR.x;have hρ0:(g.unbind 0).ρ 0=none:=by simp[Gh.unbind]
  refine { sv:=λk e q=>?_,inj:=λk k' b q=>?_,gl:=?_,apart:=λk b e q=>?_,size:=iJ _,yV:=λ_ _ _=>rfl,own:=λk b q hb=>.inl ⟨k,q,hb⟩,fix:=λk b q=>?_,qq:=λk b q=>rfl,g0:=λb ys q=>⟨[],by rw[my];exact q⟩,gn:=λb ys q=>.inl q,os:=rfl,out:=rfl,tape:=rfl,x:=?_ }
  ·obtain ⟨rfl,rfl⟩:=of1 q;exact .Jb hρ0
  ·have:=Rt q;subst this;intro _ hb;rw[hρ0] at hb;cases hb
  ·intro b ys hb;obtain ⟨cs,e,fz,h1,h2,h3⟩:=hR.gl b ys hb;exact ⟨cs,e,fz,h1,h2,s5 (g:=g) (g':=g.unbind 0) (λ_ _ q=>q) h3⟩
  ·obtain ⟨rfl,rfl⟩:=of1 q;intro _ hb;rw[hρ0] at hb;cases hb
  ·rw[CJ.1] at q;cases q
  exact { IL:=λb cs el fz q=>⟨cs,q,rfl⟩,flat:=λk b cs el fz q=>by (rw[CJ.1] at q;cases q),set:=hx.set,HX:=hx.HX,hi:=λk b q hb=>by (have:=Rt q;subst this;rw[hρ0] at hb;cases hb),gf:=hx.gf,xg:=λk b q=>by (rw[CJ.1] at q;cases q),xQ:=λk b q=>by (rw[CJ.1] at q;cases q),xh:=λk b k' q=>by (rw[CJ.1] at q;cases q),xi:=λk b e q=>by (rw[CJ.1] at q;cases q) }
 have hv0:M (g.unbind 0) args vs:=hv.le (tf g 0) λk q=>by rw[q];exact ha 0
 have Wq:∀ b,¬ (Env.of wS (g.unbind 0) (bW (gK 0 [.app el sz []])) w).own b:=λb ⟨k,q,hb⟩=>by
  have:=Rt q;subst this;simp[Gh.unbind] at hb
 refine (h.h r hr hs wS (g.unbind 0) w vs hR0 hv0).mono λe w' ⟨g',ae,σ',hRN,hE,lq⟩=>?_;rcases hRN with ⟨x,hx,rfl,rfl⟩|⟨v,hp,rfl,rfl⟩
 ·have iy:∀ b ys,g.G b=some ys->b<w.heap.size:=λb ys hb=>by
   obtain ⟨cs,e,fz,h1,_⟩:=hR.gl b ys hb;exact Bx h1
  have On:∀ b,g'.ρ 0=some b->w.heap.size<=b:=λb hb=>by
   rcases lq.own 0 b (by rw[afC];rfl) hb with q|q
   ·exact ao q (Wq b)
   exact q
  have hold:∀ b,b<w.heap.size->w'.heap[b]?=w.heap[b]?:=λb hb=>lq.yV b hb (Wq b);obtain ⟨g2,hg2⟩:∃ g2:Gh,g2=⟨g'.ρ,g'.cp,g.G⟩:=⟨_,rfl⟩;have e1:g2.ρ=g'.ρ:=by rw[hg2]
  have e2:g2.cp=g'.cp:=by rw[hg2]
  have e3:g2.G=g.G:=by rw[hg2]
  refine ⟨g2,.ret (V x),bW (gK 0 [.arr el sz (C x)]),.inl ⟨x,hx,rfl,rfl⟩,?_,?_⟩
  ·cases hE with
   | ret hv=>exact .ret (VR.B4 e1 e2 (hV x) hv)
  refine { sv:=λk e q=>?_,inj:=λk k' b q q' _ _=>(Rt q).trans (Rt q').symm,gl:=?_,apart:=λk b e q _ hb=>?_,size:=lq.size,yV:=λb hb _=>hold b hb,own:=λk b q hb=>?_,fix:=λk b q=>?_,qq:=λk b q=>?_,g0:=λb ys q=>⟨[],by rw[my,e3];exact q⟩,gn:=λb ys q=>.inl (by rw[e3] at q;exact q),os:=lq.os,out:=lq.out,tape:=lq.tape,x:=?_ }
  ·obtain ⟨rfl,rfl⟩:=of1 q;have h0:=lq.sv 0 _ afC;generalize hCx:C x=cells at h0;have hs:=hC x;rw[hCx] at hs;cases h0 with
   | Jb h=>exact .Bm (by rw[e1];exact h)
   | app h hG hw hl hz hm hc=>exact .arr (by rw[e1];exact h) hw hl QB (by rw[e2];exact hm) (vk.Rr hs hc)
  ·intro b ys hb;rw[e3] at hb;obtain ⟨cs,e,fz,h1,h2,h3⟩:=hR.gl b ys hb;exact ⟨cs,e,fz,by rw[hold b (Bx h1)];exact h1,h2,s5 (λ_ _ q=>by rw[e3];exact q) h3⟩
  ·have:=Rt (by rw[q];rfl:(bW (gK 0 [.arr el sz (C x)]) k).isSome=true);subst this;rw[e1] at hb;rw[e3];have h1:=On b hb;cases hG:g.G b with
   | none=>rfl
   | some ys=>exact ao (iy b ys hG) aB
  ·have:=Rt q;subst this;rw[e1] at hb;exact .inr (On b hb)
  ·rw[CJ.2] at q;cases q
  ·rw[CJ.2] at q;cases q
  have tw:=lq.x;exact { IL:=tw.IL,flat:=λk b cs el fz q=>by (rw[CJ.2] at q;cases q),set:=tw.set,HX:=tw.HX,hi:=λk b q hb=>by (have:=Rt q;subst this;rw[e1] at hb;exact tw.hi 0 b (by rw[afC];rfl) hb),gf:=tw.gf,xg:=λk b q=>by (rw[CJ.2] at q;cases q),xQ:=λk b q=>by (rw[CJ.2] at q;cases q),xh:=λk b k' q=>by (rw[CJ.2] at q;cases q),xi:=λk b e q=>by (rw[CJ.2] at q;cases q) }
 refine ⟨g',.panic v,bW [],.inr ⟨v,hp,rfl,rfl⟩,hE,?_⟩;have tw:=lq.x;exact { sv:=λk e q=>El,inj:=λk k' b q=>El,gl:=lq.gl,apart:=λk b e q=>El,size:=lq.size,yV:=λb hb _=>lq.yV b hb (Wq b),own:=λk b q=>El,fix:=λk b q=>(by rw[CJ.2] at q;cases q),qq:=λk b q=>(by rw[CJ.2] at q;cases q),g0:=lq.g0,gn:=λb ys q=>(lq.gn b ys q).imp_right λw=>.inr (w.resolve_left (Wq b)),os:=lq.os,out:=lq.out,tape:=lq.tape,x:={ IL:=tw.IL,flat:=λk b cs el fz q=>by (rw[CJ.2] at q;cases q),set:=tw.set,HX:=tw.HX,hi:=λk b q=>El,gf:=tw.gf,xg:=λk b q=>by (rw[CJ.2] at q;cases q),xQ:=λk b q=>by (rw[CJ.2] at q;cases q),xh:=λk b k' q=>by (rw[CJ.2] at q;cases q),xi:=λk b e q=>by (rw[CJ.2] at q;cases q) } }
section
variable {P:Program} {l:List (Nat×AV)} {ds:List (FuncId×List AV)}
def Ζ {Cs:List α->List PV} {t el:TypeId} {x:Operand} {i o:Nat} {xs:List α} {a:α} {p:PV} [ht:oM P t false] (yT:∀ l,Cs l=l.flatMap C) (hC:∀ x,(C x).length=sz) (ha:xs[i]?=some a) (hx:bU l x=some (.ptr k (i*sz+o))) (hk:dJ s k=some (.arr el sz (Cs xs))) (hp:(C a)[o]?=some p):na P (.load t x) l ds s (.pv p) [(k,.arr el sz (Cs xs))]:=by
 refine KK hx hk ?_;simp only[cV.cells];rw[fj,yT,<- dD,Ie hC ha];have ho:o<(C a).length:=(an.1 hp).1;rw[fR ho,hp];rfl
end
end
end Go.Abs
namespace Go.Abs
open aI
variable {j:Int} {p:Prop} {c:ByS}
def wq:ByS->ByS->Option Nat
 | [],sub=>if sub.isEmpty then some 0 else none
 | b::l,sub=>if sub.isPrefixOf (b::l) then some 0 else match wq l sub with|some i=>some (i+1)|none=>none
def zi (sep:ByS):Nat->ByS->List ByS
 | 0,s=>[s]
 | k+1,s=>match wq s sep with|none=>[s]|some i=>s.take i::zi sep k (s.drop (i+sep.length))
def yg:Nat->Nat->ByS
 | 0,_=>[]
 | f+1,u=>if u<10 then [UInt8.ofNat (48+u)] else yg f (u / 10)++[UInt8.ofNat (48+u % 10)]
def strings_Contains (a b:ByS):aI Bool:=gd (a.length<4294967281) (.ok (wq a b).isSome)
def strings_Split (a b:ByS):aI (List ByS):=gd (1<=b.length/\a.length<4294967281) (.ok (zi b (a.length+1) a))
def strings_LastIndex (a b:ByS):aI Int:=gd (a.length<4611686018427387904) (.ok (Lib.lastIndex a b))
def strings_Cut (a b:ByS):aI (ByS×ByS×Bool):=
 gd (a.length<4294967281) (.ok (match wq a b with|some i=>(a.take i,a.drop (i+b.length),true)|none=>(a,[],false)))
def strings_IndexByte (a:ByS) (b:Int):aI Int:=.ok (match a.findIdx? (·==UInt8.ofNat b.toNat) with|some i=>(i:Int)|none=>-1)
def oN (a b:Int):aI ByS:=gd (b=10/\0<=a/\a<18446744073709551616) (.ok (yg 20 a.toNat))
def uG (a:ByS) (b c:Int):aI (Int×Bool):=
 gd (b=10/\c=64/\a.length<=281474976710656) (.ok (match Lib.parseIntB 64 a with|.ok v=>(v,false)|Lib.NumEnd.syntax=>(0,true)|.range=>(Lib.intSat 64 a,true)))
def vB (fn s:ByS) (base bits e:Int):aI Bool:=gd ((e=1\/e=2)/\s.length<=281474976710656) (.ok true)
section
section
variable {α β X:Type} {Q Q':α->Prop} {R R':sX->Prop} {F G:Nat->aI α}
variable {l:List X} {K:Nat->X->aI α}
def Ev.gA [Decidable p] (h:Ev F Q R) (hp:p:=by first|omega|(simp[cD,nP,Bp,maxLen]<;>omega)):Ev (λi=>aI.gd p (F i)) Q R:=dy hp h
def aH:=@Ev.gA
def Ev.eA (hk:∀ x,l[j.toNat]?=Option.some x->Ev (λi=>K i x) Q R) (h:0<=j/\j<l.length:=by first|omega|(simp[cD,nP,Bp,maxLen]<;>omega)):Ev (λi=>aI.el l j (K i)) Q R:=gm h.1 h.2 hk
def W:=@Ev.eA
def Ev.afD [Decidable p] (ht:p->Ev F Q R) (hf:¬ p->Ev G Q R):Ev (λi=>aI.br (decide p) (F i) (G i)) Q R:=
 aw (λh=>ht B2) (λh=>hf qO)
def aR:=@Ev.afD
variable {a b:β}
def Ev.ai7 [BEq β] [LawfulBEq β] (ht:a=b->Ev F Q R) (hf:a≠b->Ev G Q R):Ev (λi=>aI.br (a==b) (F i) (G i)) Q R:=
 aw (λh=>ht (cg.1 h)) (λh=>hf λe=>by subst e;simp at h)
def b8:=@Ev.ai7
def Ev.ai8 [BEq β] [LawfulBEq β] (ht:a≠b->Ev F Q R) (hf:a=b->Ev G Q R):Ev (λi=>aI.br (a !=b) (F i) (G i)) Q R:=
 aw (λh=>ht λe=>by subst e;simp at h) (λh=>hf jg)
def jI:=@Ev.ai8
def Ev.afE {b:Bool} (ht:b=false->Ev F Q R) (hf:b=true->Ev G Q R):Ev (λi=>aI.br (!b) (F i) (G i)) Q R:=
 aw (λh=>ht jg) (λh=>hf jg)
def cZ:=@Ev.afE
class Nb (b:Bool) (p q:outParam Prop):Prop where
 t:b=true->p
 f:b=false->q
instance (priority:=low) {b:Bool}:Nb b (b=true) (b=false):=⟨id,id⟩
instance {p:Prop} [Decidable p]:Nb (decide p) p (¬ p):=⟨bh,aW⟩
instance [BEq β] [LawfulBEq β] {a b:β}:Nb (a==b) (a=b) (a≠b):=⟨cg.1,λh e=>by subst e;simp at h⟩
instance [BEq β] [LawfulBEq β] {a b:β}:Nb (a !=b) (a≠b) (a=b):=⟨λh e=>by subst e;simp at h,λh=>by simpa using h⟩
instance {b:Bool}:Nb (!b) (b=false) (b=true):=⟨λh=>by simpa using h,λh=>by simpa using h⟩
def Ev.brC {b:Bool} {q:Prop} [n:Nb b p q] (ht:p->Ev F Q R) (hf:q->Ev G Q R):Ev (λi=>aI.br b (F i) (G i)) Q R:=aw (λh=>ht (n.t h)) (λh=>hf (n.f h))
def dK:=@Ev.brC
def Ev.ai9 (h:Ev F Q R):Ev (λi=>aI.br true (F i) (G i)) Q R:=h
def aY:=@Ev.ai9
def Ev.ai_ (h:Ev G Q R):Ev (λi=>aI.br false (F i) (G i)) Q R:=h
def aG:=@Ev.ai_
def Ev.jnI {j:Nat->X->aI α} {p:Nat->(X->aI α)->aI α} (h:Ev (λi=>p i (j i)) Q R):Ev (λi=>aI.jn (j i) (p i)) Q R:=h
def cT:=@Ev.jnI
def Ev.aja {K:Nat->α->aI β} {Qb:β->Prop} (h:Ev F Q λ_=>False) (hk:∀ a,Q a->Ev (λi=>K i a) Qb R):Ev (λi=>ag (F i) (K i)) Qb R:=
 rL h (λ_ q=>q.elim) hk
def dA:=@Ev.aja
end
variable {i:Int}
def Ff (h0:0<=i) (h1:i<=j) (h2:j<=c.length):((sub c i j).length:Int)=j - i:=by
 simp only[sub,jo,iw];omega
def uH (h0:0<=i) (h1:i<=c.length):((gL c i).length:Int)=c.length - i:=by
 simp only[gL,iw];omega
def NJ (h0:0<=j) (h1:j<=c.length):((sI c j).length:Int)=j:=by
 simp only[sI,jo];omega
def K0:(sI c j).length<=c.length:=by simp only[sI,jo];omega
def K1 (sep:ByS):∀ (k:Nat) (s:ByS),(zi sep k s).length<=k+1
 | 0,_=>by simp[zi]
 | k+1,s=>by
  unfold zi;split
  ·simp
  have:=K1 sep k (s.drop (by assumption+sep.length));simp;omega
def Ru:∀ (f u:Nat),(yg f u).length<=f
 | 0,_=>by simp[yg]
 | f+1,u=>by
  unfold yg;split
  ·simp
  have:=Ru f (u / 10);simp;omega
def Η (f u:Nat):1<=(yg (f+1) u).length:=by
 unfold yg;split
 ·simp
 simp
def wrap_u64 (x:Int):0<=IntKind.wrap .u64 x/\IntKind.wrap .u64 x<18446744073709551616:=by
 exact aiz
def Hj (b:UInt8):(b.toNat:Int)<256:=by have:=b.toNat_lt;omega
end
end Go.Abs
namespace Go.Abs
def Cu8 (x:Int):List PV:=[.sc (.int .u8 x)]
def Hk (l:List Int):List PV:=l.flatMap Cu8
def GP (x:Int):(Cu8 x).length=1:=rfl
def OO (x:Int):PV.p9 (Cu8 x)=true:=rfl
def Da (l:List Int):Hk l=l.flatMap Cu8:=rfl
def NK (x:Bool):List PV:=[.sc (.bool x)]
def Ik (l:List Bool):List PV:=l.flatMap NK
def NL (x:Bool):(NK x).length=1:=rfl
def X0 (x:Bool):PV.p9 (NK x)=true:=rfl
def NM (l:List Bool):Ik l=l.flatMap NK:=rfl
def X1 (x:ByS):List PV:=[.sc (S x)]
def gh (l:List ByS):List PV:=l.flatMap X1
def Rv (x:ByS):(X1 x).length=1:=rfl
def Θ (x:ByS):PV.p9 (X1 x)=true:=rfl
def Rw (l:List ByS):gh l=l.flatMap X1:=rfl
mutual
inductive ak where
 | mk (aq:Int) (bM:ByS) (U:Int) (B:ByS) (bT:ByS) (bK:(List ak)) (fi:(List aK)) (J:(List ByS)) (cN:Int)
inductive aK where
 | mk (aq:Int) (eo:Int) (ni:ByS) (B:ByS) (bT:ByS) (bK:(List ak)) (lZ:(List aK)) (J:(List ByS)) (so:(List ByS)) (lR:ByS) (cN:Int)
end
def ak.aq:ak->Int|.mk v _ _ _ _ _ _ _ _=>v
def ak.bM:ak->ByS|.mk _ v _ _ _ _ _ _ _=>v
def ak.U:ak->Int|.mk _ _ v _ _ _ _ _ _=>v
def ak.B:ak->ByS|.mk _ _ _ v _ _ _ _ _=>v
def ak.bT:ak->ByS|.mk _ _ _ _ v _ _ _ _=>v
def ak.bK:ak->(List ak)|.mk _ _ _ _ _ v _ _ _=>v
def ak.fi:ak->(List aK)|.mk _ _ _ _ _ _ v _ _=>v
def ak.J:ak->(List ByS)|.mk _ _ _ _ _ _ _ v _=>v
def ak.cN:ak->Int|.mk _ _ _ _ _ _ _ _ v=>v
def aK.aq:aK->Int|.mk v _ _ _ _ _ _ _ _ _ _=>v
def aK.eo:aK->Int|.mk _ v _ _ _ _ _ _ _ _ _=>v
def aK.ni:aK->ByS|.mk _ _ v _ _ _ _ _ _ _ _=>v
def aK.B:aK->ByS|.mk _ _ _ v _ _ _ _ _ _ _=>v
def aK.bT:aK->ByS|.mk _ _ _ _ v _ _ _ _ _ _=>v
def aK.bK:aK->(List ak)|.mk _ _ _ _ _ v _ _ _ _ _=>v
def aK.lZ:aK->(List aK)|.mk _ _ _ _ _ _ v _ _ _ _=>v
def aK.J:aK->(List ByS)|.mk _ _ _ _ _ _ _ v _ _ _=>v
def aK.so:aK->(List ByS)|.mk _ _ _ _ _ _ _ _ v _ _=>v
def aK.lR:aK->ByS|.mk _ _ _ _ _ _ _ _ _ v _=>v
def aK.cN:aK->Int|.mk _ _ _ _ _ _ _ _ _ _ v=>v
mutual
def ak.E:ak->List PV
 | .mk v0 v1 v2 v3 v4 v5 v6 v7 v8=>[.sc (.int .i64 v0),.sc (Go.Abs.S v1),.sc (.int .i64 v2),.sc (Go.Abs.S v3),.sc (Go.Abs.S v4),.sl v5.length (ak.Cs v5),.sl v6.length (aK.Cs v6),.sl v7.length (gh v7),.sc (.int .i64 v8)]
def ak.Cs:List ak->List PV
 | []=>[]
 | e::es=>e.E++ak.Cs es
def aK.E:aK->List PV
 | .mk v0 v1 v2 v3 v4 v5 v6 v7 v8 v9 v10=>[.sc (.int .i64 v0),.sc (.int .i64 v1),.sc (Go.Abs.S v2),.sc (Go.Abs.S v3),.sc (Go.Abs.S v4),.sl v5.length (ak.Cs v5),.sl v6.length (aK.Cs v6),.sl v7.length (gh v7),.sl v8.length (gh v8),.sc (Go.Abs.S v9),.sc (.int .i64 v10)]
def aK.Cs:List aK->List PV
 | []=>[]
 | e::es=>e.E++aK.Cs es
end
def ak.C (x:ak):List PV:=[.sc (.int .i64 x.aq),.sc (Go.Abs.S x.bM),.sc (.int .i64 x.U),.sc (Go.Abs.S x.B),.sc (Go.Abs.S x.bT),.sl x.bK.length (ak.Cs x.bK),.sl x.fi.length (aK.Cs x.fi),.sl x.J.length (gh x.J),.sc (.int .i64 x.cN)]
def ak.Ι (x:ak):x.E=x.C:=by cases x;rfl
def ak.ui:∀ l:List ak,ak.Cs l=l.flatMap ak.C
 | []=>rfl
 | e::es=>by rw[fE,<- ak.ui es,<- e.Ι];rfl
def ak.vl (x:ak):(ak.C x).length=9:=rfl
def ak.BM (x:ak):PV.p9 (ak.C x)=true:=rfl
def aK.C (x:aK):List PV:=[.sc (.int .i64 x.aq),.sc (.int .i64 x.eo),.sc (Go.Abs.S x.ni),.sc (Go.Abs.S x.B),.sc (Go.Abs.S x.bT),.sl x.bK.length (ak.Cs x.bK),.sl x.lZ.length (aK.Cs x.lZ),.sl x.J.length (gh x.J),.sl x.so.length (gh x.so),.sc (Go.Abs.S x.lR),.sc (.int .i64 x.cN)]
def aK.Ι (x:aK):x.E=x.C:=by cases x;rfl
def aK.ui:∀ l:List aK,aK.Cs l=l.flatMap aK.C
 | []=>rfl
 | e::es=>by rw[fE,<- aK.ui es,<- e.Ι];rfl
def aK.vl (x:aK):(aK.C x).length=11:=rfl
def aK.BM (x:aK):PV.p9 (aK.C x)=true:=rfl
mutual
inductive bu where
 | mk (aq:Int) (Rx:Int) (Ry:Int) (Rz:Int) (RA:Int) (bK:(List bu))
end
def bu.aq:bu->Int|.mk v _ _ _ _ _=>v
def bu.Rx:bu->Int|.mk _ v _ _ _ _=>v
def bu.Ry:bu->Int|.mk _ _ v _ _ _=>v
def bu.Rz:bu->Int|.mk _ _ _ v _ _=>v
def bu.RA:bu->Int|.mk _ _ _ _ v _=>v
def bu.bK:bu->(List bu)|.mk _ _ _ _ _ v=>v
mutual
def bu.E:bu->List PV
 | .mk v0 v1 v2 v3 v4 v5=>[.sc (.int .i64 v0),.sc (.int .u64 v1),.sc (.int .u64 v2),.sc (.int .u64 v3),.sc (.int .u64 v4),.sl v5.length (bu.Cs v5)]
def bu.Cs:List bu->List PV
 | []=>[]
 | e::es=>e.E++bu.Cs es
end
def bu.C (x:bu):List PV:=[.sc (.int .i64 x.aq),.sc (.int .u64 x.Rx),.sc (.int .u64 x.Ry),.sc (.int .u64 x.Rz),.sc (.int .u64 x.RA),.sl x.bK.length (bu.Cs x.bK)]
def bu.Ι (x:bu):x.E=x.C:=by cases x;rfl
def bu.ui:∀ l:List bu,bu.Cs l=l.flatMap bu.C
 | []=>rfl
 | e::es=>by rw[fE,<- bu.ui es,<- e.Ι];rfl
def bu.vl (x:bu):(bu.C x).length=6:=rfl
def bu.BM (x:bu):PV.p9 (bu.C x)=true:=rfl
structure dF where
 Name:ByS
 Path:ByS
 cN:Int
def dF.C (x:dF):List PV:=[.sc (Go.Abs.S x.Name),.sc (Go.Abs.S x.Path),.sc (.int .i64 x.cN)]
def dF.Cs (l:List dF):List PV:=l.flatMap dF.C
def dF.vl (x:dF):(dF.C x).length=3:=rfl
def dF.BM (x:dF):PV.p9 (dF.C x)=true:=rfl
def dF.ui (l:List dF):dF.Cs l=l.flatMap dF.C:=rfl
structure fX where
 jD:ByS
 eB:(List dF)
 fi:(List aK)
 J:(List ByS)
structure dH where
 eU:Int
 At:Int
structure mz where
 x0:ByS
 x1:ByS
structure aC where
 aq:Int
 bM:ByS
 cN:Int
 pO:Int
def aC.C (x:aC):List PV:=[.sc (.int .i64 x.aq),.sc (Go.Abs.S x.bM),.sc (.int .i64 x.cN),.sc (.int .i64 x.pO)]
def aC.Cs (l:List aC):List PV:=l.flatMap aC.C
def aC.vl (x:aC):(aC.C x).length=4:=rfl
def o7:=@aC.vl
def aC.BM (x:aC):PV.p9 (aC.C x)=true:=rfl
def aC.ui (l:List aC):aC.Cs l=l.flatMap aC.C:=rfl
def o8:=@aC.ui
structure D where
 cP:ByS
 oh:(List aC)
 bO:Int
 base:Int
 skip:Bool
 iO:(Option ak)
structure ah where
 s:ByS
 shift:Int
 l:(List aC)
 bO:Int
 skip:Bool
 jF:Int
 td:Int
structure eG where
 cP:ByS
 bO:Int
 out:(List aC)
 line:Bool
structure si where
 bO:Int
structure Y where
 uO:Bool
 deep:Bool
structure cu where
 yh:Bool
 TY:Bool
 EM:Bool
 level:Int
structure eT where
 x0:Int
 x1:Int
 x2:Int
 x3:Int
structure N where
 S:ByS
 At:Int
 oO:Bool
structure cB where
 bM:ByS
 Code:Bool
 cN:Int
def cB.C (x:cB):List PV:=[.sc (Go.Abs.S x.bM),.sc (.bool x.Code),.sc (.int .i64 x.cN)]
def cB.Cs (l:List cB):List PV:=l.flatMap cB.C
def cB.vl (x:cB):(cB.C x).length=3:=rfl
def cB.BM (x:cB):PV.p9 (cB.C x)=true:=rfl
def cB.ui (l:List cB):cB.Cs l=l.flatMap cB.C:=rfl
structure bQ where
 bM:ByS
 Code:Bool
 cN:Int
def bQ.C (x:bQ):List PV:=[.sc (Go.Abs.S x.bM),.sc (.bool x.Code),.sc (.int .i64 x.cN)]
def bQ.Cs (l:List bQ):List PV:=l.flatMap bQ.C
def bQ.vl (x:bQ):(bQ.C x).length=3:=rfl
def bQ.BM (x:bQ):PV.p9 (bQ.C x)=true:=rfl
def bQ.ui (l:List bQ):bQ.Cs l=l.flatMap bQ.C:=rfl
def og:=@bQ.ui
structure L where
 cP:ByS
 bO:Int
abbrev mU (x:eT):List AV:=[Sc (.int .u64 x.x0),Sc (.int .u64 x.x1),Sc (.int .u64 x.x2),Sc (.int .u64 x.x3)]
abbrev rD (x:aK):List AV:=[I x.aq,I x.eo,eu x.ni,eu x.B,eu x.bT,.pv (.sl x.bK.length (ak.Cs x.bK)),.pv (.sl x.lZ.length (aK.Cs x.lZ)),.pv (.sl x.J.length (gh x.J)),.pv (.sl x.so.length (gh x.so)),eu x.lR,I x.cN]
abbrev Q (x:ak):List AV:=[I x.aq,eu x.bM,I x.U,eu x.B,eu x.bT,.pv (.sl x.bK.length (ak.Cs x.bK)),.pv (.sl x.fi.length (aK.Cs x.fi)),.pv (.sl x.J.length (gh x.J)),I x.cN]
abbrev zj (x:fX):List AV:=[eu x.jD,.pv (.sl x.eB.length (dF.Cs x.eB)),.pv (.sl x.fi.length (aK.Cs x.fi)),.pv (.sl x.J.length (gh x.J))]
abbrev mA (x:bu):List AV:=[I x.aq,Sc (.int .u64 x.Rx),Sc (.int .u64 x.Ry),Sc (.int .u64 x.Rz),Sc (.int .u64 x.RA),.pv (.sl x.bK.length (bu.Cs x.bK))]
abbrev nL (x:aC):List AV:=[I x.aq,eu x.bM,I x.cN,I x.pO]
abbrev F (x:D):List AV:=[eu x.cP,.pv (.sl x.oh.length (aC.Cs x.oh)),I x.bO,I x.base,Bo x.skip,.pv (.pt (Option.map ak.C x.iO))]
abbrev dp (x:N):List AV:=[eu x.S,I x.At,Bo x.oO]
abbrev K (x:ah):List AV:=[eu x.s,I x.shift,.pv (.sl x.l.length (aC.Cs x.l)),I x.bO,Bo x.skip,I x.jF,I x.td]
abbrev y (x:L):List AV:=[eu x.cP,I x.bO]
abbrev cq (x:Y):List AV:=[Bo x.uO,Bo x.deep]
abbrev Hl (x:cu):List AV:=[Bo x.yh,Bo x.TY,Bo x.EM,I x.level]
abbrev oE:List AV:=[I 0,eu [],I 0,eu [],eu [],nSl,nSl,nSl,I 0]
abbrev pB (a b:D):D:=D.mk a.cP a.oh a.bO b.base a.skip a.iO
abbrev pM (a b:D):D:=D.mk a.cP a.oh (a.bO+1) b.base a.skip a.iO
abbrev pK (a b:D) (k:Bool):D:=D.mk a.cP a.oh a.bO b.base k a.iO
abbrev eA (a:ak) (x:List ak):ak:=ak.mk a.aq a.bM a.U a.B a.bT x [] [] a.cN
abbrev eS (k:Int) (t:ByS) (x:List ak) (p:Int):ak:=ak.mk k t 0 [] [] x [] [] p
abbrev dL (a:aK) (x:List ByS):aK:=aK.mk a.aq a.eo a.ni a.B a.bT a.bK a.lZ a.J x a.lR a.cN
abbrev dT (a:aK) (x:ByS):aK:=aK.mk a.aq a.eo a.ni a.B a.bT a.bK a.lZ a.J a.so x a.cN
abbrev dS (a:aK) (k:Int) (x:List ak):aK:=aK.mk k a.eo a.ni a.B a.bT x a.lZ a.J a.so a.lR a.cN
abbrev dZ (k p:Int):aK:=aK.mk k 0 [] [] [] [] [] [] [] [] p
abbrev rK (k:Int) (x:List bu):bu:=bu.mk k 0 0 0 0 x
abbrev rG (k:Int) (a:eT):bu:=bu.mk k a.x0 a.x1 a.x2 a.x3 []
abbrev nA (a:L):L:=L.mk a.cP (a.bO+1)
abbrev bF (a:N):N:=N.mk a.S a.At true
abbrev bA (a:N):N:=N.mk a.S (a.At+1) a.oO
abbrev tB (l:List Int):eT:=eT.mk (tA l 0) (tA l 1) (tA l 2) (tA l 3)
end Go.Abs
namespace Go.Abs
open Go.Proofs Go.Proofs.Tryz
noncomputable abbrev Pq:Program:=Tryz.prog
instance:Rk Pq 20:=⟨⟨_,underlying20⟩⟩
instance:Rk Pq 129:=⟨⟨_,underlying129⟩⟩
instance:yR Pq 2 1:={}
instance:oM Pq 2 false:={}
instance:uP Pq 2 (.int .i64):={}
instance:yR Pq 3 1:={}
instance:oM Pq 3 false:={}
instance:ru Pq 3 [.int .i64 0]:={}
instance:uP Pq 3 (.int .i64):={}
instance:yR Pq 4 1:={}
instance:oM Pq 4 false:={}
instance:ru Pq 4 [.bool false]:={}
instance:uP Pq 4 .bool:={}
instance:yR Pq 5 1:={}
instance:oM Pq 5 false:={}
instance:uP Pq 5 (.int .u8):={}
instance:yR Pq 9 1:={}
instance:oM Pq 9 false:={}
instance:uP Pq 9 .string:={}
instance:yR Pq 23 1:={}
instance:oM Pq 23 false:={}
instance:P6 Pq 23 58 3:={}
instance:uP Pq 23 (.slice 58):={}
instance:yR Pq 24 1:={}
instance:oM Pq 24 false:={}
instance:ru Pq 24 [.slice none 0 0]:={}
instance:P6 Pq 24 43 11:={}
instance:uP Pq 24 (.slice 43):={}
instance:yR Pq 25 1:={}
instance:oM Pq 25 false:={}
instance:ru Pq 25 [.slice none 0 0]:={}
instance:P6 Pq 25 9 1:={}
instance:uP Pq 25 (.slice 9):={}
instance:yR Pq 27 4:={}
instance:oM Pq 27 true:={}
instance:ru Pq 27 [eSt,.slice none 0 0,.slice none 0 0,.slice none 0 0]:={}
instance:T Pq 27 0 0:={}
instance:T Pq 27 1 1:={}
instance:T Pq 27 2 2:={}
instance:T Pq 27 3 3:={}
instance:lT Pq 27 [eSt,.slice none 0 0,.slice none 0 0,.slice none 0 0] [(0,1),(1,1),(2,1),(3,1)]:={}
instance:oM Pq 28 false:={}
instance:uP Pq 28 (.int .i64):={}
instance:yR Pq 30 2:={}
instance:oM Pq 30 true:={}
instance:ru Pq 30 [.int .i64 0,.int .i64 0]:={}
instance:T Pq 30 0 0:={}
instance:T Pq 30 1 1:={}
instance:lT Pq 30 [.int .i64 0,.int .i64 0] [(0,1),(1,1)]:={}
instance:yR Pq 35 2:={}
instance:oM Pq 35 true:={}
instance:ru Pq 35 [eSt,eSt]:={}
instance:D' Pq 35 2 1:={}
instance:lT Pq 35 [eSt,eSt] [(0,1),(1,1)]:={}
instance:uP Pq 35 (.array 2 9):={}
instance:yR Pq 36 1:={}
instance:oM Pq 36 false:={}
instance:ru Pq 36 [.slice none 0 0]:={}
instance:P6 Pq 36 38 9:={}
instance:uP Pq 36 (.slice 38):={}
instance:yR Pq 38 9:={}
instance:oM Pq 38 true:={}
instance:ru Pq 38 [.int .i64 0,eSt,.int .i64 0,eSt,eSt,.slice none 0 0,.slice none 0 0,.slice none 0 0,.int .i64 0]:={}
instance:T Pq 38 0 0:={}
instance:T Pq 38 1 1:={}
instance:T Pq 38 2 2:={}
instance:T Pq 38 3 3:={}
instance:T Pq 38 4 5:={}
instance:T Pq 38 5 6:={}
instance:T Pq 38 6 7:={}
instance:T Pq 38 7 8:={}
instance:lT Pq 38 [.int .i64 0,eSt,.int .i64 0,eSt,eSt,.slice none 0 0,.slice none 0 0,.slice none 0 0,.int .i64 0] [(0,1),(1,1),(2,1),(3,2),(5,1),(6,1),(7,1),(8,1)]:={}
instance:yR Pq 43 11:={}
instance:oM Pq 43 true:={}
instance:ru Pq 43 [.int .i64 0,.int .i64 0,eSt,eSt,eSt,.slice none 0 0,.slice none 0 0,.slice none 0 0,.slice none 0 0,eSt,.int .i64 0]:={}
instance:T Pq 43 0 0:={}
instance:T Pq 43 1 1:={}
instance:T Pq 43 2 2:={}
instance:T Pq 43 3 3:={}
instance:T Pq 43 4 5:={}
instance:T Pq 43 5 6:={}
instance:T Pq 43 6 7:={}
instance:T Pq 43 7 8:={}
instance:T Pq 43 8 9:={}
instance:T Pq 43 9 10:={}
instance:lT Pq 43 [.int .i64 0,.int .i64 0,eSt,eSt,eSt,.slice none 0 0,.slice none 0 0,.slice none 0 0,.slice none 0 0,eSt,.int .i64 0] [(0,1),(1,1),(2,1),(3,2),(5,1),(6,1),(7,1),(8,1),(9,1),(10,1)]:={}
instance:yR Pq 44 1:={}
instance:oM Pq 44 false:={}
instance:P6 Pq 44 62 4:={}
instance:uP Pq 44 (.slice 62):={}
instance:oM Pq 48 false:={}
instance:yR Pq 49 1:={}
instance:oM Pq 49 false:={}
instance:uP Pq 49 (.pointer 38):={}
instance:T Pq 51 0 0:={}
instance:T Pq 51 1 1:={}
instance:T Pq 51 2 2:={}
instance:T Pq 51 3 3:={}
instance:T Pq 51 4 4:={}
instance:T Pq 51 5 5:={}
instance:lT Pq 51 [eSt,.slice none 0 0,.int .i64 0,.int .i64 0,.bool false,.pointer none] [(0,1),(1,1),(2,1),(3,1),(4,1),(5,1)]:={}
instance:T Pq 56 0 0:={}
instance:T Pq 56 1 1:={}
instance:T Pq 56 2 2:={}
instance:T Pq 56 3 3:={}
instance:T Pq 56 4 4:={}
instance:T Pq 56 5 5:={}
instance:lT Pq 56 [eSt,.int .i64 0,.slice none 0 0,.int .i64 0,.bool false,.int .i64 0,.int .i64 0] [(0,1),(1,1),(2,1),(3,1),(4,1),(5,2)]:={}
instance:yR Pq 58 3:={}
instance:oM Pq 58 true:={}
instance:ru Pq 58 [eSt,eSt,.int .i64 0]:={}
instance:T Pq 58 0 0:={}
instance:T Pq 58 1 1:={}
instance:lT Pq 58 [eSt,eSt,.int .i64 0] [(0,1),(1,1),(2,1)]:={}
instance:yR Pq 62 4:={}
instance:oM Pq 62 true:={}
instance:ru Pq 62 [.int .i64 0,eSt,.int .i64 0,.int .i64 0]:={}
instance:T Pq 62 0 0:={}
instance:Tff Pq 62 0 false:={}
instance:T Pq 62 1 1:={}
instance:Tff Pq 62 1 false:={}
instance:T Pq 62 2 2:={}
instance:Tff Pq 62 2 false:={}
instance:T Pq 62 3 3:={}
instance:lT Pq 62 [.int .i64 0,eSt,.int .i64 0,.int .i64 0] [(0,1),(1,1),(2,1),(3,1)]:={}
instance:T Pq 68 0 0:={}
instance:T Pq 68 1 1:={}
instance:T Pq 68 2 2:={}
instance:T Pq 68 3 3:={}
instance:lT Pq 68 [eSt,.int .i64 0,.slice none 0 0,.bool false] [(0,1),(1,1),(2,1),(3,1)]:={}
instance:yR Pq 71 1:={}
instance:S' Pq 71:={}
instance:ru Pq 71 [.int .i64 0]:={}
instance:T Pq 71 0 0:={}
instance:lT Pq 71 [.int .i64 0] [(0,1)]:={}
instance:T Pq 81 0 0:={}
instance:T Pq 81 1 1:={}
instance:lT Pq 81 [.bool false,.bool false] [(0,1),(1,1)]:={}
instance:yR Pq 98 4:={}
instance:oM Pq 98 true:={}
instance:T Pq 98 0 0:={}
instance:T Pq 98 1 1:={}
instance:T Pq 98 2 2:={}
instance:T Pq 98 3 3:={}
instance:lT Pq 98 [.bool false,.bool false,.bool false,.int .i64 0] [(0,1),(1,1),(2,1),(3,1)]:={}
instance:P6 Pq 113 4 1:={}
instance:yR Pq 135 1:={}
instance:oM Pq 135 false:={}
instance:ru Pq 135 [.slice none 0 0]:={}
instance:P6 Pq 135 174 3:={}
instance:uP Pq 135 (.slice 174):={}
instance:oM Pq 144 false:={}
instance:yR Pq 151 1:={}
instance:oM Pq 151 false:={}
instance:uP Pq 151 (.int .u64):={}
instance:yR Pq 153 4:={}
instance:oM Pq 153 true:={}
instance:ru Pq 153 [.int .u64 0,.int .u64 0,.int .u64 0,.int .u64 0]:={}
instance:D' Pq 153 4 1:={}
instance:lT Pq 153 [.int .u64 0,.int .u64 0,.int .u64 0,.int .u64 0] [(0,1),(1,1),(2,1),(3,1)]:={}
instance:uP Pq 153 (.array 4 151):={}
instance:yR Pq 154 1:={}
instance:oM Pq 154 false:={}
instance:ru Pq 154 [.slice none 0 0]:={}
instance:P6 Pq 154 156 6:={}
instance:uP Pq 154 (.slice 156):={}
instance:yR Pq 156 6:={}
instance:oM Pq 156 true:={}
instance:ru Pq 156 [.int .i64 0,.int .u64 0,.int .u64 0,.int .u64 0,.int .u64 0,.slice none 0 0]:={}
instance:T Pq 156 0 0:={}
instance:T Pq 156 1 1:={}
instance:T Pq 156 2 5:={}
instance:lT Pq 156 [.int .i64 0,.int .u64 0,.int .u64 0,.int .u64 0,.int .u64 0,.slice none 0 0] [(0,1),(1,4),(5,1)]:={}
instance:P6 Pq 160 192 3:={}
instance:uP Pq 160 (.slice 192):={}
instance:yR Pq 172 1:={}
instance:oM Pq 172 false:={}
instance:ru Pq 172 [.slice none 0 0]:={}
instance:P6 Pq 172 5 1:={}
instance:uP Pq 172 (.slice 5):={}
instance:yR Pq 174 3:={}
instance:oM Pq 174 true:={}
instance:ru Pq 174 [eSt,.bool false,.int .i64 0]:={}
instance:T Pq 174 0 0:={}
instance:T Pq 174 1 1:={}
instance:T Pq 174 2 2:={}
instance:lT Pq 174 [eSt,.bool false,.int .i64 0] [(0,1),(1,1),(2,1)]:={}
instance:yR Pq 184 1:={}
instance:oM Pq 184 false:={}
instance:ru Pq 184 [.pointer none]:={}
instance:T Pq 186 0 0:={}
instance:T Pq 186 1 1:={}
instance:lT Pq 186 [eSt,.int .i64 0] [(0,1),(1,1)]:={}
instance:yR Pq 188 1:={}
instance:S' Pq 188:={}
instance:ru Pq 188 [.int .i64 0]:={}
instance:T Pq 188 0 0:={}
instance:lT Pq 188 [.int .i64 0] [(0,1)]:={}
instance:T Pq 192 0 0:={}
instance:T Pq 192 1 1:={}
instance:T Pq 192 2 2:={}
instance:lT Pq 192 [eSt,.bool false,.int .i64 0] [(0,1),(1,1),(2,1)]:={}
instance:T Pq 202 0 0:={}
instance:T Pq 202 1 1:={}
instance:T Pq 202 2 2:={}
instance:lT Pq 202 [eSt,.int .i64 0,.bool false] [(0,1),(1,1),(2,1)]:={}
instance:uP Pq 207 (.int .u64):={}
instance:S' Pq 208:={}
instance:lT Pq 259 [.int .u8 0,.int .u8 0] [(0,1),(1,1)]:={}
instance:uP Pq 259 (.array 2 5):={}
instance:uf Pq 5 1 1:={}
instance:uf Pq 9 1 16:={}
instance:uf Pq 38 9 144:={}
instance:uf Pq 43 11 184:={}
instance:uf Pq 58 3 40:={}
instance:uf Pq 62 4 40:={}
instance:uf Pq 156 6 64:={}
instance:uf Pq 174 3 32:={}
instance:uf Pq 192 3 32:={}
instance:nQ Pq 23 1 58 3 [eSt,eSt,.int .i64 0] [(0,3)]:={}
instance:nQ Pq 24 1 43 11 [.int .i64 0,.int .i64 0,eSt,eSt,eSt,.slice none 0 0,.slice none 0 0,.slice none 0 0,.slice none 0 0,eSt,.int .i64 0] [(0,11)]:={}
instance:nQ Pq 25 1 9 1 [eSt] [(0,1)]:={}
instance:nQ Pq 25 2 9 1 [eSt,eSt] [(0,1),(1,1)]:={}
instance:nQ Pq 25 3 9 1 [eSt,eSt,eSt] [(0,1),(1,1),(2,1)]:={}
instance:nQ Pq 25 5 9 1 [eSt,eSt,eSt,eSt,eSt] [(0,1),(1,1),(2,1),(3,1),(4,1)]:={}
instance:nQ Pq 25 6 9 1 [eSt,eSt,eSt,eSt,eSt,eSt] [(0,1),(1,1),(2,1),(3,1),(4,1),(5,1)]:={}
instance:nQ Pq 25 7 9 1 [eSt,eSt,eSt,eSt,eSt,eSt,eSt] [(0,1),(1,1),(2,1),(3,1),(4,1),(5,1),(6,1)]:={}
instance:nQ Pq 25 13 9 1 [eSt,eSt,eSt,eSt,eSt,eSt,eSt,eSt,eSt,eSt,eSt,eSt,eSt] [(0,1),(1,1),(2,1),(3,1),(4,1),(5,1),(6,1),(7,1),(8,1),(9,1),(10,1),(11,1),(12,1)]:={}
instance:nQ Pq 25 32 9 1 [eSt,eSt,eSt,eSt,eSt,eSt,eSt,eSt,eSt,eSt,eSt,eSt,eSt,eSt,eSt,eSt,eSt,eSt,eSt,eSt,eSt,eSt,eSt,eSt,eSt,eSt,eSt,eSt,eSt,eSt,eSt,eSt] [(0,1),(1,1),(2,1),(3,1),(4,1),(5,1),(6,1),(7,1),(8,1),(9,1),(10,1),(11,1),(12,1),(13,1),(14,1),(15,1),(16,1),(17,1),(18,1),(19,1),(20,1),(21,1),(22,1),(23,1),(24,1),(25,1),(26,1),(27,1),(28,1),(29,1),(30,1),(31,1)]:={}
instance:nQ Pq 36 1 38 9 [.int .i64 0,eSt,.int .i64 0,eSt,eSt,.slice none 0 0,.slice none 0 0,.slice none 0 0,.int .i64 0] [(0,9)]:={}
instance:nQ Pq 36 2 38 9 [.int .i64 0,eSt,.int .i64 0,eSt,eSt,.slice none 0 0,.slice none 0 0,.slice none 0 0,.int .i64 0,.int .i64 0,eSt,.int .i64 0,eSt,eSt,.slice none 0 0,.slice none 0 0,.slice none 0 0,.int .i64 0] [(0,9),(9,9)]:={}
instance:nQ Pq 44 1 62 4 [.int .i64 0,eSt,.int .i64 0,.int .i64 0] [(0,4)]:={}
instance:nQ Pq 113 1 4 1 [.bool false] [(0,1)]:={}
instance:nQ Pq 113 2 4 1 [.bool false,.bool false] [(0,1),(1,1)]:={}
instance:nQ Pq 113 3 4 1 [.bool false,.bool false,.bool false] [(0,1),(1,1),(2,1)]:={}
instance:nQ Pq 113 4 4 1 [.bool false,.bool false,.bool false,.bool false] [(0,1),(1,1),(2,1),(3,1)]:={}
instance:nQ Pq 135 1 174 3 [eSt,.bool false,.int .i64 0] [(0,3)]:={}
instance:nQ Pq 154 1 156 6 [.int .i64 0,.int .u64 0,.int .u64 0,.int .u64 0,.int .u64 0,.slice none 0 0] [(0,6)]:={}
instance:nQ Pq 154 2 156 6 [.int .i64 0,.int .u64 0,.int .u64 0,.int .u64 0,.int .u64 0,.slice none 0 0,.int .i64 0,.int .u64 0,.int .u64 0,.int .u64 0,.int .u64 0,.slice none 0 0] [(0,6),(6,6)]:={}
instance:nQ Pq 160 1 192 3 [eSt,.bool false,.int .i64 0] [(0,3)]:={}
instance:nQ Pq 172 1 5 1 [.int .u8 0] [(0,1)]:={}
section
def ajb (a b:ByS):((⟨a.toArray⟩:ByteArray).toList==(⟨b.toArray⟩:ByteArray).toList)=(a==b):=by
 rw[ByteArray.toList_eq,ByteArray.toList_eq]
variable {P:Program} {t:TypeId} {xs:List Value} {c:ByS} {yt:TypeId} {x y:Operand} {a b d:ByS}
def wE {cs:Array Value} {off:Nat} {v:Value} (w:World) (ha:AN P t=some false) (h:cs[off]?=some v):(part t cs off).run P w=.ok v w:=by
 unfold part;simp only[cF,AH ha,bR,fF,if_false,h,eF]
def Ws (ht:P.underlying t=some .string) (d:Nat) (w:World) (a b:ByS):(Op.equalIn (d+1) t (S a) (S b)).run P w=.ok (a==b) w:=by
 unfold S;rw[run_equalIn_string w d t _ _ ht,ajb]
def ajc (w:World) (a b c d:ByS):(Op.equalIn 10000 35 (.agg #[S a,S b]) (.agg #[S c,S d])).run Pq w=.ok (a==c&&b==d) w:=by
 have h9:Tryz.prog.underlying 9=some .string:=(inferInstance:uP Pq 9 _).h;have h35:Tryz.prog.underlying 35=some (.array 2 9):=(inferInstance:uP Pq 35 _).h;have ha:AN Pq 9=some false:=(inferInstance:oM Pq 9 false).h;have hc:Tryz.prog.cellsOf 9=1:=by kernel_rfl
 have hz:Mb Pq 9=some 1:=(inferInstance:yR Pq 9 1).h;obtain ⟨i,hi⟩:∃ i,Tryz.prog.info? 9=some i:=by
  unfold Mb at hz;cases q:Tryz.prog.info? 9 with
  | none=>simp[q] at hz
  | some i=>exact ⟨i,rfl⟩
 have p0:∀ x y:ByS,(part 9 #[S x,S y] 0).run Pq w=.ok (S x) w:=λx y=>wE w ha rfl;have p1:∀ x y:ByS,(part 9 #[S x,S y] 1).run Pq w=.ok (S y) w:=λx y=>wE w ha rfl;have e:∀ x y:ByS,(Op.equalIn 9999 9 (S x) (S y)).run Pq w=.ok (x==y) w:=Ws h9 9998 w;rw[show (10000:Nat)=9999+1 from rfl,run_equalIn_array w 9999 _ _ h35 hi,hc];simp only[List.range,List.range.loop,Op.eqItems,cF,Nat.zero_mul,xX,p0,e,bR];cases a==c
 ·simp
 simp only[iT,fF,if_false,cF,p1,e,bR];cases b==d<;>simp
def adz (w:World) (a b c d a' b' c' d':Int):(Op.equalIn 10000 153 (.agg #[.int .u64 a,.int .u64 b,.int .u64 c,.int .u64 d]) (.agg #[.int .u64 a',.int .u64 b',.int .u64 c',.int .u64 d'])).run Pq w=.ok ([a,b,c,d]==[a',b',c',d']) w:=by
 have h44:Tryz.prog.underlying 151=some (.int .u64):=(inferInstance:uP Pq 151 _).h;have h134:Tryz.prog.underlying 153=some (.array 4 151):=(inferInstance:uP Pq 153 _).h;have ha:AN Pq 151=some false:=(inferInstance:oM Pq 151 false).h;have hc:Tryz.prog.cellsOf 151=1:=by kernel_rfl
 have hz:Mb Pq 151=some 1:=(inferInstance:yR Pq 151 1).h;obtain ⟨i,hi⟩:∃ i,Tryz.prog.info? 151=some i:=by
  unfold Mb at hz;cases q:Tryz.prog.info? 151 with
  | none=>simp[q] at hz
  | some i=>exact ⟨i,rfl⟩
 have p0:∀ a b c d:Int,(part 151 #[.int .u64 a,.int .u64 b,.int .u64 c,.int .u64 d] 0).run Pq w=.ok (.int .u64 a) w:=λ_ _ _ _=>wE w ha rfl;have p1:∀ a b c d:Int,(part 151 #[.int .u64 a,.int .u64 b,.int .u64 c,.int .u64 d] 1).run Pq w=.ok (.int .u64 b) w:=λ_ _ _ _=>wE w ha rfl;have p2:∀ a b c d:Int,(part 151 #[.int .u64 a,.int .u64 b,.int .u64 c,.int .u64 d] 2).run Pq w=.ok (.int .u64 c) w:=λ_ _ _ _=>wE w ha rfl;have p3:∀ a b c d:Int,(part 151 #[.int .u64 a,.int .u64 b,.int .u64 c,.int .u64 d] 3).run Pq w=.ok (.int .u64 d) w:=λ_ _ _ _=>wE w ha rfl;have e:∀ x y:Int,(Op.equalIn 9999 151 (.int .u64 x) (.int .u64 y)).run Pq w=.ok (x==y) w:=λx y=>run_equalIn_int w 9998 151 _ _ x y h44;rw[show (10000:Nat)=9999+1 from rfl,run_equalIn_array w 9999 _ _ h134 hi,hc];have l:([a,b,c,d]==[a',b',c',d'])=(a==a'&&(b==b'&&(c==c'&&d==d'))):=by simp[List.cons_beq_cons]
 rw[l];simp only[List.range,List.range.loop,Op.eqItems,cF,Nat.zero_mul,xX,p0,e,bR];cases a==a'
 ·simp
 simp only[iT,fF,if_false,cF,p1,e,bR];cases b==b'
 ·simp
 simp only[iT,fF,if_false,cF,show 2*1=2 from rfl,p2,e,bR];cases c==c'
 ·simp
 simp only[iT,fF,if_false,cF,show 3*1=3 from rfl,p3,e,bR];cases d==d'<;>simp
def ajd:Tryz.prog.eqGuardType Tryz.prog.depth 153=false:=by kernel_rfl
def ale (w:World) (a b c d:Int) (kd:Tryz.prog.underlying 28=some (.int .i64)):(Op.equalIn 10000 30 (.agg #[.int .i64 a,.int .i64 b]) (.agg #[.int .i64 c,.int .i64 d])).run Pq w=.ok (a==c&&b==d) w:=by
 have h3:Tryz.prog.underlying 3=some (.int .i64):=(inferInstance:uP Pq 3 _).h;have h3':AN Pq 3=some false:=(inferInstance:oM Pq 3 false).h;have h28':AN Pq 28=some false:=(inferInstance:oM Pq 28 false).h;have hf:(Tryz.prog.fieldsOf 30).toList.map (λf=>(decide (f.name = "_"),f.type,f.offset))=[(false,28,0),(false,3,1)]:=by kernel_rfl
 have ht:Tryz.prog.underlying 30=some (.struct (Tryz.prog.fieldsOf 30)):=by unfold Program.fieldsOf;rw[underlying30]
 have hp:Tryz.prog.stoodInHeld 30=false:=by kernel_rfl
 have e28:∀ x y:Int,(Op.equalIn 9999 28 (.int .i64 x) (.int .i64 y)).run Pq w=.ok (x==y) w:=λx y=>run_equalIn_int w 9998 28 _ _ x y kd;have e3:∀ x y:Int,(Op.equalIn 9999 3 (.int .i64 x) (.int .i64 y)).run Pq w=.ok (x==y) w:=λx y=>run_equalIn_int w 9998 3 _ _ x y h3;have p0:∀ x y:Int,(part 28 #[.int .i64 x,.int .i64 y] 0).run Pq w=.ok (.int .i64 x) w:=λx y=>wE w h28' rfl;have p1:∀ x y:Int,(part 3 #[.int .i64 x,.int .i64 y] 1).run Pq w=.ok (.int .i64 y) w:=λx y=>wE w h3' rfl;rw[show (10000:Nat)=9999+1 from rfl,run_equalIn_struct w 9999 30 _ _ ht hp];generalize (Tryz.prog.fieldsOf 30).toList=fs at hf;obtain ⟨f1,f2,rfl⟩:∃ f1 f2,fs=[f1,f2]:=by
  have:=iP List.length hf;rw[ik] at this;rcases fs with _|⟨a,_|⟨b,_|⟨c,t⟩⟩⟩
  ·cases this
  ·cases this
  ·exact ⟨_,_,rfl⟩
  simp at this
 simp only[kv,ua,wz,rH,decide_eq_false_iff_not,and_true] at hf;obtain ⟨⟨n1,t1,o1⟩,n2,t2,o2⟩:=hf;simp only[Op.eqFields,n1,n2,ne_eq,not_false_eq_true,if_true,t1,t2,o1,o2,cF,p0,e28,bR];cases a==c
 ·simp
 simp only[iT,fF,if_false,cF,p1,e3,bR];cases b==d<;>simp
def g30:Tryz.prog.eqGuardType Tryz.prog.depth 30=false:=by kernel_rfl
def g35:Tryz.prog.eqGuardType Tryz.prog.depth 35=false:=by kernel_rfl
def g65:Tryz.prog.eqGuardType Tryz.prog.depth 58=false:=by kernel_rfl
def alf (w:World) (a b c d:ByS) (i j:Int):(Op.equalIn 10000 58 (.agg #[S a,S b,.int .i64 i]) (.agg #[S c,S d,.int .i64 j])).run Pq w=.ok (a==c&&b==d&&i==j) w:=by
 have h9:Tryz.prog.underlying 9=some .string:=(inferInstance:uP Pq 9 _).h;have h3:Tryz.prog.underlying 3=some (.int .i64):=(inferInstance:uP Pq 3 _).h;have h9':AN Pq 9=some false:=(inferInstance:oM Pq 9 false).h;have h3':AN Pq 3=some false:=(inferInstance:oM Pq 3 false).h;have hf:(Tryz.prog.fieldsOf 58).toList.map (λf=>(decide (f.name = "_"),f.type,f.offset))=[(false,9,0),(false,9,1),(false,3,2)]:=by kernel_rfl
 have ht:Tryz.prog.underlying 58=some (.struct (Tryz.prog.fieldsOf 58)):=by unfold Program.fieldsOf;rw[underlying58]
 have hp:Tryz.prog.stoodInHeld 58=false:=by kernel_rfl
 have e:∀ x y:ByS,(Op.equalIn 9999 9 (S x) (S y)).run Pq w=.ok (x==y) w:=Ws h9 9998 w;have e3:∀ x y:Int,(Op.equalIn 9999 3 (.int .i64 x) (.int .i64 y)).run Pq w=.ok (x==y) w:=λx y=>run_equalIn_int w 9998 3 _ _ x y h3;have p0:∀ (x y:ByS) (z:Int),(part 9 #[S x,S y,.int .i64 z] 0).run Pq w=.ok (S x) w:=λx y z=>wE w h9' rfl;have p1:∀ (x y:ByS) (z:Int),(part 9 #[S x,S y,.int .i64 z] 1).run Pq w=.ok (S y) w:=λx y z=>wE w h9' rfl;have p2:∀ (x y:ByS) (z:Int),(part 3 #[S x,S y,.int .i64 z] 2).run Pq w=.ok (.int .i64 z) w:=λx y z=>wE w h3' rfl;rw[show (10000:Nat)=9999+1 from rfl,run_equalIn_struct w 9999 58 _ _ ht hp];generalize (Tryz.prog.fieldsOf 58).toList=fs at hf;obtain ⟨f1,f2,f3,rfl⟩:∃ f1 f2 f3,fs=[f1,f2,f3]:=by
  have:=iP List.length hf;rw[ik] at this;rcases fs with _|⟨a,_|⟨b,_|⟨c,_|⟨d,t⟩⟩⟩⟩
  ·cases this
  ·cases this
  ·cases this
  ·exact ⟨_,_,_,rfl⟩
  simp at this
 simp only[kv,ua,wz,rH,decide_eq_false_iff_not,and_true] at hf;obtain ⟨⟨n1,t1,o1⟩,⟨n2,t2,o2⟩,n3,t3,o3⟩:=hf;simp only[Op.eqFields,n1,n2,n3,ne_eq,not_false_eq_true,if_true,t1,t2,t3,o1,o2,o3,cF,p0,e,bR];cases a==c
 ·simp
 simp only[iT,fF,if_false,cF,p1,e,bR];cases b==d
 ·simp
 simp only[iT,fF,if_false,cF,p2,e3,bR];cases i==j<;>simp
section
variable {l:List (Nat×AV)} {ds:List (FuncId×List AV)} {s:List (Nat×cV)}
def VR.Oa {g:Gh} {c:Value} (h:VR g (.agg (xs.map λv=>.pv (.sc v))) c):c=.agg xs.toArray:=by
 cases h with
 | agg h=>
  congr 2
  rename_i vs
  induction xs generalizing vs with
  | nil=>cases h;rfl
  | cons x xs ih=>
   cases h with
   | cons h t=>
    cases h with
    | pv h=>cases h;rw[ih t]
variable {fr:k9} {ys:List Value} {r:Bool}
def K2 (hg:Tryz.prog.eqGuardType Tryz.prog.depth t=false) (hx:fr.val x=.agg (xs.map λv=>.pv (.sc v))) (hy:fr.val y=.agg (ys.map λv=>.pv (.sc v))) (h:∀ w,(Op.equalIn 10000 t (.agg xs.toArray) (.agg ys.toArray)).run Pq w=.ok r w) :
  X Pq (.binOp .eql t x y yt) fr [] (Bo r):=by
 intro o ho g ev w hG hv _
 have q1:=hv x vd;rw[hx] at q1
 have q2:=hv y vd;rw[hy] at q2
 exact akR
def K3 (hg:Tryz.prog.eqGuardType Tryz.prog.depth t=false) (hx:fr.val x=.agg (xs.map λv=>.pv (.sc v))) (hy:fr.val y=.agg (ys.map λv=>.pv (.sc v))) (h:∀ w,(Op.equalIn 10000 t (.agg xs.toArray) (.agg ys.toArray)).run Pq w=.ok r w) :
  X Pq (.binOp .neq t x y yt) fr [] (Bo (!r)):=by
 intro o ho g ev w hG hv _
 have q1:=hv x vd;rw[hx] at q1
 have q2:=hv y vd;rw[hy] at q2
 exact akQ
def afF (hx:bU l x=some (.agg [eu a,eu b])) (hy:bU l y=some (.agg [eu c,eu d])):na Pq (.binOp .eql 35 x y yt) l ds s (Bo (a==c&&b==d)) []:=
 .of (K2 (xs:=[S a,S b]) (ys:=[S c,S d]) g35 kp tY λw=>ajc w a b c d)
def afG (hx:bU l x=some (.agg [eu a,eu b])) (hy:bU l y=some (.agg [eu c,eu d])):na Pq (.binOp .neq 35 x y yt) l ds s (Bo (!(a==c&&b==d))) []:=
 .of (K3 (xs:=[S a,S b]) (ys:=[S c,S d]) g35 kp tY λw=>ajc w a b c d)
def afH {i j:Int} (hx:bU l x=some (.agg [eu a,eu b,I i])) (hy:bU l y=some (.agg [eu c,eu d,I j])):na Pq (.binOp .neq 58 x y yt) l ds s (Bo (!(a==c&&b==d&&i==j))) []:=
 .of (K3 (xs:=[S a,S b,.int .i64 i]) (ys:=[S c,S d,.int .i64 j]) g65 kp tY λw=>alf w a b c d i j)
variable {a' b' c' d':Int}
def afI {a b c d:Int} (hx:bU l x=some (.agg [Sc (.int .u64 a),Sc (.int .u64 b),Sc (.int .u64 c),Sc (.int .u64 d)])) (hy:bU l y=some (.agg [Sc (.int .u64 a'),Sc (.int .u64 b'),Sc (.int .u64 c'),Sc (.int .u64 d')])) :
  na Pq (.binOp .eql 153 x y yt) l ds s (Bo ([a,b,c,d]==[a',b',c',d'])) []:=
 .of (K2 (xs:=[.int .u64 a,.int .u64 b,.int .u64 c,.int .u64 d]) (ys:=[.int .u64 a',.int .u64 b',.int .u64 c',.int .u64 d']) ajd kp tY λw=>adz w ..)
def afJ {a b c d:Int} (hx:bU l x=some (.agg [Sc (.int .u64 a),Sc (.int .u64 b),Sc (.int .u64 c),Sc (.int .u64 d)])) (hy:bU l y=some (.agg [Sc (.int .u64 a'),Sc (.int .u64 b'),Sc (.int .u64 c'),Sc (.int .u64 d')])) :
  na Pq (.binOp .neq 153 x y yt) l ds s (Bo (!([a,b,c,d]==[a',b',c',d']))) []:=
 .of (K3 (xs:=[.int .u64 a,.int .u64 b,.int .u64 c,.int .u64 d]) (ys:=[.int .u64 a',.int .u64 b',.int .u64 c',.int .u64 d']) ajd kp tY λw=>adz w ..)
def aje {a b c d:Int} (hx:bU l x=some (.agg [I a,I b])) (hy:bU l y=some (.agg [I c,I d])):na Pq (.binOp .eql 30 x y yt) l ds s (Bo (a==c&&b==d)) []:=
 .of (K2 (xs:=[.int .i64 a,.int .i64 b]) (ys:=[.int .i64 c,.int .i64 d]) g30 kp tY λw=>ale w a b c d (inferInstance:uP Pq 28 (.int .i64)).h)
end
end
end Go.Abs
section
namespace Go.Proofs
open Go.Shelf
def Tryz.RB:Go.Shelf.Ren:=⟨λ|137=>285|217=>212|266=>238|n=>n,λ|9=>9|5=>5|3=>3|n=>n,λ|n=>n⟩
def Tryz.aaM:Go.Proofs.Lays.n137 Tryz.prog Tryz.RB:=by repeat' (first|kernel_rfl|intro _|constructor)
open Go.RowKit in
def Tryz.strings_IndexByte (s:ByteArray) (c:Int) (w:World) :
 Calls Tryz.prog 285 #[.string s,.int .u8 c] w λe w'=>e=.returned (.int .i64 (Lib.indexByte s.data.toList c.toNat.toUInt8))/\w'=w:=Any.strings_IndexByte Tryz.aaM s c w
def Tryz.RC:Go.Shelf.Ren:=⟨λ|283=>245|n=>n,λ|3=>3|9=>9|4=>4|n=>n,λ|n=>n⟩
def Tryz.aaN:Go.Proofs.Lays.n283 Tryz.prog Tryz.RC:=by repeat' (first|kernel_rfl|intro _|constructor)
open Go.Lib in
def Tryz.internal_strconv_small (i:Nat) (h:i<100) (w:World) :
 Calls Tryz.prog 245 #[.int .i64 i] w λe w'=>e=.returned (.string ⟨(Lib.decDigits i).toArray⟩)/\w'=w:=Any.internal_strconv_small Tryz.aaN i h w
def Tryz.OP:Go.Shelf.Ren:=⟨λ|284=>246|129=>262|317=>261|318=>263|n=>n,λ|53=>151|3=>3|212=>235|0=>0|4=>4|46=>207|5=>5|9=>9|n=>n,λ|17=>3|n=>n⟩
def Tryz.Κ:Go.Proofs.LaysM.n284 Tryz.prog Tryz.OP:=by repeat' (first|kernel_rfl|intro _|constructor)
open Go.Lib in
def Tryz.internal_strconv_numDigits (u:Nat) (h1:1<=u) (h2:u<18446744073709551616) (w:World) (htab:Lib.TabIs Tryz.prog w "internal/strconv.uint64pow10" .u64 Lib.pow10Tab) :
 Calls Tryz.prog 246 #[.int .u64 u] w λe w'=>e=.returned (.int .i64 (Lib.nDigits u))/\w'=w:=Any.internal_strconv_numDigits Tryz.Κ u h1 h2 w htab
def Tryz.RD:Go.Shelf.Ren:=⟨λ|285=>247|n=>n,λ|37=>172|53=>151|3=>3|4=>4|51=>180|9=>9|5=>5|0=>0|n=>n,λ|n=>n⟩
def Tryz.aaO:Go.Proofs.Lays.n285 Tryz.prog Tryz.RD:=by repeat' (first|kernel_rfl|intro _|constructor)
open Go.RowKit Go.Sort Go.Lib in
def Tryz.internal_strconv_formatBase10 (blk off cap:Nat) (u:Nat) (d:Array UInt8) (w:World) (hH:Holds (λ(b:UInt8)=>Value.int .u8 (b.toNat:Int)) w blk off d) (hu:u<10 ^ d.size) (TZ:u<18446744073709551616) (Ma:d.size<4611686018427387904) :
 Calls Tryz.prog 247 #[.slice (some ⟨blk,off,none⟩) d.size cap,.int .u64 u] w λe w'=>
  e=.returned (.tuple #[])/\∃ (n v':Nat) (dk:Array UInt8),w'=(putRow (λ(b:UInt8)=>Value.int .u8 (b.toNat:Int)) w blk off dk).drewN n/\FmtInv d.size u 0 v' dk:=Any.internal_strconv_formatBase10 Tryz.aaO blk off cap u d w hH hu TZ Ma
def Tryz.OQ:Go.Shelf.Ren:=⟨λ|245=>175|279=>217|280=>218|281=>219|282=>220|316=>242|171=>244|205=>243|243=>260|246=>276|283=>245|284=>246|285=>247|286=>248|129=>262|317=>261|318=>263|319=>264|320=>265|337=>277|338=>278|n=>n,λ|9=>9|3=>3|75=>129|167=>208|4=>4|168=>211|210=>221|37=>172|0=>0|127=>230|145=>233|143=>231|2=>2|171=>223|53=>151|5=>5|173=>226|212=>235|51=>180|20=>20|213=>236|46=>207|232=>254|233=>255|80=>75|n=>n,λ|15=>1|16=>2|17=>3|18=>6|19=>7|n=>n⟩
def Tryz.RE:Go.Proofs.LaysC.n245 Tryz.prog Tryz.OQ:=by repeat' (first|kernel_rfl|intro _|constructor)
open Go.RowKit in
def Tryz.strconv_toError_syntax (fn s:ByteArray) (base bits:Int) (ev:Value) (w:World) (T0:s.size<=281474976710656) (hv:w.cell? ⟨1,0,none⟩=some ev) (hev:ev=.nilIface\/∃ te pe,ev=.iface te pe) :
 Calls Tryz.prog 175 #[.string fn,.string s,.int .i64 base,.int .i64 bits,.iface 208 (.int .i64 2)] w λe w'=>∃ N,e=.returned (.iface 211 (.pointer (some ⟨N,0,none⟩)))/\w.heap.size<=N/\w'.heap[N]?=some (.cells #[.string fn,.string s,ev] 221 (0,0))/\Below w.heap.size w w':=Any.strconv_toError_syntax Tryz.RE fn s base bits ev w T0 hv hev
open Go.RowKit in
def Tryz.strconv_toError_range (fn s:ByteArray) (base bits:Int) (ev:Value) (w:World) (T0:s.size<=281474976710656) (hv:w.cell? ⟨2,0,none⟩=some ev) (hev:ev=.nilIface\/∃ te pe,ev=.iface te pe) :
 Calls Tryz.prog 175 #[.string fn,.string s,.int .i64 base,.int .i64 bits,.iface 208 (.int .i64 1)] w λe w'=>∃ N,e=.returned (.iface 211 (.pointer (some ⟨N,0,none⟩)))/\w.heap.size<=N/\w'.heap[N]?=some (.cells #[.string fn,.string s,ev] 221 (0,0))/\Below w.heap.size w w':=Any.strconv_toError_range Tryz.RE fn s base bits ev w T0 hv hev
def Tryz.OR:Go.Shelf.Ren:=⟨λ|174=>121|247=>174|245=>175|287=>216|279=>217|280=>218|281=>219|282=>220|321=>240|322=>241|316=>242|171=>244|205=>243|243=>260|246=>276|283=>245|284=>246|285=>247|286=>248|129=>262|317=>261|318=>263|319=>264|320=>265|337=>277|338=>278|n=>n,λ|9=>9|3=>3|2=>2|75=>129|85=>130|4=>4|167=>208|5=>5|53=>151|175=>209|46=>207|168=>211|37=>172|0=>0|210=>221|21=>21|127=>230|145=>233|143=>231|171=>223|173=>226|212=>235|51=>180|20=>20|213=>236|232=>254|233=>255|80=>75|n=>n,λ|15=>1|16=>2|17=>3|18=>6|19=>7|n=>n⟩
def Tryz.K4:Go.Proofs.LaysC.n174 Tryz.prog Tryz.OR:=by repeat' (first|kernel_rfl|intro _|constructor)
open Go.RowKit in
def Tryz.strconv_ParseInt_10_at64_ok (s:ByteArray) (Ez:s.size<=9223372036854775806) (v:Int) (h:Lib.parseIntB 64 s.data.toList=.ok v) (w:World) :
 Calls Tryz.prog 121 #[.string s,.int .i64 10,.int .i64 64] w λe w'=>e=.returned (.tuple #[.int .i64 v,.nilIface])/\(w'=w\/∃ t,w'=Lib.bytesWorld w 5 t):=Any.strconv_ParseInt_10_at64_ok Tryz.K4 s Ez v h w
open Go.RowKit in
def Tryz.strconv_ParseInt_10_at64_syntax (s:ByteArray) (T0:s.size<=281474976710656) (h:Lib.parseIntB 64 s.data.toList=Lib.NumEnd.syntax) (ev:Value) (w:World) (hv:w.cell? ⟨1,0,none⟩=some ev) (hev:ev=.nilIface\/∃ te pe,ev=.iface te pe) :
 Calls Tryz.prog 121 #[.string s,.int .i64 10,.int .i64 64] w λe w'=>∃ N,e=.returned (.tuple #[.int .i64 (0),.iface 211 (.pointer (some ⟨N,0,none⟩))])/\w.heap.size<=N/\w'.heap[N]?=some (.cells #[.string ⟨#[80,97,114,115,101,73,110,116]⟩,.string s,ev] 221 (0,0))/\Below w.heap.size w w':=Any.strconv_ParseInt_10_at64_syntax Tryz.K4 s T0 h ev w hv hev
open Go.RowKit in
def Tryz.strconv_ParseInt_10_at64_range (s:ByteArray) (T0:s.size<=281474976710656) (h:Lib.parseIntB 64 s.data.toList=.range) (ev:Value) (w:World) (hv:w.cell? ⟨2,0,none⟩=some ev) (hev:ev=.nilIface\/∃ te pe,ev=.iface te pe) :
 Calls Tryz.prog 121 #[.string s,.int .i64 10,.int .i64 64] w λe w'=>∃ N,e=.returned (.tuple #[.int .i64 (Lib.intSat 64 s.data.toList),.iface 211 (.pointer (some ⟨N,0,none⟩))])/\w.heap.size<=N/\w'.heap[N]?=some (.cells #[.string ⟨#[80,97,114,115,101,73,110,116]⟩,.string s,ev] 221 (0,0))/\Below w.heap.size w w':=Any.strconv_ParseInt_10_at64_range Tryz.K4 s T0 h ev w hv hev
def Tryz.RH:Go.Shelf.Ren:=⟨λ|144=>75|143=>117|219=>173|217=>212|225=>213|224=>214|267=>215|266=>238|314=>239|n=>n,λ|9=>9|4=>4|3=>3|5=>5|46=>207|146=>181|51=>180|n=>n,λ|1=>0|n=>n⟩
def Tryz.aaP:Go.Proofs.Lays.n144 Tryz.prog Tryz.RH:=by repeat' (first|kernel_rfl|intro _|constructor)
open Go.RowKit Go.Lib in
def Tryz.strings_Contains (s sub:ByteArray) (m:Int) (w:World) (hs:s.size<4294967281) (hm:w.cell? ⟨0,0,none⟩=some (.int .i64 m)) :
 Calls Tryz.prog 75 #[.string s,.string sub] w λe w'=>e=.returned (.bool (Lib.contains s.data.toList sub.data.toList))/\w'=w:=Any.strings_Contains Tryz.aaP s sub m w hs hm
def Tryz.RJ:Go.Shelf.Ren:=⟨λ|145=>77|220=>119|219=>173|217=>212|225=>213|224=>214|267=>215|266=>238|314=>239|n=>n,λ|9=>9|4=>4|59=>103|3=>3|5=>5|46=>207|146=>181|51=>180|n=>n,λ|1=>0|n=>n⟩
def Tryz.aaQ:Go.Proofs.Lays.n145 Tryz.prog Tryz.RJ:=by repeat' (first|kernel_rfl|intro _|constructor)
open Go.RowKit Go.Lib in
def Tryz.strings_Cut (s sep:ByteArray) (m:Int) (w:World) (hs:s.size<4294967281) (hm:w.cell? ⟨0,0,none⟩=some (.int .i64 m)) :
 Calls Tryz.prog 77 #[.string s,.string sep] w λe w'=>e=.returned (.tuple #[.string ⟨(Lib.cut s.data.toList sep.data.toList).1.toArray⟩,.string ⟨(Lib.cut s.data.toList sep.data.toList).2.1.toArray⟩,.bool (Lib.cut s.data.toList sep.data.toList).2.2])/\∃ n,w'=w.drewN n:=Any.strings_Cut Tryz.aaQ s sep m w hs hm
def Tryz.RL:Go.Shelf.Ren:=⟨λ|148=>85|222=>128|223=>129|269=>183|n=>n,λ|9=>9|3=>3|4=>4|5=>5|146=>181|51=>180|46=>207|n=>n,λ|n=>n⟩
def Tryz.aaR:Go.Proofs.Lays.n148 Tryz.prog Tryz.RL:=by repeat' (first|kernel_rfl|intro _|constructor)
open Go.RowKit Go.Lib in
def Tryz.strings_LastIndex (s sub:ByteArray) (hs:s.size<4611686018427387904) (w:World) :
 Calls Tryz.prog 85 #[.string s,.string sub] w λe w'=>e=.returned (.int .i64 (Lib.lastIndex s.data.toList sub.data.toList))/\w'=w:=Any.strings_LastIndex Tryz.aaR s sub hs w
def Tryz.RM:Go.Shelf.Ren:=⟨λ|146=>127|221=>182|268=>223|138=>224|143=>117|195=>249|197=>250|218=>251|219=>173|260=>266|217=>212|225=>213|224=>214|267=>215|266=>238|314=>239|n=>n,λ|9=>9|31=>25|3=>3|4=>4|0=>0|105=>228|21=>21|5=>5|46=>207|119=>242|139=>245|138=>244|146=>181|51=>180|n=>n,λ|1=>0|3=>4|4=>5|n=>n⟩
def Tryz.aaS:Go.Proofs.Lays.n146 Tryz.prog Tryz.RM:=by repeat' (first|kernel_rfl|intro _|constructor)
open Go.RowKit Go.Lib in
def Tryz.strings_Split (s sep:ByteArray) (m:Int) (w:World) (hs:s.size<4294967281) (hm:w.cell? ⟨0,0,none⟩=some (.int .i64 m)) (h1:1<=sep.size) :
 Calls Tryz.prog 127 #[.string s,.string sep] w λe w'=>
  e=.returned (.slice (some ⟨w.heap.size,0,none⟩) (Lib.countB s sep+1) (Lib.countB s sep+1))/\w'=w.alloc (.cells ((Lib.splitB sep 0 (Lib.countB s sep) s).map Value.string).toArray 9):=Any.strings_Split Tryz.aaS (by kernel_rfl) s sep m w hs hm h1
end Go.Proofs
end
namespace Go.Abs
open Go.Proofs Go.Proofs.Tryz aI Go.RowKit
section
theorem EN {f:FuncId} {args:List AV} {X:Type} {res:aI X} {V:X->AV}
  (h:∀ x,res=.ok x->∀ (E:Env) (g:Gh) (w:World) (vs:List Value),Rel E g (bW []) w->M g args vs->Calls Pq f vs.toArray w λe w'=>∃ g' c,e=.returned c/\VR g' (V x) c/\Rel E g' (bW []) w')
  (hp:∀ p,res≠.ry p):CT Pq f args [] res V (λ_=>[]):=by
 refine ⟨λr hr hs=>?_⟩
 cases r with
 | stuck=>exact ao rfl hs
 | ry p=>exact ao hr (hp p)
 | ok x=>
  intro wS g w vs hR hv
  refine (h x hr (Env.of wS g (bW []) w) g w vs hR hv).mono ?_
  rintro e w' ⟨g',c,he,GU,lq⟩
  subst he
  exact ahy
variable {α:Type} {p:Prop} {a:α} {x:Value} {g:Gh} {vs:List Value} {E:Env} {σ:fC} {w:World}
def K5 [Decidable p] {x:aI α} (h:gd p x=.ok a):p/\x=.ok a:=aeV bn h
def ahu [Decidable p] (q:sX):gd p (.ok a)≠.ry q:=by unfold gd;split<;>simp
def M.alg (h:M g [Sc x] vs):vs=[x]:=by
 cases h with|cons h t=>cases t;rw[qB h]
variable {y:Value}
def M.alh (h:M g [Sc x,Sc y] vs):vs=[x,y]:=by
 cases h with|cons h t=>rw[qB h,M.alg t]
def vN:=@M.alh
def M.afK {z:Value} (h:M g [Sc x,Sc y,Sc z] vs):vs=[x,y,z]:=by
 cases h with|cons h t=>rw[qB h,vN t]
def Rel.RN (hR:Rel E g σ w) {a:Addr} {v:Value} (h:E.wS.cell? a=some v):w.cell? a=some v:=by
 unfold World.cell? at h ⊢;cases q:E.wS.heap[a.block]? with
 | none=>rw[q] at h;cases h
 | some o=>rw[hR.x.set a.block (pS.1 q).1];exact h
def Rel.maxLen (hR:Rel E g σ w):∃ m:Int,w.cell? ⟨0,0,none⟩=some (.int .i64 m):=
 let ⟨m,h⟩:=hR.x.gf.1;⟨m,hR.RN h⟩
def Rel.aem {w':World} (h:Rel E g σ w) (hb:w'=w\/∃ t,w'=Lib.bytesWorld w 5 t):Rel E g σ w':=by
 rcases hb with rfl|⟨t,rfl⟩
 ·exact h
 exact h.below (IX _ _ _)
def EO:∀ (s p:ByS),Lib.index s p=match wq s p with|some i=>(i:Int)|none=>-1
 | [],p=>by unfold Lib.index wq;split<;>rfl
 | b::l,p=>by
  unfold Lib.index wq;rw[EO l p];split
  ·rfl
  cases wq l p with
  | none=>rfl
  | some i=>
   have:¬ ((i:Int)==-1)=true:=by simp
   simp[this]
def RO (s p:ByS):Lib.contains s p=(wq s p).isSome:=by
 unfold Lib.contains;rw[EO];cases wq s p with
 | none=>rfl
 | some i=>simp
def afL (s p:ByS):Lib.cut s p=match wq s p with|some i=>(s.take i,s.drop (i+p.length),true)|none=>(s,[],false):=by
 unfold Lib.cut;rw[EO];cases wq s p with
 | none=>rfl
 | some i=>simp
instance T1 (a b:ByS):CT Pq 75 [eu a,eu b] [] (strings_Contains a b) (λx=>Bo x) (λ_=>[]):=by
 refine EN (λx hx E g w vs hR hv=>?_) Kd;obtain ⟨hl,hx⟩:=K5 hx;cases hx;have hv:=vN hv;subst hv;obtain ⟨m,hm⟩:=hR.maxLen;refine (Tryz.strings_Contains ⟨a.toArray⟩ ⟨b.toArray⟩ m w Zm hm).mono ?_;rintro e w' ⟨rfl,rfl⟩;exact ⟨g,_,rfl,by rw[RO];exact .pv (.sc _),hR⟩
instance Tc (a b:ByS):CT Pq 85 [eu a,eu b] [] (strings_LastIndex a b) (λx=>I x) (λ_=>[]):=by
 refine EN (λx hx E g w vs hR hv=>?_) Kd;obtain ⟨hl,hx⟩:=K5 hx;cases hx;have hv:=vN hv;subst hv;refine (Tryz.strings_LastIndex ⟨a.toArray⟩ ⟨b.toArray⟩ Zm w).mono ?_;rintro e w' ⟨rfl,rfl⟩;exact ⟨g,_,rfl,.pv (.sc _),hR⟩
instance Ĺ (a b:ByS):CT Pq 77 [eu a,eu b] [] (strings_Cut a b) (λx=>.mE [eu x.1,eu x.2.1,Bo x.2.2]) (λ_=>[]):=by
 refine EN (λx hx E g w vs hR hv=>?_) Kd;obtain ⟨hl,hx⟩:=K5 hx;have hv:=vN hv;subst hv;obtain ⟨m,hm⟩:=hR.maxLen;refine (Tryz.strings_Cut ⟨a.toArray⟩ ⟨b.toArray⟩ m w Zm hm).mono ?_;rintro e w' ⟨rfl,k,rfl⟩;have ve:Lib.cut a b=x:=by rw[afL];cases hx;rfl
 subst ve;refine ⟨g,_,rfl,?_,hR.below ⟨rfl,rfl,rfl,iJ _,λ_ _=>rfl⟩⟩;exact .mE (.cons (.pv (.sc _)) (.cons (.pv (.sc _)) (.cons (.pv (.sc _)) .nil)))
def ixB (l:ByS) (c:UInt8):Lib.indexByte l c=match l.findIdx? (·==c) with|some i=>(i:Int)|none=>-1:=by
 induction l with
 | nil=>rfl
 | cons b l ih=>
  unfold Lib.indexByte
  rw[List.findIdx?_cons,ih]
  split
  ·rfl
  ·cases l.findIdx? (·==c) with
   | none=>rfl
   | some i=>
    have:¬ ((i:Int)==-1)=true:=by simp
    simp[this]
instance Td (a:ByS) (b:Int):CT Pq 285 [eu a,Sc (.int .u8 b)] [] (strings_IndexByte a b) (λx=>I x) (λ_=>[]):=by
 refine EN (λx hx E g w vs hR hv=>?_) (λp=>by unfold strings_IndexByte;simp);have hv:=vN hv;subst hv;refine (Tryz.strings_IndexByte ⟨a.toArray⟩ b w).mono ?_;rintro e w' ⟨rfl,rfl⟩;unfold strings_IndexByte at hx;cases hx;refine ⟨g,_,rfl,?_,hR⟩;exact Eq.mp (iP (λz=>VR g (I z) (.int .i64 (Lib.indexByte a (UInt8.ofNat b.toNat)))) (ixB a (UInt8.ofNat b.toNat))) (.pv (.sc _))
def RS (sep:ByS):∀ (f:Nat) (s:ByS),Lib.splitK sep 0 (Lib.countFrom sep f s) s=zi sep f s
 | 0,s=>rfl
 | f+1,s=>by
  have ih:=λt=>RS sep f t;unfold Lib.countFrom zi;rw[EO];cases q:wq s sep with
  | none=>rfl
  | some i=>
   have:¬ ((i:Int)==-1)=true:=by simp
   have e:∀ k,Lib.splitK sep 0 (k+1) s=if Lib.index s sep==-1 then [s] else s.take ((Lib.index s sep).toNat+0)::Lib.splitK sep 0 k (s.drop ((Lib.index s sep).toNat+sep.length)):=λ_=>rfl
   simp only[this]
   rw[aE bn,ub,e,EO,q]
   simp only[this]
   rw[aE bn]
   simp[ih]
def Λ (a b:ByS):(Lib.splitB ⟨b.toArray⟩ 0 (Lib.countB ⟨a.toArray⟩ ⟨b.toArray⟩) ⟨a.toArray⟩).map (·.data.toList)=zi b (a.length+1) a:=by
 rw[Lib.splitB_data];exact RS b (a.length+1) a
def RT:∀ l:List ByteArray,vk g (gh (l.map (·.data.toList))) (l.map Value.string)
 | []=>.nil
 | b::l=>by
  have:Value.string b=S b.data.toList:=by simp[S]
  rw[kv,kv,this];exact .cons (.sc _) (RT l)
instance YU (a b:ByS):CT Pq 127 [eu a,eu b] [] (strings_Split a b) (λx=>.pv (.sl x.length (gh x))) (λ_=>[]):=by
 refine EN (λx hx E g w vs hR hv=>?_) Kd;obtain ⟨hl,hx⟩:=K5 hx;cases hx;have hv:=vN hv;subst hv;obtain ⟨m,hm⟩:=hR.maxLen;have h1:1<=ByteArray.size ⟨b.toArray⟩:=by simpa[ByteArray.size] using hl.1
 refine (Tryz.strings_Split ⟨a.toArray⟩ ⟨b.toArray⟩ m w (by simpa[ByteArray.size] using hl.2) hm h1).mono ?_;rintro e w' ⟨rfl,rfl⟩;have hlen:=Lib.splitB_all ⟨b.toArray⟩ h1 0 _ ⟨a.toArray⟩ rfl;generalize hL:Lib.splitB ⟨b.toArray⟩ 0 (Lib.countB ⟨a.toArray⟩ ⟨b.toArray⟩) ⟨a.toArray⟩=L at hlen;have hs:zi b (a.length+1) a=L.map (·.data.toList):=by rw[<- Λ,hL]
 rw[hs];have hp:vk g (gh (L.map (·.data.toList))) (L.map Value.string):=RT L;have hc:(gh (L.map (·.data.toList))).length=L.length:=by rw[hp.length];simp
 have lq:=hR.frozen (ys:=gh (L.map (·.data.toList))) (cs:=(L.map Value.string).toArray) (el:=9) (by simp[hc]) (by rw[hc,dM bn];exact hp);refine ⟨_,_,rfl,?_,lq⟩;rw[<- hlen];have:(L.map (·.data.toList)).length=L.length:=by simp
 rw[this];exact .pv (.sl w.heap.size (gh (L.map (·.data.toList))) 0 L.length _ _ Kb aB (by rw[uE,qP]) HN)
instance T2 (a:ByS) (b c:Int):CT Pq 121 [eu a,I b,I c] [] (uG a b c) (λx=>.mE [I x.1,Oe 211 x.2]) (λ_=>[]):=by
 refine EN (λx hx E g w vs hR hv=>?_) Kd;obtain ⟨⟨hb,hc,hl⟩,ve⟩:=K5 hx;subst hb hc
 replace hx:=ve
 have hv:=M.afK hv;subst hv;have Ji:ByteArray.size ⟨a.toArray⟩<=281474976710656:=by simpa[ByteArray.size] using hl
 obtain ⟨ev1,he1,hi1⟩:=hR.x.gf.2.1;obtain ⟨ev2,S6,hi2⟩:=hR.x.gf.2.2.1;rcases q:Lib.parseIntB 64 a with v|_|_
 ·rw[q] at hx;cases hx;refine (Tryz.strconv_ParseInt_10_at64_ok ⟨a.toArray⟩ aB v q w).mono ?_;rintro e w' ⟨rfl,hw⟩;exact aht
 ·rw[q] at hx;cases hx;refine (Tryz.strconv_ParseInt_10_at64_syntax ⟨a.toArray⟩ Ji q ev1 w (hR.RN he1) hi1).mono ?_;exact ac3
 rw[q] at hx;cases hx;refine (Tryz.strconv_ParseInt_10_at64_range ⟨a.toArray⟩ Ji q ev2 w (hR.RN S6) hi2).mono ?_;exact ac3
instance Hm (fn s:ByS) (b c e:Int):CT Pq 175 [eu fn,eu s,I b,I c,Oi e] [] (vB fn s b c e) (λx=>Oe 211 x) (λ_=>[]):=by
 refine EN (λx hx E g w vs hR hv=>?_) Kd;obtain ⟨⟨he,hl⟩,hx⟩:=K5 hx;cases hx;have Ji:ByteArray.size ⟨s.toArray⟩<=281474976710656:=by simpa[ByteArray.size] using hl
 obtain ⟨ev1,he1,hi1⟩:=hR.x.gf.2.1;obtain ⟨ev2,S6,hi2⟩:=hR.x.gf.2.2.1;have hvs:vs=[S fn,S s,.int .i64 b,.int .i64 c,.iface 208 (.int .i64 e)]:=by
  rw[Wp aB] at hv;cases hv with|cons h1 t=>cases t with|cons h2 t=>cases t with|cons h3 t=>cases t with|cons h4 t=>cases t with|cons h5 t=>
   cases t
   rw[qB h1,qB h2,qB h3,qB h4]
   cases h5 with|vV _ h5=>rw[qB h5]
 subst hvs;rcases he with rfl|rfl
 ·refine (Tryz.strconv_toError_range ⟨fn.toArray⟩ ⟨s.toArray⟩ b c ev2 w Ji (hR.RN S6) hi2).mono ?_;rintro e w' ⟨N,rfl,_,_,hw⟩;exact ahh
 refine (Tryz.strconv_toError_syntax ⟨fn.toArray⟩ ⟨s.toArray⟩ b c ev1 w Ji (hR.RN he1) hi1).mono ?_;rintro e w' ⟨N,rfl,_,_,hw⟩;exact ahh
end
end Go.Abs
section
namespace Go.Proofs
open Go.Shelf Go.RowKit Go.Sort Go.Lib
set_option maxHeartbeats 6400000 in
set_option maxRecDepth 100000 in
def Tryz.ali (u:Nat) (TZ:u<18446744073709551616) (w:World) (htab:∀ n,Tryz.prog.globalNamed n=some 3->Lib.TabIs Tryz.prog w n .u64 Lib.pow10Tab) :
  Calls Tryz.prog 221 #[.int .u64 u,.int .i64 10] w λe w'=>e=.returned (.string ⟨(Lib.decDigits u).toArray⟩)/\∃ k os,w'=grow (w.drewN k) os:=by
 by_cases hs:u<100
 ·go_enter Tryz.func221,Tryz.ntmps221
  go_wp2_with (first
   | (go_at_call 245;refine (Tryz.internal_strconv_small u hs _).mono ?_;rintro e w' ⟨rfl,rfl⟩))
  go_ret
  exact ⟨rfl,0,#[],by simp[World.drewN_zero]⟩
 ·have hu1:1<=u:=by omega
  have hnd:Lib.nDigits u<=20:=by have:=Lib.numDigits_eq u hu1 TZ;split at this<;>omega
  have hal:Tryz.prog.arrayLen 223=24:=by simp[Program.arrayLen,Tryz.underlying223]
  have hsl:∀ W,(Instr.sliceAt 223 (.pointer (some ⟨w.heap.size,0,none⟩)) none (some (.int .i64 (Lib.nDigits u:Int))) none).run Tryz.prog W=.ok (.slice (some ⟨w.heap.size,0,none⟩) (Lib.nDigits u) 24) W:=λW=>by
   rw[run_sliceAt_array_h W 223 ⟨w.heap.size,0,none⟩ (by simp[Program.arrayLen,Program.elem,Tryz.underlying223]) .i64 (Lib.nDigits u:Int) (by omega) (by rw[hal];omega)]
   go_simp
  have hH0:Holds (λ(b:UInt8)=>Value.int .u8 (b.toNat:Int)) (w.alloc (.cells Lib.zeros24 223)) w.heap.size 0 (Array.replicate (Lib.nDigits u) 0):=λj hj=>by
   have zT:j<Lib.nDigits u:=by simpa using hj
   refine ⟨?_,World.frozen?_alloc_new _ _ _ _⟩
   rw[World.cell?_alloc_new,Lib.zeros24_at _ (by omega),getElem!_pos _ j hj]
   simp
  have hfmt:=Tryz.internal_strconv_formatBase10 w.heap.size 0 24 u (Array.replicate (Lib.nDigits u) 0) (w.alloc (.cells Lib.zeros24 223)) hH0 (by rw[Array.size_replicate];exact Lib.lt_pow_nDigits u) TZ (by rw[Array.size_replicate];omega)
  rw[Array.size_replicate] at hfmt
  have HH0:=Lib.hid hH0
  clear hH0 hal
  go_enter Tryz.func221,Tryz.ntmps221
  go_wp2_with (first
   | (go_at_call 246;refine (Tryz.internal_strconv_numDigits u hu1 TZ _ (Lib.tabIs_alloc (htab _ (by kernel_rfl)) _)).mono ?_;rintro e w' ⟨rfl,rfl⟩))
  go_at_call 247
  refine hfmt.mono ?_
  rintro e w' ⟨rfl,k,v',dk,rfl,hF⟩
  have P3:(convert 172 9 (.slice (some ⟨w.heap.size,0,none⟩) (Lib.nDigits u) 24)).run Tryz.prog ((putRow (λ(b:UInt8)=>Value.int .u8 (b.toNat:Int)) (w.alloc (.cells Lib.zeros24 223)) w.heap.size 0 dk).drewN k)=.ok (.string ⟨(Lib.decDigits u).toArray⟩) ((putRow (λ(b:UInt8)=>Value.int .u8 (b.toNat:Int)) (w.alloc (.cells Lib.zeros24 223)) w.heap.size 0 dk).drewN k):=by
   have h:=run_convert_bytes_back (P:=Tryz.prog) ((putRow (λ(b:UInt8)=>Value.int .u8 (b.toNat:Int)) (w.alloc (.cells Lib.zeros24 223)) w.heap.size 0 dk).drewN k) 172 9 5 ⟨w.heap.size,0,none⟩ 24 (Lib.decDigits u) Tryz.underlying172 Tryz.underlying5 Tryz.underlying9 (λj hj=>by
    rw[Lib.row_is_numeral hF j hj,Lib.add_plain,World.cell?_drewN]
    exact cell?_putRow (λ(b:UInt8)=>Value.int .u8 (b.toNat:Int)) _ w.heap.size 0 _ dk HH0.out (by rw[hF.size,Array.size_replicate]) j (by rw[hF.size];rw[Lib.decDigits_length] at hj;exact hj))
   rw[Lib.decDigits_length] at h
   exact h
  go_wp2
  go_ret
  refine ⟨rfl,?_⟩
  rw[alloc_eq_grow]
  obtain ⟨os',_,e⟩:=putRow_grow_new (λ(b:UInt8)=>Value.int .u8 (b.toNat:Int)) w #[.cells Lib.zeros24 223] w.heap.size 0 dk (Nat.le_refl _)
  exact ⟨k,os',by rw[e];rfl⟩
def Tryz.ajf (u:Nat) (TZ:u<18446744073709551616) (w:World) (htab:∀ n,Tryz.prog.globalNamed n=some 3->Lib.TabIs Tryz.prog w n .u64 Lib.pow10Tab) :
  Calls Tryz.prog 177 #[.int .u64 u,.int .i64 10] w λe w'=>e=.returned (.string ⟨(Lib.decDigits u).toArray⟩)/\∃ k os,w'=grow (w.drewN k) os:=by
 go_enter Tryz.func177,Tryz.ntmps177
 go_wp2_with (first
  | (go_at_call 221;refine (Tryz.ali u TZ _ htab).mono ?_;rintro e w' ⟨rfl,k,os,rfl⟩))
 go_ret
 exact ⟨rfl,k,os,rfl⟩
end Go.Proofs
namespace Go.Abs
open Go.Proofs Go.Proofs.Tryz aI Go.RowKit Go.Sort
def Wt:∀ (f u:Nat),u<10 ^ f->0<f->yg f u=Lib.decDigits u
 | 0,_,_,h=>ao h (vy _)
 | f+1,u,h,_=>by
  unfold yg;rw[Lib.decDigits];by_cases q:u<10
  ·simp[q]
  simp only[q,if_false,dite_false];have h1:u / 10<10 ^ f:=by rw[uc] at h;omega
  have hf:0<f:=by
   rcases f with _|f
   ·simp at h;omega
   omega
  rw[Wt f (u / 10) h1 hf]
instance RU (a b:Int):CT Pq 177 [Sc (.int .u64 a),I b] [] (oN a b) (λx=>eu x) (λ_=>[]):=by
 refine EN (λx hx E g w vs hR hv=>?_) Kd;obtain ⟨⟨hb,h0,h1⟩,ve⟩:=K5 hx;subst hb;cases ve;have hv:=vN hv;subst hv;obtain ⟨u,rfl⟩:∃ u:Nat,a=u:=⟨a.toNat,aB⟩;obtain ⟨el,fz,h3⟩:=hR.x.gf.2.2.2;have hw3:w.heap[3]?=E.wS.heap[3]?:=hR.x.set 3 (pS.1 h3).1;refine (Tryz.ajf u aB w (λn hn=>by unfold Lib.TabIs World.var?;rw[hn];simp only[tg,hw3,h3])).mono ?_;rintro e w' ⟨rfl,k,os,rfl⟩;refine ⟨g,_,rfl,?_,hR.below ⟨rfl,rfl,rfl,?_,λj hj=>?_⟩⟩
 ·have:yg 20 ((u:Int).toNat)=Lib.decDigits u:=by
   rw[sx];exact Wt 20 u aB aB
  rw[this];exact .pv (.sc _)
 ·simp[grow,World.drewN]
 simp only[grow,World.drewN];exact pP hj
end Go.Abs
end
namespace Go.Abs
variable {E:Env} {n k sz off j nm id bytes m2:Nat} {ops:Array Oper} {s rd s' s1:List (Nat×cV)} {α β:Type} {q:Prop} {b want:Bool} {c cells:List PV} {e t:TypeId} {f x ix:Operand} {args:List Operand} {ts:Array TypeId} {es:List cV} {ks kn:List Nat} {fr:k9} {σ:fC} {k':IntKind} {ii i:Int} {parts:List (Nat×Operand)} {pl:List (Nat×Nat)} {fn:Func} {Q':gJ} {op:Op} {rest:List Oper}
section
abbrev EP (l:List aC):AV:=.pv (.sl l.length (aC.Cs l))
abbrev Μ (l:List aK):AV:=.pv (.sl l.length (aK.Cs l))
abbrev afM (l:List bu):AV:=.pv (.sl l.length (bu.Cs l))
abbrev yi (l:List ByS):AV:=.pv (.sl l.length (gh l))
open aI Go.Proofs Go.Proofs.Tryz
def aT {p:Prop} (h:p:=by first|exact rfl|assumption|infer_instance):=h
def iI {p:Prop} (h:p:=by infer_instance):=h
abbrev iu {X R:Type} (_k:Nat) (_a _b:List Nat) (_F:X->List (Nat×AV)) (_H:X->List (Nat×cV)) (j:X->aI R) (p:(X->aI R)->aI R):aI R:=jn j p
abbrev dz {X R:Type} (_a _b:List Nat) (_F:X->List (Nat×AV)) (_H:X->List (Nat×cV)) (body:(X->aI R)->X->aI R) (n:Nat) (v:X):aI R:=iter body n v
abbrev jnF {X R:Type} (_k:Nat) (_F:X->List (Nat×AV)) (_H:X->List (Nat×cV)) (j:X->aI R) (p:(X->aI R)->aI R):aI R:=jn j p
abbrev NN {X R:Type} (_F:X->List (Nat×AV)) (_H:X->List (Nat×cV)) (body:(X->aI R)->X->aI R) (n:Nat) (x:X):aI R:=iter body n x
def vi {R:Type} (_L:List Nat) (x:aI R):aI R:=x
def drG {R:Type} (_L:List Nat) (x:aI R):aI R:=x
section
variable {P:Program} {Q:gJ} {l:List (Nat×AV)} {ds:List (FuncId×List AV)}
 {ty:TypeId} {pos:String} {af:Array Edge} {d:Nat}
def RY:AV->List Nat
 | .any|.oc|.pv _|.sp _=>[]
 | .ptr j _=>[j]
 | .arr j _=>[j]
 | .fn _ xs ys=>ES xs++ES ys
 | .agg cs=>ES cs
 | .mE cs=>ES cs
 | .vV _ v=>RY v
where
 ES:List AV->List Nat
  | []=>[]
  | x::xs=>RY x++ES xs
def X2:List Nat->List Nat->List Nat
 | [],_=>[]
 | k::l,acc=>match acc.any (Nat.beq k) with
  | true=>X2 l acc
  | false=>k::X2 l (k::acc)
def adA:Option cV->List Nat
 | some (.box cs)=>RY.ES cs
 | _=>[]
def ajg (s:List (Nat×cV)):Nat->List Nat->List Nat->List Nat
 | 0,_,acc=>acc
 | _+1,[],acc=>acc
 | n+1,k::todo,acc=>ajg s n (todo++X2 (adA (dJ s k)) acc) (acc++X2 (adA (dJ s k)) acc)
def ksB (s:List (Nat×cV)) (vs:List AV):List Nat:=ajg s 16 (X2 (RY.ES vs) []) (X2 (RY.ES vs) [])
inductive Il:List Nat->List Nat->Prop
 | nil:Il [] []
 | cons {a:Nat} {l m:List Nat} (h:Il l m):Il (a::l) (a::m)
variable {a a':α} {X R:Type} {r:aI R} {C:α->List PV} {kC:FuncId} {fS first cap vs:List AV} {y:Operand} {m:Nat} {xs:List α} {cs:List AV} {v:AV} {pv:List (Nat×AV)} {out:List AV} {g:Nat} {ys:List α} {Cs:List α->List PV} {z:List AV} {L:List Nat} {l':List (Nat×AV)} {l1:List (Nat×AV)} {lO:List AV} {Ca:List PV}
def akP {b b':β} {c d e c' d' e':Bool} (h:(a,b,c,d,e)=(a',b',c',d',e')) (hF:q):(a,b,c,d,q,e)=(a',b',c',d',True,e'):=by
 have:=eq_true hF;subst this;cases h;rfl
variable {res:aI X} {kk:X->aI R} {V V':X->AV} {C':X->List (Nat×cV)}
def zk' {C:X->List cV} (hr:r≠.stuck) (h:ag res kk=r) (h1:(bU l f,zU l args)=(some (.fn kC first cap),some vs)) (_hL:Il (ksB s (first++vs++cap)) ks) (wu:Enters P kC) [hC:CT P kC fS es res V C] (hk:(first++vs++cap,AQ s ks,nodupB ks,P0 l ds s ks ks es,Nat.blt d n)=(AV.mh.ud (nth ks) fS,some (qd (nth ks) es),true,true,true)) (hF:FG E ks es) (hx:∀ x,((C x).length,qe (below ks.length) (C x),(V x).only (below ks.length),(V x).mh (nth ks),tK ks (qd (nth ks) (C x)))=(ks.length,true,true,V' x,C' x)) (hp:∀ p fr σ,fr.ds=ds->r=.ry p->Q (.panic p.av) fr σ) (oB:∀ x,kk x=r->SL P E n ops Q rest (cA ((d,V' x)::l) ds) (bW (C' x++s))) :
 SL P E n ops Q (⟨some d,.call ⟨.value f,args.toArray,ts⟩,ty,pos,af,none⟩::rest) (cA l ds) (bW s):=zk hp hr h ks wu hC aeb hx oB
def alj {a b r:List Oper} {o:Oper} (e:a.append b=o::r) (h:SL P E n ops Q (o::r) fr σ):SL P E n ops Q (a.append b) fr σ:=e▸h
def zBt {c:Operand} {x y:Code} (hb:bU l c=some (Bo b)) (h:b=true) (k:SW P E n x Q (cA l ds) (bW s)):SW P E n (.cond c x y) Q (cA l ds) (bW s):=GZ hb (λ_=>k) (λq=>by rw[h] at q;cases q)
def zBf {c:Operand} {x y:Code} (hb:bU l c=some (Bo b)) (h:b=false) (k:SW P E n y Q (cA l ds) (bW s)):SW P E n (.cond c x y) Q (cA l ds) (bW s):=GZ hb (λq=>by rw[h] at q;cases q) (λ_=>k)
def nT (h:(!b)=true):b=false:=by cases b with|true=>cases h|false=>rfl
def nF (h:(!b)=false):b=true:=by cases b with|true=>rfl|false=>cases h
def nT' (h:b=false):(!b)=true:=by subst h;rfl
def nF' (h:b=true):(!b)=false:=by subst h;rfl
def Im:List AV->Option (List PV)
 | []=>some []
 | .pv c::l=>(Im l).map (c::·)
 | _::_=>none
def C9:∀ {l:List AV} {m:List PV},Im l=some m->l=m.map .pv
 | [],_,h=>by cases h;rfl
 | .pv c::l,m,h=>by
  cases h1:Im l with
  | none=>simp[Im,h1] at h
  | some k=>simp[Im,h1] at h;subst h;rw[C9 h1];rfl
inductive IM (k:IntKind):List AV->List Int->Prop
 | nil:IM k [] []
 | cons {a:Int} {l:List AV} {m:List Int} (h:IM k l m):IM k (Sc (.int k a)::l) (a::m)
def IM.eq {k:IntKind} {l:List AV} {m:List Int} (h:IM k l m):l=m.map λx=>Sc (.int k x):=by
 induction h with
 | nil=>rfl
 | cons _ ih=>rw[ih];rfl
def IM.len {k:IntKind} {l:List AV} {m:List Int} (h:IM k l m):l.length=m.length:=by rw[h.eq];simp
def aaU {k:IntKind} {xs:List Int} [ht:uP P t (.array m e)] [ha:oM P e false] [hz:yR P e 1] (hx:bU l x=some (.agg cs)) (hi:bU l ix=some (Sc (.int k i))) (hc:IM k' cs xs) (hn:cs.length=m) (h:0<=i/\i<m):na P (.index t x ix) l ds s (Sc (.int k' (tA xs i))) []:=
 afj (λx=>Sc (.int k' x)) hx hi hc.eq (hc.len▸hn) h.1 h.2
def afN {kk:Nat} {k:IntKind} [ht:D' P t m sz] (hx:bU l x=some (.ptr kk off)) (hi:bU l ix=some (Sc (.int k i))) (h:0<=i/\i<m) :
 na P (.indexAddr t x ix) l ds s (.ptr kk (off+i.toNat*sz)) []:=Q9 hx hi h.1 h.2
def aaV {xs:List Int} [ha:oM P t false] (hx:bU l x=some (.ptr k (0+i.toNat*1))) (hk:dJ s k=some (.box cs)) (hc:IM k' cs xs) (hl:cs.length=m) (h:0<=i/\i<m) :
 na P (.load t x) l ds s (Sc (.int k' (tA xs i))) [(k,.box cs)]:=afk (λx=>Sc (.int k' x)) hx hk hc.eq h.1 Qz
def ajh {k:IntKind} {xs:List Int} {v:Int} (h:xs.length=4):(Bq xs ii v).map (λx=>Sc (.int k x))=[Sc (.int k (tA (Bq xs ii v) 0)),Sc (.int k (tA (Bq xs ii v) 1)),Sc (.int k (tA (Bq xs ii v) 2)),Sc (.int k (tA (Bq xs ii v) 3))]:=alb _ (by simp[Bq,h])
def alk {kk:Nat} {v:Int} {k:IntKind} {xs:List Int} [ht:yR P t 1] (hx:bU l x=some (.ptr kk (0+ii.toNat*1))) (hk:dJ s kk=some (.box cs)) (hc:IM k cs xs) (h4:cs.length=4) (hy:bU l y=some (Sc (.int k v))) (h:0<=ii/\ii<4) (hn:SL P E n ops Q rest (cA l ds) (bW ((kk,.box [Sc (.int k (tA (Bq xs ii v) 0)),Sc (.int k (tA (Bq xs ii v) 1)),Sc (.int k (tA (Bq xs ii v) 2)),Sc (.int k (tA (Bq xs ii v) 3))])::s))):SL P E n ops Q (⟨none,.store t x y,ty,pos,af,none⟩::rest) (cA l ds) (bW s):=
 aaG (λx=>Sc (.int k x)) hx hk hc.eq hy h.1 Qz (λ_=>vf) (ajh Qz) hn
def adB (l:List PV):l=l.flatMap λc=>[c]:=by simp
def zfz {zs:List Value} [ht:nQ P t m e sz zs pl] (h:parts.mapM (λp=>(bU l p.2).map λv=>(p.1,v))=some pv) (h2:nW pl (zs.map λv=>.pv (.sc v)) pv=some out) (h3:Im out=some cells) (hd:Nat.blt d n=true) (hn:SL P E n ops Q rest (cA ((d,.pv (.sl m cells))::l) ds) (bW s)):SL P E n ops Q (⟨some d,.buildSlice t m parts.toArray,ty,pos,af,none⟩::rest) (cA l ds) (bW s):=adq ⟨h,by rw[h2,C9 h3]⟩ hd hn
def alm {zs:List Value} [ht:nQ P t m e sz zs pl] (hj:((ops[j]?).bind (·.dst),mL l g)=(some g,some (Bo b))) (hb:b=want) (h:parts.mapM (λp=>(bU l p.2).map λv=>(p.1,v))=some pv) (h2:nW pl (zs.map λv=>.pv (.sc v)) pv=some out) (h3:Im out=some cells) (hd:Nat.blt d n=true) (hn:SL P E n ops Q rest (cA ((d,.pv (.sl m cells))::l) ds) (bW s)):SL P E n ops Q (⟨some d,.buildSlice t m parts.toArray,ty,pos,af,some (j,want)⟩::rest) (cA l ds) (bW s):=
 aaF (C:=λc=>[c]) (Cs:=λl=>l.flatMap λc=>[c]) cells (λ_=>rfl) hb ⟨p1 hj,p2 hj⟩ ⟨h,by rw[h2,C9 h3];simp⟩ hd (adB cells▸hn)
def rV {α:Type} (_k:Nat) (C:α->List PV) (c:List PV) (xs:List α):Prop:=c=xs.flatMap C
def RZ (h:c=[]):rV k C c []:=by simp[rV,h]
def DP {r:List PV} {y:α} (h:(c.take k,c.drop k)=(C y,r)) (h2:rV k C r ys):rV k C c (y::ys):=by
 unfold rV at *;rw[fE,<- h2,<- (Prod.mk.inj h).1,<- (Prod.mk.inj h).2,nb]
class ET (e:TypeId) (α:outParam Type) (C:outParam (α->List PV)) (Cs:outParam (List α->List PV)) (sz:outParam Nat):Prop where
 h:∀ l,Cs l=l.flatMap C
 n:∀ x,(C x).length=sz
 o:∀ x,PV.p9 (C x)=true
def zfT {zs:List Value} (ht:nQ P t m e sz zs pl) (hT:ET e α C Cs sz) (h:parts.mapM (λp=>(bU l p.2).map λv=>(p.1,v))=some pv) (h2:nW pl (zs.map λv=>.pv (.sc v)) pv=some out) (h3:Im out=some cells) (h4:rV sz C cells xs) (hd:Nat.blt d n=true) (hn:SL P E n ops Q rest (cA ((d,.pv (.sl m (Cs xs)))::l) ds) (bW s)):SL P E n ops Q (⟨some d,.buildSlice t m parts.toArray,ty,pos,af,none⟩::rest) (cA l ds) (bW s):=by
 unfold rV at h4;subst h4;exact KT xs hT.h ⟨h,by rw[h2,C9 h3]⟩ hd hn
def zbb {u v:aI R} (h:br b u v=r) (h1:b=true->u=r->q) (h2:b=false->v=r->q):q:=zb b (λe=>h1 e (aeT e h)) (λe=>h2 e (aeU e h))
inductive NzF (k:Nat):Prop
 | mk:NzF k
def aji:∀ l:List AV,F2 l l
 | []=>.nil
 | v::l=>.cons (iz v) (aji l)
def afO {c d:List AV} (g:F2 c d):∀ {a b:List AV},F2 a b->F2 (a++c) (b++d)
 | _,_,.nil=>g
 | _,_,.cons h t=>.cons h (afO g t)
def ajj:∀ {a b:List AV} (k:Nat),F2 a b->F2 (a.take k) (b.take k)
 | _,_,0,_=>by simpa using F2.nil
 | _,_,_+1,.nil=>.nil
 | _,_,k+1,.cons h t=>.cons h (ajj k t)
def ajk:∀ {a b:List AV} (k:Nat),F2 a b->F2 (a.drop k) (b.drop k)
 | _,_,0,h=>by simpa using h
 | _,_,_+1,.nil=>.nil
 | _,_,k+1,.cons _ t=>ajk k t
def ajl:∀ {a b:List AV},F2 a b->a.length=b.length
 | _,_,.nil=>rfl
 | _,_,.cons _ t=>iP Nat.succ (ajl t)
def Io:∀ {pv:List (Nat×AV)} {a b o:List AV},F2 a b->nW pl b pv=some o->∃ o1,nW pl a pv=some o1/\F2 o1 o
 | [],a,b,o,h,e=>⟨a,rfl,by simp only[nW,Option.some.injEq] at e;exact e▸h⟩
 | (i,v)::rest,a,b,o,h,e=>by
  simp only[nW] at e ⊢;cases h1:pl[i]? with
  | none=>simp[h1] at e
  | some os=>
   cases h2:v.jG with
   | none=>simp[h1,h2] at e
   | some vc=>
    simp only[h1,h2] at e ⊢
    have hl:=ajl h
    rw[hl]
    split at e
    ·rename_i hc;rw[aL hc];exact Io (afO (ajk _ h) (afO (aji _) (ajj _ h))) e
    ·cases e
class NzT (P:Program) (t:TypeId) (zs:outParam (List Value)) (z:outParam (List AV)):Prop where
 h:VE P t=some zs
 e:AV.V8 (zs.map λv=>AV.pv (.sc v))=z
class aln (t:TypeId) (v:outParam AV):Prop where
 h:AV.pv (.sl 0 [])=v
def Ν {X:Type} (_nz:Nat) (P:Program) (fn:Func) (args:List AV) (es:List cV) (res:aI X) (V:X->AV) (C:X->List cV):Prop:=
 ∃ c,(fn.body,Nat.ble args.length fn.ntmps)=(some c,true)/\∀ r,(∀ p fr (σ:fC),fr.ds=[]->r=.ry p->wo P fn (zh V C (λx=>r=.ok x) (λv=>∃ p,r=.ry p/\v=p.av)) (.panic p.av) fr σ)->res=r->r≠.stuck->∀ E:Env,(∀ k,fu es k=true->E.fix k=none)->
  SW P E fn.ntmps c (wo P fn (zh V C (λx=>r=.ok x) (λv=>∃ p,r=.ry p/\v=p.av))) (cA ((List.range args.length).zip args) []) (bW (gK 0 es))
def ajm {nz:Nat} {c:Code} {args:List AV} {C:X->List cV} (hb:(fn.body,Nat.ble args.length fn.ntmps)=(some c,true)) (h:NzF nz->∀ r,(∀ p fr (σ:fC),fr.ds=[]->r=.ry p->wo P fn (zh V C (λx=>r=.ok x) (λv=>∃ p,r=.ry p/\v=p.av)) (.panic p.av) fr σ)->res=r->r≠.stuck->∀ E:Env,(∀ k,fu es k=true->E.fix k=none)->
 SW P E fn.ntmps c (wo P fn (zh V C (λx=>r=.ok x) (λv=>∃ p,r=.ry p/\v=p.av))) (cA ((List.range args.length).zip args) []) (bW (gK 0 es))):Ν nz P fn args es res V C:=⟨c,hb,h .mk⟩
def zal {z:List Value} [hz:ru P t z] {zs:List AV} (hE:∀ k,fu es k=true->E.fix k=none) (h:(100+d,fu es (100+d),z.map (λv=>AV.pv (.sc v)),mW (100+d) l,ko (100+d) ds,qb (100+d) s,Nat.blt d n)=(nm,true,zs,false,false,false,true)) (hn:SL P E n ops Q rest (cA ((d,.ptr nm 0)::l) ds) (bW ((nm,.box zs)::s))):SL P E n ops Q (⟨some d,.alloc t,ty,pos,af,none⟩::rest) (cA l ds) (bW s):=by
 have e:=p1 h;subst e;exact lY (100+d) (hE _ Ct) ⟨p1 qz,p1 Af,p1 Cv,p1 Er⟩ BC hn
def alo {zs:List Value} (_h:NzF 1) (hE:∀ k,fu es k=true->E.fix k=none) (hq:NzT P t zs z) (h:(100+d,fu es (100+d),mW (100+d) l,ko (100+d) ds,qb (100+d) s,Nat.blt d n)=(nm,true,false,false,false,true)) (hn:SL P E n ops Q rest (cA ((d,.ptr nm 0)::l) ds) (bW ((nm,.box z)::(nm,.box (zs.map λv=>.pv (.sc v)))::s))):SL P E n ops Q (⟨some d,.alloc t,ty,pos,af,none⟩::rest) (cA l ds) (bW s):=by
 have e:=p1 h;subst e;have:ru P t zs:=⟨hq.h⟩;exact XJ (100+d) (hE _ Ct) ⟨hq.e,p1 qz,p1 Af,p1 Cv⟩ Er hn
def zeN {zs:List Value} (_h:NzF 1) (ht:lT P t zs pl) (hq:NzT P t zs z) (hp:parts.mapM (λp=>(bU l p.2).map λv=>(p.1,v))=some pv) (h:nW pl z pv=some out) (hd:Nat.blt d n=true) (hn:SL P E n ops Q rest (cA ((d,.agg out)::l) ds) (bW s)):SL P E n ops Q (⟨some d,.build t parts.toArray,ty,pos,af,none⟩::rest) (cA l ds) (bW s):=by
 obtain ⟨o1,h1,h2⟩:=Io (hq.e▸tj _) h;exact fg ((GM hp h1).Mv (AV.KF h2)) hd hn
def zsN {e:cV} [ht:yR P t m] (_h:NzF 1) (hv:aln t v) (h:(bU l x,dJ s k,e.F5,bU l y,m,Nat.ble (off+1) e.cells.length)=(some (.ptr k off),some e,true,some (nSl),1,true)) (hc:(e.put off [nSl],cs[off]?)=(.box cs,some (nSl))) (hn:SL P E n ops Q rest (cA l ds) (bW ((k,.box (cs.set off v))::(k,.box cs)::s))):SL P E n ops Q (⟨none,.store t x y,ty,pos,af,none⟩::rest) (cA l ds) (bW s):=
 Rc ⟨p1 h,p1 (p2 h),p1 qz,p1 Af,rfl,rfl,(p1 Cv).symm,p2 Cv⟩ (λe' q=>by
  have q:e.put off [nSl]=e':=q;rw[p1 hc] at q;subst q;cases hv.h;exact lX (adt k off (by simp[dJ]) (p2 hc) rfl) hn)
def zbx {c:List AV} (hE:∀ k,fu es k=true->E.fix k=none) (h:(100+d,fu es (100+d),bU l x,v.jG,AV.jh.kJ (100+d) c,mW (100+d) l,ko (100+d) ds,qb (100+d) s,AV.p9 c,Nat.blt d n)=(nm,true,some v,some c,false,false,false,false,true,true)) (hn:SL P E n ops Q rest (cA ((d,.ptr nm 0)::l) ds) (bW ((nm,.box c)::s))):SL P E n ops Q (⟨some d,.box t x,ty,pos,af,none⟩::rest) (cA l ds) (bW s):=by
 have e:=p1 h;subst e;exact H7 (100+d) (hE _ Ct) ⟨p1 qz,p1 Af,p1 Cv,p1 Er,p1 BC,p1 (p2 BC),p1 Kj⟩ (p2 Kj) hn
class Ξ {α:Type} (Cs:List α->List PV) (C:outParam (α->List PV)) (n:outParam Nat):Prop where
 h:∀ l,Cs l=l.flatMap C
 n:∀ x,(C x).length=n
def ajn {f:α->List PV} {k:IntKind} [ht:P6 P t e sz] (hx:bU l x=some (.pv (.sl m (Cs xs)))) (hc:Ξ Cs f sz) (hm:m=xs.length) (hi:bU l ix=some (Sc (.int k i))) (h0:0<=i) (h1:i<xs.length) (ha:xs[i.toNat]?=some a) :
 na P (.indexAddr t x ix) l ds s (.sp (f a++(xs.flatMap f).drop ((i.toNat+1)*sz))) []:=ak_ hc.h hc.n h0 h1 ha hx hm hi
def zK' {C:X->List cV} (hr:r≠.stuck) (h:ag res kk=r) (hj:((ops[j]?).bind (·.dst),mL l g)=(some g,some (Bo b))) (hb:b=want) (h1:(bU l f,zU l args)=(some (.fn kC first cap),some vs)) (_hL:Il (ksB s (first++vs++cap)) ks) (wu:Enters P kC) [hC:CT P kC fS es res V C] (hk:(first++vs++cap,AQ s ks,nodupB ks,P0 l ds s ks ks es,Nat.blt d n)=(AV.mh.ud (nth ks) fS,some (qd (nth ks) es),true,true,true)) (hF:FG E ks es) (hx:∀ x,((C x).length,qe (below ks.length) (C x),(V x).only (below ks.length),(V x).mh (nth ks),tK ks (qd (nth ks) (C x)))=(ks.length,true,true,V' x,C' x)) (hp:∀ p fr σ,fr.ds=ds->r=.ry p->Q (.panic p.av) fr σ) (oB:∀ x,kk x=r->SL P E n ops Q rest (cA ((d,V' x)::l) ds) (bW (C' x++s))) :
 SL P E n ops Q (⟨some d,.call ⟨.value f,args.toArray,ts⟩,ty,pos,af,some (j,want)⟩::rest) (cA l ds) (bW s):=zK hb hj hp hr h ks wu hC aeb hx oB
def afP {kk:Nat} {k:IntKind} [ht:D' P t m sz] (hx:bU l x=some (.ptr kk off)) (hi:bU l ix=some (Sc (.int k i))) (h:(decide (0<=i),decide (i<m))=(true,true)) :
 na P (.indexAddr t x ix) l ds s (.ptr kk (off+i.toNat*sz)) []:=Q9 hx hi (bh (p1 h)) (bh (p2 h))
def ajo {c a b:Operand} {t:Bool} (hc:bU l c=some (Bo t)) (ha:bU l a=some v) (ht:t=true):na P (.pick c a b) l ds s v []:=V4 ht hc ha
def ajp {c a b:Operand} {t:Bool} (hc:bU l c=some (Bo t)) (ha:bU l b=some v) (ht:t=false):na P (.pick c a b) l ds s v []:=V5 ht hc ha
def zSk {c:Code} (k:∀ fr σ,SW P E n c Q' fr σ->Q .normal fr σ) (h:SW P E n c Q' fr σ):SW P E n .skip Q fr σ:=mR (k _ _ h)
def zLb {c:Code} (k:∀ fr σ,SW P E n c Q' fr σ->Q .normal fr σ) (h:SW P E n c Q' fr σ):SW P E n (.label id) Q fr σ:=Kw (k _ _ h)
variable {F:X->List (Nat×AV)} {H:X->List (Nat×cV)}
def alp {j:X->aI R} {v:X} (h:j v=r) (k:∀ v l s,j v=r->(gF l (F v),gS s (H v))=(gF (F v) (F v),gS (H v) (H v))->Q .normal (cA l ds) (bW s)) (e:(gF l (F v),gS s (H v))=(gF (F v) (F v),gS (H v) (H v))):SW P E n (.label id) Q (cA l ds) (bW s):=Kw (k _ _ _ h e)
def zEx {c:Code} (k:∀ fr σ,SW P E n c Q' fr σ->Q (.exit id) fr σ) (h:SW P E n c Q' fr σ):SW P E n (.exit id) Q fr σ:=Ha (k _ _ h)
def zQj {j:X->aI R} {v:X} (h:j v=r) (k:∀ v l s,j v=r->(gF l (F v),gS s (H v))=(gF (F v) (F v),gS (H v) (H v))->Q .normal (cA l ds) (bW s)) (e:(gF l (F v),gS s (H v))=(gF (F v) (F v),gS (H v) (H v))):SL P E n ops Q [] (cA l ds) (bW s):=tH (k _ _ _ h e)
def alq {j:X->aI R} {v:X} (h:j v=r) (k:∀ v l s,j v=r->(gF l (F v),gS s (H v))=(gF (F v) (F v),gS (H v) (H v))->Q .normal (cA l ds) (bW s)) (e:(gF l (F v),gS s (H v))=(gF (F v) (F v),gS (H v) (H v))):SW P E n .skip Q (cA l ds) (bW s):=mR (k _ _ _ h e)
def alr {j:X->aI R} {v:X} (h:j v=r) (k:∀ v l s,j v=r->(gF l (F v),gS s (H v))=(gF (F v) (F v),gS (H v) (H v))->Q (.exit id) (cA l ds) (bW s)) (e:(gF l (F v),gS s (H v))=(gF (F v) (F v),gS (H v) (H v))):SW P E n (.exit id) Q (cA l ds) (bW s):=Ha (k _ _ _ h e)
variable {p:(X->aI R)->aI R}
def zMF {x y:Code} {j:X->aI R} (h:jnF 0 F H j p=r) (hy:∀ v,j v=r->SW P E n y Q (cA (F v) ds) (bW (H v))) (hx:∀ (j':X->aI R) (K:k9->fC->Prop),(∀ v l s,j' v=r->(gF l (F v),gS s (H v))=(gF (F v) (F v),gS (H v) (H v))->K (cA l ds) (bW s))->p j'=r->SW P E n x (BH K Q) (cA l ds) (bW s)):SW P E n (.seq x y) Q (cA l ds) (bW s):=zM h F H hy hx
def zMS {x y:Code} {j:X->aI R} (h:jnF (k+1) F H j p=r) (hx:∀ K:k9->fC->Prop,(∀ fr σ,SW P E n y Q fr σ->K fr σ)->jnF k F H j p=r->SW P E n x (BH K Q) fr σ):SW P E n (.seq x y) Q fr σ:=bE λK hK=>hx K hK h
variable {body:(X->aI R)->X->aI R}
def zLF {c:Code} {v:X} (hr:r≠.stuck) (h0:NN F H body m v=r) (h1:(gF l (F v),gS s (H v))=(gF (F v) (F v),gS (H v) (H v))) (hx:∀ (next:X->aI R) (v:X) (K:k9->fC->Prop),(∀ v l s,next v=r->(gF l (F v),gS s (H v))=(gF (F v) (F v),gS (H v) (H v))->K (cA l ds) (bW s))->body next v=r->SW P E n c (BH K Q) (cA (F v) ds) (bW (H v))) :
 SW P E n (.loop c) Q (cA l ds) (bW s):=zL hr h0 F H h1 hx
variable {lo hi:Operand}
def ajq {k:IntKind} {j:Int} {c:ByS} [ht:uP P t .string] (hx:bU l x=some (eu c)) (hl:bU l lo=some (Sc (.int k i))) (hh:bU l hi=some (Sc (.int k' j))) (h:0<=i/\i<=j/\j<=c.length):na P (.slice t x (some lo) (some hi) none) l ds s (eu ((c.drop i.toNat).take (j.toNat - i.toNat))) []:=aiH hx hl hh h.1 h.2.1 h.2.2
def aaW {k:IntKind} {c:ByS} [ht:uP P t .string] (hx:bU l x=some (eu c)) (hl:bU l lo=some (Sc (.int k i))) (h:0<=i/\i<=c.length):na P (.slice t x (some lo) none none) l ds s (eu (c.drop i.toNat)) []:=JD hx hl h.1 h.2
def aaX {k:IntKind} {j:Int} {c:ByS} [ht:uP P t .string] (hx:bU l x=some (eu c)) (hh:bU l hi=some (Sc (.int k j))) (h:0<=j/\j<=c.length):na P (.slice t x none (some hi) none) l ds s (eu (c.take j.toNat)) []:=aac hx hh h.1 h.2
def zg' (h:((ops[j]?).bind (·.dst),mL l g,Nat.blt d n)=(some g,some (Bo b),true)) (hb:b = !want) (hn:SL P E n ops Q rest (cA ((d,Sc undef)::l) ds) (bW s)):SL P E n ops Q (⟨some d,op,ty,pos,af,some (j,want)⟩::rest) (cA l ds) (bW s):=zg hb h hn
def zG' (h:((ops[j]?).bind (·.dst),mL l g,Nat.blt d n)=(some g,some (Bo b),true)) (hb:b=want) (he:na P op l ds s v rd) (hn:SL P E n ops Q rest (cA ((d,v)::l) ds) (bW s)):SL P E n ops Q (⟨some d,op,ty,pos,af,some (j,want)⟩::rest) (cA l ds) (bW s):=zG hb h he hn
def zPn {p:sX} (h:.ry p=r) (hx:bU l x=some p.av) (hp:∀ p fr σ,fr.ds=ds->r=.ry p->Q (.panic p.av) fr σ):SL P E n ops Q (⟨none,.panic x,ty,pos,af,none⟩::rest) (cA l ds) (bW s):=ae7 p hx (hp p _ _ rfl h.symm)
def zDr {x:aI R} (h:vi L x=r) (hm:P.follows .mixedOrders=true) (EG:chk ops L=true) (k:x=r->DW P E n ops Q L [] fr σ):SW P E n (.region id ops true) Q fr σ:=sH L hm EG (k h)
end
section
variable {P:Program} {Q:gJ} {B:List Rec->k9->fC->Prop} {i:Nat} {L:List Nat} {bk:List Rec} {l:List (Nat×AV)} {ds:List (FuncId×List AV)}
 {ty:TypeId} {pos:String} {af:Array Edge} {d:Nat}
variable {a a':α} {X R:Type} {r:aI R} {C:α->List PV} {kC:FuncId} {fS first cap vs:List AV} {y:Operand} {m:Nat} {xs:List α} {cs:List AV} {v:AV} {pv:List (Nat×AV)} {out:List AV} {g:Nat} {ys:List α} {Cs:List α->List PV} {z:List AV} {l':List (Nat×AV)} {l1:List (Nat×AV)} {lO:List AV} {Ca:List PV}
def zQn {c:Code} (k:∀ fr σ,SW P E n c Q' fr σ->Q .normal fr σ) (h:SW P E n c Q' (cA l ds) (bW s)):DW P E n ops Q [] bk (cA l ds) (bW s):=AS (k _ _ h)
variable {F:X->List (Nat×AV)} {H:X->List (Nat×cV)}
def als {j:X->aI R} {v:X} (h:j v=r) (k:∀ v l s,j v=r->(gF l (F v),gS s (H v))=(gF (F v) (F v),gS (H v) (H v))->Q .normal (cA l ds) (bW s)) (e:(gF l (F v),gS s (H v))=(gF (F v) (F v),gS (H v) (H v))):DW P E n ops Q [] bk (cA l ds) (bW s):=AS (k _ _ _ h e)
def aaY:Nat->List AV->List AV
 | _,[]=>[]
 | 0,v::l=>v::l.map λ_=>.any
 | k+1,_::l=>.any::aaY k l
def Ο:∀ l:List AV,wkC l (l.map λ_=>.any)
 | []=>trivial
 | _::l=>⟨.inr rfl,Ο l⟩
def Wu:∀ (k:Nat) (l:List AV),wkC l (aaY k l)
 | 0,[]=>trivial
 | _+1,[]=>trivial
 | 0,_::l=>⟨.inl rfl,Ο l⟩
 | k+1,_::l=>⟨.inr rfl,Wu k l⟩
def Wv:∀ (k:Nat) (l:List AV),(aaY k l)[k]?=l[k]?
 | 0,[]=>rfl
 | _+1,[]=>rfl
 | 0,_::_=>rfl
 | k+1,_::l=>Wv k l
def afQ [ha:oM P t false] (hx:bU l x=some (.ptr k off)) (hk:dJ s k=some (.box cs)) (hv:cs[off]?=some v) :
 na P (.load t x) l ds s v [(k,.box (aaY off cs))]:=afx _ hx hk (Wu off cs) (by rw[Wv,hv])
def zdn (ho:ops[i]?=some ⟨some d,op,ty,pos,af,some (j,want)⟩) (hj:((ops[j]?).bind (·.dst),mL l g)=(some g,some (Bo b))) (hb:b = !want) (hc:(fO ⟨some d,op,ty,pos,af,some (j,want)⟩,Nat.blt d n)=(false,true)) (hn:pq P E n ops Q B L (⟨i,some d,[],none⟩::bk) (cA ((d,Sc undef)::l) ds) (bW s)):pq P E n ops Q B (i::L) bk (cA l ds) (bW s):=aiV hb ho ⟨p1 hj,p2 hj⟩ ⟨p1 hc,p2 hc⟩ hn
def zdg (ho:ops[i]?=some ⟨some d,op,ty,pos,af,some (j,want)⟩) (hj:((ops[j]?).bind (·.dst),mL l g)=(some g,some (Bo b))) (hb:b=want) (h:na P op l ds s v rd) (hc:(fO ⟨some d,op,ty,pos,af,some (j,want)⟩,Nat.blt d n,F6 ops i v rd bk)=(false,true,true)) (hn:pq P E n ops Q B L (⟨i,some d,rd,none⟩::bk) (cA ((d,v)::l) ds) (bW s)):pq P E n ops Q B (i::L) bk (cA l ds) (bW s):=aiU hb ho ⟨p1 hj,p2 hj⟩ h ⟨p1 hc,p1 (p2 hc),p2 (p2 hc)⟩ hn
def zda (ho:ops[i]?=some ⟨some d,.assign x,ty,pos,af,none⟩) (h:(bU l x,Nat.blt d n,nX bk)=(some v,true,true)) (Fy:qR ops i s bk) (hn:pq P E n ops Q B L bk (cA ((d,v)::l) ds) (bW s)) :
 pq P E n ops Q B (i::L) bk (cA l ds) (bW s):=Ic ho (p1 h) Ct Fy qz hn
def zds {e:cV} {c:List AV} (ho:ops[i]?=some ⟨none,.store t x y,ty,pos,af,none⟩) (ht:yR P t m) (h:(bU l x,dJ s k,e.F5,bU l y,v.jG,AV.p9 c,c.length,Nat.ble (off+c.length) e.cells.length,nX bk)=(some (.ptr k off),some e,true,some v,some c,true,m,true,true)) (Fy:qR ops i ((k,e.put off c)::s) bk) (hn:pq P E n ops Q B L bk (cA l ds) (bW ((k,e.put off c)::s))):pq P E n ops Q B (i::L) bk (cA l ds) (bW s):=
 sG ho ⟨p1 h,p1 (p2 h),p1 qz,p1 Af,p1 Cv,p1 Er,p1 BC,p1 (p2 BC)⟩ Kj
  (λ_ q=>q▸⟨Fy,hn⟩)
def zdl {z:List Value} {zs:List AV} (hE:∀ k,fu es k=true->E.fix k=none) (ho:ops[i]?=some ⟨some d,.alloc t,ty,pos,af,none⟩) (hz:ru P t z) (h:(100+d,fu es (100+d),z.map (λv=>AV.pv (.sc v)),mW (100+d) l,ko (100+d) ds,qb (100+d) s,dJ s (100+d),fO ⟨some d,.alloc t,ty,pos,af,none⟩,Nat.blt d n,Am (100+d) bk)=(nm,true,zs,false,false,false,none,false,true,true)) (hn:pq P E n ops Q B L (⟨i,some d,[],some nm⟩::bk) (cA ((d,.ptr nm 0)::l) ds) (bW ((nm,.box zs)::s))):pq P E n ops Q B (i::L) bk (cA l ds) (bW s):=by
 have e:=p1 h;subst e;exact ς ho (xr rfl) (100+d) (hE _ Ct) ⟨p1 qz,p1 Af,p1 Cv,p1 Er,p1 BC⟩ ⟨p1 (p2 BC),p1 Kj,p2 Kj,p2 Kj⟩ hn
def zdf {zs:List Value} (ho:ops[i]?=some ⟨some d,.buildSlice t m parts.toArray,ty,pos,af,none⟩) (ht:nQ P t m e sz zs pl) (h:parts.mapM (λp=>(bU l p.2).map λv=>(p.1,v))=some pv) (h2:nW pl (zs.map λv=>.pv (.sc v)) pv=some out) (h3:Im out=some cells) (hc:(fO ⟨some d,.buildSlice t m parts.toArray,ty,pos,af,none⟩,Nat.blt d n)=(false,true)) (hn:pq P E n ops Q B L (⟨i,some d,[],none⟩::bk) (cA ((d,.pv (.sl m cells))::l) ds) (bW s)):pq P E n ops Q B (i::L) bk (cA l ds) (bW s):=
 OM (C:=λc=>[c]) (Cs:=λl=>l.flatMap λc=>[c]) cells (λ_=>rfl) ho (xr rfl) ⟨h,by rw[h2,C9 h3];simp⟩ ⟨p1 hc,p2 hc⟩ (adB cells▸hn)
def zdT {zs:List Value} (ho:ops[i]?=some ⟨some d,.buildSlice t m parts.toArray,ty,pos,af,none⟩) (ht:nQ P t m e sz zs pl) (hT:ET e α C Cs sz) (h:parts.mapM (λp=>(bU l p.2).map λv=>(p.1,v))=some pv) (h2:nW pl (zs.map λv=>.pv (.sc v)) pv=some out) (h3:Im out=some cells) (h4:rV sz C cells xs) (hc:(fO ⟨some d,.buildSlice t m parts.toArray,ty,pos,af,none⟩,Nat.blt d n)=(false,true)) (hn:pq P E n ops Q B L (⟨i,some d,[],none⟩::bk) (cA ((d,.pv (.sl m (Cs xs)))::l) ds) (bW s)):pq P E n ops Q B (i::L) bk (cA l ds) (bW s):=by
 unfold rV at h4;subst h4;exact OM xs hT.h ho (xr rfl) ⟨h,by rw[h2,C9 h3]⟩ ⟨p1 hc,p2 hc⟩ hn
def zeD {zs:List Value} (_h:NzF 1) (ho:ops[i]?=some ⟨some d,.build t parts.toArray,ty,pos,af,none⟩) (ht:lT P t zs pl) (hq:NzT P t zs z) (hp:parts.mapM (λp=>(bU l p.2).map λv=>(p.1,v))=some pv) (h:nW pl z pv=some out) (hc:(fO ⟨some d,.build t parts.toArray,ty,pos,af,none⟩,Nat.blt d n,F6 ops i (.agg out) [] bk)=(false,true,true)) (hn:pq P E n ops Q B L (⟨i,some d,[],none⟩::bk) (cA ((d,.agg out)::l) ds) (bW s)):pq P E n ops Q B (i::L) bk (cA l ds) (bW s):=by
 obtain ⟨o1,h1,h2⟩:=Io (hq.e▸tj _) h;exact adr ho ((GM hp h1).Mv (AV.KF h2)) ⟨p1 hc,p1 (p2 hc),p2 (p2 hc)⟩ hn
def zdx {kk:Nat} {v:Int} {k:IntKind} {xs:List Int} (ho:ops[i]?=some ⟨none,.store t x y,ty,pos,af,none⟩) (ht:yR P t 1) (hx:bU l x=some (.ptr kk (0+ii.toNat*1))) (hk:dJ s kk=some (.box cs)) (hc:IM k cs xs) (h4:cs.length=4) (hy:bU l y=some (Sc (.int k v))) (h:0<=ii/\ii<4) (hq:(quiet ops i bk,nX bk)=(true,true)) (hn:pq P E n ops Q B L bk (cA l ds) (bW ((kk,.box [Sc (.int k (tA (Bq xs ii v) 0)),Sc (.int k (tA (Bq xs ii v) 1)),Sc (.int k (tA (Bq xs ii v) 2)),Sc (.int k (tA (Bq xs ii v) 3))])::s))):pq P E n ops Q B (i::L) bk (cA l ds) (bW s):=
 aaI (λx=>Sc (.int k x)) ho hx hk hc.eq hy h.1 Qz (λ_=>vf) (ajh Qz) (p2 hq) ⟨kW (p1 hq),hn⟩
def zdu (ho:ops[i]?=some ⟨some d,op,ty,pos,af,some (j,want)⟩) (hj:((ops[j]?).bind (·.dst),mL l g)=(some g,some (Sc undef))) (hc:(fO ⟨some d,op,ty,pos,af,some (j,want)⟩,Nat.blt d n)=(false,true)) (hn:pq P E n ops Q B L (⟨i,some d,[],none⟩::bk) (cA ((d,Sc undef)::l) ds) (bW s)):pq P E n ops Q B (i::L) bk (cA l ds) (bW s):=aiQ ho ⟨p1 hj,p2 hj⟩ ⟨p1 hc,p2 hc⟩ hn
def zdU (ho:ops[i]?=some ⟨some d,op,ty,pos,af,some (j,want)⟩) (hj:((ops[j]?).bind (·.dst),mL l g)=(some g,some (Sc undef))) (hc:(fO ⟨some d,op,ty,pos,af,some (j,want)⟩,Nat.blt d n)=(true,true)) (hn:pq P E n ops Q B L bk (cA ((d,Sc undef)::l) ds) (bW s)):pq P E n ops Q B (i::L) bk (cA l ds) (bW s):=aeS ho ⟨p1 hj,p2 hj⟩ ⟨p1 hc,p2 hc⟩ hn
def zdN (ho:ops[i]?=some ⟨some d,op,ty,pos,af,some (j,want)⟩) (hj:((ops[j]?).bind (·.dst),mL l g)=(some g,some (Bo b))) (hb:b = !want) (hc:(fO ⟨some d,op,ty,pos,af,some (j,want)⟩,Nat.blt d n)=(true,true)) (hn:pq P E n ops Q B L bk (cA ((d,Sc undef)::l) ds) (bW s)):pq P E n ops Q B (i::L) bk (cA l ds) (bW s):=ae3 hb ho ⟨p1 hj,p2 hj⟩ ⟨p1 hc,p2 hc⟩ hn
variable {res:aI X} {kk:X->aI R} {V V':X->AV} {C':X->List (Nat×cV)}
def zdc {C:X->List cV} (hr:r≠.stuck) (h:ag res kk=r) (ho:ops[i]?=some ⟨some d,.call ⟨.value f,args.toArray,ts⟩,ty,pos,af,none⟩) (h1:(bU l f,zU l args)=(some (.fn kC first cap),some vs)) (_hL:Il (ksB s (first++vs++cap)) ks) (wu:Enters P kC) [hC:CT P kC fS es res V C] (hk:(first++vs++cap,AQ s ks,nodupB ks,P0 l ds s ks ks es,Nat.blt d n,EI ks bk)=(AV.mh.ud (nth ks) fS,some (qd (nth ks) es),true,true,true,true)) (hF:FG E ks es) (hx:∀ x,((C x).length,qe (below ks.length) (C x),(V x).only (below ks.length),(V x).mh (nth ks),tK ks (qd (nth ks) (C x)))=(ks.length,true,true,V' x,C' x)) (Fy:∀ x,qR ops i (C' x++s) bk) (hp:∀ p fr σ,fr.ds=ds->r=.ry p->Q (.panic p.av) fr σ) (oB:∀ x,kk x=r->pq P E n ops Q B L bk (cA ((d,V' x)::l) ds) (bW (C' x++s))):pq P E n ops Q B (i::L) bk (cA l ds) (bW s):=
 KQ ho (xr rfl) hr h ks wu hC ⟨p1 h1,p2 h1,p1 hk,p1 (p2 hk),p1 (p2 (p2 hk)),p1 IC,hF⟩ (p1 (p2 IC)) (p2 (p2 IC))
  (λx=>⟨p1 (hx x),p1 (p2 (hx x)),p1 Gp⟩) (λx=>⟨p1 (p2 Gp),p2 (p2 Gp)⟩) hp λx q=>⟨Fy x,oB x q⟩
def zdC {C:X->List cV} (hr:r≠.stuck) (h:ag res kk=r) (ho:ops[i]?=some ⟨some d,.call ⟨.value f,args.toArray,ts⟩,ty,pos,af,some (j,want)⟩) (hj:((ops[j]?).bind (·.dst),mL l g)=(some g,some (Bo b))) (hb:b=want) (h1:(bU l f,zU l args)=(some (.fn kC first cap),some vs)) (_hL:Il (ksB s (first++vs++cap)) ks) (wu:Enters P kC) [hC:CT P kC fS es res V C] (hk:(first++vs++cap,AQ s ks,nodupB ks,P0 l ds s ks ks es,Nat.blt d n,EI ks bk)=(AV.mh.ud (nth ks) fS,some (qd (nth ks) es),true,true,true,true)) (hF:FG E ks es) (hx:∀ x,((C x).length,qe (below ks.length) (C x),(V x).only (below ks.length),(V x).mh (nth ks),tK ks (qd (nth ks) (C x)))=(ks.length,true,true,V' x,C' x)) (Fy:∀ x,qR ops i (C' x++s) bk) (hp:∀ p fr σ,fr.ds=ds->r=.ry p->Q (.panic p.av) fr σ) (oB:∀ x,kk x=r->pq P E n ops Q B L bk (cA ((d,V' x)::l) ds) (bW (C' x++s))):pq P E n ops Q B (i::L) bk (cA l ds) (bW s):=
 KQ ho (aiW hb rfl ⟨p1 hj,p2 hj⟩) hr h ks wu hC ⟨p1 h1,p2 h1,p1 hk,p1 (p2 hk),p1 (p2 (p2 hk)),p1 IC,hF⟩ (p1 (p2 IC)) (p2 (p2 IC))
  (λx=>⟨p1 (hx x),p1 (p2 (hx x)),p1 Gp⟩) (λx=>⟨p1 (p2 Gp),p2 (p2 Gp)⟩) hp λx q=>⟨Fy x,oB x q⟩
end
section
variable {P:Program} {Q:gJ} {l:List (Nat×AV)} {ds:List (FuncId×List AV)}
 {ty:TypeId} {pos:String} {af:Array Edge} {d:Nat}
def oj {R:Type} (_k:List (List Nat)) (x:aI R):aI R:=x
def jk {R:Type} (_k:List (List Nat)) (x:aI R):aI R:=x
inductive xR {α:Type}:List α->List α->Prop
 | nil:xR [] []
 | cons {a:α} {l m:List α} (h:xR l m):xR (a::l) (a::m)
variable {a a':α} {X R:Type} {r:aI R} {C:α->List PV} {kC:FuncId} {fS first cap vs:List AV} {y:Operand} {m:Nat} {xs:List α} {cs:List AV} {v:AV} {pv:List (Nat×AV)} {out:List AV} {g:Nat} {ys:List α} {Cs:List α->List PV} {z:List AV} {L:List Nat} {l':List (Nat×AV)} {l1:List (Nat×AV)} {lO:List AV} {Ca:List PV}
def xR.eq {l m:List α} (h:xR l m):l=m:=by
 induction h with
 | nil=>rfl
 | cons _ ih=>rw[ih]
def mkF (nm k:Nat) (l:List (Nat×AV)):List Nat->List (Nat×AV)
 | []=>[]
 | i::is=>match mL l i with
  | some v=>match v.jh k with
   | true=>mkF nm k l is
   | false=>(i,v.mh (xj nm k))::mkF nm k l is
  | none=>mkF nm k l is
def K6 {l:List (Nat×AV)}:∀ is,XK nm k l (mkF nm k l is)
 | []=>trivial
 | i::is=>by
  unfold mkF;cases hv:mL l i with
  | none=>exact K6 is
  | some v=>
   cases hm:v.jh k with
   | true=>simp only[hm];exact K6 is
   | false=>simp only[hm];exact ⟨⟨v,hv,hm,rfl⟩,K6 is⟩
def mkS (nm k:Nat) (s:List (Nat×cV)):List Nat->List (Nat×cV)
 | []=>[]
 | i::is=>match dJ s i with
  | some e=>match e.mq k||(Nat.beq i nm||Nat.beq i k) with
   | true=>mkS nm k s is
   | false=>(i,e.mh (xj nm k))::mkS nm k s is
  | none=>mkS nm k s is
def K7 {s:List (Nat×cV)}:∀ is,XL nm k s (mkS nm k s is)
 | []=>trivial
 | i::is=>by
  unfold mkS;cases hv:dJ s i with
  | none=>exact K7 is
  | some e=>
   cases hm:e.mq k||(Nat.beq i nm||Nat.beq i k) with
   | true=>simp only[hm];exact K7 is
   | false=>
    simp only[hm]
    have h1:=lS.1 hm
    have h2:=lS.1 h1.2
    exact ⟨⟨e,hv,h1.1,rfl,h2.1,h2.2⟩,K7 is⟩
def wF (_k:List (List Nat)) (E:Env) (n:Nat) (l:List (Nat×AV)) (ds:List (FuncId×List AV)) (s:List (Nat×cV)) (l':List (Nat×AV)) (s':List (Nat×cV)):Prop:=mM E n l ds s l' s'
def zgS {k:List (List Nat)} {x:aI R} (h:oj k x=r) (hg:wF k E n l ds s l' s') (hn:x=r->SL P E n ops Q rest (cA l' ds) (bW s')):SL P E n ops Q rest (cA l ds) (bW s):=lX hg (hn h)
def zgN {k:List (List Nat)} {x:aI R} (h:jk k x=r) (hg:wF k E n l ds s l' s') (hn:x=r->SL P E n ops Q [] (cA l' ds) (bW s')):SL P E n ops Q [] (cA l ds) (bW s):=lX hg (hn h)
def zgT {k:List (List Nat)} {x:aI R} (h:jk k x=r) (hg:wF k E n l ds s l' s') (hn:x=r->SW P E n .ret Q (cA l' ds) (bW s')):SW P E n .ret Q (cA l ds) (bW s):=nY hg (hn h)
def zgW {c:Code} {k:List (List Nat)} {x:aI R} (h:jk k x=r) (hg:wF k E n l ds s l' s') (hn:x=r->SW P E n c Q (cA l' ds) (bW s')):SW P E n c Q (cA l ds) (bW s):=nY hg (hn h)
def afR {el:TypeId} (hE:∀ k,fu es k=true->E.fix k=none) (h:(fu es k,Nat.beq nm k,dJ s nm,ko nm ds,ko k ds)=(true,false,some (.app el sz cells),false,false)) (_hh:((mkF nm k l ks).length,(mkS nm k s kn).length)=(ks.length,kn.length)) (hl:xR l1 (mkF nm k l ks)) (hs:xR s1 (mkS nm k s kn)):wF [[1,nm,k],ks,kn] E n l ds s l1 ((k,.app el sz cells)::s1):=by
 rw[hl.eq,hs.eq];exact Rg nm k _ _ (hE _ (p1 h)) Ct (p1 qz) ⟨p1 Af,p2 Af⟩ (K6 ks) (K7 kn)
def aa1 {el:TypeId} (hE:∀ k,fu es k=true->E.fix k=none) (h:(fu es k,Nat.beq nm k,dJ s nm,ko nm ds,ko k ds)=(true,false,some (.arr el sz cells),false,false)) (_hh:((mkF nm k l ks).length,(mkS nm k s kn).length)=(ks.length,kn.length)) (hl:xR l1 (mkF nm k l ks)) (hs:xR s1 (mkS nm k s kn)):wF [[2,nm,k],ks,kn] E n l ds s l1 ((k,.arr el sz cells)::s1):=by
 rw[hl.eq,hs.eq];exact Y' nm k _ _ (hE _ (p1 h)) Ct (p1 qz) ⟨p1 Af,p2 Af⟩ (K6 ks) (K7 kn)
def ET.nil (h:ET e α C Cs sz):Cs []=[]:=by rw[h.h];rfl
def aa2 {el:TypeId} (hE:∀ k,fu es k=true->E.fix k=none) (hi:ET el α C Cs sz) (h:(fu es nm,mL l d,mW nm l,ko nm ds,qb nm s)=(true,some (nSl),false,false,false)):wF [[3,d,nm,sz,el]] E n l ds s ((d,.arr nm (List.length ([]:List α)))::l) ((nm,.app el sz (Cs []))::s):=by
 rw[hi.nil];exact ae6 nm (hE _ (p1 h)) Ct ⟨p1 qz,p1 Af,p2 Af⟩
def Ρ {el:TypeId} (hE:∀ k,fu es k=true->E.fix k=none) (hi:ET el α C Cs sz) (h:(fu es nm,mL l d,mW nm l,ko nm ds,qb nm s)=(true,some (nSl),false,false,false)):wF [[4,d,nm,sz,el]] E n l ds s ((d,.arr nm (List.length ([]:List α)))::l) ((nm,.arr el sz (Cs []))::s):=by
 rw[hi.nil];exact aaA nm (hE _ (p1 h)) Ct ⟨p1 qz,p1 Af,p2 Af⟩
def Τ {el:TypeId} (hE:∀ k,fu es k=true->E.fix k=none) (hi:ET el α C Cs sz) (h:(fu es nm,dJ s j,mW nm l,ko nm ds,qb nm s,Nat.beq j nm)=(true,some (.box cs),false,false,false,false)) (hc:cs[off]?=some (nSl)) (hl:xR lO (cs.set off (.arr nm (List.length ([]:List α))))) :
  wF [[5,j,off,nm,sz,el]] E n l ds s l ((j,.box lO)::(nm,.app el sz (Cs []))::s):=by
 rw[hi.nil,hl.eq];exact Jx nm (hE _ (p1 h)) Ct hc ⟨p1 qz,p1 Af,p1 Cv⟩ Er
def X3 {el:TypeId} (hE:∀ k,fu es k=true->E.fix k=none) (hi:ET el α C Cs sz) (h:(fu es nm,dJ s j,mW nm l,ko nm ds,qb nm s,Nat.beq j nm)=(true,some (.box cs),false,false,false,false)) (hc:cs[off]?=some (nSl)) (hl:xR lO (cs.set off (.arr nm (List.length ([]:List α))))) :
  wF [[6,j,off,nm,sz,el]] E n l ds s l ((j,.box lO)::(nm,.arr el sz (Cs []))::s):=by
 rw[hi.nil,hl.eq];exact ξ nm (hE _ (p1 h)) Ct hc ⟨p1 qz,p1 Af,p1 Cv⟩ Er rfl
def ajr (h:dJ s j=some (.box cs)) (hl:xR lO (AV.V8 cs)):wF [[7,j]] E n l ds s l ((j,.box lO)::s):=by rw[hl.eq];exact Dc j h rfl
def afS {c:Nat} (h:dJ s j=some (.box cs)) (hv:cs[c]?=some v) (hl:xR lO (cs.set c v.nz)):wF [[8,j,c]] E n l ds s l ((j,.box lO)::s):=by rw[hl.eq];exact adt j c h hv rfl
def afT (h:mL l d=some v):wF [[9,d]] E n l ds s ((d,v.nz)::l) s:=We h rfl
def aa3 (h:mL l d=some (.agg cs)) (hl:xR lO (AV.V8 cs)):wF [[10,d]] E n l ds s ((d,.agg lO)::l) s:=by rw[hl.eq];exact afn h rfl
def Υ {el:TypeId} (hE:∀ k,fu es k=true->E.fix k=none) (h:dJ s j=some (.box cs)) (hc:cs[off]?=some (.arr k m)) (hk:(fu es k,dJ s k)=(true,some (.arr el sz cells))) (hi:ET el α C Cs sz) (hx:(cells,m,Nat.blt 0 sz)=(Cs xs,List.length xs,true)) (hl:xR lO (cs.set off (.pv (.sl xs.length (Cs xs))))) :
  wF [[11,j,off]] E n l ds s l ((j,.box lO)::ug k s):=by
 rw[hl.eq];exact aaz hi.h hi.n (p2 (p2 hx)) h (hc.trans Vn) ((p2 hk).trans (by rw[p1 hx])) (hE _ (p1 hk)) rfl
def aa4 {el:TypeId} (hE:∀ k,fu es k=true->E.fix k=none) (h:mL l d=some (.arr k m)) (hk:(fu es k,dJ s k)=(true,some (.arr el sz cells))) (hi:ET el α C Cs sz) (hx:(cells,m,Nat.blt 0 sz)=(Cs xs,List.length xs,true)) :
  wF [[12,d]] E n l ds s ((d,.pv (.sl xs.length (Cs xs)))::l) (ug k s):=
 μ hi.h hi.n (p2 (p2 hx)) (h.trans Vn) ((p2 hk).trans (by rw[p1 hx])) (hE _ (p1 hk))
def X4 {el:TypeId} (h:dJ s j=some (.box cs)) (hc:cs[off]?=some (.arr k m)) (hk:dJ s k=some (.app el sz cells)) (hi:ET el α C Cs sz) (hx:(cells,m,Nat.blt 0 sz)=(Cs xs,List.length xs,true)) (hl:xR lO (cs.set off (.pv (.sl xs.length (Cs xs))))) :
  wF [[13,j,off]] E n l ds s l ((j,.box lO)::s):=by
 rw[hl.eq];exact Z' hi.h hi.n (p2 (p2 hx)) h (hc.trans Vn) (hk.trans (by rw[p1 hx])) rfl
def Φ {el:TypeId} (h:mL l d=some (.arr k m)) (hk:dJ s k=some (.app el sz cells)) (hi:ET el α C Cs sz) (hx:(cells,m,Nat.blt 0 sz)=(Cs xs,List.length xs,true)):wF [[14,d]] E n l ds s ((d,.pv (.sl xs.length (Cs xs)))::l) s:=
 aap hi.h hi.n (p2 (p2 hx)) (h.trans Vn) (hk.trans (by rw[p1 hx]))
def aa5 {el:TypeId} (hE:∀ k,fu es k=true->E.fix k=none) (h:(fu es nm,mW nm l,ko nm ds,qb nm s)=(true,false,false,false)):wF [[15,nm,sz,el]] E n l ds s l ((nm,.app el sz [])::s):=
 ν nm (hE _ (p1 h)) ⟨p1 (p2 h),p1 qz,p2 qz⟩
def aa6 {el:TypeId} (h:mL l d=some (.arr k m)) (hk:dJ s k=some (.arr el sz cells)) (hi:ET el α C Cs sz) (hx:cells=Cs xs) (hm:m=List.length xs) :
 wF [[17,d]] E n l ds s ((d,.arr k xs.length)::l) s:=TW d h hm
def zap {a:Operand} (hE:∀ k,fu es k=true->E.fix k=none) (hT:uP P t (.slice e)) (hi:ET e α C Cs sz) (hB:uf P e sz bytes) (h:(bU l a,dJ s k)=(some (.arr k m),some (.app e sz cells))) (Ml:(cells,m)=(Cs xs,List.length xs)) (hx:bU l x=some (.pv (.sl m2 Ca))) (hys:(Ca,m2)=(Cs ys,List.length ys)) (hm:(fu es (100+d),mW (100+d) l,ko (100+d) ds,EH (100+d) [k] s,Nat.blt d n)=(true,false,false,false,true)) (hg:nP bytes xs.length ys.length) (hn:SL P E n ops Q rest (cA ((d,.arr (100+d) (List.length (xs++ys)))::l) ds) (bW ((100+d,.app e sz (Cs (xs++ys)))::ug k s))):SL P E n ops Q (⟨some d,.call ⟨.builtin .append,#[a,x],#[t,t]⟩,ty,pos,af,none⟩::rest) (cA l ds) (bW s):=
 OL (100+d) š I8 hn
def alv {a:Operand} (hE:∀ k,fu es k=true->E.fix k=none) (hT:uP P t (.slice e)) (hi:ET e α C Cs sz) (hB:uf P e sz bytes) (h:(bU l a,dJ s k)=(some (.arr k m),some (.arr e sz cells))) (Ml:(cells,m)=(Cs xs,List.length xs)) (hx:bU l x=some (.pv (.sl m2 Ca))) (hys:(Ca,m2)=(Cs ys,List.length ys)) (hm:(fu es (100+d),mW (100+d) l,ko (100+d) ds,EH (100+d) [k] s,Nat.blt d n)=(true,false,false,false,true)) (hg:nP bytes xs.length ys.length) (hn:SL P E n ops Q rest (cA ((d,.arr (100+d) (List.length (xs++ys)))::l) ds) (bW ((100+d,.arr e sz (Cs (xs++ys)))::ug k s))):SL P E n ops Q (⟨some d,.call ⟨.builtin .append,#[a,x],#[t,t]⟩,ty,pos,af,none⟩::rest) (cA l ds) (bW s):=
 aaC (100+d) š I8 hn
def zbs {x:aI R} {zs:List Value} (h0:oj [[20,d]] x=r) (hE:∀ k,fu es k=true->E.fix k=none) (ht:nQ P t m e sz zs pl) (hT:ET e α C Cs sz) (h:parts.mapM (λp=>(bU l p.2).map λv=>(p.1,v))=some pv) (h2:nW pl (zs.map λv=>.pv (.sc v)) pv=some out) (h3:Im out=some cells) (h4:rV sz C cells xs) (hm:(xs.length,Nat.ble m 1000,fu es (100+d),mW (100+d) l,ko (100+d) ds,qb (100+d) s,Nat.blt d n)=(m,true,true,false,false,false,true)) (hn:x=r->SL P E n ops Q rest (cA ((d,.arr (100+d) xs.length)::l) ds) (bW ((100+d,.app e sz (Cs xs))::s))):SL P E n ops Q (⟨some d,.buildSlice t m parts.toArray,ty,pos,af,none⟩::rest) (cA l ds) (bW s):=by
 unfold rV at h4;subst h4;exact afr (100+d) xs hT.h hT.n (hE _ (p1 (p2 (p2 hm)))) Zj ⟨p1 (p2 (p2 (p2 hm))),p1 I8,p1 (p2 I8)⟩ (p2 (p2 I8)) (hn h0)
variable {r0:aI R}
def zvw {el:TypeId} (h0:oj [[22,d]] r0=r) (hx:bU l x=some (.arr k m)) (hk:dJ s k=some (.app el sz cells)) (hi:ET el α C Cs sz) (Ml:(cells,m,Nat.blt 0 sz,Nat.blt d n)=(Cs xs,List.length xs,true,true)) (hn:r0=r->SL P E n ops Q rest (cA ((d,.pv (.sl xs.length (Cs xs)))::l) ds) (bW s)):SL P E n ops Q (⟨some d,.move x,ty,pos,af,none⟩::rest) (cA l ds) (bW s):=
 fg (aaq hi.h hi.n (p1 (p2 (p2 Ml))) (hx.trans (by rw[p1 (p2 Ml)])) (hk.trans (by rw[p1 Ml]))) (p2 (p2 (p2 Ml))) (hn h0)
def zvl {el:TypeId} {e:cV} [ha:oM P t false] (h0:oj [[22,d]] r0=r) (hx:(bU l x,dJ s k)=(some (.ptr k off),some e)) (hv:e.cells[off]?=some (.arr j m)) (hk:dJ s j=some (.app el sz cells)) (hi:ET el α C Cs sz) (Ml:(cells,m,Nat.blt 0 sz,Nat.blt d n)=(Cs xs,List.length xs,true,true)) (hn:r0=r->SL P E n ops Q rest (cA ((d,.pv (.sl xs.length (Cs xs)))::l) ds) (bW s)):SL P E n ops Q (⟨some d,.load t x,ty,pos,af,none⟩::rest) (cA l ds) (bW s):=
 fg (HO hi.h hi.n (p1 (p2 (p2 Ml))) (p1 hx) (p2 hx) (hv.trans (by rw[p1 (p2 Ml)])) (hk.trans (by rw[p1 Ml]))) (p2 (p2 (p2 Ml))) (hn h0)
variable {B:List Rec->k9->fC->Prop} {i:Nat} {bk:List Rec}
def nz1:AV->AV
 | .agg cs=>.agg (AV.V8 cs)
 | v=>v.nz
def Χ (v:AV):v.le (nz1 v):=by
 cases v with
 | agg cs=>exact AV.KF (tj cs)
 | _=>exact AV.V7 _
def R1:∀ l:List AV,F2 l (l.map nz1)
 | []=>.nil
 | v::l=>.cons (Χ v) (R1 l)
def nz2:AV->AV
 | .mE vs=>.mE (vs.map nz1)
 | v=>nz1 v
def afU (v:AV):v.le (nz2 v):=by
 cases v with
 | mE vs=>exact AV.aeG (R1 vs)
 | _=>exact Χ _
variable {V:X->AV}
def zXN {C:X->List cV} {r:aI X} {H:AV->Prop} {x:X} (hr:P4 P (cA l []) (bW s) fn.results.toList vs) (hg:.ok x=r) (hm:(nz2 (yY vs),gM s 0 (C x))=(V x,(C x).map some)) :
 wo P fn (zh V C (λx=>r=.ok x) H) .ret (cA l []) (bW s):=Cr (.inl rfl) x hr hg.symm (p1 hm▸afU _) (aaL (p2 hm))
def alw {e:cV} {c:List AV} (ho:ops[i]?=some ⟨none,.store t x y,ty,pos,af,none⟩) (ht:yR P t m) (h:(bU l x,dJ s k,e.F5,bU l y,v.jG,AV.p9 c,c.length,Nat.ble (off+c.length) e.cells.length,nX (mK ops bk i))=(some (.ptr k off),some e,true,some v,some c,true,m,true,true)) (Fy:qR ops i ((k,e.put off c)::s) bk) (hn:pq P E n ops Q B L bk (cA l ds) (bW ((k,e.put off c)::s))):pq P E n ops Q B (i::L) bk (cA l ds) (bW s):=
 XW ho ⟨p1 h,p1 (p2 h),p1 qz,p1 Af,p1 Cv,p1 Er,p1 BC,p1 (p2 BC)⟩ Kj λ_ q=>q▸⟨Fy,hn⟩
def AV.ajs:AV->PV
 | .pv p=>p
 | _=>.pt none
def UpC {α:Type} (C:α->List PV) (c:List PV) (a:α):Prop:=C a=c
def reL (k m:Nat):List (Nat×AV)->List (Nat×AV)
 | []=>[]
 | (d,.arr j x)::l=>(if Nat.beq j k then (d,.arr j m) else (d,.arr j x))::reL k m l
 | p::l=>p::reL k m l
def alx {q:Nat} {i:Int} {c:List AV} {vs:List PV} (h:(bU l x,bU l y,v.jG)=(some (.ptr k (i.toNat*sz+off)),some v,some c)) (hk:dJ s k=some (.arr e q cells)) (hi:ET e α C Cs sz) (hq:(q,cells)=(sz,Cs xs)) (h0:0<=i) (ha:xs[i.toNat]?=some a) (ht:yR P t m) (hv:c.map AV.ajs=vs) (h2:(c,PV.p9 vs,vs.length,Nat.ble (off+vs.length) sz,reL k xs.length l)=(vs.map .pv,true,m,true,l)) (hu:UpC C ((C a).take off++vs++(C a).drop (off+vs.length)) a') (hn:SL P E n ops Q rest (cA (reL k (List.length (xs.set i.toNat a')) l) ds) (bW ((k,.arr e sz (Cs (xs.set i.toNat a')))::ug k s))):SL P E n ops Q (⟨none,.store t x y,ty,pos,af,none⟩::rest) (cA l ds) (bW s):=by
 have q1:=p1 hq;have q2:=p2 hq;subst q1;subst q2;rw[rR,p2 (p2 (p2 (p2 h2)))] at hn;exact TT ⟨hi.h,hi.n,h0,ha,p1 h,hk,p1 (p2 h),(p2 (p2 h)).trans (iP some (p1 h2)),p1 (p2 h2),ht.h,p1 (p2 (p2 h2)),p1 (p2 (p2 (p2 h2))),hu⟩ hn
def aly {a b:TypeId} {u:TypeDesc} {c:ByS} (hs:uP P a u) (ht:uP P b (.slice e)) (he:uP P e (.int .u8)) (h:(bU l x,Nat.blt d n)=(some (eu c),true)) (hn:SL P E n ops Q rest (cA ((d,.pv (.sl (ofBytes c).length (Hk (ofBytes c))))::l) ds) (bW s)):SL P E n ops Q (⟨some d,.convert a b x,ty,pos,af,none⟩::rest) (cA l ds) (bW s):=
 afB (Cs:=Hk) (p1 h) (λ_=>rfl) (p2 h) hn
def alz {x:aI R} (h:drG L x=r) (hm:P.follows .mixedOrders=true) (EG:chk ops L=true) (k:x=r->DW P E n ops (GN E n ds Q) L [] (cA l ds) (bW s)):SW P E n (.region id ops true) Q (cA l ds) (bW s):=Wc ds (sH L hm EG (k h))
def GQ (E:Env) (n:Nat) (ds:List (FuncId×List AV)) (Q:gJ) (l:List (Nat×AV)) (s:List (Nat×cV)):Prop:=∃ l' s',mM E n l ds s l' s'/\Q .normal (cA l' ds) (bW s')
def zGq (h:GQ E n ds Q l s):DW P E n ops (GN E n ds Q) [] bk (cA l ds) (bW s):=let ⟨_,_,a,b⟩:=h;Wh a b
def zGg {k:List (List Nat)} {x:aI R} (h:jk k x=r) (hg:wF k E n l ds s l' s') (hn:x=r->GQ E n ds Q l' s'):GQ E n ds Q l s:=let ⟨_,_,a,b⟩:=hn h;⟨_,_,mM.trans hg a,b⟩
def zGn {c:Code} (k:∀ fr σ,SW P E n c Q' fr σ->Q .normal fr σ) (h:SW P E n c Q' (cA l ds) (bW s)):GQ E n ds Q l s:=⟨l,s,aay _ _,k _ _ h⟩
variable {F:X->List (Nat×AV)} {H:X->List (Nat×cV)}
def zGj {j:X->aI R} {v:X} (h:j v=r) (k:∀ v l s,j v=r->(gF l (F v),gS s (H v))=(gF (F v) (F v),gS (H v) (H v))->Q .normal (cA l ds) (bW s)) (e:(gF l (F v),gS s (H v))=(gF (F v) (F v),gS (H v) (H v))):GQ E n ds Q l s:=⟨l,s,aay _ _,k _ _ _ h e⟩
def zGr (h:Q .normal (cA l ds) (bW s)):GQ E n ds Q l s:=⟨l,s,aay _ _,h⟩
def alA (ho:ops[i]?=some ⟨some d,.assign x,ty,pos,af,none⟩) (h:(bU l x,Nat.blt d n,nX (mK ops bk i))=(some v,true,true)) (Fy:qR ops i s bk) (hn:pq P E n ops Q B L bk (cA ((d,v)::l) ds) (bW s)) :
 pq P E n ops Q B (i::L) bk (cA l ds) (bW s):=TU ho (p1 h) Ct Fy qz hn
def Ψ {f:α->List PV} {o:Option α} {y:α} (hx:bU l x=some (.pv (.pt (Option.map f o)))) (ho:o=some y):na P (.nilCheck x) l ds s (.sp (f y)) []:=V3 (hx.trans (by rw[ho];rfl))
def zso {o:Option β} {k:β->aI R} (hr:r≠.stuck) (h:some? o k=r) (c:∀ x,o=some x->k x=r->q):q:=let ⟨y,a,b⟩:=aeW hr h;c y a b
def T3 {a a':Nat} {w:AV} {q:Nat->Bool} {f:Nat->Nat} {z z':List (Nat×cV)} (h1:v.only q=true) (h2:v.mh f=w) (h3:(a,b,z)=(a',true,z')):(a,b,v.only q,v.mh f,z)=(a',true,true,w,z'):=by rw[h1,h2];cases h3;rfl
def alB {a:Operand} (hE:∀ k,fu es k=true->E.fix k=none) (ho:ops[i]?=some ⟨some d,.call ⟨.builtin .append,#[a,x],#[t,t]⟩,ty,pos,af,none⟩) (hT:uP P t (.slice e)) (hi:ET e α C Cs sz) (hB:uf P e sz bytes) (h:(bU l a,dJ s k)=(some (.arr k m),some (.app e sz cells))) (Ml:(cells,m)=(Cs xs,List.length xs)) (hx:bU l x=some (.pv (.sl m2 Ca))) (hys:(Ca,m2)=(Cs ys,List.length ys)) (hm:(fu es (100+d),mW (100+d) l,ko (100+d) ds,EH (100+d) [k] s,Nat.blt d n,nX bk)=(true,false,false,false,true,true)) (hg:nP bytes xs.length ys.length) (Fy:qR ops i ((100+d,.app e sz (Cs (xs++ys)))::ug k s) bk) (hn:pq P E n ops Q B L bk (cA ((d,.arr (100+d) (List.length (xs++ys)))::l) ds) (bW ((100+d,.app e sz (Cs (xs++ys)))::ug k s))):pq P E n ops Q B (i::L) bk (cA l ds) (bW s):=
 ε (100+d) ho (xr rfl) š (p1 I8) (p2 I8) ⟨Fy,hn⟩
def ajt {a:Operand} (hE:∀ k,fu es k=true->E.fix k=none) (ho:ops[i]?=some ⟨some d,.call ⟨.builtin .append,#[a,x],#[t,t]⟩,ty,pos,af,none⟩) (hT:uP P t (.slice e)) (hi:ET e α C Cs sz) (hB:uf P e sz bytes) (h:(bU l a,dJ s k)=(some (.arr k m),some (.arr e sz cells))) (Ml:(cells,m)=(Cs xs,List.length xs)) (hx:bU l x=some (.pv (.sl m2 Ca))) (hys:(Ca,m2)=(Cs ys,List.length ys)) (hm:(fu es (100+d),mW (100+d) l,ko (100+d) ds,EH (100+d) [k] s,Nat.blt d n,nX bk)=(true,false,false,false,true,true)) (hg:nP bytes xs.length ys.length) (Fy:qR ops i ((100+d,.arr e sz (Cs (xs++ys)))::ug k s) bk) (hn:pq P E n ops Q B L bk (cA ((d,.arr (100+d) (List.length (xs++ys)))::l) ds) (bW ((100+d,.arr e sz (Cs (xs++ys)))::ug k s))):pq P E n ops Q B (i::L) bk (cA l ds) (bW s):=
 aaD (100+d) ho (xr rfl) š (p1 I8) (p2 I8) ⟨Fy,hn⟩
variable {t2:TypeId} {d2:Nat} {ty2:TypeId} {pos2:String} {af2:Array Edge}
def alC {zs:List Value} (_h:NzF 2) (ht:lT P t zs pl) (hq:NzT P t zs z) (hp:parts.mapM (λp=>(bU l p.2).map λv=>(p.1,v))=some pv) (h:nW pl z pv=some out) (hd:Nat.blt d n=true) (hn:SL P E n ops Q (⟨some d2,.buildSlice t2 1 #[(0,.tmp d)],ty2,pos2,af2,none⟩::rest) (cA ((d,.agg out)::l) ds) (bW s)):SL P E n ops Q (⟨some d,.build t parts.toArray,ty,pos,af,none⟩::⟨some d2,.buildSlice t2 1 #[(0,.tmp d)],ty2,pos2,af2,none⟩::rest) (cA l ds) (bW s):=
 zeN .mk ht hq hp h hd hn
def alD {zs:List Value} (_h:NzF 2) (ho:ops[i]?=some ⟨some d,.build t parts.toArray,ty,pos,af,none⟩) (_h2:ops[i+1]?=some ⟨some d2,.buildSlice t2 1 #[(0,.tmp d)],ty2,pos2,af2,none⟩) (ht:lT P t zs pl) (hq:NzT P t zs z) (hp:parts.mapM (λp=>(bU l p.2).map λv=>(p.1,v))=some pv) (h:nW pl z pv=some out) (hc:(fO ⟨some d,.build t parts.toArray,ty,pos,af,none⟩,Nat.blt d n,F6 ops i (.agg out) [] bk)=(false,true,true)) (hn:pq P E n ops Q B L (⟨i,some d,[],none⟩::bk) (cA ((d,.agg out)::l) ds) (bW s)):pq P E n ops Q B (i::L) bk (cA l ds) (bW s):=zeD .mk ho ht hq hp h hc hn
def s6 {R:Type} (_k:List (List Nat)) (x:aI R):aI R:=x
def zgR {k:List (List Nat)} {x:aI R} (h:s6 k x=r) (hg:wF k E n l ds s l' s') (hn:x=r->SW P E n .ret Q (cA l' ds) (bW s')):SW P E n .ret Q (cA l ds) (bW s):=nY hg (hn h)
def Ω:List AV->Bool
 | []=>false
 | .pv (.sc (.slice none 0 0))::_=>true
 | .pv (.sc (.pointer none))::_=>true
 | _::l=>Ω l
def zR0 (h:(dJ s 0,Ω cs)=(some (.box cs),true)) (hn:SW P E n .ret Q (cA l ds) (bW ((0,.box (AV.V8 cs))::s))):SW P E n .ret Q (cA l ds) (bW s):=nY (Dc 0 (p1 h) rfl) hn
def zE2 {k:List (List Nat)} {x:aI R} (h:s6 k x=r):jk k x=r:=h
def alE {x:aI R} {zs:List Value} (h0:oj [[21,d]] x=r) (hE:∀ k,fu es k=true->E.fix k=none) (ht:nQ P t m e sz zs pl) (hT:ET e α C Cs sz) (h:parts.mapM (λp=>(bU l p.2).map λv=>(p.1,v))=some pv) (h2:nW pl (zs.map λv=>.pv (.sc v)) pv=some out) (h3:Im out=some cells) (h4:rV sz C cells xs) (hm:(xs.length,Nat.ble m 1000,fu es (100+d),mW (100+d) l,ko (100+d) ds,qb (100+d) s,Nat.blt d n)=(m,true,true,false,false,false,true)) (hn:x=r->SL P E n ops Q rest (cA ((d,.arr (100+d) xs.length)::l) ds) (bW ((100+d,.arr e sz (Cs xs))::s))):SL P E n ops Q (⟨some d,.buildSlice t m parts.toArray,ty,pos,af,none⟩::rest) (cA l ds) (bW s):=by
 unfold rV at h4;subst h4;exact aaE (100+d) xs hT.h hT.n (hE _ (p1 (p2 (p2 hm)))) Zj ⟨p1 (p2 (p2 (p2 hm))),p1 I8,p1 (p2 I8)⟩ (p2 (p2 I8)) (hn h0)
def alF {x:aI R} {zs:List Value} (h0:oj [[20,d]] x=r) (hE:∀ k,fu es k=true->E.fix k=none) (ho:ops[i]?=some ⟨some d,.buildSlice t m parts.toArray,ty,pos,af,none⟩) (ht:nQ P t m e sz zs pl) (hT:ET e α C Cs sz) (h:parts.mapM (λp=>(bU l p.2).map λv=>(p.1,v))=some pv) (h2:nW pl (zs.map λv=>.pv (.sc v)) pv=some out) (h3:Im out=some cells) (h4:rV sz C cells xs) (hm:(xs.length,Nat.ble m 1000,fu es (100+d),mW (100+d) l,ko (100+d) ds,qb (100+d) s,dJ s (100+d),fO ⟨some d,.buildSlice t m parts.toArray,ty,pos,af,none⟩,Nat.blt d n,nX (mK ops bk i),Am (100+d) bk)=(m,true,true,false,false,false,none,false,true,true,true)) (hn:x=r->pq P E n ops Q B L (⟨i,some d,[],some (100+d)⟩::bk) (cA ((d,.arr (100+d) xs.length)::l) ds) (bW ((100+d,.app e sz (Cs xs))::s))):pq P E n ops Q B (i::L) bk (cA l ds) (bW s):=by
 unfold rV at h4;subst h4;have q:=p2 (p2 (p2 hm));exact afq xs hT.h hT.n ho (xr rfl) (100+d) (hE _ (p1 (p2 (p2 hm)))) Zj ⟨p1 q,p1 (p2 q),p1 (p2 (p2 q)),p1 (p2 (p2 (p2 q)))⟩ ⟨p1 (p2 (p2 (p2 (p2 q)))),p1 (p2 (p2 (p2 (p2 (p2 q))))),p1 (p2 (p2 (p2 (p2 (p2 (p2 q)))))),p2 (p2 (p2 (p2 (p2 (p2 (p2 q))))))⟩ (hn h0)
def aju {i:BEq α} {b:α} (h1:(a !=b)=true) (h2:(a==b)=true):q:=by simp only[bne,h2] at h1;cases h1
def ajv {i:BEq α} {b:α} (h1:(a !=b)=false) (h2:(a==b)=false):q:=by simp only[bne,h2] at h1;cases h1
def YV {R:Type} (_L:List Nat) (_x _y:Nat) (v:aI R):aI R:=v
def alG {x y:Nat} {v:aI R} (h:YV L x y v=r) (hm:P.follows .mixedOrders=true) (EG:aeP ops L x y=true) (k:v=r->DX P E n ops (GN E n ds Q) x y L [] (cA l ds) (bW s)):SW P E n (.region id ops true) Q (cA l ds) (bW s):=Wc ds (H' L x y hm EG (k h))
def zNX {x y:Nat} (h1:DW P E n ops Q [x,y] bk (cA l ds) (bW s)) (h2:DW P E n ops Q [y,x] bk (cA l ds) (bW s)):DX P E n ops Q x y [] bk (cA l ds) (bW s):=⟨h1,h2⟩
def T4 (l:List (Nat×AV)):List Nat->List (Nat×AV)
 | []=>[]
 | i::is=>match mL l i with
  | some v=>(i,v)::T4 l is
  | none=>T4 l is
def X5 (s:List (Nat×cV)):List Nat->List (Nat×cV)
 | []=>[]
 | i::is=>match dJ s i with
  | some v=>(i,v)::X5 s is
  | none=>X5 s is
def aa7 {el:TypeId} (hE:∀ k,fu es k=true->E.fix k=none) (h:(fu es nm,(T4 l ks).length,(X5 s kn).length)=(true,ks.length,kn.length)) (_hl:xR l1 (T4 l ks)) (_hs:xR s1 (X5 s kn)) (h1:DO l l1 l1) (h2:F7 s s1 s1) (hm:(mW nm l1,ko nm ds,qb nm s1)=(false,false,false)):wF [[19,nm,sz,el],ks,kn] E n l ds s l1 ((nm,.app el sz [])::s1):=afm nm l1 s1 (hE _ (p1 h)) h1 h2 ⟨p1 hm,p1 (p2 hm),p2 (p2 hm)⟩
def enK {f:FuncId} (h:(match P.funcs[f]? with|some fn=>!(fn.name== "runtime.NumGoroutine")&&fn.body.isSome|none=>false)=true):Enters P f:=by
 intro a w;cases hf:P.funcs[f]? with
 | none=>rw[hf] at h;cases h
 | some fn=>
  rw[hf] at h
  simp only[bm,fD] at h
  have h1:=beq_eq_false_iff_ne.1 h.1
  have h2:fn.body≠none:=λe=>by rw[e] at h;exact ao h.2 dN
  simp[callFunc,cF,hf,h1,h2]
def ajw {kk:Nat} {X:List α} {z:α} [ht:P6 P t e sz] (hx:bU l x=some (.arr kk (List.length (X++[z])))) (hi:bU l ix=some (Sc (.int .i64 X.length))) :
 na P (.indexAddr t x ix) l ds s (.ptr kk ((List.length X:Int).toNat*sz)) []:=AP hx hi (Int.natCast_nonneg _) (aaH _ _)
class T5 (e:TypeId) (α:outParam Type) (x:outParam α):Prop where
 t:True
def alH {zs:List Value} (ho:ops[i]?=some ⟨some d,.buildSlice t 1 parts.toArray,ty,pos,af,none⟩) (ht:nQ P t 1 e sz zs pl) (_hz:T5 e α a) (hT:ET e α C Cs sz) (h:parts.mapM (λp=>(bU l p.2).map λv=>(p.1,v))=some pv) (h2:nW pl (zs.map λv=>.pv (.sc v)) pv=some out) (h3:(AV.V8 out,Ω out)=(([a].flatMap C).map .pv,true)) (hc:(fO ⟨some d,.buildSlice t 1 parts.toArray,ty,pos,af,none⟩,Nat.blt d n)=(false,true)) (hn:pq P E n ops Q B L (⟨i,some d,[],none⟩::bk) (cA ((d,.pv (.sl (List.length [a]) (Cs [a])))::l) ds) (bW s)):pq P E n ops Q B (i::L) bk (cA l ds) (bW s):=
 afs [a] hT.h ho (xr rfl) ⟨h,h2,p1 h3⟩ ⟨p1 hc,p2 hc⟩ hn
def ajx {q:Nat} {c:List AV} {vs:List PV} (ho:ops[i]?=some ⟨none,.store t x y,ty,pos,af,none⟩) (h:(bU l x,bU l y,v.jG)=(some (.ptr k ((List.length xs:Int).toNat*sz)),some v,some c)) (hk:dJ s k=some (.arr e q cells)) (hi:ET e α C Cs sz) (hq:(q,cells)=(sz,Cs (xs++[a]))) (ht:yR P t m) (hv:c.map AV.ajs=vs) (ha:vs=C a') (h2:(c,PV.p9 vs,vs.length,Nat.ble (0+vs.length) sz,nX bk)=(vs.map .pv,true,m,true,true)) (Fy:qR ops i ((k,.arr e sz (Cs (xs++[a'])))::ug k s) bk) (hn:pq P E n ops Q B L bk (cA l ds) (bW ((k,.arr e sz (Cs (xs++[a'])))::ug k s))):pq P E n ops Q B (i::L) bk (cA l ds) (bW s):=by
 have q1:=p1 hq;have q2:=p2 hq;subst q1;subst q2;refine afz (off:=0) xs ho ⟨hi.h,hi.n,Int.natCast_nonneg _,ψ _ _,p1 h,hk,p1 (p2 h),(p2 (p2 h)).trans (iP some (p1 h2)),p1 (p2 h2),ht.h,p1 (p2 (p2 h2)),p1 (p2 (p2 (p2 h2))),?_⟩ (p2 (p2 (p2 (p2 h2)))) ⟨Fy,hn⟩;have l1:=hi.n a;have l2:=hi.n a';rw[ha,List.take_zero,tN,Nat.zero_add,l2,<- l1,List.drop_length,my]
def aa8 {el:TypeId} (hj:(dJ s j,cs[off]?)=(some (.box cs),some (.arr k m))) (hk:dJ s k=some (.arr el sz cells)) (hi:ET el α C Cs sz) (hx:cells=Cs xs) (hm:m=List.length xs) (hs:cs.set off (.arr k xs.length)=lO):wF [[24,j,off]] E n l ds s l ((j,.box lO)::s):=afA j off (p1 hj) (p2 hj) hm hs
def ghK {R:Type} (_k:List Nat) (x:aI R):aI R:=x
variable {res:aI X} {kk:X->aI R} {V':X->AV} {C':X->List (Nat×cV)}
def zkK {C:X->List cV} {k0:List Nat} (hr:r≠.stuck) (h:ghK k0 (ag res kk)=r) (h1:(bU l f,zU l args)=(some (.fn kC first cap),some vs)) (_hL:Il (ksB s (first++vs++cap)) ks) (_hl:xR l1 (T4 l k0)) (hw:DO l l1 l1) (wu:Enters P kC) [hC:CT P kC fS es res V C] (hk:(first++vs++cap,AQ s ks,nodupB ks,P0 l1 ds s ks ks es,Nat.blt d n)=(AV.mh.ud (nth ks) fS,some (qd (nth ks) es),true,true,true)) (hF:FG E ks es) (hx:∀ x,((C x).length,qe (below ks.length) (C x),(V x).only (below ks.length),(V x).mh (nth ks),tK ks (qd (nth ks) (C x)))=(ks.length,true,true,V' x,C' x)) (hp:∀ p fr σ,fr.ds=ds->r=.ry p->Q (.panic p.av) fr σ) (oB:∀ x,kk x=r->SL P E n ops Q rest (cA ((d,V' x)::l1) ds) (bW (C' x++s))) :
  SL P E n ops Q (⟨some d,.call ⟨.value f,args.toArray,ts⟩,ty,pos,af,none⟩::rest) (cA l ds) (bW s):=
 ae4 l1 hw hr h ks wu hC ⟨p1 h1,p2 h1,p1 hk,p1 (p2 hk),p1 (p2 (p2 hk)),p1 IC,hF⟩ (p2 IC) (λx=>⟨p1 (hx x),p1 (p2 (hx x)),p1 Gp⟩) (λx=>⟨p1 (p2 Gp),p2 (p2 Gp)⟩) hp oB
def adE:List (Nat×cV)->List Nat
 | []=>[]
 | (k,.app _ _ [])::_=>[k]
 | (k,.arr _ _ [])::_=>[k]
 | _::s=>adE s
def zkN {C:X->List cV} (hr:r≠.stuck) (h:ag res kk=r) (h1:(bU l f,zU l args)=(some (.fn kC first cap),some vs)) (_hL:Il (ksB s (first++vs++cap)++adE s) ks) (wu:Enters P kC) [hC:CT P kC fS es res V C] (hk:(first++vs++cap,AQ s ks,nodupB ks,P0 l ds s ks ks es,Nat.blt d n)=(AV.mh.ud (nth ks) fS,some (qd (nth ks) es),true,true,true)) (hF:FG E ks es) (hx:∀ x,((C x).length,qe (below ks.length) (C x),(V x).only (below ks.length),(V x).mh (nth ks),tK ks (qd (nth ks) (C x)))=(ks.length,true,true,V' x,C' x)) (hp:∀ p fr σ,fr.ds=ds->r=.ry p->Q (.panic p.av) fr σ) (oB:∀ x,kk x=r->SL P E n ops Q rest (cA ((d,V' x)::l) ds) (bW (C' x++s))) :
 SL P E n ops Q (⟨some d,.call ⟨.value f,args.toArray,ts⟩,ty,pos,af,none⟩::rest) (cA l ds) (bW s):=zk hp hr h ks wu hC aeb hx oB
def zDh {k:List (List Nat)} {x:aI R} (h:oj k x=r) (hn:x=r->pq P E n ops Q B L bk fr σ):pq P E n ops Q B L bk fr σ:=hn h
variable {p:(X->aI R)->aI R}
def zMG {x y:Code} {j:X->aI R} {a b:List Nat} (h:iu 0 a b F H j p=r) (_hl:xR l1 (T4 l a)) (_hs:xR s1 (X5 s b)) (hy:∀ v,j v=r->SW P E n y Q (cA (F v++l1) ds) (bW (H v++s1))) (hx:∀ (j':X->aI R) (K:k9->fC->Prop),(∀ v l s,j' v=r->(gF l (F v++l1),gS s (H v++s1))=(gF (F v++l1) (F v++l1),gS (H v++s1) (H v++s1))->K (cA l ds) (bW s))->p j'=r->SW P E n x (BH K Q) (cA l ds) (bW s)):SW P E n (.seq x y) Q (cA l ds) (bW s):=zM h (λv=>F v++l1) (λv=>H v++s1) hy hx
def zMT {x y:Code} {j:X->aI R} {a b:List Nat} (h:iu (k+1) a b F H j p=r) (hx:∀ K:k9->fC->Prop,(∀ fr σ,SW P E n y Q fr σ->K fr σ)->iu k a b F H j p=r->SW P E n x (BH K Q) fr σ):SW P E n (.seq x y) Q fr σ:=bE λK hK=>hx K hK h
variable {body:(X->aI R)->X->aI R}
def zLG {c:Code} {v:X} {a b:List Nat} (hr:r≠.stuck) (h0:dz a b F H body m v=r) (_hl:xR l1 (T4 l a)) (_hs:xR s1 (X5 s b)) (h1:(gF l (F v++l1),gS s (H v++s1))=(gF (F v++l1) (F v++l1),gS (H v++s1) (H v++s1))) (hx:∀ (next:X->aI R) (v:X) (K:k9->fC->Prop),(∀ v l s,next v=r->(gF l (F v++l1),gS s (H v++s1))=(gF (F v++l1) (F v++l1),gS (H v++s1) (H v++s1))->K (cA l ds) (bW s))->body next v=r->SW P E n c (BH K Q) (cA (F v++l1) ds) (bW (H v++s1))) :
 SW P E n (.loop c) Q (cA l ds) (bW s):=zL hr h0 (λv=>F v++l1) (λv=>H v++s1) h1 hx
def À {el:TypeId} (hE:∀ k,fu es k=true->E.fix k=none) (h:(fu es nm,mW nm l,ko nm ds,qb nm s)=(true,false,false,false)):wF [[18,nm,sz,el]] E n l ds s l ((nm,.arr el sz [])::s):=
 Wl nm (hE _ (p1 h)) ⟨p1 (p2 h),p1 qz,p2 qz⟩
def zeQ {l:List β} {i:Int} {k:β->aI R} {x:β} (hr:r≠.stuck) (h:el l i k=r) (hx:l[i.toNat]?=some x) (c:k x=r->q):q:=by
 obtain ⟨y,a,b,d,e⟩:=aiR hr h;rw[hx] at d;cases d;exact c e
def ji {R:Type} (_n:Nat) (x:aI R):aI R:=x
def Bn {R:Type} (_n:Nat) (x:aI R):aI R:=x
def alI {x:aI R} (h:ji m x=r) (_hL:Il (List.range m) L) (hm:P.follows .mixedOrders=true) (EG:chk ops L=true) (k:x=r->DW P E n ops Q L [] fr σ):SW P E n (.region id ops true) Q fr σ:=sH L hm EG (k h)
def alJ {x:aI R} (h:Bn m x=r) (_hL:Il (List.range m) L) (hm:P.follows .mixedOrders=true) (EG:chk ops L=true) (k:x=r->DW P E n ops (GN E n ds Q) L [] (cA l ds) (bW s)):SW P E n (.region id ops true) Q (cA l ds) (bW s):=Wc ds (sH L hm EG (k h))
instance:Ξ ak.Cs ak.C 9:=⟨ak.ui,ak.vl⟩
instance:Ξ aK.Cs aK.C 11:=⟨aK.ui,aK.vl⟩
instance:Ξ bu.Cs bu.C 6:=⟨bu.ui,bu.vl⟩
instance:Ξ dF.Cs dF.C 3:=⟨dF.ui,dF.vl⟩
instance:Ξ aC.Cs aC.C 4:=⟨o8,o7⟩
instance:Ξ cB.Cs cB.C 3:=⟨cB.ui,cB.vl⟩
instance:Ξ bQ.Cs bQ.C 3:=⟨og,bQ.vl⟩
instance:Ξ Hk Cu8 1:=⟨Da,GP⟩
instance:Ξ Ik NK 1:=⟨NM,NL⟩
instance:Ξ gh X1 1:=⟨Rw,Rv⟩
instance:ET 38 ak ak.C ak.Cs 9:=⟨ak.ui,ak.vl,ak.BM⟩
instance:ET 43 aK aK.C aK.Cs 11:=⟨aK.ui,aK.vl,aK.BM⟩
instance:ET 156 bu bu.C bu.Cs 6:=⟨bu.ui,bu.vl,bu.BM⟩
instance:ET 58 dF dF.C dF.Cs 3:=⟨dF.ui,dF.vl,dF.BM⟩
instance:ET 62 aC aC.C aC.Cs 4:=⟨o8,o7,aC.BM⟩
instance:ET 192 cB cB.C cB.Cs 3:=⟨cB.ui,cB.vl,cB.BM⟩
instance:ET 9 ByS X1 gh 1:=⟨Rw,Rv,Θ⟩
instance:ET 5 Int Cu8 Hk 1:=⟨Da,GP,OO⟩
instance:ET 4 Bool NK Ik 1:=⟨NM,NL,X0⟩
instance:T5 38 ak (ak.mk 0 [] 0 [] [] [] [] [] 0):=⟨trivial⟩
instance:T5 156 bu (bu.mk 0 0 0 0 0 []):=⟨trivial⟩
def X6 {v0 v1 v2 v3 v4 v5 v6 v7 v8 m5 m6 m7} (h:c=[.sc (.int .i64 v0),.sc (Go.Abs.S v1),.sc (.int .i64 v2),.sc (Go.Abs.S v3),.sc (Go.Abs.S v4),.sl m5 (ak.Cs v5),.sl m6 (aK.Cs v6),.sl m7 (gh v7),.sc (.int .i64 v8)]) (hm:(0,m5,m6,m7)=(0,v5.length,v6.length,v7.length)):UpC ak.C c (ak.mk v0 v1 v2 v3 v4 v5 v6 v7 v8):=by cases hm;exact h.symm
def yj {r:List PV} {ys:List ak} {v0 v1 v2 v3 v4 v5 v6 v7 v8 m5 m6 m7} (h:(c.take 9,c.drop 9)=([.sc (.int .i64 v0),.sc (Go.Abs.S v1),.sc (.int .i64 v2),.sc (Go.Abs.S v3),.sc (Go.Abs.S v4),.sl m5 (ak.Cs v5),.sl m6 (aK.Cs v6),.sl m7 (gh v7),.sc (.int .i64 v8)],r)) (hm:(0,m5,m6,m7)=(0,v5.length,v6.length,v7.length)) (h2:rV 9 ak.C r ys):rV 9 ak.C c (ak.mk v0 v1 v2 v3 v4 v5 v6 v7 v8::ys):=by cases hm;exact DP h h2
def X7 {v0 v1 v2 v3 v4 v5 v6 v7 v8 v9 v10 m5 m6 m7 m8} (h:c=[.sc (.int .i64 v0),.sc (.int .i64 v1),.sc (Go.Abs.S v2),.sc (Go.Abs.S v3),.sc (Go.Abs.S v4),.sl m5 (ak.Cs v5),.sl m6 (aK.Cs v6),.sl m7 (gh v7),.sl m8 (gh v8),.sc (Go.Abs.S v9),.sc (.int .i64 v10)]) (hm:(0,m5,m6,m7,m8)=(0,v5.length,v6.length,v7.length,v8.length)):UpC aK.C c (aK.mk v0 v1 v2 v3 v4 v5 v6 v7 v8 v9 v10):=by cases hm;exact h.symm
def yk {r:List PV} {ys:List aK} {v0 v1 v2 v3 v4 v5 v6 v7 v8 v9 v10 m5 m6 m7 m8} (h:(c.take 11,c.drop 11)=([.sc (.int .i64 v0),.sc (.int .i64 v1),.sc (Go.Abs.S v2),.sc (Go.Abs.S v3),.sc (Go.Abs.S v4),.sl m5 (ak.Cs v5),.sl m6 (aK.Cs v6),.sl m7 (gh v7),.sl m8 (gh v8),.sc (Go.Abs.S v9),.sc (.int .i64 v10)],r)) (hm:(0,m5,m6,m7,m8)=(0,v5.length,v6.length,v7.length,v8.length)) (h2:rV 11 aK.C r ys):rV 11 aK.C c (aK.mk v0 v1 v2 v3 v4 v5 v6 v7 v8 v9 v10::ys):=by cases hm;exact DP h h2
def wG {r:List PV} {ys:List bu} {v0 v1 v2 v3 v4 v5 m5} (h:(c.take 6,c.drop 6)=([.sc (.int .i64 v0),.sc (.int .u64 v1),.sc (.int .u64 v2),.sc (.int .u64 v3),.sc (.int .u64 v4),.sl m5 (bu.Cs v5)],r)) (hm:(0,m5)=(0,v5.length)) (h2:rV 6 bu.C r ys):rV 6 bu.C c (bu.mk v0 v1 v2 v3 v4 v5::ys):=by cases hm;exact DP h h2
def vm {r:List PV} {ys:List dF} {v0 v1 v2} (h:(c.take 3,c.drop 3)=([.sc (Go.Abs.S v0),.sc (Go.Abs.S v1),.sc (.int .i64 v2)],r)) (hm:0=0) (h2:rV 3 dF.C r ys):rV 3 dF.C c (dF.mk v0 v1 v2::ys):=by cases hm;exact DP h h2
def T6 {v0 v1 v2 v3} (h:c=[.sc (.int .i64 v0),.sc (Go.Abs.S v1),.sc (.int .i64 v2),.sc (.int .i64 v3)]) (hm:0=0):UpC aC.C c (aC.mk v0 v1 v2 v3):=by cases hm;exact h.symm
def wH {r:List PV} {ys:List aC} {v0 v1 v2 v3} (h:(c.take 4,c.drop 4)=([.sc (.int .i64 v0),.sc (Go.Abs.S v1),.sc (.int .i64 v2),.sc (.int .i64 v3)],r)) (hm:0=0) (h2:rV 4 aC.C r ys):rV 4 aC.C c (aC.mk v0 v1 v2 v3::ys):=by cases hm;exact DP h h2
def rW {r:List PV} {ys:List bQ} {v0 v1 v2} (h:(c.take 3,c.drop 3)=([.sc (Go.Abs.S v0),.sc (.bool v1),.sc (.int .i64 v2)],r)) (hm:0=0) (h2:rV 3 bQ.C r ys):rV 3 bQ.C c (bQ.mk v0 v1 v2::ys):=by cases hm;exact DP h h2
def rX {r:List PV} {ys:List cB} {v0 v1 v2} (h:(c.take 3,c.drop 3)=([.sc (Go.Abs.S v0),.sc (.bool v1),.sc (.int .i64 v2)],r)) (hm:0=0) (h2:rV 3 cB.C r ys):rV 3 cB.C c (cB.mk v0 v1 v2::ys):=by cases hm;exact DP h h2
instance:NzT Pq 38 [.int .i64 0,eSt,.int .i64 0,eSt,eSt,.slice none 0 0,.slice none 0 0,.slice none 0 0,.int .i64 0] [I 0,eu [],I 0,eu [],eu [],.pv (.sl (List.length ([]:List ak)) (ak.Cs [])),.pv (.sl (List.length ([]:List aK)) (aK.Cs [])),.pv (.sl (List.length ([]:List ByS)) (gh [])),I 0]:=⟨ru.h,rfl⟩
instance:NzT Pq 43 [.int .i64 0,.int .i64 0,eSt,eSt,eSt,.slice none 0 0,.slice none 0 0,.slice none 0 0,.slice none 0 0,eSt,.int .i64 0] [I 0,I 0,eu [],eu [],eu [],.pv (.sl (List.length ([]:List ak)) (ak.Cs [])),.pv (.sl (List.length ([]:List aK)) (aK.Cs [])),.pv (.sl (List.length ([]:List ByS)) (gh [])),.pv (.sl (List.length ([]:List ByS)) (gh [])),eu [],I 0]:=⟨ru.h,rfl⟩
instance:NzT Pq 156 [.int .i64 0,.int .u64 0,.int .u64 0,.int .u64 0,.int .u64 0,.slice none 0 0] [I 0,Sc (.int .u64 0),Sc (.int .u64 0),Sc (.int .u64 0),Sc (.int .u64 0),.pv (.sl (List.length ([]:List bu)) (bu.Cs []))]:=⟨ru.h,rfl⟩
variable {l2:List (Nat×AV)} {s2:List (Nat×cV)}
def ghT (hE:∀ k,fu es k=true->E.fix k=none) {kk:List (List Nat)} (h:wF kk E n l ds s l2 s2:=by
 first
  | ((with_reducible apply afR hE);exact O;exact O;(repeat (first|exact xR.nil|apply xR.cons));(repeat (first|exact xR.nil|apply xR.cons)))
  | ((with_reducible apply aa1 hE);exact O;exact O;(repeat (first|exact xR.nil|apply xR.cons));(repeat (first|exact xR.nil|apply xR.cons)))
  | ((with_reducible apply aa2 hE);exact iI;exact O)
  | ((with_reducible apply Ρ hE);exact iI;exact O)
  | ((with_reducible apply Τ hE);exact iI;exact O;exact O;(repeat (first|exact xR.nil|apply xR.cons)))
  | ((with_reducible apply X3 hE);exact iI;exact O;exact O;(repeat (first|exact xR.nil|apply xR.cons)))
  | ((with_reducible apply ajr);exact O;(repeat (first|exact xR.nil|apply xR.cons)))
  | ((with_reducible apply afS);exact O;exact O;(repeat (first|exact xR.nil|apply xR.cons)))
  | ((with_reducible apply Υ hE);exact O;exact O;exact O;exact iI;exact O;(repeat (first|exact xR.nil|apply xR.cons)))
  | ((with_reducible apply aa4 hE);exact O;exact O;exact iI;exact O)
  | ((with_reducible apply X4);exact O;exact O;exact O;exact iI;exact O;(repeat (first|exact xR.nil|apply xR.cons)))
  | ((with_reducible apply Φ);exact O;exact O;exact iI;exact O)
  | ((with_reducible apply aa5 hE);exact O)
  | ((with_reducible apply À hE);exact O)
  | ((with_reducible apply aa6);exact O;exact O;exact iI;exact O;simp)
  | ((with_reducible apply aa7 hE);exact O;(repeat (first|exact xR.nil|apply xR.cons));(repeat (first|exact xR.nil|apply xR.cons));(repeat' (first|exact trivial|refine ⟨rfl,?_⟩));(repeat' (first|exact trivial|refine ⟨rfl,?_⟩));exact O)
  | ((with_reducible apply aa8);exact O;exact O;exact iI;exact O;simp;exact O)):wF kk E n l ds s l2 s2:=h
def ghU {kk:List (List Nat)} (h:wF kk E n l ds s l2 s2:=by
 first
  | ((with_reducible apply afT);exact rfl)
  | ((with_reducible apply aa3);exact rfl;(repeat (first|exact xR.nil|apply xR.cons)))):wF kk E n l ds s l2 s2:=h
def enT {f:FuncId} (h:Enters Pq f:=by exact enK (by kernel_rfl)):Enters Pq f:=h
def evT (h:na Pq op l ds s v rd:=by (first|((with_reducible apply TF)<;>exact aT)|((with_reducible apply Q7)<;>exact aT)|((with_reducible apply ajo)<;>(first|exact aT|exact nT vG|exact nF vG))|((with_reducible apply ajp)<;>(first|exact aT|exact nT vG|exact nF vG))|((with_reducible apply KJ)<;>exact aT)|((with_reducible apply aeI)<;>exact aT)|((with_reducible apply aeJ)<;>exact aT)|((with_reducible apply V3)<;>exact aT)|((with_reducible apply Ψ)<;>exact aT)|((with_reducible apply E')<;>exact aT)|((with_reducible apply aiD)<;>exact aT)|((with_reducible apply KK)<;>exact aT)|((with_reducible apply Zn)<;>exact aT)|((with_reducible apply aeK)<;>exact aT)|((with_reducible apply aeL)<;>exact aT)|((with_reducible apply ado)<;>exact aT)|((with_reducible apply Q8)<;>exact aT)|((with_reducible apply aiE)<;>exact aT)|((with_reducible apply aiF)<;>exact aT)|((with_reducible apply Nz)<;>exact aT)|((with_reducible apply adp)<;>exact aT)|((with_reducible apply aiG)<;>exact aT)|((with_reducible apply aeM)<;>exact aT)|((with_reducible apply ae0)<;>exact aT)|((with_reducible apply ae1)<;>exact aT)|((with_reducible apply ae2)<;>exact aT)|((with_reducible apply ajn)<;>exact aT)|((with_reducible apply AP)<;>exact aT)|((with_reducible apply ajw)<;>exact aT)|((with_reducible apply NA)<;>exact aT)|((with_reducible apply afP)<;>exact aT)|((with_reducible apply ajq)<;>exact aT)|((with_reducible apply aaW)<;>exact aT)|((with_reducible apply aaX)<;>exact aT)|((with_reducible apply KM)<;>exact aT)|((with_reducible apply OI)<;>exact aT)|((with_reducible apply Ra)<;>exact aT)|((with_reducible apply afh)<;>exact aT)|((with_reducible apply Δ)<;>exact aT)|((with_reducible apply F')<;>exact aT)|((with_reducible apply aiI)<;>exact aT)|((with_reducible apply aiJ)<;>exact aT)|((with_reducible apply GM)<;>exact aT)|((with_reducible apply Qr)<;>exact aT)|((with_reducible apply aad)<;>exact aT)|((with_reducible apply aae)<;>exact aT)|((with_reducible apply aaf)<;>exact aT)|((with_reducible apply aag)<;>exact aT)|((with_reducible apply aeY)<;>exact aT)|((with_reducible apply aeZ)<;>exact aT)|((with_reducible apply aiK)<;>exact aT)|((with_reducible apply aiL)<;>exact aT)|((with_reducible apply aan)<;>exact aT)|((with_reducible apply aax)<;>exact aT)|((with_reducible apply Wo)<;>exact aT)|((with_reducible apply aiX)<;>exact aT)|((with_reducible apply KS)<;>exact aT)|((with_reducible apply OK)<;>exact aT)|((with_reducible apply ae8)<;>exact aT)|((with_reducible apply ae9)<;>exact aT)|((with_reducible apply ae_)<;>exact aT)|((with_reducible apply afa)<;>exact aT)|((with_reducible apply afb)<;>exact aT)|((with_reducible apply ai1)<;>exact aT)|((with_reducible apply afc)<;>exact aT)|((with_reducible apply XU)<;>exact aT)|((with_reducible apply afd)<;>exact aT)|((with_reducible apply afe)<;>exact aT)|((with_reducible apply HQ)<;>exact aT)|((with_reducible apply aff)<;>exact aT)|((with_reducible apply Og)<;>exact aT)|((with_reducible apply afg)<;>exact aT)|((with_reducible apply adx)<;>exact aT)|((with_reducible apply afJ)<;>exact aT)|((with_reducible apply afI)<;>exact aT)|((with_reducible apply aje)<;>exact aT)|((with_reducible apply afF)<;>exact aT)|((with_reducible apply afG)<;>exact aT)|((with_reducible apply afH)<;>exact aT)|((with_reducible apply afN)<;>exact aT)|((with_reducible apply aaU);exact rfl;exact rfl;(repeat (first|apply IM.cons|exact IM.nil));exact rfl;assumption)|((with_reducible apply aaV);exact rfl;exact rfl;(repeat (first|apply IM.cons|exact IM.nil));exact rfl;assumption))):na Pq op l ds s v rd:=h
def evD (h:na Pq op l ds s v rd:=by first|((with_reducible apply afQ)<;>(first|exact rfl|infer_instance))|exact evT):na Pq op l ds s v rd:=h
theorem zz {f:FuncId} {args:List AV} {C:X->List cV} (nz:Nat) (hf:P.funcs[f]?=some fn) (h:Ν nz P fn args es res V C:=by
  refine ajm rfl λhz r hp h hr E hE=>?_
  repeat' (first
   | ((with_reducible apply zgR h);exact ghT hE;intro h)
   | ((with_reducible apply zgS h);exact ghT hE;intro h)
   | ((with_reducible apply zgN h);exact ghT hE;intro h)
   | ((with_reducible apply zgW h);exact ghT hE;intro h)
   | ((with_reducible apply zgT h);exact ghU;intro h)
   | ((with_reducible apply zgT (zE2 h));exact ghU;intro h)
   | ((with_reducible apply zbs h hE);exact iI;exact iI;exact O;exact O;exact O;(repeat (first|exact RZ rfl|(apply DP;exact rfl)|(apply yj;exact rfl;exact rfl)|(apply yk;exact rfl;exact rfl)|(apply wG;exact rfl;exact rfl)|(apply vm;exact rfl;exact rfl)|(apply wH;exact rfl;exact rfl)|(apply rW;exact rfl;exact rfl)|(apply rX;exact rfl;exact rfl)));exact O;intro h)
   | ((with_reducible apply alE h hE);exact iI;exact iI;exact O;exact O;exact O;(repeat (first|exact RZ rfl|(apply DP;exact rfl)|(apply yj;exact rfl;exact rfl)|(apply yk;exact rfl;exact rfl)|(apply wG;exact rfl;exact rfl)|(apply vm;exact rfl;exact rfl)|(apply wH;exact rfl;exact rfl)|(apply rW;exact rfl;exact rfl)|(apply rX;exact rfl;exact rfl)));exact O;intro h)
   | ((with_reducible apply alF h hE);exact O;exact iI;exact iI;exact O;exact O;exact O;(repeat (first|exact RZ rfl|(apply DP;exact rfl)|(apply yj;exact rfl;exact rfl)|(apply yk;exact rfl;exact rfl)|(apply wG;exact rfl;exact rfl)|(apply vm;exact rfl;exact rfl)|(apply wH;exact rfl;exact rfl)|(apply rW;exact rfl;exact rfl)|(apply rX;exact rfl;exact rfl)));exact O;intro h)
   | ((with_reducible apply zvw h);exact O;exact O;exact iI;exact O;intro h)
   | ((with_reducible apply zvl h);exact O;exact O;exact O;exact iI;exact O;intro h)
   | ((with_reducible apply zap hE);exact iI;exact iI;exact iI;exact O;exact O;exact O;exact O;exact O;assumption)
   | ((with_reducible apply alv hE);exact iI;exact iI;exact iI;exact O;exact O;exact O;exact O;exact O;assumption)
   | with_reducible refine zd hr h λ_ h=>?_
   | ((with_reducible apply zeQ hr h);assumption;intro h)
   | with_reducible refine ze hr h λ_ _ _ _ h=>?_
   | with_reducible refine zso hr h λ_ _ h=>?_
   | with_reducible refine zMF h (λ_ h=>?_) (λ_ _ _ h=>?_)
   | with_reducible refine zMS h (λ_ _ h=>?_)
   | ((with_reducible apply zMG h);(repeat (first|exact xR.nil|apply xR.cons));intro _ h;rotate_left;intro _ _ _ h)
   | with_reducible refine zMT h (λ_ _ h=>?_)
   | with_reducible refine bE λ_ _=>?_
   | with_reducible refine CC ?_
   | with_reducible refine χ ?_
   | with_reducible refine bB ?_
   | ((with_reducible refine zLF hr h ?_ (λ_ _ _ _ h=>?_));exact O)
   | ((with_reducible apply zLG hr h);(repeat (first|exact xR.nil|apply xR.cons));exact O;intro _ _ _ _ h)
   | ((with_reducible refine zDr h ?_ ?_ (λh=>?_));exact O;kernel_rfl)
   | ((with_reducible apply alI h);(repeat (first|apply Il.cons|exact Il.nil));exact O;kernel_rfl;intro h)
   | ((with_reducible apply alJ h);(repeat (first|apply Il.cons|exact Il.nil));exact O;kernel_rfl;intro h)
   | ((with_reducible refine alz h ?_ ?_ (λh=>?_));exact O;kernel_rfl)
   | ((with_reducible refine alG h ?_ ?_ (λh=>?_));exact O;kernel_rfl)
   | ((with_reducible apply zm);exact O)
   | ((with_reducible apply za);exact O)
   | ((with_reducible apply zn);exact O)
   | ((with_reducible apply zf);exact O)
   | ((with_reducible apply zl);exact O)
   | ((with_reducible apply zA);exact O)
   | ((with_reducible apply zc);exact O)
   | ((with_reducible apply zx);exact O)
   | ((with_reducible apply alC hz);exact iI;exact iI;exact O;exact O;exact O)
   | ((with_reducible apply zeN hz);exact iI;exact iI;exact O;exact O;exact O)
   | ((with_reducible apply zsN hz);exact iI;exact O;exact O)
   | ((with_reducible apply zs);exact O)
   | ((with_reducible apply alo hz hE);exact iI;exact O)
   | ((with_reducible apply zal hE);exact O)
   | ((with_reducible apply zbx hE);exact O)
   | ((with_reducible apply zu);exact O)
   | ((with_reducible apply alx);exact O;exact O;exact iI;exact O;assumption;assumption;exact iI;exact O;exact O;(first|(apply X7;exact rfl;exact rfl)|(apply T6;exact rfl;exact rfl)|(apply X6;exact rfl;exact rfl)))
   | ((with_reducible apply aly);exact iI;exact iI;exact iI;exact O)
   | ((with_reducible apply alk);exact O;exact O;(repeat (first|apply IM.cons|exact IM.nil));exact O;exact O;assumption)
   | ((with_reducible apply zfT);exact iI;exact iI;exact O;exact O;exact O;(repeat (first|exact RZ rfl|(apply DP;exact rfl)|(apply yj;exact rfl;exact rfl)|(apply yk;exact rfl;exact rfl)|(apply wG;exact rfl;exact rfl)|(apply vm;exact rfl;exact rfl)|(apply wH;exact rfl;exact rfl)|(apply rW;exact rfl;exact rfl)|(apply rX;exact rfl;exact rfl)));exact O)
   | ((with_reducible apply zfz);exact O;exact O;exact O;exact O)
   | ((with_reducible apply alm);exact O;(first|exact rfl|assumption|exact nT vG|exact nF vG|exact nT' vG|exact nF' vG);exact O;exact O;exact O;exact O)
   | ((with_reducible apply zg');exact O;(first|exact rfl|assumption))
   | ((with_reducible apply zG');exact O;(first|exact rfl|assumption);exact evT)
   | ((with_reducible apply zk' hr h);exact O;(repeat (first|apply Il.cons|exact Il.nil));exact enT;exact O;(focus repeat' (first|exact trivial|refine ⟨hE _ rfl,?_⟩));(first|exact λ_=>rfl|(intro _;refine T3 ?_ ?_ rfl;(first|exact Fp rfl|exact Dk rfl|exact AY|exact AZ);(first|exact Ij|exact Gx|exact Dj|exact BL)));exact hp;intro _ h)
   | ((with_reducible apply zkN hr h);exact O;(repeat (first|apply Il.cons|exact Il.nil));exact enT;exact O;(focus repeat' (first|exact trivial|refine ⟨hE _ rfl,?_⟩));(first|exact λ_=>rfl|(intro _;refine T3 ?_ ?_ rfl;(first|exact Fp rfl|exact Dk rfl|exact AY|exact AZ);(first|exact Ij|exact Gx|exact Dj|exact BL)));exact hp;intro _ h)
   | ((with_reducible apply zkK hr h);exact O;(repeat (first|apply Il.cons|exact Il.nil));(repeat (first|exact xR.nil|apply xR.cons));(repeat' (first|exact trivial|refine ⟨rfl,?_⟩));exact enT;exact O;(focus repeat' (first|exact trivial|refine ⟨hE _ rfl,?_⟩));(first|exact λ_=>rfl|(intro _;refine T3 ?_ ?_ rfl;(first|exact Fp rfl|exact Dk rfl|exact AY|exact AZ);(first|exact Ij|exact Gx|exact Dj|exact BL)));exact hp;intro _ h)
   | ((with_reducible apply zK' hr h);exact O;(first|exact rfl|assumption|exact nT vG|exact nF vG|exact nT' vG|exact nF' vG);exact O;(repeat (first|apply Il.cons|exact Il.nil));exact enT;exact O;(focus repeat' (first|exact trivial|refine ⟨hE _ rfl,?_⟩));(first|exact λ_=>rfl|(intro _;refine T3 ?_ ?_ rfl;(first|exact Fp rfl|exact Dk rfl|exact AY|exact AZ);(first|exact Ij|exact Gx|exact Dj|exact BL)));exact hp;intro _ h)
   | ((with_reducible apply zQ);assumption)
   | ((with_reducible apply zQj h);assumption;exact O)
   | ((with_reducible apply zSk);assumption)
   | ((with_reducible apply alq h);assumption;exact O)
   | ((with_reducible apply zLb);assumption)
   | ((with_reducible apply alp h);assumption;exact O)
   | ((with_reducible apply Kw);exact zY .nil h rfl)
   | ((with_reducible apply zEx);assumption)
   | ((with_reducible apply alr h);assumption;exact O)
   | ((with_reducible apply alj);exact O)
   | ((with_reducible apply fg);exact evT;exact O)
   | ((with_reducible apply zBt);exact O;(first|exact rfl|assumption))
   | ((with_reducible apply zBf);exact O;(first|exact rfl|assumption))
   | ((with_reducible refine zB ?_ h (λ_ h=>?_) (λ_ h=>?_));exact O)
   | ((with_reducible refine tc ?_);exact zRt rfl h rfl)
   | ((with_reducible refine tc ?_);apply zX (hg:=h);(repeat' (first|exact P4.nil|apply P4.cons|exact C5 rfl|exact tX rfl rfl rfl|exact JX rfl rfl));exact O)
   | ((with_reducible refine tc ?_);apply zXN (hg:=h);(repeat' (first|exact P4.nil|apply P4.cons|exact C5 rfl|exact tX rfl rfl rfl|exact JX rfl rfl));exact O)
   | ((with_reducible apply zR0);exact O)
   | ((with_reducible apply zPn);exact h;exact O;exact hp)
   | ((with_reducible apply tH);exact zY .nil h rfl)
   | ((with_reducible apply Ha);exact zY .nil h rfl)
   | ((with_reducible apply mR);exact zY .nil h rfl)
   | ((with_reducible apply alD hz);exact O;exact O;exact iI;exact iI;exact O;exact O;exact O)
   | ((with_reducible apply zeD hz);exact O;exact iI;exact iI;exact O;exact O;exact O)
   | ((with_reducible apply zD);exact O;exact evD;exact O)
   | ((with_reducible apply zdn);exact O;exact O;(first|exact rfl|assumption);exact O)
   | ((with_reducible apply zdg);exact O;exact O;(first|exact rfl|assumption);exact evD;exact O)
   | ((with_reducible apply zdu);exact O;exact O;exact O)
   | ((with_reducible apply alB hE);exact O;exact iI;exact iI;exact iI;exact O;exact O;exact O;exact O;exact O;assumption;(first|exact kW rfl|focus (apply qg;repeat' (first|exact trivial|exact .inr rfl|exact .inl rfl|refine ⟨_,rfl,oV ?_⟩|refine ⟨?_,?_⟩))))
   | ((with_reducible apply ajt hE);exact O;exact iI;exact iI;exact iI;exact O;exact O;exact O;exact O;exact O;assumption;(first|exact kW rfl|focus (apply qg;repeat' (first|exact trivial|exact .inr rfl|exact .inl rfl|refine ⟨_,rfl,oV ?_⟩|refine ⟨?_,?_⟩))))
   | ((with_reducible apply zda);exact O;exact O;(first|exact kW rfl|focus (apply qg;repeat' (first|exact trivial|exact .inr rfl|exact .inl rfl|refine ⟨_,rfl,oV ?_⟩|refine ⟨?_,?_⟩))))
   | ((with_reducible apply alA);exact O;exact O;(first|exact kW rfl|focus (apply qg;repeat' (first|exact trivial|exact .inr rfl|exact .inl rfl|refine ⟨_,rfl,oV ?_⟩|refine ⟨?_,?_⟩))))
   | ((with_reducible apply zds);exact O;exact iI;exact O;(first|exact kW rfl|focus (apply qg;repeat' (first|exact trivial|exact .inr rfl|exact .inl rfl|refine ⟨_,rfl,oV ?_⟩|refine ⟨?_,?_⟩))))
   | ((with_reducible apply alw);exact O;exact iI;exact O;(first|exact kW rfl|focus (apply qg;repeat' (first|exact trivial|exact .inr rfl|exact .inl rfl|refine ⟨_,rfl,oV ?_⟩|refine ⟨?_,?_⟩))))
   | ((with_reducible apply ajx);exact O;exact O;exact O;exact iI;exact O;exact iI;exact O;exact O;exact O;(first|exact kW rfl|focus (apply qg;repeat' (first|exact trivial|exact .inr rfl|exact .inl rfl|refine ⟨_,rfl,oV ?_⟩|refine ⟨?_,?_⟩))))
   | ((with_reducible apply alH);exact O;exact iI;exact iI;exact iI;exact O;exact O;exact O;exact O)
   | ((with_reducible apply zdT);exact O;exact iI;exact iI;exact O;exact O;exact O;(repeat (first|exact RZ rfl|(apply DP;exact rfl)|(apply yj;exact rfl;exact rfl)|(apply yk;exact rfl;exact rfl)|(apply wG;exact rfl;exact rfl)|(apply vm;exact rfl;exact rfl)|(apply wH;exact rfl;exact rfl)|(apply rW;exact rfl;exact rfl)|(apply rX;exact rfl;exact rfl)));exact O)
   | ((with_reducible apply zdf);exact O;exact iI;exact O;exact O;exact O;exact O)
   | ((with_reducible apply zdl hE);exact O;exact iI;exact O)
   | ((with_reducible apply zdc hr h);exact O;exact O;(repeat (first|apply Il.cons|exact Il.nil));exact enT;exact O;(focus repeat' (first|exact trivial|refine ⟨hE _ rfl,?_⟩));(first|exact λ_=>rfl|(intro _;refine T3 ?_ ?_ rfl;(first|exact Fp rfl|exact Dk rfl|exact AY|exact AZ);(first|exact Ij|exact Gx|exact Dj|exact BL)));(intro _;(first|exact kW rfl|focus (apply qg;repeat' (first|exact trivial|exact .inr rfl|exact .inl rfl|refine ⟨_,rfl,oV ?_⟩|refine ⟨?_,?_⟩))));exact hp;intro _ h)
   | ((with_reducible apply zdC hr h);exact O;exact O;(first|exact rfl|assumption);exact O;(repeat (first|apply Il.cons|exact Il.nil));exact enT;exact O;(focus repeat' (first|exact trivial|refine ⟨hE _ rfl,?_⟩));(first|exact λ_=>rfl|(intro _;refine T3 ?_ ?_ rfl;(first|exact Fp rfl|exact Dk rfl|exact AY|exact AZ);(first|exact Ij|exact Gx|exact Dj|exact BL)));(intro _;(first|exact kW rfl|focus (apply qg;repeat' (first|exact trivial|exact .inr rfl|exact .inl rfl|refine ⟨_,rfl,oV ?_⟩|refine ⟨?_,?_⟩))));exact hp;intro _ h)
   | ((with_reducible apply zdx);exact O;exact iI;exact O;exact O;(repeat (first|apply IM.cons|exact IM.nil));exact O;exact O;assumption;exact O)
   | ((with_reducible apply zdN);exact O;exact O;(first|exact rfl|assumption);exact O)
   | ((with_reducible apply zdU);exact O;exact O;exact O)
   | with_reducible apply zNX
   | with_reducible apply zGq
   | ((with_reducible apply zGg h);exact ghT hE;intro h)
   | ((with_reducible apply zGn);assumption)
   | ((with_reducible apply zGj h);assumption;exact O)
   | ((with_reducible apply zGr);exact zY .nil h rfl)
   | ((with_reducible apply zQn);assumption)
   | ((with_reducible apply AS);exact zY .nil h rfl)
   | ((with_reducible apply als h);assumption;exact O)
   | with_reducible refine zbb h (λ_ h=>?_) (λ_ h=>?_)
   | with_reducible refine zDh h (λh=>?_)
   | ((with_reducible apply zg');exact O;(first|exact nT vG|exact nF vG|exact nT' vG|exact nF' vG))
   | ((with_reducible apply zG');exact O;(first|exact nT vG|exact nF vG|exact nT' vG|exact nF' vG);exact evT)
   | ((with_reducible apply zBt);exact O;(first|exact nT vG|exact nF vG|exact nT' vG|exact nF' vG))
   | ((with_reducible apply zBf);exact O;(first|exact nT vG|exact nF vG|exact nT' vG|exact nF' vG))
   | ((with_reducible apply aju);assumption;assumption)
   | ((with_reducible apply ajv);assumption;assumption))):CT P f args es res V C:=by
 obtain ⟨c,hb,h⟩:=h
 exact zC hf hb h
end
end
end Go.Abs
