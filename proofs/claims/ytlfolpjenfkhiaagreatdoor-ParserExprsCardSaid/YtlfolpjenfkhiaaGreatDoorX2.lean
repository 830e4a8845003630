/- PROVED: lemmas of the proof of: configlanglaw26.ParserExprs returns true for every input. CONDITIONS: as each lemma states. -/
import Derived.Test.YtlfolpjenfkhiaaGreatDoorX1
import Derived.HandedShaped
import Derived.LaidMore
import Derived.Laws.Cover1
import Derived.Lay
import Derived.Lib.LaidU8
import Derived.OpenShut
import Derived.ProofKit
import Derived.SevenTiedAt
import Derived.Shelf.Slices.Turned
import Derived.Shelf.Small.Strs
import Derived.Shelf.Strconv.ErrVarParseInt
import Derived.Shelf.Strconv.Itoa3
import Derived.Shelf.Strings.Explode
import Derived.Shelf.Strings.LastIndexAll
import Derived.Shelf.Strings.Prefix
import Derived.Shelf.Strings.Shaped
import Derived.Shelf.Strings.SplitShaped
import Derived.Shelf.Unicode.DecodeAny
import Derived.Shelf.Utf8.RuneCount
import Derived.Test.YtlfolpjenfkhiaaGreatDoorProg
set_option linter.all false
namespace Go.Abs
open aG
section
def bN (m:Nat->Nat):Prop:=∀ N,∃ M,∀ i,M<=i->N<=m i
def bN.id:bN λi=>i:=λN=>⟨N,λ_ h=>h⟩
def mf:=@bN.id
variable {m:Nat->Nat}
def bN.pred (h:bN m):bN λi=>m i - 1:=λN=>
 let ⟨M,hM⟩:=h (N+1);⟨M,λi hi=>by have:=hM i hi;show N<=m i - 1;omega⟩
def aG.sat {α:Type} (r:aG α) (Q:α->Prop) (R:sT->Prop):Prop:=match r with
 | .stuck=>False
 | .ok a=>Q a
 | .qH p=>R p
def Ev {α:Type} (F:Nat->aG α) (Q:α->Prop) (R:sT->Prop):Prop:=∃ r:aG α,r.sat Q R/\∃ N,∀ i,N<=i->F i=r
section
variable {α β X:Type} {Q Q':α->Prop} {R R':sT->Prop} {Qb:β->Prop}
variable {a:α} {F:Nat->aG α} {x:X} {K:Nat->α->aG β}
def Ev.ok (h:Q a):Ev (λ_=>.ok a) Q R:=⟨.ok a,h,0,λ_ _=>rfl⟩
def aj:=@Ev.ok
def Ev.qH {p:sT} (h:R p):Ev (λ_=>(.qH p:aG α)) Q R:=⟨.qH p,h,0,λ_ _=>rfl⟩
def Ev.mono (h:Ev F Q' R') (hq:∀ a,Q' a->Q a) (hr:∀ p,R' p->R p):Ev F Q R:=by
 obtain ⟨r,h1,h2⟩:=h;refine ⟨r,?_,h2⟩;cases r with
 | stuck=>exact h1
 | ok a=>exact hq a h1
 | qH p=>exact hr p h1
def Ev.oB (h:Ev F Q' R) (hq:∀ a,Q' a->Q a):Ev F Q R:=h.mono hq λ_ q=>q
def Ev.bind (h:Ev F Q R') (hr:∀ p,R' p->R p) (hk:∀ a,Q a->Ev (λi=>K i a) Qb R):Ev (λi=>ag (F i) (K i)) Qb R:=by
 obtain ⟨r,h1,N,hN⟩:=h;cases r with
 | stuck=>exact h1.elim
 | ok a=>
  obtain ⟨r',h2,M,hM⟩:=hk a h1
  exact acr
 | qH p=>exact ⟨.qH p,hr p h1,N,λi hi=>by dsimp only;rw[hN i hi];rfl⟩
def qU:=@Ev.bind
def Ev.gZ (h:Ev F Q R) (hk:∀ a,Q a->Ev (λi=>K i a) Qb R):Ev (λi=>ag (F i) (K i)) Qb R:=qU h (λ_ q=>q) hk
def ai:=@Ev.gZ
def Ev.ι {x:aG α} (h:x=.ok a) (hk:Ev (λi=>K i a) Qb R):Ev (λi=>ag x (K i)) Qb R:=by
 subst h;exact hk
def bI:=@Ev.ι
def Ev.br {b:Bool} {G:Nat->aG α} (ht:b=true->Ev F Q R) (hf:b=false->Ev G Q R):Ev (λi=>aG.br b (F i) (G i)) Q R:=by
 cases b with
 | true=>exact ht rfl
 | false=>exact hf rfl
def ay:=@Ev.br
def Ev.gd {p:Prop} [Decidable p] (hp:p) (h:Ev F Q R):Ev (λi=>aG.gd p (F i)) Q R:=by
 have:(λi=>aG.gd p (F i))=F:=by funext i;simp[aG.gd,hp]
 rw[this];exact h
def dB:=@Ev.gd
variable {l:List X} {j:Int}
def Ev.el {K:Nat->X->aG α} (h0:0<=j) (h1:j<l.length) (h:∀ x,l[j.toNat]?=some x->Ev (λi=>K i x) Q R):Ev (λi=>aG.el l j (K i)) Q R:=by
 have h2:j.toNat<l.length:=by omega
 have:=h _ (aA h2);have he:(λi=>aG.el l j (K i))=λi=>K i l[j.toNat]:=by funext i;simp[aG.el,h0,aA h2]
 rw[he];exact this
def gL:=@Ev.el
def Ev.elx {K:Nat->X->aG α} (h0:0<=j) (hx:l[j.toNat]?=some x) (h:Ev (λi=>K i x) Q R):Ev (λi=>aG.el l j (K i)) Q R:=by
 have he:(λi=>aG.el l j (K i))=λi=>K i x:=by funext i;simp[aG.el,h0,hx]
 rw[he];exact h
def cR:=@Ev.elx
def Ev.some {o:Option X} {K:Nat->X->aG α} (hx:o=some x) (h:Ev (λi=>K i x) Q R):Ev (λi=>aG.some? o (K i)) Q R:=by subst hx;exact h
def Ev.jn {j:Nat->X->aG α} {p:Nat->(X->aG α)->aG α} (J:X->Prop) (hj:∀ v,J v->Ev (λi=>j i v) Q R)
 (hp:∀ j:Nat->X->aG α,(∀ v,J v->Ev (λi=>j i v) Q R)->Ev (λi=>p i (j i)) Q R):Ev (λi=>aG.jn (j i) (p i)) Q R:=hp j hj
def bD:=@Ev.jn
def Ev.grow (hm:bN m) (h:∀ m',bN m'->Ev (λi=>F (m' i+1)) Q R):Ev (λi=>F (m i)) Q R:=by
 obtain ⟨r,h1,N,hN⟩:=h _ hm.pred;obtain ⟨M,hM⟩:=hm 1;refine ⟨r,h1,N+M,λi hi=>?_⟩;have:=hN i aD;have h2:=hM i aD;simp only[Nat.sub_add_cancel h2] at this;exact this
def bV:=@Ev.grow
def Ev.iter {body:Nat->(X->aG α)->X->aG α} (hm:bN m) (I:X->Prop) (f:X->Nat) (h0:I x) (hb:∀ x,I x->∀ next:Nat->X->aG α,(∀ y,I y->f y<f x->Ev (λi=>next i y) Q R)->Ev (λi=>body i (next i) x) Q R) :
  Ev (λi=>aG.iter (body i) (m i) x) Q R:=by
 have key:∀ (k:Nat) (x:X) (m:Nat->Nat),bN m->I x->f x<k->Ev (λi=>aG.iter (body i) (m i) x) Q R:=by
  intro k
  induction k with
  | zero=>intro x m _ _ h;exact aw h Gn
  | succ k ih=>
   intro x m hm hx hk
   obtain ⟨r,h1,N,hN⟩:=hb x hx (λi=>aG.iter (body i) (m i - 1)) λy hy gR=>ih y _ hm.pred hy aD
   exact ahH
 exact key _ x m hm h0 ND
def bR:=@Ev.iter
def Ev.κ {H:Nat->sT->aG α} (h:Ev F Q R') (hh:∀ p,R' p->Ev (λi=>H i p) Q R):Ev (λi=>Ar (F i) (H i)) Q R:=by
 obtain ⟨r,h1,N,hN⟩:=h;cases r with
 | stuck=>exact h1.elim
 | ok a=>exact ⟨.ok a,h1,N,λi hi=>by dsimp only;rw[hN i hi];rfl⟩
 | qH p=>
  obtain ⟨r',h2,M,hM⟩:=hh p h1
  exact acr
def Ev.HU {T:TypeId} {v:Int} {K:Nat->Int->aG α} (h:Ev (λi=>K i v) Q R):Ev (λi=>Go.Abs.HU T ⟨T,[.sc (.int .i64 v)]⟩ (K i)) Q R:=by
 have:(λi=>Go.Abs.HU T ⟨T,[.sc (.int .i64 v)]⟩ (K i))=λi=>K i v:=by funext i;simp[Go.Abs.HU]
 rw[this];exact h
def Ev.get (h:Ev F Q λ_=>False):∃ a,Q a/\∃ N,∀ i,N<=i->F i=.ok a:=by
 obtain ⟨r,h1,h2⟩:=h;cases r with
 | stuck=>exact h1.elim
 | ok a=>exact ⟨a,h1,h2⟩
 | qH p=>exact h1.elim
def Ev.of_eq {r:aG α} {N:Nat} (h:∀ i,N<=i->F i=r) (hr:r.sat Q R):Ev F Q R:=⟨r,hr,N,h⟩
def nU:=@Ev.of_eq
end
end
end Go.Abs
namespace Go.Abs
open aG Go.RowKit
variable {E:Env} {b:Nat} {ys:List PV} {e:Int} {q:Nat->Bool} {f:Nat->Nat}
section
variable {g:Gh} {σ:fi} {w w':World}
def Vf.μ (h:Vf g w) (hb:w.heap.size<=b):g.G b=none:=by
 cases q:g.G b with
 | none=>rfl
 | some ys=>have:=h.lt q;omega
def wP.ac6 (h:g.G b=none):wP (λ_=>False) g (g.iB b ys):=by
 refine ⟨λ_ _=>rfl,λ_ _=>rfl,λc zs hc=>?_⟩;have:c≠b:=λq=>by subst q;rw[h] at hc;cases hc
 exact ⟨[],by simp[Gh.iB,this,hc]⟩
def Rel.below (h:Rel E g σ w) (hb:Below w.heap.size w w'):Rel E g σ w':=by
 have hs:=hb.size;refine { rU:=?_,inj:=h.inj,gl:=?_,apart:=h.apart,size:=jV h.size hs,yq:=?_,own:=h.own,fix:=h.fix,pP:=h.pP,g0:=h.g0,gn:=h.gn,os:=hb.os.trans h.os,out:=hb.output.trans h.out,tape:=hb.tape.trans h.tape,x:=?_ }
 ·intro k e hk;exact (h.rU k e hk).le (wP.refl (λ_=>False) g) (λq=>q) (λ_ _ _=>rfl) (λ_ q=>q.elim) (λb xH=>hb.block b ((h.rU k e hk).lt xH))
 ·intro b ys hG;obtain ⟨c,e,f,h1,h2,h3⟩:=h.gl b ys hG;exact ⟨c,e,f,by rw[hb.block b (h.gl.lt hG)];exact h1,h2,h3⟩
 ·intro b xH ho;rw[hb.block b (kO xH h.size)];exact h.yq b xH ho
 exact {
  Iq:=λb cs el fz h1=>let ⟨lj,h2,h3⟩:=h.x.Iq b cs el fz h1;⟨lj,by rw[hb.block b (A2 h2)];exact h2,h3⟩
  flat:=λk b cs el fz h0 h1 hf=>let ⟨lj,h2,h3⟩:=h.x.flat k b cs el fz h0 h1 hf;⟨lj,by rw[hb.block b (A2 h2)];exact h2,h3⟩
  set:=λb xH=>by
   have h1:=h.x.set b xH;have:E.wS.heap[b]?=some E.wS.heap[b]:=gv xH;rw[hb.block b (A2 (h1.trans this))];exact h1
  HC:=h.x.HC,hi:=h.x.hi,gf:=h.x.gf,wQ:=h.x.wQ,xw:=h.x.xw,wR:=h.x.wR,wT:=h.x.wT }
variable {cs:Array Value} {fz:Nat×Nat}
def Rel.aiw (h:Rel E g σ w) (Ff:E.w0.heap.size<=b) (hG:g.G b=none) (hk:∀ k,(σ k).isSome=true->g.ρ k≠some b) {el:TypeId} (hw:w.heap[b]?=some (.cells cs el fz)) (hl:ys.length<=cs.size) (hp:uF g ys (cs.toList.take ys.length)) :
  Rel E (g.iB b ys) σ w:=by
 have hle:wP (λ_=>False) g (g.iB b ys):=wP.ac6 hG
 refine { rU:=?_,inj:=h.inj,gl:=?_,apart:=?_,size:=h.size,yq:=h.yq,own:=h.own,fix:=h.fix,pP:=h.pP,g0:=?_,gn:=?_,os:=h.os,out:=h.out,tape:=h.tape,x:=?_ }
 ·intro k e FC
  exact (h.rU k e FC).le hle (λq=>q) (λc hc _=>by
   have:c≠b:=λq=>by subst q;exact hk k (by rw[FC];rfl) hc
   simp[Gh.iB,this]) (λ_ q=>q.elim) (λ_ _=>rfl)
 ·intro c zs hc
  by_cases q:c=b
  ·subst q
   simp[Gh.iB] at hc;subst hc
   exact ⟨cs,el,fz,hw,hl,hp.le hle⟩
  ·simp[Gh.iB,q] at hc
   obtain ⟨c',e,f,h1,h2,h3⟩:=h.gl c zs hc
   exact ⟨c',e,f,h1,h2,h3.le hle⟩
 ·intro k c e' FC hka hc
  have q:c≠b:=λq=>by subst q;exact hk k (by rw[FC];rfl) hc
  simp only[Gh.iB,q,if_false]
  exact h.apart k c e' FC hka hc
 ·intro c zs hc
  obtain ⟨us,h1⟩:=h.g0 c zs hc
  obtain ⟨vs,h2⟩:=hle.G c _ h1
  exact adI
 ·intro c zs hc
  by_cases q:c=b
  ·subst q;exact .inr (.inr Ff)
  ·simp[Gh.iB,q] at hc;exact h.gn c zs hc
 ·have hx:=h.x
  exact {
      Iq:=hx.Iq,flat:=hx.flat,set:=hx.set,HC:=hx.HC,hi:=hx.hi,gf:=hx.gf,wQ:=hx.wQ
      xw:=λk c hf=>by
       have:=hx.wQ k c hf
       have q:c≠b:=by omega
       simp only[Gh.iB,q,if_false];exact hx.xw k c hf
      wR:=hx.wR,wT:=hx.wT }
def Rel.grown (h:Rel E g σ w) (hb:Below w.heap.size w w') (Ff:w.heap.size<=b) {el:TypeId} (hw:w'.heap[b]?=some (.cells cs el fz)) (hl:ys.length<=cs.size) (hp:uF g ys (cs.toList.take ys.length)) :
  Rel E (g.iB b ys) σ w':=
 (h.below hb).aiw (jV h.size Ff) (h.gl.μ Ff) (λk hk q=>by have:=h.lt hk q;omega) hw hl hp
def Ix (w:World) (e:TypeId) (s:ByteArray):Below w.heap.size w (Lib.bytesWorld w e s):=
 ⟨rfl,rfl,rfl,by rw[Lib.bytesWorld_size];omega,λk hk=>Lib.bytesWorld_at_old w e s k hk⟩
end
def ofBytes (s:ByS):List Int:=s.map λb=>(b.toNat:Int)
def Na {g:Gh}:∀ l:ByS,uF g ((ofBytes l).flatMap λx=>[PV.sc (.int .u8 x)]) (l.map λb=>Value.int .u8 b.toNat)
 | []=>.nil
 | b::l=>.cons (.sc _) (Na l)
section
variable {P:Program} {n:Nat} {ops:Array Oper} {Q:gh} {rest:List Oper} {l:List (Nat×AV)} {ds:List (FuncId×List AV)} {s:List (Nat×cQ)}
 {ty:TypeId} {pos:String} {af:Array Edge}
variable {x:Operand}
def ae8 {d:Nat} {a b e:TypeId} {u:TypeDesc} {c:ByS} {Cs:List Int->List PV} [hs:ug P a u] [ht:ug P b (.slice e)] [he:ug P e (.int .u8)] (hx:bT l x=some (eu c)) (hC:∀ l,Cs l=l.flatMap λx=>[PV.sc (.int .u8 x)]) (hd:Nat.blt d n=true) (hn:SL P E n ops Q rest (cx ((d,.pv (.sl (ofBytes c).length (Cs (ofBytes c))))::l) ds) (bU s)):SL P E n ops Q (⟨some d,.convert a b x,ty,pos,af,none⟩::rest) (cx l ds) (bU s):=by
 refine qE rfl ?_;intro g act w K hR hF hK;have q:=hF.eval x;rw[dQ hx] at q;have hq:=q.gO;have oY:=Lib.run_convert_string_bytes w a b e ⟨c.toArray⟩ hs.h ht.h he.h;have hev:(execOp act.eval ⟨some d,.convert a b x,ty,pos,af,none⟩).run P w=.ok (.value (.slice (some ⟨w.heap.size,0,none⟩) (ByteArray.size ⟨c.toArray⟩) (grownCap w (ByteArray.size ⟨c.toArray⟩) 0 e))) (Lib.bytesWorld w e ⟨c.toArray⟩):=by
  simp only[execOp,hq];simp[S,oY]
 simp only[Oper.wp,hev,Oper.upon];have MT:ByteArray.size ⟨c.toArray⟩=c.length:=by simp[ByteArray.size]
 have NR:=Lib.bytesWorld_at_new w e ⟨c.toArray⟩;have SK:((ofBytes c).flatMap λx=>[PV.sc (.int .u8 x)]).length=c.length:=by
  rw[tu (sz:=1) (λ_=>rfl)];simp[ofBytes]
 have JY:(Lib.bytesCells w e ⟨c.toArray⟩).toList.take c.length=c.map λb=>Value.int .u8 b.toNat:=by
  simp[Lib.bytesCells]
 have kL:=hR.grown (Ix w e ⟨c.toArray⟩) BU NR (ys:=(ofBytes c).flatMap λx=>[PV.sc (.int .u8 x)]) (by rw[SK];simp[Lib.bytesCells]) (by rw[SK,JY];exact Na c);refine hK _ _ _ _ _ hn kL ((hF.le (nn:=λ_=>False) (wP.ac6 (hR.gl.μ BU)) λk q=>q.elim).put By ?_);rw[hC];have hcap:(ofBytes c).length<=grownCap w (ByteArray.size ⟨c.toArray⟩) 0 e:=by
  have:(ofBytes c).length=ByteArray.size ⟨c.toArray⟩:=by simp[ofBytes,MT]
  rw[this];exact grownCap_ge _ _ _ _
 have e2:ByteArray.size ⟨c.toArray⟩=(ofBytes c).length:=by simp[ofBytes,MT]
 rw[e2] at hcap ⊢;exact .pv (.sl w.heap.size ((ofBytes c).flatMap λx=>[PV.sc (.int .u8 x)]) 0 (ofBytes c).length _ _ JK bm (by rw[tW,ql]) hcap)
def Oi (e:Int):AV:=match e with
 | .ofNat 0=>Sc .nilIface
 | e=>.vu 208 (I e)
variable {T:TypeId}
def As {b:Bool}:(Oe T b).only q=true:=by cases b<;>rfl
def CQ {b:Bool}:(Oe T b).lO f=Oe T b:=by cases b<;>rfl
def Au:(Oi e).only q=true:=by unfold Oi;split<;>rfl
def Bf:(Oi e).lO f=Oi e:=by unfold Oi;split<;>rfl
variable {v:AV}
def CR (h:v.only q=true):(AV.lM [v,Oi e]).only q=true:=by simp[AV.only,AV.only.sS,h,Au]
def Ga:(AV.lM [v,Oi e]).lO f=.lM [v.lO f,Oi e]:=by simp[AV.lO,AV.lO.tB,Bf]
def V5 (h:e≠0):Oi e=.vu 208 (I e):=by
 unfold Oi;split
 ·exact JO
 rfl
def ν {xt yt:TypeId} [ht:Q4 P xt] (hx:bT l x=some (Oi e)):mH P (.binOp .neq xt x (.const .nilIface) yt) l ds s (Bo (e !=0)) []:=by
 by_cases h:e=0
 ·subst h;exact NJ hx
 rw[V5 h] at hx;have:(e !=0)=true:=by simpa using h
 rw[this];exact Hv hx rfl
end
end Go.Abs
namespace Go.Abs
variable {s rd:List (Nat×cQ)} {e:cQ} {k n off j:Nat} {E:Env} {ops:Array Oper} {α β:Type} {a c x f:Operand} {b want:Bool} {t:TypeId} {op:Op} {args:List Operand} {es:List cQ} {fn:Func} {q:Prop} {fr:kG} {σ:fi}
section
def O.{u} {α:Sort u} {a:α}:a=a:=rfl
def O2.{u0,u1} {a0:Sort u0} {a1:Sort u1} {b0:a0} {b1:a1}:b0=b0/\b1=b1:=uA
def O3.{u0,u1,u2} {a0:Sort u0} {a1:Sort u1} {a2:Sort u2} {b0:a0} {b1:a1} {b2:a2}:b0=b0/\b1=b1/\b2=b2:=JH
def O4.{u0,u1,u2,u3} {a0:Sort u0} {a1:Sort u1} {a2:Sort u2} {a3:Sort u3} {b0:a0} {b1:a1} {b2:a2} {b3:a3}:b0=b0/\b1=b1/\b2=b2/\b3=b3:=Tf
def O7.{u0,u1,u2,u3,u4,u5,u6} {a0:Sort u0} {a1:Sort u1} {a2:Sort u2} {a3:Sort u3} {a4:Sort u4} {a5:Sort u5} {a6:Sort u6} {b0:a0} {b1:a1} {b2:a2} {b3:a3} {b4:a4} {b5:a5} {b6:a6}:b0=b0/\b1=b1/\b2=b2/\b3=b3/\b4=b4/\b5=b5/\b6=b6:=⟨rfl,rfl,rfl,rfl,rfl,rfl,rfl⟩
def O8.{u0,u1,u2,u3,u4,u5,u6,u7} {a0:Sort u0} {a1:Sort u1} {a2:Sort u2} {a3:Sort u3} {a4:Sort u4} {a5:Sort u5} {a6:Sort u6} {a7:Sort u7} {b0:a0} {b1:a1} {b2:a2} {b3:a3} {b4:a4} {b5:a5} {b6:a6} {b7:a7}:b0=b0/\b1=b1/\b2=b2/\b3=b3/\b4=b4/\b5=b5/\b6=b6/\b7=b7:=⟨rfl,rfl,rfl,rfl,rfl,rfl,rfl,rfl⟩
open aG
section
variable {P:Program} {Q:gh} {rest:List Oper} {l:List (Nat×AV)} {ds:List (FuncId×List AV)}
 {ty:TypeId} {pos:String} {af:Array Edge} {d:Nat}
variable {v:AV} {m:Nat} {y:Operand} {vs:List AV} {g:Nat} {j5:FuncId} {fF:List AV} {first cap:List AV} {X R:Type} {res:aG X} {V:X->AV} {C:X->List cQ} {u:aG R} {H:AV->Prop} {r:aG R}
def p1 {a c:α} {b e:β} (h:(a,b)=(c,e)):a=c:=iy Prod.fst h
def p2 {a c:α} {b e:β} (h:(a,b)=(c,e)):b=e:=iy Prod.snd h
def zm (h:(bT l x,Nat.blt d n)=(some v,true)) (hn:SL P E n ops Q rest (cx ((d,v)::l) ds) (bU s)):SL P E n ops Q (⟨some d,.move x,ty,pos,af,none⟩::rest) (cx l ds) (bU s):=
 et (To (p1 h)) (p2 h) hn
def za (h:(bT l x,Nat.blt d n)=(some v,true)) (hn:SL P E n ops Q rest (cx ((d,v)::l) ds) (bU s)):SL P E n ops Q (⟨some d,.assign x,ty,pos,af,none⟩::rest) (cx l ds) (bU s):=
 et (QR (p1 h)) (p2 h) hn
def zn (h:(bT l x,Nat.blt d n)=(some (.ptr k off),true)) (hn:SL P E n ops Q rest (cx ((d,.ptr k off)::l) ds) (bU s)):SL P E n ops Q (⟨some d,.nilCheck x,ty,pos,af,none⟩::rest) (cx l ds) (bU s):=
 et (Kj (p1 h)) (p2 h) hn
def zf {f:Nat} [hf:T P t f m] (h:(bT l x,Nat.blt d n)=(some (.ptr k off),true)) (hn:SL P E n ops Q rest (cx ((d,.ptr k (off+m))::l) ds) (bU s)) :
 SL P E n ops Q (⟨some d,.fieldAddr t x f,ty,pos,af,none⟩::rest) (cx l ds) (bU s):=et (Ef (p1 h)) (p2 h) hn
def zl [ha:nX P t false] (h:(bT l x,dF s k,e.cells[off]?,Nat.blt d n)=(some (.ptr k off),some e,some v,true)) (hn:SL P E n ops Q rest (cx ((d,v)::l) ds) (bU s)):SL P E n ops Q (⟨some d,.load t x,ty,pos,af,none⟩::rest) (cx l ds) (bU s):=et (UD (p1 h) BT (p1 pY)) yY hn
def zA {cs:List AV} [ha:nX P t true] [hz:yn P t m] (h:(bT l x,dF s k,Nat.ble (off+m) e.cells.length,(e.cells.drop off).take m,Nat.blt d n)=(some (.ptr k off),some e,true,cs,true)) (hn:SL P E n ops Q rest (cx ((d,.agg cs)::l) ds) (bU s)):SL P E n ops Q (⟨some d,.load t x,ty,pos,af,none⟩::rest) (cx l ds) (bU s):=et (Y9 (p1 h) BT (p1 pY) (p1 yY)) BW hn
variable {xt yt:TypeId}
def zc {op:BinOp} {k:IntKind} {a b:Int} {r:Bool} (h:(bT l x,bT l y,ť op a b,Nat.blt d n)=(some (Sc (.int k a)),some (Sc (.int k b)),some r,true)) (hn:SL P E n ops Q rest (cx ((d,Bo r)::l) ds) (bU s)):SL P E n ops Q (⟨some d,.binOp op xt x y yt,ty,pos,af,none⟩::rest) (cx l ds) (bU s):=et (YV (p1 h) BT (p1 pY)) yY hn
def zy {b:Operand} {t:Bool} (ht:t=true) (h:(bT l c,bT l a,Nat.blt d n)=(some (Bo t),some v,true)) (hn:SL P E n ops Q rest (cx ((d,v)::l) ds) (bU s)) :
 SL P E n ops Q (⟨some d,.pick c a b,ty,pos,af,none⟩::rest) (cx l ds) (bU s):=et (VE ht (p1 h) BT) pY hn
def zw {b:Operand} {t:Bool} (ht:t=false) (h:(bT l c,bT l b,Nat.blt d n)=(some (Bo t),some v,true)) (hn:SL P E n ops Q rest (cx ((d,v)::l) ds) (bU s)) :
 SL P E n ops Q (⟨some d,.pick c a b,ty,pos,af,none⟩::rest) (cx l ds) (bU s):=et (VF ht (p1 h) BT) pY hn
def zt {b:Operand} (h:(bT l c,bT l a,Nat.blt d n)=(some (Bo true),some v,true)) (hn:SL P E n ops Q rest (cx ((d,v)::l) ds) (bU s)) :
 SL P E n ops Q (⟨some d,.pick c a b,ty,pos,af,none⟩::rest) (cx l ds) (bU s):=et (Vw (p1 h) BT) pY hn
def zo {a b:Int} (hg:-9223372036854775808<=a+b/\a+b<=9223372036854775807) (h:(bT l x,bT l y,Nat.blt d n)=(some (I a),some (I b),true)) (hn:SL P E n ops Q rest (cx ((d,I (a+b))::l) ds) (bU s)):SL P E n ops Q (⟨some d,.binOp .add xt x y yt,ty,pos,af,none⟩::rest) (cx l ds) (bU s):=et (acY (p1 h) BT hg) pY hn
def zx {i:Nat} (h:(bT l x,vs[i]?,Nat.blt d n)=(some (.lM vs),some v,true)) (hn:SL P E n ops Q rest (cx ((d,v)::l) ds) (bU s)) :
 SL P E n ops Q (⟨some d,.extract x i,ty,pos,af,none⟩::rest) (cx l ds) (bU s):=et (M2 (p1 h) BT) pY hn
def zg (hb:b = !want) (h:((ops[j]?).bind (·.dst),mj l g,Nat.blt d n)=(some g,some (Bo b),true)) (hn:SL P E n ops Q rest (cx ((d,Sc undef)::l) ds) (bU s)):SL P E n ops Q (⟨some d,op,ty,pos,af,some (j,want)⟩::rest) (cx l ds) (bU s):=ac1 hb ⟨p1 h,p1 (p2 h)⟩ pY hn
def ξ (ops:Array Oper) (n:Nat):Nat->List (Nat×AV)->List Oper->Option (List (Option AV×Bool)×List (Nat×AV)×List Oper)
 | 0,l,r=>some ([],l,r)
 | k+1,l,r=>match r with
  | ⟨some d,_,_,_,_,some (j,want)⟩::r=>match (ops[j]?).bind (·.dst),Nat.blt d n with
   | some g,true=>match ξ ops n k ((d,Sc undef)::l) r with
    | some (vs,x)=>some ((mj l g,want)::vs,x)
    | none=>none
   | _,_=>none
  | _=>none
def zH {w:Bool}:∀ (k:Nat) {l l':List (Nat×AV)} {r r':List Oper},ξ ops n k l r=some (List.replicate k (some (Bo b),w),l',r')->b = !w->SL P E n ops Q r' (cx l' ds) (bU s)->SL P E n ops Q r (cx l ds) (bU s)
 | 0,_,_,_,_,h,_,hn=>by cases h;exact hn
 | k+1,l,l',r,r',h,hb,hn=>by
  unfold ξ at h;split at h
  ·split at h
   ·rename_i g hj hd;split at h
    ·rename_i vs x hx;simp only[List.replicate_succ,Option.some.injEq,qR,vR] at h;obtain ⟨⟨⟨h1,rfl⟩,rfl⟩,rfl⟩:=h;exact ac1 hb ⟨hj,h1⟩ hd (zH k hx hb hn)
    cases h
   cases h
  cases h
def zG (hb:b=want) (h:((ops[j]?).bind (·.dst),mj l g,Nat.blt d n)=(some g,some (Bo b),true)) (he:mH P op l ds s v rd) (hn:SL P E n ops Q rest (cx ((d,v)::l) ds) (bU s)):SL P E n ops Q (⟨some d,op,ty,pos,af,some (j,want)⟩::rest) (cx l ds) (bU s):=aik hb ⟨p1 h,p1 (p2 h)⟩ he pY hn
def zu (h:((ops[j]?).bind (·.dst),mj l g,Nat.blt d n)=(some g,some (Sc undef),true)) (hn:SL P E n ops Q rest (cx ((d,Sc undef)::l) ds) (bU s)):SL P E n ops Q (⟨some d,op,ty,pos,af,some (j,want)⟩::rest) (cx l ds) (bU s):=aid ⟨p1 h,p1 (p2 h)⟩ pY hn
def zs {c:List AV} [ht:yn P t m] (h:(bT l x,dF s k,e.FG,bT l y,v.jl,AV.pq c,c.length,Nat.ble (off+c.length) e.cells.length)=(some (.ptr k off),some e,true,some v,some c,true,m,true)) (hn:SL P E n ops Q rest (cx l ds) (bU ((k,e.put off c)::s))):SL P E n ops Q (⟨none,.store t x y,ty,pos,af,none⟩::rest) (cx l ds) (bU s):=
 QW ⟨p1 h,p1 (p2 h),p1 pY,p1 yY,p1 BW,p1 DU,p1 A6,p2 A6⟩ (λ_ q=>q▸hn)
def Ra (E:Env) (ds:List (FuncId×List AV)) (l:List (Nat×AV)) (s:List (Nat×cQ)) (ks:List Nat) (f:Operand) (args:List Operand) (j5:FuncId) (fF:List AV) (es:List cQ) (first cap vs:List AV) (l':List (Nat×AV)) (d n:Nat):Prop:=
 (bT l f,yN l args,first++vs++cap,Al s ks,nodupB ks,PE l' ds s ks ks es,Fh E ks es,Nat.blt d n)=(some (.fn j5 first cap),some vs,AV.lO.tB (nth ks) fF,some (pA (nth ks) es),true,true,True,true)
variable {ks:List Nat} {l':List (Nat×AV)}
def Ra.ok (h:Ra E ds l s ks f args j5 fF es first cap vs l' d n) :
  vf E ds l s ks f args j5 fF es first cap vs l':=
 ⟨p1 h,p1 (p2 h),p1 pY,p1 yY,p1 BW,p1 DU,of_eq_true (p1 A6)⟩
def Ra.bl (h:Ra E ds l s ks f args j5 fF es first cap vs l' d n) :
 Nat.blt d n=true:=p2 A6
variable {kk:X->aG R} {V':X->AV} {C':X->List (Nat×cQ)} {ts:Array TypeId}
def zk (hp:∀ p fr σ,fr.ds=ds->r=.qH p->Q (.panic p.av) fr σ) (hr:r≠.stuck) (h:ag res kk=r) (ks:List Nat) (vN:Enters P j5) (hC:CT P j5 fF es res V C) (hk:(bT l f,yN l args,first++vs++cap,Al s ks,nodupB ks,PE l ds s ks ks es,Fh E ks es,Nat.blt d n)=(some (.fn j5 first cap),some vs,AV.lO.tB (nth ks) fF,some (pA (nth ks) es),true,true,True,true)) (hx:∀ x,((C x).length,pB (below ks.length) (C x),(V x).only (below ks.length),(V x).lO (nth ks),s8 ks (pA (nth ks) (C x)))=(ks.length,true,true,V' x,C' x)) (nP:∀ x,kk x=r->SL P E n ops Q rest (cx ((d,V' x)::l) ds) (bU (C' x++s))) :
  SL P E n ops Q (⟨some d,.call ⟨.value f,args.toArray,ts⟩,ty,pos,af,none⟩::rest) (cx l ds) (bU s):=
 GY hr h ks vN hC (Ra.ok (d:=d) (n:=n) hk) (Ra.bl hk) (λx=>⟨p1 (hx x),p1 (p2 (hx x)),p1 F0⟩) (λx=>⟨p1 (p2 F0),p2 (p2 F0)⟩) hp nP
def zK (hb:b=want) (hj:((ops[j]?).bind (·.dst),mj l g)=(some g,some (Bo b))) (hp:∀ p fr σ,fr.ds=ds->r=.qH p->Q (.panic p.av) fr σ) (hr:r≠.stuck) (h:ag res kk=r) (ks:List Nat) (vN:Enters P j5) (hC:CT P j5 fF es res V C) (hk:(bT l f,yN l args,first++vs++cap,Al s ks,nodupB ks,PE l ds s ks ks es,Fh E ks es,Nat.blt d n)=(some (.fn j5 first cap),some vs,AV.lO.tB (nth ks) fF,some (pA (nth ks) es),true,true,True,true)) (hx:∀ x,((C x).length,pB (below ks.length) (C x),(V x).only (below ks.length),(V x).lO (nth ks),s8 ks (pA (nth ks) (C x)))=(ks.length,true,true,V' x,C' x)) (nP:∀ x,kk x=r->SL P E n ops Q rest (cx ((d,V' x)::l) ds) (bU (C' x++s))) :
  SL P E n ops Q (⟨some d,.call ⟨.value f,args.toArray,ts⟩,ty,pos,af,some (j,want)⟩::rest) (cx l ds) (bU s):=
 Z8 hb ⟨p1 hj,p2 hj⟩ hr h ks vN hC (Ra.ok (d:=d) (n:=n) hk) (Ra.bl hk) (λx=>⟨p1 (hx x),p1 (p2 (hx x)),p1 F0⟩) (λx=>⟨p1 (p2 F0),p2 (p2 F0)⟩) hp nP
theorem zC {f:FuncId} {c:Code} {args:List AV} (hf:P.funcs[f]?=some fn) (hb:(fn.body,Nat.ble args.length fn.ntmps)=(some c,true)) (h:∀ r,(∀ p fr (σ:fi),fr.ds=[]->r=.qH p->vL P fn (yw V C (λx=>r=.ok x) (λv=>∃ p,r=.qH p/\v=p.av)) (.panic p.av) fr σ)->res=r->r≠.stuck->∀ E:Env,(∀ k,fc es k=true->E.fix k=none)->
   SW P E fn.ntmps c (vL P fn (yw V C (λx=>r=.ok x) (λv=>∃ p,r=.qH p/\v=p.av))) (cx ((List.range args.length).zip args) []) (bU (gi 0 es))):CT P f args es res V C:=
 Ŷ hf (p1 hb) (p2 hb) λr hr hs=>h r (λ_ _ _ hd hp=>Z9 hd hp) hr hs
def zB {x y:Code} {v:aG R} (hb:bT l c=some (Bo b)) (h:br b u v=r) (ht:b=true->u=r->SW P E n x Q (cx l ds) (bU s)) (hf:b=false->v=r->SW P E n y Q (cx l ds) (bU s)):SW P E n (.cond c x y) Q (cx l ds) (bU s):=
 GB hb (λq=>ht q (aep q h)) (λq=>hf q (aeq q h))
def zd {p:Prop} [Decidable p] {x:aG R} (hr:r≠.stuck) (h:gd p x=r) (k:p->x=r->q):q:=k (aer hr h).1 (aer hr h).2
def ze {l:List β} {i:Int} {k:β->aG R} (hr:r≠.stuck) (h:el l i k=r) (c:∀ x,0<=i->i<l.length->l[i.toNat]?=some x->k x=r->q):q:=
 let ⟨x,a,b,d,e⟩:=aii hr h;c x a b d e
def z1 {v:aG R} (hb:b=true) (h:br b u v=r) (k:u=r->q):q:=k (aep hb h)
def z2 {v:aG R} (hb:b=false) (h:br b u v=r) (k:v=r->q):q:=k (aeq hb h)
def zb (b:Bool) (h1:b=true->q) (h2:b=false->q):q:=by cases b;exact h2 rfl;exact h1 rfl
def gF (l:List (Nat×AV)):List (Nat×AV)->List (Option AV)
 | []=>[]
 | (i,_)::F=>mj l i::gF l F
def gS (s:List (Nat×cQ)):List (Nat×cQ)->List (Option cQ)
 | []=>[]
 | (i,_)::F=>dF s i::gS s F
def aap {l G:List (Nat×AV)}:∀ {F:List (Nat×AV)},gF l F=gF G F->Di l G F
 | [],_=>trivial
 | (_,_)::_,h=>⟨(o9 h).1,aap (o9 h).2⟩
def aaq {l G:List (Nat×cQ)}:∀ {F:List (Nat×cQ)},gS l F=gS G F->FI l G F
 | [],_=>trivial
 | (_,_)::_,h=>⟨(o9 h).1,aaq (o9 h).2⟩
def zM {x y:Code} {j:X->aG R} {p:(X->aG R)->aG R} (h:jn j p=r) (F:X->List (Nat×AV)) (H:X->List (Nat×cQ)) (hy:∀ v,j v=r->SW P E n y Q (cx (F v) ds) (bU (H v))) (hx:∀ (j':X->aG R) (K:kG->fi->Prop),(∀ v l s,j' v=r->(gF l (F v),gS s (H v))=(gF (F v) (F v),gS (H v) (H v))->K (cx l ds) (bU s))->p j'=r->SW P E n x (Bb K Q) (cx l ds) (bU s)):SW P E n (.seq x y) Q (cx l ds) (bU s):=
 ŷ F H (λv=>j v=r) hy (λK hK=>hx j K (λv l s a b=>hK v l s a (aap (p1 b)) (aaq (p2 b))) h)
def zL {c:Code} {body:(X->aG R)->X->aG R} {v:X} (hr:r≠.stuck) (h0:iter body m v=r) (F:X->List (Nat×AV)) (H:X->List (Nat×cQ)) (h1:(gF l (F v),gS s (H v))=(gF (F v) (F v),gS (H v) (H v))) (hx:∀ (next:X->aG R) (v:X) (K:kG->fi->Prop),(∀ v l s,next v=r->(gF l (F v),gS s (H v))=(gF (F v) (F v),gS (H v) (H v))->K (cx l ds) (bU s))->body next v=r->SW P E n c (Bb K Q) (cx (F v) ds) (bU (H v))) :
  SW P E n (.loop c) Q (cx l ds) (bU s):=
 Xo F H body r m v hr h0 (aap (p1 h1)) (aaq (p2 h1)) (λnext v K hK h=>hx next v K (λv l s a b=>hK v l s a (aap (p1 b)) (aaq (p2 b))) h)
def zQ {c:Code} {Q':gh} (k:∀ fr σ,SW P E n c Q' fr σ->Q .normal fr σ) (h:SW P E n c Q' fr σ):SL P E n ops Q [] fr σ:=rJ (k _ _ h)
def gM (s:List (Nat×cQ)):Nat->List cQ->List (Option cQ)
 | _,[]=>[]
 | i,_::es=>dF s i::gM s (i+1) es
def aar {s:List (Nat×cQ)}:∀ {es:List cQ} {i:Nat},gM s i es=es.map some->HO s i es
 | [],_,_=>trivial
 | _::_,_,h=>⟨(o9 h).1,aar (o9 h).2⟩
def zX {r:aG X} {x:X} (hr:PJ P (cx l []) (bU s) fn.results.toList vs) (hg:.ok x=r) (hm:(yu vs,gM s 0 (C x))=(V x,(C x).map some)) :
 vL P fn (yw V C (λx=>r=.ok x) H) .ret (cx l []) (bU s):=BS (.inl rfl) x hr hg.symm (p1 hm▸gT _) (aar (p2 hm))
def zRt {r:aG X} {x:X} {t:Nat} (h:(fn.results.toList,mj l t)=([.tmp t],some v)) (hg:.ok x=r) (hm:(v,gM s 0 (C x))=(V x,(C x).map some)) :
 vL P fn (yw V C (λx=>r=.ok x) H) .ret (cx l []) (bU s):=zX (vs:=[v]) (by rw[p1 h];exact .cons (CA (p2 h)) .nil) hg hm
def zY {r:aG X} {x:X} (hr:PJ P (cx l []) (bU s) fn.results.toList vs) (hg:.ok x=r) (hm:(yu vs,gM s 0 (C x))=(V x,(C x).map some)) :
 vL P fn (yw V C (λx=>r=.ok x) H) .normal (cx l []) (bU s):=BS (.inr rfl) x hr hg.symm (p1 hm▸gT _) (aar (p2 hm))
end
section
variable {P:Program} {Q:gh} {B:List Rec->kG->fi->Prop} {i:Nat} {L:List Nat} {bj:List Rec} {l:List (Nat×AV)} {ds:List (FuncId×List AV)}
 {ty:TypeId} {pos:String} {af:Array Edge} {d:Nat}
variable {v:AV} {m:Nat} {y:Operand} {vs:List AV} {g:Nat} {j5:FuncId} {fF:List AV} {first cap:List AV} {X R:Type} {res:aG X} {V:X->AV} {C:X->List cQ} {u:aG R} {H:AV->Prop} {r:aG R}
def zD (ho:ops[i]?=some ⟨some d,op,ty,pos,af,none⟩) (h:mH P op l ds s v rd) (hc:(fB ⟨some d,op,ty,pos,af,none⟩,Nat.blt d n,FH ops i v rd bj)=(false,true,true)) (hn:oN P E n ops Q B L (⟨i,some d,rd,none⟩::bj) (cx ((d,v)::l) ds) (bU s)):oN P E n ops Q B (i::L) bj (cx l ds) (bU s):=ac0 ho h ⟨p1 hc,p1 (p2 hc),p2 (p2 hc)⟩ hn
end
end
section
def AV.Bz:AV->Bool
 | .any|.oc=>true
 | .pv (.sc _)=>true
 | .pv _|.sp _=>false
 | .ptr ..|.arr ..=>true
 | .fn _ xs ys=>Kv xs&&Kv ys
 | .agg cs=>Kv cs
 | .lM cs=>Kv cs
 | .vu _ v=>v.Bz
where
 Kv:List AV->Bool
  | []=>true
  | x::xs=>x.Bz&&Kv xs
def PV.Rb:List PV->Bool
 | []=>true
 | .sc _::l=>Rb l
 | _::_=>false
mutual
def VR.Bz {g g':Gh} (hρ:g'.ρ=g.ρ) (hc:g'.cp=g.cp):∀ {x:AV} {c:Value},x.Bz=true->VR g x c->VR g' x c
 | .any,_,_,_=>.any _
 | .oc,_,_,h=>by cases h with|oc h=>exact .oc h
 | .pv (.sc v),_,_,h=>by cases h with|pv h=>cases h;exact .pv (.sc _)
 | .pv (.sl _ _),_,hs,_=>by simp[AV.Bz] at hs
 | .pv (.pt _),_,hs,_=>by simp[AV.Bz] at hs
 | .sp _,_,hs,_=>by simp[AV.Bz] at hs
 | .ptr k off,_,_,h=>by cases h with|ptr _ h=>exact .ptr off (by rw[hρ];exact h)
 | .arr k n,_,_,h=>by
  cases h with
  | arr _ h=>rw[<- hc];exact .arr n (by rw[hρ];exact h)
  | AS h=>exact .AS (by rw[hρ];exact h)
 | .fn f xs ys,_,hs,h=>by
  simp only[AV.Bz,bk] at hs;cases h with|fn _ hx hy=>exact .fn f (Y.Bz hρ hc hs.1 hx) (Y.Bz hρ hc hs.2 hy)
 | .agg xs,_,hs,h=>by cases h with|agg h=>exact .agg (Y.Bz hρ hc Zq h)
 | .lM xs,_,hs,h=>by cases h with|lM h=>exact .lM (Y.Bz hρ hc Zq h)
 | .vu t x,_,hs,h=>by cases h with|vu _ h=>exact .vu t (VR.Bz hρ hc Zq h)
def Y.Bz {g g':Gh} (hρ:g'.ρ=g.ρ) (hc:g'.cp=g.cp):∀ {x:List AV} {c:List Value},AV.Bz.Kv x=true->Y g x c->Y g' x c
 | [],_,_,h=>by cases h;exact .nil
 | x::xs,_,hs,h=>by
  simp only[AV.Bz.Kv,bk] at hs;cases h with|cons h t=>exact .cons (VR.Bz hρ hc hs.1 h) (Y.Bz hρ hc hs.2 t)
end
variable {g:Gh} {sz:Nat}
def uF.Rb {g':Gh}:∀ {l:List PV} {vs:List Value},PV.Rb l=true->uF g l vs->uF g' l vs
 | [],_,_,h=>by cases h;exact .nil
 | .sc v::l,_,hs,h=>by cases h with|cons h t=>cases h;exact .cons (.sc _) (uF.Rb (by simpa[PV.Rb] using hs) t)
 | .sl _ _::l,_,hs,_=>by simp[PV.Rb] at hs
 | .pt _::l,_,hs,_=>by simp[PV.Rb] at hs
variable {C:α->List PV}
def Rc (h:∀ x,PV.Rb (C x)=true):∀ l:List α,PV.Rb (l.flatMap C)=true
 | []=>rfl
 | x::l=>by
  have app:∀ a b:List PV,PV.Rb a=true->PV.Rb b=true->PV.Rb (a++b)=true:=by
   intro a
   induction a with
   | nil=>intro b _ h;exact h
   | cons p a ih=>
    intro b ha hb
    cases p with
    | sc v=>exact ih b (by simpa[PV.Rb] using ha) hb
    | sl _ _=>simp[PV.Rb] at ha
    | pt _=>simp[PV.Rb] at ha
  rw[fk];exact app _ _ (h x) (Rc h l)
def of1 {e':cQ} (h:bU (gi 0 [e]) k=some e'):k=0/\e'=e:=by
 obtain ⟨_,h2⟩:=o7 h;cases k with
 | zero=>simp at h2;exact ⟨rfl,h2.symm⟩
 | succ k=>simp at h2
def Rd (h:(bU (gi 0 [e]) k).isSome=true):k=0:=by
 cases q:bU (gi 0 [e]) k with
 | none=>rw[q] at h;cases h
 | some e'=>exact (of1 q).1
def ae9:bU (gi 0 [e]) 0=some e:=Ae (i:=0) (j:=0) rfl
def B8 {wS:World} {w:World} {el:TypeId} {cs:List PV}:(Env.of wS g (bU (gi 0 [.app el sz cs])) w).fix k=none/\(Env.of wS g (bU (gi 0 [.arr el sz cs])) w).fix k=none:=by
 constructor;all_goals
  simp only[Env.of]
  split
  ·rename_i q;have:=(of1 q).2;cases this
  ·rfl
theorem CT.akD {P:Program} {f:FuncId} {args:List AV} {X:Type} {res:aG X} {V:X->AV} {el:TypeId} {C:X->List PV} [h:CT P f args [.app el sz []] res V (λx=>[.app el sz (C x)])] (ha:∀ k,AV.iQ.ka k args=false) (hV:∀ x,(V x).Bz=true) (hC:∀ x,PV.Rb (C x)=true):CT P f args [.arr el sz []] res V (λx=>[.arr el sz (C x)]):=by
 refine ⟨λr hr hs wS g w vs hR hv=>?_⟩;have hR0:Rel (Env.of wS (g.unbind 0) (bU (gi 0 [.app el sz []])) w) (g.unbind 0) (bU (gi 0 [.app el sz []])) w:=by
  have hx:=hR.x;have hρ0:(g.unbind 0).ρ 0=none:=by simp[Gh.unbind]
  refine { rU:=λk e q=>?_,inj:=λk k' b q=>?_,gl:=?_,apart:=λk b e q=>?_,size:=ik _,yq:=λ_ _ _=>rfl,own:=λk b q hb=>.inl ⟨k,q,hb⟩,fix:=λk b q=>?_,pP:=λk b q=>rfl,g0:=λb ys q=>⟨[],by rw[l9];exact q⟩,gn:=λb ys q=>.inl q,os:=rfl,out:=rfl,tape:=rfl,x:=?_ }
  ·obtain ⟨rfl,rfl⟩:=of1 q;exact .IH hρ0
  ·have:=Rd q;subst this;intro _ hb;rw[hρ0] at hb;cases hb
  ·intro b ys hb;obtain ⟨cs,e,fz,h1,h2,h3⟩:=hR.gl b ys hb;exact ⟨cs,e,fz,h1,h2,sB (g:=g) (g':=g.unbind 0) (λ_ _ q=>q) h3⟩
  ·obtain ⟨rfl,rfl⟩:=of1 q;intro _ hb;rw[hρ0] at hb;cases hb
  ·rw[B8.1] at q;cases q
  exact { Iq:=λb cs el fz q=>⟨cs,q,rfl⟩,flat:=λk b cs el fz q=>by (rw[B8.1] at q;cases q),set:=hx.set,HC:=hx.HC,hi:=λk b q hb=>by (have:=Rd q;subst this;rw[hρ0] at hb;cases hb),gf:=hx.gf,wQ:=λk b q=>by (rw[B8.1] at q;cases q),xw:=λk b q=>by (rw[B8.1] at q;cases q),wR:=λk b k' q=>by (rw[B8.1] at q;cases q),wT:=λk b e q=>by (rw[B8.1] at q;cases q) }
 have hv0:Y (g.unbind 0) args vs:=hv.le (sI g 0) λk q=>by rw[q];exact ha 0
 have V6:∀ b,¬ (Env.of wS (g.unbind 0) (bU (gi 0 [.app el sz []])) w).own b:=λb ⟨k,q,hb⟩=>by
  have:=Rd q;subst this;simp[Gh.unbind] at hb
 refine (h.h r hr hs wS (g.unbind 0) w vs hR0 hv0).mono λe w' ⟨g',ae,σ',hRN,hE,kL⟩=>?_;rcases hRN with ⟨x,hx,rfl,rfl⟩|⟨v,hp,rfl,rfl⟩
 ·have gR:∀ b ys,g.G b=some ys->b<w.heap.size:=λb ys hb=>by
   obtain ⟨cs,e,fz,h1,_⟩:=hR.gl b ys hb;exact A2 h1
  have NR:∀ b,g'.ρ 0=some b->w.heap.size<=b:=λb hb=>by
   rcases kL.own 0 b (by rw[ae9];rfl) hb with q|q
   ·exact aw q (V6 b)
   exact q
  have hold:∀ b,b<w.heap.size->w'.heap[b]?=w.heap[b]?:=λb hb=>kL.yq b hb (V6 b);obtain ⟨g2,hg2⟩:∃ g2:Gh,g2=⟨g'.ρ,g'.cp,g.G⟩:=⟨_,rfl⟩;have e1:g2.ρ=g'.ρ:=by rw[hg2]
  have e2:g2.cp=g'.cp:=by rw[hg2]
  have e3:g2.G=g.G:=by rw[hg2]
  refine ⟨g2,.ret (V x),bU (gi 0 [.arr el sz (C x)]),.inl ⟨x,hx,rfl,rfl⟩,?_,?_⟩
  ·cases hE with
   | ret hv=>exact .ret (VR.Bz e1 e2 (hV x) hv)
  refine { rU:=λk e q=>?_,inj:=λk k' b q q' _ _=>(Rd q).trans (Rd q').symm,gl:=?_,apart:=λk b e q _ hb=>?_,size:=kL.size,yq:=λb hb _=>hold b hb,own:=λk b q hb=>?_,fix:=λk b q=>?_,pP:=λk b q=>?_,g0:=λb ys q=>⟨[],by rw[l9,e3];exact q⟩,gn:=λb ys q=>.inl (by rw[e3] at q;exact q),os:=kL.os,out:=kL.out,tape:=kL.tape,x:=?_ }
  ·obtain ⟨rfl,rfl⟩:=of1 q;have h0:=kL.rU 0 _ ae9;generalize hCx:C x=cells at h0;have hs:=hC x;rw[hCx] at hs;cases h0 with
   | IH h=>exact .AS (by rw[e1];exact h)
   | app h hG hw hl hz hm hc=>exact .arr (by rw[e1];exact h) hw hl Qk (by rw[e2];exact hm) (uF.Rb hs hc)
  ·intro b ys hb;rw[e3] at hb;obtain ⟨cs,e,fz,h1,h2,h3⟩:=hR.gl b ys hb;exact ⟨cs,e,fz,by rw[hold b (A2 h1)];exact h1,h2,sB (λ_ _ q=>by rw[e3];exact q) h3⟩
  ·have:=Rd (by rw[q];rfl:(bU (gi 0 [.arr el sz (C x)]) k).isSome=true);subst this;rw[e1] at hb;rw[e3];have h1:=NR b hb;cases hG:g.G b with
   | none=>rfl
   | some ys=>exact aw (gR b ys hG) aD
  ·have:=Rd q;subst this;rw[e1] at hb;exact .inr (NR b hb)
  ·rw[B8.2] at q;cases q
  ·rw[B8.2] at q;cases q
  have tn:=kL.x;exact { Iq:=tn.Iq,flat:=λk b cs el fz q=>by (rw[B8.2] at q;cases q),set:=tn.set,HC:=tn.HC,hi:=λk b q hb=>by (have:=Rd q;subst this;rw[e1] at hb;exact tn.hi 0 b (by rw[ae9];rfl) hb),gf:=tn.gf,wQ:=λk b q=>by (rw[B8.2] at q;cases q),xw:=λk b q=>by (rw[B8.2] at q;cases q),wR:=λk b k' q=>by (rw[B8.2] at q;cases q),wT:=λk b e q=>by (rw[B8.2] at q;cases q) }
 refine ⟨g',.panic v,bU [],.inr ⟨v,hp,rfl,rfl⟩,hE,?_⟩;have tn:=kL.x;exact { rU:=λk e q=>DQ,inj:=λk k' b q=>DQ,gl:=kL.gl,apart:=λk b e q=>DQ,size:=kL.size,yq:=λb hb _=>kL.yq b hb (V6 b),own:=λk b q=>DQ,fix:=λk b q=>(by rw[B8.2] at q;cases q),pP:=λk b q=>(by rw[B8.2] at q;cases q),g0:=kL.g0,gn:=λb ys q=>(kL.gn b ys q).imp_right λw=>.inr (w.resolve_left (V6 b)),os:=kL.os,out:=kL.out,tape:=kL.tape,x:={ Iq:=tn.Iq,flat:=λk b cs el fz q=>by (rw[B8.2] at q;cases q),set:=tn.set,HC:=tn.HC,hi:=λk b q=>DQ,gf:=tn.gf,wQ:=λk b q=>by (rw[B8.2] at q;cases q),xw:=λk b q=>by (rw[B8.2] at q;cases q),wR:=λk b k' q=>by (rw[B8.2] at q;cases q),wT:=λk b e q=>by (rw[B8.2] at q;cases q) } }
section
variable {P:Program} {l:List (Nat×AV)} {ds:List (FuncId×List AV)}
def ο {Cs:List α->List PV} {t el:TypeId} {x:Operand} {i o:Nat} {xs:List α} {a:α} {p:PV} [ht:nX P t false] (yo:∀ l,Cs l=l.flatMap C) (hC:∀ x,(C x).length=sz) (ha:xs[i]?=some a) (hx:bT l x=some (.ptr k (i*sz+o))) (hk:dF s k=some (.arr el sz (Cs xs))) (hp:(C a)[o]?=some p):mH P (.load t x) l ds s (.pv p) [(k,.arr el sz (Cs xs))]:=by
 refine UD hx hk ?_;simp only[cQ.cells];rw[eX,yo,<- dz,HR hC ha];have ho:o<(C a).length:=(ao.1 hp).1;rw[fE ho,hp];rfl
end
end
end Go.Abs
namespace Go.Abs
open aG
variable {j:Int} {p:Prop} {c:ByS}
def vM:ByS->ByS->Option Nat
 | [],sub=>if sub.isEmpty then some 0 else none
 | b::l,sub=>if sub.isPrefixOf (b::l) then some 0 else match vM l sub with|some i=>some (i+1)|none=>none
def yx (sep:ByS):Nat->ByS->List ByS
 | 0,s=>[s]
 | k+1,s=>match vM s sep with|none=>[s]|some i=>s.take i::yx sep k (s.drop (i+sep.length))
def xO:Nat->Nat->ByS
 | 0,_=>[]
 | f+1,u=>if u<10 then [UInt8.ofNat (48+u)] else xO f (u / 10)++[UInt8.ofNat (48+u % 10)]
def strings_Contains (a b:ByS):aG Bool:=gd (a.length<4294967281) (.ok (vM a b).isSome)
def strings_Split (a b:ByS):aG (List ByS):=gd (1<=b.length/\a.length<4294967281) (.ok (yx b (a.length+1) a))
def strings_LastIndex (a b:ByS):aG Int:=gd (a.length<4611686018427387904) (.ok (Lib.lastIndex a b))
def strings_Cut (a b:ByS):aG (ByS×ByS×Bool):=
 gd (a.length<4294967281) (.ok (match vM a b with|some i=>(a.take i,a.drop (i+b.length),true)|none=>(a,[],false)))
def strings_IndexByte (a:ByS) (b:Int):aG Int:=.ok (match a.findIdx? (·==UInt8.ofNat b.toNat) with|some i=>(i:Int)|none=>-1)
def nY (a b:Int):aG ByS:=gd (b=10/\0<=a/\a<18446744073709551616) (.ok (xO 20 a.toNat))
def tY (a:ByS) (b c:Int):aG (Int×Bool):=
 gd (b=10/\c=64/\a.length<=281474976710656) (.ok (match Lib.parseIntB 64 a with|.ok v=>(v,false)|Lib.NumEnd.syntax=>(0,true)|.range=>(Lib.intSat 64 a,true)))
def uS (fn s:ByS) (base bits e:Int):aG Bool:=gd ((e=1\/e=2)/\s.length<=281474976710656) (.ok true)
section
section
variable {α β X:Type} {Q Q':α->Prop} {R R':sT->Prop} {F G:Nat->aG α}
variable {l:List X} {K:Nat->X->aG α}
def Ev.gA [Decidable p] (h:Ev F Q R) (hp:p:=by first|omega|(simp[cD,ob,BR,maxLen]<;>omega)):Ev (λi=>aG.gd p (F i)) Q R:=dB hp h
def aF:=@Ev.gA
def Ev.eA (hk:∀ x,l[j.toNat]?=Option.some x->Ev (λi=>K i x) Q R) (h:0<=j/\j<l.length:=by first|omega|(simp[cD,ob,BR,maxLen]<;>omega)):Ev (λi=>aG.el l j (K i)) Q R:=gL h.1 h.2 hk
def W:=@Ev.eA
def Ev.ae_ [Decidable p] (ht:p->Ev F Q R) (hf:¬ p->Ev G Q R):Ev (λi=>aG.br (decide p) (F i) (G i)) Q R:=
 ay (λh=>ht Bx) (λh=>hf qk)
def aS:=@Ev.ae_
variable {a b:β}
def Ev.aiy [BEq β] [LawfulBEq β] (ht:a=b->Ev F Q R) (hf:a≠b->Ev G Q R):Ev (λi=>aG.br (a==b) (F i) (G i)) Q R:=
 ay (λh=>ht (cn.1 h)) (λh=>hf λe=>by subst e;simp at h)
def cd:=@Ev.aiy
def Ev.aiz [BEq β] [LawfulBEq β] (ht:a≠b->Ev F Q R) (hf:a=b->Ev G Q R):Ev (λi=>aG.br (a !=b) (F i) (G i)) Q R:=
 ay (λh=>ht λe=>by subst e;simp at h) (λh=>hf jk)
def kP:=@Ev.aiz
def Ev.afa {b:Bool} (ht:b=false->Ev F Q R) (hf:b=true->Ev G Q R):Ev (λi=>aG.br (!b) (F i) (G i)) Q R:=
 ay (λh=>ht jk) (λh=>hf jk)
def df:=@Ev.afa
class Nb (b:Bool) (p q:outParam Prop):Prop where
 t:b=true->p
 f:b=false->q
instance (priority:=low) {b:Bool}:Nb b (b=true) (b=false):=⟨id,id⟩
instance {p:Prop} [Decidable p]:Nb (decide p) p (¬ p):=⟨bg,aU⟩
instance [BEq β] [LawfulBEq β] {a b:β}:Nb (a==b) (a=b) (a≠b):=⟨cn.1,λh e=>by subst e;simp at h⟩
instance [BEq β] [LawfulBEq β] {a b:β}:Nb (a !=b) (a≠b) (a=b):=⟨λh e=>by subst e;simp at h,λh=>by simpa using h⟩
instance {b:Bool}:Nb (!b) (b=false) (b=true):=⟨λh=>by simpa using h,λh=>by simpa using h⟩
def Ev.brC {b:Bool} {q:Prop} [n:Nb b p q] (ht:p->Ev F Q R) (hf:q->Ev G Q R):Ev (λi=>aG.br b (F i) (G i)) Q R:=ay (λh=>ht (n.t h)) (λh=>hf (n.f h))
def dH:=@Ev.brC
def Ev.aiA (h:Ev F Q R):Ev (λi=>aG.br true (F i) (G i)) Q R:=h
def ba:=@Ev.aiA
def Ev.aiB (h:Ev G Q R):Ev (λi=>aG.br false (F i) (G i)) Q R:=h
def aH:=@Ev.aiB
def Ev.jnI {j:Nat->X->aG α} {p:Nat->(X->aG α)->aG α} (h:Ev (λi=>p i (j i)) Q R):Ev (λi=>aG.jn (j i) (p i)) Q R:=h
def cW:=@Ev.jnI
def Ev.aiC {K:Nat->α->aG β} {Qb:β->Prop} (h:Ev F Q λ_=>False) (hk:∀ a,Q a->Ev (λi=>K i a) Qb R):Ev (λi=>ag (F i) (K i)) Qb R:=
 qU h (λ_ q=>q.elim) hk
def dJ:=@Ev.aiC
end
variable {i:Int}
def ES (h0:0<=i) (h1:i<=j) (h2:j<=c.length):((sub c i j).length:Int)=j - i:=by
 simp only[sub,iT,gP];omega
def tZ (h0:0<=i) (h1:i<=c.length):((gp c i).length:Int)=c.length - i:=by
 simp only[gp,gP];omega
def Nc (h0:0<=j) (h1:j<=c.length):((sd c j).length:Int)=j:=by
 simp only[sd,iT];omega
def Kw:(sd c j).length<=c.length:=by simp only[sd,iT];omega
def Kx (sep:ByS):∀ (k:Nat) (s:ByS),(yx sep k s).length<=k+1
 | 0,_=>by simp[yx]
 | k+1,s=>by
  unfold yx;split
  ·simp
  have:=Kx sep k (s.drop (by assumption+sep.length));simp;omega
def Re:∀ (f u:Nat),(xO f u).length<=f
 | 0,_=>by simp[xO]
 | f+1,u=>by
  unfold xO;split
  ·simp
  have:=Re f (u / 10);simp;omega
def ς (f u:Nat):1<=(xO (f+1) u).length:=by
 unfold xO;split
 ·simp
 simp
def wrap_u64 (x:Int):0<=IntKind.wrap .u64 x/\IntKind.wrap .u64 x<18446744073709551616:=by
 exact ah0
def GZ (b:UInt8):(b.toNat:Int)<256:=by have:=b.toNat_lt;omega
end
end Go.Abs
namespace Go.Abs
def Cu8 (x:Int):List PV:=[.sc (.int .u8 x)]
def G1 (l:List Int):List PV:=l.flatMap Cu8
def Gr (x:Int):(Cu8 x).length=1:=rfl
def Oj (x:Int):PV.pq (Cu8 x)=true:=rfl
def CF (l:List Int):G1 l=l.flatMap Cu8:=rfl
def Nd (x:Bool):List PV:=[.sc (.bool x)]
def HX (l:List Bool):List PV:=l.flatMap Nd
def Ng (x:Bool):(Nd x).length=1:=rfl
def XE (x:Bool):PV.pq (Nd x)=true:=rfl
def Nh (l:List Bool):HX l=l.flatMap Nd:=rfl
def XG (x:ByS):List PV:=[.sc (S x)]
def hO (l:List ByS):List PV:=l.flatMap XG
def Rf (x:ByS):(XG x).length=1:=rfl
def τ (x:ByS):PV.pq (XG x)=true:=rfl
def Rg (l:List ByS):hO l=l.flatMap XG:=rfl
mutual
inductive ak where
 | mk (an:Int) (bJ:ByS) (U:Int) (B:ByS) (bE:ByS) (bF:(List ak)) (fS:(List aK)) (J:(List ByS)) (cG:Int)
inductive aK where
 | mk (an:Int) (cS:Int) (jb:ByS) (B:ByS) (bE:ByS) (bF:(List ak)) (jf:(List aK)) (J:(List ByS)) (oO:(List ByS)) (iG:ByS) (cG:Int)
end
def ak.an:ak->Int|.mk v _ _ _ _ _ _ _ _=>v
def ak.bJ:ak->ByS|.mk _ v _ _ _ _ _ _ _=>v
def ak.U:ak->Int|.mk _ _ v _ _ _ _ _ _=>v
def ak.B:ak->ByS|.mk _ _ _ v _ _ _ _ _=>v
def ak.bE:ak->ByS|.mk _ _ _ _ v _ _ _ _=>v
def ak.bF:ak->(List ak)|.mk _ _ _ _ _ v _ _ _=>v
def ak.fS:ak->(List aK)|.mk _ _ _ _ _ _ v _ _=>v
def ak.J:ak->(List ByS)|.mk _ _ _ _ _ _ _ v _=>v
def ak.cG:ak->Int|.mk _ _ _ _ _ _ _ _ v=>v
def aK.an:aK->Int|.mk v _ _ _ _ _ _ _ _ _ _=>v
def aK.cS:aK->Int|.mk _ v _ _ _ _ _ _ _ _ _=>v
def aK.jb:aK->ByS|.mk _ _ v _ _ _ _ _ _ _ _=>v
def aK.B:aK->ByS|.mk _ _ _ v _ _ _ _ _ _ _=>v
def aK.bE:aK->ByS|.mk _ _ _ _ v _ _ _ _ _ _=>v
def aK.bF:aK->(List ak)|.mk _ _ _ _ _ v _ _ _ _ _=>v
def aK.jf:aK->(List aK)|.mk _ _ _ _ _ _ v _ _ _ _=>v
def aK.J:aK->(List ByS)|.mk _ _ _ _ _ _ _ v _ _ _=>v
def aK.oO:aK->(List ByS)|.mk _ _ _ _ _ _ _ _ v _ _=>v
def aK.iG:aK->ByS|.mk _ _ _ _ _ _ _ _ _ v _=>v
def aK.cG:aK->Int|.mk _ _ _ _ _ _ _ _ _ _ v=>v
mutual
def ak.E:ak->List PV
 | .mk v0 v1 v2 v3 v4 v5 v6 v7 v8=>[.sc (.int .i64 v0),.sc (Go.Abs.S v1),.sc (.int .i64 v2),.sc (Go.Abs.S v3),.sc (Go.Abs.S v4),.sl v5.length (ak.Cs v5),.sl v6.length (aK.Cs v6),.sl v7.length (hO v7),.sc (.int .i64 v8)]
def ak.Cs:List ak->List PV
 | []=>[]
 | e::es=>e.E++ak.Cs es
def aK.E:aK->List PV
 | .mk v0 v1 v2 v3 v4 v5 v6 v7 v8 v9 v10=>[.sc (.int .i64 v0),.sc (.int .i64 v1),.sc (Go.Abs.S v2),.sc (Go.Abs.S v3),.sc (Go.Abs.S v4),.sl v5.length (ak.Cs v5),.sl v6.length (aK.Cs v6),.sl v7.length (hO v7),.sl v8.length (hO v8),.sc (Go.Abs.S v9),.sc (.int .i64 v10)]
def aK.Cs:List aK->List PV
 | []=>[]
 | e::es=>e.E++aK.Cs es
end
def ak.C (x:ak):List PV:=[.sc (.int .i64 x.an),.sc (Go.Abs.S x.bJ),.sc (.int .i64 x.U),.sc (Go.Abs.S x.B),.sc (Go.Abs.S x.bE),.sl x.bF.length (ak.Cs x.bF),.sl x.fS.length (aK.Cs x.fS),.sl x.J.length (hO x.J),.sc (.int .i64 x.cG)]
def ak.υ (x:ak):x.E=x.C:=by cases x;rfl
def ak.vW:∀ l:List ak,ak.Cs l=l.flatMap ak.C
 | []=>rfl
 | e::es=>by rw[fk,<- ak.vW es,<- e.υ];rfl
def oh:=@ak.vW
def ak.vX (x:ak):(ak.C x).length=9:=rfl
def rN:=@ak.vX
def ak.Bg (x:ak):PV.pq (ak.C x)=true:=rfl
def aK.C (x:aK):List PV:=[.sc (.int .i64 x.an),.sc (.int .i64 x.cS),.sc (Go.Abs.S x.jb),.sc (Go.Abs.S x.B),.sc (Go.Abs.S x.bE),.sl x.bF.length (ak.Cs x.bF),.sl x.jf.length (aK.Cs x.jf),.sl x.J.length (hO x.J),.sl x.oO.length (hO x.oO),.sc (Go.Abs.S x.iG),.sc (.int .i64 x.cG)]
def aK.υ (x:aK):x.E=x.C:=by cases x;rfl
def aK.vW:∀ l:List aK,aK.Cs l=l.flatMap aK.C
 | []=>rfl
 | e::es=>by rw[fk,<- aK.vW es,<- e.υ];rfl
def oj:=@aK.vW
def aK.vX (x:aK):(aK.C x).length=11:=rfl
def om:=@aK.vX
def aK.Bg (x:aK):PV.pq (aK.C x)=true:=rfl
mutual
inductive bh where
 | mk (an:Int) (Rh:Int) (Ri:Int) (Rj:Int) (Rk:Int) (bF:(List bh))
end
def bh.an:bh->Int|.mk v _ _ _ _ _=>v
def bh.Rh:bh->Int|.mk _ v _ _ _ _=>v
def bh.Ri:bh->Int|.mk _ _ v _ _ _=>v
def bh.Rj:bh->Int|.mk _ _ _ v _ _=>v
def bh.Rk:bh->Int|.mk _ _ _ _ v _=>v
def bh.bF:bh->(List bh)|.mk _ _ _ _ _ v=>v
mutual
def bh.E:bh->List PV
 | .mk v0 v1 v2 v3 v4 v5=>[.sc (.int .i64 v0),.sc (.int .u64 v1),.sc (.int .u64 v2),.sc (.int .u64 v3),.sc (.int .u64 v4),.sl v5.length (bh.Cs v5)]
def bh.Cs:List bh->List PV
 | []=>[]
 | e::es=>e.E++bh.Cs es
end
def bh.C (x:bh):List PV:=[.sc (.int .i64 x.an),.sc (.int .u64 x.Rh),.sc (.int .u64 x.Ri),.sc (.int .u64 x.Rj),.sc (.int .u64 x.Rk),.sl x.bF.length (bh.Cs x.bF)]
def bh.υ (x:bh):x.E=x.C:=by cases x;rfl
def bh.vW:∀ l:List bh,bh.Cs l=l.flatMap bh.C
 | []=>rfl
 | e::es=>by rw[fk,<- bh.vW es,<- e.υ];rfl
def bh.vX (x:bh):(bh.C x).length=6:=rfl
def bh.Bg (x:bh):PV.pq (bh.C x)=true:=rfl
structure fL where
 Name:ByS
 Path:ByS
 cG:Int
def fL.C (x:fL):List PV:=[.sc (Go.Abs.S x.Name),.sc (Go.Abs.S x.Path),.sc (.int .i64 x.cG)]
def fL.Cs (l:List fL):List PV:=l.flatMap fL.C
def fL.vX (x:fL):(fL.C x).length=3:=rfl
def fL.Bg (x:fL):PV.pq (fL.C x)=true:=rfl
def fL.vW (l:List fL):fL.Cs l=l.flatMap fL.C:=rfl
structure uG where
 ua:ByS
 rj:(List fL)
 fS:(List aK)
 J:(List ByS)
structure cZ where
 dX:Int
 At:Int
structure ma where
 x0:ByS
 x1:ByS
structure aB where
 an:Int
 bJ:ByS
 cG:Int
 oZ:Int
def aB.C (x:aB):List PV:=[.sc (.int .i64 x.an),.sc (Go.Abs.S x.bJ),.sc (.int .i64 x.cG),.sc (.int .i64 x.oZ)]
def aB.Cs (l:List aB):List PV:=l.flatMap aB.C
def aB.vX (x:aB):(aB.C x).length=4:=rfl
def oC:=@aB.vX
def aB.Bg (x:aB):PV.pq (aB.C x)=true:=rfl
def aB.vW (l:List aB):aB.Cs l=l.flatMap aB.C:=rfl
def oD:=@aB.vW
structure D where
 bM:ByS
 M:(List aB)
 bB:Int
 base:Int
 skip:Bool
 Z:(Option ak)
structure ah where
 s:ByS
 shift:Int
 l:(List aB)
 bB:Int
 skip:Bool
 iR:Int
 qW:Int
structure ey where
 bM:ByS
 bB:Int
 out:(List aB)
 line:Bool
structure rL where
 bB:Int
structure V where
 uf:Bool
 deep:Bool
structure cm where
 xP:Bool
 TF:Bool
 El:Bool
 level:Int
structure eb where
 x0:Int
 x1:Int
 x2:Int
 x3:Int
structure N where
 S:ByS
 At:Int
 lP:Bool
structure cy where
 bJ:ByS
 Code:Bool
 cG:Int
def cy.C (x:cy):List PV:=[.sc (Go.Abs.S x.bJ),.sc (.bool x.Code),.sc (.int .i64 x.cG)]
def cy.Cs (l:List cy):List PV:=l.flatMap cy.C
def cy.vX (x:cy):(cy.C x).length=3:=rfl
def cy.Bg (x:cy):PV.pq (cy.C x)=true:=rfl
def cy.vW (l:List cy):cy.Cs l=l.flatMap cy.C:=rfl
structure bP where
 bJ:ByS
 Code:Bool
 cG:Int
def bP.C (x:bP):List PV:=[.sc (Go.Abs.S x.bJ),.sc (.bool x.Code),.sc (.int .i64 x.cG)]
def bP.Cs (l:List bP):List PV:=l.flatMap bP.C
def bP.vX (x:bP):(bP.C x).length=3:=rfl
def bP.Bg (x:bP):PV.pq (bP.C x)=true:=rfl
def bP.vW (l:List bP):bP.Cs l=l.flatMap bP.C:=rfl
def nK:=@bP.vW
structure L where
 bM:ByS
 bB:Int
abbrev mw (x:eb):List AV:=[Sc (.int .u64 x.x0),Sc (.int .u64 x.x1),Sc (.int .u64 x.x2),Sc (.int .u64 x.x3)]
abbrev qo (x:aK):List AV:=[I x.an,I x.cS,eu x.jb,eu x.B,eu x.bE,.pv (.sl x.bF.length (ak.Cs x.bF)),.pv (.sl x.jf.length (aK.Cs x.jf)),.pv (.sl x.J.length (hO x.J)),.pv (.sl x.oO.length (hO x.oO)),eu x.iG,I x.cG]
abbrev Q (x:ak):List AV:=[I x.an,eu x.bJ,I x.U,eu x.B,eu x.bE,.pv (.sl x.bF.length (ak.Cs x.bF)),.pv (.sl x.fS.length (aK.Cs x.fS)),.pv (.sl x.J.length (hO x.J)),I x.cG]
abbrev En (x:uG):List AV:=[eu x.ua,.pv (.sl x.rj.length (fL.Cs x.rj)),.pv (.sl x.fS.length (aK.Cs x.fS)),.pv (.sl x.J.length (hO x.J))]
abbrev kK (x:bh):List AV:=[I x.an,Sc (.int .u64 x.Rh),Sc (.int .u64 x.Ri),Sc (.int .u64 x.Rj),Sc (.int .u64 x.Rk),.pv (.sl x.bF.length (bh.Cs x.bF))]
abbrev na (x:aB):List AV:=[I x.an,eu x.bJ,I x.cG,I x.oZ]
abbrev F (x:D):List AV:=[eu x.bM,.pv (.sl x.M.length (aB.Cs x.M)),I x.bB,I x.base,Bo x.skip,.pv (.pt (Option.map ak.C x.Z))]
abbrev dh (x:N):List AV:=[eu x.S,I x.At,Bo x.lP]
abbrev K (x:ah):List AV:=[eu x.s,I x.shift,.pv (.sl x.l.length (aB.Cs x.l)),I x.bB,Bo x.skip,I x.iR,I x.qW]
abbrev y (x:L):List AV:=[eu x.bM,I x.bB]
abbrev bX (x:V):List AV:=[Bo x.uf,Bo x.deep]
abbrev Bh (x:cm):List AV:=[Bo x.xP,Bo x.TF,Bo x.El,I x.level]
abbrev oE:List AV:=[I 0,eu [],I 0,eu [],eu [],nSl,nSl,nSl,I 0]
end Go.Abs
namespace Go.Abs
open Go.Proofs
noncomputable abbrev Pq:Program:=Tryz.prog
instance:Q4 Pq 20:=⟨⟨_,Tryz.underlying20⟩⟩
instance:Q4 Pq 129:=⟨⟨_,Tryz.underlying129⟩⟩
instance:yn Pq 2 1:={}
instance:nX Pq 2 false:={}
instance:ug Pq 2 (.int .i64):={}
instance:yn Pq 3 1:={}
instance:nX Pq 3 false:={}
instance:qG Pq 3 [.int .i64 0]:={}
instance:ug Pq 3 (.int .i64):={}
instance:yn Pq 4 1:={}
instance:nX Pq 4 false:={}
instance:qG Pq 4 [.bool false]:={}
instance:ug Pq 4 .bool:={}
instance:yn Pq 5 1:={}
instance:nX Pq 5 false:={}
instance:ug Pq 5 (.int .u8):={}
instance:yn Pq 9 1:={}
instance:nX Pq 9 false:={}
instance:ug Pq 9 .string:={}
instance:yn Pq 23 1:={}
instance:nX Pq 23 false:={}
instance:PL Pq 23 58 3:={}
instance:ug Pq 23 (.slice 58):={}
instance:yn Pq 24 1:={}
instance:nX Pq 24 false:={}
instance:qG Pq 24 [.slice none 0 0]:={}
instance:PL Pq 24 43 11:={}
instance:ug Pq 24 (.slice 43):={}
instance:yn Pq 25 1:={}
instance:nX Pq 25 false:={}
instance:qG Pq 25 [.slice none 0 0]:={}
instance:PL Pq 25 9 1:={}
instance:ug Pq 25 (.slice 9):={}
instance:yn Pq 27 4:={}
instance:nX Pq 27 true:={}
instance:qG Pq 27 [eSt,.slice none 0 0,.slice none 0 0,.slice none 0 0]:={}
instance:T Pq 27 0 0:={}
instance:T Pq 27 1 1:={}
instance:T Pq 27 2 2:={}
instance:T Pq 27 3 3:={}
instance:lr Pq 27 [eSt,.slice none 0 0,.slice none 0 0,.slice none 0 0] [(0,1),(1,1),(2,1),(3,1)]:={}
instance:nX Pq 28 false:={}
instance:ug Pq 28 (.int .i64):={}
instance:yn Pq 30 2:={}
instance:nX Pq 30 true:={}
instance:qG Pq 30 [.int .i64 0,.int .i64 0]:={}
instance:T Pq 30 0 0:={}
instance:T Pq 30 1 1:={}
instance:lr Pq 30 [.int .i64 0,.int .i64 0] [(0,1),(1,1)]:={}
instance:yn Pq 35 2:={}
instance:nX Pq 35 true:={}
instance:qG Pq 35 [eSt,eSt]:={}
instance:Z1 Pq 35 2 1:={}
instance:lr Pq 35 [eSt,eSt] [(0,1),(1,1)]:={}
instance:ug Pq 35 (.array 2 9):={}
instance:yn Pq 36 1:={}
instance:nX Pq 36 false:={}
instance:qG Pq 36 [.slice none 0 0]:={}
instance:PL Pq 36 38 9:={}
instance:ug Pq 36 (.slice 38):={}
instance:yn Pq 38 9:={}
instance:nX Pq 38 true:={}
instance:qG Pq 38 [.int .i64 0,eSt,.int .i64 0,eSt,eSt,.slice none 0 0,.slice none 0 0,.slice none 0 0,.int .i64 0]:={}
instance:T Pq 38 0 0:={}
instance:T Pq 38 1 1:={}
instance:T Pq 38 2 2:={}
instance:T Pq 38 3 3:={}
instance:T Pq 38 4 5:={}
instance:T Pq 38 5 6:={}
instance:T Pq 38 6 7:={}
instance:T Pq 38 7 8:={}
instance:lr Pq 38 [.int .i64 0,eSt,.int .i64 0,eSt,eSt,.slice none 0 0,.slice none 0 0,.slice none 0 0,.int .i64 0] [(0,1),(1,1),(2,1),(3,2),(5,1),(6,1),(7,1),(8,1)]:={}
instance:yn Pq 43 11:={}
instance:nX Pq 43 true:={}
instance:qG Pq 43 [.int .i64 0,.int .i64 0,eSt,eSt,eSt,.slice none 0 0,.slice none 0 0,.slice none 0 0,.slice none 0 0,eSt,.int .i64 0]:={}
instance:T Pq 43 0 0:={}
instance:T Pq 43 1 1:={}
instance:T Pq 43 2 2:={}
instance:T Pq 43 3 3:={}
instance:T Pq 43 4 5:={}
instance:T Pq 43 5 6:={}
instance:T Pq 43 6 7:={}
instance:T Pq 43 7 8:={}
instance:T Pq 43 8 9:={}
instance:T Pq 43 9 10:={}
instance:lr Pq 43 [.int .i64 0,.int .i64 0,eSt,eSt,eSt,.slice none 0 0,.slice none 0 0,.slice none 0 0,.slice none 0 0,eSt,.int .i64 0] [(0,1),(1,1),(2,1),(3,2),(5,1),(6,1),(7,1),(8,1),(9,1),(10,1)]:={}
instance:yn Pq 44 1:={}
instance:nX Pq 44 false:={}
instance:PL Pq 44 62 4:={}
instance:ug Pq 44 (.slice 62):={}
instance:nX Pq 48 false:={}
instance:yn Pq 49 1:={}
instance:nX Pq 49 false:={}
instance:ug Pq 49 (.pointer 38):={}
instance:T Pq 51 0 0:={}
instance:T Pq 51 1 1:={}
instance:T Pq 51 2 2:={}
instance:T Pq 51 3 3:={}
instance:T Pq 51 4 4:={}
instance:T Pq 51 5 5:={}
instance:lr Pq 51 [eSt,.slice none 0 0,.int .i64 0,.int .i64 0,.bool false,.pointer none] [(0,1),(1,1),(2,1),(3,1),(4,1),(5,1)]:={}
instance:T Pq 56 0 0:={}
instance:T Pq 56 1 1:={}
instance:T Pq 56 2 2:={}
instance:T Pq 56 3 3:={}
instance:T Pq 56 4 4:={}
instance:T Pq 56 5 5:={}
instance:lr Pq 56 [eSt,.int .i64 0,.slice none 0 0,.int .i64 0,.bool false,.int .i64 0,.int .i64 0] [(0,1),(1,1),(2,1),(3,1),(4,1),(5,2)]:={}
instance:yn Pq 58 3:={}
instance:nX Pq 58 true:={}
instance:qG Pq 58 [eSt,eSt,.int .i64 0]:={}
instance:T Pq 58 0 0:={}
instance:T Pq 58 1 1:={}
instance:lr Pq 58 [eSt,eSt,.int .i64 0] [(0,1),(1,1),(2,1)]:={}
instance:yn Pq 62 4:={}
instance:nX Pq 62 true:={}
instance:qG Pq 62 [.int .i64 0,eSt,.int .i64 0,.int .i64 0]:={}
instance:T Pq 62 0 0:={}
instance:Tff Pq 62 0 false:={}
instance:T Pq 62 1 1:={}
instance:Tff Pq 62 1 false:={}
instance:T Pq 62 2 2:={}
instance:Tff Pq 62 2 false:={}
instance:T Pq 62 3 3:={}
instance:lr Pq 62 [.int .i64 0,eSt,.int .i64 0,.int .i64 0] [(0,1),(1,1),(2,1),(3,1)]:={}
instance:T Pq 68 0 0:={}
instance:T Pq 68 1 1:={}
instance:T Pq 68 2 2:={}
instance:T Pq 68 3 3:={}
instance:lr Pq 68 [eSt,.int .i64 0,.slice none 0 0,.bool false] [(0,1),(1,1),(2,1),(3,1)]:={}
instance:yn Pq 71 1:={}
instance:n' Pq 71:={}
instance:qG Pq 71 [.int .i64 0]:={}
instance:T Pq 71 0 0:={}
instance:lr Pq 71 [.int .i64 0] [(0,1)]:={}
instance:T Pq 81 0 0:={}
instance:T Pq 81 1 1:={}
instance:lr Pq 81 [.bool false,.bool false] [(0,1),(1,1)]:={}
instance:yn Pq 98 4:={}
instance:nX Pq 98 true:={}
instance:T Pq 98 0 0:={}
instance:T Pq 98 1 1:={}
instance:T Pq 98 2 2:={}
instance:T Pq 98 3 3:={}
instance:lr Pq 98 [.bool false,.bool false,.bool false,.int .i64 0] [(0,1),(1,1),(2,1),(3,1)]:={}
instance:PL Pq 113 4 1:={}
instance:yn Pq 135 1:={}
instance:nX Pq 135 false:={}
instance:qG Pq 135 [.slice none 0 0]:={}
instance:PL Pq 135 174 3:={}
instance:ug Pq 135 (.slice 174):={}
instance:nX Pq 144 false:={}
instance:yn Pq 151 1:={}
instance:nX Pq 151 false:={}
instance:ug Pq 151 (.int .u64):={}
instance:yn Pq 153 4:={}
instance:nX Pq 153 true:={}
instance:qG Pq 153 [.int .u64 0,.int .u64 0,.int .u64 0,.int .u64 0]:={}
instance:Z1 Pq 153 4 1:={}
instance:lr Pq 153 [.int .u64 0,.int .u64 0,.int .u64 0,.int .u64 0] [(0,1),(1,1),(2,1),(3,1)]:={}
instance:ug Pq 153 (.array 4 151):={}
instance:yn Pq 154 1:={}
instance:nX Pq 154 false:={}
instance:qG Pq 154 [.slice none 0 0]:={}
instance:PL Pq 154 156 6:={}
instance:ug Pq 154 (.slice 156):={}
instance:yn Pq 156 6:={}
instance:nX Pq 156 true:={}
instance:qG Pq 156 [.int .i64 0,.int .u64 0,.int .u64 0,.int .u64 0,.int .u64 0,.slice none 0 0]:={}
instance:T Pq 156 0 0:={}
instance:T Pq 156 1 1:={}
instance:T Pq 156 2 5:={}
instance:lr Pq 156 [.int .i64 0,.int .u64 0,.int .u64 0,.int .u64 0,.int .u64 0,.slice none 0 0] [(0,1),(1,4),(5,1)]:={}
instance:PL Pq 160 192 3:={}
instance:ug Pq 160 (.slice 192):={}
instance:yn Pq 172 1:={}
instance:nX Pq 172 false:={}
instance:qG Pq 172 [.slice none 0 0]:={}
instance:PL Pq 172 5 1:={}
instance:ug Pq 172 (.slice 5):={}
instance:yn Pq 174 3:={}
instance:nX Pq 174 true:={}
instance:qG Pq 174 [eSt,.bool false,.int .i64 0]:={}
instance:T Pq 174 0 0:={}
instance:T Pq 174 1 1:={}
instance:T Pq 174 2 2:={}
instance:lr Pq 174 [eSt,.bool false,.int .i64 0] [(0,1),(1,1),(2,1)]:={}
instance:yn Pq 184 1:={}
instance:nX Pq 184 false:={}
instance:qG Pq 184 [.pointer none]:={}
instance:T Pq 186 0 0:={}
instance:T Pq 186 1 1:={}
instance:lr Pq 186 [eSt,.int .i64 0] [(0,1),(1,1)]:={}
instance:yn Pq 188 1:={}
instance:n' Pq 188:={}
instance:qG Pq 188 [.int .i64 0]:={}
instance:T Pq 188 0 0:={}
instance:lr Pq 188 [.int .i64 0] [(0,1)]:={}
instance:T Pq 192 0 0:={}
instance:T Pq 192 1 1:={}
instance:T Pq 192 2 2:={}
instance:lr Pq 192 [eSt,.bool false,.int .i64 0] [(0,1),(1,1),(2,1)]:={}
instance:T Pq 202 0 0:={}
instance:T Pq 202 1 1:={}
instance:T Pq 202 2 2:={}
instance:lr Pq 202 [eSt,.int .i64 0,.bool false] [(0,1),(1,1),(2,1)]:={}
instance:ug Pq 207 (.int .u64):={}
instance:n' Pq 208:={}
instance:lr Pq 259 [.int .u8 0,.int .u8 0] [(0,1),(1,1)]:={}
instance:ug Pq 259 (.array 2 5):={}
instance:tD Pq 5 1 1:={}
instance:tD Pq 9 1 16:={}
instance:tD Pq 38 9 144:={}
instance:tD Pq 43 11 184:={}
instance:tD Pq 58 3 40:={}
instance:tD Pq 62 4 40:={}
instance:tD Pq 156 6 64:={}
instance:tD Pq 174 3 32:={}
instance:tD Pq 192 3 32:={}
instance:ng Pq 23 1 58 3 [eSt,eSt,.int .i64 0] [(0,3)]:={}
instance:ng Pq 24 1 43 11 [.int .i64 0,.int .i64 0,eSt,eSt,eSt,.slice none 0 0,.slice none 0 0,.slice none 0 0,.slice none 0 0,eSt,.int .i64 0] [(0,11)]:={}
instance:ng Pq 25 1 9 1 [eSt] [(0,1)]:={}
instance:ng Pq 25 2 9 1 [eSt,eSt] [(0,1),(1,1)]:={}
instance:ng Pq 25 3 9 1 [eSt,eSt,eSt] [(0,1),(1,1),(2,1)]:={}
instance:ng Pq 25 5 9 1 [eSt,eSt,eSt,eSt,eSt] [(0,1),(1,1),(2,1),(3,1),(4,1)]:={}
instance:ng Pq 25 6 9 1 [eSt,eSt,eSt,eSt,eSt,eSt] [(0,1),(1,1),(2,1),(3,1),(4,1),(5,1)]:={}
instance:ng Pq 25 7 9 1 [eSt,eSt,eSt,eSt,eSt,eSt,eSt] [(0,1),(1,1),(2,1),(3,1),(4,1),(5,1),(6,1)]:={}
instance:ng Pq 25 13 9 1 [eSt,eSt,eSt,eSt,eSt,eSt,eSt,eSt,eSt,eSt,eSt,eSt,eSt] [(0,1),(1,1),(2,1),(3,1),(4,1),(5,1),(6,1),(7,1),(8,1),(9,1),(10,1),(11,1),(12,1)]:={}
instance:ng Pq 25 32 9 1 [eSt,eSt,eSt,eSt,eSt,eSt,eSt,eSt,eSt,eSt,eSt,eSt,eSt,eSt,eSt,eSt,eSt,eSt,eSt,eSt,eSt,eSt,eSt,eSt,eSt,eSt,eSt,eSt,eSt,eSt,eSt,eSt] [(0,1),(1,1),(2,1),(3,1),(4,1),(5,1),(6,1),(7,1),(8,1),(9,1),(10,1),(11,1),(12,1),(13,1),(14,1),(15,1),(16,1),(17,1),(18,1),(19,1),(20,1),(21,1),(22,1),(23,1),(24,1),(25,1),(26,1),(27,1),(28,1),(29,1),(30,1),(31,1)]:={}
instance:ng Pq 36 1 38 9 [.int .i64 0,eSt,.int .i64 0,eSt,eSt,.slice none 0 0,.slice none 0 0,.slice none 0 0,.int .i64 0] [(0,9)]:={}
instance:ng Pq 36 2 38 9 [.int .i64 0,eSt,.int .i64 0,eSt,eSt,.slice none 0 0,.slice none 0 0,.slice none 0 0,.int .i64 0,.int .i64 0,eSt,.int .i64 0,eSt,eSt,.slice none 0 0,.slice none 0 0,.slice none 0 0,.int .i64 0] [(0,9),(9,9)]:={}
instance:ng Pq 44 1 62 4 [.int .i64 0,eSt,.int .i64 0,.int .i64 0] [(0,4)]:={}
instance:ng Pq 113 1 4 1 [.bool false] [(0,1)]:={}
instance:ng Pq 113 2 4 1 [.bool false,.bool false] [(0,1),(1,1)]:={}
instance:ng Pq 113 3 4 1 [.bool false,.bool false,.bool false] [(0,1),(1,1),(2,1)]:={}
instance:ng Pq 113 4 4 1 [.bool false,.bool false,.bool false,.bool false] [(0,1),(1,1),(2,1),(3,1)]:={}
instance:ng Pq 135 1 174 3 [eSt,.bool false,.int .i64 0] [(0,3)]:={}
instance:ng Pq 154 1 156 6 [.int .i64 0,.int .u64 0,.int .u64 0,.int .u64 0,.int .u64 0,.slice none 0 0] [(0,6)]:={}
instance:ng Pq 154 2 156 6 [.int .i64 0,.int .u64 0,.int .u64 0,.int .u64 0,.int .u64 0,.slice none 0 0,.int .i64 0,.int .u64 0,.int .u64 0,.int .u64 0,.int .u64 0,.slice none 0 0] [(0,6),(6,6)]:={}
instance:ng Pq 160 1 192 3 [eSt,.bool false,.int .i64 0] [(0,3)]:={}
instance:ng Pq 172 1 5 1 [.int .u8 0] [(0,1)]:={}
section
def aiD (a b:ByS):((⟨a.toArray⟩:ByteArray).toList==(⟨b.toArray⟩:ByteArray).toList)=(a==b):=by
 rw[ByteArray.toList_eq,ByteArray.toList_eq]
variable {P:Program} {t:TypeId} {xs:List Value} {c:ByS} {yt:TypeId} {x y:Operand} {a b d:ByS}
def vY {cs:Array Value} {off:Nat} {v:Value} (w:World) (ha:Ai P t=some false) (h:cs[off]?=some v):(part t cs off).run P w=.ok v w:=by
 unfold part;simp only[cC,Ac ha,bQ,fm,if_false,h,ep]
def V7 (ht:P.underlying t=some .string) (d:Nat) (w:World) (a b:ByS):(Op.equalIn (d+1) t (S a) (S b)).run P w=.ok (a==b) w:=by
 unfold S;rw[run_equalIn_string w d t _ _ ht,aiD]
def aiE (w:World) (a b c d:ByS):(Op.equalIn 10000 35 (.agg #[S a,S b]) (.agg #[S c,S d])).run Pq w=.ok (a==c&&b==d) w:=by
 have h9:Tryz.prog.underlying 9=some .string:=(inferInstance:ug Pq 9 _).h;have XH:Tryz.prog.underlying 35=some (.array 2 9):=(inferInstance:ug Pq 35 _).h;have ha:Ai Pq 9=some false:=(inferInstance:nX Pq 9 false).h;have hc:Tryz.prog.cellsOf 9=1:=by kernel_rfl
 have hz:Lv Pq 9=some 1:=(inferInstance:yn Pq 9 1).h;obtain ⟨i,hi⟩:∃ i,Tryz.prog.info? 9=some i:=by
  unfold Lv at hz;cases q:Tryz.prog.info? 9 with
  | none=>simp[q] at hz
  | some i=>exact ⟨i,rfl⟩
 have p0:∀ x y:ByS,(part 9 #[S x,S y] 0).run Pq w=.ok (S x) w:=λx y=>vY w ha rfl;have p1:∀ x y:ByS,(part 9 #[S x,S y] 1).run Pq w=.ok (S y) w:=λx y=>vY w ha rfl;have e:∀ x y:ByS,(Op.equalIn 9999 9 (S x) (S y)).run Pq w=.ok (x==y) w:=V7 h9 9998 w;rw[show (10000:Nat)=9999+1 from rfl,run_equalIn_array w 9999 _ _ XH hi,hc];simp only[List.range,List.range.loop,Op.eqItems,cC,Nat.zero_mul,xC,p0,e,bQ];cases a==c
 ·simp
 simp only[iC,fm,if_false,cC,p1,e,bQ];cases b==d<;>simp
def ac7 (w:World) (a b c d a' b' c' d':Int):(Op.equalIn 10000 153 (.agg #[.int .u64 a,.int .u64 b,.int .u64 c,.int .u64 d]) (.agg #[.int .u64 a',.int .u64 b',.int .u64 c',.int .u64 d'])).run Pq w=.ok ([a,b,c,d]==[a',b',c',d']) w:=by
 have h44:Tryz.prog.underlying 151=some (.int .u64):=(inferInstance:ug Pq 151 _).h;have h134:Tryz.prog.underlying 153=some (.array 4 151):=(inferInstance:ug Pq 153 _).h;have ha:Ai Pq 151=some false:=(inferInstance:nX Pq 151 false).h;have hc:Tryz.prog.cellsOf 151=1:=by kernel_rfl
 have hz:Lv Pq 151=some 1:=(inferInstance:yn Pq 151 1).h;obtain ⟨i,hi⟩:∃ i,Tryz.prog.info? 151=some i:=by
  unfold Lv at hz;cases q:Tryz.prog.info? 151 with
  | none=>simp[q] at hz
  | some i=>exact ⟨i,rfl⟩
 have p0:∀ a b c d:Int,(part 151 #[.int .u64 a,.int .u64 b,.int .u64 c,.int .u64 d] 0).run Pq w=.ok (.int .u64 a) w:=λ_ _ _ _=>vY w ha rfl;have p1:∀ a b c d:Int,(part 151 #[.int .u64 a,.int .u64 b,.int .u64 c,.int .u64 d] 1).run Pq w=.ok (.int .u64 b) w:=λ_ _ _ _=>vY w ha rfl;have p2:∀ a b c d:Int,(part 151 #[.int .u64 a,.int .u64 b,.int .u64 c,.int .u64 d] 2).run Pq w=.ok (.int .u64 c) w:=λ_ _ _ _=>vY w ha rfl;have p3:∀ a b c d:Int,(part 151 #[.int .u64 a,.int .u64 b,.int .u64 c,.int .u64 d] 3).run Pq w=.ok (.int .u64 d) w:=λ_ _ _ _=>vY w ha rfl;have e:∀ x y:Int,(Op.equalIn 9999 151 (.int .u64 x) (.int .u64 y)).run Pq w=.ok (x==y) w:=λx y=>run_equalIn_int w 9998 151 _ _ x y h44;rw[show (10000:Nat)=9999+1 from rfl,run_equalIn_array w 9999 _ _ h134 hi,hc];have l:([a,b,c,d]==[a',b',c',d'])=(a==a'&&(b==b'&&(c==c'&&d==d'))):=by simp[List.cons_beq_cons]
 rw[l];simp only[List.range,List.range.loop,Op.eqItems,cC,Nat.zero_mul,xC,p0,e,bQ];cases a==a'
 ·simp
 simp only[iC,fm,if_false,cC,p1,e,bQ];cases b==b'
 ·simp
 simp only[iC,fm,if_false,cC,show 2*1=2 from rfl,p2,e,bQ];cases c==c'
 ·simp
 simp only[iC,fm,if_false,cC,show 3*1=3 from rfl,p3,e,bQ];cases d==d'<;>simp
def aiF:Tryz.prog.eqGuardType Tryz.prog.depth 153=false:=by kernel_rfl
def akE (w:World) (a b c d:Int) (kd:Tryz.prog.underlying 28=some (.int .i64)):(Op.equalIn 10000 30 (.agg #[.int .i64 a,.int .i64 b]) (.agg #[.int .i64 c,.int .i64 d])).run Pq w=.ok (a==c&&b==d) w:=by
 have h3:Tryz.prog.underlying 3=some (.int .i64):=(inferInstance:ug Pq 3 _).h;have h3':Ai Pq 3=some false:=(inferInstance:nX Pq 3 false).h;have h28':Ai Pq 28=some false:=(inferInstance:nX Pq 28 false).h;have hf:(Tryz.prog.fieldsOf 30).toList.map (λf=>(decide (f.name = "_"),f.type,f.offset))=[(false,28,0),(false,3,1)]:=by kernel_rfl
 have ht:Tryz.prog.underlying 30=some (.struct (Tryz.prog.fieldsOf 30)):=by unfold Program.fieldsOf;rw[Tryz.underlying30]
 have hp:Tryz.prog.stoodInHeld 30=false:=by kernel_rfl
 have e28:∀ x y:Int,(Op.equalIn 9999 28 (.int .i64 x) (.int .i64 y)).run Pq w=.ok (x==y) w:=λx y=>run_equalIn_int w 9998 28 _ _ x y kd;have e3:∀ x y:Int,(Op.equalIn 9999 3 (.int .i64 x) (.int .i64 y)).run Pq w=.ok (x==y) w:=λx y=>run_equalIn_int w 9998 3 _ _ x y h3;have p0:∀ x y:Int,(part 28 #[.int .i64 x,.int .i64 y] 0).run Pq w=.ok (.int .i64 x) w:=λx y=>vY w h28' rfl;have p1:∀ x y:Int,(part 3 #[.int .i64 x,.int .i64 y] 1).run Pq w=.ok (.int .i64 y) w:=λx y=>vY w h3' rfl;rw[show (10000:Nat)=9999+1 from rfl,run_equalIn_struct w 9999 30 _ _ ht hp];generalize (Tryz.prog.fieldsOf 30).toList=fs at hf;obtain ⟨f1,f2,rfl⟩:∃ f1 f2,fs=[f1,f2]:=by
  have:=iy List.length hf;rw[iE] at this;rcases fs with _|⟨a,_|⟨b,_|⟨c,t⟩⟩⟩
  ·cases this
  ·cases this
  ·exact ⟨_,_,rfl⟩
  simp at this
 simp only[jW,tw,vR,qR,decide_eq_false_iff_not,and_true] at hf;obtain ⟨⟨n1,t1,o1⟩,n2,t2,o2⟩:=hf;simp only[Op.eqFields,n1,n2,ne_eq,not_false_eq_true,if_true,t1,t2,o1,o2,cC,p0,e28,bQ];cases a==c
 ·simp
 simp only[iC,fm,if_false,cC,p1,e3,bQ];cases b==d<;>simp
def g30:Tryz.prog.eqGuardType Tryz.prog.depth 30=false:=by kernel_rfl
def g35:Tryz.prog.eqGuardType Tryz.prog.depth 35=false:=by kernel_rfl
def g65:Tryz.prog.eqGuardType Tryz.prog.depth 58=false:=by kernel_rfl
def akF (w:World) (a b c d:ByS) (i j:Int):(Op.equalIn 10000 58 (.agg #[S a,S b,.int .i64 i]) (.agg #[S c,S d,.int .i64 j])).run Pq w=.ok (a==c&&b==d&&i==j) w:=by
 have h9:Tryz.prog.underlying 9=some .string:=(inferInstance:ug Pq 9 _).h;have h3:Tryz.prog.underlying 3=some (.int .i64):=(inferInstance:ug Pq 3 _).h;have h9':Ai Pq 9=some false:=(inferInstance:nX Pq 9 false).h;have h3':Ai Pq 3=some false:=(inferInstance:nX Pq 3 false).h;have hf:(Tryz.prog.fieldsOf 58).toList.map (λf=>(decide (f.name = "_"),f.type,f.offset))=[(false,9,0),(false,9,1),(false,3,2)]:=by kernel_rfl
 have ht:Tryz.prog.underlying 58=some (.struct (Tryz.prog.fieldsOf 58)):=by unfold Program.fieldsOf;rw[Tryz.underlying58]
 have hp:Tryz.prog.stoodInHeld 58=false:=by kernel_rfl
 have e:∀ x y:ByS,(Op.equalIn 9999 9 (S x) (S y)).run Pq w=.ok (x==y) w:=V7 h9 9998 w;have e3:∀ x y:Int,(Op.equalIn 9999 3 (.int .i64 x) (.int .i64 y)).run Pq w=.ok (x==y) w:=λx y=>run_equalIn_int w 9998 3 _ _ x y h3;have p0:∀ (x y:ByS) (z:Int),(part 9 #[S x,S y,.int .i64 z] 0).run Pq w=.ok (S x) w:=λx y z=>vY w h9' rfl;have p1:∀ (x y:ByS) (z:Int),(part 9 #[S x,S y,.int .i64 z] 1).run Pq w=.ok (S y) w:=λx y z=>vY w h9' rfl;have p2:∀ (x y:ByS) (z:Int),(part 3 #[S x,S y,.int .i64 z] 2).run Pq w=.ok (.int .i64 z) w:=λx y z=>vY w h3' rfl;rw[show (10000:Nat)=9999+1 from rfl,run_equalIn_struct w 9999 58 _ _ ht hp];generalize (Tryz.prog.fieldsOf 58).toList=fs at hf;obtain ⟨f1,f2,f3,rfl⟩:∃ f1 f2 f3,fs=[f1,f2,f3]:=by
  have:=iy List.length hf;rw[iE] at this;rcases fs with _|⟨a,_|⟨b,_|⟨c,_|⟨d,t⟩⟩⟩⟩
  ·cases this
  ·cases this
  ·cases this
  ·exact ⟨_,_,_,rfl⟩
  simp at this
 simp only[jW,tw,vR,qR,decide_eq_false_iff_not,and_true] at hf;obtain ⟨⟨n1,t1,o1⟩,⟨n2,t2,o2⟩,n3,t3,o3⟩:=hf;simp only[Op.eqFields,n1,n2,n3,ne_eq,not_false_eq_true,if_true,t1,t2,t3,o1,o2,o3,cC,p0,e,bQ];cases a==c
 ·simp
 simp only[iC,fm,if_false,cC,p1,e,bQ];cases b==d
 ·simp
 simp only[iC,fm,if_false,cC,p2,e3,bQ];cases i==j<;>simp
section
variable {l:List (Nat×AV)} {ds:List (FuncId×List AV)} {s:List (Nat×cQ)}
def VR.NC {g:Gh} {c:Value} (h:VR g (.agg (xs.map λv=>.pv (.sc v))) c):c=.agg xs.toArray:=by
 cases h with
 | agg h=>
  congr 2
  rename_i vs
  induction xs generalizing vs with
  | nil=>cases h;rfl
  | cons x xs ih=>
   cases h with
   | cons h t=>
    cases h with
    | pv h=>cases h;rw[ih t]
variable {fr:kG} {ys:List Value} {r:Bool}
def Ky (hg:Tryz.prog.eqGuardType Tryz.prog.depth t=false) (hx:fr.val x=.agg (xs.map λv=>.pv (.sc v))) (hy:fr.val y=.agg (ys.map λv=>.pv (.sc v))) (h:∀ w,(Op.equalIn 10000 t (.agg xs.toArray) (.agg ys.toArray)).run Pq w=.ok r w) :
  X Pq (.binOp .eql t x y yt) fr [] (Bo r):=by
 intro o ho g ev w hG hv _
 have q1:=hv x uy;rw[hx] at q1
 have q2:=hv y uy;rw[hy] at q2
 exact aki
def Kz (hg:Tryz.prog.eqGuardType Tryz.prog.depth t=false) (hx:fr.val x=.agg (xs.map λv=>.pv (.sc v))) (hy:fr.val y=.agg (ys.map λv=>.pv (.sc v))) (h:∀ w,(Op.equalIn 10000 t (.agg xs.toArray) (.agg ys.toArray)).run Pq w=.ok r w) :
  X Pq (.binOp .neq t x y yt) fr [] (Bo (!r)):=by
 intro o ho g ev w hG hv _
 have q1:=hv x uy;rw[hx] at q1
 have q2:=hv y uy;rw[hy] at q2
 exact akh
def afb (hx:bT l x=some (.agg [eu a,eu b])) (hy:bT l y=some (.agg [eu c,eu d])):mH Pq (.binOp .eql 35 x y yt) l ds s (Bo (a==c&&b==d)) []:=
 .of (Ky (xs:=[S a,S b]) (ys:=[S c,S d]) g35 jT tt λw=>aiE w a b c d)
def afc (hx:bT l x=some (.agg [eu a,eu b])) (hy:bT l y=some (.agg [eu c,eu d])):mH Pq (.binOp .neq 35 x y yt) l ds s (Bo (!(a==c&&b==d))) []:=
 .of (Kz (xs:=[S a,S b]) (ys:=[S c,S d]) g35 jT tt λw=>aiE w a b c d)
def afd {i j:Int} (hx:bT l x=some (.agg [eu a,eu b,I i])) (hy:bT l y=some (.agg [eu c,eu d,I j])):mH Pq (.binOp .neq 58 x y yt) l ds s (Bo (!(a==c&&b==d&&i==j))) []:=
 .of (Kz (xs:=[S a,S b,.int .i64 i]) (ys:=[S c,S d,.int .i64 j]) g65 jT tt λw=>akF w a b c d i j)
variable {a' b' c' d':Int}
def afe {a b c d:Int} (hx:bT l x=some (.agg [Sc (.int .u64 a),Sc (.int .u64 b),Sc (.int .u64 c),Sc (.int .u64 d)])) (hy:bT l y=some (.agg [Sc (.int .u64 a'),Sc (.int .u64 b'),Sc (.int .u64 c'),Sc (.int .u64 d')])) :
  mH Pq (.binOp .eql 153 x y yt) l ds s (Bo ([a,b,c,d]==[a',b',c',d'])) []:=
 .of (Ky (xs:=[.int .u64 a,.int .u64 b,.int .u64 c,.int .u64 d]) (ys:=[.int .u64 a',.int .u64 b',.int .u64 c',.int .u64 d']) aiF jT tt λw=>ac7 w ..)
def aff {a b c d:Int} (hx:bT l x=some (.agg [Sc (.int .u64 a),Sc (.int .u64 b),Sc (.int .u64 c),Sc (.int .u64 d)])) (hy:bT l y=some (.agg [Sc (.int .u64 a'),Sc (.int .u64 b'),Sc (.int .u64 c'),Sc (.int .u64 d')])) :
  mH Pq (.binOp .neq 153 x y yt) l ds s (Bo (!([a,b,c,d]==[a',b',c',d']))) []:=
 .of (Kz (xs:=[.int .u64 a,.int .u64 b,.int .u64 c,.int .u64 d]) (ys:=[.int .u64 a',.int .u64 b',.int .u64 c',.int .u64 d']) aiF jT tt λw=>ac7 w ..)
def φ {a b c d:Int} (hx:bT l x=some (.agg [I a,I b])) (hy:bT l y=some (.agg [I c,I d])):mH Pq (.binOp .eql 30 x y yt) l ds s (Bo (a==c&&b==d)) []:=
 .of (Ky (xs:=[.int .i64 a,.int .i64 b]) (ys:=[.int .i64 c,.int .i64 d]) g30 jT tt λw=>akE w a b c d (inferInstance:ug Pq 28 (.int .i64)).h)
end
end
end Go.Abs
section
namespace Go.Proofs
open Go.Shelf
def Tryz.Rl:Go.Shelf.Ren:=⟨λ|137=>285|217=>212|266=>238|n=>n,λ|9=>9|5=>5|3=>3|n=>n,λ|n=>n⟩
def Tryz.aas:Go.Proofs.Lays.n137 Tryz.prog Tryz.Rl:=by repeat' (first|kernel_rfl|intro _|constructor)
open Go.RowKit in
def Tryz.strings_IndexByte (s:ByteArray) (c:Int) (w:World) :
 Calls Tryz.prog 285 #[.string s,.int .u8 c] w λe w'=>e=.returned (.int .i64 (Lib.indexByte s.data.toList c.toNat.toUInt8))/\w'=w:=Any.strings_IndexByte Tryz.aas s c w
def Tryz.Rm:Go.Shelf.Ren:=⟨λ|283=>245|n=>n,λ|3=>3|9=>9|4=>4|n=>n,λ|n=>n⟩
def Tryz.aat:Go.Proofs.Lays.n283 Tryz.prog Tryz.Rm:=by repeat' (first|kernel_rfl|intro _|constructor)
open Go.Lib in
def Tryz.internal_strconv_small (i:Nat) (h:i<100) (w:World) :
 Calls Tryz.prog 245 #[.int .i64 i] w λe w'=>e=.returned (.string ⟨(Lib.decDigits i).toArray⟩)/\w'=w:=Any.internal_strconv_small Tryz.aat i h w
def Tryz.Ok:Go.Shelf.Ren:=⟨λ|284=>246|129=>262|317=>261|318=>263|n=>n,λ|53=>151|3=>3|212=>235|0=>0|4=>4|46=>207|5=>5|9=>9|n=>n,λ|17=>3|n=>n⟩
def Tryz.χ:Go.Proofs.LaysM.n284 Tryz.prog Tryz.Ok:=by repeat' (first|kernel_rfl|intro _|constructor)
open Go.Lib in
def Tryz.internal_strconv_numDigits (u:Nat) (h1:1<=u) (h2:u<18446744073709551616) (w:World) (htab:Lib.TabIs Tryz.prog w "internal/strconv.uint64pow10" .u64 Lib.pow10Tab) :
 Calls Tryz.prog 246 #[.int .u64 u] w λe w'=>e=.returned (.int .i64 (Lib.nDigits u))/\w'=w:=Any.internal_strconv_numDigits Tryz.χ u h1 h2 w htab
def Tryz.Rn:Go.Shelf.Ren:=⟨λ|285=>247|n=>n,λ|37=>172|53=>151|3=>3|4=>4|51=>180|9=>9|5=>5|0=>0|n=>n,λ|n=>n⟩
def Tryz.aau:Go.Proofs.Lays.n285 Tryz.prog Tryz.Rn:=by repeat' (first|kernel_rfl|intro _|constructor)
open Go.RowKit Go.Sort Go.Lib in
def Tryz.internal_strconv_formatBase10 (blk off cap:Nat) (u:Nat) (d:Array UInt8) (w:World) (hH:Holds (λ(b:UInt8)=>Value.int .u8 (b.toNat:Int)) w blk off d) (hu:u<10 ^ d.size) (TG:u<18446744073709551616) (MT:d.size<4611686018427387904) :
 Calls Tryz.prog 247 #[.slice (some ⟨blk,off,none⟩) d.size cap,.int .u64 u] w λe w'=>
  e=.returned (.tuple #[])/\∃ (n v':Nat) (dk:Array UInt8),w'=(putRow (λ(b:UInt8)=>Value.int .u8 (b.toNat:Int)) w blk off dk).drewN n/\FmtInv d.size u 0 v' dk:=Any.internal_strconv_formatBase10 Tryz.aau blk off cap u d w hH hu TG MT
def Tryz.Ol:Go.Shelf.Ren:=⟨λ|245=>175|279=>217|280=>218|281=>219|282=>220|316=>242|171=>244|205=>243|243=>260|246=>276|283=>245|284=>246|285=>247|286=>248|129=>262|317=>261|318=>263|319=>264|320=>265|337=>277|338=>278|n=>n,λ|9=>9|3=>3|75=>129|167=>208|4=>4|168=>211|210=>221|37=>172|0=>0|127=>230|145=>233|143=>231|2=>2|171=>223|53=>151|5=>5|173=>226|212=>235|51=>180|20=>20|213=>236|46=>207|232=>254|233=>255|80=>75|n=>n,λ|15=>1|16=>2|17=>3|18=>6|19=>7|n=>n⟩
def Tryz.Ro:Go.Proofs.LaysC.n245 Tryz.prog Tryz.Ol:=by repeat' (first|kernel_rfl|intro _|constructor)
open Go.RowKit in
def Tryz.strconv_toError_syntax (fn s:ByteArray) (base bits:Int) (ev:Value) (w:World) (TH:s.size<=281474976710656) (hv:w.cell? ⟨1,0,none⟩=some ev) (hev:ev=.nilIface\/∃ te pe,ev=.iface te pe) :
 Calls Tryz.prog 175 #[.string fn,.string s,.int .i64 base,.int .i64 bits,.iface 208 (.int .i64 2)] w λe w'=>∃ N,e=.returned (.iface 211 (.pointer (some ⟨N,0,none⟩)))/\w.heap.size<=N/\w'.heap[N]?=some (.cells #[.string fn,.string s,ev] 221 (0,0))/\Below w.heap.size w w':=Any.strconv_toError_syntax Tryz.Ro fn s base bits ev w TH hv hev
open Go.RowKit in
def Tryz.strconv_toError_range (fn s:ByteArray) (base bits:Int) (ev:Value) (w:World) (TH:s.size<=281474976710656) (hv:w.cell? ⟨2,0,none⟩=some ev) (hev:ev=.nilIface\/∃ te pe,ev=.iface te pe) :
 Calls Tryz.prog 175 #[.string fn,.string s,.int .i64 base,.int .i64 bits,.iface 208 (.int .i64 1)] w λe w'=>∃ N,e=.returned (.iface 211 (.pointer (some ⟨N,0,none⟩)))/\w.heap.size<=N/\w'.heap[N]?=some (.cells #[.string fn,.string s,ev] 221 (0,0))/\Below w.heap.size w w':=Any.strconv_toError_range Tryz.Ro fn s base bits ev w TH hv hev
def Tryz.Om:Go.Shelf.Ren:=⟨λ|174=>121|247=>174|245=>175|287=>216|279=>217|280=>218|281=>219|282=>220|321=>240|322=>241|316=>242|171=>244|205=>243|243=>260|246=>276|283=>245|284=>246|285=>247|286=>248|129=>262|317=>261|318=>263|319=>264|320=>265|337=>277|338=>278|n=>n,λ|9=>9|3=>3|2=>2|75=>129|85=>130|4=>4|167=>208|5=>5|53=>151|175=>209|46=>207|168=>211|37=>172|0=>0|210=>221|21=>21|127=>230|145=>233|143=>231|171=>223|173=>226|212=>235|51=>180|20=>20|213=>236|232=>254|233=>255|80=>75|n=>n,λ|15=>1|16=>2|17=>3|18=>6|19=>7|n=>n⟩
def Tryz.KA:Go.Proofs.LaysC.n174 Tryz.prog Tryz.Om:=by repeat' (first|kernel_rfl|intro _|constructor)
open Go.RowKit in
def Tryz.strconv_ParseInt_10_at64_ok (s:ByteArray) (D6:s.size<=9223372036854775806) (v:Int) (h:Lib.parseIntB 64 s.data.toList=.ok v) (w:World) :
 Calls Tryz.prog 121 #[.string s,.int .i64 10,.int .i64 64] w λe w'=>e=.returned (.tuple #[.int .i64 v,.nilIface])/\(w'=w\/∃ t,w'=Lib.bytesWorld w 5 t):=Any.strconv_ParseInt_10_at64_ok Tryz.KA s D6 v h w
open Go.RowKit in
def Tryz.strconv_ParseInt_10_at64_syntax (s:ByteArray) (TH:s.size<=281474976710656) (h:Lib.parseIntB 64 s.data.toList=Lib.NumEnd.syntax) (ev:Value) (w:World) (hv:w.cell? ⟨1,0,none⟩=some ev) (hev:ev=.nilIface\/∃ te pe,ev=.iface te pe) :
 Calls Tryz.prog 121 #[.string s,.int .i64 10,.int .i64 64] w λe w'=>∃ N,e=.returned (.tuple #[.int .i64 (0),.iface 211 (.pointer (some ⟨N,0,none⟩))])/\w.heap.size<=N/\w'.heap[N]?=some (.cells #[.string ⟨#[80,97,114,115,101,73,110,116]⟩,.string s,ev] 221 (0,0))/\Below w.heap.size w w':=Any.strconv_ParseInt_10_at64_syntax Tryz.KA s TH h ev w hv hev
open Go.RowKit in
def Tryz.strconv_ParseInt_10_at64_range (s:ByteArray) (TH:s.size<=281474976710656) (h:Lib.parseIntB 64 s.data.toList=.range) (ev:Value) (w:World) (hv:w.cell? ⟨2,0,none⟩=some ev) (hev:ev=.nilIface\/∃ te pe,ev=.iface te pe) :
 Calls Tryz.prog 121 #[.string s,.int .i64 10,.int .i64 64] w λe w'=>∃ N,e=.returned (.tuple #[.int .i64 (Lib.intSat 64 s.data.toList),.iface 211 (.pointer (some ⟨N,0,none⟩))])/\w.heap.size<=N/\w'.heap[N]?=some (.cells #[.string ⟨#[80,97,114,115,101,73,110,116]⟩,.string s,ev] 221 (0,0))/\Below w.heap.size w w':=Any.strconv_ParseInt_10_at64_range Tryz.KA s TH h ev w hv hev
def Tryz.Rp:Go.Shelf.Ren:=⟨λ|144=>75|143=>117|219=>173|217=>212|225=>213|224=>214|267=>215|266=>238|314=>239|n=>n,λ|9=>9|4=>4|3=>3|5=>5|46=>207|146=>181|51=>180|n=>n,λ|1=>0|n=>n⟩
def Tryz.aav:Go.Proofs.Lays.n144 Tryz.prog Tryz.Rp:=by repeat' (first|kernel_rfl|intro _|constructor)
open Go.RowKit Go.Lib in
def Tryz.strings_Contains (s sub:ByteArray) (m:Int) (w:World) (hs:s.size<4294967281) (hm:w.cell? ⟨0,0,none⟩=some (.int .i64 m)) :
 Calls Tryz.prog 75 #[.string s,.string sub] w λe w'=>e=.returned (.bool (Lib.contains s.data.toList sub.data.toList))/\w'=w:=Any.strings_Contains Tryz.aav s sub m w hs hm
def Tryz.Rq:Go.Shelf.Ren:=⟨λ|145=>77|220=>119|219=>173|217=>212|225=>213|224=>214|267=>215|266=>238|314=>239|n=>n,λ|9=>9|4=>4|59=>103|3=>3|5=>5|46=>207|146=>181|51=>180|n=>n,λ|1=>0|n=>n⟩
def Tryz.aaw:Go.Proofs.Lays.n145 Tryz.prog Tryz.Rq:=by repeat' (first|kernel_rfl|intro _|constructor)
open Go.RowKit Go.Lib in
def Tryz.strings_Cut (s sep:ByteArray) (m:Int) (w:World) (hs:s.size<4294967281) (hm:w.cell? ⟨0,0,none⟩=some (.int .i64 m)) :
 Calls Tryz.prog 77 #[.string s,.string sep] w λe w'=>e=.returned (.tuple #[.string ⟨(Lib.cut s.data.toList sep.data.toList).1.toArray⟩,.string ⟨(Lib.cut s.data.toList sep.data.toList).2.1.toArray⟩,.bool (Lib.cut s.data.toList sep.data.toList).2.2])/\∃ n,w'=w.drewN n:=Any.strings_Cut Tryz.aaw s sep m w hs hm
def Tryz.Rr:Go.Shelf.Ren:=⟨λ|148=>85|222=>128|223=>129|269=>183|n=>n,λ|9=>9|3=>3|4=>4|5=>5|146=>181|51=>180|46=>207|n=>n,λ|n=>n⟩
def Tryz.aax:Go.Proofs.Lays.n148 Tryz.prog Tryz.Rr:=by repeat' (first|kernel_rfl|intro _|constructor)
open Go.RowKit Go.Lib in
def Tryz.strings_LastIndex (s sub:ByteArray) (hs:s.size<4611686018427387904) (w:World) :
 Calls Tryz.prog 85 #[.string s,.string sub] w λe w'=>e=.returned (.int .i64 (Lib.lastIndex s.data.toList sub.data.toList))/\w'=w:=Any.strings_LastIndex Tryz.aax s sub hs w
def Tryz.Rs:Go.Shelf.Ren:=⟨λ|146=>127|221=>182|268=>223|138=>224|143=>117|195=>249|197=>250|218=>251|219=>173|260=>266|217=>212|225=>213|224=>214|267=>215|266=>238|314=>239|n=>n,λ|9=>9|31=>25|3=>3|4=>4|0=>0|105=>228|21=>21|5=>5|46=>207|119=>242|139=>245|138=>244|146=>181|51=>180|n=>n,λ|1=>0|3=>4|4=>5|n=>n⟩
def Tryz.aay:Go.Proofs.Lays.n146 Tryz.prog Tryz.Rs:=by repeat' (first|kernel_rfl|intro _|constructor)
open Go.RowKit Go.Lib in
def Tryz.strings_Split (s sep:ByteArray) (m:Int) (w:World) (hs:s.size<4294967281) (hm:w.cell? ⟨0,0,none⟩=some (.int .i64 m)) (h1:1<=sep.size) :
 Calls Tryz.prog 127 #[.string s,.string sep] w λe w'=>
  e=.returned (.slice (some ⟨w.heap.size,0,none⟩) (Lib.countB s sep+1) (Lib.countB s sep+1))/\w'=w.alloc (.cells ((Lib.splitB sep 0 (Lib.countB s sep) s).map Value.string).toArray 9):=Any.strings_Split Tryz.aay (by kernel_rfl) s sep m w hs hm h1
end Go.Proofs
end
namespace Go.Abs
open Go.Proofs aG Go.RowKit
section
theorem Eo {f:FuncId} {args:List AV} {X:Type} {res:aG X} {V:X->AV}
  (h:∀ x,res=.ok x->∀ (E:Env) (g:Gh) (w:World) (vs:List Value),Rel E g (bU []) w->Y g args vs->Calls Pq f vs.toArray w λe w'=>∃ g' c,e=.returned c/\VR g' (V x) c/\Rel E g' (bU []) w')
  (hp:∀ p,res≠.qH p):CT Pq f args [] res V (λ_=>[]):=by
 refine ⟨λr hr hs=>?_⟩
 cases r with
 | stuck=>exact aw rfl hs
 | qH p=>exact aw hr (hp p)
 | ok x=>
  intro wS g w vs hR hv
  refine (h x hr (Env.of wS g (bU []) w) g w vs hR hv).mono ?_
  rintro e w' ⟨g',c,he,Gw,kL⟩
  subst he
  exact ag1
variable {α:Type} {p:Prop} {a:α} {x:Value} {g:Gh} {vs:List Value} {E:Env} {σ:fi} {w:World}
def KB [Decidable p] {x:aG α} (h:gd p x=.ok a):p/\x=.ok a:=aer bm h
def agZ [Decidable p] (q:sT):gd p (.ok a)≠.qH q:=by unfold gd;split<;>simp
def Y.akG (h:Y g [Sc x] vs):vs=[x]:=by
 cases h with|cons h t=>cases t;rw[p8 h]
variable {y:Value}
def Y.akH (h:Y g [Sc x,Sc y] vs):vs=[x,y]:=by
 cases h with|cons h t=>rw[p8 h,Y.akG t]
def vh:=@Y.akH
def Y.afg {z:Value} (h:Y g [Sc x,Sc y,Sc z] vs):vs=[x,y,z]:=by
 cases h with|cons h t=>rw[p8 h,vh t]
def Rel.Rt (hR:Rel E g σ w) {a:Addr} {v:Value} (h:E.wS.cell? a=some v):w.cell? a=some v:=by
 unfold World.cell? at h ⊢;cases q:E.wS.heap[a.block]? with
 | none=>rw[q] at h;cases h
 | some o=>rw[hR.x.set a.block (o8.1 q).1];exact h
def Rel.maxLen (hR:Rel E g σ w):∃ m:Int,w.cell? ⟨0,0,none⟩=some (.int .i64 m):=
 let ⟨m,h⟩:=hR.x.gf.1;⟨m,hR.Rt h⟩
def Rel.adU {w':World} (h:Rel E g σ w) (hb:w'=w\/∃ t,w'=Lib.bytesWorld w 5 t):Rel E g σ w':=by
 rcases hb with rfl|⟨t,rfl⟩
 ·exact h
 exact h.below (Ix _ _ _)
def Ep:∀ (s p:ByS),Lib.index s p=match vM s p with|some i=>(i:Int)|none=>-1
 | [],p=>by unfold Lib.index vM;split<;>rfl
 | b::l,p=>by
  unfold Lib.index vM;rw[Ep l p];split
  ·rfl
  cases vM l p with
  | none=>rfl
  | some i=>
   have:¬ ((i:Int)==-1)=true:=by simp
   simp[this]
def Ru (s p:ByS):Lib.contains s p=(vM s p).isSome:=by
 unfold Lib.contains;rw[Ep];cases vM s p with
 | none=>rfl
 | some i=>simp
def afh (s p:ByS):Lib.cut s p=match vM s p with|some i=>(s.take i,s.drop (i+p.length),true)|none=>(s,[],false):=by
 unfold Lib.cut;rw[Ep];cases vM s p with
 | none=>rfl
 | some i=>simp
instance TI (a b:ByS):CT Pq 75 [eu a,eu b] [] (strings_Contains a b) (λx=>Bo x) (λ_=>[]):=by
 refine Eo (λx hx E g w vs hR hv=>?_) JL;obtain ⟨hl,hx⟩:=KB hx;cases hx;have hv:=vh hv;subst hv;obtain ⟨m,hm⟩:=hR.maxLen;refine (Tryz.strings_Contains ⟨a.toArray⟩ ⟨b.toArray⟩ m w Zc hm).mono ?_;rintro e w' ⟨rfl,rfl⟩;exact ⟨g,_,rfl,by rw[Ru];exact .pv (.sc _),hR⟩
instance SQ (a b:ByS):CT Pq 85 [eu a,eu b] [] (strings_LastIndex a b) (λx=>I x) (λ_=>[]):=by
 refine Eo (λx hx E g w vs hR hv=>?_) JL;obtain ⟨hl,hx⟩:=KB hx;cases hx;have hv:=vh hv;subst hv;refine (Tryz.strings_LastIndex ⟨a.toArray⟩ ⟨b.toArray⟩ Zc w).mono ?_;rintro e w' ⟨rfl,rfl⟩;exact ⟨g,_,rfl,.pv (.sc _),hR⟩
instance ĩ (a b:ByS):CT Pq 77 [eu a,eu b] [] (strings_Cut a b) (λx=>.lM [eu x.1,eu x.2.1,Bo x.2.2]) (λ_=>[]):=by
 refine Eo (λx hx E g w vs hR hv=>?_) JL;obtain ⟨hl,hx⟩:=KB hx;have hv:=vh hv;subst hv;obtain ⟨m,hm⟩:=hR.maxLen;refine (Tryz.strings_Cut ⟨a.toArray⟩ ⟨b.toArray⟩ m w Zc hm).mono ?_;rintro e w' ⟨rfl,k,rfl⟩;have uz:Lib.cut a b=x:=by rw[afh];cases hx;rfl
 subst uz;refine ⟨g,_,rfl,?_,hR.below ⟨rfl,rfl,rfl,ik _,λ_ _=>rfl⟩⟩;exact .lM (.cons (.pv (.sc _)) (.cons (.pv (.sc _)) (.cons (.pv (.sc _)) .nil)))
def ixB (l:ByS) (c:UInt8):Lib.indexByte l c=match l.findIdx? (·==c) with|some i=>(i:Int)|none=>-1:=by
 induction l with
 | nil=>rfl
 | cons b l ih=>
  unfold Lib.indexByte
  rw[List.findIdx?_cons,ih]
  split
  ·rfl
  ·cases l.findIdx? (·==c) with
   | none=>rfl
   | some i=>
    have:¬ ((i:Int)==-1)=true:=by simp
    simp[this]
instance SR (a:ByS) (b:Int):CT Pq 285 [eu a,Sc (.int .u8 b)] [] (strings_IndexByte a b) (λx=>I x) (λ_=>[]):=by
 refine Eo (λx hx E g w vs hR hv=>?_) (λp=>by unfold strings_IndexByte;simp);have hv:=vh hv;subst hv;refine (Tryz.strings_IndexByte ⟨a.toArray⟩ b w).mono ?_;rintro e w' ⟨rfl,rfl⟩;unfold strings_IndexByte at hx;cases hx;refine ⟨g,_,rfl,?_,hR⟩;exact Eq.mp (iy (λz=>VR g (I z) (.int .i64 (Lib.indexByte a (UInt8.ofNat b.toNat)))) (ixB a (UInt8.ofNat b.toNat))) (.pv (.sc _))
def Rv (sep:ByS):∀ (f:Nat) (s:ByS),Lib.splitK sep 0 (Lib.countFrom sep f s) s=yx sep f s
 | 0,s=>rfl
 | f+1,s=>by
  have ih:=λt=>Rv sep f t;unfold Lib.countFrom yx;rw[Ep];cases q:vM s sep with
  | none=>rfl
  | some i=>
   have:¬ ((i:Int)==-1)=true:=by simp
   have e:∀ k,Lib.splitK sep 0 (k+1) s=if Lib.index s sep==-1 then [s] else s.take ((Lib.index s sep).toNat+0)::Lib.splitK sep 0 k (s.drop ((Lib.index s sep).toNat+sep.length)):=λ_=>rfl
   simp only[this]
   rw[aC bm,tz,e,Ep,q]
   simp only[this]
   rw[aC bm]
   simp[ih]
def ψ (a b:ByS):(Lib.splitB ⟨b.toArray⟩ 0 (Lib.countB ⟨a.toArray⟩ ⟨b.toArray⟩) ⟨a.toArray⟩).map (·.data.toList)=yx b (a.length+1) a:=by
 rw[Lib.splitB_data];exact Rv b (a.length+1) a
def Rw:∀ l:List ByteArray,uF g (hO (l.map (·.data.toList))) (l.map Value.string)
 | []=>.nil
 | b::l=>by
  have:Value.string b=S b.data.toList:=by simp[S]
  rw[jW,jW,this];exact .cons (.sc _) (Rw l)
instance YD (a b:ByS):CT Pq 127 [eu a,eu b] [] (strings_Split a b) (λx=>.pv (.sl x.length (hO x))) (λ_=>[]):=by
 refine Eo (λx hx E g w vs hR hv=>?_) JL;obtain ⟨hl,hx⟩:=KB hx;cases hx;have hv:=vh hv;subst hv;obtain ⟨m,hm⟩:=hR.maxLen;have h1:1<=ByteArray.size ⟨b.toArray⟩:=by simpa[ByteArray.size] using hl.1
 refine (Tryz.strings_Split ⟨a.toArray⟩ ⟨b.toArray⟩ m w (by simpa[ByteArray.size] using hl.2) hm h1).mono ?_;rintro e w' ⟨rfl,rfl⟩;have hlen:=Lib.splitB_all ⟨b.toArray⟩ h1 0 _ ⟨a.toArray⟩ rfl;generalize hL:Lib.splitB ⟨b.toArray⟩ 0 (Lib.countB ⟨a.toArray⟩ ⟨b.toArray⟩) ⟨a.toArray⟩=L at hlen;have hs:yx b (a.length+1) a=L.map (·.data.toList):=by rw[<- ψ,hL]
 rw[hs];have hp:uF g (hO (L.map (·.data.toList))) (L.map Value.string):=Rw L;have hc:(hO (L.map (·.data.toList))).length=L.length:=by rw[hp.length];simp
 have kL:=hR.frozen (ys:=hO (L.map (·.data.toList))) (cs:=(L.map Value.string).toArray) (el:=9) (by simp[hc]) (by rw[hc,dI bm];exact hp);refine ⟨_,_,rfl,?_,kL⟩;rw[<- hlen];have:(L.map (·.data.toList)).length=L.length:=by simp
 rw[this];exact .pv (.sl w.heap.size (hO (L.map (·.data.toList))) 0 L.length _ _ JK aD (by rw[tW,ql]) BU)
instance TJ (a:ByS) (b c:Int):CT Pq 121 [eu a,I b,I c] [] (tY a b c) (λx=>.lM [I x.1,Oe 211 x.2]) (λ_=>[]):=by
 refine Eo (λx hx E g w vs hR hv=>?_) JL;obtain ⟨⟨hb,hc,hl⟩,uz⟩:=KB hx;subst hb hc
 replace hx:=uz
 have hv:=Y.afg hv;subst hv;have IQ:ByteArray.size ⟨a.toArray⟩<=281474976710656:=by simpa[ByteArray.size] using hl
 obtain ⟨ev1,he1,hi1⟩:=hR.x.gf.2.1;obtain ⟨ev2,SJ,hi2⟩:=hR.x.gf.2.2.1;rcases q:Lib.parseIntB 64 a with v|_|_
 ·rw[q] at hx;cases hx;refine (Tryz.strconv_ParseInt_10_at64_ok ⟨a.toArray⟩ aD v q w).mono ?_;rintro e w' ⟨rfl,hw⟩;exact agY
 ·rw[q] at hx;cases hx;refine (Tryz.strconv_ParseInt_10_at64_syntax ⟨a.toArray⟩ IQ q ev1 w (hR.Rt he1) hi1).mono ?_;exact ah2
 rw[q] at hx;cases hx;refine (Tryz.strconv_ParseInt_10_at64_range ⟨a.toArray⟩ IQ q ev2 w (hR.Rt SJ) hi2).mono ?_;exact ah2
instance G2 (fn s:ByS) (b c e:Int):CT Pq 175 [eu fn,eu s,I b,I c,Oi e] [] (uS fn s b c e) (λx=>Oe 211 x) (λ_=>[]):=by
 refine Eo (λx hx E g w vs hR hv=>?_) JL;obtain ⟨⟨he,hl⟩,hx⟩:=KB hx;cases hx;have IQ:ByteArray.size ⟨s.toArray⟩<=281474976710656:=by simpa[ByteArray.size] using hl
 obtain ⟨ev1,he1,hi1⟩:=hR.x.gf.2.1;obtain ⟨ev2,SJ,hi2⟩:=hR.x.gf.2.2.1;have hvs:vs=[S fn,S s,.int .i64 b,.int .i64 c,.iface 208 (.int .i64 e)]:=by
  rw[V5 aD] at hv;cases hv with|cons h1 t=>cases t with|cons h2 t=>cases t with|cons h3 t=>cases t with|cons h4 t=>cases t with|cons h5 t=>
   cases t
   rw[p8 h1,p8 h2,p8 h3,p8 h4]
   cases h5 with|vu _ h5=>rw[p8 h5]
 subst hvs;rcases he with rfl|rfl
 ·refine (Tryz.strconv_toError_range ⟨fn.toArray⟩ ⟨s.toArray⟩ b c ev2 w IQ (hR.Rt SJ) hi2).mono ?_;rintro e w' ⟨N,rfl,_,_,hw⟩;exact ab0
 refine (Tryz.strconv_toError_syntax ⟨fn.toArray⟩ ⟨s.toArray⟩ b c ev1 w IQ (hR.Rt he1) hi1).mono ?_;rintro e w' ⟨N,rfl,_,_,hw⟩;exact ab0
end
end Go.Abs
section
namespace Go.Proofs
open Go.Shelf Go.RowKit Go.Sort Go.Lib
set_option maxHeartbeats 6400000 in
set_option maxRecDepth 100000 in
def Tryz.akI (u:Nat) (TG:u<18446744073709551616) (w:World) (htab:∀ n,Tryz.prog.globalNamed n=some 3->Lib.TabIs Tryz.prog w n .u64 Lib.pow10Tab) :
  Calls Tryz.prog 221 #[.int .u64 u,.int .i64 10] w λe w'=>e=.returned (.string ⟨(Lib.decDigits u).toArray⟩)/\∃ k os,w'=grow (w.drewN k) os:=by
 by_cases hs:u<100
 ·go_enter Tryz.func221,Tryz.ntmps221
  go_wp2_with (first
   | (go_at_call 245;refine (Tryz.internal_strconv_small u hs _).mono ?_;rintro e w' ⟨rfl,rfl⟩))
  go_ret
  exact ⟨rfl,0,#[],by simp[World.drewN_zero]⟩
 ·have hu1:1<=u:=by omega
  have hnd:Lib.nDigits u<=20:=by have:=Lib.numDigits_eq u hu1 TG;split at this<;>omega
  have hal:Tryz.prog.arrayLen 223=24:=by simp[Program.arrayLen,Tryz.underlying223]
  have hsl:∀ W,(Instr.sliceAt 223 (.pointer (some ⟨w.heap.size,0,none⟩)) none (some (.int .i64 (Lib.nDigits u:Int))) none).run Tryz.prog W=.ok (.slice (some ⟨w.heap.size,0,none⟩) (Lib.nDigits u) 24) W:=λW=>by
   rw[run_sliceAt_array_h W 223 ⟨w.heap.size,0,none⟩ (by simp[Program.arrayLen,Program.elem,Tryz.underlying223]) .i64 (Lib.nDigits u:Int) (by omega) (by rw[hal];omega)]
   go_simp
  have hH0:Holds (λ(b:UInt8)=>Value.int .u8 (b.toNat:Int)) (w.alloc (.cells Lib.zeros24 223)) w.heap.size 0 (Array.replicate (Lib.nDigits u) 0):=λj hj=>by
   have yL:j<Lib.nDigits u:=by simpa using hj
   refine ⟨?_,World.frozen?_alloc_new _ _ _ _⟩
   rw[World.cell?_alloc_new,Lib.zeros24_at _ (by omega),getElem!_pos _ j hj]
   simp
  have hfmt:=Tryz.internal_strconv_formatBase10 w.heap.size 0 24 u (Array.replicate (Lib.nDigits u) 0) (w.alloc (.cells Lib.zeros24 223)) hH0 (by rw[Array.size_replicate];exact Lib.lt_pow_nDigits u) TG (by rw[Array.size_replicate];omega)
  rw[Array.size_replicate] at hfmt
  have HH0:=Lib.hid hH0
  clear hH0 hal
  go_enter Tryz.func221,Tryz.ntmps221
  go_wp2_with (first
   | (go_at_call 246;refine (Tryz.internal_strconv_numDigits u hu1 TG _ (Lib.tabIs_alloc (htab _ (by kernel_rfl)) _)).mono ?_;rintro e w' ⟨rfl,rfl⟩))
  go_at_call 247
  refine hfmt.mono ?_
  rintro e w' ⟨rfl,k,v',dk,rfl,hF⟩
  have PI:(convert 172 9 (.slice (some ⟨w.heap.size,0,none⟩) (Lib.nDigits u) 24)).run Tryz.prog ((putRow (λ(b:UInt8)=>Value.int .u8 (b.toNat:Int)) (w.alloc (.cells Lib.zeros24 223)) w.heap.size 0 dk).drewN k)=.ok (.string ⟨(Lib.decDigits u).toArray⟩) ((putRow (λ(b:UInt8)=>Value.int .u8 (b.toNat:Int)) (w.alloc (.cells Lib.zeros24 223)) w.heap.size 0 dk).drewN k):=by
   have h:=run_convert_bytes_back (P:=Tryz.prog) ((putRow (λ(b:UInt8)=>Value.int .u8 (b.toNat:Int)) (w.alloc (.cells Lib.zeros24 223)) w.heap.size 0 dk).drewN k) 172 9 5 ⟨w.heap.size,0,none⟩ 24 (Lib.decDigits u) Tryz.underlying172 Tryz.underlying5 Tryz.underlying9 (λj hj=>by
    rw[Lib.row_is_numeral hF j hj,Lib.add_plain,World.cell?_drewN]
    exact cell?_putRow (λ(b:UInt8)=>Value.int .u8 (b.toNat:Int)) _ w.heap.size 0 _ dk HH0.out (by rw[hF.size,Array.size_replicate]) j (by rw[hF.size];rw[Lib.decDigits_length] at hj;exact hj))
   rw[Lib.decDigits_length] at h
   exact h
  go_wp2
  go_ret
  refine ⟨rfl,?_⟩
  rw[alloc_eq_grow]
  obtain ⟨os',_,e⟩:=putRow_grow_new (λ(b:UInt8)=>Value.int .u8 (b.toNat:Int)) w #[.cells Lib.zeros24 223] w.heap.size 0 dk (Nat.le_refl _)
  exact ⟨k,os',by rw[e];rfl⟩
def Tryz.aiG (u:Nat) (TG:u<18446744073709551616) (w:World) (htab:∀ n,Tryz.prog.globalNamed n=some 3->Lib.TabIs Tryz.prog w n .u64 Lib.pow10Tab) :
  Calls Tryz.prog 177 #[.int .u64 u,.int .i64 10] w λe w'=>e=.returned (.string ⟨(Lib.decDigits u).toArray⟩)/\∃ k os,w'=grow (w.drewN k) os:=by
 go_enter Tryz.func177,Tryz.ntmps177
 go_wp2_with (first
  | (go_at_call 221;refine (Tryz.akI u TG _ htab).mono ?_;rintro e w' ⟨rfl,k,os,rfl⟩))
 go_ret
 exact ⟨rfl,k,os,rfl⟩
end Go.Proofs
namespace Go.Abs
open Go.Proofs aG Go.RowKit Go.Sort
def V8:∀ (f u:Nat),u<10 ^ f->0<f->xO f u=Lib.decDigits u
 | 0,_,_,h=>aw h (uP _)
 | f+1,u,h,_=>by
  unfold xO;rw[Lib.decDigits];by_cases q:u<10
  ·simp[q]
  simp only[q,if_false,dite_false];have h1:u / 10<10 ^ f:=by rw[tA] at h;omega
  have hf:0<f:=by
   rcases f with _|f
   ·simp at h;omega
   omega
  rw[V8 f (u / 10) h1 hf]
instance Rx (a b:Int):CT Pq 177 [Sc (.int .u64 a),I b] [] (nY a b) (λx=>eu x) (λ_=>[]):=by
 refine Eo (λx hx E g w vs hR hv=>?_) JL;obtain ⟨⟨hb,h0,h1⟩,uz⟩:=KB hx;subst hb;cases uz;have hv:=vh hv;subst hv;obtain ⟨u,rfl⟩:∃ u:Nat,a=u:=⟨a.toNat,aD⟩;obtain ⟨el,fz,h3⟩:=hR.x.gf.2.2.2;have hw3:w.heap[3]?=E.wS.heap[3]?:=hR.x.set 3 (o8.1 h3).1;refine (Tryz.aiG u aD w (λn hn=>by unfold Lib.TabIs World.var?;rw[hn];simp only[sJ,hw3,h3])).mono ?_;rintro e w' ⟨rfl,k,os,rfl⟩;refine ⟨g,_,rfl,?_,hR.below ⟨rfl,rfl,rfl,?_,λj hj=>?_⟩⟩
 ·have:xO 20 ((u:Int).toNat)=Lib.decDigits u:=by
   rw[rW];exact V8 20 u aD aD
  rw[this];exact .pv (.sc _)
 ·simp[grow,World.drewN]
 simp only[grow,World.drewN];exact o6 hj
end Go.Abs
end
namespace Go.Abs
variable {E:Env} {n k sz off j nm id bytes m2:Nat} {ops:Array Oper} {s rd s' s1:List (Nat×cQ)} {α β:Type} {q:Prop} {b want:Bool} {c cells:List PV} {e t:TypeId} {f x ix:Operand} {args:List Operand} {ts:Array TypeId} {es:List cQ} {ks kn:List Nat} {k':IntKind} {ii i:Int} {parts:List (Nat×Operand)} {pl:List (Nat×Nat)} {fn:Func} {Q':gh} {fr:kG} {σ:fi} {op:Op} {rest:List Oper}
section
abbrev Er (l:List aB):AV:=.pv (.sl l.length (aB.Cs l))
abbrev ac8 (l:List aK):AV:=.pv (.sl l.length (aK.Cs l))
abbrev ω (l:List bh):AV:=.pv (.sl l.length (bh.Cs l))
abbrev Av (l:List ByS):AV:=.pv (.sl l.length (hO l))
open aG Go.Proofs
def aT {p:Prop} (h:p:=by first|exact rfl|assumption|infer_instance):p:=h
def iI {p:Prop} (h:p:=by infer_instance):p:=h
abbrev gV {X R:Type} (_k:Nat) (_a _b:List Nat) (_F:X->List (Nat×AV)) (_H:X->List (Nat×cQ)) (j:X->aG R) (p:(X->aG R)->aG R):aG R:=jn j p
abbrev dG {X R:Type} (_a _b:List Nat) (_F:X->List (Nat×AV)) (_H:X->List (Nat×cQ)) (body:(X->aG R)->X->aG R) (n:Nat) (v:X):aG R:=iter body n v
abbrev jnF {X R:Type} (_k:Nat) (_F:X->List (Nat×AV)) (_H:X->List (Nat×cQ)) (j:X->aG R) (p:(X->aG R)->aG R):aG R:=jn j p
abbrev Ni {X R:Type} (_F:X->List (Nat×AV)) (_H:X->List (Nat×cQ)) (body:(X->aG R)->X->aG R) (n:Nat) (x:X):aG R:=iter body n x
def uD {R:Type} (_L:List Nat) (x:aG R):aG R:=x
def drG {R:Type} (_L:List Nat) (x:aG R):aG R:=x
section
variable {P:Program} {Q:gh} {l:List (Nat×AV)} {ds:List (FuncId×List AV)}
 {ty:TypeId} {pos:String} {af:Array Edge} {d:Nat}
def Ry:AV->List Nat
 | .any|.oc|.pv _|.sp _=>[]
 | .ptr j _=>[j]
 | .arr j _=>[j]
 | .fn _ xs ys=>Es xs++Es ys
 | .agg cs=>Es cs
 | .lM cs=>Es cs
 | .vu _ v=>Ry v
where
 Es:List AV->List Nat
  | []=>[]
  | x::xs=>Ry x++Es xs
def XI:List Nat->List Nat->List Nat
 | [],_=>[]
 | k::l,acc=>match acc.any (Nat.beq k) with
  | true=>XI l acc
  | false=>k::XI l (k::acc)
def ac9:Option cQ->List Nat
 | some (.box cs)=>Ry.Es cs
 | _=>[]
def aiH (s:List (Nat×cQ)):Nat->List Nat->List Nat->List Nat
 | 0,_,acc=>acc
 | _+1,[],acc=>acc
 | n+1,k::todo,acc=>aiH s n (todo++XI (ac9 (dF s k)) acc) (acc++XI (ac9 (dF s k)) acc)
def ksB (s:List (Nat×cQ)) (vs:List AV):List Nat:=aiH s 16 (XI (Ry.Es vs) []) (XI (Ry.Es vs) [])
inductive HY:List Nat->List Nat->Prop
 | nil:HY [] []
 | cons {a:Nat} {l m:List Nat} (h:HY l m):HY (a::l) (a::m)
variable {a a':α} {X R:Type} {r:aG R} {C:α->List PV} {j5:FuncId} {fF first cap vs:List AV} {y:Operand} {m:Nat} {xs:List α} {cs:List AV} {v:AV} {pv:List (Nat×AV)} {out:List AV} {g:Nat} {ys:List α} {Cs:List α->List PV} {z:List AV} {L:List Nat} {l':List (Nat×AV)} {l1:List (Nat×AV)} {lj:List AV} {BE:List PV}
def akg {b b':β} {c d e c' d' e':Bool} (h:(a,b,c,d,e)=(a',b',c',d',e')) (hF:q):(a,b,c,d,q,e)=(a',b',c',d',True,e'):=by
 have:=eq_true hF;subst this;cases h;rfl
variable {res:aG X} {kk:X->aG R} {V V':X->AV} {C':X->List (Nat×cQ)}
def zk' {C:X->List cQ} (hr:r≠.stuck) (h:ag res kk=r) (h1:(bT l f,yN l args)=(some (.fn j5 first cap),some vs)) (_hL:HY (ksB s (first++vs++cap)) ks) (vN:Enters P j5) [hC:CT P j5 fF es res V C] (hk:(first++vs++cap,Al s ks,nodupB ks,PE l ds s ks ks es,Nat.blt d n)=(AV.lO.tB (nth ks) fF,some (pA (nth ks) es),true,true,true)) (hF:Fh E ks es) (hx:∀ x,((C x).length,pB (below ks.length) (C x),(V x).only (below ks.length),(V x).lO (nth ks),s8 ks (pA (nth ks) (C x)))=(ks.length,true,true,V' x,C' x)) (hp:∀ p fr σ,fr.ds=ds->r=.qH p->Q (.panic p.av) fr σ) (nP:∀ x,kk x=r->SL P E n ops Q rest (cx ((d,V' x)::l) ds) (bU (C' x++s))) :
 SL P E n ops Q (⟨some d,.call ⟨.value f,args.toArray,ts⟩,ty,pos,af,none⟩::rest) (cx l ds) (bU s):=zk hp hr h ks vN hC adL hx nP
def zBt {c:Operand} {x y:Code} (hb:bT l c=some (Bo b)) (h:b=true) (k:SW P E n x Q (cx l ds) (bU s)):SW P E n (.cond c x y) Q (cx l ds) (bU s):=GB hb (λ_=>k) (λq=>by rw[h] at q;cases q)
def zBf {c:Operand} {x y:Code} (hb:bT l c=some (Bo b)) (h:b=false) (k:SW P E n y Q (cx l ds) (bU s)):SW P E n (.cond c x y) Q (cx l ds) (bU s):=GB hb (λq=>by rw[h] at q;cases q) (λ_=>k)
def nT (h:(!b)=true):b=false:=by cases b with|true=>cases h|false=>rfl
def nF (h:(!b)=false):b=true:=by cases b with|true=>rfl|false=>cases h
def nT' (h:b=false):(!b)=true:=by subst h;rfl
def nF' (h:b=true):(!b)=false:=by subst h;rfl
def HZ:List AV->Option (List PV)
 | []=>some []
 | .pv c::l=>(HZ l).map (c::·)
 | _::_=>none
def CD:∀ {l:List AV} {m:List PV},HZ l=some m->l=m.map .pv
 | [],_,h=>by cases h;rfl
 | .pv c::l,m,h=>by
  cases h1:HZ l with
  | none=>simp[HZ,h1] at h
  | some k=>simp[HZ,h1] at h;subst h;rw[CD h1];rfl
inductive IM (k:IntKind):List AV->List Int->Prop
 | nil:IM k [] []
 | cons {a:Int} {l:List AV} {m:List Int} (h:IM k l m):IM k (Sc (.int k a)::l) (a::m)
def IM.eq {k:IntKind} {l:List AV} {m:List Int} (h:IM k l m):l=m.map λx=>Sc (.int k x):=by
 induction h with
 | nil=>rfl
 | cons _ ih=>rw[ih];rfl
def IM.len {k:IntKind} {l:List AV} {m:List Int} (h:IM k l m):l.length=m.length:=by rw[h.eq];simp
def aaA {k:IntKind} {xs:List Int} [ht:ug P t (.array m e)] [ha:nX P e false] [hz:yn P e 1] (hx:bT l x=some (.agg cs)) (hi:bT l ix=some (Sc (.int k i))) (hc:IM k' cs xs) (hn:cs.length=m) (h:0<=i/\i<m):mH P (.index t x ix) l ds s (Sc (.int k' (jx xs i))) []:=
 aeQ (λx=>Sc (.int k' x)) hx hi hc.eq (hc.len▸hn) h.1 h.2
def afi {kk:Nat} {k:IntKind} [ht:Z1 P t m sz] (hx:bT l x=some (.ptr kk off)) (hi:bT l ix=some (Sc (.int k i))) (h:0<=i/\i<m) :
 mH P (.indexAddr t x ix) l ds s (.ptr kk (off+i.toNat*sz)) []:=QT hx hi h.1 h.2
def aaB {xs:List Int} [ha:nX P t false] (hx:bT l x=some (.ptr k (0+i.toNat*1))) (hk:dF s k=some (.box cs)) (hc:IM k' cs xs) (hl:cs.length=m) (h:0<=i/\i<m) :
 mH P (.load t x) l ds s (Sc (.int k' (jx xs i))) [(k,.box cs)]:=aeR (λx=>Sc (.int k' x)) hx hk hc.eq h.1 Qi
def aiI {k:IntKind} {xs:List Int} {v:Int} (h:xs.length=4):(sy xs ii v).map (λx=>Sc (.int k x))=[Sc (.int k (jx (sy xs ii v) 0)),Sc (.int k (jx (sy xs ii v) 1)),Sc (.int k (jx (sy xs ii v) 2)),Sc (.int k (jx (sy xs ii v) 3))]:=akB _ (by simp[sy,h])
def akJ {kk:Nat} {v:Int} {k:IntKind} {xs:List Int} [ht:yn P t 1] (hx:bT l x=some (.ptr kk (0+ii.toNat*1))) (hk:dF s kk=some (.box cs)) (hc:IM k cs xs) (h4:cs.length=4) (hy:bT l y=some (Sc (.int k v))) (h:0<=ii/\ii<4) (hn:SL P E n ops Q rest (cx l ds) (bU ((kk,.box [Sc (.int k (jx (sy xs ii v) 0)),Sc (.int k (jx (sy xs ii v) 1)),Sc (.int k (jx (sy xs ii v) 2)),Sc (.int k (jx (sy xs ii v) 3))])::s))):SL P E n ops Q (⟨none,.store t x y,ty,pos,af,none⟩::rest) (cx l ds) (bU s):=
 aam (λx=>Sc (.int k x)) hx hk hc.eq hy h.1 Qi (λ_=>uA) (aiI Qi) hn
def ac_ (l:List PV):l=l.flatMap λc=>[c]:=by simp
def zfz {zs:List Value} [ht:ng P t m e sz zs pl] (h:parts.mapM (λp=>(bT l p.2).map λv=>(p.1,v))=some pv) (h2:nr pl (zs.map λv=>.pv (.sc v)) pv=some out) (h3:HZ out=some cells) (hd:Nat.blt d n=true) (hn:SL P E n ops Q rest (cx ((d,.pv (.sl m cells))::l) ds) (bU s)):SL P E n ops Q (⟨some d,.buildSlice t m parts.toArray,ty,pos,af,none⟩::rest) (cx l ds) (bU s):=acZ ⟨h,by rw[h2,CD h3]⟩ hd hn
def akK {zs:List Value} [ht:ng P t m e sz zs pl] (hj:((ops[j]?).bind (·.dst),mj l g)=(some g,some (Bo b))) (hb:b=want) (h:parts.mapM (λp=>(bT l p.2).map λv=>(p.1,v))=some pv) (h2:nr pl (zs.map λv=>.pv (.sc v)) pv=some out) (h3:HZ out=some cells) (hd:Nat.blt d n=true) (hn:SL P E n ops Q rest (cx ((d,.pv (.sl m cells))::l) ds) (bU s)):SL P E n ops Q (⟨some d,.buildSlice t m parts.toArray,ty,pos,af,some (j,want)⟩::rest) (cx l ds) (bU s):=
 aal (C:=λc=>[c]) (Cs:=λl=>l.flatMap λc=>[c]) cells (λ_=>rfl) hb ⟨p1 hj,p2 hj⟩ ⟨h,by rw[h2,CD h3];simp⟩ hd (ac_ cells▸hn)
def rk {α:Type} (_k:Nat) (C:α->List PV) (c:List PV) (xs:List α):Prop:=c=xs.flatMap C
def Rz (h:c=[]):rk k C c []:=by simp[rk,h]
def Dj {r:List PV} {y:α} (h:(c.take k,c.drop k)=(C y,r)) (h2:rk k C r ys):rk k C c (y::ys):=by
 unfold rk at *;rw[fk,<- h2,<- (Prod.mk.inj h).1,<- (Prod.mk.inj h).2,mI]
class Et (e:TypeId) (α:outParam Type) (C:outParam (α->List PV)) (Cs:outParam (List α->List PV)) (sz:outParam Nat):Prop where
 h:∀ l,Cs l=l.flatMap C
 n:∀ x,(C x).length=sz
 o:∀ x,PV.pq (C x)=true
def zfT {zs:List Value} (ht:ng P t m e sz zs pl) (hT:Et e α C Cs sz) (h:parts.mapM (λp=>(bT l p.2).map λv=>(p.1,v))=some pv) (h2:nr pl (zs.map λv=>.pv (.sc v)) pv=some out) (h3:HZ out=some cells) (h4:rk sz C cells xs) (hd:Nat.blt d n=true) (hn:SL P E n ops Q rest (cx ((d,.pv (.sl m (Cs xs)))::l) ds) (bU s)):SL P E n ops Q (⟨some d,.buildSlice t m parts.toArray,ty,pos,af,none⟩::rest) (cx l ds) (bU s):=by
 unfold rk at h4;subst h4;exact Kq xs hT.h ⟨h,by rw[h2,CD h3]⟩ hd hn
def zbb {u v:aG R} (h:br b u v=r) (h1:b=true->u=r->q) (h2:b=false->v=r->q):q:=zb b (λe=>h1 e (aep e h)) (λe=>h2 e (aeq e h))
inductive NzF (k:Nat):Prop
 | mk:NzF k
def aiJ:∀ l:List AV,FD l l
 | []=>.nil
 | v::l=>.cons (gT v) (aiJ l)
def afj {c d:List AV} (g:FD c d):∀ {a b:List AV},FD a b->FD (a++c) (b++d)
 | _,_,.nil=>g
 | _,_,.cons h t=>.cons h (afj g t)
def aiK:∀ {a b:List AV} (k:Nat),FD a b->FD (a.take k) (b.take k)
 | _,_,0,_=>by simpa using FD.nil
 | _,_,_+1,.nil=>.nil
 | _,_,k+1,.cons h t=>.cons h (aiK k t)
def aiL:∀ {a b:List AV} (k:Nat),FD a b->FD (a.drop k) (b.drop k)
 | _,_,0,h=>by simpa using h
 | _,_,_+1,.nil=>.nil
 | _,_,k+1,.cons _ t=>aiL k t
def aiM:∀ {a b:List AV},FD a b->a.length=b.length
 | _,_,.nil=>rfl
 | _,_,.cons _ t=>iy Nat.succ (aiM t)
def H0:∀ {pv:List (Nat×AV)} {a b o:List AV},FD a b->nr pl b pv=some o->∃ o1,nr pl a pv=some o1/\FD o1 o
 | [],a,b,o,h,e=>⟨a,rfl,by simp only[nr,Option.some.injEq] at e;exact e▸h⟩
 | (i,v)::rest,a,b,o,h,e=>by
  simp only[nr] at e ⊢;cases h1:pl[i]? with
  | none=>simp[h1] at e
  | some os=>
   cases h2:v.jl with
   | none=>simp[h1,h2] at e
   | some vc=>
    simp only[h1,h2] at e ⊢
    have hl:=aiM h
    rw[hl]
    split at e
    ·rename_i hc;rw[aL hc];exact H0 (afj (aiL _ h) (afj (aiJ _) (aiK _ h))) e
    ·cases e
class NzT (P:Program) (t:TypeId) (zs:outParam (List Value)) (z:outParam (List AV)):Prop where
 h:Vh P t=some zs
 e:AV.VI (zs.map λv=>AV.pv (.sc v))=z
class akL (t:TypeId) (v:outParam AV):Prop where
 h:AV.pv (.sl 0 [])=v
def Α {X:Type} (_nz:Nat) (P:Program) (fn:Func) (args:List AV) (es:List cQ) (res:aG X) (V:X->AV) (C:X->List cQ):Prop:=
 ∃ c,(fn.body,Nat.ble args.length fn.ntmps)=(some c,true)/\∀ r,(∀ p fr (σ:fi),fr.ds=[]->r=.qH p->vL P fn (yw V C (λx=>r=.ok x) (λv=>∃ p,r=.qH p/\v=p.av)) (.panic p.av) fr σ)->res=r->r≠.stuck->∀ E:Env,(∀ k,fc es k=true->E.fix k=none)->
  SW P E fn.ntmps c (vL P fn (yw V C (λx=>r=.ok x) (λv=>∃ p,r=.qH p/\v=p.av))) (cx ((List.range args.length).zip args) []) (bU (gi 0 es))
def aiN {nz:Nat} {c:Code} {args:List AV} {C:X->List cQ} (hb:(fn.body,Nat.ble args.length fn.ntmps)=(some c,true)) (h:NzF nz->∀ r,(∀ p fr (σ:fi),fr.ds=[]->r=.qH p->vL P fn (yw V C (λx=>r=.ok x) (λv=>∃ p,r=.qH p/\v=p.av)) (.panic p.av) fr σ)->res=r->r≠.stuck->∀ E:Env,(∀ k,fc es k=true->E.fix k=none)->
 SW P E fn.ntmps c (vL P fn (yw V C (λx=>r=.ok x) (λv=>∃ p,r=.qH p/\v=p.av))) (cx ((List.range args.length).zip args) []) (bU (gi 0 es))):Α nz P fn args es res V C:=⟨c,hb,h .mk⟩
def zal {z:List Value} [hz:qG P t z] {zs:List AV} (hE:∀ k,fc es k=true->E.fix k=none) (h:(100+d,fc es (100+d),z.map (λv=>AV.pv (.sc v)),mA (100+d) l,jS (100+d) ds,px (100+d) s,Nat.blt d n)=(nm,true,zs,false,false,false,true)) (hn:SL P E n ops Q rest (cx ((d,.ptr nm 0)::l) ds) (bU ((nm,.box zs)::s))):SL P E n ops Q (⟨some d,.alloc t,ty,pos,af,none⟩::rest) (cx l ds) (bU s):=by
 have e:=p1 h;subst e;exact gH (100+d) (hE _ BT) ⟨p1 pY,p1 yY,p1 BW,p1 DU⟩ A6 hn
def akM {zs:List Value} (_h:NzF 1) (hE:∀ k,fc es k=true->E.fix k=none) (hq:NzT P t zs z) (h:(100+d,fc es (100+d),mA (100+d) l,jS (100+d) ds,px (100+d) s,Nat.blt d n)=(nm,true,false,false,false,true)) (hn:SL P E n ops Q rest (cx ((d,.ptr nm 0)::l) ds) (bU ((nm,.box z)::(nm,.box (zs.map λv=>.pv (.sc v)))::s))):SL P E n ops Q (⟨some d,.alloc t,ty,pos,af,none⟩::rest) (cx l ds) (bU s):=by
 have e:=p1 h;subst e;have:qG P t zs:=⟨hq.h⟩;exact Xp (100+d) (hE _ BT) ⟨hq.e,p1 pY,p1 yY,p1 BW⟩ DU hn
def zeN {zs:List Value} (_h:NzF 1) (ht:lr P t zs pl) (hq:NzT P t zs z) (hp:parts.mapM (λp=>(bT l p.2).map λv=>(p.1,v))=some pv) (h:nr pl z pv=some out) (hd:Nat.blt d n=true) (hn:SL P E n ops Q rest (cx ((d,.agg out)::l) ds) (bU s)):SL P E n ops Q (⟨some d,.build t parts.toArray,ty,pos,af,none⟩::rest) (cx l ds) (bU s):=by
 obtain ⟨o1,h1,h2⟩:=H0 (hq.e▸sM _) h;exact et ((Gp hp h1).LY (AV.Kf h2)) hd hn
def zsN {e:cQ} [ht:yn P t m] (_h:NzF 1) (hv:akL t v) (h:(bT l x,dF s k,e.FG,bT l y,m,Nat.ble (off+1) e.cells.length)=(some (.ptr k off),some e,true,some (nSl),1,true)) (hc:(e.put off [nSl],cs[off]?)=(.box cs,some (nSl))) (hn:SL P E n ops Q rest (cx l ds) (bU ((k,.box (cs.set off v))::(k,.box cs)::s))):SL P E n ops Q (⟨none,.store t x y,ty,pos,af,none⟩::rest) (cx l ds) (bU s):=
 QW ⟨p1 h,p1 (p2 h),p1 pY,p1 yY,rfl,rfl,(p1 BW).symm,p2 BW⟩ (λe' q=>by
  have q:e.put off [nSl]=e':=q;rw[p1 hc] at q;subst q;cases hv.h;exact lD (ac2 k off (by simp[dF]) (p2 hc) rfl) hn)
def zbx {c:List AV} (hE:∀ k,fc es k=true->E.fix k=none) (h:(100+d,fc es (100+d),bT l x,v.jl,AV.iQ.ka (100+d) c,mA (100+d) l,jS (100+d) ds,px (100+d) s,AV.pq c,Nat.blt d n)=(nm,true,some v,some c,false,false,false,false,true,true)) (hn:SL P E n ops Q rest (cx ((d,.ptr nm 0)::l) ds) (bU ((nm,.box c)::s))):SL P E n ops Q (⟨some d,.box t x,ty,pos,af,none⟩::rest) (cx l ds) (bU s):=by
 have e:=p1 h;subst e;exact HL (100+d) (hE _ BT) ⟨p1 pY,p1 yY,p1 BW,p1 DU,p1 A6,p1 (p2 A6),p1 JS⟩ (p2 JS) hn
class Β {α:Type} (Cs:List α->List PV) (C:outParam (α->List PV)) (n:outParam Nat):Prop where
 h:∀ l,Cs l=l.flatMap C
 n:∀ x,(C x).length=n
def aiO {f:α->List PV} {k:IntKind} [ht:PL P t e sz] (hx:bT l x=some (.pv (.sl m (Cs xs)))) (hc:Β Cs f sz) (hm:m=xs.length) (hi:bT l ix=some (Sc (.int k i))) (h0:0<=i) (h1:i<xs.length) (ha:xs[i.toNat]?=some a) :
 mH P (.indexAddr t x ix) l ds s (.sp (f a++(xs.flatMap f).drop ((i.toNat+1)*sz))) []:=HS hc.h hc.n h0 h1 ha hx hm hi
def zK' {C:X->List cQ} (hr:r≠.stuck) (h:ag res kk=r) (hj:((ops[j]?).bind (·.dst),mj l g)=(some g,some (Bo b))) (hb:b=want) (h1:(bT l f,yN l args)=(some (.fn j5 first cap),some vs)) (_hL:HY (ksB s (first++vs++cap)) ks) (vN:Enters P j5) [hC:CT P j5 fF es res V C] (hk:(first++vs++cap,Al s ks,nodupB ks,PE l ds s ks ks es,Nat.blt d n)=(AV.lO.tB (nth ks) fF,some (pA (nth ks) es),true,true,true)) (hF:Fh E ks es) (hx:∀ x,((C x).length,pB (below ks.length) (C x),(V x).only (below ks.length),(V x).lO (nth ks),s8 ks (pA (nth ks) (C x)))=(ks.length,true,true,V' x,C' x)) (hp:∀ p fr σ,fr.ds=ds->r=.qH p->Q (.panic p.av) fr σ) (nP:∀ x,kk x=r->SL P E n ops Q rest (cx ((d,V' x)::l) ds) (bU (C' x++s))) :
 SL P E n ops Q (⟨some d,.call ⟨.value f,args.toArray,ts⟩,ty,pos,af,some (j,want)⟩::rest) (cx l ds) (bU s):=zK hb hj hp hr h ks vN hC adL hx nP
def afk {kk:Nat} {k:IntKind} [ht:Z1 P t m sz] (hx:bT l x=some (.ptr kk off)) (hi:bT l ix=some (Sc (.int k i))) (h:(decide (0<=i),decide (i<m))=(true,true)) :
 mH P (.indexAddr t x ix) l ds s (.ptr kk (off+i.toNat*sz)) []:=QT hx hi (bg (p1 h)) (bg (p2 h))
def aiP {c a b:Operand} {t:Bool} (hc:bT l c=some (Bo t)) (ha:bT l a=some v) (ht:t=true):mH P (.pick c a b) l ds s v []:=VE ht hc ha
def aiQ {c a b:Operand} {t:Bool} (hc:bT l c=some (Bo t)) (ha:bT l b=some v) (ht:t=false):mH P (.pick c a b) l ds s v []:=VF ht hc ha
def zSk {c:Code} (k:∀ fr σ,SW P E n c Q' fr σ->Q .normal fr σ) (h:SW P E n c Q' fr σ):SW P E n .skip Q fr σ:=lZ (k _ _ h)
def zLb {c:Code} (k:∀ fr σ,SW P E n c Q' fr σ->Q .normal fr σ) (h:SW P E n c Q' fr σ):SW P E n (.label id) Q fr σ:=J6 (k _ _ h)
variable {F:X->List (Nat×AV)} {H:X->List (Nat×cQ)}
def akN {j:X->aG R} {v:X} (h:j v=r) (k:∀ v l s,j v=r->(gF l (F v),gS s (H v))=(gF (F v) (F v),gS (H v) (H v))->Q .normal (cx l ds) (bU s)) (e:(gF l (F v),gS s (H v))=(gF (F v) (F v),gS (H v) (H v))):SW P E n (.label id) Q (cx l ds) (bU s):=J6 (k _ _ _ h e)
def zEx {c:Code} (k:∀ fr σ,SW P E n c Q' fr σ->Q (.exit id) fr σ) (h:SW P E n c Q' fr σ):SW P E n (.exit id) Q fr σ:=GP (k _ _ h)
def zQj {j:X->aG R} {v:X} (h:j v=r) (k:∀ v l s,j v=r->(gF l (F v),gS s (H v))=(gF (F v) (F v),gS (H v) (H v))->Q .normal (cx l ds) (bU s)) (e:(gF l (F v),gS s (H v))=(gF (F v) (F v),gS (H v) (H v))):SL P E n ops Q [] (cx l ds) (bU s):=rJ (k _ _ _ h e)
def akO {j:X->aG R} {v:X} (h:j v=r) (k:∀ v l s,j v=r->(gF l (F v),gS s (H v))=(gF (F v) (F v),gS (H v) (H v))->Q .normal (cx l ds) (bU s)) (e:(gF l (F v),gS s (H v))=(gF (F v) (F v),gS (H v) (H v))):SW P E n .skip Q (cx l ds) (bU s):=lZ (k _ _ _ h e)
def akP {j:X->aG R} {v:X} (h:j v=r) (k:∀ v l s,j v=r->(gF l (F v),gS s (H v))=(gF (F v) (F v),gS (H v) (H v))->Q (.exit id) (cx l ds) (bU s)) (e:(gF l (F v),gS s (H v))=(gF (F v) (F v),gS (H v) (H v))):SW P E n (.exit id) Q (cx l ds) (bU s):=GP (k _ _ _ h e)
variable {p:(X->aG R)->aG R}
def zMF {x y:Code} {j:X->aG R} (h:jnF 0 F H j p=r) (hy:∀ v,j v=r->SW P E n y Q (cx (F v) ds) (bU (H v))) (hx:∀ (j':X->aG R) (K:kG->fi->Prop),(∀ v l s,j' v=r->(gF l (F v),gS s (H v))=(gF (F v) (F v),gS (H v) (H v))->K (cx l ds) (bU s))->p j'=r->SW P E n x (Bb K Q) (cx l ds) (bU s)):SW P E n (.seq x y) Q (cx l ds) (bU s):=zM h F H hy hx
def zMS {x y:Code} {j:X->aG R} (h:jnF (k+1) F H j p=r) (hx:∀ K:kG->fi->Prop,(∀ fr σ,SW P E n y Q fr σ->K fr σ)->jnF k F H j p=r->SW P E n x (Bb K Q) fr σ):SW P E n (.seq x y) Q fr σ:=bz λK hK=>hx K hK h
variable {body:(X->aG R)->X->aG R}
def zLF {c:Code} {v:X} (hr:r≠.stuck) (h0:Ni F H body m v=r) (h1:(gF l (F v),gS s (H v))=(gF (F v) (F v),gS (H v) (H v))) (hx:∀ (next:X->aG R) (v:X) (K:kG->fi->Prop),(∀ v l s,next v=r->(gF l (F v),gS s (H v))=(gF (F v) (F v),gS (H v) (H v))->K (cx l ds) (bU s))->body next v=r->SW P E n c (Bb K Q) (cx (F v) ds) (bU (H v))) :
 SW P E n (.loop c) Q (cx l ds) (bU s):=zL hr h0 F H h1 hx
variable {lo hi:Operand}
def aiR {k:IntKind} {j:Int} {c:ByS} [ht:ug P t .string] (hx:bT l x=some (eu c)) (hl:bT l lo=some (Sc (.int k i))) (hh:bT l hi=some (Sc (.int k' j))) (h:0<=i/\i<=j/\j<=c.length):mH P (.slice t x (some lo) (some hi) none) l ds s (eu ((c.drop i.toNat).take (j.toNat - i.toNat))) []:=ah8 hx hl hh h.1 h.2.1 h.2.2
def aaC {k:IntKind} {c:ByS} [ht:ug P t .string] (hx:bT l x=some (eu c)) (hl:bT l lo=some (Sc (.int k i))) (h:0<=i/\i<=c.length):mH P (.slice t x (some lo) none none) l ds s (eu (c.drop i.toNat)) []:=Je hx hl h.1 h.2
def aaD {k:IntKind} {j:Int} {c:ByS} [ht:ug P t .string] (hx:bT l x=some (eu c)) (hh:bT l hi=some (Sc (.int k j))) (h:0<=j/\j<=c.length):mH P (.slice t x none (some hi) none) l ds s (eu (c.take j.toNat)) []:=ů hx hh h.1 h.2
def zg' (h:((ops[j]?).bind (·.dst),mj l g,Nat.blt d n)=(some g,some (Bo b),true)) (hb:b = !want) (hn:SL P E n ops Q rest (cx ((d,Sc undef)::l) ds) (bU s)):SL P E n ops Q (⟨some d,op,ty,pos,af,some (j,want)⟩::rest) (cx l ds) (bU s):=zg hb h hn
def zG' (h:((ops[j]?).bind (·.dst),mj l g,Nat.blt d n)=(some g,some (Bo b),true)) (hb:b=want) (he:mH P op l ds s v rd) (hn:SL P E n ops Q rest (cx ((d,v)::l) ds) (bU s)):SL P E n ops Q (⟨some d,op,ty,pos,af,some (j,want)⟩::rest) (cx l ds) (bU s):=zG hb h he hn
def zPn {p:sT} (h:.qH p=r) (hx:bT l x=some p.av) (hp:∀ p fr σ,fr.ds=ds->r=.qH p->Q (.panic p.av) fr σ):SL P E n ops Q (⟨none,.panic x,ty,pos,af,none⟩::rest) (cx l ds) (bU s):=aeD p hx (hp p _ _ rfl h.symm)
def zDr {x:aG R} (h:uD L x=r) (hm:P.follows .mixedOrders=true) (Ee:chk ops L=true) (k:x=r->DW P E n ops Q L [] fr σ):SW P E n (.region id ops true) Q fr σ:=sb L hm Ee (k h)
end
section
variable {P:Program} {Q:gh} {B:List Rec->kG->fi->Prop} {i:Nat} {L:List Nat} {bj:List Rec} {l:List (Nat×AV)} {ds:List (FuncId×List AV)}
 {ty:TypeId} {pos:String} {af:Array Edge} {d:Nat}
variable {a a':α} {X R:Type} {r:aG R} {C:α->List PV} {j5:FuncId} {fF first cap vs:List AV} {y:Operand} {m:Nat} {xs:List α} {cs:List AV} {v:AV} {pv:List (Nat×AV)} {out:List AV} {g:Nat} {ys:List α} {Cs:List α->List PV} {z:List AV} {l':List (Nat×AV)} {l1:List (Nat×AV)} {lj:List AV} {BE:List PV}
def zQn {c:Code} (k:∀ fr σ,SW P E n c Q' fr σ->Q .normal fr σ) (h:SW P E n c Q' (cx l ds) (bU s)):DW P E n ops Q [] bj (cx l ds) (bU s):=An (k _ _ h)
variable {F:X->List (Nat×AV)} {H:X->List (Nat×cQ)}
def akQ {j:X->aG R} {v:X} (h:j v=r) (k:∀ v l s,j v=r->(gF l (F v),gS s (H v))=(gF (F v) (F v),gS (H v) (H v))->Q .normal (cx l ds) (bU s)) (e:(gF l (F v),gS s (H v))=(gF (F v) (F v),gS (H v) (H v))):DW P E n ops Q [] bj (cx l ds) (bU s):=An (k _ _ _ h e)
def aaE:Nat->List AV->List AV
 | _,[]=>[]
 | 0,v::l=>v::l.map λ_=>.any
 | k+1,_::l=>.any::aaE k l
def Γ:∀ l:List AV,wkC l (l.map λ_=>.any)
 | []=>trivial
 | _::l=>⟨.inr rfl,Γ l⟩
def V9:∀ (k:Nat) (l:List AV),wkC l (aaE k l)
 | 0,[]=>trivial
 | _+1,[]=>trivial
 | 0,_::l=>⟨.inl rfl,Γ l⟩
 | k+1,_::l=>⟨.inr rfl,V9 k l⟩
def Wa:∀ (k:Nat) (l:List AV),(aaE k l)[k]?=l[k]?
 | 0,[]=>rfl
 | _+1,[]=>rfl
 | 0,_::_=>rfl
 | k+1,_::l=>Wa k l
def afl [ha:nX P t false] (hx:bT l x=some (.ptr k off)) (hk:dF s k=some (.box cs)) (hv:cs[off]?=some v) :
 mH P (.load t x) l ds s v [(k,.box (aaE off cs))]:=ae4 _ hx hk (V9 off cs) (by rw[Wa,hv])
def zdn (ho:ops[i]?=some ⟨some d,op,ty,pos,af,some (j,want)⟩) (hj:((ops[j]?).bind (·.dst),mj l g)=(some g,some (Bo b))) (hb:b = !want) (hc:(fB ⟨some d,op,ty,pos,af,some (j,want)⟩,Nat.blt d n)=(false,true)) (hn:oN P E n ops Q B L (⟨i,some d,[],none⟩::bj) (cx ((d,Sc undef)::l) ds) (bU s)):oN P E n ops Q B (i::L) bj (cx l ds) (bU s):=aim hb ho ⟨p1 hj,p2 hj⟩ ⟨p1 hc,p2 hc⟩ hn
def zdg (ho:ops[i]?=some ⟨some d,op,ty,pos,af,some (j,want)⟩) (hj:((ops[j]?).bind (·.dst),mj l g)=(some g,some (Bo b))) (hb:b=want) (h:mH P op l ds s v rd) (hc:(fB ⟨some d,op,ty,pos,af,some (j,want)⟩,Nat.blt d n,FH ops i v rd bj)=(false,true,true)) (hn:oN P E n ops Q B L (⟨i,some d,rd,none⟩::bj) (cx ((d,v)::l) ds) (bU s)):oN P E n ops Q B (i::L) bj (cx l ds) (bU s):=ail hb ho ⟨p1 hj,p2 hj⟩ h ⟨p1 hc,p1 (p2 hc),p2 (p2 hc)⟩ hn
def zda (ho:ops[i]?=some ⟨some d,.assign x,ty,pos,af,none⟩) (h:(bT l x,Nat.blt d n,nt bj)=(some v,true,true)) (E7:qn ops i s bj) (hn:oN P E n ops Q B L bj (cx ((d,v)::l) ds) (bU s)) :
 oN P E n ops Q B (i::L) bj (cx l ds) (bU s):=HQ ho (p1 h) BT E7 pY hn
def zds {e:cQ} {c:List AV} (ho:ops[i]?=some ⟨none,.store t x y,ty,pos,af,none⟩) (ht:yn P t m) (h:(bT l x,dF s k,e.FG,bT l y,v.jl,AV.pq c,c.length,Nat.ble (off+c.length) e.cells.length,nt bj)=(some (.ptr k off),some e,true,some v,some c,true,m,true,true)) (E7:qn ops i ((k,e.put off c)::s) bj) (hn:oN P E n ops Q B L bj (cx l ds) (bU ((k,e.put off c)::s))):oN P E n ops Q B (i::L) bj (cx l ds) (bU s):=
 sa ho ⟨p1 h,p1 (p2 h),p1 pY,p1 yY,p1 BW,p1 DU,p1 A6,p1 (p2 A6)⟩ JS
  (λ_ q=>q▸⟨E7,hn⟩)
def zdl {z:List Value} {zs:List AV} (hE:∀ k,fc es k=true->E.fix k=none) (ho:ops[i]?=some ⟨some d,.alloc t,ty,pos,af,none⟩) (hz:qG P t z) (h:(100+d,fc es (100+d),z.map (λv=>AV.pv (.sc v)),mA (100+d) l,jS (100+d) ds,px (100+d) s,dF s (100+d),fB ⟨some d,.alloc t,ty,pos,af,none⟩,Nat.blt d n,zj (100+d) bj)=(nm,true,zs,false,false,false,none,false,true,true)) (hn:oN P E n ops Q B L (⟨i,some d,[],some nm⟩::bj) (cx ((d,.ptr nm 0)::l) ds) (bU ((nm,.box zs)::s))):oN P E n ops Q B (i::L) bj (cx l ds) (bU s):=by
 have e:=p1 h;subst e;exact X' ho (w4 rfl) (100+d) (hE _ BT) ⟨p1 pY,p1 yY,p1 BW,p1 DU,p1 A6⟩ ⟨p1 (p2 A6),p1 JS,p2 JS,p2 JS⟩ hn
def zdf {zs:List Value} (ho:ops[i]?=some ⟨some d,.buildSlice t m parts.toArray,ty,pos,af,none⟩) (ht:ng P t m e sz zs pl) (h:parts.mapM (λp=>(bT l p.2).map λv=>(p.1,v))=some pv) (h2:nr pl (zs.map λv=>.pv (.sc v)) pv=some out) (h3:HZ out=some cells) (hc:(fB ⟨some d,.buildSlice t m parts.toArray,ty,pos,af,none⟩,Nat.blt d n)=(false,true)) (hn:oN P E n ops Q B L (⟨i,some d,[],none⟩::bj) (cx ((d,.pv (.sl m cells))::l) ds) (bU s)):oN P E n ops Q B (i::L) bj (cx l ds) (bU s):=
 Of (C:=λc=>[c]) (Cs:=λl=>l.flatMap λc=>[c]) cells (λ_=>rfl) ho (w4 rfl) ⟨h,by rw[h2,CD h3];simp⟩ ⟨p1 hc,p2 hc⟩ (ac_ cells▸hn)
def zdT {zs:List Value} (ho:ops[i]?=some ⟨some d,.buildSlice t m parts.toArray,ty,pos,af,none⟩) (ht:ng P t m e sz zs pl) (hT:Et e α C Cs sz) (h:parts.mapM (λp=>(bT l p.2).map λv=>(p.1,v))=some pv) (h2:nr pl (zs.map λv=>.pv (.sc v)) pv=some out) (h3:HZ out=some cells) (h4:rk sz C cells xs) (hc:(fB ⟨some d,.buildSlice t m parts.toArray,ty,pos,af,none⟩,Nat.blt d n)=(false,true)) (hn:oN P E n ops Q B L (⟨i,some d,[],none⟩::bj) (cx ((d,.pv (.sl m (Cs xs)))::l) ds) (bU s)):oN P E n ops Q B (i::L) bj (cx l ds) (bU s):=by
 unfold rk at h4;subst h4;exact Of xs hT.h ho (w4 rfl) ⟨h,by rw[h2,CD h3]⟩ ⟨p1 hc,p2 hc⟩ hn
def zeD {zs:List Value} (_h:NzF 1) (ho:ops[i]?=some ⟨some d,.build t parts.toArray,ty,pos,af,none⟩) (ht:lr P t zs pl) (hq:NzT P t zs z) (hp:parts.mapM (λp=>(bT l p.2).map λv=>(p.1,v))=some pv) (h:nr pl z pv=some out) (hc:(fB ⟨some d,.build t parts.toArray,ty,pos,af,none⟩,Nat.blt d n,FH ops i (.agg out) [] bj)=(false,true,true)) (hn:oN P E n ops Q B L (⟨i,some d,[],none⟩::bj) (cx ((d,.agg out)::l) ds) (bU s)):oN P E n ops Q B (i::L) bj (cx l ds) (bU s):=by
 obtain ⟨o1,h1,h2⟩:=H0 (hq.e▸sM _) h;exact ac0 ho ((Gp hp h1).LY (AV.Kf h2)) ⟨p1 hc,p1 (p2 hc),p2 (p2 hc)⟩ hn
def zdx {kk:Nat} {v:Int} {k:IntKind} {xs:List Int} (ho:ops[i]?=some ⟨none,.store t x y,ty,pos,af,none⟩) (ht:yn P t 1) (hx:bT l x=some (.ptr kk (0+ii.toNat*1))) (hk:dF s kk=some (.box cs)) (hc:IM k cs xs) (h4:cs.length=4) (hy:bT l y=some (Sc (.int k v))) (h:0<=ii/\ii<4) (hq:(quiet ops i bj,nt bj)=(true,true)) (hn:oN P E n ops Q B L bj (cx l ds) (bU ((kk,.box [Sc (.int k (jx (sy xs ii v) 0)),Sc (.int k (jx (sy xs ii v) 1)),Sc (.int k (jx (sy xs ii v) 2)),Sc (.int k (jx (sy xs ii v) 3))])::s))):oN P E n ops Q B (i::L) bj (cx l ds) (bU s):=
 aao (λx=>Sc (.int k x)) ho hx hk hc.eq hy h.1 Qi (λ_=>uA) (aiI Qi) (p2 hq) ⟨ky (p1 hq),hn⟩
def zdu (ho:ops[i]?=some ⟨some d,op,ty,pos,af,some (j,want)⟩) (hj:((ops[j]?).bind (·.dst),mj l g)=(some g,some (Sc undef))) (hc:(fB ⟨some d,op,ty,pos,af,some (j,want)⟩,Nat.blt d n)=(false,true)) (hn:oN P E n ops Q B L (⟨i,some d,[],none⟩::bj) (cx ((d,Sc undef)::l) ds) (bU s)):oN P E n ops Q B (i::L) bj (cx l ds) (bU s):=aih ho ⟨p1 hj,p2 hj⟩ ⟨p1 hc,p2 hc⟩ hn
def zdU (ho:ops[i]?=some ⟨some d,op,ty,pos,af,some (j,want)⟩) (hj:((ops[j]?).bind (·.dst),mj l g)=(some g,some (Sc undef))) (hc:(fB ⟨some d,op,ty,pos,af,some (j,want)⟩,Nat.blt d n)=(true,true)) (hn:oN P E n ops Q B L bj (cx ((d,Sc undef)::l) ds) (bU s)):oN P E n ops Q B (i::L) bj (cx l ds) (bU s):=aeo ho ⟨p1 hj,p2 hj⟩ ⟨p1 hc,p2 hc⟩ hn
def zdN (ho:ops[i]?=some ⟨some d,op,ty,pos,af,some (j,want)⟩) (hj:((ops[j]?).bind (·.dst),mj l g)=(some g,some (Bo b))) (hb:b = !want) (hc:(fB ⟨some d,op,ty,pos,af,some (j,want)⟩,Nat.blt d n)=(true,true)) (hn:oN P E n ops Q B L bj (cx ((d,Sc undef)::l) ds) (bU s)):oN P E n ops Q B (i::L) bj (cx l ds) (bU s):=aez hb ho ⟨p1 hj,p2 hj⟩ ⟨p1 hc,p2 hc⟩ hn
variable {res:aG X} {kk:X->aG R} {V V':X->AV} {C':X->List (Nat×cQ)}
def zdc {C:X->List cQ} (hr:r≠.stuck) (h:ag res kk=r) (ho:ops[i]?=some ⟨some d,.call ⟨.value f,args.toArray,ts⟩,ty,pos,af,none⟩) (h1:(bT l f,yN l args)=(some (.fn j5 first cap),some vs)) (_hL:HY (ksB s (first++vs++cap)) ks) (vN:Enters P j5) [hC:CT P j5 fF es res V C] (hk:(first++vs++cap,Al s ks,nodupB ks,PE l ds s ks ks es,Nat.blt d n,Eh ks bj)=(AV.lO.tB (nth ks) fF,some (pA (nth ks) es),true,true,true,true)) (hF:Fh E ks es) (hx:∀ x,((C x).length,pB (below ks.length) (C x),(V x).only (below ks.length),(V x).lO (nth ks),s8 ks (pA (nth ks) (C x)))=(ks.length,true,true,V' x,C' x)) (E7:∀ x,qn ops i (C' x++s) bj) (hp:∀ p fr σ,fr.ds=ds->r=.qH p->Q (.panic p.av) fr σ) (nP:∀ x,kk x=r->oN P E n ops Q B L bj (cx ((d,V' x)::l) ds) (bU (C' x++s))):oN P E n ops Q B (i::L) bj (cx l ds) (bU s):=
 Ko ho (w4 rfl) hr h ks vN hC ⟨p1 h1,p2 h1,p1 hk,p1 (p2 hk),p1 (p2 (p2 hk)),p1 Ig,hF⟩ (p1 (p2 Ig)) (p2 (p2 Ig))
  (λx=>⟨p1 (hx x),p1 (p2 (hx x)),p1 F0⟩) (λx=>⟨p1 (p2 F0),p2 (p2 F0)⟩) hp λx q=>⟨E7 x,nP x q⟩
def zdC {C:X->List cQ} (hr:r≠.stuck) (h:ag res kk=r) (ho:ops[i]?=some ⟨some d,.call ⟨.value f,args.toArray,ts⟩,ty,pos,af,some (j,want)⟩) (hj:((ops[j]?).bind (·.dst),mj l g)=(some g,some (Bo b))) (hb:b=want) (h1:(bT l f,yN l args)=(some (.fn j5 first cap),some vs)) (_hL:HY (ksB s (first++vs++cap)) ks) (vN:Enters P j5) [hC:CT P j5 fF es res V C] (hk:(first++vs++cap,Al s ks,nodupB ks,PE l ds s ks ks es,Nat.blt d n,Eh ks bj)=(AV.lO.tB (nth ks) fF,some (pA (nth ks) es),true,true,true,true)) (hF:Fh E ks es) (hx:∀ x,((C x).length,pB (below ks.length) (C x),(V x).only (below ks.length),(V x).lO (nth ks),s8 ks (pA (nth ks) (C x)))=(ks.length,true,true,V' x,C' x)) (E7:∀ x,qn ops i (C' x++s) bj) (hp:∀ p fr σ,fr.ds=ds->r=.qH p->Q (.panic p.av) fr σ) (nP:∀ x,kk x=r->oN P E n ops Q B L bj (cx ((d,V' x)::l) ds) (bU (C' x++s))):oN P E n ops Q B (i::L) bj (cx l ds) (bU s):=
 Ko ho (ain hb rfl ⟨p1 hj,p2 hj⟩) hr h ks vN hC ⟨p1 h1,p2 h1,p1 hk,p1 (p2 hk),p1 (p2 (p2 hk)),p1 Ig,hF⟩ (p1 (p2 Ig)) (p2 (p2 Ig))
  (λx=>⟨p1 (hx x),p1 (p2 (hx x)),p1 F0⟩) (λx=>⟨p1 (p2 F0),p2 (p2 F0)⟩) hp λx q=>⟨E7 x,nP x q⟩
end
section
variable {P:Program} {Q:gh} {l:List (Nat×AV)} {ds:List (FuncId×List AV)}
 {ty:TypeId} {pos:String} {af:Array Edge} {d:Nat}
def oz {R:Type} (_k:List (List Nat)) (x:aG R):aG R:=x
def jU {R:Type} (_k:List (List Nat)) (x:aG R):aG R:=x
inductive xy {α:Type}:List α->List α->Prop
 | nil:xy [] []
 | cons {a:α} {l m:List α} (h:xy l m):xy (a::l) (a::m)
variable {a a':α} {X R:Type} {r:aG R} {C:α->List PV} {j5:FuncId} {fF first cap vs:List AV} {y:Operand} {m:Nat} {xs:List α} {cs:List AV} {v:AV} {pv:List (Nat×AV)} {out:List AV} {g:Nat} {ys:List α} {Cs:List α->List PV} {z:List AV} {L:List Nat} {l':List (Nat×AV)} {l1:List (Nat×AV)} {lj:List AV} {BE:List PV}
def xy.eq {l m:List α} (h:xy l m):l=m:=by
 induction h with
 | nil=>rfl
 | cons _ ih=>rw[ih]
def mkF (nm k:Nat) (l:List (Nat×AV)):List Nat->List (Nat×AV)
 | []=>[]
 | i::is=>match mj l i with
  | some v=>match v.iQ k with
   | true=>mkF nm k l is
   | false=>(i,v.lO (wU nm k))::mkF nm k l is
  | none=>mkF nm k l is
def KC {l:List (Nat×AV)}:∀ is,Xq nm k l (mkF nm k l is)
 | []=>trivial
 | i::is=>by
  unfold mkF;cases hv:mj l i with
  | none=>exact KC is
  | some v=>
   cases hm:v.iQ k with
   | true=>simp only[hm];exact KC is
   | false=>simp only[hm];exact ⟨⟨v,hv,hm,rfl⟩,KC is⟩
def mkS (nm k:Nat) (s:List (Nat×cQ)):List Nat->List (Nat×cQ)
 | []=>[]
 | i::is=>match dF s i with
  | some e=>match e.mq k||(Nat.beq i nm||Nat.beq i k) with
   | true=>mkS nm k s is
   | false=>(i,e.lO (wU nm k))::mkS nm k s is
  | none=>mkS nm k s is
def KD {s:List (Nat×cQ)}:∀ is,Xr nm k s (mkS nm k s is)
 | []=>trivial
 | i::is=>by
  unfold mkS;cases hv:dF s i with
  | none=>exact KD is
  | some e=>
   cases hm:e.mq k||(Nat.beq i nm||Nat.beq i k) with
   | true=>simp only[hm];exact KD is
   | false=>
    simp only[hm]
    have h1:=lq.1 hm
    have h2:=lq.1 h1.2
    exact ⟨⟨e,hv,h1.1,rfl,h2.1,h2.2⟩,KD is⟩
def vZ (_k:List (List Nat)) (E:Env) (n:Nat) (l:List (Nat×AV)) (ds:List (FuncId×List AV)) (s:List (Nat×cQ)) (l':List (Nat×AV)) (s':List (Nat×cQ)):Prop:=ml E n l ds s l' s'
def zgS {k:List (List Nat)} {x:aG R} (h:oz k x=r) (hg:vZ k E n l ds s l' s') (hn:x=r->SL P E n ops Q rest (cx l' ds) (bU s')):SL P E n ops Q rest (cx l ds) (bU s):=lD hg (hn h)
def zgN {k:List (List Nat)} {x:aG R} (h:jU k x=r) (hg:vZ k E n l ds s l' s') (hn:x=r->SL P E n ops Q [] (cx l' ds) (bU s')):SL P E n ops Q [] (cx l ds) (bU s):=lD hg (hn h)
def zgT {k:List (List Nat)} {x:aG R} (h:jU k x=r) (hg:vZ k E n l ds s l' s') (hn:x=r->SW P E n .ret Q (cx l' ds) (bU s')):SW P E n .ret Q (cx l ds) (bU s):=nA hg (hn h)
def zgW {c:Code} {k:List (List Nat)} {x:aG R} (h:jU k x=r) (hg:vZ k E n l ds s l' s') (hn:x=r->SW P E n c Q (cx l' ds) (bU s')):SW P E n c Q (cx l ds) (bU s):=nA hg (hn h)
def afm {el:TypeId} (hE:∀ k,fc es k=true->E.fix k=none) (h:(fc es k,Nat.beq nm k,dF s nm,jS nm ds,jS k ds)=(true,false,some (.app el sz cells),false,false)) (_hh:((mkF nm k l ks).length,(mkS nm k s kn).length)=(ks.length,kn.length)) (hl:xy l1 (mkF nm k l ks)) (hs:xy s1 (mkS nm k s kn)):vZ [[1,nm,k],ks,kn] E n l ds s l1 ((k,.app el sz cells)::s1):=by
 rw[hl.eq,hs.eq];exact Q0 nm k _ _ (hE _ (p1 h)) BT (p1 pY) ⟨p1 yY,p2 yY⟩ (KC ks) (KD kn)
def aaH {el:TypeId} (hE:∀ k,fc es k=true->E.fix k=none) (h:(fc es k,Nat.beq nm k,dF s nm,jS nm ds,jS k ds)=(true,false,some (.arr el sz cells),false,false)) (_hh:((mkF nm k l ks).length,(mkS nm k s kn).length)=(ks.length,kn.length)) (hl:xy l1 (mkF nm k l ks)) (hs:xy s1 (mkS nm k s kn)):vZ [[2,nm,k],ks,kn] E n l ds s l1 ((k,.arr el sz cells)::s1):=by
 rw[hl.eq,hs.eq];exact E' nm k _ _ (hE _ (p1 h)) BT (p1 pY) ⟨p1 yY,p2 yY⟩ (KC ks) (KD kn)
def Et.nil (h:Et e α C Cs sz):Cs []=[]:=by rw[h.h];rfl
def aaI {el:TypeId} (hE:∀ k,fc es k=true->E.fix k=none) (hi:Et el α C Cs sz) (h:(fc es nm,mj l d,mA nm l,jS nm ds,px nm s)=(true,some (nSl),false,false,false)):vZ [[3,d,nm,sz,el]] E n l ds s ((d,.arr nm (List.length ([]:List α)))::l) ((nm,.app el sz (Cs []))::s):=by
 rw[hi.nil];exact aeC nm (hE _ (p1 h)) BT ⟨p1 pY,p1 yY,p2 yY⟩
def Δ {el:TypeId} (hE:∀ k,fc es k=true->E.fix k=none) (hi:Et el α C Cs sz) (h:(fc es nm,mj l d,mA nm l,jS nm ds,px nm s)=(true,some (nSl),false,false,false)):vZ [[4,d,nm,sz,el]] E n l ds s ((d,.arr nm (List.length ([]:List α)))::l) ((nm,.arr el sz (Cs []))::s):=by
 rw[hi.nil];exact aag nm (hE _ (p1 h)) BT ⟨p1 pY,p1 yY,p2 yY⟩
def Ε {el:TypeId} (hE:∀ k,fc es k=true->E.fix k=none) (hi:Et el α C Cs sz) (h:(fc es nm,dF s j,mA nm l,jS nm ds,px nm s,Nat.beq j nm)=(true,some (.box cs),false,false,false,false)) (hc:cs[off]?=some (nSl)) (hl:xy lj (cs.set off (.arr nm (List.length ([]:List α))))) :
  vZ [[5,j,off,nm,sz,el]] E n l ds s l ((j,.box lj)::(nm,.app el sz (Cs []))::s):=by
 rw[hi.nil,hl.eq];exact I8 nm (hE _ (p1 h)) BT hc ⟨p1 pY,p1 yY,p1 BW⟩ DU
def XJ {el:TypeId} (hE:∀ k,fc es k=true->E.fix k=none) (hi:Et el α C Cs sz) (h:(fc es nm,dF s j,mA nm l,jS nm ds,px nm s,Nat.beq j nm)=(true,some (.box cs),false,false,false,false)) (hc:cs[off]?=some (nSl)) (hl:xy lj (cs.set off (.arr nm (List.length ([]:List α))))) :
  vZ [[6,j,off,nm,sz,el]] E n l ds s l ((j,.box lj)::(nm,.arr el sz (Cs []))::s):=by
 rw[hi.nil,hl.eq];exact T' nm (hE _ (p1 h)) BT hc ⟨p1 pY,p1 yY,p1 BW⟩ DU rfl
def aiS (h:dF s j=some (.box cs)) (hl:xy lj (AV.VI cs)):vZ [[7,j]] E n l ds s l ((j,.box lj)::s):=by rw[hl.eq];exact CH j h rfl
def afn {c:Nat} (h:dF s j=some (.box cs)) (hv:cs[c]?=some v) (hl:xy lj (cs.set c v.nz)):vZ [[8,j,c]] E n l ds s l ((j,.box lj)::s):=by rw[hl.eq];exact ac2 j c h hv rfl
def afo (h:mj l d=some v):vZ [[9,d]] E n l ds s ((d,v.nz)::l) s:=VT h rfl
def aaJ (h:mj l d=some (.agg cs)) (hl:xy lj (AV.VI cs)):vZ [[10,d]] E n l ds s ((d,.agg lj)::l) s:=by rw[hl.eq];exact aeU h rfl
def Ζ {el:TypeId} (hE:∀ k,fc es k=true->E.fix k=none) (h:dF s j=some (.box cs)) (hc:cs[off]?=some (.arr k m)) (hk:(fc es k,dF s k)=(true,some (.arr el sz cells))) (hi:Et el α C Cs sz) (hx:(cells,m,Nat.blt 0 sz)=(Cs xs,List.length xs,true)) (hl:xy lj (cs.set off (.pv (.sl xs.length (Cs xs))))) :
  vZ [[11,j,off]] E n l ds s l ((j,.box lj)::tE k s):=by
 rw[hl.eq];exact aaf hi.h hi.n (p2 (p2 hx)) h (hc.trans U4) ((p2 hk).trans (by rw[p1 hx])) (hE _ (p1 hk)) rfl
def aaK {el:TypeId} (hE:∀ k,fc es k=true->E.fix k=none) (h:mj l d=some (.arr k m)) (hk:(fc es k,dF s k)=(true,some (.arr el sz cells))) (hi:Et el α C Cs sz) (hx:(cells,m,Nat.blt 0 sz)=(Cs xs,List.length xs,true)) :
  vZ [[12,d]] E n l ds s ((d,.pv (.sl xs.length (Cs xs)))::l) (tE k s):=
 O' hi.h hi.n (p2 (p2 hx)) (h.trans U4) ((p2 hk).trans (by rw[p1 hx])) (hE _ (p1 hk))
def XK {el:TypeId} (h:dF s j=some (.box cs)) (hc:cs[off]?=some (.arr k m)) (hk:dF s k=some (.app el sz cells)) (hi:Et el α C Cs sz) (hx:(cells,m,Nat.blt 0 sz)=(Cs xs,List.length xs,true)) (hl:xy lj (cs.set off (.pv (.sl xs.length (Cs xs))))) :
  vZ [[13,j,off]] E n l ds s l ((j,.box lj)::s):=by
 rw[hl.eq];exact F' hi.h hi.n (p2 (p2 hx)) h (hc.trans U4) (hk.trans (by rw[p1 hx])) rfl
def Η {el:TypeId} (h:mj l d=some (.arr k m)) (hk:dF s k=some (.app el sz cells)) (hi:Et el α C Cs sz) (hx:(cells,m,Nat.blt 0 sz)=(Cs xs,List.length xs,true)):vZ [[14,d]] E n l ds s ((d,.pv (.sl xs.length (Cs xs)))::l) s:=
 ż hi.h hi.n (p2 (p2 hx)) (h.trans U4) (hk.trans (by rw[p1 hx]))
def aaL {el:TypeId} (hE:∀ k,fc es k=true->E.fix k=none) (h:(fc es nm,mA nm l,jS nm ds,px nm s)=(true,false,false,false)):vZ [[15,nm,sz,el]] E n l ds s l ((nm,.app el sz [])::s):=
 S' nm (hE _ (p1 h)) ⟨p1 (p2 h),p1 pY,p2 pY⟩
def aaM {el:TypeId} (h:mj l d=some (.arr k m)) (hk:dF s k=some (.arr el sz cells)) (hi:Et el α C Cs sz) (hx:cells=Cs xs) (hm:m=List.length xs) :
 vZ [[17,d]] E n l ds s ((d,.arr k xs.length)::l) s:=TE d h hm
def zap {a:Operand} (hE:∀ k,fc es k=true->E.fix k=none) (hT:ug P t (.slice e)) (hi:Et e α C Cs sz) (hB:tD P e sz bytes) (h:(bT l a,dF s k)=(some (.arr k m),some (.app e sz cells))) (LN:(cells,m)=(Cs xs,List.length xs)) (hx:bT l x=some (.pv (.sl m2 BE))) (hys:(BE,m2)=(Cs ys,List.length ys)) (hm:(fc es (100+d),mA (100+d) l,jS (100+d) ds,Eg (100+d) [k] s,Nat.blt d n)=(true,false,false,false,true)) (hg:ob bytes xs.length ys.length) (hn:SL P E n ops Q rest (cx ((d,.arr (100+d) (List.length (xs++ys)))::l) ds) (bU ((100+d,.app e sz (Cs (xs++ys)))::tE k s))):SL P E n ops Q (⟨some d,.call ⟨.builtin .append,#[a,x],#[t,t]⟩,ty,pos,af,none⟩::rest) (cx l ds) (bU s):=
 Od (100+d) ō IE hn
def akS {a:Operand} (hE:∀ k,fc es k=true->E.fix k=none) (hT:ug P t (.slice e)) (hi:Et e α C Cs sz) (hB:tD P e sz bytes) (h:(bT l a,dF s k)=(some (.arr k m),some (.arr e sz cells))) (LN:(cells,m)=(Cs xs,List.length xs)) (hx:bT l x=some (.pv (.sl m2 BE))) (hys:(BE,m2)=(Cs ys,List.length ys)) (hm:(fc es (100+d),mA (100+d) l,jS (100+d) ds,Eg (100+d) [k] s,Nat.blt d n)=(true,false,false,false,true)) (hg:ob bytes xs.length ys.length) (hn:SL P E n ops Q rest (cx ((d,.arr (100+d) (List.length (xs++ys)))::l) ds) (bU ((100+d,.arr e sz (Cs (xs++ys)))::tE k s))):SL P E n ops Q (⟨some d,.call ⟨.builtin .append,#[a,x],#[t,t]⟩,ty,pos,af,none⟩::rest) (cx l ds) (bU s):=
 aai (100+d) ō IE hn
def zbs {x:aG R} {zs:List Value} (h0:oz [[20,d]] x=r) (hE:∀ k,fc es k=true->E.fix k=none) (ht:ng P t m e sz zs pl) (hT:Et e α C Cs sz) (h:parts.mapM (λp=>(bT l p.2).map λv=>(p.1,v))=some pv) (h2:nr pl (zs.map λv=>.pv (.sc v)) pv=some out) (h3:HZ out=some cells) (h4:rk sz C cells xs) (hm:(xs.length,Nat.ble m 1000,fc es (100+d),mA (100+d) l,jS (100+d) ds,px (100+d) s,Nat.blt d n)=(m,true,true,false,false,false,true)) (hn:x=r->SL P E n ops Q rest (cx ((d,.arr (100+d) xs.length)::l) ds) (bU ((100+d,.app e sz (Cs xs))::s))):SL P E n ops Q (⟨some d,.buildSlice t m parts.toArray,ty,pos,af,none⟩::rest) (cx l ds) (bU s):=by
 unfold rk at h4;subst h4;exact aeY (100+d) xs hT.h hT.n (hE _ (p1 (p2 (p2 hm)))) Y8 ⟨p1 (p2 (p2 (p2 hm))),p1 IE,p1 (p2 IE)⟩ (p2 (p2 IE)) (hn h0)
variable {r0:aG R}
def zvw {el:TypeId} (h0:oz [[22,d]] r0=r) (hx:bT l x=some (.arr k m)) (hk:dF s k=some (.app el sz cells)) (hi:Et el α C Cs sz) (LN:(cells,m,Nat.blt 0 sz,Nat.blt d n)=(Cs xs,List.length xs,true,true)) (hn:r0=r->SL P E n ops Q rest (cx ((d,.pv (.sl xs.length (Cs xs)))::l) ds) (bU s)):SL P E n ops Q (⟨some d,.move x,ty,pos,af,none⟩::rest) (cx l ds) (bU s):=
 et (Ž hi.h hi.n (p1 (p2 (p2 LN))) (hx.trans (by rw[p1 (p2 LN)])) (hk.trans (by rw[p1 LN]))) (p2 (p2 (p2 LN))) (hn h0)
def zvl {el:TypeId} {e:cQ} [ha:nX P t false] (h0:oz [[22,d]] r0=r) (hx:(bT l x,dF s k)=(some (.ptr k off),some e)) (hv:e.cells[off]?=some (.arr j m)) (hk:dF s j=some (.app el sz cells)) (hi:Et el α C Cs sz) (LN:(cells,m,Nat.blt 0 sz,Nat.blt d n)=(Cs xs,List.length xs,true,true)) (hn:r0=r->SL P E n ops Q rest (cx ((d,.pv (.sl xs.length (Cs xs)))::l) ds) (bU s)):SL P E n ops Q (⟨some d,.load t x,ty,pos,af,none⟩::rest) (cx l ds) (bU s):=
 et (Hs hi.h hi.n (p1 (p2 (p2 LN))) (p1 hx) (p2 hx) (hv.trans (by rw[p1 (p2 LN)])) (hk.trans (by rw[p1 LN]))) (p2 (p2 (p2 LN))) (hn h0)
variable {B:List Rec->kG->fi->Prop} {i:Nat} {bj:List Rec}
def nz1:AV->AV
 | .agg cs=>.agg (AV.VI cs)
 | v=>v.nz
def Θ (v:AV):v.le (nz1 v):=by
 cases v with
 | agg cs=>exact AV.Kf (sM cs)
 | _=>exact AV.VH _
def RA:∀ l:List AV,FD l (l.map nz1)
 | []=>.nil
 | v::l=>.cons (Θ v) (RA l)
def nz2:AV->AV
 | .lM vs=>.lM (vs.map nz1)
 | v=>nz1 v
def afp (v:AV):v.le (nz2 v):=by
 cases v with
 | lM vs=>exact AV.aed (RA vs)
 | _=>exact Θ _
variable {V:X->AV}
def zXN {C:X->List cQ} {r:aG X} {H:AV->Prop} {x:X} (hr:PJ P (cx l []) (bU s) fn.results.toList vs) (hg:.ok x=r) (hm:(nz2 (yu vs),gM s 0 (C x))=(V x,(C x).map some)) :
 vL P fn (yw V C (λx=>r=.ok x) H) .ret (cx l []) (bU s):=BS (.inl rfl) x hr hg.symm (p1 hm▸afp _) (aar (p2 hm))
def akT {e:cQ} {c:List AV} (ho:ops[i]?=some ⟨none,.store t x y,ty,pos,af,none⟩) (ht:yn P t m) (h:(bT l x,dF s k,e.FG,bT l y,v.jl,AV.pq c,c.length,Nat.ble (off+c.length) e.cells.length,nt (mi ops bj i))=(some (.ptr k off),some e,true,some v,some c,true,m,true,true)) (E7:qn ops i ((k,e.put off c)::s) bj) (hn:oN P E n ops Q B L bj (cx l ds) (bU ((k,e.put off c)::s))):oN P E n ops Q B (i::L) bj (cx l ds) (bU s):=
 XA ho ⟨p1 h,p1 (p2 h),p1 pY,p1 yY,p1 BW,p1 DU,p1 A6,p1 (p2 A6)⟩ JS λ_ q=>q▸⟨E7,hn⟩
def AV.aiT:AV->PV
 | .pv p=>p
 | _=>.pt none
def UpC {α:Type} (C:α->List PV) (c:List PV) (a:α):Prop:=C a=c
def reL (k m:Nat):List (Nat×AV)->List (Nat×AV)
 | []=>[]
 | (d,.arr j x)::l=>(if Nat.beq j k then (d,.arr j m) else (d,.arr j x))::reL k m l
 | p::l=>p::reL k m l
def akU {q:Nat} {i:Int} {c:List AV} {vs:List PV} (h:(bT l x,bT l y,v.jl)=(some (.ptr k (i.toNat*sz+off)),some v,some c)) (hk:dF s k=some (.arr e q cells)) (hi:Et e α C Cs sz) (hq:(q,cells)=(sz,Cs xs)) (h0:0<=i) (ha:xs[i.toNat]?=some a) (ht:yn P t m) (hv:c.map AV.aiT=vs) (h2:(c,PV.pq vs,vs.length,Nat.ble (off+vs.length) sz,reL k xs.length l)=(vs.map .pv,true,m,true,l)) (hu:UpC C ((C a).take off++vs++(C a).drop (off+vs.length)) a') (hn:SL P E n ops Q rest (cx (reL k (List.length (xs.set i.toNat a')) l) ds) (bU ((k,.arr e sz (Cs (xs.set i.toNat a')))::tE k s))):SL P E n ops Q (⟨none,.store t x y,ty,pos,af,none⟩::rest) (cx l ds) (bU s):=by
 have q1:=p1 hq;have q2:=p2 hq;subst q1;subst q2;rw[ra,p2 (p2 (p2 (p2 h2)))] at hn;exact TB ⟨hi.h,hi.n,h0,ha,p1 h,hk,p1 (p2 h),(p2 (p2 h)).trans (iy some (p1 h2)),p1 (p2 h2),ht.h,p1 (p2 (p2 h2)),p1 (p2 (p2 (p2 h2))),hu⟩ hn
def akV {a b:TypeId} {u:TypeDesc} {c:ByS} (hs:ug P a u) (ht:ug P b (.slice e)) (he:ug P e (.int .u8)) (h:(bT l x,Nat.blt d n)=(some (eu c),true)) (hn:SL P E n ops Q rest (cx ((d,.pv (.sl (ofBytes c).length (G1 (ofBytes c))))::l) ds) (bU s)):SL P E n ops Q (⟨some d,.convert a b x,ty,pos,af,none⟩::rest) (cx l ds) (bU s):=
 ae8 (Cs:=G1) (p1 h) (λ_=>rfl) (p2 h) hn
def akW {x:aG R} (h:drG L x=r) (hm:P.follows .mixedOrders=true) (Ee:chk ops L=true) (k:x=r->DW P E n ops (GN E n ds Q) L [] (cx l ds) (bU s)):SW P E n (.region id ops true) Q (cx l ds) (bU s):=VO ds (sb L hm Ee (k h))
def GQ (E:Env) (n:Nat) (ds:List (FuncId×List AV)) (Q:gh) (l:List (Nat×AV)) (s:List (Nat×cQ)):Prop:=∃ l' s',ml E n l ds s l' s'/\Q .normal (cx l' ds) (bU s')
def zGq (h:GQ E n ds Q l s):DW P E n ops (GN E n ds Q) [] bj (cx l ds) (bU s):=let ⟨_,_,a,b⟩:=h;VW a b
def zGg {k:List (List Nat)} {x:aG R} (h:jU k x=r) (hg:vZ k E n l ds s l' s') (hn:x=r->GQ E n ds Q l' s'):GQ E n ds Q l s:=let ⟨_,_,a,b⟩:=hn h;⟨_,_,ml.trans hg a,b⟩
def zGn {c:Code} (k:∀ fr σ,SW P E n c Q' fr σ->Q .normal fr σ) (h:SW P E n c Q' (cx l ds) (bU s)):GQ E n ds Q l s:=⟨l,s,aae _ _,k _ _ h⟩
variable {F:X->List (Nat×AV)} {H:X->List (Nat×cQ)}
def zGj {j:X->aG R} {v:X} (h:j v=r) (k:∀ v l s,j v=r->(gF l (F v),gS s (H v))=(gF (F v) (F v),gS (H v) (H v))->Q .normal (cx l ds) (bU s)) (e:(gF l (F v),gS s (H v))=(gF (F v) (F v),gS (H v) (H v))):GQ E n ds Q l s:=⟨l,s,aae _ _,k _ _ _ h e⟩
def zGr (h:Q .normal (cx l ds) (bU s)):GQ E n ds Q l s:=⟨l,s,aae _ _,h⟩
def akX (ho:ops[i]?=some ⟨some d,.assign x,ty,pos,af,none⟩) (h:(bT l x,Nat.blt d n,nt (mi ops bj i))=(some v,true,true)) (E7:qn ops i s bj) (hn:oN P E n ops Q B L bj (cx ((d,v)::l) ds) (bU s)) :
 oN P E n ops Q B (i::L) bj (cx l ds) (bU s):=TC ho (p1 h) BT E7 pY hn
def Ι {f:α->List PV} {o:Option α} {y:α} (hx:bT l x=some (.pv (.pt (Option.map f o)))) (ho:o=some y):mH P (.nilCheck x) l ds s (.sp (f y)) []:=VD (hx.trans (by rw[ho];rfl))
def zso {o:Option β} {k:β->aG R} (hr:r≠.stuck) (h:some? o k=r) (c:∀ x,o=some x->k x=r->q):q:=let ⟨y,a,b⟩:=aes hr h;c y a b
def TK {a a':Nat} {w:AV} {q:Nat->Bool} {f:Nat->Nat} {z z':List (Nat×cQ)} (h1:v.only q=true) (h2:v.lO f=w) (h3:(a,b,z)=(a',true,z')):(a,b,v.only q,v.lO f,z)=(a',true,true,w,z'):=by rw[h1,h2];cases h3;rfl
def akY {a:Operand} (hE:∀ k,fc es k=true->E.fix k=none) (ho:ops[i]?=some ⟨some d,.call ⟨.builtin .append,#[a,x],#[t,t]⟩,ty,pos,af,none⟩) (hT:ug P t (.slice e)) (hi:Et e α C Cs sz) (hB:tD P e sz bytes) (h:(bT l a,dF s k)=(some (.arr k m),some (.app e sz cells))) (LN:(cells,m)=(Cs xs,List.length xs)) (hx:bT l x=some (.pv (.sl m2 BE))) (hys:(BE,m2)=(Cs ys,List.length ys)) (hm:(fc es (100+d),mA (100+d) l,jS (100+d) ds,Eg (100+d) [k] s,Nat.blt d n,nt bj)=(true,false,false,false,true,true)) (hg:ob bytes xs.length ys.length) (E7:qn ops i ((100+d,.app e sz (Cs (xs++ys)))::tE k s) bj) (hn:oN P E n ops Q B L bj (cx ((d,.arr (100+d) (List.length (xs++ys)))::l) ds) (bU ((100+d,.app e sz (Cs (xs++ys)))::tE k s))):oN P E n ops Q B (i::L) bj (cx l ds) (bU s):=
 G' (100+d) ho (w4 rfl) ō (p1 IE) (p2 IE) ⟨E7,hn⟩
def aiU {a:Operand} (hE:∀ k,fc es k=true->E.fix k=none) (ho:ops[i]?=some ⟨some d,.call ⟨.builtin .append,#[a,x],#[t,t]⟩,ty,pos,af,none⟩) (hT:ug P t (.slice e)) (hi:Et e α C Cs sz) (hB:tD P e sz bytes) (h:(bT l a,dF s k)=(some (.arr k m),some (.arr e sz cells))) (LN:(cells,m)=(Cs xs,List.length xs)) (hx:bT l x=some (.pv (.sl m2 BE))) (hys:(BE,m2)=(Cs ys,List.length ys)) (hm:(fc es (100+d),mA (100+d) l,jS (100+d) ds,Eg (100+d) [k] s,Nat.blt d n,nt bj)=(true,false,false,false,true,true)) (hg:ob bytes xs.length ys.length) (E7:qn ops i ((100+d,.arr e sz (Cs (xs++ys)))::tE k s) bj) (hn:oN P E n ops Q B L bj (cx ((d,.arr (100+d) (List.length (xs++ys)))::l) ds) (bU ((100+d,.arr e sz (Cs (xs++ys)))::tE k s))):oN P E n ops Q B (i::L) bj (cx l ds) (bU s):=
 aaj (100+d) ho (w4 rfl) ō (p1 IE) (p2 IE) ⟨E7,hn⟩
variable {t2:TypeId} {d2:Nat} {ty2:TypeId} {pos2:String} {af2:Array Edge}
def akZ {zs:List Value} (_h:NzF 2) (ht:lr P t zs pl) (hq:NzT P t zs z) (hp:parts.mapM (λp=>(bT l p.2).map λv=>(p.1,v))=some pv) (h:nr pl z pv=some out) (hd:Nat.blt d n=true) (hn:SL P E n ops Q (⟨some d2,.buildSlice t2 1 #[(0,.tmp d)],ty2,pos2,af2,none⟩::rest) (cx ((d,.agg out)::l) ds) (bU s)):SL P E n ops Q (⟨some d,.build t parts.toArray,ty,pos,af,none⟩::⟨some d2,.buildSlice t2 1 #[(0,.tmp d)],ty2,pos2,af2,none⟩::rest) (cx l ds) (bU s):=
 zeN .mk ht hq hp h hd hn
def ak0 {zs:List Value} (_h:NzF 2) (ho:ops[i]?=some ⟨some d,.build t parts.toArray,ty,pos,af,none⟩) (_h2:ops[i+1]?=some ⟨some d2,.buildSlice t2 1 #[(0,.tmp d)],ty2,pos2,af2,none⟩) (ht:lr P t zs pl) (hq:NzT P t zs z) (hp:parts.mapM (λp=>(bT l p.2).map λv=>(p.1,v))=some pv) (h:nr pl z pv=some out) (hc:(fB ⟨some d,.build t parts.toArray,ty,pos,af,none⟩,Nat.blt d n,FH ops i (.agg out) [] bj)=(false,true,true)) (hn:oN P E n ops Q B L (⟨i,some d,[],none⟩::bj) (cx ((d,.agg out)::l) ds) (bU s)):oN P E n ops Q B (i::L) bj (cx l ds) (bU s):=zeD .mk ho ht hq hp h hc hn
def tG {R:Type} (_k:List (List Nat)) (x:aG R):aG R:=x
def zgR {k:List (List Nat)} {x:aG R} (h:tG k x=r) (hg:vZ k E n l ds s l' s') (hn:x=r->SW P E n .ret Q (cx l' ds) (bU s')):SW P E n .ret Q (cx l ds) (bU s):=nA hg (hn h)
def Κ:List AV->Bool
 | []=>false
 | .pv (.sc (.slice none 0 0))::_=>true
 | .pv (.sc (.pointer none))::_=>true
 | _::l=>Κ l
def zR0 (h:(dF s 0,Κ cs)=(some (.box cs),true)) (hn:SW P E n .ret Q (cx l ds) (bU ((0,.box (AV.VI cs))::s))):SW P E n .ret Q (cx l ds) (bU s):=nA (CH 0 (p1 h) rfl) hn
def zE2 {k:List (List Nat)} {x:aG R} (h:tG k x=r):jU k x=r:=h
def ak1 {x:aG R} {zs:List Value} (h0:oz [[21,d]] x=r) (hE:∀ k,fc es k=true->E.fix k=none) (ht:ng P t m e sz zs pl) (hT:Et e α C Cs sz) (h:parts.mapM (λp=>(bT l p.2).map λv=>(p.1,v))=some pv) (h2:nr pl (zs.map λv=>.pv (.sc v)) pv=some out) (h3:HZ out=some cells) (h4:rk sz C cells xs) (hm:(xs.length,Nat.ble m 1000,fc es (100+d),mA (100+d) l,jS (100+d) ds,px (100+d) s,Nat.blt d n)=(m,true,true,false,false,false,true)) (hn:x=r->SL P E n ops Q rest (cx ((d,.arr (100+d) xs.length)::l) ds) (bU ((100+d,.arr e sz (Cs xs))::s))):SL P E n ops Q (⟨some d,.buildSlice t m parts.toArray,ty,pos,af,none⟩::rest) (cx l ds) (bU s):=by
 unfold rk at h4;subst h4;exact aak (100+d) xs hT.h hT.n (hE _ (p1 (p2 (p2 hm)))) Y8 ⟨p1 (p2 (p2 (p2 hm))),p1 IE,p1 (p2 IE)⟩ (p2 (p2 IE)) (hn h0)
def ak2 {x:aG R} {zs:List Value} (h0:oz [[20,d]] x=r) (hE:∀ k,fc es k=true->E.fix k=none) (ho:ops[i]?=some ⟨some d,.buildSlice t m parts.toArray,ty,pos,af,none⟩) (ht:ng P t m e sz zs pl) (hT:Et e α C Cs sz) (h:parts.mapM (λp=>(bT l p.2).map λv=>(p.1,v))=some pv) (h2:nr pl (zs.map λv=>.pv (.sc v)) pv=some out) (h3:HZ out=some cells) (h4:rk sz C cells xs) (hm:(xs.length,Nat.ble m 1000,fc es (100+d),mA (100+d) l,jS (100+d) ds,px (100+d) s,dF s (100+d),fB ⟨some d,.buildSlice t m parts.toArray,ty,pos,af,none⟩,Nat.blt d n,nt (mi ops bj i),zj (100+d) bj)=(m,true,true,false,false,false,none,false,true,true,true)) (hn:x=r->oN P E n ops Q B L (⟨i,some d,[],some (100+d)⟩::bj) (cx ((d,.arr (100+d) xs.length)::l) ds) (bU ((100+d,.app e sz (Cs xs))::s))):oN P E n ops Q B (i::L) bj (cx l ds) (bU s):=by
 unfold rk at h4;subst h4;have q:=p2 (p2 (p2 hm));exact aeX xs hT.h hT.n ho (w4 rfl) (100+d) (hE _ (p1 (p2 (p2 hm)))) Y8 ⟨p1 q,p1 (p2 q),p1 (p2 (p2 q)),p1 (p2 (p2 (p2 q)))⟩ ⟨p1 (p2 (p2 (p2 (p2 q)))),p1 (p2 (p2 (p2 (p2 (p2 q))))),p1 (p2 (p2 (p2 (p2 (p2 (p2 q)))))),p2 (p2 (p2 (p2 (p2 (p2 (p2 q))))))⟩ (hn h0)
def aiV {i:BEq α} {b:α} (h1:(a !=b)=true) (h2:(a==b)=true):q:=by simp only[bne,h2] at h1;cases h1
def aiW {i:BEq α} {b:α} (h1:(a !=b)=false) (h2:(a==b)=false):q:=by simp only[bne,h2] at h1;cases h1
def YE {R:Type} (_L:List Nat) (_x _y:Nat) (v:aG R):aG R:=v
def ak3 {x y:Nat} {v:aG R} (h:YE L x y v=r) (hm:P.follows .mixedOrders=true) (Ee:ael ops L x y=true) (k:v=r->DX P E n ops (GN E n ds Q) x y L [] (cx l ds) (bU s)):SW P E n (.region id ops true) Q (cx l ds) (bU s):=VO ds (Z4 L x y hm Ee (k h))
def zNX {x y:Nat} (h1:DW P E n ops Q [x,y] bj (cx l ds) (bU s)) (h2:DW P E n ops Q [y,x] bj (cx l ds) (bU s)):DX P E n ops Q x y [] bj (cx l ds) (bU s):=⟨h1,h2⟩
def TL (l:List (Nat×AV)):List Nat->List (Nat×AV)
 | []=>[]
 | i::is=>match mj l i with
  | some v=>(i,v)::TL l is
  | none=>TL l is
def XL (s:List (Nat×cQ)):List Nat->List (Nat×cQ)
 | []=>[]
 | i::is=>match dF s i with
  | some v=>(i,v)::XL s is
  | none=>XL s is
def aaN {el:TypeId} (hE:∀ k,fc es k=true->E.fix k=none) (h:(fc es nm,(TL l ks).length,(XL s kn).length)=(true,ks.length,kn.length)) (_hl:xy l1 (TL l ks)) (_hs:xy s1 (XL s kn)) (h1:Di l l1 l1) (h2:FI s s1 s1) (hm:(mA nm l1,jS nm ds,px nm s1)=(false,false,false)):vZ [[19,nm,sz,el],ks,kn] E n l ds s l1 ((nm,.app el sz [])::s1):=aeT nm l1 s1 (hE _ (p1 h)) h1 h2 ⟨p1 hm,p1 (p2 hm),p2 (p2 hm)⟩
def enK {f:FuncId} (h:(match P.funcs[f]? with|some fn=>!(fn.name== "runtime.NumGoroutine")&&fn.body.isSome|none=>false)=true):Enters P f:=by
 intro a w;cases hf:P.funcs[f]? with
 | none=>rw[hf] at h;cases h
 | some fn=>
  rw[hf] at h
  simp only[bk,fj] at h
  have h1:=beq_eq_false_iff_ne.1 h.1
  have h2:fn.body≠none:=λe=>by rw[e] at h;exact aw h.2 dN
  simp[callFunc,cC,hf,h1,h2]
def aiX {kk:Nat} {X:List α} {z:α} [ht:PL P t e sz] (hx:bT l x=some (.arr kk (List.length (X++[z])))) (hi:bT l ix=some (Sc (.int .i64 X.length))) :
 mH P (.indexAddr t x ix) l ds s (.ptr kk ((List.length X:Int).toNat*sz)) []:=Ak hx hi (Int.natCast_nonneg _) (aan _ _)
class TM (e:TypeId) (α:outParam Type) (x:outParam α):Prop where
 t:True
def ak4 {zs:List Value} (ho:ops[i]?=some ⟨some d,.buildSlice t 1 parts.toArray,ty,pos,af,none⟩) (ht:ng P t 1 e sz zs pl) (_hz:TM e α a) (hT:Et e α C Cs sz) (h:parts.mapM (λp=>(bT l p.2).map λv=>(p.1,v))=some pv) (h2:nr pl (zs.map λv=>.pv (.sc v)) pv=some out) (h3:(AV.VI out,Κ out)=(([a].flatMap C).map .pv,true)) (hc:(fB ⟨some d,.buildSlice t 1 parts.toArray,ty,pos,af,none⟩,Nat.blt d n)=(false,true)) (hn:oN P E n ops Q B L (⟨i,some d,[],none⟩::bj) (cx ((d,.pv (.sl (List.length [a]) (Cs [a])))::l) ds) (bU s)):oN P E n ops Q B (i::L) bj (cx l ds) (bU s):=
 aeZ [a] hT.h ho (w4 rfl) ⟨h,h2,p1 h3⟩ ⟨p1 hc,p2 hc⟩ hn
def aiY {q:Nat} {c:List AV} {vs:List PV} (ho:ops[i]?=some ⟨none,.store t x y,ty,pos,af,none⟩) (h:(bT l x,bT l y,v.jl)=(some (.ptr k ((List.length xs:Int).toNat*sz)),some v,some c)) (hk:dF s k=some (.arr e q cells)) (hi:Et e α C Cs sz) (hq:(q,cells)=(sz,Cs (xs++[a]))) (ht:yn P t m) (hv:c.map AV.aiT=vs) (ha:vs=C a') (h2:(c,PV.pq vs,vs.length,Nat.ble (0+vs.length) sz,nt bj)=(vs.map .pv,true,m,true,true)) (E7:qn ops i ((k,.arr e sz (Cs (xs++[a'])))::tE k s) bj) (hn:oN P E n ops Q B L bj (cx l ds) (bU ((k,.arr e sz (Cs (xs++[a'])))::tE k s))):oN P E n ops Q B (i::L) bj (cx l ds) (bU s):=by
 have q1:=p1 hq;have q2:=p2 hq;subst q1;subst q2;refine ae6 (off:=0) xs ho ⟨hi.h,hi.n,Int.natCast_nonneg _,η _ _,p1 h,hk,p1 (p2 h),(p2 (p2 h)).trans (iy some (p1 h2)),p1 (p2 h2),ht.h,p1 (p2 (p2 h2)),p1 (p2 (p2 (p2 h2))),?_⟩ (p2 (p2 (p2 (p2 h2)))) ⟨E7,hn⟩;have l1:=hi.n a;have l2:=hi.n a';rw[ha,List.take_zero,tc,Nat.zero_add,l2,<- l1,List.drop_length,l9]
def aaO {el:TypeId} (hj:(dF s j,cs[off]?)=(some (.box cs),some (.arr k m))) (hk:dF s k=some (.arr el sz cells)) (hi:Et el α C Cs sz) (hx:cells=Cs xs) (hm:m=List.length xs) (hs:cs.set off (.arr k xs.length)=lj):vZ [[24,j,off]] E n l ds s l ((j,.box lj)::s):=ae7 j off (p1 hj) (p2 hj) hm hs
def ghK {R:Type} (_k:List Nat) (x:aG R):aG R:=x
variable {res:aG X} {kk:X->aG R} {V':X->AV} {C':X->List (Nat×cQ)}
def zkK {C:X->List cQ} {k0:List Nat} (hr:r≠.stuck) (h:ghK k0 (ag res kk)=r) (h1:(bT l f,yN l args)=(some (.fn j5 first cap),some vs)) (_hL:HY (ksB s (first++vs++cap)) ks) (_hl:xy l1 (TL l k0)) (hw:Di l l1 l1) (vN:Enters P j5) [hC:CT P j5 fF es res V C] (hk:(first++vs++cap,Al s ks,nodupB ks,PE l1 ds s ks ks es,Nat.blt d n)=(AV.lO.tB (nth ks) fF,some (pA (nth ks) es),true,true,true)) (hF:Fh E ks es) (hx:∀ x,((C x).length,pB (below ks.length) (C x),(V x).only (below ks.length),(V x).lO (nth ks),s8 ks (pA (nth ks) (C x)))=(ks.length,true,true,V' x,C' x)) (hp:∀ p fr σ,fr.ds=ds->r=.qH p->Q (.panic p.av) fr σ) (nP:∀ x,kk x=r->SL P E n ops Q rest (cx ((d,V' x)::l1) ds) (bU (C' x++s))) :
  SL P E n ops Q (⟨some d,.call ⟨.value f,args.toArray,ts⟩,ty,pos,af,none⟩::rest) (cx l ds) (bU s):=
 aeA l1 hw hr h ks vN hC ⟨p1 h1,p2 h1,p1 hk,p1 (p2 hk),p1 (p2 (p2 hk)),p1 Ig,hF⟩ (p2 Ig) (λx=>⟨p1 (hx x),p1 (p2 (hx x)),p1 F0⟩) (λx=>⟨p1 (p2 F0),p2 (p2 F0)⟩) hp nP
def ade:List (Nat×cQ)->List Nat
 | []=>[]
 | (k,.app _ _ [])::_=>[k]
 | (k,.arr _ _ [])::_=>[k]
 | _::s=>ade s
def zkN {C:X->List cQ} (hr:r≠.stuck) (h:ag res kk=r) (h1:(bT l f,yN l args)=(some (.fn j5 first cap),some vs)) (_hL:HY (ksB s (first++vs++cap)++ade s) ks) (vN:Enters P j5) [hC:CT P j5 fF es res V C] (hk:(first++vs++cap,Al s ks,nodupB ks,PE l ds s ks ks es,Nat.blt d n)=(AV.lO.tB (nth ks) fF,some (pA (nth ks) es),true,true,true)) (hF:Fh E ks es) (hx:∀ x,((C x).length,pB (below ks.length) (C x),(V x).only (below ks.length),(V x).lO (nth ks),s8 ks (pA (nth ks) (C x)))=(ks.length,true,true,V' x,C' x)) (hp:∀ p fr σ,fr.ds=ds->r=.qH p->Q (.panic p.av) fr σ) (nP:∀ x,kk x=r->SL P E n ops Q rest (cx ((d,V' x)::l) ds) (bU (C' x++s))) :
 SL P E n ops Q (⟨some d,.call ⟨.value f,args.toArray,ts⟩,ty,pos,af,none⟩::rest) (cx l ds) (bU s):=zk hp hr h ks vN hC adL hx nP
def zDh {k:List (List Nat)} {x:aG R} (h:oz k x=r) (hn:x=r->oN P E n ops Q B L bj fr σ):oN P E n ops Q B L bj fr σ:=hn h
variable {p:(X->aG R)->aG R}
def zMG {x y:Code} {j:X->aG R} {a b:List Nat} (h:gV 0 a b F H j p=r) (_hl:xy l1 (TL l a)) (_hs:xy s1 (XL s b)) (hy:∀ v,j v=r->SW P E n y Q (cx (F v++l1) ds) (bU (H v++s1))) (hx:∀ (j':X->aG R) (K:kG->fi->Prop),(∀ v l s,j' v=r->(gF l (F v++l1),gS s (H v++s1))=(gF (F v++l1) (F v++l1),gS (H v++s1) (H v++s1))->K (cx l ds) (bU s))->p j'=r->SW P E n x (Bb K Q) (cx l ds) (bU s)):SW P E n (.seq x y) Q (cx l ds) (bU s):=zM h (λv=>F v++l1) (λv=>H v++s1) hy hx
def zMT {x y:Code} {j:X->aG R} {a b:List Nat} (h:gV (k+1) a b F H j p=r) (hx:∀ K:kG->fi->Prop,(∀ fr σ,SW P E n y Q fr σ->K fr σ)->gV k a b F H j p=r->SW P E n x (Bb K Q) fr σ):SW P E n (.seq x y) Q fr σ:=bz λK hK=>hx K hK h
variable {body:(X->aG R)->X->aG R}
def zLG {c:Code} {v:X} {a b:List Nat} (hr:r≠.stuck) (h0:dG a b F H body m v=r) (_hl:xy l1 (TL l a)) (_hs:xy s1 (XL s b)) (h1:(gF l (F v++l1),gS s (H v++s1))=(gF (F v++l1) (F v++l1),gS (H v++s1) (H v++s1))) (hx:∀ (next:X->aG R) (v:X) (K:kG->fi->Prop),(∀ v l s,next v=r->(gF l (F v++l1),gS s (H v++s1))=(gF (F v++l1) (F v++l1),gS (H v++s1) (H v++s1))->K (cx l ds) (bU s))->body next v=r->SW P E n c (Bb K Q) (cx (F v++l1) ds) (bU (H v++s1))) :
 SW P E n (.loop c) Q (cx l ds) (bU s):=zL hr h0 (λv=>F v++l1) (λv=>H v++s1) h1 hx
def Λ {el:TypeId} (hE:∀ k,fc es k=true->E.fix k=none) (h:(fc es nm,mA nm l,jS nm ds,px nm s)=(true,false,false,false)):vZ [[18,nm,sz,el]] E n l ds s l ((nm,.arr el sz [])::s):=
 V1 nm (hE _ (p1 h)) ⟨p1 (p2 h),p1 pY,p2 pY⟩
def zeQ {l:List β} {i:Int} {k:β->aG R} {x:β} (hr:r≠.stuck) (h:el l i k=r) (hx:l[i.toNat]?=some x) (c:k x=r->q):q:=by
 obtain ⟨y,a,b,d,e⟩:=aii hr h;rw[hx] at d;cases d;exact c e
def jg {R:Type} (_n:Nat) (x:aG R):aG R:=x
def Cz {R:Type} (_n:Nat) (x:aG R):aG R:=x
def ak5 {x:aG R} (h:jg m x=r) (_hL:HY (List.range m) L) (hm:P.follows .mixedOrders=true) (Ee:chk ops L=true) (k:x=r->DW P E n ops Q L [] fr σ):SW P E n (.region id ops true) Q fr σ:=sb L hm Ee (k h)
def ak6 {x:aG R} (h:Cz m x=r) (_hL:HY (List.range m) L) (hm:P.follows .mixedOrders=true) (Ee:chk ops L=true) (k:x=r->DW P E n ops (GN E n ds Q) L [] (cx l ds) (bU s)):SW P E n (.region id ops true) Q (cx l ds) (bU s):=VO ds (sb L hm Ee (k h))
instance:Β ak.Cs ak.C 9:=⟨oh,rN⟩
instance:Β aK.Cs aK.C 11:=⟨oj,om⟩
instance:Β bh.Cs bh.C 6:=⟨bh.vW,bh.vX⟩
instance:Β fL.Cs fL.C 3:=⟨fL.vW,fL.vX⟩
instance:Β aB.Cs aB.C 4:=⟨oD,oC⟩
instance:Β cy.Cs cy.C 3:=⟨cy.vW,cy.vX⟩
instance:Β bP.Cs bP.C 3:=⟨nK,bP.vX⟩
instance:Β G1 Cu8 1:=⟨CF,Gr⟩
instance:Β HX Nd 1:=⟨Nh,Ng⟩
instance:Β hO XG 1:=⟨Rg,Rf⟩
instance:Et 38 ak ak.C ak.Cs 9:=⟨oh,rN,ak.Bg⟩
instance:Et 43 aK aK.C aK.Cs 11:=⟨oj,om,aK.Bg⟩
instance:Et 156 bh bh.C bh.Cs 6:=⟨bh.vW,bh.vX,bh.Bg⟩
instance:Et 58 fL fL.C fL.Cs 3:=⟨fL.vW,fL.vX,fL.Bg⟩
instance:Et 62 aB aB.C aB.Cs 4:=⟨oD,oC,aB.Bg⟩
instance:Et 192 cy cy.C cy.Cs 3:=⟨cy.vW,cy.vX,cy.Bg⟩
instance:Et 9 ByS XG hO 1:=⟨Rg,Rf,τ⟩
instance:Et 5 Int Cu8 G1 1:=⟨CF,Gr,Oj⟩
instance:Et 4 Bool Nd HX 1:=⟨Nh,Ng,XE⟩
instance:TM 38 ak (ak.mk 0 [] 0 [] [] [] [] [] 0):=⟨trivial⟩
instance:TM 156 bh (bh.mk 0 0 0 0 0 []):=⟨trivial⟩
def XM {v0 v1 v2 v3 v4 v5 v6 v7 v8 m5 m6 m7} (h:c=[.sc (.int .i64 v0),.sc (Go.Abs.S v1),.sc (.int .i64 v2),.sc (Go.Abs.S v3),.sc (Go.Abs.S v4),.sl m5 (ak.Cs v5),.sl m6 (aK.Cs v6),.sl m7 (hO v7),.sc (.int .i64 v8)]) (hm:(0,m5,m6,m7)=(0,v5.length,v6.length,v7.length)):UpC ak.C c (ak.mk v0 v1 v2 v3 v4 v5 v6 v7 v8):=by cases hm;exact h.symm
def xQ {r:List PV} {ys:List ak} {v0 v1 v2 v3 v4 v5 v6 v7 v8 m5 m6 m7} (h:(c.take 9,c.drop 9)=([.sc (.int .i64 v0),.sc (Go.Abs.S v1),.sc (.int .i64 v2),.sc (Go.Abs.S v3),.sc (Go.Abs.S v4),.sl m5 (ak.Cs v5),.sl m6 (aK.Cs v6),.sl m7 (hO v7),.sc (.int .i64 v8)],r)) (hm:(0,m5,m6,m7)=(0,v5.length,v6.length,v7.length)) (h2:rk 9 ak.C r ys):rk 9 ak.C c (ak.mk v0 v1 v2 v3 v4 v5 v6 v7 v8::ys):=by cases hm;exact Dj h h2
def XN {v0 v1 v2 v3 v4 v5 v6 v7 v8 v9 v10 m5 m6 m7 m8} (h:c=[.sc (.int .i64 v0),.sc (.int .i64 v1),.sc (Go.Abs.S v2),.sc (Go.Abs.S v3),.sc (Go.Abs.S v4),.sl m5 (ak.Cs v5),.sl m6 (aK.Cs v6),.sl m7 (hO v7),.sl m8 (hO v8),.sc (Go.Abs.S v9),.sc (.int .i64 v10)]) (hm:(0,m5,m6,m7,m8)=(0,v5.length,v6.length,v7.length,v8.length)):UpC aK.C c (aK.mk v0 v1 v2 v3 v4 v5 v6 v7 v8 v9 v10):=by cases hm;exact h.symm
def xR {r:List PV} {ys:List aK} {v0 v1 v2 v3 v4 v5 v6 v7 v8 v9 v10 m5 m6 m7 m8} (h:(c.take 11,c.drop 11)=([.sc (.int .i64 v0),.sc (.int .i64 v1),.sc (Go.Abs.S v2),.sc (Go.Abs.S v3),.sc (Go.Abs.S v4),.sl m5 (ak.Cs v5),.sl m6 (aK.Cs v6),.sl m7 (hO v7),.sl m8 (hO v8),.sc (Go.Abs.S v9),.sc (.int .i64 v10)],r)) (hm:(0,m5,m6,m7,m8)=(0,v5.length,v6.length,v7.length,v8.length)) (h2:rk 11 aK.C r ys):rk 11 aK.C c (aK.mk v0 v1 v2 v3 v4 v5 v6 v7 v8 v9 v10::ys):=by cases hm;exact Dj h h2
def wa {r:List PV} {ys:List bh} {v0 v1 v2 v3 v4 v5 m5} (h:(c.take 6,c.drop 6)=([.sc (.int .i64 v0),.sc (.int .u64 v1),.sc (.int .u64 v2),.sc (.int .u64 v3),.sc (.int .u64 v4),.sl m5 (bh.Cs v5)],r)) (hm:(0,m5)=(0,v5.length)) (h2:rk 6 bh.C r ys):rk 6 bh.C c (bh.mk v0 v1 v2 v3 v4 v5::ys):=by cases hm;exact Dj h h2
def uH {r:List PV} {ys:List fL} {v0 v1 v2} (h:(c.take 3,c.drop 3)=([.sc (Go.Abs.S v0),.sc (Go.Abs.S v1),.sc (.int .i64 v2)],r)) (hm:0=0) (h2:rk 3 fL.C r ys):rk 3 fL.C c (fL.mk v0 v1 v2::ys):=by cases hm;exact Dj h h2
def TN {v0 v1 v2 v3} (h:c=[.sc (.int .i64 v0),.sc (Go.Abs.S v1),.sc (.int .i64 v2),.sc (.int .i64 v3)]) (hm:0=0):UpC aB.C c (aB.mk v0 v1 v2 v3):=by cases hm;exact h.symm
def wb {r:List PV} {ys:List aB} {v0 v1 v2 v3} (h:(c.take 4,c.drop 4)=([.sc (.int .i64 v0),.sc (Go.Abs.S v1),.sc (.int .i64 v2),.sc (.int .i64 v3)],r)) (hm:0=0) (h2:rk 4 aB.C r ys):rk 4 aB.C c (aB.mk v0 v1 v2 v3::ys):=by cases hm;exact Dj h h2
def rm {r:List PV} {ys:List bP} {v0 v1 v2} (h:(c.take 3,c.drop 3)=([.sc (Go.Abs.S v0),.sc (.bool v1),.sc (.int .i64 v2)],r)) (hm:0=0) (h2:rk 3 bP.C r ys):rk 3 bP.C c (bP.mk v0 v1 v2::ys):=by cases hm;exact Dj h h2
def rn {r:List PV} {ys:List cy} {v0 v1 v2} (h:(c.take 3,c.drop 3)=([.sc (Go.Abs.S v0),.sc (.bool v1),.sc (.int .i64 v2)],r)) (hm:0=0) (h2:rk 3 cy.C r ys):rk 3 cy.C c (cy.mk v0 v1 v2::ys):=by cases hm;exact Dj h h2
instance:NzT Pq 38 [.int .i64 0,eSt,.int .i64 0,eSt,eSt,.slice none 0 0,.slice none 0 0,.slice none 0 0,.int .i64 0] [I 0,eu [],I 0,eu [],eu [],.pv (.sl (List.length ([]:List ak)) (ak.Cs [])),.pv (.sl (List.length ([]:List aK)) (aK.Cs [])),.pv (.sl (List.length ([]:List ByS)) (hO [])),I 0]:=⟨qG.h,rfl⟩
instance:NzT Pq 43 [.int .i64 0,.int .i64 0,eSt,eSt,eSt,.slice none 0 0,.slice none 0 0,.slice none 0 0,.slice none 0 0,eSt,.int .i64 0] [I 0,I 0,eu [],eu [],eu [],.pv (.sl (List.length ([]:List ak)) (ak.Cs [])),.pv (.sl (List.length ([]:List aK)) (aK.Cs [])),.pv (.sl (List.length ([]:List ByS)) (hO [])),.pv (.sl (List.length ([]:List ByS)) (hO [])),eu [],I 0]:=⟨qG.h,rfl⟩
instance:NzT Pq 156 [.int .i64 0,.int .u64 0,.int .u64 0,.int .u64 0,.int .u64 0,.slice none 0 0] [I 0,Sc (.int .u64 0),Sc (.int .u64 0),Sc (.int .u64 0),Sc (.int .u64 0),.pv (.sl (List.length ([]:List bh)) (bh.Cs []))]:=⟨qG.h,rfl⟩
variable {l2:List (Nat×AV)} {s2:List (Nat×cQ)}
def ghT (hE:∀ k,fc es k=true->E.fix k=none) {kk:List (List Nat)} (h:vZ kk E n l ds s l2 s2:=by
 first
  | ((with_reducible apply afm hE);exact O;exact O;(repeat (first|exact xy.nil|apply xy.cons));(repeat (first|exact xy.nil|apply xy.cons)))
  | ((with_reducible apply aaH hE);exact O;exact O;(repeat (first|exact xy.nil|apply xy.cons));(repeat (first|exact xy.nil|apply xy.cons)))
  | ((with_reducible apply aaI hE);exact iI;exact O)
  | ((with_reducible apply Δ hE);exact iI;exact O)
  | ((with_reducible apply Ε hE);exact iI;exact O;exact O;(repeat (first|exact xy.nil|apply xy.cons)))
  | ((with_reducible apply XJ hE);exact iI;exact O;exact O;(repeat (first|exact xy.nil|apply xy.cons)))
  | ((with_reducible apply aiS);exact O;(repeat (first|exact xy.nil|apply xy.cons)))
  | ((with_reducible apply afn);exact O;exact O;(repeat (first|exact xy.nil|apply xy.cons)))
  | ((with_reducible apply Ζ hE);exact O;exact O;exact O;exact iI;exact O;(repeat (first|exact xy.nil|apply xy.cons)))
  | ((with_reducible apply aaK hE);exact O;exact O;exact iI;exact O)
  | ((with_reducible apply XK);exact O;exact O;exact O;exact iI;exact O;(repeat (first|exact xy.nil|apply xy.cons)))
  | ((with_reducible apply Η);exact O;exact O;exact iI;exact O)
  | ((with_reducible apply aaL hE);exact O)
  | ((with_reducible apply Λ hE);exact O)
  | ((with_reducible apply aaM);exact O;exact O;exact iI;exact O;simp)
  | ((with_reducible apply aaN hE);exact O;(repeat (first|exact xy.nil|apply xy.cons));(repeat (first|exact xy.nil|apply xy.cons));(repeat' (first|exact trivial|refine ⟨rfl,?_⟩));(repeat' (first|exact trivial|refine ⟨rfl,?_⟩));exact O)
  | ((with_reducible apply aaO);exact O;exact O;exact iI;exact O;simp;exact O)):vZ kk E n l ds s l2 s2:=h
def ghU {kk:List (List Nat)} (h:vZ kk E n l ds s l2 s2:=by
 first
  | ((with_reducible apply afo);exact rfl)
  | ((with_reducible apply aaJ);exact rfl;(repeat (first|exact xy.nil|apply xy.cons)))):vZ kk E n l ds s l2 s2:=h
def enT {f:FuncId} (h:Enters Pq f:=by exact enK (by kernel_rfl)):Enters Pq f:=h
def evT (h:mH Pq op l ds s v rd:=by (first|((with_reducible apply To)<;>exact aT)|((with_reducible apply QR)<;>exact aT)|((with_reducible apply aiP)<;>(first|exact aT|exact nT uX|exact nF uX))|((with_reducible apply aiQ)<;>(first|exact aT|exact nT uX|exact nF uX))|((with_reducible apply Kj)<;>exact aT)|((with_reducible apply aef)<;>exact aT)|((with_reducible apply aeg)<;>exact aT)|((with_reducible apply VD)<;>exact aT)|((with_reducible apply Ι)<;>exact aT)|((with_reducible apply Ef)<;>exact aT)|((with_reducible apply ab7)<;>exact aT)|((with_reducible apply UD)<;>exact aT)|((with_reducible apply Y9)<;>exact aT)|((with_reducible apply Y5)<;>exact aT)|((with_reducible apply aeh)<;>exact aT)|((with_reducible apply acX)<;>exact aT)|((with_reducible apply YV)<;>exact aT)|((with_reducible apply ah5)<;>exact aT)|((with_reducible apply ah6)<;>exact aT)|((with_reducible apply M2)<;>exact aT)|((with_reducible apply acY)<;>exact aT)|((with_reducible apply ah7)<;>exact aT)|((with_reducible apply aei)<;>exact aT)|((with_reducible apply aew)<;>exact aT)|((with_reducible apply aex)<;>exact aT)|((with_reducible apply aey)<;>exact aT)|((with_reducible apply aiO)<;>exact aT)|((with_reducible apply Ak)<;>exact aT)|((with_reducible apply aiX)<;>exact aT)|((with_reducible apply M3)<;>exact aT)|((with_reducible apply afk)<;>exact aT)|((with_reducible apply aiR)<;>exact aT)|((with_reducible apply aaC)<;>exact aT)|((with_reducible apply aaD)<;>exact aT)|((with_reducible apply Kk)<;>exact aT)|((with_reducible apply UZ)<;>exact aT)|((with_reducible apply QU)<;>exact aT)|((with_reducible apply aeO)<;>exact aT)|((with_reducible apply ν)<;>exact aT)|((with_reducible apply Z2)<;>exact aT)|((with_reducible apply ah9)<;>exact aT)|((with_reducible apply ah_)<;>exact aT)|((with_reducible apply Gp)<;>exact aT)|((with_reducible apply Qa)<;>exact aT)|((with_reducible apply Ű)<;>exact aT)|((with_reducible apply ű)<;>exact aT)|((with_reducible apply Ų)<;>exact aT)|((with_reducible apply ų)<;>exact aT)|((with_reducible apply aeu)<;>exact aT)|((with_reducible apply aev)<;>exact aT)|((with_reducible apply aia)<;>exact aT)|((with_reducible apply aib)<;>exact aT)|((with_reducible apply ź)<;>exact aT)|((with_reducible apply aad)<;>exact aT)|((with_reducible apply V4)<;>exact aT)|((with_reducible apply aio)<;>exact aT)|((with_reducible apply Kp)<;>exact aT)|((with_reducible apply Oc)<;>exact aT)|((with_reducible apply aeE)<;>exact aT)|((with_reducible apply aeF)<;>exact aT)|((with_reducible apply aeG)<;>exact aT)|((with_reducible apply aeH)<;>exact aT)|((with_reducible apply aeI)<;>exact aT)|((with_reducible apply ais)<;>exact aT)|((with_reducible apply aeJ)<;>exact aT)|((with_reducible apply Xy)<;>exact aT)|((with_reducible apply aeK)<;>exact aT)|((with_reducible apply aeL)<;>exact aT)|((with_reducible apply Hv)<;>exact aT)|((with_reducible apply aeM)<;>exact aT)|((with_reducible apply NJ)<;>exact aT)|((with_reducible apply aeN)<;>exact aT)|((with_reducible apply ac5)<;>exact aT)|((with_reducible apply aff)<;>exact aT)|((with_reducible apply afe)<;>exact aT)|((with_reducible apply φ)<;>exact aT)|((with_reducible apply afb)<;>exact aT)|((with_reducible apply afc)<;>exact aT)|((with_reducible apply afd)<;>exact aT)|((with_reducible apply afi)<;>exact aT)|((with_reducible apply aaA);exact rfl;exact rfl;(repeat (first|apply IM.cons|exact IM.nil));exact rfl;assumption)|((with_reducible apply aaB);exact rfl;exact rfl;(repeat (first|apply IM.cons|exact IM.nil));exact rfl;assumption))):mH Pq op l ds s v rd:=h
def evD (h:mH Pq op l ds s v rd:=by first|((with_reducible apply afl)<;>(first|exact rfl|infer_instance))|exact evT):mH Pq op l ds s v rd:=h
theorem zz {f:FuncId} {args:List AV} {C:X->List cQ} (nz:Nat) (hf:P.funcs[f]?=some fn) (h:Α nz P fn args es res V C:=by
  refine aiN rfl λhz r hp h hr E hE=>?_
  repeat' (first
   | ((with_reducible apply zgR h);exact ghT hE;intro h)
   | ((with_reducible apply zgS h);exact ghT hE;intro h)
   | ((with_reducible apply zgN h);exact ghT hE;intro h)
   | ((with_reducible apply zgW h);exact ghT hE;intro h)
   | ((with_reducible apply zgT h);exact ghU;intro h)
   | ((with_reducible apply zgT (zE2 h));exact ghU;intro h)
   | ((with_reducible apply zbs h hE);exact iI;exact iI;exact O;exact O;exact O;(repeat (first|exact Rz rfl|(apply Dj;exact rfl)|(apply xQ;exact rfl;exact rfl)|(apply xR;exact rfl;exact rfl)|(apply wa;exact rfl;exact rfl)|(apply uH;exact rfl;exact rfl)|(apply wb;exact rfl;exact rfl)|(apply rm;exact rfl;exact rfl)|(apply rn;exact rfl;exact rfl)));exact O;intro h)
   | ((with_reducible apply ak1 h hE);exact iI;exact iI;exact O;exact O;exact O;(repeat (first|exact Rz rfl|(apply Dj;exact rfl)|(apply xQ;exact rfl;exact rfl)|(apply xR;exact rfl;exact rfl)|(apply wa;exact rfl;exact rfl)|(apply uH;exact rfl;exact rfl)|(apply wb;exact rfl;exact rfl)|(apply rm;exact rfl;exact rfl)|(apply rn;exact rfl;exact rfl)));exact O;intro h)
   | ((with_reducible apply ak2 h hE);exact O;exact iI;exact iI;exact O;exact O;exact O;(repeat (first|exact Rz rfl|(apply Dj;exact rfl)|(apply xQ;exact rfl;exact rfl)|(apply xR;exact rfl;exact rfl)|(apply wa;exact rfl;exact rfl)|(apply uH;exact rfl;exact rfl)|(apply wb;exact rfl;exact rfl)|(apply rm;exact rfl;exact rfl)|(apply rn;exact rfl;exact rfl)));exact O;intro h)
   | ((with_reducible apply zvw h);exact O;exact O;exact iI;exact O;intro h)
   | ((with_reducible apply zvl h);exact O;exact O;exact O;exact iI;exact O;intro h)
   | ((with_reducible apply zap hE);exact iI;exact iI;exact iI;exact O;exact O;exact O;exact O;exact O;assumption)
   | ((with_reducible apply akS hE);exact iI;exact iI;exact iI;exact O;exact O;exact O;exact O;exact O;assumption)
   | with_reducible refine zd hr h λ_ h=>?_
   | ((with_reducible apply zeQ hr h);assumption;intro h)
   | with_reducible refine ze hr h λ_ _ _ _ h=>?_
   | with_reducible refine zso hr h λ_ _ h=>?_
   | with_reducible refine zMF h (λ_ h=>?_) (λ_ _ _ h=>?_)
   | with_reducible refine zMS h (λ_ _ h=>?_)
   | ((with_reducible apply zMG h);(repeat (first|exact xy.nil|apply xy.cons));intro _ h;rotate_left;intro _ _ _ h)
   | with_reducible refine zMT h (λ_ _ h=>?_)
   | with_reducible refine bz λ_ _=>?_
   | with_reducible refine B2 ?_
   | with_reducible refine ζ ?_
   | with_reducible refine bp ?_
   | ((with_reducible refine zLF hr h ?_ (λ_ _ _ _ h=>?_));exact O)
   | ((with_reducible apply zLG hr h);(repeat (first|exact xy.nil|apply xy.cons));exact O;intro _ _ _ _ h)
   | ((with_reducible refine zDr h ?_ ?_ (λh=>?_));exact O;kernel_rfl)
   | ((with_reducible apply ak5 h);(repeat (first|apply HY.cons|exact HY.nil));exact O;kernel_rfl;intro h)
   | ((with_reducible apply ak6 h);(repeat (first|apply HY.cons|exact HY.nil));exact O;kernel_rfl;intro h)
   | ((with_reducible refine akW h ?_ ?_ (λh=>?_));exact O;kernel_rfl)
   | ((with_reducible refine ak3 h ?_ ?_ (λh=>?_));exact O;kernel_rfl)
   | ((with_reducible apply zm);exact O)
   | ((with_reducible apply za);exact O)
   | ((with_reducible apply zn);exact O)
   | ((with_reducible apply zf);exact O)
   | ((with_reducible apply zl);exact O)
   | ((with_reducible apply zA);exact O)
   | ((with_reducible apply zc);exact O)
   | ((with_reducible apply zx);exact O)
   | ((with_reducible apply akZ hz);exact iI;exact iI;exact O;exact O;exact O)
   | ((with_reducible apply zeN hz);exact iI;exact iI;exact O;exact O;exact O)
   | ((with_reducible apply zsN hz);exact iI;exact O;exact O)
   | ((with_reducible apply zs);exact O)
   | ((with_reducible apply akM hz hE);exact iI;exact O)
   | ((with_reducible apply zal hE);exact O)
   | ((with_reducible apply zbx hE);exact O)
   | ((with_reducible apply zu);exact O)
   | ((with_reducible apply akU);exact O;exact O;exact iI;exact O;assumption;assumption;exact iI;exact O;exact O;(first|(apply XN;exact rfl;exact rfl)|(apply TN;exact rfl;exact rfl)|(apply XM;exact rfl;exact rfl)))
   | ((with_reducible apply akV);exact iI;exact iI;exact iI;exact O)
   | ((with_reducible apply akJ);exact O;exact O;(repeat (first|apply IM.cons|exact IM.nil));exact O;exact O;assumption)
   | ((with_reducible apply zfT);exact iI;exact iI;exact O;exact O;exact O;(repeat (first|exact Rz rfl|(apply Dj;exact rfl)|(apply xQ;exact rfl;exact rfl)|(apply xR;exact rfl;exact rfl)|(apply wa;exact rfl;exact rfl)|(apply uH;exact rfl;exact rfl)|(apply wb;exact rfl;exact rfl)|(apply rm;exact rfl;exact rfl)|(apply rn;exact rfl;exact rfl)));exact O)
   | ((with_reducible apply zfz);exact O;exact O;exact O;exact O)
   | ((with_reducible apply akK);exact O;(first|exact rfl|assumption|exact nT uX|exact nF uX|exact nT' uX|exact nF' uX);exact O;exact O;exact O;exact O)
   | ((with_reducible apply zg');exact O;(first|exact rfl|assumption))
   | ((with_reducible apply zG');exact O;(first|exact rfl|assumption);exact evT)
   | ((with_reducible apply zk' hr h);exact O;(repeat (first|apply HY.cons|exact HY.nil));exact enT;exact O;(focus repeat' (first|exact trivial|refine ⟨hE _ rfl,?_⟩));(first|exact λ_=>rfl|(intro _;refine TK ?_ ?_ rfl;(first|exact E0 rfl|exact CR rfl|exact As|exact Au);(first|exact HW|exact Ga|exact CQ|exact Bf)));exact hp;intro _ h)
   | ((with_reducible apply zkN hr h);exact O;(repeat (first|apply HY.cons|exact HY.nil));exact enT;exact O;(focus repeat' (first|exact trivial|refine ⟨hE _ rfl,?_⟩));(first|exact λ_=>rfl|(intro _;refine TK ?_ ?_ rfl;(first|exact E0 rfl|exact CR rfl|exact As|exact Au);(first|exact HW|exact Ga|exact CQ|exact Bf)));exact hp;intro _ h)
   | ((with_reducible apply zkK hr h);exact O;(repeat (first|apply HY.cons|exact HY.nil));(repeat (first|exact xy.nil|apply xy.cons));(repeat' (first|exact trivial|refine ⟨rfl,?_⟩));exact enT;exact O;(focus repeat' (first|exact trivial|refine ⟨hE _ rfl,?_⟩));(first|exact λ_=>rfl|(intro _;refine TK ?_ ?_ rfl;(first|exact E0 rfl|exact CR rfl|exact As|exact Au);(first|exact HW|exact Ga|exact CQ|exact Bf)));exact hp;intro _ h)
   | ((with_reducible apply zK' hr h);exact O;(first|exact rfl|assumption|exact nT uX|exact nF uX|exact nT' uX|exact nF' uX);exact O;(repeat (first|apply HY.cons|exact HY.nil));exact enT;exact O;(focus repeat' (first|exact trivial|refine ⟨hE _ rfl,?_⟩));(first|exact λ_=>rfl|(intro _;refine TK ?_ ?_ rfl;(first|exact E0 rfl|exact CR rfl|exact As|exact Au);(first|exact HW|exact Ga|exact CQ|exact Bf)));exact hp;intro _ h)
   | ((with_reducible apply zQ);assumption)
   | ((with_reducible apply zQj h);assumption;exact O)
   | ((with_reducible apply zSk);assumption)
   | ((with_reducible apply akO h);assumption;exact O)
   | ((with_reducible apply zLb);assumption)
   | ((with_reducible apply akN h);assumption;exact O)
   | ((with_reducible apply J6);exact zY .nil h rfl)
   | ((with_reducible apply zEx);assumption)
   | ((with_reducible apply akP h);assumption;exact O)
   | ((with_reducible apply et);exact evT;exact O)
   | ((with_reducible apply zBt);exact O;(first|exact rfl|assumption))
   | ((with_reducible apply zBf);exact O;(first|exact rfl|assumption))
   | ((with_reducible refine zB ?_ h (λ_ h=>?_) (λ_ h=>?_));exact O)
   | ((with_reducible refine rK ?_);exact zRt rfl h rfl)
   | ((with_reducible refine rK ?_);apply zX (hg:=h);(repeat' (first|exact PJ.nil|apply PJ.cons|exact CA rfl|exact tq rfl rfl rfl|exact Jy rfl rfl));exact O)
   | ((with_reducible refine rK ?_);apply zXN (hg:=h);(repeat' (first|exact PJ.nil|apply PJ.cons|exact CA rfl|exact tq rfl rfl rfl|exact Jy rfl rfl));exact O)
   | ((with_reducible apply zR0);exact O)
   | ((with_reducible apply zPn);exact h;exact O;exact hp)
   | ((with_reducible apply rJ);exact zY .nil h rfl)
   | ((with_reducible apply GP);exact zY .nil h rfl)
   | ((with_reducible apply lZ);exact zY .nil h rfl)
   | ((with_reducible apply ak0 hz);exact O;exact O;exact iI;exact iI;exact O;exact O;exact O)
   | ((with_reducible apply zeD hz);exact O;exact iI;exact iI;exact O;exact O;exact O)
   | ((with_reducible apply zD);exact O;exact evD;exact O)
   | ((with_reducible apply zdn);exact O;exact O;(first|exact rfl|assumption);exact O)
   | ((with_reducible apply zdg);exact O;exact O;(first|exact rfl|assumption);exact evD;exact O)
   | ((with_reducible apply zdu);exact O;exact O;exact O)
   | ((with_reducible apply akY hE);exact O;exact iI;exact iI;exact iI;exact O;exact O;exact O;exact O;exact O;assumption;(first|exact ky rfl|focus (apply pF;repeat' (first|exact trivial|exact .inr rfl|exact .inl rfl|refine ⟨_,rfl,og ?_⟩|refine ⟨?_,?_⟩))))
   | ((with_reducible apply aiU hE);exact O;exact iI;exact iI;exact iI;exact O;exact O;exact O;exact O;exact O;assumption;(first|exact ky rfl|focus (apply pF;repeat' (first|exact trivial|exact .inr rfl|exact .inl rfl|refine ⟨_,rfl,og ?_⟩|refine ⟨?_,?_⟩))))
   | ((with_reducible apply zda);exact O;exact O;(first|exact ky rfl|focus (apply pF;repeat' (first|exact trivial|exact .inr rfl|exact .inl rfl|refine ⟨_,rfl,og ?_⟩|refine ⟨?_,?_⟩))))
   | ((with_reducible apply akX);exact O;exact O;(first|exact ky rfl|focus (apply pF;repeat' (first|exact trivial|exact .inr rfl|exact .inl rfl|refine ⟨_,rfl,og ?_⟩|refine ⟨?_,?_⟩))))
   | ((with_reducible apply zds);exact O;exact iI;exact O;(first|exact ky rfl|focus (apply pF;repeat' (first|exact trivial|exact .inr rfl|exact .inl rfl|refine ⟨_,rfl,og ?_⟩|refine ⟨?_,?_⟩))))
   | ((with_reducible apply akT);exact O;exact iI;exact O;(first|exact ky rfl|focus (apply pF;repeat' (first|exact trivial|exact .inr rfl|exact .inl rfl|refine ⟨_,rfl,og ?_⟩|refine ⟨?_,?_⟩))))
   | ((with_reducible apply aiY);exact O;exact O;exact O;exact iI;exact O;exact iI;exact O;exact O;exact O;(first|exact ky rfl|focus (apply pF;repeat' (first|exact trivial|exact .inr rfl|exact .inl rfl|refine ⟨_,rfl,og ?_⟩|refine ⟨?_,?_⟩))))
   | ((with_reducible apply ak4);exact O;exact iI;exact iI;exact iI;exact O;exact O;exact O;exact O)
   | ((with_reducible apply zdT);exact O;exact iI;exact iI;exact O;exact O;exact O;(repeat (first|exact Rz rfl|(apply Dj;exact rfl)|(apply xQ;exact rfl;exact rfl)|(apply xR;exact rfl;exact rfl)|(apply wa;exact rfl;exact rfl)|(apply uH;exact rfl;exact rfl)|(apply wb;exact rfl;exact rfl)|(apply rm;exact rfl;exact rfl)|(apply rn;exact rfl;exact rfl)));exact O)
   | ((with_reducible apply zdf);exact O;exact iI;exact O;exact O;exact O;exact O)
   | ((with_reducible apply zdl hE);exact O;exact iI;exact O)
   | ((with_reducible apply zdc hr h);exact O;exact O;(repeat (first|apply HY.cons|exact HY.nil));exact enT;exact O;(focus repeat' (first|exact trivial|refine ⟨hE _ rfl,?_⟩));(first|exact λ_=>rfl|(intro _;refine TK ?_ ?_ rfl;(first|exact E0 rfl|exact CR rfl|exact As|exact Au);(first|exact HW|exact Ga|exact CQ|exact Bf)));(intro _;(first|exact ky rfl|focus (apply pF;repeat' (first|exact trivial|exact .inr rfl|exact .inl rfl|refine ⟨_,rfl,og ?_⟩|refine ⟨?_,?_⟩))));exact hp;intro _ h)
   | ((with_reducible apply zdC hr h);exact O;exact O;(first|exact rfl|assumption);exact O;(repeat (first|apply HY.cons|exact HY.nil));exact enT;exact O;(focus repeat' (first|exact trivial|refine ⟨hE _ rfl,?_⟩));(first|exact λ_=>rfl|(intro _;refine TK ?_ ?_ rfl;(first|exact E0 rfl|exact CR rfl|exact As|exact Au);(first|exact HW|exact Ga|exact CQ|exact Bf)));(intro _;(first|exact ky rfl|focus (apply pF;repeat' (first|exact trivial|exact .inr rfl|exact .inl rfl|refine ⟨_,rfl,og ?_⟩|refine ⟨?_,?_⟩))));exact hp;intro _ h)
   | ((with_reducible apply zdx);exact O;exact iI;exact O;exact O;(repeat (first|apply IM.cons|exact IM.nil));exact O;exact O;assumption;exact O)
   | ((with_reducible apply zdN);exact O;exact O;(first|exact rfl|assumption);exact O)
   | ((with_reducible apply zdU);exact O;exact O;exact O)
   | with_reducible apply zNX
   | with_reducible apply zGq
   | ((with_reducible apply zGg h);exact ghT hE;intro h)
   | ((with_reducible apply zGn);assumption)
   | ((with_reducible apply zGj h);assumption;exact O)
   | ((with_reducible apply zGr);exact zY .nil h rfl)
   | ((with_reducible apply zQn);assumption)
   | ((with_reducible apply An);exact zY .nil h rfl)
   | ((with_reducible apply akQ h);assumption;exact O)
   | with_reducible refine zbb h (λ_ h=>?_) (λ_ h=>?_)
   | with_reducible refine zDh h (λh=>?_)
   | ((with_reducible apply zg');exact O;(first|exact nT uX|exact nF uX|exact nT' uX|exact nF' uX))
   | ((with_reducible apply zG');exact O;(first|exact nT uX|exact nF uX|exact nT' uX|exact nF' uX);exact evT)
   | ((with_reducible apply zBt);exact O;(first|exact nT uX|exact nF uX|exact nT' uX|exact nF' uX))
   | ((with_reducible apply zBf);exact O;(first|exact nT uX|exact nF uX|exact nT' uX|exact nF' uX))
   | ((with_reducible apply aiV);assumption;assumption)
   | ((with_reducible apply aiW);assumption;assumption))):CT P f args es res V C:=by
 obtain ⟨c,hb,h⟩:=h
 exact zC hf hb h
end
end
end Go.Abs
