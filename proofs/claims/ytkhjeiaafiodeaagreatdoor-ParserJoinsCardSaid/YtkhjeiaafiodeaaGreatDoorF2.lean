/- PROVED: lemmas of the proof of: a law CONDITIONS: as each lemma states. -/
import Derived.Test.YtkhjeiaafiodeaaGreatDoorF1
import Derived.Test.YtkhjeiaafiodeaaGreatDoorProg
import Derived.KernelRfl
import Derived.ChangeKeysEq
import Derived.Shelf.Small.Strs
import Derived.Shelf.Utf8.RuneCount
import Derived.Shelf.Strconv.Itoa0
import Derived.Shelf.Strconv.Itoa1
import Derived.Shelf.LaysM
import Derived.Shelf.Strconv.Itoa2
import Derived.Shelf.Strconv.Itoa3
import Derived.Shelf.Strconv.ParseIntEmpty
import Derived.Shelf.Strconv.Clone
import Derived.Shelf.Strconv.SyntaxError
import Derived.Shelf.LaysC
import Derived.Shelf.Strconv.ToError
import Derived.Shelf.Strconv.Lower
import Derived.Shelf.Strconv.ParseUint10
import Derived.Shelf.Strconv.ParseUint10Empty
import Derived.Shelf.Strconv.ParseUint10Any
import Derived.Shelf.Strconv.ParseInt10
import Derived.Shelf.Strconv.RangeError
import Derived.Shelf.Strconv.ToErrorRange
import Derived.Shelf.Strconv.ParseUintEmpty
import Derived.Shelf.Strconv.ParseUint10b64
import Derived.Shelf.Strconv.ParseUint10b32
import Derived.Shelf.Strconv.ParseUint10b16
import Derived.Shelf.Strconv.ParseUint10b8
import Derived.Shelf.Strconv.ParseUint10At
import Derived.Shelf.Strconv.ParseInt10At64
import Derived.Shelf.Strconv.ParseInt10At32
import Derived.Shelf.Strconv.ParseInt10At16
import Derived.Shelf.Strconv.ParseInt10At8
import Derived.Shelf.Strconv.ParseInt10All
import Derived.Shelf.Strconv.ParseIntPublic10
import Derived.Shelf.Strconv.ErrVarParseInt
import Derived.Shelf.Strings.Search1
import Derived.Shelf.Strings.Search2
import Derived.Shelf.Strings.Search3
import Derived.Shelf.Strings.Cut
import Derived.Shelf.Strings.Count
import Derived.Shelf.Strings.Shaped
import Derived.Shelf.Strings.LastIndex
import Derived.Shelf.Strings.LastIndexAll
import Derived.Shelf.Strings.Prefix
import Derived.Shelf.Strings.Split
import Derived.Shelf.Strings.SplitShaped
import Derived.Shelf.Unicode.Decode
import Derived.Shelf.Strings.RuneCount
import Derived.Shelf.Strings.Explode
import Derived.Shelf.Unicode.DecodeSlow
import Derived.Shelf.Unicode.DecodeAny
import Derived.Shelf.Slices.Turned
import Derived.Lib.SplitLaws
import Derived.Lib.Walk
import Derived.WalkKit
import Derived.BigCall
import Derived.BigGuard
section
namespace Go.Abs
theorem O.{u} {α:Sort u} {a:α}:a=a:=rfl
theorem O2.{u0,u1} {a0:Sort u0} {a1:Sort u1} {b0:a0} {b1:a1}:b0=b0/\b1=b1:=⟨rfl,rfl⟩
theorem O3.{u0,u1,u2} {a0:Sort u0} {a1:Sort u1} {a2:Sort u2} {b0:a0} {b1:a1} {b2:a2}:b0=b0/\b1=b1/\b2=b2:=⟨rfl,rfl,rfl⟩
theorem O4.{u0,u1,u2,u3} {a0:Sort u0} {a1:Sort u1} {a2:Sort u2} {a3:Sort u3} {b0:a0} {b1:a1} {b2:a2} {b3:a3}:b0=b0/\b1=b1/\b2=b2/\b3=b3:=⟨rfl,rfl,rfl,rfl⟩
theorem O5.{u0,u1,u2,u3,u4} {a0:Sort u0} {a1:Sort u1} {a2:Sort u2} {a3:Sort u3} {a4:Sort u4} {b0:a0} {b1:a1} {b2:a2} {b3:a3} {b4:a4}:b0=b0/\b1=b1/\b2=b2/\b3=b3/\b4=b4:=⟨rfl,rfl,rfl,rfl,rfl⟩
theorem O7.{u0,u1,u2,u3,u4,u5,u6} {a0:Sort u0} {a1:Sort u1} {a2:Sort u2} {a3:Sort u3} {a4:Sort u4} {a5:Sort u5} {a6:Sort u6} {b0:a0} {b1:a1} {b2:a2} {b3:a3} {b4:a4} {b5:a5} {b6:a6}:b0=b0/\b1=b1/\b2=b2/\b3=b3/\b4=b4/\b5=b5/\b6=b6:=⟨rfl,rfl,rfl,rfl,rfl,rfl,rfl⟩
theorem O8.{u0,u1,u2,u3,u4,u5,u6,u7} {a0:Sort u0} {a1:Sort u1} {a2:Sort u2} {a3:Sort u3} {a4:Sort u4} {a5:Sort u5} {a6:Sort u6} {a7:Sort u7} {b0:a0} {b1:a1} {b2:a2} {b3:a3} {b4:a4} {b5:a5} {b6:a6} {b7:a7}:b0=b0/\b1=b1/\b2=b2/\b3=b3/\b4=b4/\b5=b5/\b6=b6/\b7=b7:=⟨rfl,rfl,rfl,rfl,rfl,rfl,rfl,rfl⟩
open al
section
variable {P:Program} {E:Env} {n:Nat} {ops:Array Oper} {Q:eB} {rest:List Oper} {l:List (Nat×AV)} {ds:List (FuncId×List AV)} {s:List (Nat×M)}
 {ty:TypeId} {pos:String} {af:Array Edge} {d:Nat}
theorem p1 {α β:Type} {a c:α} {b e:β} (h:(a,b)=(c,e)):a=c:=congrArg Prod.fst h
theorem p2 {α β:Type} {a c:α} {b e:β} (h:(a,b)=(c,e)):b=e:=congrArg Prod.snd h
theorem zm {x:Operand} {v:AV} (h:(bR l x,Nat.blt d n)=(some v,true)) (hn:SL P E n ops Q rest (Y ((d,v)::l) ds) (U s)):SL P E n ops Q (⟨some d,.move x,ty,pos,af,none⟩::rest) (Y l ds) (U s):=
 J (W (p1 h)) (p2 h) hn
theorem za {x:Operand} {v:AV} (h:(bR l x,Nat.blt d n)=(some v,true)) (hn:SL P E n ops Q rest (Y ((d,v)::l) ds) (U s)):SL P E n ops Q (⟨some d,.assign x,ty,pos,af,none⟩::rest) (Y l ds) (U s):=
 J (Eb (p1 h)) (p2 h) hn
theorem zn {x:Operand} {k off:Nat} (h:(bR l x,Nat.blt d n)=(some (.ptr k off),true)) (hn:SL P E n ops Q rest (Y ((d,.ptr k off)::l) ds) (U s)):SL P E n ops Q (⟨some d,.nilCheck x,ty,pos,af,none⟩::rest) (Y l ds) (U s):=
 J (dy (p1 h)) (p2 h) hn
theorem zf {t:TypeId} {x:Operand} {f k off m:Nat} [hf:ma P t f m] (h:(bR l x,Nat.blt d n)=(some (.ptr k off),true)) (hn:SL P E n ops Q rest (Y ((d,.ptr k (off+m))::l) ds) (U s)) :
 SL P E n ops Q (⟨some d,.fieldAddr t x f,ty,pos,af,none⟩::rest) (Y l ds) (U s):=J (o (p1 h)) (p2 h) hn
theorem zl {t:TypeId} {x:Operand} {k off:Nat} {e:M} {v:AV} [ha:ja P t false] (h:(bR l x,dZ s k,e.cells[off]?,Nat.blt d n)=(some (.ptr k off),some e,some v,true))
 (hn:SL P E n ops Q rest (Y ((d,v)::l) ds) (U s)):SL P E n ops Q (⟨some d,.load t x,ty,pos,af,none⟩::rest) (Y l ds) (U s):=J (bb (p1 h) (p1 (p2 h)) (p1 (p2 (p2 h)))) (p2 (p2 (p2 h))) hn
theorem zA {t:TypeId} {x:Operand} {k off m:Nat} {e:M} {cs:List AV} [ha:ja P t true] [hz:mJ P t m] (h:(bR l x,dZ s k,Nat.ble (off+m) e.cells.length,(e.cells.drop off).take m,Nat.blt d n)=(some (.ptr k off),some e,true,cs,true))
 (hn:SL P E n ops Q rest (Y ((d,.agg cs)::l) ds) (U s)):SL P E n ops Q (⟨some d,.load t x,ty,pos,af,none⟩::rest) (Y l ds) (U s):=J (kj (p1 h) (p1 (p2 h)) (p1 (p2 (p2 h))) (p1 (p2 (p2 (p2 h))))) (p2 (p2 (p2 (p2 h)))) hn
theorem zc {op:BinOp} {xt yt:TypeId} {x y:Operand} {k:IntKind} {a b:Int} {r:Bool} (h:(bR l x,bR l y,Gk op a b,Nat.blt d n)=(some (Sc (.int k a)),some (Sc (.int k b)),some r,true))
 (hn:SL P E n ops Q rest (Y ((d,Bo r)::l) ds) (U s)):SL P E n ops Q (⟨some d,.binOp op xt x y yt,ty,pos,af,none⟩::rest) (Y l ds) (U s):=J (bq (p1 h) (p1 (p2 h)) (p1 (p2 (p2 h)))) (p2 (p2 (p2 h))) hn
theorem zy {c a b:Operand} {v:AV} {t:Bool} (ht:t=true) (h:(bR l c,bR l a,Nat.blt d n)=(some (Bo t),some v,true)) (hn:SL P E n ops Q rest (Y ((d,v)::l) ds) (U s)) :
 SL P E n ops Q (⟨some d,.pick c a b,ty,pos,af,none⟩::rest) (Y l ds) (U s):=J (dU ht (p1 h) (p1 (p2 h))) (p2 (p2 h)) hn
theorem zw {c a b:Operand} {v:AV} {t:Bool} (ht:t=false) (h:(bR l c,bR l b,Nat.blt d n)=(some (Bo t),some v,true)) (hn:SL P E n ops Q rest (Y ((d,v)::l) ds) (U s)) :
 SL P E n ops Q (⟨some d,.pick c a b,ty,pos,af,none⟩::rest) (Y l ds) (U s):=J (dJ ht (p1 h) (p1 (p2 h))) (p2 (p2 h)) hn
theorem zt {c a b:Operand} {v:AV} (h:(bR l c,bR l a,Nat.blt d n)=(some (Bo true),some v,true)) (hn:SL P E n ops Q rest (Y ((d,v)::l) ds) (U s)) :
 SL P E n ops Q (⟨some d,.pick c a b,ty,pos,af,none⟩::rest) (Y l ds) (U s):=J (wm (p1 h) (p1 (p2 h))) (p2 (p2 h)) hn
theorem zo {xt yt:TypeId} {x y:Operand} {a b:Int} (hg:-9223372036854775808<=a+b/\a+b<=9223372036854775807) (h:(bR l x,bR l y,Nat.blt d n)=(some (I a),some (I b),true))
 (hn:SL P E n ops Q rest (Y ((d,I (a+b))::l) ds) (U s)):SL P E n ops Q (⟨some d,.binOp .add xt x y yt,ty,pos,af,none⟩::rest) (Y l ds) (U s):=J (mg (p1 h) (p1 (p2 h)) hg) (p2 (p2 h)) hn
theorem zx {x:Operand} {i:Nat} {vs:List AV} {v:AV} (h:(bR l x,vs[i]?,Nat.blt d n)=(some (.gU vs),some v,true)) (hn:SL P E n ops Q rest (Y ((d,v)::l) ds) (U s)) :
 SL P E n ops Q (⟨some d,.extract x i,ty,pos,af,none⟩::rest) (Y l ds) (U s):=J (qe (p1 h) (p1 (p2 h))) (p2 (p2 h)) hn
theorem zg {j g:Nat} {op:Op} {want b:Bool} (hb:b = !want) (h:((ops[j]?).bind (·.dst),kf l g,Nat.blt d n)=(some g,some (Bo b),true))
 (hn:SL P E n ops Q rest (Y ((d,Sc undef)::l) ds) (U s)):SL P E n ops Q (⟨some d,op,ty,pos,af,some (j,want)⟩::rest) (Y l ds) (U s):=H9 hb ⟨p1 h,p1 (p2 h)⟩ (p2 (p2 h)) hn
def E6 (ops:Array Oper) (n:Nat):Nat->List (Nat×AV)->List Oper->Option (List (Option AV×Bool)×List (Nat×AV)×List Oper)
 | 0,l,r=>some ([],l,r)
 | k+1,l,r=>match r with
  | ⟨some d,_,_,_,_,some (j,want)⟩::r=>match (ops[j]?).bind (·.dst),Nat.blt d n with
   | some g,true=>match E6 ops n k ((d,Sc undef)::l) r with
    | some (vs,x)=>some ((kf l g,want)::vs,x)
    | none=>none
   | _,_=>none
  | _=>none
theorem zH {w b:Bool}:∀ (k:Nat) {l l':List (Nat×AV)} {r r':List Oper},E6 ops n k l r=some (List.replicate k (some (Bo b),w),l',r')->b = !w->SL P E n ops Q r' (Y l' ds) (U s)->SL P E n ops Q r (Y l ds) (U s)
 | 0,_,_,_,_,h,_,hn=>by cases h;exact hn
 | k+1,l,l',r,r',h,hb,hn=>by
  unfold E6 at h;split at h
  ·split at h
   ·rename_i g hj hd;split at h
    ·rename_i vs x hx;simp only[List.replicate_succ,Option.some.injEq,Prod.mk.injEq,List.cons.injEq] at h;obtain ⟨⟨⟨h1,rfl⟩,rfl⟩,rfl⟩:=h;exact H9 hb ⟨hj,h1⟩ hd (zH k hx hb hn)
    cases h
   cases h
  cases h
theorem zG {j g:Nat} {op:Op} {v:AV} {rd:List (Nat×M)} {want b:Bool} (hb:b=want) (h:((ops[j]?).bind (·.dst),kf l g,Nat.blt d n)=(some g,some (Bo b),true))
 (he:jr P op l ds s v rd) (hn:SL P E n ops Q rest (Y ((d,v)::l) ds) (U s)):SL P E n ops Q (⟨some d,op,ty,pos,af,some (j,want)⟩::rest) (Y l ds) (U s):=Kc hb ⟨p1 h,p1 (p2 h)⟩ he (p2 (p2 h)) hn
theorem zu {j g:Nat} {op:Op} {want:Bool} (h:((ops[j]?).bind (·.dst),kf l g,Nat.blt d n)=(some g,some (Sc undef),true))
 (hn:SL P E n ops Q rest (Y ((d,Sc undef)::l) ds) (U s)):SL P E n ops Q (⟨some d,op,ty,pos,af,some (j,want)⟩::rest) (Y l ds) (U s):=J3 ⟨p1 h,p1 (p2 h)⟩ (p2 (p2 h)) hn
theorem zs {t:TypeId} {x y:Operand} {k off m:Nat} {e:M} {v:AV} {c:List AV} [ht:mJ P t m]
  (h:(bR l x,dZ s k,e.wY,bR l y,v.fY,AV.jK c,c.length,Nat.ble (off+c.length) e.cells.length)=(some (.ptr k off),some e,true,some v,some c,true,m,true))
  (hn:SL P E n ops Q rest (Y l ds) (U ((k,e.put off c)::s))):SL P E n ops Q (⟨none,.store t x y,ty,pos,af,none⟩::rest) (Y l ds) (U s):=
 Ed ⟨p1 h,p1 (p2 h),p1 (p2 (p2 h)),p1 (p2 (p2 (p2 h))),p1 (p2 (p2 (p2 (p2 h)))),p1 (p2 (p2 (p2 (p2 (p2 h))))),p1 (p2 (p2 (p2 (p2 (p2 (p2 h)))))),p2 (p2 (p2 (p2 (p2 (p2 (p2 h))))))⟩ (λ_ q=>q▸hn)
def A9 (E:Env) (ds:List (FuncId×List AV)) (l:List (Nat×AV)) (s:List (Nat×M)) (ks:List Nat) (f:Operand) (args:List Operand) (fid:FuncId) (argsC:List AV) (es:List M) (first cap vs:List AV) (l':List (Nat×AV)) (d n:Nat):Prop:=
 (bR l f,tL l args,first++vs++cap,uv s ks,nodupB ks,Cy l' ds s ks ks es,xR E ks es,Nat.blt d n)=(some (.fn fid first cap),some vs,AV.gZ.me (nth ks) argsC,some (kz (nth ks) es),true,true,True,true)
theorem A9.ok {ks:List Nat} {f:Operand} {args:List Operand} {fid:FuncId} {argsC:List AV} {es:List M} {first cap vs:List AV} {l':List (Nat×AV)} (h:A9 E ds l s ks f args fid argsC es first cap vs l' d n) :
  lS E ds l s ks f args fid argsC es first cap vs l':=
 ⟨p1 h,p1 (p2 h),p1 (p2 (p2 h)),p1 (p2 (p2 (p2 h))),p1 (p2 (p2 (p2 (p2 h)))),p1 (p2 (p2 (p2 (p2 (p2 h))))),of_eq_true (p1 (p2 (p2 (p2 (p2 (p2 (p2 h)))))))⟩
theorem A9.bl {ks:List Nat} {f:Operand} {args:List Operand} {fid:FuncId} {argsC:List AV} {es:List M} {first cap vs:List AV} {l':List (Nat×AV)} (h:A9 E ds l s ks f args fid argsC es first cap vs l' d n) :
 Nat.blt d n=true:=p2 (p2 (p2 (p2 (p2 (p2 (p2 h))))))
theorem zk {X R:Type} {res:al X} {kk:X->al R} {r:al R} {V V':X->AV} {C:X->List M} {C':X->List (Nat×M)} {f:Operand} {args:List Operand} {ts:Array TypeId} {fid:FuncId}
  {argsC first cap vs:List AV} {es:List M} (hp:∀ p fr σ,fr.ds=ds->r=.kA p->Q (.panic p.av) fr σ) (hr:r≠.stuck) (h:al.bind res kk=r) (ks:List Nat) (hen:Enters P fid)
  (hC:CT P fid argsC es res V C) (hk:(bR l f,tL l args,first++vs++cap,uv s ks,nodupB ks,Cy l ds s ks ks es,xR E ks es,Nat.blt d n)=(some (.fn fid first cap),some vs,AV.gZ.me (nth ks) argsC,some (kz (nth ks) es),true,true,True,true))
  (hx:∀ x,((C x).length,jR (below ks.length) (C x),(V x).only (below ks.length),(V x).gZ (nth ks),lR ks (kz (nth ks) (C x)))=(ks.length,true,true,V' x,C' x))
  (hret:∀ x,kk x=r->SL P E n ops Q rest (Y ((d,V' x)::l) ds) (U (C' x++s))) :
  SL P E n ops Q (⟨some d,.call ⟨.value f,args.toArray,ts⟩,ty,pos,af,none⟩::rest) (Y l ds) (U s):=
 jU hr h ks hen hC (A9.ok (d:=d) (n:=n) hk) (A9.bl hk) (λx=>⟨p1 (hx x),p1 (p2 (hx x)),p1 (p2 (p2 (hx x)))⟩) (λx=>⟨p1 (p2 (p2 (p2 (hx x)))),p2 (p2 (p2 (p2 (hx x))))⟩) hp hret
theorem zK {j g:Nat} {want b:Bool} {X R:Type} {res:al X} {kk:X->al R} {r:al R} {V V':X->AV} {C:X->List M} {C':X->List (Nat×M)} {f:Operand} {args:List Operand} {ts:Array TypeId} {fid:FuncId}
  {argsC first cap vs:List AV} {es:List M} (hb:b=want) (hj:((ops[j]?).bind (·.dst),kf l g)=(some g,some (Bo b))) (hp:∀ p fr σ,fr.ds=ds->r=.kA p->Q (.panic p.av) fr σ) (hr:r≠.stuck) (h:al.bind res kk=r) (ks:List Nat) (hen:Enters P fid)
  (hC:CT P fid argsC es res V C) (hk:(bR l f,tL l args,first++vs++cap,uv s ks,nodupB ks,Cy l ds s ks ks es,xR E ks es,Nat.blt d n)=(some (.fn fid first cap),some vs,AV.gZ.me (nth ks) argsC,some (kz (nth ks) es),true,true,True,true))
  (hx:∀ x,((C x).length,jR (below ks.length) (C x),(V x).only (below ks.length),(V x).gZ (nth ks),lR ks (kz (nth ks) (C x)))=(ks.length,true,true,V' x,C' x))
  (hret:∀ x,kk x=r->SL P E n ops Q rest (Y ((d,V' x)::l) ds) (U (C' x++s))) :
  SL P E n ops Q (⟨some d,.call ⟨.value f,args.toArray,ts⟩,ty,pos,af,some (j,want)⟩::rest) (Y l ds) (U s):=
 Ej hb ⟨p1 hj,p2 hj⟩ hr h ks hen hC (A9.ok (d:=d) (n:=n) hk) (A9.bl hk) (λx=>⟨p1 (hx x),p1 (p2 (hx x)),p1 (p2 (p2 (hx x)))⟩) (λx=>⟨p1 (p2 (p2 (p2 (hx x)))),p2 (p2 (p2 (p2 (hx x))))⟩) hp hret
theorem zC {f:FuncId} {fn:Func} {c:Code} {args:List AV} {es:List M} {X:Type} {res:al X} {V:X->AV} {C:X->List M} (hf:P.funcs[f]?=some fn) (hb:(fn.body,Nat.ble args.length fn.ntmps)=(some c,true))
  (h:∀ r,(∀ p fr (σ:Z),fr.ds=[]->r=.kA p->nN P fn (qi V C (λx=>r=.ok x) (λv=>∃ p,r=.kA p/\v=p.av)) (.panic p.av) fr σ)->res=r->r≠.stuck->∀ E:Env,(∀ k,k5 es k=true->E.fix k=none)->
   SW P E fn.ntmps c (nN P fn (qi V C (λx=>r=.ok x) (λv=>∃ p,r=.kA p/\v=p.av))) (Y ((List.range args.length).zip args) []) (U (fh 0 es))):CT P f args es res V C:=
 Gy hf (p1 hb) (p2 hb) λr hr hs=>h r (λ_ _ _ hd hp=>zO hd hp) hr hs
theorem zB {R:Type} {c:Operand} {x y:Code} {b:Bool} {u v r:al R} (hb:bR l c=some (Bo b)) (h:br b u v=r) (ht:b=true->u=r->SW P E n x Q (Y l ds) (U s)) (hf:b=false->v=r->SW P E n y Q (Y l ds) (U s)):SW P E n (.cond c x y) Q (Y l ds) (U s):=
 df hb (λq=>ht q (J9 q h)) (λq=>hf q (Ka q h))
theorem zd {R:Type} {p:Prop} [Decidable p] {x r:al R} {q:Prop} (hr:r≠.stuck) (h:gd p x=r) (k:p->x=r->q):q:=k (BP hr h).1 (BP hr h).2
theorem ze {R β:Type} {l:List β} {i:Int} {k:β->al R} {r:al R} {q:Prop} (hr:r≠.stuck) (h:el l i k=r) (c:∀ x,0<=i->i<l.length->l[i.toNat]?=some x->k x=r->q):q:=
 let ⟨x,a,b,d,e⟩:=IM hr h;c x a b d e
theorem z1 {R:Type} {b:Bool} {u v r:al R} {q:Prop} (hb:b=true) (h:br b u v=r) (k:u=r->q):q:=k (J9 hb h)
theorem z2 {R:Type} {b:Bool} {u v r:al R} {q:Prop} (hb:b=false) (h:br b u v=r) (k:v=r->q):q:=k (Ka hb h)
theorem zb {q:Prop} (b:Bool) (h1:b=true->q) (h2:b=false->q):q:=by cases b;exact h2 rfl;exact h1 rfl
def gF (l:List (Nat×AV)):List (Nat×AV)->List (Option AV)
 | []=>[]
 | (i,_)::F=>kf l i::gF l F
def gS (s:List (Nat×M)):List (Nat×M)->List (Option M)
 | []=>[]
 | (i,_)::F=>dZ s i::gS s F
theorem GW {l G:List (Nat×AV)}:∀ {F:List (Nat×AV)},gF l F=gF G F->tM l G F
 | [],_=>trivial
 | (_,_)::_,h=>⟨(List.cons.inj h).1,GW (List.cons.inj h).2⟩
theorem GX {l G:List (Nat×M)}:∀ {F:List (Nat×M)},gS l F=gS G F->ux l G F
 | [],_=>trivial
 | (_,_)::_,h=>⟨(List.cons.inj h).1,GX (List.cons.inj h).2⟩
theorem zM {X R:Type} {x y:Code} {j:X->al R} {p:(X->al R)->al R} {r:al R} (h:jn j p=r) (F:X->List (Nat×AV)) (H:X->List (Nat×M))
  (hy:∀ v,j v=r->SW P E n y Q (Y (F v) ds) (U (H v)))
  (hx:∀ (j':X->al R) (K:eZ->Z->Prop),(∀ v l s,j' v=r->(gF l (F v),gS s (H v))=(gF (F v) (F v),gS (H v) (H v))->K (Y l ds) (U s))->p j'=r->SW P E n x (vJ K Q) (Y l ds) (U s)):SW P E n (.seq x y) Q (Y l ds) (U s):=
 Gz F H (λv=>j v=r) hy (λK hK=>hx j K (λv l s a b=>hK v l s a (GW (p1 b)) (GX (p2 b))) h)
theorem zL {X R:Type} {c:Code} {body:(X->al R)->X->al R} {r:al R} {m:Nat} {v:X} (hr:r≠.stuck) (h0:iter body m v=r) (F:X->List (Nat×AV)) (H:X->List (Nat×M))
  (h1:(gF l (F v),gS s (H v))=(gF (F v) (F v),gS (H v) (H v)))
  (hx:∀ (next:X->al R) (v:X) (K:eZ->Z->Prop),(∀ v l s,next v=r->(gF l (F v),gS s (H v))=(gF (F v) (F v),gS (H v) (H v))->K (Y l ds) (U s))->body next v=r->SW P E n c (vJ K Q) (Y (F v) ds) (U (H v))) :
  SW P E n (.loop c) Q (Y l ds) (U s):=
 Di F H body r m v hr h0 (GW (p1 h1)) (GX (p2 h1)) (λnext v K hK h=>hx next v K (λv l s a b=>hK v l s a (GW (p1 b)) (GX (p2 b))) h)
theorem zQ {c:Code} {Q':eB} {fr:eZ} {σ:Z} (k:∀ fr σ,SW P E n c Q' fr σ->Q .normal fr σ) (h:SW P E n c Q' fr σ):SL P E n ops Q [] fr σ:=N (k _ _ h)
def gM (s:List (Nat×M)):Nat->List M->List (Option M)
 | _,[]=>[]
 | i,_::es=>dZ s i::gM s (i+1) es
theorem Je {s:List (Nat×M)}:∀ {es:List M} {i:Nat},gM s i es=es.map some->vg s i es
 | [],_,_=>trivial
 | _::_,_,h=>⟨(List.cons.inj h).1,Je (List.cons.inj h).2⟩
theorem zX {fn:Func} {X:Type} {V:X->AV} {C:X->List M} {r:al X} {H:AV->Prop} {vs:List AV} {x:X} (hr:Df P (Y l []) (U s) fn.results.toList vs) (hg:.ok x=r) (hm:(nM vs,gM s 0 (C x))=(V x,(C x).map some)) :
 nN P fn (qi V C (λx=>r=.ok x) H) .ret (Y l []) (U s):=nr (.inl rfl) x hr hg.symm (p1 hm▸AV.le_refl _) (Je (p2 hm))
theorem z {fn:Func} {X:Type} {V:X->AV} {C:X->List M} {r:al X} {H:AV->Prop} {v:AV} {x:X} {t:Nat} (h:(fn.results.toList,kf l t)=([.tmp t],some v)) (hg:.ok x=r) (hm:(v,gM s 0 (C x))=(V x,(C x).map some)) :
 nN P fn (qi V C (λx=>r=.ok x) H) .ret (Y l []) (U s):=zX (vs:=[v]) (by rw[p1 h];exact .cons (bp (p2 h)) .nil) hg hm
theorem zY {fn:Func} {X:Type} {V:X->AV} {C:X->List M} {r:al X} {H:AV->Prop} {vs:List AV} {x:X} (hr:Df P (Y l []) (U s) fn.results.toList vs) (hg:.ok x=r) (hm:(nM vs,gM s 0 (C x))=(V x,(C x).map some)) :
 nN P fn (qi V C (λx=>r=.ok x) H) .normal (Y l []) (U s):=nr (.inr rfl) x hr hg.symm (p1 hm▸AV.le_refl _) (Je (p2 hm))
end
section
variable {P:Program} {E:Env} {n:Nat} {ops:Array Oper} {Q:eB} {B:List Rec->eZ->Z->Prop} {i:Nat} {L:List Nat} {recs:List Rec} {l:List (Nat×AV)} {ds:List (FuncId×List AV)} {s:List (Nat×M)}
 {ty:TypeId} {pos:String} {af:Array Edge} {d:Nat}
theorem zD {op:Op} {v:AV} {rd:List (Nat×M)} (ho:ops[i]?=some ⟨some d,op,ty,pos,af,none⟩) (h:jr P op l ds s v rd)
 (hc:(ep ⟨some d,op,ty,pos,af,none⟩,Nat.blt d n,w5 ops i v rd recs)=(false,true,true))
 (hn:mE P E n ops Q B L (⟨i,some d,rd,none⟩::recs) (Y ((d,v)::l) ds) (U s)):mE P E n ops Q B (i::L) recs (Y l ds) (U s):=J7 ho h ⟨p1 hc,p1 (p2 hc),p2 (p2 hc)⟩ hn
end
end Go.Abs
end
section
namespace Go.Abs
abbrev jv (x:gb):List AV:=[Sc (.int .u64 x.x0),Sc (.int .u64 x.x1),Sc (.int .u64 x.x2),Sc (.int .u64 x.x3)]
abbrev ed (x:aA):List AV:=[I x.Kind,I x.cG,F x.Label,F x.bn,F x.bu,.pv (.sl (List.length x.bc) (ak.Cs x.bc)),.pv (.sl (List.length x.Body) (aA.Cs x.Body)),.pv (.sl (List.length x.bT) (cn x.bT)),.pv (.sl (List.length x.kh) (cn x.kh)),F x.Trail,I x.Pos]
abbrev bf (x:ak):List AV:=[I x.Kind,F x.Text,I x.kl,F x.bn,F x.bu,.pv (.sl (List.length x.bc) (ak.Cs x.bc)),.pv (.sl (List.length x.Decls) (aA.Cs x.Decls)),.pv (.sl (List.length x.bT) (cn x.bT)),I x.Pos]
abbrev kp (x:cu):List AV:=[F x.cb,.pv (.sl (List.length x.bo) (bY.Cs x.bo)),.pv (.sl (List.length x.Decls) (aA.Cs x.Decls)),.pv (.sl (List.length x.bT) (cn x.bT))]
abbrev fq (x:u):List AV:=[I x.Kind,Sc (.int .u64 x.GO),Sc (.int .u64 x.GP),Sc (.int .u64 x.GQ),Sc (.int .u64 x.GS),.pv (.sl (List.length x.bc) (u.Cs x.bc))]
abbrev gy (x:aB):List AV:=[I x.Kind,F x.Text,I x.Pos,I x.End]
abbrev K (x:L):List AV:=[F x.text,.pv (.sl (List.length x.bd) (aB.Cs x.bd)),I x.at_,I x.base,Bo x.skip,.pv (.pt (Option.map ak.C x.pending))]
abbrev aL (x:R):List AV:=[F x.text,I x.at_]
abbrev aH (x:X):List AV:=[Bo x.nu,Bo x.deep]
abbrev bO (x:aP):List AV:=[Bo x.mn,Bo x.Jc,Bo x.xc,I x.level]
end Go.Abs
end
section
namespace Go.Abs
open Go.Proofs
instance:Dq Tryz.prog 20:=⟨⟨_,Tryz.underlying20⟩⟩
instance:Dq Tryz.prog 150:=⟨⟨_,Tryz.underlying150⟩⟩
instance:mJ Tryz.prog 2 1:=⟨by kernel_rfl⟩
instance:ja Tryz.prog 2 false:=⟨by kernel_rfl⟩
instance:kH Tryz.prog 2 (.int .i64):=⟨by kernel_rfl⟩
instance:mJ Tryz.prog 3 1:=⟨by kernel_rfl⟩
instance:ja Tryz.prog 3 false:=⟨by kernel_rfl⟩
instance:k3 Tryz.prog 3 [.int .i64 0]:=⟨by kernel_rfl⟩
instance:kH Tryz.prog 3 (.int .i64):=⟨by kernel_rfl⟩
instance:mJ Tryz.prog 4 1:=⟨by kernel_rfl⟩
instance:ja Tryz.prog 4 false:=⟨by kernel_rfl⟩
instance:k3 Tryz.prog 4 [.bool false]:=⟨by kernel_rfl⟩
instance:kH Tryz.prog 4 .bool:=⟨by kernel_rfl⟩
instance:mJ Tryz.prog 5 1:=⟨by kernel_rfl⟩
instance:ja Tryz.prog 5 false:=⟨by kernel_rfl⟩
instance:kH Tryz.prog 5 (.int .u8):=⟨by kernel_rfl⟩
instance:mJ Tryz.prog 9 1:=⟨by kernel_rfl⟩
instance:ja Tryz.prog 9 false:=⟨by kernel_rfl⟩
instance:kH Tryz.prog 9 .string:=⟨by kernel_rfl⟩
instance:mJ Tryz.prog 23 1:=⟨by kernel_rfl⟩
instance:ja Tryz.prog 23 false:=⟨by kernel_rfl⟩
instance:Cw Tryz.prog 23 65 3:=⟨by kernel_rfl⟩
instance:kH Tryz.prog 23 (.slice 65):=⟨by kernel_rfl⟩
instance:mJ Tryz.prog 24 1:=⟨by kernel_rfl⟩
instance:ja Tryz.prog 24 false:=⟨by kernel_rfl⟩
instance:k3 Tryz.prog 24 [.slice none 0 0]:=⟨by kernel_rfl⟩
instance:Cw Tryz.prog 24 53 11:=⟨by kernel_rfl⟩
instance:kH Tryz.prog 24 (.slice 53):=⟨by kernel_rfl⟩
instance:mJ Tryz.prog 25 1:=⟨by kernel_rfl⟩
instance:ja Tryz.prog 25 false:=⟨by kernel_rfl⟩
instance:k3 Tryz.prog 25 [.slice none 0 0]:=⟨by kernel_rfl⟩
instance:Cw Tryz.prog 25 9 1:=⟨by kernel_rfl⟩
instance:kH Tryz.prog 25 (.slice 9):=⟨by kernel_rfl⟩
instance:mJ Tryz.prog 27 4:=⟨by kernel_rfl⟩
instance:ja Tryz.prog 27 true:=⟨by kernel_rfl⟩
instance:k3 Tryz.prog 27 [eSt,.slice none 0 0,.slice none 0 0,.slice none 0 0]:=⟨by kernel_rfl⟩
instance:ma Tryz.prog 27 0 0:=⟨by kernel_rfl⟩
instance:ma Tryz.prog 27 1 1:=⟨by kernel_rfl⟩
instance:ma Tryz.prog 27 2 2:=⟨by kernel_rfl⟩
instance:ma Tryz.prog 27 3 3:=⟨by kernel_rfl⟩
instance:iM Tryz.prog 27 [eSt,.slice none 0 0,.slice none 0 0,.slice none 0 0] [(0,1),(1,1),(2,1),(3,1)]:=⟨by kernel_rfl⟩
instance:ja Tryz.prog 28 false:=⟨by kernel_rfl⟩
instance:kH Tryz.prog 28 (.int .i64):=⟨by kernel_rfl⟩
instance:mJ Tryz.prog 30 2:=⟨by kernel_rfl⟩
instance:ja Tryz.prog 30 true:=⟨by kernel_rfl⟩
instance:k3 Tryz.prog 30 [.int .i64 0,.int .i64 0]:=⟨by kernel_rfl⟩
instance:ma Tryz.prog 30 0 0:=⟨by kernel_rfl⟩
instance:ma Tryz.prog 30 1 1:=⟨by kernel_rfl⟩
instance:iM Tryz.prog 30 [.int .i64 0,.int .i64 0] [(0,1),(1,1)]:=⟨by kernel_rfl⟩
instance:mJ Tryz.prog 35 2:=⟨by kernel_rfl⟩
instance:ja Tryz.prog 35 true:=⟨by kernel_rfl⟩
instance:k3 Tryz.prog 35 [eSt,eSt]:=⟨by kernel_rfl⟩
instance:IH Tryz.prog 35 2 1:=⟨by kernel_rfl⟩
instance:iM Tryz.prog 35 [eSt,eSt] [(0,1),(1,1)]:=⟨by kernel_rfl⟩
instance:kH Tryz.prog 35 (.array 2 9):=⟨by kernel_rfl⟩
instance:mJ Tryz.prog 36 1:=⟨by kernel_rfl⟩
instance:ja Tryz.prog 36 false:=⟨by kernel_rfl⟩
instance:k3 Tryz.prog 36 [.slice none 0 0]:=⟨by kernel_rfl⟩
instance:Cw Tryz.prog 36 38 9:=⟨by kernel_rfl⟩
instance:kH Tryz.prog 36 (.slice 38):=⟨by kernel_rfl⟩
instance:mJ Tryz.prog 38 9:=⟨by kernel_rfl⟩
instance:ja Tryz.prog 38 true:=⟨by kernel_rfl⟩
instance:k3 Tryz.prog 38 [.int .i64 0,eSt,.int .i64 0,eSt,eSt,.slice none 0 0,.slice none 0 0,.slice none 0 0,.int .i64 0]:=⟨by kernel_rfl⟩
instance:ma Tryz.prog 38 0 0:=⟨by kernel_rfl⟩
instance:ma Tryz.prog 38 1 1:=⟨by kernel_rfl⟩
instance:ma Tryz.prog 38 2 2:=⟨by kernel_rfl⟩
instance:ma Tryz.prog 38 3 3:=⟨by kernel_rfl⟩
instance:ma Tryz.prog 38 4 5:=⟨by kernel_rfl⟩
instance:ma Tryz.prog 38 5 6:=⟨by kernel_rfl⟩
instance:ma Tryz.prog 38 6 7:=⟨by kernel_rfl⟩
instance:ma Tryz.prog 38 7 8:=⟨by kernel_rfl⟩
instance:iM Tryz.prog 38 [.int .i64 0,eSt,.int .i64 0,eSt,eSt,.slice none 0 0,.slice none 0 0,.slice none 0 0,.int .i64 0] [(0,1),(1,1),(2,1),(3,2),(5,1),(6,1),(7,1),(8,1)]:=⟨by kernel_rfl⟩
instance:mJ Tryz.prog 44 1:=⟨by kernel_rfl⟩
instance:ja Tryz.prog 44 false:=⟨by kernel_rfl⟩
instance:kH Tryz.prog 44 (.int .u64):=⟨by kernel_rfl⟩
instance:mJ Tryz.prog 45 1:=⟨by kernel_rfl⟩
instance:ja Tryz.prog 45 false:=⟨by kernel_rfl⟩
instance:Cw Tryz.prog 45 49 4:=⟨by kernel_rfl⟩
instance:kH Tryz.prog 45 (.slice 49):=⟨by kernel_rfl⟩
instance:mJ Tryz.prog 49 4:=⟨by kernel_rfl⟩
instance:ja Tryz.prog 49 true:=⟨by kernel_rfl⟩
instance:k3 Tryz.prog 49 [.int .i64 0,eSt,.int .i64 0,.int .i64 0]:=⟨by kernel_rfl⟩
instance:ma Tryz.prog 49 0 0:=⟨by kernel_rfl⟩
instance:KO Tryz.prog 49 0 false:=⟨by kernel_rfl⟩
instance:ma Tryz.prog 49 1 1:=⟨by kernel_rfl⟩
instance:KO Tryz.prog 49 1 false:=⟨by kernel_rfl⟩
instance:ma Tryz.prog 49 2 2:=⟨by kernel_rfl⟩
instance:KO Tryz.prog 49 2 false:=⟨by kernel_rfl⟩
instance:ma Tryz.prog 49 3 3:=⟨by kernel_rfl⟩
instance:iM Tryz.prog 49 [.int .i64 0,eSt,.int .i64 0,.int .i64 0] [(0,1),(1,1),(2,1),(3,1)]:=⟨by kernel_rfl⟩
instance:mJ Tryz.prog 53 11:=⟨by kernel_rfl⟩
instance:ja Tryz.prog 53 true:=⟨by kernel_rfl⟩
instance:k3 Tryz.prog 53 [.int .i64 0,.int .i64 0,eSt,eSt,eSt,.slice none 0 0,.slice none 0 0,.slice none 0 0,.slice none 0 0,eSt,.int .i64 0]:=⟨by kernel_rfl⟩
instance:ma Tryz.prog 53 0 0:=⟨by kernel_rfl⟩
instance:ma Tryz.prog 53 1 1:=⟨by kernel_rfl⟩
instance:ma Tryz.prog 53 2 2:=⟨by kernel_rfl⟩
instance:ma Tryz.prog 53 3 3:=⟨by kernel_rfl⟩
instance:ma Tryz.prog 53 4 5:=⟨by kernel_rfl⟩
instance:ma Tryz.prog 53 5 6:=⟨by kernel_rfl⟩
instance:ma Tryz.prog 53 6 7:=⟨by kernel_rfl⟩
instance:ma Tryz.prog 53 7 8:=⟨by kernel_rfl⟩
instance:ma Tryz.prog 53 8 9:=⟨by kernel_rfl⟩
instance:iM Tryz.prog 53 [.int .i64 0,.int .i64 0,eSt,eSt,eSt,.slice none 0 0,.slice none 0 0,.slice none 0 0,.slice none 0 0,eSt,.int .i64 0] [(0,1),(1,1),(2,1),(3,2),(5,1),(6,1),(7,1),(8,1),(9,1),(10,1)]:=⟨by kernel_rfl⟩
instance:ja Tryz.prog 56 false:=⟨by kernel_rfl⟩
instance:mJ Tryz.prog 57 1:=⟨by kernel_rfl⟩
instance:ja Tryz.prog 57 false:=⟨by kernel_rfl⟩
instance:kH Tryz.prog 57 (.pointer 38):=⟨by kernel_rfl⟩
instance:ma Tryz.prog 59 0 0:=⟨by kernel_rfl⟩
instance:ma Tryz.prog 59 1 1:=⟨by kernel_rfl⟩
instance:ma Tryz.prog 59 2 2:=⟨by kernel_rfl⟩
instance:ma Tryz.prog 59 3 3:=⟨by kernel_rfl⟩
instance:ma Tryz.prog 59 4 4:=⟨by kernel_rfl⟩
instance:ma Tryz.prog 59 5 5:=⟨by kernel_rfl⟩
instance:iM Tryz.prog 59 [eSt,.slice none 0 0,.int .i64 0,.int .i64 0,.bool false,.pointer none] [(0,1),(1,1),(2,1),(3,1),(4,1),(5,1)]:=⟨by kernel_rfl⟩
instance:mJ Tryz.prog 65 3:=⟨by kernel_rfl⟩
instance:ja Tryz.prog 65 true:=⟨by kernel_rfl⟩
instance:k3 Tryz.prog 65 [eSt,eSt,.int .i64 0]:=⟨by kernel_rfl⟩
instance:ma Tryz.prog 65 0 0:=⟨by kernel_rfl⟩
instance:ma Tryz.prog 65 1 1:=⟨by kernel_rfl⟩
instance:iM Tryz.prog 65 [eSt,eSt,.int .i64 0] [(0,1),(1,1),(2,1)]:=⟨by kernel_rfl⟩
instance:kH Tryz.prog 79 (.int .u64):=⟨by kernel_rfl⟩
instance:ma Tryz.prog 83 0 0:=⟨by kernel_rfl⟩
instance:ma Tryz.prog 83 1 1:=⟨by kernel_rfl⟩
instance:ma Tryz.prog 83 2 2:=⟨by kernel_rfl⟩
instance:ma Tryz.prog 83 3 3:=⟨by kernel_rfl⟩
instance:iM Tryz.prog 83 [eSt,.int .i64 0,.slice none 0 0,.bool false] [(0,1),(1,1),(2,1),(3,1)]:=⟨by kernel_rfl⟩
instance:mJ Tryz.prog 86 1:=⟨by kernel_rfl⟩
instance:El Tryz.prog 86:=⟨by kernel_rfl⟩
instance:k3 Tryz.prog 86 [.int .i64 0]:=⟨by kernel_rfl⟩
instance:ma Tryz.prog 86 0 0:=⟨by kernel_rfl⟩
instance:iM Tryz.prog 86 [.int .i64 0] [(0,1)]:=⟨by kernel_rfl⟩
instance:ma Tryz.prog 96 0 0:=⟨by kernel_rfl⟩
instance:ma Tryz.prog 96 1 1:=⟨by kernel_rfl⟩
instance:iM Tryz.prog 96 [.bool false,.bool false] [(0,1),(1,1)]:=⟨by kernel_rfl⟩
instance:mJ Tryz.prog 105 4:=⟨by kernel_rfl⟩
instance:ja Tryz.prog 105 true:=⟨by kernel_rfl⟩
instance:ma Tryz.prog 105 0 0:=⟨by kernel_rfl⟩
instance:ma Tryz.prog 105 1 1:=⟨by kernel_rfl⟩
instance:ma Tryz.prog 105 2 2:=⟨by kernel_rfl⟩
instance:ma Tryz.prog 105 3 3:=⟨by kernel_rfl⟩
instance:iM Tryz.prog 105 [.bool false,.bool false,.bool false,.int .i64 0] [(0,1),(1,1),(2,1),(3,1)]:=⟨by kernel_rfl⟩
instance:Cw Tryz.prog 125 4 1:=⟨by kernel_rfl⟩
instance:mJ Tryz.prog 134 4:=⟨by kernel_rfl⟩
instance:ja Tryz.prog 134 true:=⟨by kernel_rfl⟩
instance:k3 Tryz.prog 134 [.int .u64 0,.int .u64 0,.int .u64 0,.int .u64 0]:=⟨by kernel_rfl⟩
instance:IH Tryz.prog 134 4 1:=⟨by kernel_rfl⟩
instance:iM Tryz.prog 134 [.int .u64 0,.int .u64 0,.int .u64 0,.int .u64 0] [(0,1),(1,1),(2,1),(3,1)]:=⟨by kernel_rfl⟩
instance:kH Tryz.prog 134 (.array 4 44):=⟨by kernel_rfl⟩
instance:mJ Tryz.prog 135 1:=⟨by kernel_rfl⟩
instance:ja Tryz.prog 135 false:=⟨by kernel_rfl⟩
instance:k3 Tryz.prog 135 [.slice none 0 0]:=⟨by kernel_rfl⟩
instance:Cw Tryz.prog 135 137 6:=⟨by kernel_rfl⟩
instance:kH Tryz.prog 135 (.slice 137):=⟨by kernel_rfl⟩
instance:mJ Tryz.prog 137 6:=⟨by kernel_rfl⟩
instance:ja Tryz.prog 137 true:=⟨by kernel_rfl⟩
instance:k3 Tryz.prog 137 [.int .i64 0,.int .u64 0,.int .u64 0,.int .u64 0,.int .u64 0,.slice none 0 0]:=⟨by kernel_rfl⟩
instance:ma Tryz.prog 137 0 0:=⟨by kernel_rfl⟩
instance:ma Tryz.prog 137 1 1:=⟨by kernel_rfl⟩
instance:ma Tryz.prog 137 2 5:=⟨by kernel_rfl⟩
instance:iM Tryz.prog 137 [.int .i64 0,.int .u64 0,.int .u64 0,.int .u64 0,.int .u64 0,.slice none 0 0] [(0,1),(1,4),(5,1)]:=⟨by kernel_rfl⟩
instance:mJ Tryz.prog 154 1:=⟨by kernel_rfl⟩
instance:ja Tryz.prog 154 false:=⟨by kernel_rfl⟩
instance:k3 Tryz.prog 154 [.slice none 0 0]:=⟨by kernel_rfl⟩
instance:Cw Tryz.prog 154 189 3:=⟨by kernel_rfl⟩
instance:kH Tryz.prog 154 (.slice 189):=⟨by kernel_rfl⟩
instance:ja Tryz.prog 161 false:=⟨by kernel_rfl⟩
instance:mJ Tryz.prog 181 1:=⟨by kernel_rfl⟩
instance:ja Tryz.prog 181 false:=⟨by kernel_rfl⟩
instance:k3 Tryz.prog 181 [.slice none 0 0]:=⟨by kernel_rfl⟩
instance:Cw Tryz.prog 181 5 1:=⟨by kernel_rfl⟩
instance:kH Tryz.prog 181 (.slice 5):=⟨by kernel_rfl⟩
instance:mJ Tryz.prog 189 3:=⟨by kernel_rfl⟩
instance:ja Tryz.prog 189 true:=⟨by kernel_rfl⟩
instance:k3 Tryz.prog 189 [eSt,.bool false,.int .i64 0]:=⟨by kernel_rfl⟩
instance:ma Tryz.prog 189 0 0:=⟨by kernel_rfl⟩
instance:ma Tryz.prog 189 1 1:=⟨by kernel_rfl⟩
instance:ma Tryz.prog 189 2 2:=⟨by kernel_rfl⟩
instance:iM Tryz.prog 189 [eSt,.bool false,.int .i64 0] [(0,1),(1,1),(2,1)]:=⟨by kernel_rfl⟩
instance:mJ Tryz.prog 198 1:=⟨by kernel_rfl⟩
instance:ja Tryz.prog 198 false:=⟨by kernel_rfl⟩
instance:k3 Tryz.prog 198 [.pointer none]:=⟨by kernel_rfl⟩
instance:ma Tryz.prog 200 0 0:=⟨by kernel_rfl⟩
instance:ma Tryz.prog 200 1 1:=⟨by kernel_rfl⟩
instance:iM Tryz.prog 200 [eSt,.int .i64 0] [(0,1),(1,1)]:=⟨by kernel_rfl⟩
instance:mJ Tryz.prog 202 1:=⟨by kernel_rfl⟩
instance:El Tryz.prog 202:=⟨by kernel_rfl⟩
instance:k3 Tryz.prog 202 [.int .i64 0]:=⟨by kernel_rfl⟩
instance:ma Tryz.prog 202 0 0:=⟨by kernel_rfl⟩
instance:iM Tryz.prog 202 [.int .i64 0] [(0,1)]:=⟨by kernel_rfl⟩
instance:El Tryz.prog 213:=⟨by kernel_rfl⟩
instance:iM Tryz.prog 261 [.int .u8 0,.int .u8 0] [(0,1),(1,1)]:=⟨by kernel_rfl⟩
instance:kH Tryz.prog 261 (.array 2 5):=⟨by kernel_rfl⟩
instance:fg Tryz.prog 5 1 1:=⟨by kernel_rfl⟩
instance:fg Tryz.prog 9 1 16:=⟨by kernel_rfl⟩
instance:fg Tryz.prog 38 9 144:=⟨by kernel_rfl⟩
instance:fg Tryz.prog 49 4 40:=⟨by kernel_rfl⟩
instance:fg Tryz.prog 53 11 184:=⟨by kernel_rfl⟩
instance:fg Tryz.prog 65 3 40:=⟨by kernel_rfl⟩
instance:fg Tryz.prog 137 6 64:=⟨by kernel_rfl⟩
instance:fg Tryz.prog 189 3 32:=⟨by kernel_rfl⟩
instance:k4 Tryz.prog 23 1 65 3 [eSt,eSt,.int .i64 0] [(0,3)]:=⟨by kernel_rfl⟩
instance:k4 Tryz.prog 24 1 53 11 [.int .i64 0,.int .i64 0,eSt,eSt,eSt,.slice none 0 0,.slice none 0 0,.slice none 0 0,.slice none 0 0,eSt,.int .i64 0] [(0,11)]:=⟨by kernel_rfl⟩
instance:k4 Tryz.prog 25 1 9 1 [eSt] [(0,1)]:=⟨by kernel_rfl⟩
instance:k4 Tryz.prog 25 3 9 1 [eSt,eSt,eSt] [(0,1),(1,1),(2,1)]:=⟨by kernel_rfl⟩
instance:k4 Tryz.prog 25 13 9 1 [eSt,eSt,eSt,eSt,eSt,eSt,eSt,eSt,eSt,eSt,eSt,eSt,eSt] [(0,1),(1,1),(2,1),(3,1),(4,1),(5,1),(6,1),(7,1),(8,1),(9,1),(10,1),(11,1),(12,1)]:=⟨by kernel_rfl⟩
instance:k4 Tryz.prog 36 1 38 9 [.int .i64 0,eSt,.int .i64 0,eSt,eSt,.slice none 0 0,.slice none 0 0,.slice none 0 0,.int .i64 0] [(0,9)]:=⟨by kernel_rfl⟩
instance:k4 Tryz.prog 36 2 38 9 [.int .i64 0,eSt,.int .i64 0,eSt,eSt,.slice none 0 0,.slice none 0 0,.slice none 0 0,.int .i64 0,.int .i64 0,eSt,.int .i64 0,eSt,eSt,.slice none 0 0,.slice none 0 0,.slice none 0 0,.int .i64 0] [(0,9),(9,9)]:=⟨by kernel_rfl⟩
instance:k4 Tryz.prog 45 1 49 4 [.int .i64 0,eSt,.int .i64 0,.int .i64 0] [(0,4)]:=⟨by kernel_rfl⟩
instance:k4 Tryz.prog 125 1 4 1 [.bool false] [(0,1)]:=⟨by kernel_rfl⟩
instance:k4 Tryz.prog 125 2 4 1 [.bool false,.bool false] [(0,1),(1,1)]:=⟨by kernel_rfl⟩
instance:k4 Tryz.prog 125 3 4 1 [.bool false,.bool false,.bool false] [(0,1),(1,1),(2,1)]:=⟨by kernel_rfl⟩
instance:k4 Tryz.prog 125 4 4 1 [.bool false,.bool false,.bool false,.bool false] [(0,1),(1,1),(2,1),(3,1)]:=⟨by kernel_rfl⟩
instance:k4 Tryz.prog 135 1 137 6 [.int .i64 0,.int .u64 0,.int .u64 0,.int .u64 0,.int .u64 0,.slice none 0 0] [(0,6)]:=⟨by kernel_rfl⟩
instance:k4 Tryz.prog 135 2 137 6 [.int .i64 0,.int .u64 0,.int .u64 0,.int .u64 0,.int .u64 0,.slice none 0 0,.int .i64 0,.int .u64 0,.int .u64 0,.int .u64 0,.int .u64 0,.slice none 0 0] [(0,6),(6,6)]:=⟨by kernel_rfl⟩
instance:k4 Tryz.prog 154 1 189 3 [eSt,.bool false,.int .i64 0] [(0,3)]:=⟨by kernel_rfl⟩
instance:k4 Tryz.prog 181 1 5 1 [.int .u8 0] [(0,1)]:=⟨by kernel_rfl⟩
theorem Kn (a b:ByS):((⟨a.toArray⟩:ByteArray).toList==(⟨b.toArray⟩:ByteArray).toList)=(a==b):=by
 rw[ByteArray.toList_eq,ByteArray.toList_eq]
theorem px {P:Program} {t:TypeId} {cs:Array Value} {off:Nat} {v:Value} (w:World) (ha:pM P t=some false) (h:cs[off]?=some v):(part t cs off).run P w=.ok v w:=by
 unfold part;simp only[Sem.run_bind,oK ha,Result.andThen_ok,Bool.false_eq_true,if_false,h,Sem.run_pure]
theorem GY {P:Program} {t:TypeId} (ht:P.underlying t=some .string) (d:Nat) (w:World) (a b:ByS):(Op.equalIn (d+1) t (S a) (S b)).run P w=.ok (a==b) w:=by
 unfold S;rw[run_equalIn_string w d t _ _ ht,Kn]
theorem Ko (w:World) (a b c d:ByS):(Op.equalIn 10000 35 (.agg #[S a,S b]) (.agg #[S c,S d])).run Tryz.prog w=.ok (a==c&&b==d) w:=by
 have h9:Tryz.prog.underlying 9=some .string:=(inferInstance:kH Tryz.prog 9 _).h;have h35:Tryz.prog.underlying 35=some (.array 2 9):=(inferInstance:kH Tryz.prog 35 _).h;have ha:pM Tryz.prog 9=some false:=(inferInstance:ja Tryz.prog 9 false).h;have hc:Tryz.prog.cellsOf 9=1:=by kernel_rfl
 have hz:xN Tryz.prog 9=some 1:=(inferInstance:mJ Tryz.prog 9 1).h;obtain ⟨i,hi⟩:∃ i,Tryz.prog.info? 9=some i:=by
  unfold xN at hz;cases q:Tryz.prog.info? 9 with
  | none=>simp[q] at hz
  | some i=>exact ⟨i,rfl⟩
 have p0:∀ x y:ByS,(part 9 #[S x,S y] 0).run Tryz.prog w=.ok (S x) w:=λx y=>px w ha rfl;have p1:∀ x y:ByS,(part 9 #[S x,S y] 1).run Tryz.prog w=.ok (S y) w:=λx y=>px w ha rfl;have e:∀ x y:ByS,(Op.equalIn 9999 9 (S x) (S y)).run Tryz.prog w=.ok (x==y) w:=GY h9 9998 w;rw[show (10000:Nat)=9999+1 from rfl,run_equalIn_array w 9999 _ _ h35 hi,hc];simp only[List.range,List.range.loop,Op.eqItems,Sem.run_bind,Nat.zero_mul,Nat.one_mul,p0,e,Result.andThen_ok];cases a==c
 ·simp
 simp only[Bool.not_true,Bool.false_eq_true,if_false,Sem.run_bind,p1,e,Result.andThen_ok];cases b==d<;>simp
theorem Kp (w:World) (a b c d a' b' c' d':Int):(Op.equalIn 10000 134 (.agg #[.int .u64 a,.int .u64 b,.int .u64 c,.int .u64 d]) (.agg #[.int .u64 a',.int .u64 b',.int .u64 c',.int .u64 d'])).run Tryz.prog w=.ok ([a,b,c,d]==[a',b',c',d']) w:=by
 have h44:Tryz.prog.underlying 44=some (.int .u64):=(inferInstance:kH Tryz.prog 44 _).h;have h134:Tryz.prog.underlying 134=some (.array 4 44):=(inferInstance:kH Tryz.prog 134 _).h;have ha:pM Tryz.prog 44=some false:=(inferInstance:ja Tryz.prog 44 false).h;have hc:Tryz.prog.cellsOf 44=1:=by kernel_rfl
 have hz:xN Tryz.prog 44=some 1:=(inferInstance:mJ Tryz.prog 44 1).h;obtain ⟨i,hi⟩:∃ i,Tryz.prog.info? 44=some i:=by
  unfold xN at hz;cases q:Tryz.prog.info? 44 with
  | none=>simp[q] at hz
  | some i=>exact ⟨i,rfl⟩
 have p0:∀ a b c d:Int,(part 44 #[.int .u64 a,.int .u64 b,.int .u64 c,.int .u64 d] 0).run Tryz.prog w=.ok (.int .u64 a) w:=λ_ _ _ _=>px w ha rfl;have p1:∀ a b c d:Int,(part 44 #[.int .u64 a,.int .u64 b,.int .u64 c,.int .u64 d] 1).run Tryz.prog w=.ok (.int .u64 b) w:=λ_ _ _ _=>px w ha rfl;have p2:∀ a b c d:Int,(part 44 #[.int .u64 a,.int .u64 b,.int .u64 c,.int .u64 d] 2).run Tryz.prog w=.ok (.int .u64 c) w:=λ_ _ _ _=>px w ha rfl;have p3:∀ a b c d:Int,(part 44 #[.int .u64 a,.int .u64 b,.int .u64 c,.int .u64 d] 3).run Tryz.prog w=.ok (.int .u64 d) w:=λ_ _ _ _=>px w ha rfl;have e:∀ x y:Int,(Op.equalIn 9999 44 (.int .u64 x) (.int .u64 y)).run Tryz.prog w=.ok (x==y) w:=λx y=>run_equalIn_int w 9998 44 _ _ x y h44;rw[show (10000:Nat)=9999+1 from rfl,run_equalIn_array w 9999 _ _ h134 hi,hc];have l:([a,b,c,d]==[a',b',c',d'])=(a==a'&&(b==b'&&(c==c'&&d==d'))):=by simp[List.cons_beq_cons]
 rw[l];simp only[List.range,List.range.loop,Op.eqItems,Sem.run_bind,Nat.zero_mul,Nat.one_mul,p0,e,Result.andThen_ok];cases a==a'
 ·simp
 simp only[Bool.not_true,Bool.false_eq_true,if_false,Sem.run_bind,p1,e,Result.andThen_ok];cases b==b'
 ·simp
 simp only[Bool.not_true,Bool.false_eq_true,if_false,Sem.run_bind,show 2*1=2 from rfl,p2,e,Result.andThen_ok];cases c==c'
 ·simp
 simp only[Bool.not_true,Bool.false_eq_true,if_false,Sem.run_bind,show 3*1=3 from rfl,p3,e,Result.andThen_ok];cases d==d'<;>simp
theorem K0:Tryz.prog.eqGuardType Tryz.prog.depth 134=false:=by kernel_rfl
theorem K1 (w:World) (a b c d:Int) (kd:Tryz.prog.underlying 28=some (.int .i64)):(Op.equalIn 10000 30 (.agg #[.int .i64 a,.int .i64 b]) (.agg #[.int .i64 c,.int .i64 d])).run Tryz.prog w=.ok (a==c&&b==d) w:=by
 have h3:Tryz.prog.underlying 3=some (.int .i64):=(inferInstance:kH Tryz.prog 3 _).h;have h3':pM Tryz.prog 3=some false:=(inferInstance:ja Tryz.prog 3 false).h;have h28':pM Tryz.prog 28=some false:=(inferInstance:ja Tryz.prog 28 false).h;have hf:(Tryz.prog.fieldsOf 30).toList.map (λf=>(decide (f.name = "_"),f.type,f.offset))=[(false,28,0),(false,3,1)]:=by kernel_rfl
 have ht:Tryz.prog.underlying 30=some (.struct (Tryz.prog.fieldsOf 30)):=by unfold Program.fieldsOf;rw[Tryz.underlying30]
 have hp:Tryz.prog.stoodInHeld 30=false:=by kernel_rfl
 have e28:∀ x y:Int,(Op.equalIn 9999 28 (.int .i64 x) (.int .i64 y)).run Tryz.prog w=.ok (x==y) w:=λx y=>run_equalIn_int w 9998 28 _ _ x y kd;have e3:∀ x y:Int,(Op.equalIn 9999 3 (.int .i64 x) (.int .i64 y)).run Tryz.prog w=.ok (x==y) w:=λx y=>run_equalIn_int w 9998 3 _ _ x y h3;have p0:∀ x y:Int,(part 28 #[.int .i64 x,.int .i64 y] 0).run Tryz.prog w=.ok (.int .i64 x) w:=λx y=>px w h28' rfl;have p1:∀ x y:Int,(part 3 #[.int .i64 x,.int .i64 y] 1).run Tryz.prog w=.ok (.int .i64 y) w:=λx y=>px w h3' rfl;rw[show (10000:Nat)=9999+1 from rfl,run_equalIn_struct w 9999 30 _ _ ht hp];generalize (Tryz.prog.fieldsOf 30).toList=fs at hf;obtain ⟨f1,f2,rfl⟩:∃ f1 f2,fs=[f1,f2]:=by
  have:=congrArg List.length hf;rw[List.length_map] at this;rcases fs with _|⟨a,_|⟨b,_|⟨c,t⟩⟩⟩
  ·cases this
  ·cases this
  ·exact ⟨_,_,rfl⟩
  simp at this
 simp only[List.map_cons,List.map_nil,List.cons.injEq,Prod.mk.injEq,decide_eq_false_iff_not,and_true] at hf;obtain ⟨⟨n1,t1,o1⟩,n2,t2,o2⟩:=hf;simp only[Op.eqFields,n1,n2,ne_eq,not_false_eq_true,if_true,t1,t2,o1,o2,Sem.run_bind,p0,e28,Result.andThen_ok];cases a==c
 ·simp
 simp only[Bool.not_true,Bool.false_eq_true,if_false,Sem.run_bind,p1,e3,Result.andThen_ok];cases b==d<;>simp
theorem Lr:Tryz.prog.eqGuardType Tryz.prog.depth 30=false:=by kernel_rfl
theorem Lm:Tryz.prog.eqGuardType Tryz.prog.depth 35=false:=by kernel_rfl
section
variable {l:List (Nat×AV)} {ds:List (FuncId×List AV)} {s:List (Nat×M)}
theorem VR.zT {g:Gh} {xs:List Value} {c:Value} (h:VR g (.agg (xs.map λv=>.pv (.sc v))) c):c=.agg xs.toArray:=by
 cases h with
 | agg h=>
  congr 2
  rename_i vs
  induction xs generalizing vs with
  | nil=>cases h;rfl
  | cons x xs ih=>
   cases h with
   | cons h t=>
    cases h with
    | pv h=>cases h;rw[ih t]
theorem Ba {t yt:TypeId} {fr:eZ} {x y:Operand} {xs ys:List Value} {r:Bool} (hg:Tryz.prog.eqGuardType Tryz.prog.depth t=false)
  (hx:fr.val x=.agg (xs.map λv=>.pv (.sc v))) (hy:fr.val y=.agg (ys.map λv=>.pv (.sc v))) (h:∀ w,(Op.equalIn 10000 t (.agg xs.toArray) (.agg ys.toArray)).run Tryz.prog w=.ok r w) :
  gD Tryz.prog (.binOp .eql t x y yt) fr [] (Bo r):=by
 intro o ho g ev w hG hv _
 have q1:=hv x (by simp[Op.operands]);rw[hx] at q1
 have q2:=hv y (by simp[Op.operands]);rw[hy] at q2
 exact ⟨.bool r,by simp only[execOp,ho,q1.zT,q2.zT,Sem.run_bind,run_eqGuard_agg w .eql t x y _ _ hg,Result.andThen_ok,run_eql_struct,h,Sem.run_pure],.pv (.sc _)⟩
theorem Bb {t yt:TypeId} {fr:eZ} {x y:Operand} {xs ys:List Value} {r:Bool} (hg:Tryz.prog.eqGuardType Tryz.prog.depth t=false)
  (hx:fr.val x=.agg (xs.map λv=>.pv (.sc v))) (hy:fr.val y=.agg (ys.map λv=>.pv (.sc v))) (h:∀ w,(Op.equalIn 10000 t (.agg xs.toArray) (.agg ys.toArray)).run Tryz.prog w=.ok r w) :
  gD Tryz.prog (.binOp .neq t x y yt) fr [] (Bo (!r)):=by
 intro o ho g ev w hG hv _
 have q1:=hv x (by simp[Op.operands]);rw[hx] at q1
 have q2:=hv y (by simp[Op.operands]);rw[hy] at q2
 exact ⟨.bool !r,by simp only[execOp,ho,q1.zT,q2.zT,Sem.run_bind,run_eqGuard_agg w .neq t x y _ _ hg,Result.andThen_ok,run_neq_struct,h,Sem.run_pure],.pv (.sc _)⟩
theorem Jf {yt:TypeId} {x y:Operand} {a b c d:ByS} (hx:bR l x=some (.agg [F a,F b])) (hy:bR l y=some (.agg [F c,F d])):jr Tryz.prog (.binOp .eql 35 x y yt) l ds s (Bo (a==c&&b==d)) []:=
 .of (Ba (xs:=[S a,S b]) (ys:=[S c,S d]) Lm (aD hx) (aD hy) λw=>Ko w a b c d)
theorem E7 {yt:TypeId} {x y:Operand} {a b c d:ByS} (hx:bR l x=some (.agg [F a,F b])) (hy:bR l y=some (.agg [F c,F d])):jr Tryz.prog (.binOp .neq 35 x y yt) l ds s (Bo (!(a==c&&b==d))) []:=
 .of (Bb (xs:=[S a,S b]) (ys:=[S c,S d]) Lm (aD hx) (aD hy) λw=>Ko w a b c d)
theorem Jg {yt:TypeId} {x y:Operand} {a b c d a' b' c' d':Int} (hx:bR l x=some (.agg [Sc (.int .u64 a),Sc (.int .u64 b),Sc (.int .u64 c),Sc (.int .u64 d)])) (hy:bR l y=some (.agg [Sc (.int .u64 a'),Sc (.int .u64 b'),Sc (.int .u64 c'),Sc (.int .u64 d')])) :
  jr Tryz.prog (.binOp .neq 134 x y yt) l ds s (Bo (!([a,b,c,d]==[a',b',c',d']))) []:=
 .of (Bb (xs:=[.int .u64 a,.int .u64 b,.int .u64 c,.int .u64 d]) (ys:=[.int .u64 a',.int .u64 b',.int .u64 c',.int .u64 d']) K0 (aD hx) (aD hy) λw=>Kp w ..)
theorem Ih {yt:TypeId} {x y:Operand} {a b c d:Int} (hx:bR l x=some (.agg [I a,I b])) (hy:bR l y=some (.agg [I c,I d])):jr Tryz.prog (.binOp .eql 30 x y yt) l ds s (Bo (a==c&&b==d)) []:=
 .of (Ba (xs:=[.int .i64 a,.int .i64 b]) (ys:=[.int .i64 c,.int .i64 d]) Lr (aD hx) (aD hy) λw=>K1 w a b c d (inferInstance:kH Tryz.prog 28 (.int .i64)).h)
end
end Go.Abs
end
section
namespace Go.Proofs
open Go.Shelf
def Tryz.Bc:Go.Shelf.Ren:=⟨λ|137=>296|217=>224|266=>248|n=>n,λ|9=>9|5=>5|3=>3|n=>n,λ|n=>n⟩
theorem Tryz.GZ:Go.Proofs.Lays.n137 Tryz.prog Tryz.Bc:={
 mixed:=by kernel_rfl
 f137:=Tryz.func296.trans (congrArg some (by kernel_rfl))
 f217:=Tryz.func224.trans (congrArg some (by kernel_rfl))
 f266:=Tryz.func248.trans (congrArg some (by kernel_rfl))
 t3:=Tryz.underlying3
 a3:=Tryz.isAgg3
 z3:=Tryz.sizeOf3
 v3:=Tryz.zeroValue3
 t5:=Tryz.underlying5
 a5:=Tryz.isAgg5
 z5:=Tryz.sizeOf5
 v5:=Tryz.zeroValue5
 t9:=Tryz.underlying9
 a9:=Tryz.isAgg9
 z9:=Tryz.sizeOf9
 v9:=Tryz.zeroValue9 }
open Go.RowKit in
theorem Tryz.strings_IndexByte (s:ByteArray) (c:Int) (w:World) :
 Calls Tryz.prog 296 #[.string s,.int .u8 c] w λe w'=>e=.returned (.int .i64 (Lib.indexByte s.data.toList c.toNat.toUInt8))/\w'=w:=Any.strings_IndexByte Tryz.GZ s c w
def Tryz.Be:Go.Shelf.Ren:=⟨λ|283=>255|n=>n,λ|3=>3|9=>9|4=>4|n=>n,λ|n=>n⟩
theorem Tryz.G1:Go.Proofs.Lays.n283 Tryz.prog Tryz.Be:={
 mixed:=by kernel_rfl
 f283:=Tryz.func255.trans (congrArg some (by kernel_rfl))
 t3:=Tryz.underlying3
 a3:=Tryz.isAgg3
 z3:=Tryz.sizeOf3
 v3:=Tryz.zeroValue3
 t4:=Tryz.underlying4
 a4:=Tryz.isAgg4
 z4:=Tryz.sizeOf4
 v4:=Tryz.zeroValue4
 t9:=Tryz.underlying9
 a9:=Tryz.isAgg9
 z9:=Tryz.sizeOf9
 v9:=Tryz.zeroValue9 }
open Go.Lib in
theorem Tryz.internal_strconv_small (i:Nat) (h:i<100) (w:World) :
 Calls Tryz.prog 255 #[.int .i64 i] w λe w'=>e=.returned (.string ⟨(Lib.decDigits i).toArray⟩)/\w'=w:=Any.internal_strconv_small Tryz.G1 i h w
def Tryz.zU:Go.Shelf.Ren:=⟨λ|284=>256|129=>270|317=>269|318=>271|n=>n,λ|53=>44|3=>3|212=>237|0=>0|4=>4|46=>79|5=>5|9=>9|n=>n,λ|17=>3|n=>n⟩
theorem Tryz.E8:Go.Proofs.LaysM.n284 Tryz.prog Tryz.zU:={
 mixed:=by kernel_rfl
 f129:=Tryz.func270.trans (congrArg some (by kernel_rfl))
 f284:=Tryz.func256.trans (congrArg some (by kernel_rfl))
 f317:=Tryz.func269.trans (congrArg some (by kernel_rfl))
 f318:=Tryz.func271.trans (congrArg some (by kernel_rfl))
 t0:=Tryz.underlying0
 a0:=Tryz.isAgg0
 z0:=Tryz.sizeOf0
 v0:=Tryz.zeroValue0
 t3:=Tryz.underlying3
 a3:=Tryz.isAgg3
 z3:=Tryz.sizeOf3
 v3:=Tryz.zeroValue3
 t4:=Tryz.underlying4
 a4:=Tryz.isAgg4
 z4:=Tryz.sizeOf4
 v4:=Tryz.zeroValue4
 t5:=Tryz.underlying5
 a5:=Tryz.isAgg5
 z5:=Tryz.sizeOf5
 v5:=Tryz.zeroValue5
 t9:=Tryz.underlying9
 a9:=Tryz.isAgg9
 z9:=Tryz.sizeOf9
 v9:=Tryz.zeroValue9
 t46:=Tryz.underlying79
 a46:=Tryz.isAgg79
 z46:=Tryz.sizeOf79
 v46:=Tryz.zeroValue79
 t53:=Tryz.underlying44
 a53:=Tryz.isAgg44
 z53:=Tryz.sizeOf44
 v53:=Tryz.zeroValue44
 t212:=Tryz.underlying237
 a212:=Tryz.isAgg237
 z212:=Tryz.sizeOf237
 v212:=Tryz.zeroValue237
 g17:=by kernel_rfl
 i0:=by kernel_rfl
 i3:=by kernel_rfl
 i4:=by kernel_rfl
 i5:=by kernel_rfl
 i9:=by kernel_rfl
 i46:=by kernel_rfl
 i53:=by kernel_rfl
 i212:=by kernel_rfl
 m17:=by kernel_rfl }
open Go.Lib in
theorem Tryz.internal_strconv_numDigits (u:Nat) (h1:1<=u) (h2:u<18446744073709551616) (w:World) (htab:Lib.TabIs Tryz.prog w "internal/strconv.uint64pow10" .u64 Lib.pow10Tab) :
 Calls Tryz.prog 256 #[.int .u64 u] w λe w'=>e=.returned (.int .i64 (Lib.nDigits u))/\w'=w:=Any.internal_strconv_numDigits Tryz.E8 u h1 h2 w htab
def Tryz.Bf:Go.Shelf.Ren:=⟨λ|285=>257|n=>n,λ|37=>181|53=>44|3=>3|4=>4|51=>194|9=>9|5=>5|0=>0|n=>n,λ|n=>n⟩
theorem Tryz.G2:Go.Proofs.Lays.n285 Tryz.prog Tryz.Bf:={
 mixed:=by kernel_rfl
 f285:=Tryz.func257.trans (congrArg some (by kernel_rfl))
 t0:=Tryz.underlying0
 a0:=Tryz.isAgg0
 z0:=Tryz.sizeOf0
 v0:=Tryz.zeroValue0
 t3:=Tryz.underlying3
 a3:=Tryz.isAgg3
 z3:=Tryz.sizeOf3
 v3:=Tryz.zeroValue3
 t4:=Tryz.underlying4
 a4:=Tryz.isAgg4
 z4:=Tryz.sizeOf4
 v4:=Tryz.zeroValue4
 t5:=Tryz.underlying5
 a5:=Tryz.isAgg5
 z5:=Tryz.sizeOf5
 v5:=Tryz.zeroValue5
 t9:=Tryz.underlying9
 a9:=Tryz.isAgg9
 z9:=Tryz.sizeOf9
 v9:=Tryz.zeroValue9
 t37:=Tryz.underlying181
 a37:=Tryz.isAgg181
 z37:=Tryz.sizeOf181
 v37:=Tryz.zeroValue181
 t51:=Tryz.underlying194
 a51:=Tryz.isAgg194
 z51:=Tryz.sizeOf194
 v51:=Tryz.zeroValue194
 t53:=Tryz.underlying44
 a53:=Tryz.isAgg44
 z53:=Tryz.sizeOf44
 v53:=Tryz.zeroValue44 }
open Go.RowKit Go.Sort Go.Lib in
theorem Tryz.internal_strconv_formatBase10 (blk off cap:Nat) (u:Nat) (d:Array UInt8) (w:World) (hH:Holds (λ(b:UInt8)=>Value.int .u8 (b.toNat:Int)) w blk off d) (hu:u<10 ^ d.size) (hu64:u<18446744073709551616) (hsz:d.size<4611686018427387904) :
 Calls Tryz.prog 257 #[.slice (some ⟨blk,off,none⟩) d.size cap,.int .u64 u] w λe w'=>
  e=.returned (.tuple #[])/\∃ (n v':Nat) (dk:Array UInt8),w'=(putRow (λ(b:UInt8)=>Value.int .u8 (b.toNat:Int)) w blk off dk).drewN n/\FmtInv d.size u 0 v' dk:=Any.internal_strconv_formatBase10 Tryz.G2 blk off cap u d w hH hu hu64 hsz
def Tryz.zV:Go.Shelf.Ren:=⟨λ|245=>191|279=>229|280=>230|281=>231|282=>232|316=>252|171=>254|205=>253|243=>268|246=>287|283=>255|284=>256|285=>257|286=>258|129=>270|317=>269|318=>271|319=>272|320=>273|337=>288|338=>289|n=>n,λ|9=>9|3=>3|75=>150|167=>213|4=>4|168=>216|210=>223|37=>181|0=>0|127=>232|145=>235|143=>233|2=>2|171=>225|53=>44|5=>5|173=>228|212=>237|51=>194|20=>20|213=>238|46=>79|232=>258|233=>259|80=>90|n=>n,λ|15=>1|16=>2|17=>3|18=>6|19=>7|n=>n⟩
theorem Tryz.Bg:Go.Proofs.LaysC.n245 Tryz.prog Tryz.zV:={
 mixed:=by kernel_rfl
 f129:=Tryz.func270.trans (congrArg some (by kernel_rfl))
 f171:=Tryz.func254.trans (congrArg some (by kernel_rfl))
 f205:=Tryz.func253.trans (congrArg some (by kernel_rfl))
 f243:=Tryz.func268.trans (congrArg some (by kernel_rfl))
 f245:=Tryz.func191.trans (congrArg some (by kernel_rfl))
 f246:=Tryz.func287.trans (congrArg some (by kernel_rfl))
 f279:=Tryz.func229.trans (congrArg some (by kernel_rfl))
 f280:=Tryz.func230.trans (congrArg some (by kernel_rfl))
 f281:=Tryz.func231.trans (congrArg some (by kernel_rfl))
 f282:=Tryz.func232.trans (congrArg some (by kernel_rfl))
 f283:=Tryz.func255.trans (congrArg some (by kernel_rfl))
 f284:=Tryz.func256.trans (congrArg some (by kernel_rfl))
 f285:=Tryz.func257.trans (congrArg some (by kernel_rfl))
 f286:=Tryz.func258.trans (congrArg some (by kernel_rfl))
 f316:=Tryz.func252.trans (congrArg some (by kernel_rfl))
 f317:=Tryz.func269.trans (congrArg some (by kernel_rfl))
 f318:=Tryz.func271.trans (congrArg some (by kernel_rfl))
 f319:=Tryz.func272.trans (congrArg some (by kernel_rfl))
 f320:=Tryz.func273.trans (congrArg some (by kernel_rfl))
 f337:=Tryz.func288.trans (congrArg some (by kernel_rfl))
 f338:=Tryz.func289.trans (congrArg some (by kernel_rfl))
 t0:=Tryz.underlying0
 a0:=Tryz.isAgg0
 z0:=Tryz.sizeOf0
 v0:=Tryz.zeroValue0
 t2:=Tryz.underlying2
 a2:=Tryz.isAgg2
 z2:=Tryz.sizeOf2
 v2:=Tryz.zeroValue2
 t3:=Tryz.underlying3
 a3:=Tryz.isAgg3
 z3:=Tryz.sizeOf3
 v3:=Tryz.zeroValue3
 t4:=Tryz.underlying4
 a4:=Tryz.isAgg4
 z4:=Tryz.sizeOf4
 v4:=Tryz.zeroValue4
 t5:=Tryz.underlying5
 a5:=Tryz.isAgg5
 z5:=Tryz.sizeOf5
 v5:=Tryz.zeroValue5
 t9:=Tryz.underlying9
 a9:=Tryz.isAgg9
 z9:=Tryz.sizeOf9
 v9:=Tryz.zeroValue9
 t20:=Tryz.underlying20
 a20:=Tryz.isAgg20
 z20:=Tryz.sizeOf20
 v20:=Tryz.zeroValue20
 t37:=Tryz.underlying181
 a37:=Tryz.isAgg181
 z37:=Tryz.sizeOf181
 v37:=Tryz.zeroValue181
 t46:=Tryz.underlying79
 a46:=Tryz.isAgg79
 z46:=Tryz.sizeOf79
 v46:=Tryz.zeroValue79
 t51:=Tryz.underlying194
 a51:=Tryz.isAgg194
 z51:=Tryz.sizeOf194
 v51:=Tryz.zeroValue194
 t53:=Tryz.underlying44
 a53:=Tryz.isAgg44
 z53:=Tryz.sizeOf44
 v53:=Tryz.zeroValue44
 t75:=Tryz.underlying150
 a75:=Tryz.isAgg150
 z75:=Tryz.sizeOf150
 v75:=Tryz.zeroValue150
 t127:=Tryz.underlying232
 a127:=Tryz.isAgg232
 z127:=Tryz.sizeOf232
 v127:=Tryz.zeroValue232
 t143:=Tryz.underlying233
 a143:=Tryz.isAgg233
 z143:=Tryz.sizeOf233
 v143:=Tryz.zeroValue233
 t145:=Tryz.underlying235
 a145:=Tryz.isAgg235
 z145:=Tryz.sizeOf235
 v145:=Tryz.zeroValue235
 t167:=Tryz.underlying213
 a167:=Tryz.isAgg213
 z167:=Tryz.sizeOf213
 v167:=Tryz.zeroValue213
 t168:=Tryz.underlying216
 a168:=Tryz.isAgg216
 z168:=Tryz.sizeOf216
 v168:=Tryz.zeroValue216
 t171:=Tryz.underlying225
 a171:=Tryz.isAgg225
 z171:=Tryz.sizeOf225
 v171:=Tryz.zeroValue225
 t173:=Tryz.underlying228
 a173:=Tryz.isAgg228
 z173:=Tryz.sizeOf228
 v173:=Tryz.zeroValue228
 t210:=Tryz.underlying223
 a210:=Tryz.isAgg223
 z210:=Tryz.sizeOf223
 v210:=Tryz.zeroValue223
 t212:=Tryz.underlying237
 a212:=Tryz.isAgg237
 z212:=Tryz.sizeOf237
 v212:=Tryz.zeroValue237
 t213:=Tryz.underlying238
 a213:=Tryz.isAgg238
 z213:=Tryz.sizeOf238
 t232:=Tryz.underlying258
 a232:=Tryz.isAgg258
 z232:=Tryz.sizeOf258
 v232:=Tryz.zeroValue258
 t233:=Tryz.underlying259
 a233:=Tryz.isAgg259
 z233:=Tryz.sizeOf259
 v233:=Tryz.zeroValue259
 g15:=by kernel_rfl
 g16:=by kernel_rfl
 g17:=by kernel_rfl
 g18:=by kernel_rfl
 g19:=by kernel_rfl
 t80:=Tryz.underlying90
 a80:=Tryz.isAgg90
 z80:=Tryz.sizeOf90
 v80:=Tryz.zeroValue90
 i0:=by kernel_rfl
 i2:=by kernel_rfl
 i3:=by kernel_rfl
 i4:=by kernel_rfl
 i5:=by kernel_rfl
 i9:=by kernel_rfl
 i20:=by kernel_rfl
 i37:=by kernel_rfl
 i46:=by kernel_rfl
 i51:=by kernel_rfl
 i53:=by kernel_rfl
 i75:=by kernel_rfl
 i80:=by kernel_rfl
 i127:=by kernel_rfl
 i143:=by kernel_rfl
 i145:=by kernel_rfl
 i167:=by kernel_rfl
 i168:=by kernel_rfl
 i171:=by kernel_rfl
 i173:=by kernel_rfl
 i210:=by kernel_rfl
 i212:=by kernel_rfl
 i232:=by kernel_rfl
 i233:=by kernel_rfl
 m15:=by kernel_rfl
 m16:=by kernel_rfl
 m17:=by kernel_rfl
 m18:=by kernel_rfl
 m19:=by kernel_rfl
 c0:=by kernel_rfl
 c2:=by kernel_rfl
 c3:=by kernel_rfl
 c4:=by kernel_rfl
 c5:=by kernel_rfl
 c9:=by kernel_rfl
 c20:=by kernel_rfl
 c37:=by kernel_rfl
 c46:=by kernel_rfl
 c51:=by kernel_rfl
 c53:=by kernel_rfl
 c75:=by kernel_rfl
 c80:=by kernel_rfl
 c127:=by kernel_rfl
 c143:=by kernel_rfl
 c145:=by kernel_rfl
 c167:=by kernel_rfl
 c168:=by kernel_rfl
 c171:=by kernel_rfl
 c173:=by kernel_rfl
 c210:=by kernel_rfl
 c212:=by kernel_rfl
 c213:=by kernel_rfl
 c232:=by kernel_rfl
 c233:=by kernel_rfl }
open Go.RowKit in
theorem Tryz.strconv_toError_syntax (fn s:ByteArray) (base bits:Int) (ev:Value) (w:World) (hlim:s.size<=281474976710656) (hv:w.cell? ⟨1,0,none⟩=some ev) (hev:ev=.nilIface\/∃ te pe,ev=.iface te pe) :
 Calls Tryz.prog 191 #[.string fn,.string s,.int .i64 base,.int .i64 bits,.iface 213 (.int .i64 2)] w λe w'=>∃ N,e=.returned (.iface 216 (.pointer (some ⟨N,0,none⟩)))/\w.heap.size<=N/\w'.heap[N]?=some (.cells #[.string fn,.string s,ev] 223 (0,0))/\Below w.heap.size w w':=Any.strconv_toError_syntax Tryz.Bg fn s base bits ev w hlim hv hev
open Go.RowKit in
theorem Tryz.strconv_toError_range (fn s:ByteArray) (base bits:Int) (ev:Value) (w:World) (hlim:s.size<=281474976710656) (hv:w.cell? ⟨2,0,none⟩=some ev) (hev:ev=.nilIface\/∃ te pe,ev=.iface te pe) :
 Calls Tryz.prog 191 #[.string fn,.string s,.int .i64 base,.int .i64 bits,.iface 213 (.int .i64 1)] w λe w'=>∃ N,e=.returned (.iface 216 (.pointer (some ⟨N,0,none⟩)))/\w.heap.size<=N/\w'.heap[N]?=some (.cells #[.string fn,.string s,ev] 223 (0,0))/\Below w.heap.size w w':=Any.strconv_toError_range Tryz.Bg fn s base bits ev w hlim hv hev
def Tryz.zW:Go.Shelf.Ren:=⟨λ|174=>140|247=>190|245=>191|287=>228|279=>229|280=>230|281=>231|282=>232|321=>250|322=>251|316=>252|171=>254|205=>253|243=>268|246=>287|283=>255|284=>256|285=>257|286=>258|129=>270|317=>269|318=>271|319=>272|320=>273|337=>288|338=>289|n=>n,λ|9=>9|3=>3|2=>2|75=>150|85=>151|4=>4|167=>213|5=>5|53=>44|175=>214|46=>79|168=>216|37=>181|0=>0|210=>223|21=>21|127=>232|145=>235|143=>233|171=>225|173=>228|212=>237|51=>194|20=>20|213=>238|232=>258|233=>259|80=>90|n=>n,λ|15=>1|16=>2|17=>3|18=>6|19=>7|n=>n⟩
theorem Tryz.xf:Go.Proofs.LaysC.n174 Tryz.prog Tryz.zW:={
 mixed:=by kernel_rfl
 f129:=Tryz.func270.trans (congrArg some (by kernel_rfl))
 f171:=Tryz.func254.trans (congrArg some (by kernel_rfl))
 f174:=Tryz.func140.trans (congrArg some (by kernel_rfl))
 f205:=Tryz.func253.trans (congrArg some (by kernel_rfl))
 f243:=Tryz.func268.trans (congrArg some (by kernel_rfl))
 f245:=Tryz.func191.trans (congrArg some (by kernel_rfl))
 f246:=Tryz.func287.trans (congrArg some (by kernel_rfl))
 f247:=Tryz.func190.trans (congrArg some (by kernel_rfl))
 f279:=Tryz.func229.trans (congrArg some (by kernel_rfl))
 f280:=Tryz.func230.trans (congrArg some (by kernel_rfl))
 f281:=Tryz.func231.trans (congrArg some (by kernel_rfl))
 f282:=Tryz.func232.trans (congrArg some (by kernel_rfl))
 f283:=Tryz.func255.trans (congrArg some (by kernel_rfl))
 f284:=Tryz.func256.trans (congrArg some (by kernel_rfl))
 f285:=Tryz.func257.trans (congrArg some (by kernel_rfl))
 f286:=Tryz.func258.trans (congrArg some (by kernel_rfl))
 f287:=Tryz.func228.trans (congrArg some (by kernel_rfl))
 f316:=Tryz.func252.trans (congrArg some (by kernel_rfl))
 f317:=Tryz.func269.trans (congrArg some (by kernel_rfl))
 f318:=Tryz.func271.trans (congrArg some (by kernel_rfl))
 f319:=Tryz.func272.trans (congrArg some (by kernel_rfl))
 f320:=Tryz.func273.trans (congrArg some (by kernel_rfl))
 f321:=Tryz.func250.trans (congrArg some (by kernel_rfl))
 f322:=Tryz.func251.trans (congrArg some (by kernel_rfl))
 f337:=Tryz.func288.trans (congrArg some (by kernel_rfl))
 f338:=Tryz.func289.trans (congrArg some (by kernel_rfl))
 t0:=Tryz.underlying0
 a0:=Tryz.isAgg0
 z0:=Tryz.sizeOf0
 v0:=Tryz.zeroValue0
 t2:=Tryz.underlying2
 a2:=Tryz.isAgg2
 z2:=Tryz.sizeOf2
 v2:=Tryz.zeroValue2
 t3:=Tryz.underlying3
 a3:=Tryz.isAgg3
 z3:=Tryz.sizeOf3
 v3:=Tryz.zeroValue3
 t4:=Tryz.underlying4
 a4:=Tryz.isAgg4
 z4:=Tryz.sizeOf4
 v4:=Tryz.zeroValue4
 t5:=Tryz.underlying5
 a5:=Tryz.isAgg5
 z5:=Tryz.sizeOf5
 v5:=Tryz.zeroValue5
 t9:=Tryz.underlying9
 a9:=Tryz.isAgg9
 z9:=Tryz.sizeOf9
 v9:=Tryz.zeroValue9
 t20:=Tryz.underlying20
 a20:=Tryz.isAgg20
 z20:=Tryz.sizeOf20
 v20:=Tryz.zeroValue20
 t21:=Tryz.underlying21
 a21:=Tryz.isAgg21
 z21:=Tryz.sizeOf21
 v21:=Tryz.zeroValue21
 t37:=Tryz.underlying181
 a37:=Tryz.isAgg181
 z37:=Tryz.sizeOf181
 v37:=Tryz.zeroValue181
 t46:=Tryz.underlying79
 a46:=Tryz.isAgg79
 z46:=Tryz.sizeOf79
 v46:=Tryz.zeroValue79
 t51:=Tryz.underlying194
 a51:=Tryz.isAgg194
 z51:=Tryz.sizeOf194
 v51:=Tryz.zeroValue194
 t53:=Tryz.underlying44
 a53:=Tryz.isAgg44
 z53:=Tryz.sizeOf44
 v53:=Tryz.zeroValue44
 t75:=Tryz.underlying150
 a75:=Tryz.isAgg150
 z75:=Tryz.sizeOf150
 v75:=Tryz.zeroValue150
 t85:=Tryz.underlying151
 a85:=Tryz.isAgg151
 z85:=Tryz.sizeOf151
 v85:=Tryz.zeroValue151
 t127:=Tryz.underlying232
 a127:=Tryz.isAgg232
 z127:=Tryz.sizeOf232
 v127:=Tryz.zeroValue232
 t143:=Tryz.underlying233
 a143:=Tryz.isAgg233
 z143:=Tryz.sizeOf233
 v143:=Tryz.zeroValue233
 t145:=Tryz.underlying235
 a145:=Tryz.isAgg235
 z145:=Tryz.sizeOf235
 v145:=Tryz.zeroValue235
 t167:=Tryz.underlying213
 a167:=Tryz.isAgg213
 z167:=Tryz.sizeOf213
 v167:=Tryz.zeroValue213
 t168:=Tryz.underlying216
 a168:=Tryz.isAgg216
 z168:=Tryz.sizeOf216
 v168:=Tryz.zeroValue216
 t171:=Tryz.underlying225
 a171:=Tryz.isAgg225
 z171:=Tryz.sizeOf225
 v171:=Tryz.zeroValue225
 t173:=Tryz.underlying228
 a173:=Tryz.isAgg228
 z173:=Tryz.sizeOf228
 v173:=Tryz.zeroValue228
 t175:=Tryz.underlying214
 a175:=Tryz.isAgg214
 z175:=Tryz.sizeOf214
 v175:=Tryz.zeroValue214
 t210:=Tryz.underlying223
 a210:=Tryz.isAgg223
 z210:=Tryz.sizeOf223
 v210:=Tryz.zeroValue223
 t212:=Tryz.underlying237
 a212:=Tryz.isAgg237
 z212:=Tryz.sizeOf237
 v212:=Tryz.zeroValue237
 t213:=Tryz.underlying238
 a213:=Tryz.isAgg238
 z213:=Tryz.sizeOf238
 t232:=Tryz.underlying258
 a232:=Tryz.isAgg258
 z232:=Tryz.sizeOf258
 v232:=Tryz.zeroValue258
 t233:=Tryz.underlying259
 a233:=Tryz.isAgg259
 z233:=Tryz.sizeOf259
 v233:=Tryz.zeroValue259
 g15:=by kernel_rfl
 g16:=by kernel_rfl
 g17:=by kernel_rfl
 g18:=by kernel_rfl
 g19:=by kernel_rfl
 t80:=Tryz.underlying90
 a80:=Tryz.isAgg90
 z80:=Tryz.sizeOf90
 v80:=Tryz.zeroValue90
 i0:=by kernel_rfl
 i2:=by kernel_rfl
 i3:=by kernel_rfl
 i4:=by kernel_rfl
 i5:=by kernel_rfl
 i9:=by kernel_rfl
 i20:=by kernel_rfl
 i21:=by kernel_rfl
 i37:=by kernel_rfl
 i46:=by kernel_rfl
 i51:=by kernel_rfl
 i53:=by kernel_rfl
 i75:=by kernel_rfl
 i80:=by kernel_rfl
 i85:=by kernel_rfl
 i127:=by kernel_rfl
 i143:=by kernel_rfl
 i145:=by kernel_rfl
 i167:=by kernel_rfl
 i168:=by kernel_rfl
 i171:=by kernel_rfl
 i173:=by kernel_rfl
 i175:=by kernel_rfl
 i210:=by kernel_rfl
 i212:=by kernel_rfl
 i232:=by kernel_rfl
 i233:=by kernel_rfl
 m15:=by kernel_rfl
 m16:=by kernel_rfl
 m17:=by kernel_rfl
 m18:=by kernel_rfl
 m19:=by kernel_rfl
 c0:=by kernel_rfl
 c2:=by kernel_rfl
 c3:=by kernel_rfl
 c4:=by kernel_rfl
 c5:=by kernel_rfl
 c9:=by kernel_rfl
 c20:=by kernel_rfl
 c21:=by kernel_rfl
 c37:=by kernel_rfl
 c46:=by kernel_rfl
 c51:=by kernel_rfl
 c53:=by kernel_rfl
 c75:=by kernel_rfl
 c80:=by kernel_rfl
 c85:=by kernel_rfl
 c127:=by kernel_rfl
 c143:=by kernel_rfl
 c145:=by kernel_rfl
 c167:=by kernel_rfl
 c168:=by kernel_rfl
 c171:=by kernel_rfl
 c173:=by kernel_rfl
 c175:=by kernel_rfl
 c210:=by kernel_rfl
 c212:=by kernel_rfl
 c213:=by kernel_rfl
 c232:=by kernel_rfl
 c233:=by kernel_rfl }
open Go.RowKit in
theorem Tryz.strconv_ParseInt_10_at64_ok (s:ByteArray) (hmax:s.size<=9223372036854775806) (v:Int) (h:Lib.parseIntB 64 s.data.toList=.ok v) (w:World) :
 Calls Tryz.prog 140 #[.string s,.int .i64 10,.int .i64 64] w λe w'=>e=.returned (.tuple #[.int .i64 v,.nilIface])/\(w'=w\/∃ t,w'=Lib.bytesWorld w 5 t):=Any.strconv_ParseInt_10_at64_ok Tryz.xf s hmax v h w
open Go.RowKit in
theorem Tryz.strconv_ParseInt_10_at64_syntax (s:ByteArray) (hlim:s.size<=281474976710656) (h:Lib.parseIntB 64 s.data.toList=Lib.NumEnd.syntax) (ev:Value) (w:World) (hv:w.cell? ⟨1,0,none⟩=some ev) (hev:ev=.nilIface\/∃ te pe,ev=.iface te pe) :
 Calls Tryz.prog 140 #[.string s,.int .i64 10,.int .i64 64] w λe w'=>∃ N,e=.returned (.tuple #[.int .i64 (0),.iface 216 (.pointer (some ⟨N,0,none⟩))])/\w.heap.size<=N/\w'.heap[N]?=some (.cells #[.string ⟨#[80,97,114,115,101,73,110,116]⟩,.string s,ev] 223 (0,0))/\Below w.heap.size w w':=Any.strconv_ParseInt_10_at64_syntax Tryz.xf s hlim h ev w hv hev
open Go.RowKit in
theorem Tryz.strconv_ParseInt_10_at64_range (s:ByteArray) (hlim:s.size<=281474976710656) (h:Lib.parseIntB 64 s.data.toList=.range) (ev:Value) (w:World) (hv:w.cell? ⟨2,0,none⟩=some ev) (hev:ev=.nilIface\/∃ te pe,ev=.iface te pe) :
 Calls Tryz.prog 140 #[.string s,.int .i64 10,.int .i64 64] w λe w'=>∃ N,e=.returned (.tuple #[.int .i64 (Lib.intSat 64 s.data.toList),.iface 216 (.pointer (some ⟨N,0,none⟩))])/\w.heap.size<=N/\w'.heap[N]?=some (.cells #[.string ⟨#[80,97,114,115,101,73,110,116]⟩,.string s,ev] 223 (0,0))/\Below w.heap.size w w':=Any.strconv_ParseInt_10_at64_range Tryz.xf s hlim h ev w hv hev
def Tryz.Bh:Go.Shelf.Ren:=⟨λ|144=>94|143=>136|219=>189|217=>224|225=>225|224=>226|267=>227|266=>248|314=>249|n=>n,λ|9=>9|4=>4|3=>3|5=>5|46=>79|146=>195|51=>194|n=>n,λ|1=>0|n=>n⟩
theorem Tryz.G3:Go.Proofs.Lays.n144 Tryz.prog Tryz.Bh:={
 mixed:=by kernel_rfl
 f143:=Tryz.func136.trans (congrArg some (by kernel_rfl))
 f144:=Tryz.func94.trans (congrArg some (by kernel_rfl))
 f217:=Tryz.func224.trans (congrArg some (by kernel_rfl))
 f219:=Tryz.func189.trans (congrArg some (by kernel_rfl))
 f224:=Tryz.func226.trans (congrArg some (by kernel_rfl))
 f225:=Tryz.func225.trans (congrArg some (by kernel_rfl))
 f266:=Tryz.func248.trans (congrArg some (by kernel_rfl))
 f267:=Tryz.func227.trans (congrArg some (by kernel_rfl))
 f314:=Tryz.func249.trans (congrArg some (by kernel_rfl))
 t3:=Tryz.underlying3
 a3:=Tryz.isAgg3
 z3:=Tryz.sizeOf3
 v3:=Tryz.zeroValue3
 t4:=Tryz.underlying4
 a4:=Tryz.isAgg4
 z4:=Tryz.sizeOf4
 v4:=Tryz.zeroValue4
 t5:=Tryz.underlying5
 a5:=Tryz.isAgg5
 z5:=Tryz.sizeOf5
 v5:=Tryz.zeroValue5
 t9:=Tryz.underlying9
 a9:=Tryz.isAgg9
 z9:=Tryz.sizeOf9
 v9:=Tryz.zeroValue9
 t46:=Tryz.underlying79
 a46:=Tryz.isAgg79
 z46:=Tryz.sizeOf79
 v46:=Tryz.zeroValue79
 t51:=Tryz.underlying194
 a51:=Tryz.isAgg194
 z51:=Tryz.sizeOf194
 v51:=Tryz.zeroValue194
 t146:=Tryz.underlying195
 a146:=Tryz.isAgg195
 z146:=Tryz.sizeOf195
 v146:=Tryz.zeroValue195
 g1:=by kernel_rfl }
open Go.RowKit Go.Lib in
theorem Tryz.strings_Contains (s sub:ByteArray) (m:Int) (w:World) (hs:s.size<4294967281) (hm:w.cell? ⟨0,0,none⟩=some (.int .i64 m)) :
 Calls Tryz.prog 94 #[.string s,.string sub] w λe w'=>e=.returned (.bool (Lib.contains s.data.toList sub.data.toList))/\w'=w:=Any.strings_Contains Tryz.G3 s sub m w hs hm
def Tryz.Bi:Go.Shelf.Ren:=⟨λ|145=>96|220=>138|219=>189|217=>224|225=>225|224=>226|267=>227|266=>248|314=>249|n=>n,λ|9=>9|4=>4|59=>118|3=>3|5=>5|46=>79|146=>195|51=>194|n=>n,λ|1=>0|n=>n⟩
theorem Tryz.G4:Go.Proofs.Lays.n145 Tryz.prog Tryz.Bi:={
 mixed:=by kernel_rfl
 f145:=Tryz.func96.trans (congrArg some (by kernel_rfl))
 f217:=Tryz.func224.trans (congrArg some (by kernel_rfl))
 f219:=Tryz.func189.trans (congrArg some (by kernel_rfl))
 f220:=Tryz.func138.trans (congrArg some (by kernel_rfl))
 f224:=Tryz.func226.trans (congrArg some (by kernel_rfl))
 f225:=Tryz.func225.trans (congrArg some (by kernel_rfl))
 f266:=Tryz.func248.trans (congrArg some (by kernel_rfl))
 f267:=Tryz.func227.trans (congrArg some (by kernel_rfl))
 f314:=Tryz.func249.trans (congrArg some (by kernel_rfl))
 t3:=Tryz.underlying3
 a3:=Tryz.isAgg3
 z3:=Tryz.sizeOf3
 v3:=Tryz.zeroValue3
 t4:=Tryz.underlying4
 a4:=Tryz.isAgg4
 z4:=Tryz.sizeOf4
 v4:=Tryz.zeroValue4
 t5:=Tryz.underlying5
 a5:=Tryz.isAgg5
 z5:=Tryz.sizeOf5
 v5:=Tryz.zeroValue5
 t9:=Tryz.underlying9
 a9:=Tryz.isAgg9
 z9:=Tryz.sizeOf9
 v9:=Tryz.zeroValue9
 t46:=Tryz.underlying79
 a46:=Tryz.isAgg79
 z46:=Tryz.sizeOf79
 v46:=Tryz.zeroValue79
 t51:=Tryz.underlying194
 a51:=Tryz.isAgg194
 z51:=Tryz.sizeOf194
 v51:=Tryz.zeroValue194
 t59:=Tryz.underlying118
 a59:=Tryz.isAgg118
 z59:=Tryz.sizeOf118
 v59:=Tryz.zeroValue118
 t146:=Tryz.underlying195
 a146:=Tryz.isAgg195
 z146:=Tryz.sizeOf195
 v146:=Tryz.zeroValue195
 g1:=by kernel_rfl }
open Go.RowKit Go.Lib in
theorem Tryz.strings_Cut (s sep:ByteArray) (m:Int) (w:World) (hs:s.size<4294967281) (hm:w.cell? ⟨0,0,none⟩=some (.int .i64 m)) :
 Calls Tryz.prog 96 #[.string s,.string sep] w λe w'=>e=.returned (.tuple #[.string ⟨(Lib.cut s.data.toList sep.data.toList).1.toArray⟩,.string ⟨(Lib.cut s.data.toList sep.data.toList).2.1.toArray⟩,.bool (Lib.cut s.data.toList sep.data.toList).2.2])/\∃ n,w'=w.drewN n:=Any.strings_Cut Tryz.G4 s sep m w hs hm
def Tryz.Bj:Go.Shelf.Ren:=⟨λ|148=>104|222=>147|223=>148|269=>199|n=>n,λ|9=>9|3=>3|4=>4|5=>5|146=>195|51=>194|46=>79|n=>n,λ|n=>n⟩
theorem Tryz.G5:Go.Proofs.Lays.n148 Tryz.prog Tryz.Bj:={
 mixed:=by kernel_rfl
 f148:=Tryz.func104.trans (congrArg some (by kernel_rfl))
 f222:=Tryz.func147.trans (congrArg some (by kernel_rfl))
 f223:=Tryz.func148.trans (congrArg some (by kernel_rfl))
 f269:=Tryz.func199.trans (congrArg some (by kernel_rfl))
 t3:=Tryz.underlying3
 a3:=Tryz.isAgg3
 z3:=Tryz.sizeOf3
 v3:=Tryz.zeroValue3
 t4:=Tryz.underlying4
 a4:=Tryz.isAgg4
 z4:=Tryz.sizeOf4
 v4:=Tryz.zeroValue4
 t5:=Tryz.underlying5
 a5:=Tryz.isAgg5
 z5:=Tryz.sizeOf5
 v5:=Tryz.zeroValue5
 t9:=Tryz.underlying9
 a9:=Tryz.isAgg9
 z9:=Tryz.sizeOf9
 v9:=Tryz.zeroValue9
 t46:=Tryz.underlying79
 a46:=Tryz.isAgg79
 z46:=Tryz.sizeOf79
 v46:=Tryz.zeroValue79
 t51:=Tryz.underlying194
 a51:=Tryz.isAgg194
 z51:=Tryz.sizeOf194
 v51:=Tryz.zeroValue194
 t146:=Tryz.underlying195
 a146:=Tryz.isAgg195
 z146:=Tryz.sizeOf195
 v146:=Tryz.zeroValue195 }
open Go.RowKit Go.Lib in
theorem Tryz.strings_LastIndex (s sub:ByteArray) (hs:s.size<4611686018427387904) (w:World) :
 Calls Tryz.prog 104 #[.string s,.string sub] w λe w'=>e=.returned (.int .i64 (Lib.lastIndex s.data.toList sub.data.toList))/\w'=w:=Any.strings_LastIndex Tryz.G5 s sub hs w
def Tryz.Bl:Go.Shelf.Ren:=⟨λ|146=>146|221=>198|268=>235|138=>236|143=>136|195=>259|197=>260|218=>261|219=>189|260=>274|217=>224|225=>225|224=>226|267=>227|266=>248|314=>249|n=>n,λ|9=>9|31=>25|3=>3|4=>4|0=>0|105=>230|21=>21|5=>5|46=>79|119=>245|139=>248|138=>247|146=>195|51=>194|n=>n,λ|1=>0|3=>4|4=>5|n=>n⟩
theorem Tryz.G6:Go.Proofs.Lays.n146 Tryz.prog Tryz.Bl:={
 mixed:=by kernel_rfl
 f138:=Tryz.func236.trans (congrArg some (by kernel_rfl))
 f143:=Tryz.func136.trans (congrArg some (by kernel_rfl))
 f146:=Tryz.func146.trans (congrArg some (by kernel_rfl))
 f195:=Tryz.func259.trans (congrArg some (by kernel_rfl))
 f197:=Tryz.func260.trans (congrArg some (by kernel_rfl))
 f217:=Tryz.func224.trans (congrArg some (by kernel_rfl))
 f218:=Tryz.func261.trans (congrArg some (by kernel_rfl))
 f219:=Tryz.func189.trans (congrArg some (by kernel_rfl))
 f221:=Tryz.func198.trans (congrArg some (by kernel_rfl))
 f224:=Tryz.func226.trans (congrArg some (by kernel_rfl))
 f225:=Tryz.func225.trans (congrArg some (by kernel_rfl))
 f260:=Tryz.func274.trans (congrArg some (by kernel_rfl))
 f266:=Tryz.func248.trans (congrArg some (by kernel_rfl))
 f267:=Tryz.func227.trans (congrArg some (by kernel_rfl))
 f268:=Tryz.func235.trans (congrArg some (by kernel_rfl))
 f314:=Tryz.func249.trans (congrArg some (by kernel_rfl))
 t0:=Tryz.underlying0
 a0:=Tryz.isAgg0
 z0:=Tryz.sizeOf0
 v0:=Tryz.zeroValue0
 t3:=Tryz.underlying3
 a3:=Tryz.isAgg3
 z3:=Tryz.sizeOf3
 v3:=Tryz.zeroValue3
 t4:=Tryz.underlying4
 a4:=Tryz.isAgg4
 z4:=Tryz.sizeOf4
 v4:=Tryz.zeroValue4
 t5:=Tryz.underlying5
 a5:=Tryz.isAgg5
 z5:=Tryz.sizeOf5
 v5:=Tryz.zeroValue5
 t9:=Tryz.underlying9
 a9:=Tryz.isAgg9
 z9:=Tryz.sizeOf9
 v9:=Tryz.zeroValue9
 t21:=Tryz.underlying21
 a21:=Tryz.isAgg21
 z21:=Tryz.sizeOf21
 v21:=Tryz.zeroValue21
 t31:=Tryz.underlying25
 a31:=Tryz.isAgg25
 z31:=Tryz.sizeOf25
 v31:=Tryz.zeroValue25
 t46:=Tryz.underlying79
 a46:=Tryz.isAgg79
 z46:=Tryz.sizeOf79
 v46:=Tryz.zeroValue79
 t51:=Tryz.underlying194
 a51:=Tryz.isAgg194
 z51:=Tryz.sizeOf194
 v51:=Tryz.zeroValue194
 t105:=Tryz.underlying230
 a105:=Tryz.isAgg230
 z105:=Tryz.sizeOf230
 v105:=Tryz.zeroValue230
 t119:=Tryz.underlying245
 a119:=Tryz.isAgg245
 z119:=Tryz.sizeOf245
 t138:=Tryz.underlying247
 a138:=Tryz.isAgg247
 z138:=Tryz.sizeOf247
 v138:=Tryz.zeroValue247
 t139:=Tryz.underlying248
 a139:=Tryz.isAgg248
 z139:=Tryz.sizeOf248
 v139:=Tryz.zeroValue248
 t146:=Tryz.underlying195
 a146:=Tryz.isAgg195
 z146:=Tryz.sizeOf195
 v146:=Tryz.zeroValue195
 g1:=by kernel_rfl
 g3:=by kernel_rfl
 g4:=by kernel_rfl }
open Go.RowKit Go.Lib in
theorem Tryz.strings_Split (s sep:ByteArray) (m:Int) (w:World) (hs:s.size<4294967281) (hm:w.cell? ⟨0,0,none⟩=some (.int .i64 m)) (h1:1<=sep.size) :
 Calls Tryz.prog 146 #[.string s,.string sep] w λe w'=>
  e=.returned (.slice (some ⟨w.heap.size,0,none⟩) (Lib.countB s sep+1) (Lib.countB s sep+1))/\w'=w.alloc (.cells ((Lib.splitB sep 0 (Lib.countB s sep) s).map Value.string).toArray 9):=Any.strings_Split Tryz.G6 (by kernel_rfl) s sep m w hs hm h1
end Go.Proofs
end
section
namespace Go.Abs
open Go.Proofs al Go.RowKit
theorem sI {f:FuncId} {args:List AV} {X:Type} {res:al X} {V:X->AV}
  (h:∀ x,res=.ok x->∀ (E:Env) (g:Gh) (w:World) (vs:List Value),Rel E g (U []) w->gX g args vs->Calls Tryz.prog f vs.toArray w λe w'=>∃ g' c,e=.returned c/\VR g' (V x) c/\Rel E g' (U []) w')
  (hp:∀ p,res≠.kA p):CT Tryz.prog f args [] res V (λ_=>[]):=by
 intro r hr hs
 cases r with
 | stuck=>exact absurd rfl hs
 | kA p=>exact absurd hr (hp p)
 | ok x=>
  intro wS g w vs hR hv
  refine (h x hr (Env.of wS g (U []) w) g w vs hR hv).mono ?_
  rintro e w' ⟨g',c,he,hv',hR'⟩
  subst he
  exact ⟨g',.ret (V x),U [],.inl ⟨x,rfl,rfl,rfl⟩,.ret hv',hR'⟩
theorem xg {α:Type} {p:Prop} [Decidable p] {x:al α} {a:α} (h:gd p x=.ok a):p/\x=.ok a:=BP (by simp) h
theorem xh {α:Type} {p:Prop} [Decidable p] {a:α} (q:rW):gd p (.ok a)≠.kA q:=by unfold gd;split<;>simp
theorem gX.K2 {g:Gh} {x:Value} {vs:List Value} (h:gX g [Sc x] vs):vs=[x]:=by
 cases h with|cons h t=>cases t;rw[VR.dV h]
theorem gX.BV {g:Gh} {x y:Value} {vs:List Value} (h:gX g [Sc x,Sc y] vs):vs=[x,y]:=by
 cases h with|cons h t=>rw[VR.dV h,gX.K2 t]
theorem gX.Jh {g:Gh} {x y z:Value} {vs:List Value} (h:gX g [Sc x,Sc y,Sc z] vs):vs=[x,y,z]:=by
 cases h with|cons h t=>rw[VR.dV h,gX.BV t]
theorem Rel.Bm {E:Env} {g:Gh} {σ:Z} {w:World} (hR:Rel E g σ w) {a:Addr} {v:Value} (h:E.wS.cell? a=some v):w.cell? a=some v:=by
 unfold World.cell? at h ⊢;cases q:E.wS.heap[a.block]? with
 | none=>rw[q] at h;cases h
 | some o=>rw[hR.x.set a.block (Array.getElem?_eq_some_iff.1 q).1];exact h
theorem Rel.maxLen {E:Env} {g:Gh} {σ:Z} {w:World} (hR:Rel E g σ w):∃ m:Int,w.cell? ⟨0,0,none⟩=some (.int .i64 m):=
 let ⟨m,h⟩:=hR.x.gf.1;⟨m,hR.Bm h⟩
theorem Rel.Ji {E:Env} {g:Gh} {σ:Z} {w w':World} (h:Rel E g σ w) (hb:w'=w\/∃ t,w'=Lib.bytesWorld w 5 t):Rel E g σ w':=by
 rcases hb with rfl|⟨t,rfl⟩
 ·exact h
 exact h.below (vO _ _ _)
theorem sJ:∀ (s p:ByS),Lib.index s p=match l8 s p with|some i=>(i:Int)|none=>-1
 | [],p=>by unfold Lib.index l8;split<;>rfl
 | b::l,p=>by
  unfold Lib.index l8;rw[sJ l p];split
  ·rfl
  cases l8 l p with
  | none=>rfl
  | some i=>
   have:¬ ((i:Int)==-1)=true:=by simp
   simp[this]
theorem Bn (s p:ByS):Lib.contains s p=(l8 s p).isSome:=by
 unfold Lib.contains;rw[sJ];cases l8 s p with
 | none=>rfl
 | some i=>simp
theorem Jj (s p:ByS):Lib.cut s p=match l8 s p with|some i=>(s.take i,s.drop (i+p.length),true)|none=>(s,[],false):=by
 unfold Lib.cut;rw[sJ];cases l8 s p with
 | none=>rfl
 | some i=>simp
theorem kq (a b:ByS):CT Tryz.prog 94 [F a,F b] [] (strings_Contains a b) (λx=>Bo x) (λ_=>[]):=by
 refine sI (λx hx E g w vs hR hv=>?_) (λp=>xh p);obtain ⟨hl,hx⟩:=xg hx;cases hx;have hv:=gX.BV hv;subst hv;obtain ⟨m,hm⟩:=hR.maxLen;refine (Tryz.strings_Contains ⟨a.toArray⟩ ⟨b.toArray⟩ m w (by simpa[ByteArray.size] using hl) hm).mono ?_;rintro e w' ⟨rfl,rfl⟩;exact ⟨g,_,rfl,by rw[Bn];exact .pv (.sc _),hR⟩
theorem tz (a b:ByS):CT Tryz.prog 104 [F a,F b] [] (strings_LastIndex a b) (λx=>I x) (λ_=>[]):=by
 refine sI (λx hx E g w vs hR hv=>?_) (λp=>xh p);obtain ⟨hl,hx⟩:=xg hx;cases hx;have hv:=gX.BV hv;subst hv;refine (Tryz.strings_LastIndex ⟨a.toArray⟩ ⟨b.toArray⟩ (by simpa[ByteArray.size] using hl) w).mono ?_;rintro e w' ⟨rfl,rfl⟩;exact ⟨g,_,rfl,.pv (.sc _),hR⟩
theorem xW (a b:ByS):CT Tryz.prog 96 [F a,F b] [] (strings_Cut a b) (λx=>.gU [F x.1,F x.2.1,Bo x.2.2]) (λ_=>[]):=by
 refine sI (λx hx E g w vs hR hv=>?_) (λp=>xh p);obtain ⟨hl,hx⟩:=xg hx;have hv:=gX.BV hv;subst hv;obtain ⟨m,hm⟩:=hR.maxLen;refine (Tryz.strings_Cut ⟨a.toArray⟩ ⟨b.toArray⟩ m w (by simpa[ByteArray.size] using hl) hm).mono ?_;rintro e w' ⟨rfl,k,rfl⟩;have hx2:Lib.cut a b=x:=by rw[Jj];cases hx;rfl
 subst hx2;refine ⟨g,_,rfl,?_,hR.below ⟨rfl,rfl,rfl,Nat.le_refl _,λ_ _=>rfl⟩⟩;exact .gU (.cons (.pv (.sc _)) (.cons (.pv (.sc _)) (.cons (.pv (.sc _)) .nil)))
theorem Ls (l:ByS) (c:UInt8):Lib.indexByte l c=match l.findIdx? (·==c) with|some i=>(i:Int)|none=>-1:=by
 induction l with
 | nil=>rfl
 | cons b l ih=>
  unfold Lib.indexByte
  rw[List.findIdx?_cons,ih]
  split
  ·rfl
  ·cases l.findIdx? (·==c) with
   | none=>rfl
   | some i=>
    have:¬ ((i:Int)==-1)=true:=by simp
    simp[this]
theorem lB (a:ByS) (b:Int):CT Tryz.prog 296 [F a,Sc (.int .u8 b)] [] (strings_IndexByte a b) (λx=>I x) (λ_=>[]):=by
 refine sI (λx hx E g w vs hR hv=>?_) (λp=>by unfold strings_IndexByte;simp);have hv:=gX.BV hv;subst hv;refine (Tryz.strings_IndexByte ⟨a.toArray⟩ b w).mono ?_;rintro e w' ⟨rfl,rfl⟩;unfold strings_IndexByte at hx;cases hx;refine ⟨g,_,rfl,?_,hR⟩;exact Eq.mp (congrArg (λz=>VR g (I z) (.int .i64 (Lib.indexByte a (UInt8.ofNat b.toNat)))) (Ls a (UInt8.ofNat b.toNat))) (.pv (.sc _))
theorem Bp (sep:ByS):∀ (f:Nat) (s:ByS),Lib.splitK sep 0 (Lib.countFrom sep f s) s=nQ sep f s
 | 0,s=>rfl
 | f+1,s=>by
  have ih:=λt=>Bp sep f t;unfold Lib.countFrom nQ;rw[sJ];cases q:l8 s sep with
  | none=>rfl
  | some i=>
   have:¬ ((i:Int)==-1)=true:=by simp
   have e:∀ k,Lib.splitK sep 0 (k+1) s=if Lib.index s sep==-1 then [s] else s.take ((Lib.index s sep).toNat+0)::Lib.splitK sep 0 k (s.drop ((Lib.index s sep).toNat+sep.length)):=λ_=>rfl
   simp only[this]
   rw[if_neg (by simp),Nat.add_comm,e,sJ,q]
   simp only[this]
   rw[if_neg (by simp)]
   simp[ih]
theorem E9 (a b:ByS):(Lib.splitB ⟨b.toArray⟩ 0 (Lib.countB ⟨a.toArray⟩ ⟨b.toArray⟩) ⟨a.toArray⟩).map (·.data.toList)=nQ b (a.length+1) a:=by
 rw[Lib.splitB_data];exact Bp b (a.length+1) a
theorem Bq {g:Gh}:∀ l:List ByteArray,lL g (cn (l.map (·.data.toList))) (l.map Value.string)
 | []=>.nil
 | b::l=>by
  have:Value.string b=S b.data.toList:=by simp[S]
  rw[List.map_cons,List.map_cons,this];exact .cons (.sc _) (Bq l)
theorem nS (a b:ByS):CT Tryz.prog 146 [F a,F b] [] (strings_Split a b) (λx=>.pv (.sl (List.length x) (cn x))) (λ_=>[]):=by
 refine sI (λx hx E g w vs hR hv=>?_) (λp=>xh p);obtain ⟨hl,hx⟩:=xg hx;cases hx;have hv:=gX.BV hv;subst hv;obtain ⟨m,hm⟩:=hR.maxLen;have h1:1<=ByteArray.size ⟨b.toArray⟩:=by simpa[ByteArray.size] using hl.1
 refine (Tryz.strings_Split ⟨a.toArray⟩ ⟨b.toArray⟩ m w (by simpa[ByteArray.size] using hl.2) hm h1).mono ?_;rintro e w' ⟨rfl,rfl⟩;have hlen:=Lib.splitB_all ⟨b.toArray⟩ h1 0 _ ⟨a.toArray⟩ rfl;generalize hL:Lib.splitB ⟨b.toArray⟩ 0 (Lib.countB ⟨a.toArray⟩ ⟨b.toArray⟩) ⟨a.toArray⟩=L at hlen;have hs:nQ b (a.length+1) a=L.map (·.data.toList):=by rw[<- E9,hL]
 rw[hs];have hp:lL g (cn (L.map (·.data.toList))) (L.map Value.string):=Bq L;have hc:(cn (L.map (·.data.toList))).length=L.length:=by rw[hp.length];simp
 have hR':=hR.frozen (ys:=cn (L.map (·.data.toList))) (cs:=(L.map Value.string).toArray) (el:=9) (by simp[hc]) (by rw[hc,List.take_of_length_le (by simp)];exact hp);refine ⟨_,_,rfl,?_,hR'⟩;rw[<- hlen];have:(L.map (·.data.toList)).length=L.length:=by simp
 rw[this];exact .pv (.sl w.heap.size (cn (L.map (·.data.toList))) 0 L.length _ _ (by simp[Gh.dE]) (by omega) (by rw[List.drop_zero,List.take_length]) (Nat.le_refl _))
theorem ue (a:ByS) (b c:Int):CT Tryz.prog 140 [F a,I b,I c] [] (mU a b c) (λx=>.gU [I x.1,Oe 216 x.2]) (λ_=>[]):=by
 refine sI (λx hx E g w vs hR hv=>?_) (λp=>xh p);obtain ⟨⟨hb,hc,hl⟩,hx2⟩:=xg hx;subst hb hc
 replace hx:=hx2
 have hv:=gX.Jh hv;subst hv;have hl2:ByteArray.size ⟨a.toArray⟩<=281474976710656:=by simpa[ByteArray.size] using hl
 obtain ⟨ev1,he1,hi1⟩:=hR.x.gf.2.1;obtain ⟨ev2,he2,hi2⟩:=hR.x.gf.2.2.1;rcases q:Lib.parseIntB 64 a with v|_|_
 ·rw[q] at hx;cases hx;refine (Tryz.strconv_ParseInt_10_at64_ok ⟨a.toArray⟩ (by omega) v q w).mono ?_;rintro e w' ⟨rfl,hw⟩;exact ⟨g,_,rfl,.gU (.cons (.pv (.sc _)) (.cons (.pv (.sc _)) .nil)),hR.Ji hw⟩
 ·rw[q] at hx;cases hx;refine (Tryz.strconv_ParseInt_10_at64_syntax ⟨a.toArray⟩ hl2 q ev1 w (hR.Bm he1) hi1).mono ?_;rintro e w' ⟨N,rfl,_,_,hw⟩;exact ⟨g,_,rfl,.gU (.cons (.pv (.sc _)) (.cons (.mI _ (.any _)) .nil)),hR.below hw⟩
 rw[q] at hx;cases hx;refine (Tryz.strconv_ParseInt_10_at64_range ⟨a.toArray⟩ hl2 q ev2 w (hR.Bm he2) hi2).mono ?_;rintro e w' ⟨N,rfl,_,_,hw⟩;exact ⟨g,_,rfl,.gU (.cons (.pv (.sc _)) (.cons (.mI _ (.any _)) .nil)),hR.below hw⟩
theorem uC (fn s:ByS) (b c e:Int):CT Tryz.prog 191 [F fn,F s,I b,I c,Oi e] [] (nR fn s b c e) (λx=>Oe 216 x) (λ_=>[]):=by
 refine sI (λx hx E g w vs hR hv=>?_) (λp=>xh p);obtain ⟨⟨he,hl⟩,hx⟩:=xg hx;cases hx;have hl2:ByteArray.size ⟨s.toArray⟩<=281474976710656:=by simpa[ByteArray.size] using hl
 obtain ⟨ev1,he1,hi1⟩:=hR.x.gf.2.1;obtain ⟨ev2,he2,hi2⟩:=hR.x.gf.2.2.1;have hvs:vs=[S fn,S s,.int .i64 b,.int .i64 c,.iface 213 (.int .i64 e)]:=by
  rw[CU (by omega)] at hv;cases hv with|cons h1 t=>cases t with|cons h2 t=>cases t with|cons h3 t=>cases t with|cons h4 t=>cases t with|cons h5 t=>
   cases t
   rw[VR.dV h1,VR.dV h2,VR.dV h3,VR.dV h4]
   cases h5 with|mI _ h5=>rw[VR.dV h5]
 subst hvs;rcases he with rfl|rfl
 ·refine (Tryz.strconv_toError_range ⟨fn.toArray⟩ ⟨s.toArray⟩ b c ev2 w hl2 (hR.Bm he2) hi2).mono ?_;rintro e w' ⟨N,rfl,_,_,hw⟩;exact ⟨g,_,rfl,.mI _ (.any _),hR.below hw⟩
 refine (Tryz.strconv_toError_syntax ⟨fn.toArray⟩ ⟨s.toArray⟩ b c ev1 w hl2 (hR.Bm he1) hi1).mono ?_;rintro e w' ⟨N,rfl,_,_,hw⟩;exact ⟨g,_,rfl,.mI _ (.any _),hR.below hw⟩
end Go.Abs
end
section
namespace Go.Proofs
open Go.Shelf Go.RowKit Go.Sort Go.Lib
set_option maxHeartbeats 6400000 in
set_option maxRecDepth 100000 in
theorem Tryz.K3 (u:Nat) (hu64:u<18446744073709551616) (w:World) (htab:∀ n,Tryz.prog.globalNamed n=some 3->Lib.TabIs Tryz.prog w n .u64 Lib.pow10Tab) :
  Calls Tryz.prog 233 #[.int .u64 u,.int .i64 10] w λe w'=>e=.returned (.string ⟨(Lib.decDigits u).toArray⟩)/\∃ k os,w'=grow (w.drewN k) os:=by
 by_cases hs:u<100
 ·go_enter Tryz.func233,Tryz.ntmps233
  go_wp2_with (first
   | (go_at_call 255;refine (Tryz.internal_strconv_small u hs _).mono ?_;rintro e w' ⟨rfl,rfl⟩))
  go_ret
  exact ⟨rfl,0,#[],by simp[World.drewN_zero]⟩
 ·have hu1:1<=u:=by omega
  have hnd:Lib.nDigits u<=20:=by have:=Lib.numDigits_eq u hu1 hu64;split at this<;>omega
  have hal:Tryz.prog.arrayLen 225=24:=by simp[Program.arrayLen,Tryz.underlying225]
  have hsl:∀ W,(Instr.sliceAt 225 (.pointer (some ⟨w.heap.size,0,none⟩)) none (some (.int .i64 (Lib.nDigits u:Int))) none).run Tryz.prog W=.ok (.slice (some ⟨w.heap.size,0,none⟩) (Lib.nDigits u) 24) W:=λW=>by
   rw[run_sliceAt_array_h W 225 ⟨w.heap.size,0,none⟩ (by simp[Program.arrayLen,Program.elem,Tryz.underlying225]) .i64 (Lib.nDigits u:Int) (by omega) (by rw[hal];omega)]
   go_simp
  have hH0:Holds (λ(b:UInt8)=>Value.int .u8 (b.toNat:Int)) (w.alloc (.cells Lib.zeros24 225)) w.heap.size 0 (Array.replicate (Lib.nDigits u) 0):=λj hj=>by
   have hj':j<Lib.nDigits u:=by simpa using hj
   refine ⟨?_,World.frozen?_alloc_new _ _ _ _⟩
   rw[World.cell?_alloc_new,Lib.zeros24_at _ (by omega),getElem!_pos _ j hj]
   simp
  have hfmt:=Tryz.internal_strconv_formatBase10 w.heap.size 0 24 u (Array.replicate (Lib.nDigits u) 0) (w.alloc (.cells Lib.zeros24 225)) hH0 (by rw[Array.size_replicate];exact Lib.lt_pow_nDigits u) hu64 (by rw[Array.size_replicate];omega)
  rw[Array.size_replicate] at hfmt
  have HH0:=Lib.hid hH0
  clear hH0 hal
  go_enter Tryz.func233,Tryz.ntmps233
  go_wp2_with (first
   | (go_at_call 256;refine (Tryz.internal_strconv_numDigits u hu1 hu64 _ (Lib.tabIs_alloc (htab _ (by kernel_rfl)) _)).mono ?_;rintro e w' ⟨rfl,rfl⟩))
  go_at_call 257
  refine hfmt.mono ?_
  rintro e w' ⟨rfl,k,v',dk,rfl,hF⟩
  have hcv:(convert 181 9 (.slice (some ⟨w.heap.size,0,none⟩) (Lib.nDigits u) 24)).run Tryz.prog ((putRow (λ(b:UInt8)=>Value.int .u8 (b.toNat:Int)) (w.alloc (.cells Lib.zeros24 225)) w.heap.size 0 dk).drewN k)=.ok (.string ⟨(Lib.decDigits u).toArray⟩) ((putRow (λ(b:UInt8)=>Value.int .u8 (b.toNat:Int)) (w.alloc (.cells Lib.zeros24 225)) w.heap.size 0 dk).drewN k):=by
   have h:=run_convert_bytes_back (P:=Tryz.prog) ((putRow (λ(b:UInt8)=>Value.int .u8 (b.toNat:Int)) (w.alloc (.cells Lib.zeros24 225)) w.heap.size 0 dk).drewN k) 181 9 5 ⟨w.heap.size,0,none⟩ 24 (Lib.decDigits u) Tryz.underlying181 Tryz.underlying5 Tryz.underlying9 (λj hj=>by
    rw[Lib.row_is_numeral hF j hj,Lib.add_plain,World.cell?_drewN]
    exact cell?_putRow (λ(b:UInt8)=>Value.int .u8 (b.toNat:Int)) _ w.heap.size 0 _ dk HH0.out (by rw[hF.size,Array.size_replicate]) j (by rw[hF.size];rw[Lib.decDigits_length] at hj;exact hj))
   rw[Lib.decDigits_length] at h
   exact h
  go_wp2
  go_ret
  refine ⟨rfl,?_⟩
  rw[alloc_eq_grow]
  obtain ⟨os',_,e⟩:=putRow_grow_new (λ(b:UInt8)=>Value.int .u8 (b.toNat:Int)) w #[.cells Lib.zeros24 225] w.heap.size 0 dk (Nat.le_refl _)
  exact ⟨k,os',by rw[e];rfl⟩
theorem Tryz.Kq (u:Nat) (hu64:u<18446744073709551616) (w:World) (htab:∀ n,Tryz.prog.globalNamed n=some 3->Lib.TabIs Tryz.prog w n .u64 Lib.pow10Tab) :
  Calls Tryz.prog 193 #[.int .u64 u,.int .i64 10] w λe w'=>e=.returned (.string ⟨(Lib.decDigits u).toArray⟩)/\∃ k os,w'=grow (w.drewN k) os:=by
 go_enter Tryz.func193,Tryz.ntmps193
 go_wp2_with (first
  | (go_at_call 233;refine (Tryz.K3 u hu64 _ htab).mono ?_;rintro e w' ⟨rfl,k,os,rfl⟩))
 go_ret
 exact ⟨rfl,k,os,rfl⟩
end Go.Proofs
namespace Go.Abs
open Go.Proofs al Go.RowKit Go.Sort
theorem CX:∀ (f u:Nat),u<10 ^ f->0<f->xV f u=Lib.decDigits u
 | 0,_,_,h=>absurd h (Nat.lt_irrefl _)
 | f+1,u,h,_=>by
  unfold xV;rw[Lib.decDigits];by_cases q:u<10
  ·simp[q]
  simp only[q,if_false,dite_false];have h1:u / 10<10 ^ f:=by rw[Nat.pow_succ] at h;omega
  have hf:0<f:=by
   rcases f with _|f
   ·simp at h;omega
   omega
  rw[CX f (u / 10) h1 hf]
theorem nv (a b:Int):CT Tryz.prog 193 [Sc (.int .u64 a),I b] [] (jd a b) (λx=>F x) (λ_=>[]):=by
 refine sI (λx hx E g w vs hR hv=>?_) (λp=>xh p);obtain ⟨⟨hb,h0,h1⟩,hx2⟩:=xg hx;subst hb;cases hx2;have hv:=gX.BV hv;subst hv;obtain ⟨u,rfl⟩:∃ u:Nat,a=u:=⟨a.toNat,by omega⟩;obtain ⟨el,fz,h3⟩:=hR.x.gf.2.2.2;have hw3:w.heap[3]?=E.wS.heap[3]?:=hR.x.set 3 (Array.getElem?_eq_some_iff.1 h3).1;refine (Tryz.Kq u (by omega) w (λn hn=>by unfold Lib.TabIs World.var?;rw[hn];simp only[Option.bind_some,hw3,h3])).mono ?_;rintro e w' ⟨rfl,k,os,rfl⟩;refine ⟨g,_,rfl,?_,hR.below ⟨rfl,rfl,rfl,?_,λj hj=>?_⟩⟩
 ·have:xV 20 ((u:Int).toNat)=Lib.decDigits u:=by
   rw[Int.toNat_natCast];exact CX 20 u (by omega) (by omega)
  rw[this];exact .pv (.sc _)
 ·simp[grow,World.drewN]
 simp only[grow,World.drewN];exact Array.getElem?_append_left hj
end Go.Abs
end
section
namespace Go.Abs
open Go.Proofs al
def kI (p0:iz):al (dz):=
 .ok ((dz.mk 8 p0.at_))
theorem rP (p0:iz):CT Tryz.prog 26 [.mI 86 (.agg [I p0.at_])] [] (kI p0) (λx=>.agg [I x.Errno,I x.At]) (λ_=>[]):=by
 refine zC Tryz.func26 O λr hp h hr E hE=>D λ_ hK1=>A (aJ 102 (hE _ O) O4 O ?_);refine zQ hK1 (D λ_ hK2=>A (zm O (J (Ic O) O (zm O (zx O (zx O (aJ 103 (hE _ O) O4 O ?_)))))));refine zs O (za O (zQ hK2 (D λ_ hK3=>D λ_ hK4=>A (zm O (J (fu O) O (zQ hK4 (df O (λhc=>?_) (λhc=>?_))))))))
 ·exact absurd (hc) (by simp)
 refine V (hK3 _ _ (D λ_ hK5=>A (zf O (zl O (J (bQ O O O) O ?_)))));exact zs O (zQ hK5 (H (zX (.cons (aY O O O) .nil) h O)))
theorem qp (p0:iz):NP (kI p0):=by
 unfold kI;(repeat (first|assumption|exact NP.ok _|exact NP.stuck|refine NP.br ?_ ?_|refine NP.gd ?_|refine NP.el λ_=>?_|refine NP.some? λ_=>?_|refine NP.bind ?_ λ_=>?_|refine NP.jn (λ_ _=>?_) (λ_=>?_)|refine NP.iter (λ_ _ _=>?_) _ _|apply_assumption))
def py (v:Int):al (ak×dz):=
 al.bind (kI (iz.mk v)) λy2=>.ok ((ak.mk 0 [] 0 [] [] [] [] [] 0),y2)
theorem iV (v:Int):Dj Tryz.prog 32 [.ptr 0 0,.ptr 1 0] [.box [.any,.any,.any,.any,.any,.any,.any,.any,.any],.box [.any,.any]] (some (.iface 86 (.agg #[.int .i64 v]))) (py v) (λx=>[.box (bf x.1),.box [I x.2.Errno,I x.2.At]]):=by
 refine nt (m:=some (.iface 86 (.agg #[.int .i64 v]))) (mv:=.mI 86 (.agg [I v])) (λg=>.mI 86 (.agg (.cons (.pv (.sc _)) .nil))) Tryz.func32 O O O λr h hr E hE=>?_;refine D λ_ hK1=>A (zm O (J (vn O O) O (zQ hK1 (df O (λhc=>?_) (λhc=>?_)))))
 ·refine A (J (dT O O) O ?_);refine zm O (EO hr h [] Tryz.call26 (rP (iz.mk v)) ⟨O,O,O,O,O,O,trivial⟩ O (λ_=>O3) (λ_=>O2) (qp (iz.mk v)) (λy2 h=>?_));refine zs O (zs O (aX (kg 0 O O) ?_));exact N (th (.inr O) _ h.symm ⟨O,O,trivial⟩)
 exact absurd (hc) (by simp)
theorem mM (es:List M):Dj Tryz.prog 32 [.ptr 0 0,.ptr 1 0] es none (al.ok ()) (λ_=>es):=by
 refine nt (m:=none) (mv:=Sc .nilIface) (λg=>.pv (.sc _)) Tryz.func32 O O O λr h hr E hE=>?_;refine D λ_ hK1=>A (zm O (J (vo O) O (zQ hK1 (df O (λhc=>?_) (λhc=>?_)))))
 ·exact absurd (hc) (by simp)
 exact V (pr h)
def bJ (p0:aB) (p1:ByS):al (Bool):=
 br (p0.Kind==5) (.ok ((p0.Text==p1))) (.ok (false))
theorem cT (p0:aB) (p1:ByS):CT Tryz.prog 72 [.agg (gy p0),F p1] [] (bJ p0 p1) (λx=>Bo x) (λ_=>[]):=by
 refine zC Tryz.func72 O λr hp h hr E hE=>D λ_ hK1=>A (eD 102 (hE _ O) O7 O ?_);refine za O (zQ hK1 (D λ_ hK2=>A (zf O (zl O (zc O (zm O (zb (p0.Kind==5) (λhb3=>?_) λhb3=>?_)))))))
 ·exact z1 hb3 h λh=>zG hb3 O (o O) (zG hb3 O (bb O O O) (zG hb3 O (W O) (zG hb3 O (jQ O O) (zy hb3 O (za O (zQ hK2 (H (z O h O))))))))
 exact z2 hb3 h λh=>zH 4 O hb3 (zw hb3 O (za O (zQ hK2 (H (z O h O)))))
def ar (n:Nat) (p0:L):al (aB×L):=
 jn (λ(v2:L)=>el v2.bd v2.at_ λx6=>.ok (x6,(L.mk v2.text v2.bd v2.at_ p0.base v2.skip v2.pending))) λj3=>iter (λnext11 (v10:L)=>br v10.skip (el v10.bd v10.at_ λIi=>br (Ii.Kind==7) (gd (dY (v10.at_+1)) (next11 ((L.mk v10.text v10.bd (v10.at_+1) p0.base v10.skip v10.pending)))) (j3 ((L.mk v10.text v10.bd v10.at_ p0.base v10.skip v10.pending)))) (j3 ((L.mk v10.text v10.bd v10.at_ p0.base v10.skip v10.pending)))) n (p0)
theorem aI (n:Nat) (p0:L):CT Tryz.prog 34 [.ptr 0 0] [.box (K p0)] (ar n p0) (λx=>.agg (gy x.1)) (λx=>[.box [F x.2.text,.pv (.sl (List.length x.2.bd) (aB.Cs x.2.bd)),I x.2.at_,I p0.base,Bo x.2.skip,.pv (.pt (Option.map ak.C x.2.pending))]]):=by
 refine zC Tryz.func34 O λr hp h hr E hE=>D λ_ hK1=>A (aJ 102 (hE _ O) O4 O ?_);refine zQ hK1 (zM h (λ(v2:L)=>[(0,.ptr 0 0),(2,.ptr 102 0)]) (λ(v2:L)=>[(0,.box [F v2.text,.pv (.sl (List.length v2.bd) (aB.Cs v2.bd)),I v2.at_,I p0.base,Bo v2.skip,.pv (.pt (Option.map ak.C v2.pending))]),(102,.box [I 0,F [],I 0,I 0])]) (λv2 h=>?_) λ_ _ hK4 h=>?_)
 ·refine D λ_ hK5=>bG [0,1,2,3,4,5,6,7,8,9,10] O (by kernel_rfl) (zD O (W O) O (zD O (dy O) O (zD O (o O) O (zD O (bb O O O) O (zD O (W O) O (zD O (dy O) O (zD O (o O) O (zD O (bb O O O) O (ze hr h λx6 h7 h8 h9 h=>zD O (iF aB.y aB.bW h7 h8 h9 O O O) O (zD O (ji O O) O ?_))))))))));refine ck O O8 O (λe10 he=>⟨aK O,?_⟩);subst he;exact cY (hK5 _ _ (H (zX (.cons (aY O O O) .nil) h O)))
 refine aE (zL hr h (λ(v10:L)=>[(0,.ptr 0 0),(2,.ptr 102 0)]) (λ(v10:L)=>[(0,.box [F v10.text,.pv (.sl (List.length v10.bd) (aB.Cs v10.bd)),I v10.at_,I p0.base,Bo v10.skip,.pv (.pt (Option.map ak.C v10.pending))]),(102,.box [I 0,F [],I 0,I 0])]) O λ_ v10 _ hK12 h=>D λ_ hK13=>D λ_ hK14=>bG [0,1,2,3,4,5,6,7,8,9,10,11,12,13,14,15,16,17] O (by kernel_rfl) (zD O (W O) O (zD O (dy O) O (zD O (o O) O (zD O (bb O O O) O (zD O (W O) O (zb v10.skip (λhb15=>?_) λhb15=>?_)))))))
 ·refine z1 hb15 h λh=>dH hb15 O O2 (W O) O3 ?_;refine dH hb15 O O2 (dy O) O3 ?_;refine dH hb15 O O2 (o O) O3 ?_;refine dH hb15 O O2 (bb O O O) O3 ?_;refine dH hb15 O O2 (W O) O3 ?_;refine dH hb15 O O2 (dy O) O3 ?_;refine dH hb15 O O2 (o O) O3 ?_;refine dH hb15 O O2 (bb O O O) O3 ?_;refine ze hr h λIi h17 h18 h19 h=>dH hb15 O O2 (iF aB.y aB.bW h17 h18 h19 O O O) O3 ?_;refine dH hb15 O O2 (kO O O) O3 ?_;refine dH hb15 O O2 (gI O O) O3 ?_;refine dH hb15 O O2 (bq O O O) O3 ?_;refine zD O (dU hb15 O O) O (cY (hK14 _ _ (zB O h (λ_ h=>?_) λ_ h=>?_)))
  ·exact V (hK13 _ _ (aE (A (zm O (zn O (zf O (zl O (zd hr h λhg21 h=>zo hg21 O (zn O (zf O (zs O (N (hK12 _ _ _ h O)))))))))))))
  exact bw (hK4 _ _ _ h O)
 refine z2 hb15 h λh=>dF hb15 O O2 O2 ?_;refine dF hb15 O O2 O2 ?_;refine dF hb15 O O2 O2 ?_;refine dF hb15 O O2 O2 ?_;refine dF hb15 O O2 O2 ?_;refine dF hb15 O O2 O2 ?_;refine dF hb15 O O2 O2 ?_;refine dF hb15 O O2 O2 ?_;refine dF hb15 O O2 O2 ?_;refine dF hb15 O O2 O2 ?_;refine dF hb15 O O2 O2 ?_;refine dF hb15 O O2 O2 ?_;refine zD O (dJ hb15 O O) O (cY (hK14 _ _ (df O (λhc=>?_) (λhc=>?_))))
 ·exact absurd (hc) (by simp)
 exact bw (hK4 _ _ _ h O)
theorem sK (n:Nat) (p0:L):NP (ar n p0):=by
 unfold ar;(repeat (first|assumption|exact NP.ok _|exact NP.stuck|refine NP.br ?_ ?_|refine NP.gd ?_|refine NP.el λ_=>?_|refine NP.some? λ_=>?_|refine NP.bind ?_ λ_=>?_|refine NP.jn (λ_ _=>?_) (λ_=>?_)|refine NP.iter (λ_ _ _=>?_) _ _|apply_assumption))
def bK (n:Nat) (p0:ByS) (p1:L):al (Bool×L):=
 al.bind (ar n p1) λy4=>al.bind (bJ y4.1 p0) λy5=>br (!y5) (.ok (false,(L.mk y4.2.text y4.2.bd y4.2.at_ p1.base y4.2.skip y4.2.pending))) (gd (dY (y4.2.at_+1)) (.ok (true,(L.mk y4.2.text y4.2.bd (y4.2.at_+1) p1.base y4.2.skip y4.2.pending))))
theorem dD (n:Nat) (p0:ByS) (p1:L):CT Tryz.prog 76 [.ptr 0 0,F p0] [.box (K p1)] (bK n p0 p1) (λx=>Bo x.1) (λx=>[.box (K x.2)]):=by
 refine zC Tryz.func76 O λr hp h hr E hE=>D λ_ hK1=>A (za O (zQ hK1 (D λ_ hK2=>D λ_ hK3=>A (zm O (zk hp hr h [0] Tryz.call34 (aI n p1) O (λ_=>rfl) λy4 h=>zm O (zk hp hr h [] Tryz.call72 (cT y4.1 p0) O (λ_=>rfl) λy5 h=>J (fu O) O (zQ hK3 (zB O h (λ_ h=>?_) λ_ h=>?_))))))))
 ·exact D λ_ hK7=>A (za O (zQ hK7 (H (z O h O))))
 exact V (hK2 _ _ (D λ_ hK8=>A (zm O (zn O (zf O (zl O (zd hr h λhg9 h=>zo hg9 O (zn O (zf O (zs O (zQ hK8 (D λ_ hK10=>A (za O (zQ hK10 (H (z O h O))))))))))))))))
def slices_Index_string (n:Nat) (p0:(List ByS)) (p1:ByS):al (Int):=
 iter (λnext5 (v4:Int)=>br (decide (v4<(List.length p0:Int))) (el p0 v4 λAy=>br (p1==Ay) (.ok (v4)) (gd (dY (v4+1)) (next5 (v4+1)))) (.ok ((-1)))) n (0)
theorem rX (n:Nat) (p0:(List ByS)) (p1:ByS):CT Tryz.prog 161 [.pv (.sl (List.length p0) (cn p0)),F p1] [] (slices_Index_string n p0 p1) (λx=>I x) (λ_=>[]):=by
 refine zC Tryz.func161 O λr hp h hr E hE=>D λ_ hK1=>A (za O (zQ hK1 (D λ_ hK2=>D λ_ hK3=>A (zm O (J (cD O) O (zm O (zQ hK3 (aE (zL hr h (λ(v4:Int)=>[(0,.pv (.sl (List.length p0) (cn p0))),(1,F p1),(7,I (List.length p0:Int)),(8,I v4)]) (λ(v4:Int)=>[]) O λ_ v4 _ hK6 h=>D λ_ hK7=>A (zc O (zQ hK7 (D λ_ hK8=>zB O h (λ_ h=>?_) λ_ h=>?_))))))))))))
 ·refine V (hK8 _ _ (D λ_ hK10=>aE (D λ_ hK11=>A (zm O (za O (zQ hK11 (D λ_ hK12=>A (zm O (zm O (zm O (ze hr h λAy h14 h15 h16 h=>J (iF ga iU h14 h15 h16 O O O) O (J (gI O O) O (J (jQ O O) O (zQ hK12 (zB O h (λ_ h=>?_) λ_ h=>?_)))))))))))))))
  ·exact D λ_ hK18=>A (zm O (za O (zQ hK18 (H (z O h O)))))
  exact V (hK10 _ _ (A (zd hr h λhg19 h=>zo hg19 O (zm O (N (hK6 _ _ _ h O))))))
 exact bw (hK2 _ _ (D λ_ hK20=>A (za O (zQ hK20 (H (z O h O))))))
def slices_Contains_string (n:Nat) (p0:(List ByS)) (p1:ByS):al (Bool):=
 al.bind (slices_Index_string n p0 p1) λy3=>.ok ((decide (y3>=0)))
theorem jD (n:Nat) (p0:(List ByS)) (p1:ByS):CT Tryz.prog 109 [.pv (.sl (List.length p0) (cn p0)),F p1] [] (slices_Contains_string n p0 p1) (λx=>Bo x) (λ_=>[]):=by
 exact zC Tryz.func109 O λr hp h hr E hE=>D λ_ hK1=>A (za O (zQ hK1 (D λ_ hK2=>A (zm O (zm O (zk hp hr h [] Tryz.call161 (rX n p0 p1) O (λ_=>rfl) λy3 h=>zc O (za O (zQ hK2 (H (z O h O))))))))))
def eL (n:Nat) (p0:aB) (p1:ByS):al (Bool):=
 br (p0.Kind==5) (al.bind (strings_Split p1 ([32]:ByS)) λy4=>al.bind (slices_Contains_string n y4 p0.Text) λy5=>.ok (y5)) (.ok (false))
theorem mr (n:Nat) (p0:aB) (p1:ByS):CT Tryz.prog 151 [.agg (gy p0),F p1] [] (eL n p0 p1) (λx=>Bo x) (λ_=>[]):=by
 refine zC Tryz.func151 O λr hp h hr E hE=>D λ_ hK1=>A (eD 102 (hE _ O) O7 O ?_);refine za O (zQ hK1 (D λ_ hK2=>bG [0,1,2,3,4,6,7,5,8,9,10] O (by kernel_rfl) (zD O (o O) O (zD O (bb O O O) O (zD O (bq O O O) O (zD O (W O) O (zb (p0.Kind==5) (λhb3=>?_) λhb3=>?_)))))))
 ·refine z1 hb3 h λh=>dH hb3 O O2 (W O) O3 ?_;refine dH hb3 O O2 (o O) O3 ?_;refine dH hb3 O O2 (fV [.any,F p0.Text,.any,.any] O O ⟨.inr O,.inl O,.inr O,.inr O,trivial⟩ O) O3 ?_;refine ej O (AW hb3 O O2) hr h [] Tryz.call146 (nS p1 ([32]:ByS)) ⟨O,O,O,O,O,O,trivial⟩ O O (λ_=>O3) (λ_=>O2) hp (λy4 h=>⟨cW ⟨⟨⟨_,O,M.fN ⟨.inr O,.inl O,.inr O,.inr O,trivial⟩⟩,trivial⟩,⟨trivial,⟨trivial,⟨trivial,⟨trivial,⟨trivial,⟨trivial,trivial⟩⟩⟩⟩⟩⟩⟩,?_⟩);refine ej O (AW hb3 O O2) hr h [] Tryz.call109 (jD n y4 p0.Text) ⟨O,O,O,O,O,O,trivial⟩ O O (λ_=>O3) (λ_=>O2) hp (λy5 h=>⟨aK O,?_⟩);exact zD O (dU hb3 O O) O (gE O O O (aK O) O (cY (hK2 _ _ (H (z O h O)))))
 refine z2 hb3 h λh=>dF hb3 O O2 O2 ?_;refine dF hb3 O O2 O2 ?_;refine dF hb3 O O2 O2 ?_;refine vk hb3 O O2 O2 ?_;refine vk hb3 O O2 O2 ?_;exact zD O (dJ hb3 O O) O (gE O O O (aK O) O (cY (hK2 _ _ (H (z O h O)))))
def lr (p0:Int):al (ByS):=
 br (p0==0) (.ok (([124,124]:ByS))) (br (p0==1) (.ok (([38,38]:ByS))) (br (p0==2) (.ok (([61,61,32,33,61,32,60,32,60,61,32,62,32,62,61]:ByS))) (br (p0==3) (.ok (([43,32,45]:ByS))) (.ok (([42,32,47,32,37]:ByS))))))
theorem uf (p0:Int):CT Tryz.prog 215 [I p0] [] (lr p0) (λx=>F x) (λ_=>[]):=by
 refine zC Tryz.func215 O λr hp h hr E hE=>D λ_ hK1=>A (za O (zQ hK1 (D λ_ hK2=>D λ_ hK3=>A (zm O (zQ hK3 (aE (D λ_ hK4=>A (zc O (za O (zQ hK4 (zB O h (λ_ h=>?_) λ_ h=>?_)))))))))))
 ·exact D λ_ hK6=>A (za O (zQ hK6 (H (z O h O))))
 refine D λ_ hK7=>A (zc O (za O (zQ hK7 (zB O h (λ_ h=>?_) λ_ h=>?_))))
 ·exact D λ_ hK9=>A (za O (zQ hK9 (H (z O h O))))
 refine D λ_ hK10=>A (zc O (za O (zQ hK10 (zB O h (λ_ h=>?_) λ_ h=>?_))))
 ·exact D λ_ hK12=>A (za O (zQ hK12 (H (z O h O))))
 refine D λ_ hK13=>A (zc O (za O (zQ hK13 (zB O h (λ_ h=>?_) λ_ h=>?_))))
 ·exact D λ_ hK15=>A (za O (zQ hK15 (H (z O h O))))
 exact V (hK2 _ _ (D λ_ hK16=>A (za O (zQ hK16 (H (z O h O))))))
def eR (p0:Int) (_:L):al (L):=
 .kA ⟨86,[.sc (.int .i64 p0)]⟩
theorem jw (p0:Int) (p1:L):CT Tryz.prog 77 [.ptr 0 0,I p0] [.box (K p1)] (eR p0 p1) (λ_=>.gU []) (λx=>[.box (K x)]):=by
 refine zC Tryz.func77 O λr hp h hr E hE=>A (zm O (J (bQ O O O) O ?_));refine J (ql O) O ?_;exact En ⟨86,[.sc (.int .i64 p0)]⟩ O (zO (P:=Tryz.prog) (fn:=Tryz.f77) O h.symm)
structure iA where
 bm:ak->Int->L->al (ak×L)
def fy (n:Nat) (T:iA) (p0:ak) (p1:Int) (p2:L):al (ak×L):=
 br (p0.Kind==16) (el p0.bc 0 λx6=>el p0.bc 1 λG7=>al.bind (T.bm x6 p1 p2) λy14=>al.bind (T.bm G7 p1 y14.2) λy15=>.ok ((ak.mk p0.Kind p0.Text p0.kl p0.bn p0.bu [y14.1,y15.1] p0.Decls p0.bT p0.Pos),y15.2)) (br (p0.Kind==13) (iter (λnext24 (v23:L×(List aA)×Int)=>br (decide (v23.2.2<(List.length p0.Decls:Int))) (el p0.Decls v23.2.2 λx31=>jn (λ(v35:L×aA)=>gd (lz 184 (List.length v23.2.1) (List.length [v35.2])) (gd (dY (v23.2.2+1)) (next24 (v35.1,v23.2.1++[v35.2],v23.2.2+1)))) λj36=>jn (λ(v41:Bool)=>br v41 (al.bind (eR p1 v23.1) λy45=>j36 (y45,x31)) (jn (λ(v46:Bool)=>br v46 (el x31.bc 0 λx50=>al.bind (T.bm x50 p1 v23.1) λy54=>j36 (y54.2,(aA.mk x31.Kind x31.cG x31.Label x31.bn x31.bu [y54.1] x31.Body x31.bT x31.kh x31.Trail x31.Pos))) (j36 (v23.1,x31))) λj47=>br (x31.Kind==1) (j47 ((x31.Kind==1))) (br (x31.Kind==2) (j47 ((x31.Kind==2))) (j47 ((x31.Kind==3)))))) λj42=>br (x31.Kind==4) (j42 ((x31.Kind==4))) (j42 ((x31.Kind==8)))) (.ok ((ak.mk 22 p0.Text p0.kl p0.bn p0.bu p0.bc v23.2.1 p0.bT p0.Pos),v23.1))) n (p2,[],0)) (.ok (p0,p2)))
def fw:Nat->iA
 | 0=>⟨λ_ _ _=>.stuck⟩
 | n+1=>⟨fy n (fw n)⟩
def bm (n:Nat) (p0:ak) (p1:Int) (p2:L):al (ak×L):=(fw n).bm p0 p1 p2
structure lg (T:iA):Prop where
 bm:∀ (p0:ak) (p1:Int) (p2:L),CT Tryz.prog 74 [.ptr 0 0,.agg (bf p0),I p1] [.box (K p2)] (T.bm p0 p1 p2) (λx=>.agg (bf x.1)) (λx=>[.box (K x.2)])
theorem qq (n:Nat) (T:iA) (hT:lg T) (p0:ak) (p1:Int) (p2:L):CT Tryz.prog 74 [.ptr 0 0,.agg (bf p0),I p1] [.box (K p2)] (fy n T p0 p1 p2) (λx=>.agg (bf x.1)) (λx=>[.box (K x.2)]):=by
 refine zC Tryz.func74 O λr hp h hr E hE=>D λ_ hK1=>A (eD 104 (hE _ O) O7 O ?_);refine aJ 106 (hE _ O) O4 O ?_;refine zQ hK1 (D λ_ hK2=>D λ_ hK3=>A (zf O (zl O (zQ hK3 (aE (D λ_ hK4=>A (zc O (za O (zQ hK4 (zB O h (λ_ h=>?_) λ_ h=>?_))))))))))
 ·refine bG [0,1,2,3,4,5,7,8,9,10,11,12,6,13,14,15,16] O (by kernel_rfl) (zD O (W O) O (zD O (o O) O (zD O (bb O O O) O (ze hr h λx6 h7 h8 h9 h=>zD O (iF ak.y ak.bW h7 h8 h9 O O O) O (zD O (ji O O) O ?_)))));refine zD O (W O) O (zD O (W O) O (zD O (o O) O (zD O (fV [.any,.any,.any,.any,.any,.pv (.sl (List.length p0.bc) (ak.Cs p0.bc)),.any,.any,.any] O O ⟨.inr O,.inr O,.inr O,.inr O,.inr O,.inl O,.inr O,.inr O,.inr O,trivial⟩ O) O (ze hr h λG7 h11 h12 h13 h=>zD O (iF ak.y ak.bW h11 h12 h13 O O O) O (zD O (ji O O) O ?_)))));refine zD O (W O) O (ej O (bV O) hr h [0] Tryz.call74 (hT.bm x6 p1 p2) ⟨O,O,O,O,O,O,trivial⟩ O O (λ_=>O3) (λ_=>O2) hp (λy14 h=>⟨cW ⟨trivial,⟨trivial,⟨trivial,⟨⟨⟨_,O,M.fN ⟨.inr O,.inr O,.inr O,.inr O,.inr O,.inl O,.inr O,.inr O,.inr O,trivial⟩⟩,trivial⟩,⟨trivial,⟨trivial,⟨trivial,⟨trivial,⟨trivial,⟨trivial,⟨trivial,⟨trivial,trivial⟩⟩⟩⟩⟩⟩⟩⟩⟩⟩⟩⟩,?_⟩));refine ej O (bV O) hr h [0] Tryz.call74 (hT.bm G7 p1 y14.2) ⟨O,O,O,O,O,O,trivial⟩ O O (λ_=>O3) (λ_=>O2) hp (λy15 h=>⟨aK O,?_⟩);refine jb [y14.1,y15.1] ak.y O (bV O) O2 O2 ?_;refine zD O (o O) O (ck O O8 O (λe16 he=>⟨aK O,?_⟩));subst he;refine cY (hK2 _ _ (D λ_ hK16=>A (zA O ?_)));exact zs O (zQ hK16 (H (zX (.cons (aY O O O) .nil) h O)))
 refine D λ_ hK17=>A (zc O (za O (zQ hK17 (zB O h (λ_ h=>?_) λ_ h=>?_))))
 ·refine D λ_ hK19=>A (zf O (zs O (zQ hK19 (D λ_ hK20=>A (za O (zQ hK20 (D λ_ hK21=>D λ_ hK22=>A (zf O (zl O (J (cD O) O (zm O (zQ hK22 (aE (ca (ua (d:=7) 10007 (sz:=11) (el:=53) (hE _ O) O O3) ?_))))))))))))));refine zL hr h (λ(v23:L×(List aA)×Int)=>[(0,.ptr 0 0),(1,.agg (bf p0)),(2,I p1),(4,.ptr 104 0),(6,.ptr 106 0),(7,.arr 10007 (List.length v23.2.1)),(34,.pv (.sl (List.length p0.Decls) (aA.Cs p0.Decls))),(35,I (List.length p0.Decls:Int)),(36,I v23.2.2)]) (λ(v23:L×(List aA)×Int)=>[(0,.box (K v23.1)),(104,.box [I 22,F p0.Text,I p0.kl,F p0.bn,F p0.bu,.pv (.sl (List.length p0.bc) (ak.Cs p0.bc)),.pv (.sl (List.length p0.Decls) (aA.Cs p0.Decls)),.pv (.sl (List.length p0.bT) (cn p0.bT)),I p0.Pos]),(106,.box [I 0,F [],I 0,F [],F [],nSl,nSl,nSl,I 0]),(10007,.app 53 11 (aA.Cs v23.2.1))]) O λ_ v23 _ hK25 h=>D λ_ hK26=>A (zc O (zQ hK26 (D λ_ hK27=>zB O h (λ_ h=>?_) λ_ h=>?_)))
  ·refine V (hK27 _ _ (D λ_ hK29=>aE (D λ_ hK30=>A (ze hr h λx31 h32 h33 h34 h=>J (iF aA.y aA.bW h32 h33 h34 O O O) O (J (ji O O) O ?_)))));refine aJ 109 (hE _ O) O4 O ?_;refine zs O (zQ hK30 (zM h (λ(v35:L×aA)=>[(0,.ptr 0 0),(1,.agg (bf p0)),(2,I p1),(4,.ptr 104 0),(6,.ptr 106 0),(7,.arr 10007 (List.length v23.2.1)),(9,.ptr 109 0),(34,.pv (.sl (List.length p0.Decls) (aA.Cs p0.Decls))),(35,I (List.length p0.Decls:Int)),(36,I v23.2.2)]) (λ(v35:L×aA)=>[(0,.box (K v35.1)),(104,.box [I 22,F p0.Text,I p0.kl,F p0.bn,F p0.bu,.pv (.sl (List.length p0.bc) (ak.Cs p0.bc)),.pv (.sl (List.length p0.Decls) (aA.Cs p0.Decls)),.pv (.sl (List.length p0.bT) (cn p0.bT)),I p0.Pos]),(106,.box [I 0,F [],I 0,F [],F [],nSl,nSl,nSl,I 0]),(109,.box (ed v35.2)),(10007,.app 53 11 (aA.Cs v23.2.1))]) (λv35 h=>?_) λ_ _ hK37 h=>?_))
   ·refine A (zm O (zA O ?_));refine cf [v35.2] aA.y O2 O ?_;refine zd hr h λhg38 h=>mT 164 ⟨kH.h,fg.h,aA.y,aA.bW,aA.ju,hE _ O,O,O,(.inl O),O3,hg38⟩ O ?_;refine za O (aX (la 164 10007 [(0,.ptr 0 0),(1,.agg (bf p0)),(2,I p1),(4,.ptr 104 0),(6,.ptr 106 0),(7,.arr 10007 (List.length (v23.2.1++[v35.2]))),(34,.pv (.sl (List.length p0.Decls) (aA.Cs p0.Decls))),(35,I (List.length p0.Decls:Int)),(36,I v23.2.2)] [(0,.box (K v35.1)),(104,.box [I 22,F p0.Text,I p0.kl,F p0.bn,F p0.bu,.pv (.sl (List.length p0.bc) (ak.Cs p0.bc)),.pv (.sl (List.length p0.Decls) (aA.Cs p0.Decls)),.pv (.sl (List.length p0.bT) (cn p0.bT)),I p0.Pos]),(106,.box [I 0,F [],I 0,F [],F [],nSl,nSl,nSl,I 0])] (hE _ O) O O O2 ⟨⟨_,O,O,O⟩,⟨_,O,O,O⟩,⟨_,O,O,O⟩,⟨_,O,O,O⟩,⟨_,O,O,O⟩,⟨_,O,O,O⟩,⟨_,O,O,O⟩,⟨_,O,O,O⟩,⟨_,O,O,O⟩,trivial⟩ ⟨⟨_,O,O,O,O,O⟩,⟨_,O,O,O,O,O⟩,⟨_,O,O,O,O,O⟩,trivial⟩) ?_);exact zQ hK29 (A (zd hr h λhg39 h=>zo hg39 O (zm O (N (hK25 _ _ _ h O)))))
   refine D λ_ hK40=>A (zf O (zl O (zQ hK40 (aE (zM h (λ(v41:Bool)=>[(0,.ptr 0 0),(1,.agg (bf p0)),(2,I p1),(4,.ptr 104 0),(6,.ptr 106 0),(7,.arr 10007 (List.length v23.2.1)),(9,.ptr 109 0),(34,.pv (.sl (List.length p0.Decls) (aA.Cs p0.Decls))),(35,I (List.length p0.Decls:Int)),(36,I v23.2.2),(41,I x31.Kind),(42,Bo v41)]) (λ(v41:Bool)=>[(0,.box (K v23.1)),(104,.box [I 22,F p0.Text,I p0.kl,F p0.bn,F p0.bu,.pv (.sl (List.length p0.bc) (ak.Cs p0.bc)),.pv (.sl (List.length p0.Decls) (aA.Cs p0.Decls)),.pv (.sl (List.length p0.bT) (cn p0.bT)),I p0.Pos]),(106,.box [I 0,F [],I 0,F [],F [],nSl,nSl,nSl,I 0]),(109,.box (ed x31)),(10007,.app 53 11 (aA.Cs v23.2.1))]) (λv41 h=>?_) λ_ _ hK43 h=>?_)))))
   ·refine zB O h (λ_ h=>?_) λ_ h=>?_
    ·exact A (zm O (zm O (zk hp hr h [0] Tryz.call77 (jw p1 v23.1) O (λ_=>rfl) λy45 h=>N (hK37 _ _ _ h O))))
    refine zM h (λ(v46:Bool)=>[(0,.ptr 0 0),(1,.agg (bf p0)),(2,I p1),(4,.ptr 104 0),(6,.ptr 106 0),(7,.arr 10007 (List.length v23.2.1)),(9,.ptr 109 0),(34,.pv (.sl (List.length p0.Decls) (aA.Cs p0.Decls))),(35,I (List.length p0.Decls:Int)),(36,I v23.2.2),(48,Bo v46)]) (λ(v46:Bool)=>[(0,.box (K v23.1)),(104,.box [I 22,F p0.Text,I p0.kl,F p0.bn,F p0.bu,.pv (.sl (List.length p0.bc) (ak.Cs p0.bc)),.pv (.sl (List.length p0.Decls) (aA.Cs p0.Decls)),.pv (.sl (List.length p0.bT) (cn p0.bT)),I p0.Pos]),(106,.box [I 0,F [],I 0,F [],F [],nSl,nSl,nSl,I 0]),(109,.box (ed x31)),(10007,.app 53 11 (aA.Cs v23.2.1))]) (λv46 h=>?_) λ_ _ hK48 h=>?_
    ·refine zB O h (λ_ h=>?_) λ_ h=>?_
     ·refine A (zm O (zf O (zl O (ze hr h λx50 h51 h52 h53 h=>J (iF ak.y ak.bW h51 h52 h53 O O O) O (J (ji O O) O ?_)))));refine zm O (zk hp hr h [0] Tryz.call74 (hT.bm x50 p1 v23.1) O (λ_=>rfl) λy54 h=>cf [y54.1] ak.y O2 O ?_);exact zf O (zs O (N (hK37 _ _ _ h O)))
     exact V (hK37 _ _ _ h O)
    refine D λ_ hK55=>A (zc O (za O (zQ hK55 (zB O h (λ_ h=>?_) λ_ h=>?_))))
    ·exact V (hK48 _ _ _ h O)
    refine D λ_ hK57=>A (zc O (za O (zQ hK57 (zB O h (λ_ h=>?_) λ_ h=>?_))))
    ·exact V (hK48 _ _ _ h O)
    exact A (zc O (za O (N (hK48 _ _ _ h O))))
   refine D λ_ hK59=>A (zc O (za O (zQ hK59 (zB O h (λ_ h=>?_) λ_ h=>?_))))
   ·exact V (hK43 _ _ _ h O)
   exact A (zc O (za O (N (hK43 _ _ _ h O))))
  refine bw (hK21 _ _ (A (J (nc aA.y aA.bW O O O) O ?_)));refine zf O (zs O (zQ hK2 (D λ_ hK61=>A (zA O ?_))));exact zs O (zQ hK61 (H (zX (.cons (aY O O O) .nil) h O)))
 refine V (hK2 _ _ (D λ_ hK62=>A (zA O ?_)));exact zs O (zQ hK62 (H (zX (.cons (aY O O O) .nil) h O)))
theorem kD:∀ n,lg (fw n)
 | 0=>⟨λ_ _ _=>cM⟩
 | n+1=>⟨λp0 p1 p2=>qq n _ (kD n) p0 p1 p2⟩
theorem ia (n:Nat) (p0:ak) (p1:Int) (p2:L):CT Tryz.prog 74 [.ptr 0 0,.agg (bf p0),I p1] [.box (K p2)] (bm n p0 p1 p2) (λx=>.agg (bf x.1)) (λx=>[.box (K x.2)]):=(kD n).bm p0 p1 p2
def be (n:Nat) (p0:L):al (Int×L):=
 al.bind (ar n p0) λy3=>gd (dY (p0.base+y3.1.Pos)) (.ok (p0.base+y3.1.Pos,(L.mk y3.2.text y3.2.bd y3.2.at_ p0.base y3.2.skip y3.2.pending)))
theorem cq (n:Nat) (p0:L):CT Tryz.prog 75 [.ptr 0 0] [.box (K p0)] (be n p0) (λx=>I x.1) (λx=>[.box (K x.2)]):=by
 refine zC Tryz.func75 O λr hp h hr E hE=>D λ_ hK1=>A (za O (zQ hK1 (D λ_ hK2=>bG [0,1,2,3,4,5,6,7,8] O (by kernel_rfl) (zD O (W O) O (zD O (dy O) O (zD O (o O) O (zD O (fV [.any,.any,.any,I p0.base,.any,.any] O O ⟨.inr O,.inr O,.inr O,.inl O,.inr O,.inr O,trivial⟩ O) O (zD O (W O) O (ej O (bV O) hr h [0] Tryz.call34 (aI n p0) ⟨O,O,O,O,O,O,trivial⟩ O O (λ_=>O3) (λ_=>O2) hp (λy3 h=>⟨cW ⟨trivial,⟨⟨⟨_,O,M.fN ⟨.inr O,.inr O,.inr O,.inl O,.inr O,.inr O,trivial⟩⟩,trivial⟩,⟨trivial,⟨trivial,⟨trivial,trivial⟩⟩⟩⟩⟩,?_⟩))))))))));refine zD O (k9 O O) O ?_;exact zd hr h λhg4 h=>zD O (mg O O hg4) O (gE O O O (aK O) O (cY (hK2 _ _ (H (z O h O)))))
def mu (p0:Int):al (Bool):=
 br (decide (p0>=97)) (br (decide (p0<=122)) (.ok (true)) (br (decide (p0>=65)) (.ok ((decide (p0<=90)))) (.ok (false)))) (br (decide (p0>=65)) (.ok ((decide (p0<=90)))) (.ok (false)))
theorem sL (p0:Int):CT Tryz.prog 110 [Sc (.int .u8 p0)] [] (mu p0) (λx=>Bo x) (λ_=>[]):=by
 refine zC Tryz.func110 O λr hp h hr E hE=>D λ_ hK1=>A (za O (zQ hK1 (D λ_ hK2=>A (zm O (zc O (zm O (zb (decide (p0>=97)) (λhb3=>?_) λhb3=>?_)))))))
 ·refine z1 hb3 h λh=>zG hb3 O (W O) (zG hb3 O (bq O O O) (zy hb3 O (zm O (zb (decide (p0<=122)) (λhb4=>?_) λhb4=>?_))))
  ·exact z1 hb4 h λh=>zH 3 O hb4 (zu O (zu O (zg hb4 O (zy hb4 O (za O (zQ hK2 (H (z O h O))))))))
  refine z2 hb4 h λh=>zG hb4 O (W O) (zG hb4 O (bq O O O) (zG hb4 O (W O) (zb (decide (p0>=65)) (λhb5=>?_) λhb5=>?_)))
  ·exact z1 hb5 h λh=>zG hb5 O (W O) (zG hb5 O (bq O O O) (zG hb4 O (dU hb5 O O) (zw hb4 O (za O (zQ hK2 (H (z O h O)))))))
  exact z2 hb5 h λh=>zH 2 O hb5 (zG hb4 O (dJ hb5 O O) (zw hb4 O (za O (zQ hK2 (H (z O h O))))))
 refine z2 hb3 h λh=>zH 2 O hb3 (zw hb3 O (zm O (zG O O (W O) (zG O O (bq O O O) (zG O O (W O) (zb (decide (p0>=65)) (λhb6=>?_) λhb6=>?_))))))
 ·exact z1 hb6 h λh=>zG hb6 O (W O) (zG hb6 O (bq O O O) (zG O O (dU hb6 O O) (J (eX O O) O (za O (zQ hK2 (H (z O h O)))))))
 exact z2 hb6 h λh=>zH 2 O hb6 (zG O O (dJ hb6 O O) (J (eX O O) O (za O (zQ hK2 (H (z O h O))))))
def fv (n:Nat) (p0:ByS):al (Bool):=
 br (decide ((List.length p0:Int)>32)) (.ok (false)) (al.bind (slices_Contains_string n [([110,117,108,108]:ByS),([116,114,117,101]:ByS),([102,97,108,115,101]:ByS),([98,111,111,108]:ByS),([105,110,116]:ByS),([110,117,109,98,101,114]:ByS),([115,116,114,105,110,103]:ByS),([108,101,116]:ByS),([105,102]:ByS),([102,111,114]:ByS),([105,110]:ByS),([112,97,99,107,97,103,101]:ByS),([105,109,112,111,114,116]:ByS)] p0) λy7=>br y7 (.ok (false)) (jn (λ(v10:ByS)=>br ((List.length v10:Int)==0) (.ok (false)) (el v10 0 λb17=>al.bind (mu (b17.toNat:Int)) λy21=>br (!y21) (.ok (false)) (iter (λnext27 (v26:Int)=>br (decide (v26<(List.length v10:Int))) (el v10 v26 λb35=>al.bind (mu (b35.toNat:Int)) λy39=>br (!y39) (el v10 v26 λb41=>br ((b41.toNat:Int) !=95) (el v10 v26 λb46=>br (decide ((b46.toNat:Int)<48)) (.ok (false)) (el v10 v26 λb52=>br (decide ((b52.toNat:Int)>57)) (.ok (false)) (gd (dY (v26+1)) (next27 (v26+1))))) (gd (dY (v26+1)) (next27 (v26+1)))) (gd (dY (v26+1)) (next27 (v26+1)))) (.ok (true))) n (0)))) λj11=>br (decide ((List.length p0:Int)>0)) (el p0 0 λb64=>br ((b64.toNat:Int)==35) (gd ((0:Int)<=1/\1<=(List.length p0:Int)) (j11 (dI p0 1))) (el p0 0 λb70=>br ((b70.toNat:Int)==95) (gd ((0:Int)<=1/\1<=(List.length p0:Int)) (j11 (dI p0 1))) (j11 (p0)))) (j11 (p0))))
theorem gY (n:Nat) (p0:ByS):CT Tryz.prog 62 [F p0] [] (fv n p0) (λx=>Bo x) (λ_=>[]):=by
 refine zC Tryz.func62 O λr hp h hr E hE=>D λ_ hK1=>A (za O (zQ hK1 (D λ_ hK2=>A (cf [([110,117,108,108]:ByS),([116,114,117,101]:ByS),([102,97,108,115,101]:ByS),([98,111,111,108]:ByS),([105,110,116]:ByS),([110,117,109,98,101,114]:ByS),([115,116,114,105,110,103]:ByS),([108,101,116]:ByS),([105,102]:ByS),([102,111,114]:ByS),([105,110]:ByS),([112,97,99,107,97,103,101]:ByS),([105,109,112,111,114,116]:ByS)] ga O2 O ?_))));refine za O (zQ hK2 (D λ_ hK3=>D λ_ hK4=>A (zm O (J (dC O) O (zc O (zm O (zb (decide ((List.length p0:Int)>32)) (λhb5=>?_) λhb5=>?_)))))))
 ·refine z1 hb5 h λh=>zH 3 O hb5 (zy hb5 O (zQ hK4 (df O (λhc=>?_) (λhc=>?_))))
  ·exact D λ_ hK6=>A (za O (zQ hK6 (H (z O h O))))
  exact absurd (hc) (by simp)
 refine z2 hb5 h λh=>zG hb5 O (W O) (zG hb5 O (W O) (zK hb5 O hp hr h [] Tryz.call109 (jD n [([110,117,108,108]:ByS),([116,114,117,101]:ByS),([102,97,108,115,101]:ByS),([98,111,111,108]:ByS),([105,110,116]:ByS),([110,117,109,98,101,114]:ByS),([115,116,114,105,110,103]:ByS),([108,101,116]:ByS),([105,102]:ByS),([102,111,114]:ByS),([105,110]:ByS),([112,97,99,107,97,103,101]:ByS),([105,109,112,111,114,116]:ByS)] p0) O (λ_=>rfl) λy7 h=>zw hb5 O (zQ hK4 (zB O h (λ_ h=>?_) λ_ h=>?_))))
 ·exact D λ_ hK9=>A (za O (zQ hK9 (H (z O h O))))
 refine V (hK3 _ _ (zM h (λ(v10:ByS)=>[(0,F v10)]) (λ(v10:ByS)=>[]) (λv10 h=>?_) λ_ _ hK12 h=>?_))
 ·refine D λ_ hK13=>D λ_ hK14=>A (zm O (J (dC O) O (zc O (zm O (zb ((List.length v10:Int)==0) (λhb15=>?_) λhb15=>?_)))))
  ·refine z1 hb15 h λh=>zH 4 O hb15 (zy hb15 O (zQ hK14 (df O (λhc=>?_) (λhc=>?_))))
   ·exact D λ_ hK16=>A (za O (zQ hK16 (H (z O h O))))
   exact absurd (hc) (by simp)
  refine z2 hb15 h λh=>zG hb15 O (W O) (ze hr h λb17 h18 h19 h20 h=>zG hb15 O (eK O O h18 h20) (zK hb15 O hp hr h [] Tryz.call110 (sL (b17.toNat:Int)) O (λ_=>rfl) λy21 h=>zG hb15 O (fu O) (zw hb15 O (zQ hK14 (zB O h (λ_ h=>?_) λ_ h=>?_)))))
  ·exact D λ_ hK23=>A (za O (zQ hK23 (H (z O h O))))
  refine V (hK13 _ _ (D λ_ hK24=>D λ_ hK25=>A (zm O (J (dC O) O (zm O (zQ hK25 (aE (zL hr h (λ(v26:Int)=>[(0,F v10),(39,I (List.length v10:Int)),(40,I v26)]) (λ(v26:Int)=>[]) O λ_ v26 _ hK28 h=>D λ_ hK29=>A (zc O (zQ hK29 (D λ_ hK30=>zB O h (λ_ h=>?_) λ_ h=>?_)))))))))))
  ·refine V (hK30 _ _ (D λ_ hK32=>aE (D λ_ hK33=>A (zm O (za O (zQ hK33 (D λ_ hK34=>A (zm O (zm O (ze hr h λb35 h36 h37 h38 h=>J (eK O O h36 h38) O (zk hp hr h [] Tryz.call110 (sL (b35.toNat:Int)) O (λ_=>rfl) λy39 h=>J (fu O) O (zm O (zb (!y39) (λhb40=>?_) λhb40=>?_)))))))))))))
   ·refine z1 hb40 h λh=>zG hb40 O (W O) (zG hb40 O (W O) (ze hr h λb41 h42 h43 h44 h=>zG hb40 O (eK O O h42 h44) (zG hb40 O (bq O O O) (zy hb40 O (zm O (zb ((b41.toNat:Int) !=95) (λhb45=>?_) λhb45=>?_))))))
    ·refine z1 hb45 h λh=>zG hb45 O (W O) (zG hb45 O (W O) (ze hr h λb46 h47 h48 h49 h=>zG hb45 O (eK O O h47 h49) (zG hb45 O (bq O O O) (zG hb45 O (W O) (zb (decide ((b46.toNat:Int)<48)) (λhb50=>?_) λhb50=>?_)))))
     ·refine z1 hb50 h λh=>zH 4 O hb50 (zG hb45 O (dU hb50 O O) (zy hb45 O (zQ hK34 (df O (λhc=>?_) (λhc=>?_)))))
      ·exact D λ_ hK51=>A (za O (zQ hK51 (H (z O h O))))
      exact absurd (hc) (by simp)
     refine z2 hb50 h λh=>zG hb50 O (W O) (zG hb50 O (W O) (ze hr h λb52 h53 h54 h55 h=>zG hb50 O (eK O O h53 h55) (zG hb50 O (bq O O O) (zG hb45 O (dJ hb50 O O) (zy hb45 O (zQ hK34 (zB O h (λ_ h=>?_) λ_ h=>?_)))))))
     ·exact D λ_ hK57=>A (za O (zQ hK57 (H (z O h O))))
     exact V (hK32 _ _ (A (zd hr h λhg58 h=>zo hg58 O (zm O (N (hK28 _ _ _ h O))))))
    refine z2 hb45 h λh=>zH 5 O hb45 (zu O (zu O (zu O (zu O (zg hb45 O (zw hb45 O (zQ hK34 (df O (λhc=>?_) (λhc=>?_)))))))))
    ·exact absurd (hc) (by simp)
    exact V (hK32 _ _ (A (zd hr h λhg59 h=>zo hg59 O (zm O (N (hK28 _ _ _ h O))))))
   refine z2 hb40 h λh=>zH 4 O hb40 (zw hb40 O (zm O (zH 5 O O (zu O (zu O (zu O (zu O (zg O O (J (eX O O) O (zQ hK34 (df O (λhc=>?_) (λhc=>?_))))))))))))
   ·exact absurd (hc) (by simp)
   exact V (hK32 _ _ (A (zd hr h λhg60 h=>zo hg60 O (zm O (N (hK28 _ _ _ h O))))))
  exact bw (hK24 _ _ (D λ_ hK61=>A (za O (zQ hK61 (H (z O h O))))))
 refine D λ_ hK62=>A (zm O (J (dC O) O (zc O (zm O (zb (decide ((List.length p0:Int)>0)) (λhb63=>?_) λhb63=>?_)))))
 ·refine z1 hb63 h λh=>zG hb63 O (W O) (ze hr h λb64 h65 h66 h67 h=>zG hb63 O (eK O O h65 h67) (zG hb63 O (bq O O O) (zG hb63 O (W O) (zb ((b64.toNat:Int)==35) (λhb68=>?_) λhb68=>?_))))
  ·refine z1 hb68 h λh=>zH 3 O hb68 (zG hb63 O (dU hb68 O O) (zy hb63 O (zQ hK62 (df O (λhc=>?_) (λhc=>?_)))))
   ·exact A (zm O (zd hr h λhg69 h=>J (iX O O hg69.1 hg69.2) O (za O (N (hK12 _ _ _ h O)))))
   exact absurd (hc) (by simp)
  refine z2 hb68 h λh=>zG hb68 O (W O) (ze hr h λb70 h71 h72 h73 h=>zG hb68 O (eK O O h71 h73) (zG hb68 O (bq O O O) (zG hb63 O (dJ hb68 O O) (zy hb63 O (zQ hK62 (zB O h (λ_ h=>?_) λ_ h=>?_))))))
  ·exact A (zm O (zd hr h λhg75 h=>J (iX O O hg75.1 hg75.2) O (za O (N (hK12 _ _ _ h O)))))
  exact V (hK12 _ _ _ h O)
 refine z2 hb63 h λh=>zH 4 O hb63 (zu O (zu O (zu O (zg hb63 O (zw hb63 O (zQ hK62 (df O (λhc=>?_) (λhc=>?_))))))))
 ·exact absurd (hc) (by simp)
 exact V (hK12 _ _ _ h O)
def fi (n:Nat) (p0:aB):al (Bool):=
 br (p0.Kind==3) (.ok (true)) (br (p0.Kind==1) (al.bind (fv n p0.Text) λy5=>.ok (y5)) (.ok (false)))
theorem qt (n:Nat) (p0:aB):CT Tryz.prog 150 [.agg (gy p0)] [] (fi n p0) (λx=>Bo x) (λ_=>[]):=by
 refine zC Tryz.func150 O λr hp h hr E hE=>D λ_ hK1=>A (eD 101 (hE _ O) O7 O ?_);refine za O (zQ hK1 (D λ_ hK2=>A (zf O (zl O (zc O (zm O (zb (p0.Kind==3) (λhb3=>?_) λhb3=>?_)))))))
 ·exact z1 hb3 h λh=>zH 4 O hb3 (zu O (zu O (zu O (zg hb3 O (zy hb3 O (za O (zQ hK2 (H (z O h O)))))))))
 refine z2 hb3 h λh=>zG hb3 O (o O) (zG hb3 O (bb O O O) (zG hb3 O (bq O O O) (zG hb3 O (W O) (zb (p0.Kind==1) (λhb4=>?_) λhb4=>?_))))
 ·exact z1 hb4 h λh=>zG hb4 O (o O) (zG hb4 O (bb O O O) (zK hb4 O hp hr h [] Tryz.call62 (gY n p0.Text) O (λ_=>rfl) λy5 h=>zG hb3 O (dU hb4 O O) (zw hb3 O (za O (zQ hK2 (H (z O h O)))))))
 exact z2 hb4 h λh=>zH 3 O hb4 (zG hb3 O (dJ hb4 O O) (zw hb3 O (za O (zQ hK2 (H (z O h O))))))
def lX (p0:Int):al (Bool):=
 br (decide (p0>=(-1000000000000000))) (.ok ((decide (p0<=1000000000000000)))) (.ok (false))
theorem pP (p0:Int):CT Tryz.prog 141 [I p0] [] (lX p0) (λx=>Bo x) (λ_=>[]):=by
 refine zC Tryz.func141 O λr hp h hr E hE=>D λ_ hK1=>A (za O (zQ hK1 (D λ_ hK2=>A (zm O (zc O (zm O (zb (decide (p0>=(-1000000000000000))) (λhb3=>?_) λhb3=>?_)))))))
 ·exact z1 hb3 h λh=>zG hb3 O (W O) (zG hb3 O (bq O O O) (zy hb3 O (za O (zQ hK2 (H (z O h O))))))
 exact z2 hb3 h λh=>zH 2 O hb3 (zw hb3 O (za O (zQ hK2 (H (z O h O)))))
def qZ (p0:Int):al (Int):=
 br (decide (p0<0)) (.ok (IntKind.wrap .u64 (IntKind.wrap .i64 (0 - p0)))) (.ok (IntKind.wrap .u64 p0))
theorem zZ (p0:Int):CT Tryz.prog 192 [I p0] [] (qZ p0) (λx=>Sc (.int .u64 x)) (λ_=>[]):=by
 refine zC Tryz.func192 O λr hp h hr E hE=>D λ_ hK1=>A (za O (zQ hK1 (D λ_ hK2=>D λ_ hK3=>A (zm O (zc O (zQ hK3 (zB O h (λ_ h=>?_) λ_ h=>?_)))))))
 ·exact D λ_ hK5=>A (zm O (J (IU O) O (J (nb O) O (za O (zQ hK5 (H (z O h O)))))))
 exact V (hK2 _ _ (D λ_ hK6=>A (zm O (J (nb O) O (za O (zQ hK6 (H (z O h O))))))))
def ra (n:Nat) (p0:Int):al (ByS):=
 al.bind (lX p0) λy4=>br (!y4) (.ok (([63]:ByS))) (al.bind (qZ p0) λy8=>gd ((10000:Int)≠0) (al.bind (jd (IntKind.wrap .u64 (Int.tdiv y8 10000)) 10) λy11=>jn (λ(v12:ByS)=>gd ((10000:Int)≠0) (al.bind (jd (IntKind.wrap .u64 ((Int.tmod y8 10000)+10000)) 10) λy17=>gd ((0:Int)<=1/\1<=(List.length y17:Int)) (jn (λ(v19:ByS)=>br (v19 !=([]:ByS)) (gd (rN ([46]:ByS) v19) (gd (rN v12 (([46]:ByS)++v19)) (.ok (v12++(([46]:ByS)++v19))))) (.ok (v12))) λj20=>iter (λnext30 (v29:ByS)=>br (decide ((List.length v29:Int)>0)) (gd (dY ((List.length v29:Int) - 1)) (el v29 ((List.length v29:Int) - 1) λb36=>br ((b36.toNat:Int)==48) (gd (dY ((List.length v29:Int) - 1)) (gd ((0:Int)<=((List.length v29:Int) - 1)/\((List.length v29:Int) - 1)<=(List.length v29:Int)) (next30 (kB v29 ((List.length v29:Int) - 1))))) (j20 (v29)))) (j20 (v29))) n (dI y17 1)))) λj13=>br (decide (p0<0)) (gd (rN ([45]:ByS) y11) (j13 (([45]:ByS)++y11))) (j13 (y11))))
theorem z6 (n:Nat) (p0:Int):CT Tryz.prog 142 [I p0] [] (ra n p0) (λx=>F x) (λ_=>[]):=by
 refine zC Tryz.func142 O λr hp h hr E hE=>D λ_ hK1=>A (za O (zQ hK1 (D λ_ hK2=>D λ_ hK3=>A (zm O (zk hp hr h [] Tryz.call141 (pP p0) O (λ_=>rfl) λy4 h=>J (fu O) O (zQ hK3 (zB O h (λ_ h=>?_) λ_ h=>?_)))))))
 ·exact D λ_ hK6=>A (za O (zQ hK6 (H (z O h O))))
 refine V (hK2 _ _ (D λ_ hK7=>A (zm O (zk hp hr h [] Tryz.call192 (zZ p0) O (λ_=>rfl) λy8 h=>za O (zQ hK7 (D λ_ hK9=>A (zm O (zd hr h λhg10 h=>J (BS O O hg10) O (zk hp hr h [] Tryz.call193 (nv (IntKind.wrap .u64 (Int.tdiv y8 10000)) 10) O (λ_=>rfl) λy11 h=>za O (zQ hK9 (zM h (λ(v12:ByS)=>[(0,I p0),(3,Sc (.int .u64 y8)),(4,F v12)]) (λ(v12:ByS)=>[]) (λv12 h=>?_) λ_ _ hK14 h=>?_)))))))))))
 ·refine D λ_ hK15=>A (zm O (zd hr h λhg16 h=>J (Ez O O hg16) O (J (jS O O) O (zk hp hr h [] Tryz.call193 (nv (IntKind.wrap .u64 ((Int.tmod y8 10000)+10000)) 10) O (λ_=>rfl) λy17 h=>zd hr h λhg18 h=>J (iX O O hg18.1 hg18.2) O (za O (zQ hK15 (zM h (λ(v19:ByS)=>[(0,I p0),(4,F v12),(5,F v19)]) (λ(v19:ByS)=>[]) (λv19 h=>?_) λ_ _ hK21 h=>?_)))))))
  ·refine D λ_ hK22=>D λ_ hK23=>A (zm O (J (rL O O) O (zQ hK23 (zB O h (λ_ h=>?_) λ_ h=>?_))))
   ·exact A (zm O (zm O (zd hr h λhg25 h=>J (oN O O hg25) O (zd hr h λhg26 h=>J (oN O O hg26) O (za O (zQ hK22 (D λ_ hK27=>A (zm O (za O (zQ hK27 (H (z O h O))))))))))))
   exact V (hK22 _ _ (D λ_ hK28=>A (zm O (za O (zQ hK28 (H (z O h O)))))))
  refine aE (zL hr h (λ(v29:ByS)=>[(0,I p0),(4,F v12),(5,F v29)]) (λ(v29:ByS)=>[]) O λ_ v29 _ hK31 h=>D λ_ hK32=>D λ_ hK33=>A (zm O (J (dC O) O (zc O (zm O (zb (decide ((List.length v29:Int)>0)) (λhb34=>?_) λhb34=>?_))))))
  ·refine z1 hb34 h λh=>zG hb34 O (W O) (zG hb34 O (W O) (zG hb34 O (dC O) (zd hr h λhg35 h=>zG hb34 O (rM O O hg35) (ze hr h λb36 h37 h38 h39 h=>zG hb34 O (eK O O h37 h39) (zG hb34 O (bq O O O) (zy hb34 O (zQ hK33 (zB O h (λ_ h=>?_) λ_ h=>?_))))))))
   ·exact V (hK32 _ _ (aE (A (zm O (zm O (J (dC O) O (zd hr h λhg41 h=>J (rM O O hg41) O (zd hr h λhg42 h=>J (qS O O hg42.1 hg42.2) O (za O (N (hK31 _ _ _ h O)))))))))))
   exact bw (hK21 _ _ _ h O)
  refine z2 hb34 h λh=>zH 6 O hb34 (zw hb34 O (zQ hK33 (df O (λhc=>?_) (λhc=>?_))))
  ·exact absurd (hc) (by simp)
  exact bw (hK21 _ _ _ h O)
 refine D λ_ hK43=>A (zm O (zc O (zQ hK43 (zB O h (λ_ h=>?_) λ_ h=>?_))))
 ·exact A (zm O (zd hr h λhg45 h=>J (oN O O hg45) O (za O (N (hK14 _ _ _ h O)))))
 exact V (hK14 _ _ _ h O)
def ny (n:Nat) (p0:ByS):al (Int×Int):=
 br (decide ((List.length p0:Int)>20)) (.ok (0,8)) (jn (λ(v7:ByS×ByS)=>iter (λnext12 (v11:ByS)=>br (decide ((List.length v11:Int)<4)) (gd (rN v11 ([48]:ByS)) (next12 (v11++([48]:ByS)))) (br (decide ((List.length v11:Int)>4)) (.ok (0,8)) (gd (rN v7.1 v11) (al.bind (mU (v7.1++v11) 10 64) λy24=>br y24.2 (.ok (0,8)) (al.bind (lX y24.1) λy29=>br (!y29) (.ok (0,8)) (al.bind (ra n y24.1) λy32=>br (y32 !=p0) (.ok (0,8)) (.ok (y24.1,0)))))))) n (v7.2)) λj8=>iter (λnext38 (v37:Int)=>br (decide (v37<(List.length p0:Int))) (el p0 v37 λb46=>br ((b46.toNat:Int)==46) (gd ((0:Int)<=v37/\v37<=(List.length p0:Int)) (gd (dY (v37+1)) (gd ((0:Int)<=(v37+1)/\(v37+1)<=(List.length p0:Int)) (j8 (kB p0 v37,dI p0 (v37+1)))))) (gd (dY (v37+1)) (next38 (v37+1)))) (j8 (p0,([]:ByS)))) n (0))
theorem tN (n:Nat) (p0:ByS):CT Tryz.prog 100 [F p0] [] (ny n p0) (λx=>.gU [I x.1,I x.2]) (λ_=>[]):=by
 refine zC Tryz.func100 O λr hp h hr E hE=>D λ_ hK1=>A (za O (za O (zQ hK1 (D λ_ hK2=>D λ_ hK3=>A (zm O (J (dC O) O (zc O (zQ hK3 (zB O h (λ_ h=>?_) λ_ h=>?_)))))))))
 ·exact D λ_ hK5=>A (za O (za O (zQ hK5 (H (zX (.cons (bp O) (.cons (bp O) .nil)) h O)))))
 refine V (hK2 _ _ (D λ_ hK6=>A (zm O (za O (za O (zQ hK6 (zM h (λ(v7:ByS×ByS)=>[(0,F p0),(4,F v7.1),(5,F v7.2)]) (λ(v7:ByS×ByS)=>[]) (λv7 h=>?_) λ_ _ hK9 h=>?_)))))))
 ·refine D λ_ hK10=>aE (zL hr h (λ(v11:ByS)=>[(0,F p0),(4,F v7.1),(5,F v11)]) (λ(v11:ByS)=>[]) O λ_ v11 _ hK13 h=>D λ_ hK14=>D λ_ hK15=>A (zm O (J (dC O) O (zc O (zQ hK15 (zB O h (λ_ h=>?_) λ_ h=>?_))))))
  ·exact V (hK14 _ _ (aE (A (zm O (zd hr h λhg17 h=>J (oN O O hg17) O (za O (N (hK13 _ _ _ h O))))))))
  refine bw (hK10 _ _ (D λ_ hK18=>D λ_ hK19=>A (zm O (J (dC O) O (zc O (zQ hK19 (zB O h (λ_ h=>?_) λ_ h=>?_)))))))
  ·exact D λ_ hK21=>A (za O (za O (zQ hK21 (H (zX (.cons (bp O) (.cons (bp O) .nil)) h O)))))
  refine V (hK18 _ _ (D λ_ hK22=>A (zm O (zm O (zd hr h λhg23 h=>J (oN O O hg23) O (jU hr h [] Tryz.call140 (ue (v7.1++v11) 10 64) ⟨O,O,O,O,O,O,trivial⟩ O (λ_=>⟨O,O,CP O⟩) (λ_=>⟨ES,O⟩) hp (λy24 h=>?_)))))));refine zm O (zx O (zx O (za O (za O (zQ hK22 (D λ_ hK25=>D λ_ hK26=>A (zm O (J (EG O) O (zm O (zb y24.2 (λhb27=>?_) λhb27=>?_))))))))))
  ·refine z1 hb27 h λh=>zH 3 O hb27 (zy hb27 O (zm O (zH 4 O O (zt O (zQ hK26 (df O (λhc=>?_) (λhc=>?_)))))))
   ·exact D λ_ hK28=>A (za O (za O (zQ hK28 (H (zX (.cons (bp O) (.cons (bp O) .nil)) h O)))))
   exact absurd (hc) (by simp)
  refine z2 hb27 h λh=>zG hb27 O (W O) (zK hb27 O hp hr h [] Tryz.call141 (pP y24.1) O (λ_=>rfl) λy29 h=>zG hb27 O (fu O) (zw hb27 O (zm O (zb (!y29) (λhb30=>?_) λhb30=>?_))))
  ·refine z1 hb30 h λh=>zH 4 O hb30 (zy hb30 O (zQ hK26 (df O (λhc=>?_) (λhc=>?_))))
   ·exact D λ_ hK31=>A (za O (za O (zQ hK31 (H (zX (.cons (bp O) (.cons (bp O) .nil)) h O)))))
   exact absurd (hc) (by simp)
  refine z2 hb30 h λh=>zG hb30 O (W O) (zK hb30 O hp hr h [] Tryz.call142 (z6 n y24.1) O (λ_=>rfl) λy32 h=>zG hb30 O (W O) (zG hb30 O (rL O O) (zw hb30 O (zQ hK26 (zB O h (λ_ h=>?_) λ_ h=>?_)))))
  ·exact D λ_ hK34=>A (za O (za O (zQ hK34 (H (zX (.cons (bp O) (.cons (bp O) .nil)) h O)))))
  exact V (hK25 _ _ (D λ_ hK35=>A (zm O (za O (za O (zQ hK35 (H (zX (.cons (bp O) (.cons (bp O) .nil)) h O))))))))
 refine D λ_ hK36=>A (zm O (J (dC O) O (zm O (zQ hK36 (aE (zL hr h (λ(v37:Int)=>[(0,F p0),(4,F p0),(5,F ([]:ByS)),(14,I (List.length p0:Int)),(15,I v37)]) (λ(v37:Int)=>[]) O λ_ v37 _ hK39 h=>D λ_ hK40=>A (zc O (zQ hK40 (D λ_ hK41=>zB O h (λ_ h=>?_) λ_ h=>?_)))))))))
 ·refine V (hK41 _ _ (D λ_ hK43=>aE (D λ_ hK44=>A (zm O (za O (zQ hK44 (D λ_ hK45=>A (zm O (zm O (ze hr h λb46 h47 h48 h49 h=>J (eK O O h47 h49) O (zc O (zQ hK45 (zB O h (λ_ h=>?_) λ_ h=>?_)))))))))))))
  ·exact D λ_ hK51=>bG [0,1,2,3,4,5,6,7,8] O (by kernel_rfl) (zD O (W O) O (zD O (W O) O (zd hr h λhg52 h=>zD O (qS O O hg52.1 hg52.2) O (zD O (W O) O (zD O (W O) O (zd hr h λhg53 h=>zD O (mg O O hg53) O (zd hr h λhg54 h=>zD O (iX O O hg54.1 hg54.2) O (gE O O O (aK O) O (gE O O O (aK O) O (cY (hK51 _ _ (bw (hK9 _ _ _ h O)))))))))))))
  exact V (hK43 _ _ (A (zd hr h λhg55 h=>zo hg55 O (zm O (N (hK39 _ _ _ h O))))))
 exact bw (hK9 _ _ _ h O)
def aV (n:Nat) (p0:L):al (L):=
 al.bind (be n p0) λy1=>al.bind (eR y1.1 y1.2) λy2=>.ok (y2)
theorem bC (n:Nat) (p0:L):CT Tryz.prog 35 [.ptr 0 0] [.box (K p0)] (aV n p0) (λ_=>.gU []) (λx=>[.box (K x)]):=by
 exact zC Tryz.func35 O λr hp h hr E hE=>A (zm O (zm O (zk hp hr h [0] Tryz.call75 (cq n p0) O (λ_=>rfl) λy1 h=>zk hp hr h [0] Tryz.call77 (jw y1.1 y1.2) O (λ_=>rfl) λy2 h=>N (zY .nil h O))))
def bS (n:Nat) (p0:ByS) (p1:L):al (L):=
 al.bind (bK n p0 p1) λy2=>br (!y2.1) (al.bind (aV n y2.2) λy4=>.ok (y4)) (.ok (y2.2))
theorem dj (n:Nat) (p0:ByS) (p1:L):CT Tryz.prog 155 [.ptr 0 0,F p0] [.box (K p1)] (bS n p0 p1) (λ_=>.gU []) (λx=>[.box (K x)]):=by
 refine zC Tryz.func155 O λr hp h hr E hE=>D λ_ hK1=>A (zm O (zm O (zk hp hr h [0] Tryz.call76 (dD n p0 p1) O (λ_=>rfl) λy2 h=>J (fu O) O (zQ hK1 (zB O h (λ_ h=>?_) λ_ h=>?_)))))
 ·exact A (zm O (zk hp hr h [0] Tryz.call35 (bC n y2.2) O (λ_=>rfl) λy4 h=>N (zY .nil h O)))
 exact V (zY .nil h O)
def cg (n:Nat) (p0:ByS) (p1:L):al (L):=
 al.bind (ar n p1) λy2=>al.bind (bJ y2.1 p0) λy3=>br (!y3) (al.bind (aV n (L.mk y2.2.text y2.2.bd y2.2.at_ p1.base y2.2.skip y2.2.pending)) λy5=>.ok (y5)) (.ok ((L.mk y2.2.text y2.2.bd y2.2.at_ p1.base y2.2.skip y2.2.pending)))
theorem dS (n:Nat) (p0:ByS) (p1:L):CT Tryz.prog 202 [.ptr 0 0,F p0] [.box (K p1)] (cg n p0 p1) (λ_=>.gU []) (λx=>[.box (K x)]):=by
 refine zC Tryz.func202 O λr hp h hr E hE=>D λ_ hK1=>A (zm O (zk hp hr h [0] Tryz.call34 (aI n p1) O (λ_=>rfl) λy2 h=>zm O (zk hp hr h [] Tryz.call72 (cT y2.1 p0) O (λ_=>rfl) λy3 h=>J (fu O) O (zQ hK1 (zB O h (λ_ h=>?_) λ_ h=>?_)))))
 ·exact A (zm O (zk hp hr h [0] Tryz.call35 (bC n (L.mk y2.2.text y2.2.bd y2.2.at_ p1.base y2.2.skip y2.2.pending)) O (λ_=>rfl) λy5 h=>N (zY .nil h O)))
 exact V (zY .nil h O)
def bP (n:Nat) (p0:L):al (Bool×L):=
 gd (dY (p0.at_ - 1)) (iter (λnext6 (v5:Int)=>br (decide (v5>=0)) (el p0.bd v5 λAy=>br (Ay.Kind !=7) (el p0.bd v5 λG8=>el p0.bd p0.at_ λx23=>gd ((0:Int)<=G8.End/\(G8.End:Int)<=x23.Pos/\x23.Pos<=(List.length p0.text:Int)) (al.bind (strings_Contains (sub p0.text G8.End x23.Pos) ([10]:ByS)) λy28=>.ok (y28,p0))) (gd (dY (v5 - 1)) (next6 (v5 - 1)))) (.ok (true,p0))) n (p0.at_ - 1))
theorem jg (n:Nat) (p0:L):CT Tryz.prog 103 [.ptr 0 0] [.box (K p0)] (bP n p0) (λx=>Bo x.1) (λx=>[.box (K x.2)]):=by
 refine zC Tryz.func103 O λr hp h hr E hE=>D λ_ hK1=>A (za O (zQ hK1 (D λ_ hK2=>D λ_ hK3=>A (zm O (zn O (zf O (zl O (zd hr h λhg4 h=>J (rM O O hg4) O (za O (zQ hK3 (aE (zL hr h (λ(v5:Int)=>[(0,.ptr 0 0),(3,I v5)]) (λ(v5:Int)=>[(0,.box (K p0))]) O λ_ v5 _ hK7 h=>D λ_ hK8=>D λ_ hK9=>A (zm O (zc O (zQ hK9 (zB O h (λ_ h=>?_) λ_ h=>?_))))))))))))))))
 ·refine V (hK8 _ _ (D λ_ hK11=>aE (D λ_ hK12=>A (zm O (zn O (zf O (zl O (zm O (ze hr h λAy h14 h15 h16 h=>J (iF aB.y aB.bW h14 h15 h16 O O O) O (J (kO O O) O (J (gI O O) O (zc O (zQ hK12 (zB O h (λ_ h=>?_) λ_ h=>?_))))))))))))))
  ·refine D λ_ hK18=>bG [0,1,2,3,4,5,6,7,8,9,10,11,12,13,14,15,16,17,18,19,20,21,22,23,24,25] O (by kernel_rfl) (zD O (W O) O (zD O (dy O) O (zD O (o O) O (zD O (bb O O O) O (zD O (W O) O (zD O (dy O) O (zD O (o O) O (zD O (bb O O O) O (zD O (W O) O (ze hr h λG8 h20 h21 h22 h=>zD O (iF aB.y aB.bW h20 h21 h22 O O O) O (zD O (kO O O) O (zD O (gI O O) O (zD O (W O) O (zD O (dy O) O (zD O (o O) O (zD O (bb O O O) O (zD O (W O) O (zD O (dy O) O (zD O (o O) O (zD O (bb O O O) O (ze hr h λx23 h24 h25 h26 h=>zD O (iF aB.y aB.bW h24 h25 h26 O O O) O ?_)))))))))))))))))))));refine zD O (kO O O) O (zD O (gI O O) O (zd hr h λhg27 h=>zD O (wV O O O hg27.1 hg27.2.1 hg27.2.2) O (ej O (bV O) hr h [] Tryz.call94 (kq (sub p0.text G8.End x23.Pos) ([10]:ByS)) ⟨O,O,O,O,O,O,trivial⟩ O O (λ_=>O3) (λ_=>O2) hp (λy28 h=>⟨aK O,?_⟩))));exact gE O O O (aK O) O (cY (hK18 _ _ (H (z O h O))))
  exact V (hK11 _ _ (A (zm O (zd hr h λhg29 h=>J (rM O O hg29) O (za O (N (hK7 _ _ _ h O)))))))
 exact bw (hK2 _ _ (D λ_ hK30=>A (za O (zQ hK30 (H (z O h O))))))
def cw (p0:Int) (p1:L):al (aB×L):=
 gd (dY (p1.at_+p0)) (gd (dY ((List.length p1.bd:Int) - 1)) (el p1.bd (if (List.length p1.bd:Int) - 1<p1.at_+p0 then (List.length p1.bd:Int) - 1 else p1.at_+p0) λx5=>.ok (x5,p1)))
theorem fA (p0:Int) (p1:L):CT Tryz.prog 149 [.ptr 0 0,I p0] [.box (K p1)] (cw p0 p1) (λx=>.agg (gy x.1)) (λx=>[.box (K x.2)]):=by
 refine zC Tryz.func149 O λr hp h hr E hE=>D λ_ hK1=>A (aJ 104 (hE _ O) O4 O ?_);refine zQ hK1 (D λ_ hK2=>bG [0,1,2,3,4,5,6,7,8,9,10,11,12,13,14,15,16,17,18,19] O (by kernel_rfl) (zD O (W O) O (zD O (dy O) O (zD O (o O) O (zD O (bb O O O) O (zD O (W O) O (zD O (dy O) O (zD O (o O) O (zD O (bb O O O) O (zD O (W O) O (zd hr h λhg3 h=>zD O (mg O O hg3) O (zD O (W O) O (zD O (dy O) O (zD O (o O) O (zD O (bb O O O) O (zD O (cD O) O (zd hr h λhg4 h=>zD O (rM O O hg4) O (zD O (J0 O O) O (ze hr h λx5 h6 h7 h8 h=>zD O (iF aB.y aB.bW h6 h7 h8 O O O) O (zD O (ji O O) O ?_))))))))))))))))))));refine ck O O8 O (λe19 he=>⟨aK O,?_⟩);subst he;exact cY (hK2 _ _ (H (zX (.cons (aY O O O) .nil) h O)))
def bI (p0:aB) (p1:ByS):al (Bool):=
 br (p0.Kind==1) (.ok ((p0.Text==p1))) (.ok (false))
theorem iB (p0:aB) (p1:ByS):CT Tryz.prog 56 [.agg (gy p0),F p1] [] (bI p0 p1) (λx=>Bo x) (λ_=>[]):=by
 refine zC Tryz.func56 O λr hp h hr E hE=>D λ_ hK1=>A (eD 102 (hE _ O) O7 O ?_);refine za O (zQ hK1 (D λ_ hK2=>A (zf O (zl O (zc O (zm O (zb (p0.Kind==1) (λhb3=>?_) λhb3=>?_)))))))
 ·exact z1 hb3 h λh=>zG hb3 O (o O) (zG hb3 O (bb O O O) (zG hb3 O (W O) (zG hb3 O (jQ O O) (zy hb3 O (za O (zQ hK2 (H (z O h O))))))))
 exact z2 hb3 h λh=>zH 4 O hb3 (zw hb3 O (za O (zQ hK2 (H (z O h O)))))
def fj (n:Nat) (p0:L):al (Bool×L):=
 al.bind (ar n p0) λy4=>al.bind (bJ y4.1 ([91]:ByS)) λy5=>br (!y5) (.ok (false,(L.mk y4.2.text y4.2.bd y4.2.at_ p0.base y4.2.skip y4.2.pending))) (jn (λ(v9:L×Int)=>iter (λnext14 (v13:L×Int)=>al.bind (cw v13.2 v13.1) λy18=>br (y18.1.Kind==7) (gd (dY (v13.2+1)) (next14 (y18.2,v13.2+1))) (al.bind (cw v13.2 y18.2) λy22=>al.bind (bJ y22.1 ([93]:ByS)) λy23=>br y23 (gd (dY (v13.2+1)) (al.bind (cw (v13.2+1) y22.2) λy26=>al.bind (bJ y26.1 ([58]:ByS)) λy27=>.ok (y27,y26.2))) (.ok (false,y22.2)))) n (v9.1,v9.2)) λj10=>al.bind (cw 1 (L.mk y4.2.text y4.2.bd y4.2.at_ p0.base y4.2.skip y4.2.pending)) λy29=>al.bind (bI y29.1 ([115,116,114,105,110,103]:ByS)) λy30=>br (!y30) (al.bind (cw 1 y29.2) λy34=>al.bind (bJ y34.1 ([61,126]:ByS)) λy35=>br (!y35) (.ok (false,y34.2)) (al.bind (cw 2 y34.2) λy38=>br (y38.1.Kind !=3) (.ok (false,y38.2)) (j10 (y38.2,3)))) (j10 (y29.2,2)))
theorem pd (n:Nat) (p0:L):CT Tryz.prog 153 [.ptr 0 0] [.box (K p0)] (fj n p0) (λx=>Bo x.1) (λx=>[.box (K x.2)]):=by
 refine zC Tryz.func153 O λr hp h hr E hE=>D λ_ hK1=>A (za O (zQ hK1 (D λ_ hK2=>D λ_ hK3=>A (zm O (zk hp hr h [0] Tryz.call34 (aI n p0) O (λ_=>rfl) λy4 h=>zk hp hr h [] Tryz.call72 (cT y4.1 ([91]:ByS)) O (λ_=>rfl) λy5 h=>J (fu O) O (zQ hK3 (zB O h (λ_ h=>?_) λ_ h=>?_)))))))
 ·exact D λ_ hK7=>A (za O (zQ hK7 (H (z O h O))))
 refine V (hK2 _ _ (D λ_ hK8=>A (za O (zQ hK8 (zM h (λ(v9:L×Int)=>[(0,.ptr 0 0),(3,I v9.2)]) (λ(v9:L×Int)=>[(0,.box (K v9.1))]) (λv9 h=>?_) λ_ _ hK11 h=>?_)))))
 ·refine D λ_ hK12=>aE (zL hr h (λ(v13:L×Int)=>[(0,.ptr 0 0),(3,I v13.2)]) (λ(v13:L×Int)=>[(0,.box (K v13.1))]) O λ_ v13 _ hK15 h=>D λ_ hK16=>D λ_ hK17=>A (zm O (zm O (zk hp hr h [0] Tryz.call149 (fA v13.2 v13.1) O (λ_=>rfl) λy18 h=>J (k9 O O) O ?_))));refine zc O (zQ hK17 (zB O h (λ_ h=>?_) λ_ h=>?_))
  ·exact V (hK16 _ _ (aE (A (zm O (zd hr h λhg20 h=>zo hg20 O (za O (N (hK15 _ _ _ h O))))))))
  refine bw (hK12 _ _ (D λ_ hK21=>A (zm O (zm O (zk hp hr h [0] Tryz.call149 (fA v13.2 y18.2) O (λ_=>rfl) λy22 h=>zk hp hr h [] Tryz.call72 (cT y22.1 ([93]:ByS)) O (λ_=>rfl) λy23 h=>zm O (zb y23 (λhb24=>?_) λhb24=>?_))))))
  ·exact z1 hb24 h λh=>zG hb24 O (W O) (zG hb24 O (W O) (zd hr h λhg25 h=>zG hb24 O (mg O O hg25) (zK hb24 O hp hr h [0] Tryz.call149 (fA (v13.2+1) y22.2) O (λ_=>rfl) λy26 h=>zK hb24 O hp hr h [] Tryz.call72 (cT y26.1 ([58]:ByS)) O (λ_=>rfl) λy27 h=>zy hb24 O (za O (zQ hK21 (H (z O h O)))))))
  exact z2 hb24 h λh=>zH 5 O hb24 (zw hb24 O (za O (zQ hK21 (H (z O h O)))))
 refine D λ_ hK28=>A (zm O (zk hp hr h [0] Tryz.call149 (fA 1 (L.mk y4.2.text y4.2.bd y4.2.at_ p0.base y4.2.skip y4.2.pending)) O (λ_=>rfl) λy29 h=>zk hp hr h [] Tryz.call56 (iB y29.1 ([115,116,114,105,110,103]:ByS)) O (λ_=>rfl) λy30 h=>J (fu O) O (zQ hK28 (zB O h (λ_ h=>?_) λ_ h=>?_))))
 ·refine D λ_ hK32=>D λ_ hK33=>A (zm O (zk hp hr h [0] Tryz.call149 (fA 1 y29.2) O (λ_=>rfl) λy34 h=>zk hp hr h [] Tryz.call72 (cT y34.1 ([61,126]:ByS)) O (λ_=>rfl) λy35 h=>J (fu O) O (zm O (zb (!y35) (λhb36=>?_) λhb36=>?_))))
  ·refine z1 hb36 h λh=>zH 4 O hb36 (zy hb36 O (zQ hK33 (df O (λhc=>?_) (λhc=>?_))))
   ·exact D λ_ hK37=>A (za O (zQ hK37 (H (z O h O))))
   exact absurd (hc) (by simp)
  refine z2 hb36 h λh=>zG hb36 O (W O) (zK hb36 O hp hr h [0] Tryz.call149 (fA 2 y34.2) O (λ_=>rfl) λy38 h=>zG hb36 O (k9 O O) ?_);refine zG hb36 O (bq O O O) (zw hb36 O (zQ hK33 (zB O h (λ_ h=>?_) λ_ h=>?_)))
  ·exact D λ_ hK40=>A (za O (zQ hK40 (H (z O h O))))
  exact V (hK32 _ _ (A (za O (N (hK11 _ _ _ h O)))))
 exact V (hK11 _ _ _ h O)
def dc (n:Nat) (p0:ByS) (p1:L):al (L):=
 al.bind (ar n p1) λy3=>al.bind (bI y3.1 p0) λy4=>br (!y4) (al.bind (aV n (L.mk y3.2.text y3.2.bd y3.2.at_ p1.base y3.2.skip y3.2.pending)) λy6=>gd (dY (y6.at_+1)) (.ok ((L.mk y6.text y6.bd (y6.at_+1) y6.base y6.skip y6.pending)))) (gd (dY (y3.2.at_+1)) (.ok ((L.mk y3.2.text y3.2.bd (y3.2.at_+1) p1.base y3.2.skip y3.2.pending))))
theorem iN (n:Nat) (p0:ByS) (p1:L):CT Tryz.prog 158 [.ptr 0 0,F p0] [.box (K p1)] (dc n p0 p1) (λ_=>.gU []) (λx=>[.box (K x)]):=by
 refine zC Tryz.func158 O λr hp h hr E hE=>D λ_ hK1=>D λ_ hK2=>A (zm O (zk hp hr h [0] Tryz.call34 (aI n p1) O (λ_=>rfl) λy3 h=>zm O (zk hp hr h [] Tryz.call56 (iB y3.1 p0) O (λ_=>rfl) λy4 h=>J (fu O) O (zQ hK2 (zB O h (λ_ h=>?_) λ_ h=>?_)))))
 ·exact A (zm O (zk hp hr h [0] Tryz.call35 (bC n (L.mk y3.2.text y3.2.bd y3.2.at_ p1.base y3.2.skip y3.2.pending)) O (λ_=>rfl) λy6 h=>zQ hK1 (A (zm O (zn O (zf O (zl O (zd hr h λhg7 h=>zo hg7 O (zn O (zf O (zs O (N (zY .nil h O)))))))))))))
 exact V (hK1 _ _ (A (zm O (zn O (zf O (zl O (zd hr h λhg8 h=>zo hg8 O (zn O (zf O (zs O (N (zY .nil h O))))))))))))
def cx (n:Nat) (p0:L):al (ByS×L):=
 al.bind (ar n p0) λy3=>jn (λ(v4:L)=>gd (dY (v4.at_+1)) (.ok (y3.1.Text,(L.mk v4.text v4.bd (v4.at_+1) v4.base v4.skip v4.pending)))) λj5=>br (y3.1.Kind !=1) (al.bind (aV n (L.mk y3.2.text y3.2.bd y3.2.at_ p0.base y3.2.skip y3.2.pending)) λy12=>j5 (y12)) (al.bind (fv n y3.1.Text) λy13=>br (!y13) (al.bind (aV n (L.mk y3.2.text y3.2.bd y3.2.at_ p0.base y3.2.skip y3.2.pending)) λy15=>j5 (y15)) (j5 ((L.mk y3.2.text y3.2.bd y3.2.at_ p0.base y3.2.skip y3.2.pending))))
theorem gP (n:Nat) (p0:L):CT Tryz.prog 57 [.ptr 0 0] [.box (K p0)] (cx n p0) (λx=>F x.1) (λx=>[.box (K x.2)]):=by
 refine zC Tryz.func57 O λr hp h hr E hE=>D λ_ hK1=>A (za O (zQ hK1 (D λ_ hK2=>A (zm O (zk hp hr h [0] Tryz.call34 (aI n p0) O (λ_=>rfl) λy3 h=>aJ 103 (hE _ O) O4 O ?_)))));refine zs O (zQ hK2 (zM h (λ(v4:L)=>[(0,.ptr 0 0),(3,.ptr 103 0)]) (λ(v4:L)=>[(0,.box (K v4)),(103,.box (gy y3.1))]) (λv4 h=>?_) λ_ _ hK6 h=>?_))
 ·exact D λ_ hK7=>A (zm O (zn O (zf O (zl O (zd hr h λhg8 h=>zo hg8 O (zn O (zf O (zs O (zQ hK7 (D λ_ hK9=>A (zf O (zl O (za O (zQ hK9 (H (z O h O))))))))))))))))
 refine D λ_ hK10=>A (zf O (zl O (zc O (zm O (zb (y3.1.Kind !=1) (λhb11=>?_) λhb11=>?_)))))
 ·refine z1 hb11 h λh=>zH 4 O hb11 (zy hb11 O (zQ hK10 (df O (λhc=>?_) (λhc=>?_))))
  ·exact A (zm O (zk hp hr h [0] Tryz.call35 (bC n (L.mk y3.2.text y3.2.bd y3.2.at_ p0.base y3.2.skip y3.2.pending)) O (λ_=>rfl) λy12 h=>N (hK6 _ _ _ h O)))
  exact absurd (hc) (by simp)
 refine z2 hb11 h λh=>zG hb11 O (o O) (zG hb11 O (bb O O O) (zK hb11 O hp hr h [] Tryz.call62 (gY n y3.1.Text) O (λ_=>rfl) λy13 h=>zG hb11 O (fu O) (zw hb11 O (zQ hK10 (zB O h (λ_ h=>?_) λ_ h=>?_)))))
 ·exact A (zm O (zk hp hr h [0] Tryz.call35 (bC n (L.mk y3.2.text y3.2.bd y3.2.at_ p0.base y3.2.skip y3.2.pending)) O (λ_=>rfl) λy15 h=>N (hK6 _ _ _ h O)))
 exact V (hK6 _ _ _ h O)
def fL (n:Nat) (p0:L):al (iq×L):=
 al.bind (cx n p0) λy3=>al.bind (bS n ([44]:ByS) y3.2) λy5=>al.bind (be n y5) λy7=>al.bind (cx n y7.2) λy9=>br (y3.1==y9.1) (al.bind (eR y7.1 y9.2) λy13=>.ok ((iq.mk y3.1 y9.1),y13)) (.ok ((iq.mk y3.1 y9.1),y9.2))
theorem mN (n:Nat) (p0:L):CT Tryz.prog 157 [.ptr 0 0] [.box (K p0)] (fL n p0) (λx=>.agg [F x.1.x0,F x.1.x1]) (λx=>[.box (K x.2)]):=by
 refine zC Tryz.func157 O λr hp h hr E hE=>D λ_ hK1=>A (aJ 102 (hE _ O) O4 O ?_);refine zQ hK1 (D λ_ hK2=>A (zm O (zk hp hr h [0] Tryz.call57 (gP n p0) O (λ_=>rfl) λy3 h=>za O (zQ hK2 (D λ_ hK4=>A (zm O (zk hp hr h [0] Tryz.call155 (dj n ([44]:ByS) y3.2) O (λ_=>rfl) λy5 h=>zQ hK4 (D λ_ hK6=>A (zm O (zk hp hr h [0] Tryz.call75 (cq n y5) O (λ_=>rfl) λy7 h=>za O (zQ hK6 (D λ_ hK8=>A (zm O (zk hp hr h [0] Tryz.call57 (gP n y7.2) O (λ_=>rfl) λy9 h=>za O (zQ hK8 (D λ_ hK10=>?_))))))))))))))));refine D λ_ hK11=>A (zm O (zm O (J (jQ O O) O (zQ hK11 (zB O h (λ_ h=>?_) λ_ h=>?_)))))
 ·refine A (zm O (zm O (zk hp hr h [0] Tryz.call77 (jw y7.1 y9.2) O (λ_=>rfl) λy13 h=>zQ hK10 (D λ_ hK14=>A (zm O (zm O (J (bQ O O O) O ?_)))))));exact zs O (zQ hK14 (H (zX (.cons (aY O O O) .nil) h O)))
 refine V (hK10 _ _ (D λ_ hK15=>A (zm O (zm O (J (bQ O O O) O ?_)))));exact zs O (zQ hK15 (H (zX (.cons (aY O O O) .nil) h O)))
structure lN where
 ik:u->Int->al (Int)
def kJ (n:Nat) (T:lN) (p0:u) (p1:Int):al (Int):=
 br (decide (p1>16)) (.ok (9)) (jn (λ(_:Unit)=>jn (λ(_:Unit)=>iter (λnext16 (v15:Int)=>br (decide (v15<(List.length p0.bc:Int))) (el p0.bc v15 λx23=>gd (dY (p1+1)) (al.bind (T.ik x23 (p1+1)) λy29=>br (y29 !=0) (.ok (y29)) (gd (dY (v15+1)) (next16 (v15+1))))) (.ok (0))) n (0)) λj11=>jn (λ(v36:Bool)=>br v36 (br (decide ((List.length p0.bc:Int)<2)) (.ok (2)) (j11 ())) (br (p0.Kind==5) (br ((List.length p0.bc:Int) !=1) (.ok (2)) (j11 ())) (br ((List.length p0.bc:Int) !=0) (.ok (2)) (j11 ())))) λj37=>br (p0.Kind==3) (j37 ((p0.Kind==3))) (j37 ((p0.Kind==4)))) λj7=>br (decide (p0.Kind<0)) (.ok (11)) (br (decide (p0.Kind>5)) (.ok (11)) (br (p0.Kind !=2) (br (!([p0.GO,p0.GP,p0.GQ,p0.GS]==[0,0,0,0])) (.ok (11)) (j7 ())) (j7 ()))))
def jW:Nat->lN
 | 0=>⟨λ_ _=>.stuck⟩
 | n+1=>⟨kJ n (jW n)⟩
def ik (n:Nat) (p0:u) (p1:Int):al (Int):=(jW n).ik p0 p1
structure pz (T:lN):Prop where
 ik:∀ (p0:u) (p1:Int),CT Tryz.prog 241 [.agg (fq p0),I p1] [] (T.ik p0 p1) (λx=>I x) (λ_=>[])
theorem xi (n:Nat) (T:lN) (hT:pz T) (p0:u) (p1:Int):CT Tryz.prog 241 [.agg (fq p0),I p1] [] (kJ n T p0 p1) (λx=>I x) (λ_=>[]):=by
 refine zC Tryz.func241 O λr hp h hr E hE=>D λ_ hK1=>A (eD 102 (hE _ O) O7 O ?_);refine za O (zQ hK1 (D λ_ hK2=>D λ_ hK3=>A (zm O (zc O (zQ hK3 (zB O h (λ_ h=>?_) λ_ h=>?_))))))
 ·exact D λ_ hK5=>A (za O (zQ hK5 (H (z O h O))))
 refine V (hK2 _ _ (zM h (λ(v6:Unit)=>[(0,.agg (fq p0)),(1,I p1),(2,.ptr 102 0)]) (λ(v6:Unit)=>[(102,.box (fq p0))]) (λv6 h=>?_) λ_ _ hK8 h=>?_))
 ·refine D λ_ hK9=>A (zf O (zl O (J (cD O) O (za O (zQ hK9 (zM h (λ(v10:Unit)=>[(0,.agg (fq p0)),(1,I p1),(2,.ptr 102 0)]) (λ(v10:Unit)=>[(102,.box (fq p0))]) (λv10 h=>?_) λ_ _ hK12 h=>?_))))))
  ·refine D λ_ hK13=>D λ_ hK14=>A (zf O (zl O (J (cD O) O (zm O (zQ hK14 (aE (zL hr h (λ(v15:Int)=>[(0,.agg (fq p0)),(1,I p1),(47,.pv (.sl (List.length p0.bc) (u.Cs p0.bc))),(48,I (List.length p0.bc:Int)),(49,I v15)]) (λ(v15:Int)=>[]) O λ_ v15 _ hK17 h=>D λ_ hK18=>A (zc O (zQ hK18 (D λ_ hK19=>zB O h (λ_ h=>?_) λ_ h=>?_))))))))))
   ·refine V (hK19 _ _ (D λ_ hK21=>aE (D λ_ hK22=>A (ze hr h λx23 h24 h25 h26 h=>J (iF u.y u.bW h24 h25 h26 O O O) O (J (ji O O) O ?_)))));refine aJ 107 (hE _ O) O4 O ?_;refine zs O (zQ hK22 (D λ_ hK27=>A (zA O ?_)));refine zm O (zd hr h λhg28 h=>zo hg28 O (zk hp hr h [] Tryz.call241 (hT.ik x23 (p1+1)) O (λ_=>rfl) λy29 h=>za O (zQ hK27 (D λ_ hK30=>A (zm O (zc O (zQ hK30 (zB O h (λ_ h=>?_) λ_ h=>?_))))))))
    ·exact D λ_ hK32=>A (zm O (za O (zQ hK32 (H (z O h O)))))
    exact V (hK21 _ _ (A (zd hr h λhg33 h=>zo hg33 O (zm O (N (hK17 _ _ _ h O))))))
   exact bw (hK13 _ _ (D λ_ hK34=>A (za O (zQ hK34 (H (z O h O))))))
  refine D λ_ hK35=>A (zf O (zl O (zQ hK35 (aE (zM h (λ(v36:Bool)=>[(0,.agg (fq p0)),(1,I p1),(2,.ptr 102 0),(5,I (List.length p0.bc:Int)),(34,I p0.Kind),(37,Bo v36)]) (λ(v36:Bool)=>[(102,.box (fq p0))]) (λv36 h=>?_) λ_ _ hK38 h=>?_)))))
  ·refine zB O h (λ_ h=>?_) λ_ h=>?_
   ·refine D λ_ hK40=>A (zm O (zc O (zQ hK40 (zB O h (λ_ h=>?_) λ_ h=>?_))))
    ·exact D λ_ hK42=>A (za O (zQ hK42 (H (z O h O))))
    exact V (hK12 _ _ _ h O)
   refine D λ_ hK43=>A (zc O (za O (zQ hK43 (zB O h (λ_ h=>?_) λ_ h=>?_))))
   ·refine D λ_ hK45=>A (zm O (zc O (zQ hK45 (zB O h (λ_ h=>?_) λ_ h=>?_))))
    ·exact D λ_ hK47=>A (za O (zQ hK47 (H (z O h O))))
    exact V (hK12 _ _ _ h O)
   refine D λ_ hK48=>A (zm O (zc O (zQ hK48 (zB O h (λ_ h=>?_) λ_ h=>?_))))
   ·exact D λ_ hK50=>A (za O (zQ hK50 (H (z O h O))))
   exact V (hK12 _ _ _ h O)
  refine D λ_ hK51=>A (zc O (za O (zQ hK51 (zB O h (λ_ h=>?_) λ_ h=>?_))))
  ·exact V (hK38 _ _ _ h O)
  exact A (zc O (za O (N (hK38 _ _ _ h O))))
 refine D λ_ hK53=>A (zf O (zl O (zc O (zm O (zb (decide (p0.Kind<0)) (λhb54=>?_) λhb54=>?_)))))
 ·refine z1 hb54 h λh=>zH 3 O hb54 (zy hb54 O (zm O (zH 4 O O (zu O (zu O (zu O (zu O (zg O O (zt O (zQ hK53 (df O (λhc=>?_) (λhc=>?_))))))))))))
  ·exact D λ_ hK55=>A (za O (zQ hK55 (H (z O h O))))
  exact absurd (hc) (by simp)
 refine z2 hb54 h λh=>zG hb54 O (o O) (zG hb54 O (bb O O O) (zG hb54 O (bq O O O) (zw hb54 O (zm O (zb (decide (p0.Kind>5)) (λhb56=>?_) λhb56=>?_)))))
 ·refine z1 hb56 h λh=>zH 4 O hb56 (zu O (zu O (zu O (zu O (zg hb56 O (zy hb56 O (zQ hK53 (df O (λhc=>?_) (λhc=>?_)))))))))
  ·exact D λ_ hK57=>A (za O (zQ hK57 (H (z O h O))))
  exact absurd (hc) (by simp)
 refine z2 hb56 h λh=>zG hb56 O (o O) (zG hb56 O (bb O O O) (zG hb56 O (bq O O O) (zG hb56 O (W O) (zb (p0.Kind !=2) (λhb58=>?_) λhb58=>?_))))
 ·refine z1 hb58 h λh=>zG hb58 O (o O) (zG hb58 O (kj O O O O) ?_);refine zG hb58 O (bQ O O O) ?_;refine zG hb58 O (Jg O O) (zG hb56 O (dU hb58 O O) (zw hb56 O (zQ hK53 (zB O h (λ_ h=>?_) λ_ h=>?_))))
  ·exact D λ_ hK60=>A (za O (zQ hK60 (H (z O h O))))
  exact V (hK8 _ _ _ h O)
 refine z2 hb58 h λh=>zH 4 O hb58 (zG hb56 O (dJ hb58 O O) (zw hb56 O (zQ hK53 (df O (λhc=>?_) (λhc=>?_)))))
 ·exact absurd (hc) (by simp)
 exact V (hK8 _ _ _ h O)
theorem n5:∀ n,pz (jW n)
 | 0=>⟨λ_ _=>cM⟩
 | n+1=>⟨λp0 p1=>xi n _ (n5 n) p0 p1⟩
theorem xX (n:Nat) (p0:u) (p1:Int):CT Tryz.prog 241 [.agg (fq p0),I p1] [] (ik n p0 p1) (λx=>I x) (λ_=>[]):=(n5 n).ik p0 p1
def sM (n:Nat) (p0:u):al (Int):=
 al.bind (ik n p0 1) λy3=>.ok (y3)
theorem xY (n:Nat) (p0:u):CT Tryz.prog 208 [.agg (fq p0)] [] (sM n p0) (λx=>I x) (λ_=>[]):=by
 refine zC Tryz.func208 O λr hp h hr E hE=>D λ_ hK1=>A (eD 101 (hE _ O) O7 O ?_);refine za O (zQ hK1 (D λ_ hK2=>A (zA O ?_)));exact zk hp hr h [] Tryz.call241 (xX n p0 1) O (λ_=>rfl) λy3 h=>za O (zQ hK2 (H (z O h O)))
def mw (v:Int):al (u×dz):=
 .ok ((u.mk 0 0 0 0 0 []),(dz.mk 8 v))
theorem lC (v:Int):Dj Tryz.prog 205 [.ptr 0 0,.ptr 1 0,.ptr 2 0] [.box [.ptr 3 0],.box [.any,.any,.any,.any,.any,.any],.box [.any,.any],.box [.any,.any]] (some (.iface 202 (.agg #[.int .i64 v]))) (mw v) (λx=>[.box [.ptr 3 0],.box (fq x.1),.box [I x.2.Errno,I x.2.At],.box [.any,.any]]):=by
 refine nt (m:=some (.iface 202 (.agg #[.int .i64 v]))) (mv:=.mI 202 (.agg [I v])) (λg=>.mI 202 (.agg (.cons (.pv (.sc _)) .nil))) Tryz.func205 O O O λr h hr E hE=>?_;refine D λ_ hK1=>A (zm O (J (vn O O) O (zQ hK1 (df O (λhc=>?_) (λhc=>?_)))))
 ·refine D λ_ hK2=>A (J (dT O O) O ?_);refine zl O (zn O (zf O (J (I8 O O O) O (J (bQ O O O) O ?_))));refine zs O (zs O (zQ hK2 (D λ_ hK3=>A (zm O (J (Ic O) O (zm O (zx O (zx O (aJ 104 (hE _ O) O4 O ?_)))))))));refine zs O (za O (zQ hK3 (D λ_ hK4=>A (zm O (zQ hK4 (df O (λhc=>?_) (λhc=>?_)))))))
  ·refine A (zf O (zl O (zf O (zs O (aX (kg 1 O O) ?_)))));exact N (th (.inr O) _ h.symm ⟨O,O,O,O,trivial⟩)
  exact absurd (hc) (by simp)
 exact absurd (hc) (by simp)
theorem mO (es:List M):Dj Tryz.prog 205 [.ptr 0 0,.ptr 1 0,.ptr 2 0] es none (al.ok ()) (λ_=>es):=by
 refine nt (m:=none) (mv:=Sc .nilIface) (λg=>.pv (.sc _)) Tryz.func205 O O O λr h hr E hE=>?_;refine D λ_ hK1=>A (zm O (J (vo O) O (zQ hK1 (df O (λhc=>?_) (λhc=>?_)))))
 ·exact absurd (hc) (by simp)
 exact V (pr h)
def lU (p0:Int) (p1:(List u)):al (u):=
 br ((List.length p1:Int)==1) (el p1 0 λx6=>.ok (x6)) (.ok ((u.mk p0 0 0 0 0 p1)))
theorem ov (p0:Int) (p1:(List u)):CT Tryz.prog 240 [I p0,.pv (.sl (List.length p1) (u.Cs p1))] [] (lU p0 p1) (λx=>.agg (fq x)) (λ_=>[]):=by
 refine zC Tryz.func240 O λr hp h hr E hE=>D λ_ hK1=>A (aJ 104 (hE _ O) O4 O ?_);refine zQ hK1 (D λ_ hK2=>D λ_ hK3=>A (zm O (J (cD O) O (zc O (zQ hK3 (zB O h (λ_ h=>?_) λ_ h=>?_))))))
 ·refine D λ_ hK5=>A (zm O (ze hr h λx6 h7 h8 h9 h=>J (iF u.y u.bW h7 h8 h9 O O O) O (J (ji O O) O ?_)));exact zs O (zQ hK5 (H (zX (.cons (aY O O O) .nil) h O)))
 refine V (hK2 _ _ (D λ_ hK10=>A (zm O (zm O (J (bQ O O O) O ?_)))));exact zs O (zQ hK10 (H (zX (.cons (aY O O O) .nil) h O)))
def ib (n:Nat) (p0:Int) (p1:Int):al (gb):=
 iter (λnext6 (v5:gb×Int)=>br (decide (v5.2<256)) (jn (λ(v13:Bool)=>br v13 (gd ((64:Int)≠0) (gd ((0:Int)<=(IntKind.wrap .i64 (Int.tdiv v5.2 64))/\(IntKind.wrap .i64 (Int.tdiv v5.2 64))<4) (gd ((64:Int)≠0) (gd ((0:Int)<=(Int.tmod v5.2 64)) (gd ((0:Int)<=(IntKind.wrap .i64 (Int.tdiv v5.2 64))/\(IntKind.wrap .i64 (Int.tdiv v5.2 64))<4) (gd (dY (v5.2+1)) (next6 ((gb.mk (jt (sD [v5.1.x0,v5.1.x1,v5.1.x2,v5.1.x3] (IntKind.wrap .i64 (Int.tdiv v5.2 64)) (yz .u64 (jt [v5.1.x0,v5.1.x1,v5.1.x2,v5.1.x3] (IntKind.wrap .i64 (Int.tdiv v5.2 64))) (oS .u64 1 (Int.tmod v5.2 64)))) 0) (jt (sD [v5.1.x0,v5.1.x1,v5.1.x2,v5.1.x3] (IntKind.wrap .i64 (Int.tdiv v5.2 64)) (yz .u64 (jt [v5.1.x0,v5.1.x1,v5.1.x2,v5.1.x3] (IntKind.wrap .i64 (Int.tdiv v5.2 64))) (oS .u64 1 (Int.tmod v5.2 64)))) 1) (jt (sD [v5.1.x0,v5.1.x1,v5.1.x2,v5.1.x3] (IntKind.wrap .i64 (Int.tdiv v5.2 64)) (yz .u64 (jt [v5.1.x0,v5.1.x1,v5.1.x2,v5.1.x3] (IntKind.wrap .i64 (Int.tdiv v5.2 64))) (oS .u64 1 (Int.tmod v5.2 64)))) 2) (jt (sD [v5.1.x0,v5.1.x1,v5.1.x2,v5.1.x3] (IntKind.wrap .i64 (Int.tdiv v5.2 64)) (yz .u64 (jt [v5.1.x0,v5.1.x1,v5.1.x2,v5.1.x3] (IntKind.wrap .i64 (Int.tdiv v5.2 64))) (oS .u64 1 (Int.tmod v5.2 64)))) 3)),v5.2+1)))))))) (gd (dY (v5.2+1)) (next6 (v5.1,v5.2+1)))) λj14=>br (decide (v5.2>=(IntKind.wrap .i64 p0))) (j14 ((decide (v5.2<=(IntKind.wrap .i64 p1))))) (j14 (false))) (.ok (v5.1))) n ((gb.mk 0 0 0 0),0)
theorem ic (n:Nat) (p0:Int) (p1:Int):CT Tryz.prog 292 [Sc (.int .u8 p0),Sc (.int .u8 p1)] [] (ib n p0 p1) (λx=>.agg (jv x)) (λ_=>[]):=by
 refine zC Tryz.func292 O λr hp h hr E hE=>D λ_ hK1=>A (aJ 104 (hE _ O) O4 O ?_);refine zQ hK1 (D λ_ hK2=>A (aJ 105 (hE _ O) O4 O ?_));refine zQ hK2 (D λ_ hK3=>D λ_ hK4=>A (zm O (zQ hK4 (aE (zL hr h (λ(v5:gb×Int)=>[(0,Sc (.int .u8 p0)),(1,Sc (.int .u8 p1)),(4,.ptr 104 0),(5,.ptr 105 0),(7,I v5.2)]) (λ(v5:gb×Int)=>[(104,.box [Sc (.int .u64 0),Sc (.int .u64 0),Sc (.int .u64 0),Sc (.int .u64 0)]),(105,.box (jv v5.1))]) O λ_ v5 _ hK7 h=>D λ_ hK8=>A (zc O (zQ hK8 (D λ_ hK9=>zB O h (λ_ h=>?_) λ_ h=>?_))))))))
 ·refine V (hK9 _ _ (D λ_ hK11=>aE (D λ_ hK12=>A (zm O (za O (zQ hK12 (zM h (λ(v13:Bool)=>[(0,Sc (.int .u8 p0)),(1,Sc (.int .u8 p1)),(4,.ptr 104 0),(5,.ptr 105 0),(6,I v5.2),(7,I v5.2),(19,Bo v13)]) (λ(v13:Bool)=>[(104,.box [Sc (.int .u64 0),Sc (.int .u64 0),Sc (.int .u64 0),Sc (.int .u64 0)]),(105,.box (jv v5.1))]) (λv13 h=>?_) λ_ _ hK15 h=>?_)))))))
  ·refine zB O h (λ_ h=>?_) λ_ h=>?_
   ·refine bG [0,1,2,3,4,5,6,7,8,9] O (by kernel_rfl) (zD O (W O) O (zd hr h λhg17 h=>zD O (BS O O hg17) O (zd hr h λhg18 h=>zD O (js O O hg18.1 hg18.2) O (zD O (zS (λx=>Sc (.int .u64 x)) (xs:=[v5.1.x0,v5.1.x1,v5.1.x2,v5.1.x3]) O O O hg18.1 hg18.2) O (zD O (W O) O (zd hr h λhg19 h=>zD O (Ez O O hg19) O (zd hr h λhg20 h=>zD O (zR O O hg20) O (zD O (A1 O O) O (zd hr h λhg21 h=>zD O (js O O hg21.1 hg21.2) O (CR (λx=>Sc (.int .u64 x)) O (xs:=[v5.1.x0,v5.1.x1,v5.1.x2,v5.1.x3]) O O O O hg21.1 hg21.2 (λ_=>O2) (I6 _ (by simp[sD])) O ⟨aK O,?_⟩))))))))));exact cY (hK11 _ _ (A (zd hr h λhg22 h=>zo hg22 O (zm O (N (hK7 _ _ _ h O))))))
   exact V (hK11 _ _ (A (zd hr h λhg23 h=>zo hg23 O (zm O (N (hK7 _ _ _ h O))))))
  refine A (zm O (zm O (J (nb O) O (zc O (zm O (zb (decide (v5.2>=(IntKind.wrap .i64 p0))) (λhb24=>?_) λhb24=>?_))))))
  ·exact z1 hb24 h λh=>zG hb24 O (W O) (zG hb24 O (W O) (zG hb24 O (nb O) (zG hb24 O (bq O O O) (zy hb24 O (N (hK15 _ _ _ h O))))))
  exact z2 hb24 h λh=>zH 4 O hb24 (zw hb24 O (N (hK15 _ _ _ h O)))
 refine bw (hK3 _ _ (D λ_ hK25=>A (zA O ?_)));exact zs O (zQ hK25 (H (zX (.cons (aY O O O) .nil) h O)))
def jE (n:Nat) (p0:gb) (p1:gb):al (gb):=
 iter (λnext5 (v4:gb×Int)=>br (decide (v4.2<4)) (gd ((0:Int)<=v4.2/\v4.2<4) (gd ((0:Int)<=v4.2/\v4.2<4) (gd ((0:Int)<=v4.2/\v4.2<4) (gd (dY (v4.2+1)) (next5 ((gb.mk (jt (sD [v4.1.x0,v4.1.x1,v4.1.x2,v4.1.x3] v4.2 (yz .u64 (jt [v4.1.x0,v4.1.x1,v4.1.x2,v4.1.x3] v4.2) (jt [p1.x0,p1.x1,p1.x2,p1.x3] v4.2))) 0) (jt (sD [v4.1.x0,v4.1.x1,v4.1.x2,v4.1.x3] v4.2 (yz .u64 (jt [v4.1.x0,v4.1.x1,v4.1.x2,v4.1.x3] v4.2) (jt [p1.x0,p1.x1,p1.x2,p1.x3] v4.2))) 1) (jt (sD [v4.1.x0,v4.1.x1,v4.1.x2,v4.1.x3] v4.2 (yz .u64 (jt [v4.1.x0,v4.1.x1,v4.1.x2,v4.1.x3] v4.2) (jt [p1.x0,p1.x1,p1.x2,p1.x3] v4.2))) 2) (jt (sD [v4.1.x0,v4.1.x1,v4.1.x2,v4.1.x3] v4.2 (yz .u64 (jt [v4.1.x0,v4.1.x1,v4.1.x2,v4.1.x3] v4.2) (jt [p1.x0,p1.x1,p1.x2,p1.x3] v4.2))) 3)),v4.2+1)))))) (.ok (v4.1))) n (p0,0)
theorem kr (n:Nat) (p0:gb) (p1:gb):CT Tryz.prog 310 [.agg (jv p0),.agg (jv p1)] [] (jE n p0 p1) (λx=>.agg (jv x)) (λ_=>[]):=by
 refine zC Tryz.func310 O λr hp h hr E hE=>D λ_ hK1=>A (eD 102 (hE _ O) O7 O ?_);refine eD 103 (hE _ O) O7 O ?_;refine aJ 104 (hE _ O) O4 O ?_;refine zQ hK1 (D λ_ hK2=>D λ_ hK3=>A (zm O (zQ hK3 (aE (zL hr h (λ(v4:gb×Int)=>[(0,.agg (jv p0)),(1,.agg (jv p1)),(2,.ptr 102 0),(3,.ptr 103 0),(4,.ptr 104 0),(6,I v4.2)]) (λ(v4:gb×Int)=>[(102,.box (jv v4.1)),(103,.box (jv p1)),(104,.box [Sc (.int .u64 0),Sc (.int .u64 0),Sc (.int .u64 0),Sc (.int .u64 0)])]) O λ_ v4 _ hK6 h=>D λ_ hK7=>A (zc O (zQ hK7 (D λ_ hK8=>zB O h (λ_ h=>?_) λ_ h=>?_))))))))
 ·refine V (hK8 _ _ (D λ_ hK10=>aE (D λ_ hK11=>A (zm O (za O (zQ hK11 (bG [0,1,2,3,4,5,6,7,8] O (by kernel_rfl) (zD O (W O) O (zd hr h λhg12 h=>zD O (js O O hg12.1 hg12.2) O (zD O (zS (λx=>Sc (.int .u64 x)) (xs:=[v4.1.x0,v4.1.x1,v4.1.x2,v4.1.x3]) O O O hg12.1 hg12.2) O (zD O (W O) O (zd hr h λhg13 h=>zD O (js O O hg13.1 hg13.2) O (zD O (zS (λx=>Sc (.int .u64 x)) (xs:=[p1.x0,p1.x1,p1.x2,p1.x3]) O O O hg13.1 hg13.2) O (zD O (A1 O O) O (zd hr h λhg14 h=>zD O (js O O hg14.1 hg14.2) O (CR (λx=>Sc (.int .u64 x)) O (xs:=[v4.1.x0,v4.1.x1,v4.1.x2,v4.1.x3]) O O O O hg14.1 hg14.2 (λ_=>O2) (I6 _ (by simp[sD])) O ⟨aK O,?_⟩))))))))))))))));exact cY (hK10 _ _ (A (zd hr h λhg15 h=>zo hg15 O (zm O (N (hK6 _ _ _ h O))))))
 refine bw (hK2 _ _ (D λ_ hK16=>A (zA O ?_)));exact zs O (zQ hK16 (H (zX (.cons (aY O O O) .nil) h O)))
def pA (n:Nat) (p0:Int):al (gb×Bool):=
 al.bind (ib n 48 57) λy3=>br (p0==100) (.ok (y3,true)) (br (p0==119) (al.bind (ib n 97 122) λy12=>al.bind (ib n 65 90) λy13=>al.bind (jE n y12 y13) λy14=>al.bind (jE n y3 y14) λy16=>al.bind (ib n 95 95) λy17=>al.bind (jE n y16 y17) λy18=>.ok (y18,true)) (br (p0==115) (al.bind (ib n 9 10) λy22=>al.bind (ib n 13 13) λy23=>al.bind (jE n y22 y23) λy24=>al.bind (ib n 32 32) λy25=>al.bind (jE n y24 y25) λy26=>.ok (y26,true)) (.ok ((gb.mk 0 0 0 0),false))))
theorem xZ (n:Nat) (p0:Int):CT Tryz.prog 293 [Sc (.int .u8 p0)] [] (pA n p0) (λx=>.gU [.agg (jv x.1),Bo x.2]) (λ_=>[]):=by
 refine zC Tryz.func293 O λr hp h hr E hE=>D λ_ hK1=>A (aJ 102 (hE _ O) O4 O ?_);refine za O (zQ hK1 (D λ_ hK2=>A (zk hp hr h [] Tryz.call292 (ic n 48 57) O (λ_=>rfl) λy3 h=>aJ 104 (hE _ O) O4 O ?_)));refine zs O (zQ hK2 (D λ_ hK4=>D λ_ hK5=>A (zm O (zQ hK5 (aE (D λ_ hK6=>A (zc O (za O (zQ hK6 (zB O h (λ_ h=>?_) λ_ h=>?_))))))))))
 ·refine D λ_ hK8=>A (zA O ?_);exact zs O (za O (zQ hK8 (H (zX (.cons (aY O O O) (.cons (bp O) .nil)) h O))))
 refine D λ_ hK9=>A (zc O (za O (zQ hK9 (zB O h (λ_ h=>?_) λ_ h=>?_))))
 ·refine D λ_ hK11=>A (zk hp hr h [] Tryz.call292 (ic n 97 122) O (λ_=>rfl) λy12 h=>zk hp hr h [] Tryz.call292 (ic n 65 90) O (λ_=>rfl) λy13 h=>zk hp hr h [] Tryz.call310 (kr n y12 y13) O (λ_=>rfl) λy14 h=>aJ 105 (hE _ O) O4 O ?_);refine zs O (zQ hK11 (D λ_ hK15=>A (zA O ?_)));refine zA O ?_;exact zk hp hr h [] Tryz.call310 (kr n y3 y14) O (λ_=>rfl) λy16 h=>zk hp hr h [] Tryz.call292 (ic n 95 95) O (λ_=>rfl) λy17 h=>zk hp hr h [] Tryz.call310 (kr n y16 y17) O (λ_=>rfl) λy18 h=>zs O (za O (zQ hK15 (H (zX (.cons (aY O O O) (.cons (bp O) .nil)) h O))))
 refine D λ_ hK19=>A (zc O (za O (zQ hK19 (zB O h (λ_ h=>?_) λ_ h=>?_))))
 ·exact D λ_ hK21=>A (zk hp hr h [] Tryz.call292 (ic n 9 10) O (λ_=>rfl) λy22 h=>zk hp hr h [] Tryz.call292 (ic n 13 13) O (λ_=>rfl) λy23 h=>zk hp hr h [] Tryz.call310 (kr n y22 y23) O (λ_=>rfl) λy24 h=>zk hp hr h [] Tryz.call292 (ic n 32 32) O (λ_=>rfl) λy25 h=>zk hp hr h [] Tryz.call310 (kr n y24 y25) O (λ_=>rfl) λy26 h=>zs O (za O (zQ hK21 (H (zX (.cons (aY O O O) (.cons (bp O) .nil)) h O)))))
 refine V (hK4 _ _ (D λ_ hK27=>A (J (bQ O O O) O ?_)));exact zs O (za O (zQ hK27 (H (zX (.cons (aY O O O) (.cons (bp O) .nil)) h O))))
def oJ (n:Nat) (p0:Int):al (u):=
 al.bind (ib n p0 p0) λy3=>.ok ((u.mk 2 y3.x0 y3.x1 y3.x2 y3.x3 []))
theorem sN (n:Nat) (p0:Int):CT Tryz.prog 294 [Sc (.int .u8 p0)] [] (oJ n p0) (λx=>.agg (fq x)) (λ_=>[]):=by
 refine zC Tryz.func294 O λr hp h hr E hE=>D λ_ hK1=>A (aJ 102 (hE _ O) O4 O ?_);refine zQ hK1 (D λ_ hK2=>A (zm O (zm O (zk hp hr h [] Tryz.call292 (ic n p0 p0) O (λ_=>rfl) λy3 h=>J (dT O O) O ?_))));refine zs O (zQ hK2 (ca (kg 102 O O) ?_));exact H (zX (.cons (aY O O O) .nil) h O)
def dK (p0:Int) (_:R):al (R):=
 .kA ⟨202,[.sc (.int .i64 p0)]⟩
theorem eu (p0:Int) (p1:R):CT Tryz.prog 207 [.ptr 0 0,I p0] [.box (aL p1)] (dK p0 p1) (λ_=>.gU []) (λx=>[.box (aL x)]):=by
 refine zC Tryz.func207 O λr hp h hr E hE=>A (zm O (J (bQ O O O) O ?_));refine J (ql O) O ?_;exact En ⟨202,[.sc (.int .i64 p0)]⟩ O (zO (P:=Tryz.prog) (fn:=Tryz.f207) O h.symm)
def pE (p0:Int):al (Int×Bool):=
 jn (λ(v3:Bool)=>br v3 (.ok (IntKind.wrap .u8 (p0 - 48),true)) (jn (λ(v8:Bool)=>br v8 (.ok (IntKind.wrap .u8 ((IntKind.wrap .u8 (p0 - 97))+10),true)) (br (decide (p0>=65)) (br (decide (p0<=70)) (.ok (IntKind.wrap .u8 ((IntKind.wrap .u8 (p0 - 65))+10),true)) (.ok (0,false))) (.ok (0,false)))) λj9=>br (decide (p0>=97)) (j9 ((decide (p0<=102)))) (j9 (false)))) λj4=>br (decide (p0>=48)) (j4 ((decide (p0<=57)))) (j4 (false))
theorem x7 (p0:Int):CT Tryz.prog 318 [Sc (.int .u8 p0)] [] (pE p0) (λx=>.gU [Sc (.int .u8 x.1),Bo x.2]) (λ_=>[]):=by
 refine zC Tryz.func318 O λr hp h hr E hE=>D λ_ hK1=>A (za O (za O (zQ hK1 (D λ_ hK2=>aE (zM h (λ(v3:Bool)=>[(0,Sc (.int .u8 p0)),(4,Bo v3)]) (λ(v3:Bool)=>[]) (λv3 h=>?_) λ_ _ hK5 h=>?_)))))
 ·refine zB O h (λ_ h=>?_) λ_ h=>?_
  ·exact D λ_ hK7=>A (zm O (J (vj O O) O (za O (za O (zQ hK7 (H (zX (.cons (bp O) (.cons (bp O) .nil)) h O)))))))
  refine zM h (λ(v8:Bool)=>[(0,Sc (.int .u8 p0)),(13,Bo v8)]) (λ(v8:Bool)=>[]) (λv8 h=>?_) λ_ _ hK10 h=>?_
  ·refine zB O h (λ_ h=>?_) λ_ h=>?_
   ·exact D λ_ hK12=>A (zm O (J (vj O O) O (J (jS O O) O (za O (za O (zQ hK12 (H (zX (.cons (bp O) (.cons (bp O) .nil)) h O))))))))
   refine D λ_ hK13=>A (zm O (zc O (zm O (zb (decide (p0>=65)) (λhb14=>?_) λhb14=>?_))))
   ·refine z1 hb14 h λh=>zG hb14 O (W O) (zG hb14 O (bq O O O) (zy hb14 O (za O (zQ hK13 (zB O h (λ_ h=>?_) λ_ h=>?_)))))
    ·exact D λ_ hK16=>A (zm O (J (vj O O) O (J (jS O O) O (za O (za O (zQ hK16 (H (zX (.cons (bp O) (.cons (bp O) .nil)) h O))))))))
    exact V (hK2 _ _ (D λ_ hK17=>A (za O (za O (zQ hK17 (H (zX (.cons (bp O) (.cons (bp O) .nil)) h O)))))))
   refine z2 hb14 h λh=>zH 2 O hb14 (zw hb14 O (za O (zQ hK13 (df O (λhc=>?_) (λhc=>?_)))))
   ·exact absurd (hc) (by simp)
   exact V (hK2 _ _ (D λ_ hK18=>A (za O (za O (zQ hK18 (H (zX (.cons (bp O) (.cons (bp O) .nil)) h O)))))))
  refine A (zm O (zc O (zm O (zb (decide (p0>=97)) (λhb19=>?_) λhb19=>?_))))
  ·exact z1 hb19 h λh=>zG hb19 O (W O) (zG hb19 O (bq O O O) (zy hb19 O (za O (N (hK10 _ _ _ h O)))))
  exact z2 hb19 h λh=>zH 2 O hb19 (zw hb19 O (za O (N (hK10 _ _ _ h O))))
 refine A (zm O (zc O (zm O (zb (decide (p0>=48)) (λhb20=>?_) λhb20=>?_))))
 ·exact z1 hb20 h λh=>zG hb20 O (W O) (zG hb20 O (bq O O O) (zy hb20 O (za O (N (hK5 _ _ _ h O)))))
 exact z2 hb20 h λh=>zH 2 O hb20 (zw hb20 O (za O (N (hK5 _ _ _ h O))))
def cN (p0:R):al (Int×R):=
 br (decide (p0.at_<(List.length p0.text:Int))) (el p0.text p0.at_ λb6=>.ok ((b6.toNat:Int),p0)) (.ok (0,p0))
theorem cX (p0:R):CT Tryz.prog 239 [.ptr 0 0] [.box (aL p0)] (cN p0) (λx=>Sc (.int .u8 x.1)) (λx=>[.box (aL x.2)]):=by
 refine zC Tryz.func239 O λr hp h hr E hE=>D λ_ hK1=>A (za O (zQ hK1 (D λ_ hK2=>D λ_ hK3=>bG [0,1,2,3,4,5,6,7,8,9] O (by kernel_rfl) (zD O (W O) O (zD O (dy O) O (zD O (o O) O (zD O (bb O O O) O (zD O (W O) O (zD O (dy O) O (zD O (o O) O (zD O (bb O O O) O (zD O (dC O) O (zD O (bq O O O) O (cY (hK3 _ _ (zB O h (λ_ h=>?_) λ_ h=>?_))))))))))))))))
 ·exact D λ_ hK5=>bG [0,1,2,3,4,5,6,7,8,9] O (by kernel_rfl) (zD O (W O) O (zD O (dy O) O (zD O (o O) O (zD O (bb O O O) O (zD O (W O) O (zD O (dy O) O (zD O (o O) O (zD O (bb O O O) O (ze hr h λb6 h7 h8 h9 h=>zD O (eK O O h7 h9) O (gE O O O (aK O) O (cY (hK5 _ _ (H (z O h O))))))))))))))
 exact V (hK2 _ _ (D λ_ hK10=>A (za O (zQ hK10 (H (z O h O))))))
def iC (n:Nat) (p0:Int) (p1:R):al (Int×R):=
 iter (λnext6 (v5:R×Int×Int)=>br (decide (v5.2.2<2)) (gd ((0:Int)<=v5.2.2/\v5.2.2<2) (gd (dY (v5.1.at_+1)) (al.bind (cN (R.mk v5.1.text (v5.1.at_+1))) λy17=>al.bind (pE y17.1) λy18=>gd ((0:Int)<=4) (jn (λ(v21:Bool)=>br v21 (al.bind (dK y17.2.at_ y17.2) λy25=>gd (dY (v5.2.2+1)) (next6 (y25,yz .u8 (oS .u8 v5.2.1 4) y18.1,v5.2.2+1))) (gd (dY (v5.2.2+1)) (next6 (y17.2,yz .u8 (oS .u8 v5.2.1 4) y18.1,v5.2.2+1)))) λj22=>br (!y18.2) (j22 (true)) (br (decide ((jt [15,0] v5.2.2)>0)) (gd ((0:Int)<=4) (br (decide ((yz .u8 (oS .u8 (yz .u8 (oS .u8 v5.2.1 4) y18.1) 4) (jt [15,0] v5.2.2))<p0)) (j22 (true)) (br ((jt [15,0] v5.2.2)==0) (j22 ((decide ((yz .u8 (oS .u8 v5.2.1 4) y18.1)<p0)))) (j22 (false))))) (br ((jt [15,0] v5.2.2)==0) (j22 ((decide ((yz .u8 (oS .u8 v5.2.1 4) y18.1)<p0)))) (j22 (false)))))))) (gd (dY (v5.1.at_+1)) (.ok (v5.2.1,(R.mk v5.1.text (v5.1.at_+1)))))) n (p1,0,0)
theorem oU (n:Nat) (p0:Int) (p1:R):CT Tryz.prog 312 [.ptr 0 0,Sc (.int .u8 p0)] [.box (aL p1)] (iC n p0 p1) (λx=>Sc (.int .u8 x.1)) (λx=>[.box (aL x.2)]):=by
 refine zC Tryz.func312 O λr hp h hr E hE=>D λ_ hK1=>A (za O (zQ hK1 (D λ_ hK2=>A (za O (zQ hK2 (D λ_ hK3=>D λ_ hK4=>A (J (bQ O O O) O ?_)))))));refine zm O (zQ hK4 (aE (zL hr h (λ(v5:R×Int×Int)=>[(0,.ptr 0 0),(1,Sc (.int .u8 p0)),(5,Sc (.int .u8 v5.2.1)),(10,.agg [Sc (.int .u8 15),Sc (.int .u8 0)]),(11,I v5.2.2)]) (λ(v5:R×Int×Int)=>[(0,.box (aL v5.1))]) O λ_ v5 _ hK7 h=>D λ_ hK8=>A (zc O (zQ hK8 (D λ_ hK9=>zB O h (λ_ h=>?_) λ_ h=>?_))))))
 ·refine V (hK9 _ _ (D λ_ hK11=>aE (D λ_ hK12=>A (zd hr h λhg13 h=>J (IX (λx=>Sc (.int .u8 x)) (xs:=[15,0]) O O O O hg13.1 hg13.2) O (za O (zQ hK12 (D λ_ hK14=>A (zm O (zn O (zf O (zl O (zd hr h λhg15 h=>zo hg15 O (zn O (zf O (zs O (zQ hK14 (D λ_ hK16=>A (zm O ?_))))))))))))))))));refine zk hp hr h [0] Tryz.call239 (cX (R.mk v5.1.text (v5.1.at_+1))) O (λ_=>rfl) λy17 h=>zk hp hr h [] Tryz.call318 (x7 y17.1) O (λ_=>rfl) λy18 h=>zm O (zx O (zx O (za O (za O (zQ hK16 (D λ_ hK19=>A (zm O (zd hr h λhg20 h=>J (zR O O hg20) O (zm O (J (A1 O O) O (za O (zQ hK19 (zM h (λ(v21:Bool)=>[(0,.ptr 0 0),(1,Sc (.int .u8 p0)),(5,Sc (.int .u8 (yz .u8 (oS .u8 v5.2.1 4) y18.1))),(10,.agg [Sc (.int .u8 15),Sc (.int .u8 0)]),(11,I v5.2.2),(53,Bo v21)]) (λ(v21:Bool)=>[(0,.box (aL y17.2))]) (λv21 h=>?_) λ_ _ hK23 h=>?_)))))))))))))
  ·refine zB O h (λ_ h=>?_) λ_ h=>?_
   ·exact A (zm O (zm O (zn O (zf O (zl O (zk hp hr h [0] Tryz.call207 (eu y17.2.at_ y17.2) O (λ_=>rfl) λy25 h=>zQ hK11 (A (zd hr h λhg26 h=>zo hg26 O (zm O (N (hK7 _ _ _ h O)))))))))))
   exact V (hK11 _ _ (A (zd hr h λhg27 h=>zo hg27 O (zm O (N (hK7 _ _ _ h O))))))
  refine A (zm O (J (fu O) O (zm O (zb (!y18.2) (λhb28=>?_) λhb28=>?_))))
  ·exact z1 hb28 h λh=>zH 3 O hb28 (zu O (zu O (zu O (zu O (zu O (zu O (zg hb28 O (zy hb28 O (zm O (zH 3 O O (zu O (zu O (zu O (zg O O (zt O (N (hK23 _ _ _ h O)))))))))))))))))
  refine z2 hb28 h λh=>zG hb28 O (W O) (zG hb28 O (bq O O O) (zG hb28 O (W O) (zb (decide ((jt [15,0] v5.2.2)>0)) (λhb29=>?_) λhb29=>?_)))
  ·refine z1 hb29 h λh=>zG hb29 O (W O) (zd hr h λhg30 h=>zG hb29 O (zR O O hg30) (zG hb29 O (W O) (zG hb29 O (A1 O O) (zG hb29 O (W O) (zG hb29 O (bq O O O) (zG hb28 O (dU hb29 O O) (zw hb28 O (zm O (zb (decide ((yz .u8 (oS .u8 (yz .u8 (oS .u8 v5.2.1 4) y18.1) 4) (jt [15,0] v5.2.2))<p0)) (λhb31=>?_) λhb31=>?_)))))))))
   ·exact z1 hb31 h λh=>zH 3 O hb31 (zu O (zu O (zu O (zg hb31 O (zy hb31 O (N (hK23 _ _ _ h O)))))))
   refine z2 hb31 h λh=>zG hb31 O (W O) (zG hb31 O (bq O O O) (zG hb31 O (W O) (zb ((jt [15,0] v5.2.2)==0) (λhb32=>?_) λhb32=>?_)))
   ·exact z1 hb32 h λh=>zG hb32 O (W O) (zG hb32 O (W O) (zG hb32 O (bq O O O) (zG hb31 O (dU hb32 O O) (zw hb31 O (N (hK23 _ _ _ h O))))))
   exact z2 hb32 h λh=>zH 3 O hb32 (zG hb31 O (dJ hb32 O O) (zw hb31 O (N (hK23 _ _ _ h O))))
  refine z2 hb29 h λh=>zH 6 O hb29 (zG hb28 O (dJ hb29 O O) (zw hb28 O (zm O (zG O O (W O) (zG O O (bq O O O) (zG O O (W O) (zb ((jt [15,0] v5.2.2)==0) (λhb33=>?_) λhb33=>?_)))))))
  ·exact z1 hb33 h λh=>zG hb33 O (W O) (zG hb33 O (W O) (zG hb33 O (bq O O O) (zG O O (dU hb33 O O) (J (eX O O) O (N (hK23 _ _ _ h O))))))
  exact z2 hb33 h λh=>zH 3 O hb33 (zG O O (dJ hb33 O O) (J (eX O O) O (N (hK23 _ _ _ h O))))
 exact bw (hK3 _ _ (D λ_ hK34=>A (zm O (zn O (zf O (zl O (zd hr h λhg35 h=>zo hg35 O (zn O (zf O (zs O (zQ hK34 (D λ_ hK36=>A (zm O (za O (zQ hK36 (H (z O h O)))))))))))))))))
def gQ (n:Nat) (p0:Int) (p1:R):al (Int×R):=
 gd (dY (p1.at_+1)) (al.bind (cN (R.mk p1.text (p1.at_+1))) λy5=>jn (λ(v6:R×Int)=>jn (λ(v9:R)=>gd (dY (v9.at_+1)) (.ok (v6.2,(R.mk v9.text (v9.at_+1))))) λj10=>br (decide (v6.2<p0)) (al.bind (dK v6.1.at_ v6.1) λy17=>j10 (y17)) (j10 (v6.1))) λj7=>br (decide (y5.2.at_>=(List.length y5.2.text:Int))) (al.bind (dK (List.length y5.2.text:Int) y5.2) λy20=>j7 (y20,y5.1)) (br (y5.1==120) (al.bind (iC n p0 y5.2) λy24=>.ok (y24.1,y24.2)) (br (y5.1==110) (j7 (y5.2,10)) (br (y5.1==116) (j7 (y5.2,9)) (br (y5.1==114) (j7 (y5.2,13)) (al.bind (strings_IndexByte ([40,41,91,93,123,125,124,42,43,63,46,92,45,94]:ByS) y5.1) λy32=>br (decide (y32<0)) (al.bind (dK y5.2.at_ y5.2) λy34=>j7 (y34,y5.1)) (j7 (y5.2,y5.1))))))))
theorem kt (n:Nat) (p0:Int) (p1:R):CT Tryz.prog 295 [.ptr 0 0,Sc (.int .u8 p0)] [.box (aL p1)] (gQ n p0 p1) (λx=>Sc (.int .u8 x.1)) (λx=>[.box (aL x.2)]):=by
 refine zC Tryz.func295 O λr hp h hr E hE=>D λ_ hK1=>A (za O (zQ hK1 (D λ_ hK2=>A (zm O (zn O (zf O (zl O (zd hr h λhg3 h=>zo hg3 O (zn O (zf O (zs O (zQ hK2 (D λ_ hK4=>A (zm O (zk hp hr h [0] Tryz.call239 (cX (R.mk p1.text (p1.at_+1))) O (λ_=>rfl) λy5 h=>za O (zQ hK4 (zM h (λ(v6:R×Int)=>[(0,.ptr 0 0),(1,Sc (.int .u8 p0)),(5,Sc (.int .u8 v6.2))]) (λ(v6:R×Int)=>[(0,.box (aL v6.1))]) (λv6 h=>?_) λ_ _ hK8 h=>?_)))))))))))))))))
 ·refine zM h (λ(v9:R)=>[(0,.ptr 0 0),(1,Sc (.int .u8 p0)),(5,Sc (.int .u8 v6.2))]) (λ(v9:R)=>[(0,.box (aL v9))]) (λv9 h=>?_) λ_ _ hK11 h=>?_
  ·exact D λ_ hK12=>A (zm O (zn O (zf O (zl O (zd hr h λhg13 h=>zo hg13 O (zn O (zf O (zs O (zQ hK12 (D λ_ hK14=>A (zm O (za O (zQ hK14 (H (z O h O)))))))))))))))
  refine D λ_ hK15=>A (zm O (zm O (zc O (zQ hK15 (zB O h (λ_ h=>?_) λ_ h=>?_)))))
  ·exact A (zm O (zm O (zn O (zf O (zl O (zk hp hr h [0] Tryz.call207 (eu v6.1.at_ v6.1) O (λ_=>rfl) λy17 h=>N (hK11 _ _ _ h O)))))))
  exact V (hK11 _ _ _ h O)
 refine aE (D λ_ hK18=>bG [0,1,2,3,4,5,6,7,8,9,10] O (by kernel_rfl) (zD O (W O) O (zD O (dy O) O (zD O (o O) O (zD O (bb O O O) O (zD O (W O) O (zD O (dy O) O (zD O (o O) O (zD O (bb O O O) O (zD O (dC O) O (zD O (bq O O O) O (gE O O O (aK O) O (cY (hK18 _ _ (zB O h (λ_ h=>?_) λ_ h=>?_)))))))))))))))
 ·exact A (zm O (zm O (zn O (zf O (zl O (J (dC O) O (zk hp hr h [0] Tryz.call207 (eu (List.length y5.2.text:Int) y5.2) O (λ_=>rfl) λy20 h=>N (hK8 _ _ _ h O))))))))
 refine D λ_ hK21=>A (zm O (zc O (za O (zQ hK21 (zB O h (λ_ h=>?_) λ_ h=>?_)))))
 ·exact D λ_ hK23=>A (zm O (zm O (zk hp hr h [0] Tryz.call312 (oU n p0 y5.2) O (λ_=>rfl) λy24 h=>za O (zQ hK23 (H (z O h O))))))
 refine D λ_ hK25=>A (zm O (zc O (za O (zQ hK25 (zB O h (λ_ h=>?_) λ_ h=>?_)))))
 ·exact A (za O (N (hK8 _ _ _ h O)))
 refine D λ_ hK27=>A (zm O (zc O (za O (zQ hK27 (zB O h (λ_ h=>?_) λ_ h=>?_)))))
 ·exact A (za O (N (hK8 _ _ _ h O)))
 refine D λ_ hK29=>A (zm O (zc O (za O (zQ hK29 (zB O h (λ_ h=>?_) λ_ h=>?_)))))
 ·exact A (za O (N (hK8 _ _ _ h O)))
 refine D λ_ hK31=>A (zm O (zk hp hr h [] Tryz.call296 (lB ([40,41,91,93,123,125,124,42,43,63,46,92,45,94]:ByS) y5.1) O (λ_=>rfl) λy32 h=>zc O (za O (zQ hK31 (zB O h (λ_ h=>?_) λ_ h=>?_)))))
 ·exact A (zm O (zm O (zn O (zf O (zl O (zk hp hr h [0] Tryz.call207 (eu y5.2.at_ y5.2) O (λ_=>rfl) λy34 h=>N (hK8 _ _ _ h O)))))))
 exact V (hK8 _ _ _ h O)
def pF (n:Nat) (p0:gb):al (gb):=
 iter (λnext5 (v4:gb×Int)=>br (decide (v4.2<4)) (gd ((0:Int)<=v4.2/\v4.2<4) (gd ((0:Int)<=v4.2/\v4.2<4) (gd (dY (v4.2+1)) (next5 ((gb.mk (jt (sD [v4.1.x0,v4.1.x1,v4.1.x2,v4.1.x3] v4.2 (Dp .u64 (jt [v4.1.x0,v4.1.x1,v4.1.x2,v4.1.x3] v4.2))) 0) (jt (sD [v4.1.x0,v4.1.x1,v4.1.x2,v4.1.x3] v4.2 (Dp .u64 (jt [v4.1.x0,v4.1.x1,v4.1.x2,v4.1.x3] v4.2))) 1) (jt (sD [v4.1.x0,v4.1.x1,v4.1.x2,v4.1.x3] v4.2 (Dp .u64 (jt [v4.1.x0,v4.1.x1,v4.1.x2,v4.1.x3] v4.2))) 2) (jt (sD [v4.1.x0,v4.1.x1,v4.1.x2,v4.1.x3] v4.2 (Dp .u64 (jt [v4.1.x0,v4.1.x1,v4.1.x2,v4.1.x3] v4.2))) 3)),v4.2+1))))) (.ok (v4.1))) n (p0,0)
theorem x8 (n:Nat) (p0:gb):CT Tryz.prog 311 [.agg (jv p0)] [] (pF n p0) (λx=>.agg (jv x)) (λ_=>[]):=by
 refine zC Tryz.func311 O λr hp h hr E hE=>D λ_ hK1=>A (eD 101 (hE _ O) O7 O ?_);refine aJ 102 (hE _ O) O4 O ?_;refine zQ hK1 (D λ_ hK2=>D λ_ hK3=>A (zm O (zQ hK3 (aE (zL hr h (λ(v4:gb×Int)=>[(0,.agg (jv p0)),(1,.ptr 101 0),(2,.ptr 102 0),(4,I v4.2)]) (λ(v4:gb×Int)=>[(101,.box (jv v4.1)),(102,.box [Sc (.int .u64 0),Sc (.int .u64 0),Sc (.int .u64 0),Sc (.int .u64 0)])]) O λ_ v4 _ hK6 h=>D λ_ hK7=>A (zc O (zQ hK7 (D λ_ hK8=>zB O h (λ_ h=>?_) λ_ h=>?_))))))))
 ·refine V (hK8 _ _ (D λ_ hK10=>aE (D λ_ hK11=>A (zm O (za O (zQ hK11 (A (zm O (zm O (zd hr h λhg12 h=>J (js O O hg12.1 hg12.2) O (J (zS (λx=>Sc (.int .u64 x)) (xs:=[v4.1.x0,v4.1.x1,v4.1.x2,v4.1.x3]) O O O hg12.1 hg12.2) O (J (IV O) O (zd hr h λhg13 h=>J (js O O hg13.1 hg13.2) O (GI (λx=>Sc (.int .u64 x)) (xs:=[v4.1.x0,v4.1.x1,v4.1.x2,v4.1.x3]) O O O O hg13.1 hg13.2 (λ_=>O2) (I6 _ (by simp[sD])) ?_))))))))))))));exact zQ hK10 (A (zd hr h λhg14 h=>zo hg14 O (zm O (N (hK6 _ _ _ h O)))))
 refine bw (hK2 _ _ (D λ_ hK15=>A (zA O ?_)));exact zs O (zQ hK15 (H (zX (.cons (aY O O O) .nil) h O)))
def jx (n:Nat) (p0:Int) (p1:R):al (Int×R):=
 al.bind (cN p1) λy3=>jn (λ(v4:R)=>gd (dY (v4.at_+1)) (.ok (y3.1,(R.mk v4.text (v4.at_+1))))) λj5=>br (decide (y3.2.at_>=(List.length y3.2.text:Int))) (al.bind (dK (List.length y3.2.text:Int) y3.2) λy12=>j5 (y12)) (br (y3.1==92) (al.bind (gQ n p0 y3.2) λy16=>.ok (y16.1,y16.2)) (jn (λ(v17:Bool)=>br v17 (al.bind (dK y3.2.at_ y3.2) λy21=>j5 (y21)) (j5 (y3.2))) λj18=>br (decide (y3.1<32)) (j18 (true)) (br (decide (y3.1>126)) (j18 (true)) (br (decide (y3.1<p0)) (j18 (true)) (al.bind (strings_IndexByte ([40,41,91,93,123,125,124,42,43,63,46,94,45]:ByS) y3.1) λy25=>j18 ((decide (y25>=0))))))))
theorem n7 (n:Nat) (p0:Int) (p1:R):CT Tryz.prog 309 [.ptr 0 0,Sc (.int .u8 p0)] [.box (aL p1)] (jx n p0 p1) (λx=>Sc (.int .u8 x.1)) (λx=>[.box (aL x.2)]):=by
 refine zC Tryz.func309 O λr hp h hr E hE=>D λ_ hK1=>A (za O (zQ hK1 (D λ_ hK2=>A (zm O (zk hp hr h [0] Tryz.call239 (cX p1) O (λ_=>rfl) λy3 h=>za O (zQ hK2 (zM h (λ(v4:R)=>[(0,.ptr 0 0),(1,Sc (.int .u8 p0)),(5,Sc (.int .u8 y3.1))]) (λ(v4:R)=>[(0,.box (aL v4))]) (λv4 h=>?_) λ_ _ hK6 h=>?_)))))))
 ·exact D λ_ hK7=>A (zm O (zn O (zf O (zl O (zd hr h λhg8 h=>zo hg8 O (zn O (zf O (zs O (zQ hK7 (D λ_ hK9=>A (zm O (za O (zQ hK9 (H (z O h O)))))))))))))))
 refine aE (D λ_ hK10=>bG [0,1,2,3,4,5,6,7,8,9,10] O (by kernel_rfl) (zD O (W O) O (zD O (dy O) O (zD O (o O) O (zD O (bb O O O) O (zD O (W O) O (zD O (dy O) O (zD O (o O) O (zD O (bb O O O) O (zD O (dC O) O (zD O (bq O O O) O (gE O O O (aK O) O (cY (hK10 _ _ (zB O h (λ_ h=>?_) λ_ h=>?_)))))))))))))))
 ·exact A (zm O (zm O (zn O (zf O (zl O (J (dC O) O (zk hp hr h [0] Tryz.call207 (eu (List.length y3.2.text:Int) y3.2) O (λ_=>rfl) λy12 h=>N (hK6 _ _ _ h O))))))))
 refine D λ_ hK13=>A (zm O (zc O (za O (zQ hK13 (zB O h (λ_ h=>?_) λ_ h=>?_)))))
 ·exact D λ_ hK15=>A (zm O (zm O (zk hp hr h [0] Tryz.call295 (kt n p0 y3.2) O (λ_=>rfl) λy16 h=>za O (zQ hK15 (H (z O h O))))))
 refine zM h (λ(v17:Bool)=>[(0,.ptr 0 0),(1,Sc (.int .u8 p0)),(5,Sc (.int .u8 y3.1)),(32,Bo v17)]) (λ(v17:Bool)=>[(0,.box (aL y3.2))]) (λv17 h=>?_) λ_ _ hK19 h=>?_
 ·refine zB O h (λ_ h=>?_) λ_ h=>?_
  ·exact A (zm O (zm O (zn O (zf O (zl O (zk hp hr h [0] Tryz.call207 (eu y3.2.at_ y3.2) O (λ_=>rfl) λy21 h=>N (hK6 _ _ _ h O)))))))
  exact V (hK6 _ _ _ h O)
 refine A (zm O (zc O (zm O (zb (decide (y3.1<32)) (λhb22=>?_) λhb22=>?_))))
 ·exact z1 hb22 h λh=>zH 2 O hb22 (zy hb22 O (zm O (zH 3 O O (zt O (zm O (zH 3 O O (zt O (za O (N (hK19 _ _ _ h O))))))))))
 refine z2 hb22 h λh=>zG hb22 O (W O) (zG hb22 O (bq O O O) (zw hb22 O (zm O (zb (decide (y3.1>126)) (λhb23=>?_) λhb23=>?_))))
 ·exact z1 hb23 h λh=>zH 3 O hb23 (zy hb23 O (zm O (zH 3 O O (zt O (za O (N (hK19 _ _ _ h O)))))))
 refine z2 hb23 h λh=>zG hb23 O (W O) (zG hb23 O (W O) (zG hb23 O (bq O O O) (zw hb23 O (zm O (zb (decide (y3.1<p0)) (λhb24=>?_) λhb24=>?_)))))
 ·exact z1 hb24 h λh=>zH 3 O hb24 (zy hb24 O (za O (N (hK19 _ _ _ h O))))
 exact z2 hb24 h λh=>zG hb24 O (W O) (zK hb24 O hp hr h [] Tryz.call296 (lB ([40,41,91,93,123,125,124,42,43,63,46,94,45]:ByS) y3.1) O (λ_=>rfl) λy25 h=>zG hb24 O (bq O O O) (zw hb24 O (za O (N (hK19 _ _ _ h O)))))
def ls (n:Nat) (p0:R):al (u×R):=
 gd (dY (p0.at_+1)) (al.bind (cN (R.mk p0.text (p0.at_+1))) λy5=>jn (λ(v6:R)=>jn (λ(v10:R×Bool)=>br v10.2 (gd (dY (v10.1.at_+1)) (.ok ((u.mk 0 0 0 0 0 []),(R.mk v10.1.text (v10.1.at_+1))))) (iter (λnext21 (v20:R×gb×Bool)=>jn (λ(v23:R)=>al.bind (jx n 0 v23) λy28=>al.bind (cN y28.2) λy32=>br (y32.1==45) (gd (dY (y32.2.at_+1)) (al.bind (jx n y28.1 (R.mk y32.2.text (y32.2.at_+1))) λy36=>al.bind (ib n y28.1 y36.1) λy37=>al.bind (jE n v20.2.1 y37) λy38=>next21 (y36.2,y38,false))) (al.bind (ib n y28.1 y28.1) λy39=>al.bind (jE n v20.2.1 y39) λy40=>next21 (y32.2,y40,false))) λj24=>br v20.2.2 (j24 (v20.1)) (al.bind (cN v20.1) λy43=>br (y43.1 !=93) (j24 (y43.2)) (gd (dY (y43.2.at_+1)) (br (y5.1==94) (al.bind (pF n v20.2.1) λy50=>.ok ((u.mk 2 y50.x0 y50.x1 y50.x2 y50.x3 []),(R.mk y43.2.text (y43.2.at_+1)))) (.ok ((u.mk 2 v20.2.1.x0 v20.2.1.x1 v20.2.1.x2 v20.2.1.x3 []),(R.mk y43.2.text (y43.2.at_+1)))))))) n (v10.1,(gb.mk 0 0 0 0),true))) λj11=>br (!(y5.1==94)) (al.bind (cN v6) λy54=>j11 (y54.2,(y54.1==93))) (j11 (v6,false))) λj7=>br (y5.1==94) (gd (dY (y5.2.at_+1)) (j7 ((R.mk y5.2.text (y5.2.at_+1))))) (j7 (y5.2)))
theorem ug (n:Nat) (p0:R):CT Tryz.prog 291 [.ptr 0 0] [.box (aL p0)] (ls n p0) (λx=>.agg (fq x.1)) (λx=>[.box (aL x.2)]):=by
 refine zC Tryz.func291 O λr hp h hr E hE=>D λ_ hK1=>A (aJ 102 (hE _ O) O4 O ?_);refine zQ hK1 (D λ_ hK2=>A (zm O (zn O (zf O (zl O (zd hr h λhg3 h=>zo hg3 O (zn O (zf O (zs O (zQ hK2 (D λ_ hK4=>A (zm O (zk hp hr h [0] Tryz.call239 (cX (R.mk p0.text (p0.at_+1))) O (λ_=>rfl) λy5 h=>zc O (za O (zQ hK4 (zM h (λ(v6:R)=>[(0,.ptr 0 0),(2,.ptr 102 0),(3,Bo (y5.1==94))]) (λ(v6:R)=>[(0,.box (aL v6)),(102,.box [I 0,Sc (.int .u64 0),Sc (.int .u64 0),Sc (.int .u64 0),Sc (.int .u64 0),nSl])]) (λv6 h=>?_) λ_ _ hK8 h=>?_))))))))))))))))
 ·refine D λ_ hK9=>zM h (λ(v10:R×Bool)=>[(0,.ptr 0 0),(2,.ptr 102 0),(3,Bo (y5.1==94)),(32,Bo v10.2)]) (λ(v10:R×Bool)=>[(0,.box (aL v10.1)),(102,.box [I 0,Sc (.int .u64 0),Sc (.int .u64 0),Sc (.int .u64 0),Sc (.int .u64 0),nSl])]) (λv10 h=>?_) λ_ _ hK12 h=>?_
  ·refine zB O h (λ_ h=>?_) λ_ h=>?_
   ·refine D λ_ hK14=>A (zm O (zn O (zf O (zl O (zd hr h λhg15 h=>zo hg15 O (zn O (zf O (zs O (zQ hK14 (D λ_ hK16=>A (J (dT O O) O ?_)))))))))));refine zs O (zQ hK16 (ca (kg 102 O O) ?_));exact H (zX (.cons (aY O O O) .nil) h O)
   refine V (hK9 _ _ (D λ_ hK17=>A (aJ 104 (hE _ O) O4 O ?_)));refine zQ hK17 (D λ_ hK18=>D λ_ hK19=>A (za O (zQ hK19 (aE (zL hr h (λ(v20:R×gb×Bool)=>[(0,.ptr 0 0),(2,.ptr 102 0),(3,Bo (y5.1==94)),(4,.ptr 104 0),(5,Bo v20.2.2)]) (λ(v20:R×gb×Bool)=>[(0,.box (aL v20.1)),(102,.box [I 0,Sc (.int .u64 0),Sc (.int .u64 0),Sc (.int .u64 0),Sc (.int .u64 0),nSl]),(104,.box (jv v20.2.1))]) O λ_ v20 _ hK22 h=>zM h (λ(v23:R)=>[(0,.ptr 0 0),(2,.ptr 102 0),(3,Bo (y5.1==94)),(4,.ptr 104 0)]) (λ(v23:R)=>[(0,.box (aL v23)),(102,.box [I 0,Sc (.int .u64 0),Sc (.int .u64 0),Sc (.int .u64 0),Sc (.int .u64 0),nSl]),(104,.box (jv v20.2.1))]) (λv23 h=>?_) λ_ _ hK25 h=>?_)))))
   ·refine D λ_ hK26=>aE (D λ_ hK27=>A (zm O (zk hp hr h [0] Tryz.call309 (n7 n 0 v23) O (λ_=>rfl) λy28 h=>za O (zQ hK27 (D λ_ hK29=>A (zm O (za O (zQ hK29 (D λ_ hK30=>D λ_ hK31=>A (zm O (zk hp hr h [0] Tryz.call239 (cX y28.2) O (λ_=>rfl) λy32 h=>zc O (zQ hK31 (zB O h (λ_ h=>?_) λ_ h=>?_)))))))))))))
    ·refine D λ_ hK34=>A (zm O (zn O (zf O (zl O (zd hr h λhg35 h=>zo hg35 O (zn O (zf O (zs O (zQ hK34 (A (zm O (zm O (zk hp hr h [0] Tryz.call309 (n7 n y28.1 (R.mk y32.2.text (y32.2.at_+1))) O (λ_=>rfl) λy36 h=>za O (zQ hK30 (bG [0,1,2,3,4,5] O (by kernel_rfl) (zD O (kj O O O O) O ?_))))))))))))))));refine zD O (W O) O (zD O (W O) O (ej O (bV O) hr h [] Tryz.call292 (ic n y28.1 y36.1) ⟨O,O,O,O,O,O,trivial⟩ O O (λ_=>O3) (λ_=>O2) hp (λy37 h=>⟨cW ⟨trivial,⟨trivial,⟨⟨⟨_,O,M.le_refl _⟩,trivial⟩,trivial⟩⟩⟩,?_⟩)));refine ej O (bV O) hr h [] Tryz.call310 (kr n v20.2.1 y37) ⟨O,O,O,O,O,O,trivial⟩ O O (λ_=>O3) (λ_=>O2) hp (λy38 h=>⟨aK O,?_⟩);refine ck O O8 O (λe5 he=>⟨aK O,?_⟩);subst he;exact cY (hK26 _ _ (A (za O (N (hK22 _ _ _ h O)))))
    refine V (hK30 _ _ (bG [0,1,2,3,4,5] O (by kernel_rfl) (zD O (kj O O O O) O ?_)));refine zD O (W O) O (zD O (W O) O (ej O (bV O) hr h [] Tryz.call292 (ic n y28.1 y28.1) ⟨O,O,O,O,O,O,trivial⟩ O O (λ_=>O3) (λ_=>O2) hp (λy39 h=>⟨cW ⟨trivial,⟨trivial,⟨⟨⟨_,O,M.le_refl _⟩,trivial⟩,trivial⟩⟩⟩,?_⟩)));refine ej O (bV O) hr h [] Tryz.call310 (kr n v20.2.1 y39) ⟨O,O,O,O,O,O,trivial⟩ O O (λ_=>O3) (λ_=>O2) hp (λy40 h=>⟨aK O,?_⟩);refine ck O O8 O (λe5 he=>⟨aK O,?_⟩);subst he;exact cY (hK26 _ _ (A (za O (N (hK22 _ _ _ h O)))))
   refine D λ_ hK41=>A (zm O (zm O (zb v20.2.2 (λhb42=>?_) λhb42=>?_)))
   ·refine z1 hb42 h λh=>zH 3 O hb42 (zy hb42 O (zQ hK41 (df O (λhc=>?_) (λhc=>?_))))
    ·exact V (hK25 _ _ _ h O)
    exact absurd (hc) (by simp)
   refine z2 hb42 h λh=>zG hb42 O (W O) (zK hb42 O hp hr h [0] Tryz.call239 (cX v20.1) O (λ_=>rfl) λy43 h=>zG hb42 O (bq O O O) (zw hb42 O (zQ hK41 (zB O h (λ_ h=>?_) λ_ h=>?_))))
   ·exact V (hK25 _ _ _ h O)
   refine bw (hK18 _ _ (D λ_ hK45=>A (zm O (zn O (zf O (zl O (zd hr h λhg46 h=>zo hg46 O (zn O (zf O (zs O (zQ hK45 (D λ_ hK47=>D λ_ hK48=>A (zm O (zQ hK48 (zB O h (λ_ h=>?_) λ_ h=>?_)))))))))))))))
   ·refine A (zA O ?_);refine zk hp hr h [] Tryz.call311 (x8 n v20.2.1) O (λ_=>rfl) λy50 h=>zs O (zQ hK47 (D λ_ hK51=>A (zA O ?_)));refine J (dT O O) O ?_;refine zs O (zQ hK51 (ca (kg 102 O O) ?_));exact H (zX (.cons (aY O O O) .nil) h O)
   refine V (hK47 _ _ (D λ_ hK52=>A (zA O ?_)));refine J (dT O O) O ?_;refine zs O (zQ hK52 (ca (kg 102 O O) ?_));exact H (zX (.cons (aY O O O) .nil) h O)
  refine A (zm O (J (fu O) O (zm O (zb (!(y5.1==94)) (λhb53=>?_) λhb53=>?_))))
  ·exact z1 hb53 h λh=>zG hb53 O (W O) (zK hb53 O hp hr h [0] Tryz.call239 (cX v6) O (λ_=>rfl) λy54 h=>zG hb53 O (bq O O O) (zy hb53 O (N (hK12 _ _ _ h O))))
  exact z2 hb53 h λh=>zH 3 O hb53 (zw hb53 O (N (hK12 _ _ _ h O)))
 refine D λ_ hK55=>A (zm O (zQ hK55 (zB O h (λ_ h=>?_) λ_ h=>?_)))
 ·exact A (zm O (zn O (zf O (zl O (zd hr h λhg57 h=>zo hg57 O (zn O (zf O (zs O (N (hK8 _ _ _ h O))))))))))
 exact V (hK8 _ _ _ h O)
end Go.Abs
end
