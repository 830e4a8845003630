/- PROVED: lemmas of a proof that ParserBlanks returns true. CONDITIONS: as each states. -/
import Derived.Test.YtkhjeiaafiodeaaGreatDoorF1
import Derived.Test.YtkhjeiaafiodeaaGreatDoorProg
import Derived.KernelRfl
import Derived.ChangeKeysEq
import Derived.Shelf.Small.Strs
import Derived.Shelf.Utf8.RuneCount
import Derived.Shelf.Strconv.Itoa0
import Derived.Shelf.Strconv.Itoa1
import Derived.Shelf.LaysM
import Derived.Shelf.Strconv.Itoa2
import Derived.Shelf.Strconv.Itoa3
import Derived.Shelf.Strconv.ParseIntEmpty
import Derived.Shelf.Strconv.Clone
import Derived.Shelf.Strconv.SyntaxError
import Derived.Shelf.LaysC
import Derived.Shelf.Strconv.ToError
import Derived.Shelf.Strconv.Lower
import Derived.Shelf.Strconv.ParseUint10
import Derived.Shelf.Strconv.ParseUint10Empty
import Derived.Shelf.Strconv.ParseUint10Any
import Derived.Shelf.Strconv.ParseInt10
import Derived.Shelf.Strconv.RangeError
import Derived.Shelf.Strconv.ToErrorRange
import Derived.Shelf.Strconv.ParseUintEmpty
import Derived.Shelf.Strconv.ParseUint10b64
import Derived.Shelf.Strconv.ParseUint10b32
import Derived.Shelf.Strconv.ParseUint10b16
import Derived.Shelf.Strconv.ParseUint10b8
import Derived.Shelf.Strconv.ParseUint10At
import Derived.Shelf.Strconv.ParseInt10At64
import Derived.Shelf.Strconv.ParseInt10At32
import Derived.Shelf.Strconv.ParseInt10At16
import Derived.Shelf.Strconv.ParseInt10At8
import Derived.Shelf.Strconv.ParseInt10All
import Derived.Shelf.Strconv.ParseIntPublic10
import Derived.Shelf.Strconv.ErrVarParseInt
import Derived.Shelf.Strings.Search1
import Derived.Shelf.Strings.Search2
import Derived.Shelf.Strings.Search3
import Derived.Shelf.Strings.Cut
import Derived.Shelf.Strings.Count
import Derived.Shelf.Strings.Shaped
import Derived.Shelf.Strings.LastIndex
import Derived.Shelf.Strings.LastIndexAll
import Derived.Shelf.Strings.Prefix
import Derived.Shelf.Strings.Split
import Derived.Shelf.Strings.SplitShaped
import Derived.Shelf.Unicode.Decode
import Derived.Shelf.Strings.RuneCount
import Derived.Shelf.Strings.Explode
import Derived.Shelf.Unicode.DecodeSlow
import Derived.Shelf.Unicode.DecodeAny
import Derived.Shelf.Slices.Turned
import Derived.Lib.SplitLaws
import Derived.Lib.Walk
import Derived.WalkKit
import Derived.BigCall
import Derived.BigGuard
section
namespace Go.Abs
theorem O.{u} {α:Sort u} {a:α}:a=a:=rfl
theorem O2.{u0,u1} {a0:Sort u0} {a1:Sort u1} {b0:a0} {b1:a1}:b0=b0/\b1=b1:=⟨rfl,rfl⟩
theorem O3.{u0,u1,u2} {a0:Sort u0} {a1:Sort u1} {a2:Sort u2} {b0:a0} {b1:a1} {b2:a2}:b0=b0/\b1=b1/\b2=b2:=⟨rfl,rfl,rfl⟩
theorem O4.{u0,u1,u2,u3} {a0:Sort u0} {a1:Sort u1} {a2:Sort u2} {a3:Sort u3} {b0:a0} {b1:a1} {b2:a2} {b3:a3}:b0=b0/\b1=b1/\b2=b2/\b3=b3:=⟨rfl,rfl,rfl,rfl⟩
theorem O5.{u0,u1,u2,u3,u4} {a0:Sort u0} {a1:Sort u1} {a2:Sort u2} {a3:Sort u3} {a4:Sort u4} {b0:a0} {b1:a1} {b2:a2} {b3:a3} {b4:a4}:b0=b0/\b1=b1/\b2=b2/\b3=b3/\b4=b4:=⟨rfl,rfl,rfl,rfl,rfl⟩
theorem O7.{u0,u1,u2,u3,u4,u5,u6} {a0:Sort u0} {a1:Sort u1} {a2:Sort u2} {a3:Sort u3} {a4:Sort u4} {a5:Sort u5} {a6:Sort u6} {b0:a0} {b1:a1} {b2:a2} {b3:a3} {b4:a4} {b5:a5} {b6:a6}:b0=b0/\b1=b1/\b2=b2/\b3=b3/\b4=b4/\b5=b5/\b6=b6:=⟨rfl,rfl,rfl,rfl,rfl,rfl,rfl⟩
theorem O8.{u0,u1,u2,u3,u4,u5,u6,u7} {a0:Sort u0} {a1:Sort u1} {a2:Sort u2} {a3:Sort u3} {a4:Sort u4} {a5:Sort u5} {a6:Sort u6} {a7:Sort u7} {b0:a0} {b1:a1} {b2:a2} {b3:a3} {b4:a4} {b5:a5} {b6:a6} {b7:a7}:b0=b0/\b1=b1/\b2=b2/\b3=b3/\b4=b4/\b5=b5/\b6=b6/\b7=b7:=⟨rfl,rfl,rfl,rfl,rfl,rfl,rfl,rfl⟩
open D
section
variable {P:Program} {E:Env} {n:Nat} {ops:Array Oper} {Q:dR} {rest:List Oper} {l:List (Nat×AV)} {ds:List (FuncId×List AV)} {s:List (Nat×M)}
 {ty:TypeId} {pos:String} {af:Array Edge} {d:Nat}
theorem p1 {α β:Type} {a c:α} {b e:β} (h:(a,b)=(c,e)):a=c:=congrArg Prod.fst h
theorem p2 {α β:Type} {a c:α} {b e:β} (h:(a,b)=(c,e)):b=e:=congrArg Prod.snd h
theorem zm {x:Operand} {v:AV} (h:(bI l x,Nat.blt d n)=(some v,true)) (hn:SL P E n ops Q rest (bZ ((d,v)::l) ds) (Y s)):SL P E n ops Q (⟨some d,.move x,ty,pos,af,none⟩::rest) (bZ l ds) (Y s):=
 J (N (p1 h)) (p2 h) hn
theorem za {x:Operand} {v:AV} (h:(bI l x,Nat.blt d n)=(some v,true)) (hn:SL P E n ops Q rest (bZ ((d,v)::l) ds) (Y s)):SL P E n ops Q (⟨some d,.assign x,ty,pos,af,none⟩::rest) (bZ l ds) (Y s):=
 J (DP (p1 h)) (p2 h) hn
theorem zn {x:Operand} {k off:Nat} (h:(bI l x,Nat.blt d n)=(some (.ptr k off),true)) (hn:SL P E n ops Q rest (bZ ((d,.ptr k off)::l) ds) (Y s)):SL P E n ops Q (⟨some d,.nilCheck x,ty,pos,af,none⟩::rest) (bZ l ds) (Y s):=
 J (c7 (p1 h)) (p2 h) hn
theorem zf {t:TypeId} {x:Operand} {f k off m:Nat} [hf:lK P t f m] (h:(bI l x,Nat.blt d n)=(some (.ptr k off),true)) (hn:SL P E n ops Q rest (bZ ((d,.ptr k (off+m))::l) ds) (Y s)) :
 SL P E n ops Q (⟨some d,.fieldAddr t x f,ty,pos,af,none⟩::rest) (bZ l ds) (Y s):=J (bF (p1 h)) (p2 h) hn
theorem zl {t:TypeId} {x:Operand} {k off:Nat} {e:M} {v:AV} [ha:iI P t false] (h:(bI l x,dx s k,e.cells[off]?,Nat.blt d n)=(some (.ptr k off),some e,some v,true))
 (hn:SL P E n ops Q rest (bZ ((d,v)::l) ds) (Y s)):SL P E n ops Q (⟨some d,.load t x,ty,pos,af,none⟩::rest) (bZ l ds) (Y s):=J (bj (p1 h) (p1 (p2 h)) (p1 (p2 (p2 h)))) (p2 (p2 (p2 h))) hn
theorem zA {t:TypeId} {x:Operand} {k off m:Nat} {e:M} {cs:List AV} [ha:iI P t true] [hz:mr P t m] (h:(bI l x,dx s k,Nat.ble (off+m) e.cells.length,(e.cells.drop off).take m,Nat.blt d n)=(some (.ptr k off),some e,true,cs,true))
 (hn:SL P E n ops Q rest (bZ ((d,.agg cs)::l) ds) (Y s)):SL P E n ops Q (⟨some d,.load t x,ty,pos,af,none⟩::rest) (bZ l ds) (Y s):=J (jS (p1 h) (p1 (p2 h)) (p1 (p2 (p2 h))) (p1 (p2 (p2 (p2 h))))) (p2 (p2 (p2 (p2 h)))) hn
theorem zc {op:BinOp} {xt yt:TypeId} {x y:Operand} {k:IntKind} {a b:Int} {r:Bool} (h:(bI l x,bI l y,Fo op a b,Nat.blt d n)=(some (Sc (.int k a)),some (Sc (.int k b)),some r,true))
 (hn:SL P E n ops Q rest (bZ ((d,Bo r)::l) ds) (Y s)):SL P E n ops Q (⟨some d,.binOp op xt x y yt,ty,pos,af,none⟩::rest) (bZ l ds) (Y s):=J (aX (p1 h) (p1 (p2 h)) (p1 (p2 (p2 h)))) (p2 (p2 (p2 h))) hn
theorem zy {c a b:Operand} {v:AV} {t:Bool} (ht:t=true) (h:(bI l c,bI l a,Nat.blt d n)=(some (Bo t),some v,true)) (hn:SL P E n ops Q rest (bZ ((d,v)::l) ds) (Y s)) :
 SL P E n ops Q (⟨some d,.pick c a b,ty,pos,af,none⟩::rest) (bZ l ds) (Y s):=J (cY ht (p1 h) (p1 (p2 h))) (p2 (p2 h)) hn
theorem zw {c a b:Operand} {v:AV} {t:Bool} (ht:t=false) (h:(bI l c,bI l b,Nat.blt d n)=(some (Bo t),some v,true)) (hn:SL P E n ops Q rest (bZ ((d,v)::l) ds) (Y s)) :
 SL P E n ops Q (⟨some d,.pick c a b,ty,pos,af,none⟩::rest) (bZ l ds) (Y s):=J (cU ht (p1 h) (p1 (p2 h))) (p2 (p2 h)) hn
theorem zt {c a b:Operand} {v:AV} (h:(bI l c,bI l a,Nat.blt d n)=(some (Bo true),some v,true)) (hn:SL P E n ops Q rest (bZ ((d,v)::l) ds) (Y s)) :
 SL P E n ops Q (⟨some d,.pick c a b,ty,pos,af,none⟩::rest) (bZ l ds) (Y s):=J (tV (p1 h) (p1 (p2 h))) (p2 (p2 h)) hn
theorem zo {xt yt:TypeId} {x y:Operand} {a b:Int} (hg:-9223372036854775808<=a+b/\a+b<=9223372036854775807) (h:(bI l x,bI l y,Nat.blt d n)=(some (I a),some (I b),true))
 (hn:SL P E n ops Q rest (bZ ((d,I (a+b))::l) ds) (Y s)):SL P E n ops Q (⟨some d,.binOp .add xt x y yt,ty,pos,af,none⟩::rest) (bZ l ds) (Y s):=J (gV (p1 h) (p1 (p2 h)) hg) (p2 (p2 h)) hn
theorem zx {x:Operand} {i:Nat} {vs:List AV} {v:AV} (h:(bI l x,vs[i]?,Nat.blt d n)=(some (.fZ vs),some v,true)) (hn:SL P E n ops Q rest (bZ ((d,v)::l) ds) (Y s)) :
 SL P E n ops Q (⟨some d,.extract x i,ty,pos,af,none⟩::rest) (bZ l ds) (Y s):=J (pV (p1 h) (p1 (p2 h))) (p2 (p2 h)) hn
theorem zg {j g:Nat} {op:Op} {want b:Bool} (hb:b = !want) (h:((ops[j]?).bind (·.dst),jv l g,Nat.blt d n)=(some g,some (Bo b),true))
 (hn:SL P E n ops Q rest (bZ ((d,Sc undef)::l) ds) (Y s)):SL P E n ops Q (⟨some d,op,ty,pos,af,some (j,want)⟩::rest) (bZ l ds) (Y s):=G5 hb ⟨p1 h,p1 (p2 h)⟩ (p2 (p2 h)) hn
def EI (ops:Array Oper) (n:Nat):Nat->List (Nat×AV)->List Oper->Option (List (Option AV×Bool)×List (Nat×AV)×List Oper)
 | 0,l,r=>some ([],l,r)
 | k+1,l,r=>match r with
  | ⟨some d,_,_,_,_,some (j,want)⟩::r=>match (ops[j]?).bind (·.dst),Nat.blt d n with
   | some g,true=>match EI ops n k ((d,Sc undef)::l) r with
    | some (vs,x)=>some ((jv l g,want)::vs,x)
    | none=>none
   | _,_=>none
  | _=>none
theorem zH {w b:Bool}:∀ (k:Nat) {l l':List (Nat×AV)} {r r':List Oper},EI ops n k l r=some (List.replicate k (some (Bo b),w),l',r')->b = !w->SL P E n ops Q r' (bZ l' ds) (Y s)->SL P E n ops Q r (bZ l ds) (Y s)
 | 0,_,_,_,_,h,_,hn=>by cases h;exact hn
 | k+1,l,l',r,r',h,hb,hn=>by
  unfold EI at h;split at h
  ·split at h
   ·rename_i g hj hd;split at h
    ·rename_i vs x hx;simp only[List.replicate_succ,Option.some.injEq,Prod.mk.injEq,List.cons.injEq] at h;obtain ⟨⟨⟨h1,rfl⟩,rfl⟩,rfl⟩:=h;exact G5 hb ⟨hj,h1⟩ hd (zH k hx hb hn)
    cases h
   cases h
  cases h
theorem zG {j g:Nat} {op:Op} {v:AV} {rd:List (Nat×M)} {want b:Bool} (hb:b=want) (h:((ops[j]?).bind (·.dst),jv l g,Nat.blt d n)=(some g,some (Bo b),true))
 (he:iW P op l ds s v rd) (hn:SL P E n ops Q rest (bZ ((d,v)::l) ds) (Y s)):SL P E n ops Q (⟨some d,op,ty,pos,af,some (j,want)⟩::rest) (bZ l ds) (Y s):=IL hb ⟨p1 h,p1 (p2 h)⟩ he (p2 (p2 h)) hn
theorem zu {j g:Nat} {op:Op} {want:Bool} (h:((ops[j]?).bind (·.dst),jv l g,Nat.blt d n)=(some g,some (Sc undef),true))
 (hn:SL P E n ops Q rest (bZ ((d,Sc undef)::l) ds) (Y s)):SL P E n ops Q (⟨some d,op,ty,pos,af,some (j,want)⟩::rest) (bZ l ds) (Y s):=IB ⟨p1 h,p1 (p2 h)⟩ (p2 (p2 h)) hn
theorem zs {t:TypeId} {x y:Operand} {k off m:Nat} {e:M} {v:AV} {c:List AV} [ht:mr P t m]
  (h:(bI l x,dx s k,e.wJ,bI l y,v.fA,AV.jl c,c.length,Nat.ble (off+c.length) e.cells.length)=(some (.ptr k off),some e,true,some v,some c,true,m,true))
  (hn:SL P E n ops Q rest (bZ l ds) (Y ((k,e.put off c)::s))):SL P E n ops Q (⟨none,.store t x y,ty,pos,af,none⟩::rest) (bZ l ds) (Y s):=
 DS ⟨p1 h,p1 (p2 h),p1 (p2 (p2 h)),p1 (p2 (p2 (p2 h))),p1 (p2 (p2 (p2 (p2 h)))),p1 (p2 (p2 (p2 (p2 (p2 h))))),p1 (p2 (p2 (p2 (p2 (p2 (p2 h)))))),p2 (p2 (p2 (p2 (p2 (p2 (p2 h))))))⟩ (λ_ q=>q▸hn)
def A8 (E:Env) (ds:List (FuncId×List AV)) (l:List (Nat×AV)) (s:List (Nat×M)) (ks:List Nat) (f:Operand) (args:List Operand) (fid:FuncId) (argsC:List AV) (es:List M) (first cap vs:List AV) (l':List (Nat×AV)) (d n:Nat):Prop:=
 (bI l f,tp l args,first++vs++cap,tW s ks,nodupB ks,Cl l' ds s ks ks es,xE E ks es,Nat.blt d n)=(some (.fn fid first cap),some vs,AV.gD.lN (nth ks) argsC,some (kj (nth ks) es),true,true,True,true)
theorem A8.ok {ks:List Nat} {f:Operand} {args:List Operand} {fid:FuncId} {argsC:List AV} {es:List M} {first cap vs:List AV} {l':List (Nat×AV)} (h:A8 E ds l s ks f args fid argsC es first cap vs l' d n) :
  lA E ds l s ks f args fid argsC es first cap vs l':=
 ⟨p1 h,p1 (p2 h),p1 (p2 (p2 h)),p1 (p2 (p2 (p2 h))),p1 (p2 (p2 (p2 (p2 h)))),p1 (p2 (p2 (p2 (p2 (p2 h))))),of_eq_true (p1 (p2 (p2 (p2 (p2 (p2 (p2 h)))))))⟩
theorem A8.bl {ks:List Nat} {f:Operand} {args:List Operand} {fid:FuncId} {argsC:List AV} {es:List M} {first cap vs:List AV} {l':List (Nat×AV)} (h:A8 E ds l s ks f args fid argsC es first cap vs l' d n) :
 Nat.blt d n=true:=p2 (p2 (p2 (p2 (p2 (p2 (p2 h))))))
theorem zk {X R:Type} {res:D X} {kk:X->D R} {r:D R} {V V':X->AV} {C:X->List M} {C':X->List (Nat×M)} {f:Operand} {args:List Operand} {ts:Array TypeId} {fid:FuncId}
  {argsC first cap vs:List AV} {es:List M} (hp:∀ p fr σ,fr.ds=ds->r=.mf p->Q (.panic p.av) fr σ) (hr:r≠.stuck) (h:D.bind res kk=r) (ks:List Nat) (hen:Enters P fid)
  (hC:CT P fid argsC es res V C) (hk:(bI l f,tp l args,first++vs++cap,tW s ks,nodupB ks,Cl l ds s ks ks es,xE E ks es,Nat.blt d n)=(some (.fn fid first cap),some vs,AV.gD.lN (nth ks) argsC,some (kj (nth ks) es),true,true,True,true))
  (hx:∀ x,((C x).length,jE (below ks.length) (C x),(V x).only (below ks.length),(V x).gD (nth ks),lz ks (kj (nth ks) (C x)))=(ks.length,true,true,V' x,C' x))
  (hret:∀ x,kk x=r->SL P E n ops Q rest (bZ ((d,V' x)::l) ds) (Y (C' x++s))) :
  SL P E n ops Q (⟨some d,.call ⟨.value f,args.toArray,ts⟩,ty,pos,af,none⟩::rest) (bZ l ds) (Y s):=
 jF hr h ks hen hC (A8.ok (d:=d) (n:=n) hk) (A8.bl hk) (λx=>⟨p1 (hx x),p1 (p2 (hx x)),p1 (p2 (p2 (hx x)))⟩) (λx=>⟨p1 (p2 (p2 (p2 (hx x)))),p2 (p2 (p2 (p2 (hx x))))⟩) hp hret
theorem zK {j g:Nat} {want b:Bool} {X R:Type} {res:D X} {kk:X->D R} {r:D R} {V V':X->AV} {C:X->List M} {C':X->List (Nat×M)} {f:Operand} {args:List Operand} {ts:Array TypeId} {fid:FuncId}
  {argsC first cap vs:List AV} {es:List M} (hb:b=want) (hj:((ops[j]?).bind (·.dst),jv l g)=(some g,some (Bo b))) (hp:∀ p fr σ,fr.ds=ds->r=.mf p->Q (.panic p.av) fr σ) (hr:r≠.stuck) (h:D.bind res kk=r) (ks:List Nat) (hen:Enters P fid)
  (hC:CT P fid argsC es res V C) (hk:(bI l f,tp l args,first++vs++cap,tW s ks,nodupB ks,Cl l ds s ks ks es,xE E ks es,Nat.blt d n)=(some (.fn fid first cap),some vs,AV.gD.lN (nth ks) argsC,some (kj (nth ks) es),true,true,True,true))
  (hx:∀ x,((C x).length,jE (below ks.length) (C x),(V x).only (below ks.length),(V x).gD (nth ks),lz ks (kj (nth ks) (C x)))=(ks.length,true,true,V' x,C' x))
  (hret:∀ x,kk x=r->SL P E n ops Q rest (bZ ((d,V' x)::l) ds) (Y (C' x++s))) :
  SL P E n ops Q (⟨some d,.call ⟨.value f,args.toArray,ts⟩,ty,pos,af,some (j,want)⟩::rest) (bZ l ds) (Y s):=
 D0 hb ⟨p1 hj,p2 hj⟩ hr h ks hen hC (A8.ok (d:=d) (n:=n) hk) (A8.bl hk) (λx=>⟨p1 (hx x),p1 (p2 (hx x)),p1 (p2 (p2 (hx x)))⟩) (λx=>⟨p1 (p2 (p2 (p2 (hx x)))),p2 (p2 (p2 (p2 (hx x))))⟩) hp hret
theorem zC {f:FuncId} {fn:Func} {c:Code} {args:List AV} {es:List M} {X:Type} {res:D X} {V:X->AV} {C:X->List M} (hf:P.funcs[f]?=some fn) (hb:(fn.body,Nat.ble args.length fn.ntmps)=(some c,true))
  (h:∀ r,(∀ p fr (σ:cn),fr.ds=[]->r=.mf p->ny P fn (pZ V C (λx=>r=.ok x) (λv=>∃ p,r=.mf p/\v=p.av)) (.panic p.av) fr σ)->res=r->r≠.stuck->∀ E:Env,(∀ k,kL es k=true->E.fix k=none)->
   SW P E fn.ntmps c (ny P fn (pZ V C (λx=>r=.ok x) (λv=>∃ p,r=.mf p/\v=p.av))) (bZ ((List.range args.length).zip args) []) (Y (ey 0 es))):CT P f args es res V C:=
 FC hf (p1 hb) (p2 hb) λr hr hs=>h r (λ_ _ _ hd hp=>zq hd hp) hr hs
theorem zB {R:Type} {c:Operand} {x y:Code} {b:Bool} {u v r:D R} (hb:bI l c=some (Bo b)) (h:br b u v=r) (ht:b=true->u=r->SW P E n x Q (bZ l ds) (Y s)) (hf:b=false->v=r->SW P E n y Q (bZ l ds) (Y s)):SW P E n (.cond c x y) Q (bZ l ds) (Y s):=
 cb hb (λq=>ht q (II q h)) (λq=>hf q (IJ q h))
theorem zd {R:Type} {p:Prop} [Decidable p] {x r:D R} {q:Prop} (hr:r≠.stuck) (h:gd p x=r) (k:p->x=r->q):q:=k (HD hr h).1 (HD hr h).2
theorem ze {R β:Type} {l:List β} {i:Int} {k:β->D R} {r:D R} {q:Prop} (hr:r≠.stuck) (h:el l i k=r) (c:∀ x,0<=i->i<l.length->l[i.toNat]?=some x->k x=r->q):q:=
 let ⟨x,a,b,d,e⟩:=Jp hr h;c x a b d e
theorem z1 {R:Type} {b:Bool} {u v r:D R} {q:Prop} (hb:b=true) (h:br b u v=r) (k:u=r->q):q:=k (II hb h)
theorem z2 {R:Type} {b:Bool} {u v r:D R} {q:Prop} (hb:b=false) (h:br b u v=r) (k:v=r->q):q:=k (IJ hb h)
theorem zb {q:Prop} (b:Bool) (h1:b=true->q) (h2:b=false->q):q:=by cases b;exact h2 rfl;exact h1 rfl
def gF (l:List (Nat×AV)):List (Nat×AV)->List (Option AV)
 | []=>[]
 | (i,_)::F=>jv l i::gF l F
def gS (s:List (Nat×M)):List (Nat×M)->List (Option M)
 | []=>[]
 | (i,_)::F=>dx s i::gS s F
theorem F1 {l G:List (Nat×AV)}:∀ {F:List (Nat×AV)},gF l F=gF G F->tq l G F
 | [],_=>trivial
 | (_,_)::_,h=>⟨(List.cons.inj h).1,F1 (List.cons.inj h).2⟩
theorem F2 {l G:List (Nat×M)}:∀ {F:List (Nat×M)},gS l F=gS G F->tY l G F
 | [],_=>trivial
 | (_,_)::_,h=>⟨(List.cons.inj h).1,F2 (List.cons.inj h).2⟩
theorem zM {X R:Type} {x y:Code} {j:X->D R} {p:(X->D R)->D R} {r:D R} (h:jn j p=r) (F:X->List (Nat×AV)) (H:X->List (Nat×M))
  (hy:∀ v,j v=r->SW P E n y Q (bZ (F v) ds) (Y (H v)))
  (hx:∀ (j':X->D R) (K:eu->cn->Prop),(∀ v l s,j' v=r->(gF l (F v),gS s (H v))=(gF (F v) (F v),gS (H v) (H v))->K (bZ l ds) (Y s))->p j'=r->SW P E n x (vo K Q) (bZ l ds) (Y s)):SW P E n (.seq x y) Q (bZ l ds) (Y s):=
 FD F H (λv=>j v=r) hy (λK hK=>hx j K (λv l s a b=>hK v l s a (F1 (p1 b)) (F2 (p2 b))) h)
theorem zL {X R:Type} {c:Code} {body:(X->D R)->X->D R} {r:D R} {m:Nat} {v:X} (hr:r≠.stuck) (h0:iter body m v=r) (F:X->List (Nat×AV)) (H:X->List (Nat×M))
  (h1:(gF l (F v),gS s (H v))=(gF (F v) (F v),gS (H v) (H v)))
  (hx:∀ (next:X->D R) (v:X) (K:eu->cn->Prop),(∀ v l s,next v=r->(gF l (F v),gS s (H v))=(gF (F v) (F v),gS (H v) (H v))->K (bZ l ds) (Y s))->body next v=r->SW P E n c (vo K Q) (bZ (F v) ds) (Y (H v))) :
  SW P E n (.loop c) Q (bZ l ds) (Y s):=
 C5 F H body r m v hr h0 (F1 (p1 h1)) (F2 (p2 h1)) (λnext v K hK h=>hx next v K (λv l s a b=>hK v l s a (F1 (p1 b)) (F2 (p2 b))) h)
theorem zQ {c:Code} {Q':dR} {fr:eu} {σ:cn} (k:∀ fr σ,SW P E n c Q' fr σ->Q .normal fr σ) (h:SW P E n c Q' fr σ):SL P E n ops Q [] fr σ:=W (k _ _ h)
def gM (s:List (Nat×M)):Nat->List M->List (Option M)
 | _,[]=>[]
 | i,_::es=>dx s i::gM s (i+1) es
theorem H3 {s:List (Nat×M)}:∀ {es:List M} {i:Nat},gM s i es=es.map some->uL s i es
 | [],_,_=>trivial
 | _::_,_,h=>⟨(List.cons.inj h).1,H3 (List.cons.inj h).2⟩
theorem zX {fn:Func} {X:Type} {V:X->AV} {C:X->List M} {r:D X} {H:AV->Prop} {vs:List AV} {x:X} (hr:C2 P (bZ l []) (Y s) fn.results.toList vs) (hg:.ok x=r) (hm:(nv vs,gM s 0 (C x))=(V x,(C x).map some)) :
 ny P fn (pZ V C (λx=>r=.ok x) H) .ret (bZ l []) (Y s):=mV (.inl rfl) x hr hg.symm (p1 hm▸AV.le_refl _) (H3 (p2 hm))
theorem z {fn:Func} {X:Type} {V:X->AV} {C:X->List M} {r:D X} {H:AV->Prop} {v:AV} {x:X} {t:Nat} (h:(fn.results.toList,jv l t)=([.tmp t],some v)) (hg:.ok x=r) (hm:(v,gM s 0 (C x))=(V x,(C x).map some)) :
 ny P fn (pZ V C (λx=>r=.ok x) H) .ret (bZ l []) (Y s):=zX (vs:=[v]) (by rw[p1 h];exact .cons (aP (p2 h)) .nil) hg hm
theorem zY {fn:Func} {X:Type} {V:X->AV} {C:X->List M} {r:D X} {H:AV->Prop} {vs:List AV} {x:X} (hr:C2 P (bZ l []) (Y s) fn.results.toList vs) (hg:.ok x=r) (hm:(nv vs,gM s 0 (C x))=(V x,(C x).map some)) :
 ny P fn (pZ V C (λx=>r=.ok x) H) .normal (bZ l []) (Y s):=mV (.inr rfl) x hr hg.symm (p1 hm▸AV.le_refl _) (H3 (p2 hm))
end
section
variable {P:Program} {E:Env} {n:Nat} {ops:Array Oper} {Q:dR} {B:List Rec->eu->cn->Prop} {i:Nat} {L:List Nat} {recs:List Rec} {l:List (Nat×AV)} {ds:List (FuncId×List AV)} {s:List (Nat×M)}
 {ty:TypeId} {pos:String} {af:Array Edge} {d:Nat}
theorem zD {op:Op} {v:AV} {rd:List (Nat×M)} (ho:ops[i]?=some ⟨some d,op,ty,pos,af,none⟩) (h:iW P op l ds s v rd)
 (hc:(dJ ⟨some d,op,ty,pos,af,none⟩,Nat.blt d n,wL ops i v rd recs)=(false,true,true))
 (hn:mi P E n ops Q B L (⟨i,some d,rd,none⟩::recs) (bZ ((d,v)::l) ds) (Y s)):mi P E n ops Q B (i::L) recs (bZ l ds) (Y s):=IG ho h ⟨p1 hc,p1 (p2 hc),p2 (p2 hc)⟩ hn
end
end Go.Abs
end
section
namespace Go.Abs
abbrev jc (x:fC):List AV:=[Sc (.int .u64 x.x0),Sc (.int .u64 x.x1),Sc (.int .u64 x.x2),Sc (.int .u64 x.x3)]
abbrev dB (x:Z):List AV:=[I x.Kind,I x.cG,F x.Label,F x.bp,F x.bq,.pv (.sl (List.length x.bg) (U.Cs x.bg)),.pv (.sl (List.length x.Body) (Z.Cs x.Body)),.pv (.sl (List.length x.cl) (cd x.cl)),.pv (.sl (List.length x.ka) (cd x.ka)),F x.Trail,I x.Pos]
abbrev bh (x:U):List AV:=[I x.Kind,F x.Text,I x.jV,F x.bp,F x.bq,.pv (.sl (List.length x.bg) (U.Cs x.bg)),.pv (.sl (List.length x.Decls) (Z.Cs x.Decls)),.pv (.sl (List.length x.cl) (cd x.cl)),I x.Pos]
abbrev kB (x:fq):List AV:=[F x.gj,.pv (.sl (List.length x.cT) (bU.Cs x.cT)),.pv (.sl (List.length x.Decls) (Z.Cs x.Decls)),.pv (.sl (List.length x.cl) (cd x.cl))]
abbrev eI (x:aQ):List AV:=[I x.Kind,Sc (.int .u64 x.FT),Sc (.int .u64 x.FU),Sc (.int .u64 x.FV),Sc (.int .u64 x.FW),.pv (.sl (List.length x.bg) (aQ.Cs x.bg))]
abbrev ej (x:aA):List AV:=[I x.Kind,F x.Text,I x.Pos,I x.End]
abbrev K (x:H):List AV:=[F x.text,.pv (.sl (List.length x.X) (aA.Cs x.X)),I x.at_,I x.base,Bo x.skip,.pv (.pt (Option.map U.C x.pending))]
abbrev aL (x:R):List AV:=[F x.text,I x.at_]
abbrev aI (x:aq):List AV:=[Bo x.yz,Bo x.deep]
abbrev bH (x:aR):List AV:=[Bo x.lT,Bo x.HZ,Bo x.wV,I x.level]
end Go.Abs
end
section
namespace Go.Abs
open Go.Proofs
instance:Dd Tryz.prog 20:=⟨⟨_,Tryz.underlying20⟩⟩
instance:Dd Tryz.prog 150:=⟨⟨_,Tryz.underlying150⟩⟩
instance:mr Tryz.prog 2 1:={}
instance:iI Tryz.prog 2 false:={}
instance:jD Tryz.prog 2 (.int .i64):={}
instance:mr Tryz.prog 3 1:={}
instance:iI Tryz.prog 3 false:={}
instance:kK Tryz.prog 3 [.int .i64 0]:={}
instance:jD Tryz.prog 3 (.int .i64):={}
instance:mr Tryz.prog 4 1:={}
instance:iI Tryz.prog 4 false:={}
instance:kK Tryz.prog 4 [.bool false]:={}
instance:jD Tryz.prog 4 .bool:={}
instance:mr Tryz.prog 5 1:={}
instance:iI Tryz.prog 5 false:={}
instance:jD Tryz.prog 5 (.int .u8):={}
instance:mr Tryz.prog 9 1:={}
instance:iI Tryz.prog 9 false:={}
instance:jD Tryz.prog 9 .string:={}
instance:mr Tryz.prog 23 1:={}
instance:iI Tryz.prog 23 false:={}
instance:Ck Tryz.prog 23 65 3:={}
instance:jD Tryz.prog 23 (.slice 65):={}
instance:mr Tryz.prog 24 1:={}
instance:iI Tryz.prog 24 false:={}
instance:kK Tryz.prog 24 [.slice none 0 0]:={}
instance:Ck Tryz.prog 24 53 11:={}
instance:jD Tryz.prog 24 (.slice 53):={}
instance:mr Tryz.prog 25 1:={}
instance:iI Tryz.prog 25 false:={}
instance:kK Tryz.prog 25 [.slice none 0 0]:={}
instance:Ck Tryz.prog 25 9 1:={}
instance:jD Tryz.prog 25 (.slice 9):={}
instance:mr Tryz.prog 27 4:={}
instance:iI Tryz.prog 27 true:={}
instance:kK Tryz.prog 27 [eSt,.slice none 0 0,.slice none 0 0,.slice none 0 0]:={}
instance:lK Tryz.prog 27 0 0:={}
instance:lK Tryz.prog 27 1 1:={}
instance:lK Tryz.prog 27 2 2:={}
instance:lK Tryz.prog 27 3 3:={}
instance:hO Tryz.prog 27 [eSt,.slice none 0 0,.slice none 0 0,.slice none 0 0] [(0,1),(1,1),(2,1),(3,1)]:={}
instance:iI Tryz.prog 28 false:={}
instance:jD Tryz.prog 28 (.int .i64):={}
instance:mr Tryz.prog 30 2:={}
instance:iI Tryz.prog 30 true:={}
instance:kK Tryz.prog 30 [.int .i64 0,.int .i64 0]:={}
instance:lK Tryz.prog 30 0 0:={}
instance:lK Tryz.prog 30 1 1:={}
instance:hO Tryz.prog 30 [.int .i64 0,.int .i64 0] [(0,1),(1,1)]:={}
instance:mr Tryz.prog 35 2:={}
instance:iI Tryz.prog 35 true:={}
instance:kK Tryz.prog 35 [eSt,eSt]:={}
instance:Hy Tryz.prog 35 2 1:={}
instance:hO Tryz.prog 35 [eSt,eSt] [(0,1),(1,1)]:={}
instance:jD Tryz.prog 35 (.array 2 9):={}
instance:mr Tryz.prog 36 1:={}
instance:iI Tryz.prog 36 false:={}
instance:kK Tryz.prog 36 [.slice none 0 0]:={}
instance:Ck Tryz.prog 36 38 9:={}
instance:jD Tryz.prog 36 (.slice 38):={}
instance:mr Tryz.prog 38 9:={}
instance:iI Tryz.prog 38 true:={}
instance:kK Tryz.prog 38 [.int .i64 0,eSt,.int .i64 0,eSt,eSt,.slice none 0 0,.slice none 0 0,.slice none 0 0,.int .i64 0]:={}
instance:lK Tryz.prog 38 0 0:={}
instance:lK Tryz.prog 38 1 1:={}
instance:lK Tryz.prog 38 2 2:={}
instance:lK Tryz.prog 38 3 3:={}
instance:lK Tryz.prog 38 4 5:={}
instance:lK Tryz.prog 38 5 6:={}
instance:lK Tryz.prog 38 6 7:={}
instance:lK Tryz.prog 38 7 8:={}
instance:hO Tryz.prog 38 [.int .i64 0,eSt,.int .i64 0,eSt,eSt,.slice none 0 0,.slice none 0 0,.slice none 0 0,.int .i64 0] [(0,1),(1,1),(2,1),(3,2),(5,1),(6,1),(7,1),(8,1)]:={}
instance:mr Tryz.prog 44 1:={}
instance:iI Tryz.prog 44 false:={}
instance:jD Tryz.prog 44 (.int .u64):={}
instance:mr Tryz.prog 45 1:={}
instance:iI Tryz.prog 45 false:={}
instance:Ck Tryz.prog 45 49 4:={}
instance:jD Tryz.prog 45 (.slice 49):={}
instance:mr Tryz.prog 49 4:={}
instance:iI Tryz.prog 49 true:={}
instance:kK Tryz.prog 49 [.int .i64 0,eSt,.int .i64 0,.int .i64 0]:={}
instance:lK Tryz.prog 49 0 0:={}
instance:Ji Tryz.prog 49 0 false:={}
instance:lK Tryz.prog 49 1 1:={}
instance:Ji Tryz.prog 49 1 false:={}
instance:lK Tryz.prog 49 2 2:={}
instance:Ji Tryz.prog 49 2 false:={}
instance:lK Tryz.prog 49 3 3:={}
instance:hO Tryz.prog 49 [.int .i64 0,eSt,.int .i64 0,.int .i64 0] [(0,1),(1,1),(2,1),(3,1)]:={}
instance:mr Tryz.prog 53 11:={}
instance:iI Tryz.prog 53 true:={}
instance:kK Tryz.prog 53 [.int .i64 0,.int .i64 0,eSt,eSt,eSt,.slice none 0 0,.slice none 0 0,.slice none 0 0,.slice none 0 0,eSt,.int .i64 0]:={}
instance:lK Tryz.prog 53 0 0:={}
instance:lK Tryz.prog 53 1 1:={}
instance:lK Tryz.prog 53 2 2:={}
instance:lK Tryz.prog 53 3 3:={}
instance:lK Tryz.prog 53 4 5:={}
instance:lK Tryz.prog 53 5 6:={}
instance:lK Tryz.prog 53 6 7:={}
instance:lK Tryz.prog 53 7 8:={}
instance:lK Tryz.prog 53 8 9:={}
instance:hO Tryz.prog 53 [.int .i64 0,.int .i64 0,eSt,eSt,eSt,.slice none 0 0,.slice none 0 0,.slice none 0 0,.slice none 0 0,eSt,.int .i64 0] [(0,1),(1,1),(2,1),(3,2),(5,1),(6,1),(7,1),(8,1),(9,1),(10,1)]:={}
instance:iI Tryz.prog 56 false:={}
instance:mr Tryz.prog 57 1:={}
instance:iI Tryz.prog 57 false:={}
instance:jD Tryz.prog 57 (.pointer 38):={}
instance:lK Tryz.prog 59 0 0:={}
instance:lK Tryz.prog 59 1 1:={}
instance:lK Tryz.prog 59 2 2:={}
instance:lK Tryz.prog 59 3 3:={}
instance:lK Tryz.prog 59 4 4:={}
instance:lK Tryz.prog 59 5 5:={}
instance:hO Tryz.prog 59 [eSt,.slice none 0 0,.int .i64 0,.int .i64 0,.bool false,.pointer none] [(0,1),(1,1),(2,1),(3,1),(4,1),(5,1)]:={}
instance:mr Tryz.prog 65 3:={}
instance:iI Tryz.prog 65 true:={}
instance:kK Tryz.prog 65 [eSt,eSt,.int .i64 0]:={}
instance:lK Tryz.prog 65 0 0:={}
instance:lK Tryz.prog 65 1 1:={}
instance:hO Tryz.prog 65 [eSt,eSt,.int .i64 0] [(0,1),(1,1),(2,1)]:={}
instance:jD Tryz.prog 79 (.int .u64):={}
instance:lK Tryz.prog 83 0 0:={}
instance:lK Tryz.prog 83 1 1:={}
instance:lK Tryz.prog 83 2 2:={}
instance:lK Tryz.prog 83 3 3:={}
instance:hO Tryz.prog 83 [eSt,.int .i64 0,.slice none 0 0,.bool false] [(0,1),(1,1),(2,1),(3,1)]:={}
instance:mr Tryz.prog 86 1:={}
instance:D2 Tryz.prog 86:={}
instance:kK Tryz.prog 86 [.int .i64 0]:={}
instance:lK Tryz.prog 86 0 0:={}
instance:hO Tryz.prog 86 [.int .i64 0] [(0,1)]:={}
instance:lK Tryz.prog 96 0 0:={}
instance:lK Tryz.prog 96 1 1:={}
instance:hO Tryz.prog 96 [.bool false,.bool false] [(0,1),(1,1)]:={}
instance:mr Tryz.prog 105 4:={}
instance:iI Tryz.prog 105 true:={}
instance:lK Tryz.prog 105 0 0:={}
instance:lK Tryz.prog 105 1 1:={}
instance:lK Tryz.prog 105 2 2:={}
instance:lK Tryz.prog 105 3 3:={}
instance:hO Tryz.prog 105 [.bool false,.bool false,.bool false,.int .i64 0] [(0,1),(1,1),(2,1),(3,1)]:={}
instance:Ck Tryz.prog 125 4 1:={}
instance:mr Tryz.prog 134 4:={}
instance:iI Tryz.prog 134 true:={}
instance:kK Tryz.prog 134 [.int .u64 0,.int .u64 0,.int .u64 0,.int .u64 0]:={}
instance:Hy Tryz.prog 134 4 1:={}
instance:hO Tryz.prog 134 [.int .u64 0,.int .u64 0,.int .u64 0,.int .u64 0] [(0,1),(1,1),(2,1),(3,1)]:={}
instance:jD Tryz.prog 134 (.array 4 44):={}
instance:mr Tryz.prog 135 1:={}
instance:iI Tryz.prog 135 false:={}
instance:kK Tryz.prog 135 [.slice none 0 0]:={}
instance:Ck Tryz.prog 135 137 6:={}
instance:jD Tryz.prog 135 (.slice 137):={}
instance:mr Tryz.prog 137 6:={}
instance:iI Tryz.prog 137 true:={}
instance:kK Tryz.prog 137 [.int .i64 0,.int .u64 0,.int .u64 0,.int .u64 0,.int .u64 0,.slice none 0 0]:={}
instance:lK Tryz.prog 137 0 0:={}
instance:lK Tryz.prog 137 1 1:={}
instance:lK Tryz.prog 137 2 5:={}
instance:hO Tryz.prog 137 [.int .i64 0,.int .u64 0,.int .u64 0,.int .u64 0,.int .u64 0,.slice none 0 0] [(0,1),(1,4),(5,1)]:={}
instance:jD Tryz.prog 142 (.slice 179):={}
instance:mr Tryz.prog 154 1:={}
instance:iI Tryz.prog 154 false:={}
instance:kK Tryz.prog 154 [.slice none 0 0]:={}
instance:Ck Tryz.prog 154 189 3:={}
instance:jD Tryz.prog 154 (.slice 189):={}
instance:iI Tryz.prog 161 false:={}
instance:hO Tryz.prog 179 [eSt,.bool false,.int .i64 0] [(0,1),(1,1),(2,1)]:={}
instance:mr Tryz.prog 181 1:={}
instance:iI Tryz.prog 181 false:={}
instance:kK Tryz.prog 181 [.slice none 0 0]:={}
instance:Ck Tryz.prog 181 5 1:={}
instance:jD Tryz.prog 181 (.slice 5):={}
instance:mr Tryz.prog 189 3:={}
instance:iI Tryz.prog 189 true:={}
instance:kK Tryz.prog 189 [eSt,.bool false,.int .i64 0]:={}
instance:lK Tryz.prog 189 0 0:={}
instance:lK Tryz.prog 189 1 1:={}
instance:lK Tryz.prog 189 2 2:={}
instance:hO Tryz.prog 189 [eSt,.bool false,.int .i64 0] [(0,1),(1,1),(2,1)]:={}
instance:mr Tryz.prog 198 1:={}
instance:iI Tryz.prog 198 false:={}
instance:kK Tryz.prog 198 [.pointer none]:={}
instance:lK Tryz.prog 200 0 0:={}
instance:lK Tryz.prog 200 1 1:={}
instance:hO Tryz.prog 200 [eSt,.int .i64 0] [(0,1),(1,1)]:={}
instance:mr Tryz.prog 202 1:={}
instance:D2 Tryz.prog 202:={}
instance:kK Tryz.prog 202 [.int .i64 0]:={}
instance:lK Tryz.prog 202 0 0:={}
instance:hO Tryz.prog 202 [.int .i64 0] [(0,1)]:={}
instance:D2 Tryz.prog 213:={}
instance:hO Tryz.prog 261 [.int .u8 0,.int .u8 0] [(0,1),(1,1)]:={}
instance:jD Tryz.prog 261 (.array 2 5):={}
instance:dH Tryz.prog 5 1 1:={}
instance:dH Tryz.prog 9 1 16:={}
instance:dH Tryz.prog 38 9 144:={}
instance:dH Tryz.prog 49 4 40:={}
instance:dH Tryz.prog 53 11 184:={}
instance:dH Tryz.prog 65 3 40:={}
instance:dH Tryz.prog 137 6 64:={}
instance:dH Tryz.prog 179 3 32:={}
instance:dH Tryz.prog 189 3 32:={}
instance:jR Tryz.prog 23 1 65 3 [eSt,eSt,.int .i64 0] [(0,3)]:={}
instance:jR Tryz.prog 24 1 53 11 [.int .i64 0,.int .i64 0,eSt,eSt,eSt,.slice none 0 0,.slice none 0 0,.slice none 0 0,.slice none 0 0,eSt,.int .i64 0] [(0,11)]:={}
instance:jR Tryz.prog 25 1 9 1 [eSt] [(0,1)]:={}
instance:jR Tryz.prog 25 3 9 1 [eSt,eSt,eSt] [(0,1),(1,1),(2,1)]:={}
instance:jR Tryz.prog 25 7 9 1 [eSt,eSt,eSt,eSt,eSt,eSt,eSt] [(0,1),(1,1),(2,1),(3,1),(4,1),(5,1),(6,1)]:={}
instance:jR Tryz.prog 25 13 9 1 [eSt,eSt,eSt,eSt,eSt,eSt,eSt,eSt,eSt,eSt,eSt,eSt,eSt] [(0,1),(1,1),(2,1),(3,1),(4,1),(5,1),(6,1),(7,1),(8,1),(9,1),(10,1),(11,1),(12,1)]:={}
instance:jR Tryz.prog 25 32 9 1 [eSt,eSt,eSt,eSt,eSt,eSt,eSt,eSt,eSt,eSt,eSt,eSt,eSt,eSt,eSt,eSt,eSt,eSt,eSt,eSt,eSt,eSt,eSt,eSt,eSt,eSt,eSt,eSt,eSt,eSt,eSt,eSt] [(0,1),(1,1),(2,1),(3,1),(4,1),(5,1),(6,1),(7,1),(8,1),(9,1),(10,1),(11,1),(12,1),(13,1),(14,1),(15,1),(16,1),(17,1),(18,1),(19,1),(20,1),(21,1),(22,1),(23,1),(24,1),(25,1),(26,1),(27,1),(28,1),(29,1),(30,1),(31,1)]:={}
instance:jR Tryz.prog 36 1 38 9 [.int .i64 0,eSt,.int .i64 0,eSt,eSt,.slice none 0 0,.slice none 0 0,.slice none 0 0,.int .i64 0] [(0,9)]:={}
instance:jR Tryz.prog 36 2 38 9 [.int .i64 0,eSt,.int .i64 0,eSt,eSt,.slice none 0 0,.slice none 0 0,.slice none 0 0,.int .i64 0,.int .i64 0,eSt,.int .i64 0,eSt,eSt,.slice none 0 0,.slice none 0 0,.slice none 0 0,.int .i64 0] [(0,9),(9,9)]:={}
instance:jR Tryz.prog 45 1 49 4 [.int .i64 0,eSt,.int .i64 0,.int .i64 0] [(0,4)]:={}
instance:jR Tryz.prog 125 1 4 1 [.bool false] [(0,1)]:={}
instance:jR Tryz.prog 125 2 4 1 [.bool false,.bool false] [(0,1),(1,1)]:={}
instance:jR Tryz.prog 125 3 4 1 [.bool false,.bool false,.bool false] [(0,1),(1,1),(2,1)]:={}
instance:jR Tryz.prog 125 4 4 1 [.bool false,.bool false,.bool false,.bool false] [(0,1),(1,1),(2,1),(3,1)]:={}
instance:jR Tryz.prog 135 1 137 6 [.int .i64 0,.int .u64 0,.int .u64 0,.int .u64 0,.int .u64 0,.slice none 0 0] [(0,6)]:={}
instance:jR Tryz.prog 135 2 137 6 [.int .i64 0,.int .u64 0,.int .u64 0,.int .u64 0,.int .u64 0,.slice none 0 0,.int .i64 0,.int .u64 0,.int .u64 0,.int .u64 0,.int .u64 0,.slice none 0 0] [(0,6),(6,6)]:={}
instance:jR Tryz.prog 142 1 179 3 [eSt,.bool false,.int .i64 0] [(0,3)]:={}
instance:jR Tryz.prog 154 1 189 3 [eSt,.bool false,.int .i64 0] [(0,3)]:={}
instance:jR Tryz.prog 181 1 5 1 [.int .u8 0] [(0,1)]:={}
theorem IY (a b:ByS):((⟨a.toArray⟩:ByteArray).toList==(⟨b.toArray⟩:ByteArray).toList)=(a==b):=by
 rw[ByteArray.toList_eq,ByteArray.toList_eq]
theorem pa {P:Program} {t:TypeId} {cs:Array Value} {off:Nat} {v:Value} (w:World) (ha:py P t=some false) (h:cs[off]?=some v):(part t cs off).run P w=.ok v w:=by
 unfold part;simp only[Sem.run_bind,ow ha,Result.andThen_ok,Bool.false_eq_true,if_false,h,Sem.run_pure]
theorem F3 {P:Program} {t:TypeId} (ht:P.underlying t=some .string) (d:Nat) (w:World) (a b:ByS):(Op.equalIn (d+1) t (S a) (S b)).run P w=.ok (a==b) w:=by
 unfold S;rw[run_equalIn_string w d t _ _ ht,IY]
theorem IZ (w:World) (a b c d:ByS):(Op.equalIn 10000 35 (.agg #[S a,S b]) (.agg #[S c,S d])).run Tryz.prog w=.ok (a==c&&b==d) w:=by
 have h9:Tryz.prog.underlying 9=some .string:=(inferInstance:jD Tryz.prog 9 _).h;have h35:Tryz.prog.underlying 35=some (.array 2 9):=(inferInstance:jD Tryz.prog 35 _).h;have ha:py Tryz.prog 9=some false:=(inferInstance:iI Tryz.prog 9 false).h;have hc:Tryz.prog.cellsOf 9=1:=by kernel_rfl
 have hz:xA Tryz.prog 9=some 1:=(inferInstance:mr Tryz.prog 9 1).h;obtain ⟨i,hi⟩:∃ i,Tryz.prog.info? 9=some i:=by
  unfold xA at hz;cases q:Tryz.prog.info? 9 with
  | none=>simp[q] at hz
  | some i=>exact ⟨i,rfl⟩
 have p0:∀ x y:ByS,(part 9 #[S x,S y] 0).run Tryz.prog w=.ok (S x) w:=λx y=>pa w ha rfl;have p1:∀ x y:ByS,(part 9 #[S x,S y] 1).run Tryz.prog w=.ok (S y) w:=λx y=>pa w ha rfl;have e:∀ x y:ByS,(Op.equalIn 9999 9 (S x) (S y)).run Tryz.prog w=.ok (x==y) w:=F3 h9 9998 w;rw[show (10000:Nat)=9999+1 from rfl,run_equalIn_array w 9999 _ _ h35 hi,hc];simp only[List.range,List.range.loop,Op.eqItems,Sem.run_bind,Nat.zero_mul,Nat.one_mul,p0,e,Result.andThen_ok];cases a==c
 ·simp
 simp only[Bool.not_true,Bool.false_eq_true,if_false,Sem.run_bind,p1,e,Result.andThen_ok];cases b==d<;>simp
theorem I0 (w:World) (a b c d a' b' c' d':Int):(Op.equalIn 10000 134 (.agg #[.int .u64 a,.int .u64 b,.int .u64 c,.int .u64 d]) (.agg #[.int .u64 a',.int .u64 b',.int .u64 c',.int .u64 d'])).run Tryz.prog w=.ok ([a,b,c,d]==[a',b',c',d']) w:=by
 have h44:Tryz.prog.underlying 44=some (.int .u64):=(inferInstance:jD Tryz.prog 44 _).h;have h134:Tryz.prog.underlying 134=some (.array 4 44):=(inferInstance:jD Tryz.prog 134 _).h;have ha:py Tryz.prog 44=some false:=(inferInstance:iI Tryz.prog 44 false).h;have hc:Tryz.prog.cellsOf 44=1:=by kernel_rfl
 have hz:xA Tryz.prog 44=some 1:=(inferInstance:mr Tryz.prog 44 1).h;obtain ⟨i,hi⟩:∃ i,Tryz.prog.info? 44=some i:=by
  unfold xA at hz;cases q:Tryz.prog.info? 44 with
  | none=>simp[q] at hz
  | some i=>exact ⟨i,rfl⟩
 have p0:∀ a b c d:Int,(part 44 #[.int .u64 a,.int .u64 b,.int .u64 c,.int .u64 d] 0).run Tryz.prog w=.ok (.int .u64 a) w:=λ_ _ _ _=>pa w ha rfl;have p1:∀ a b c d:Int,(part 44 #[.int .u64 a,.int .u64 b,.int .u64 c,.int .u64 d] 1).run Tryz.prog w=.ok (.int .u64 b) w:=λ_ _ _ _=>pa w ha rfl;have p2:∀ a b c d:Int,(part 44 #[.int .u64 a,.int .u64 b,.int .u64 c,.int .u64 d] 2).run Tryz.prog w=.ok (.int .u64 c) w:=λ_ _ _ _=>pa w ha rfl;have p3:∀ a b c d:Int,(part 44 #[.int .u64 a,.int .u64 b,.int .u64 c,.int .u64 d] 3).run Tryz.prog w=.ok (.int .u64 d) w:=λ_ _ _ _=>pa w ha rfl;have e:∀ x y:Int,(Op.equalIn 9999 44 (.int .u64 x) (.int .u64 y)).run Tryz.prog w=.ok (x==y) w:=λx y=>run_equalIn_int w 9998 44 _ _ x y h44;rw[show (10000:Nat)=9999+1 from rfl,run_equalIn_array w 9999 _ _ h134 hi,hc];have l:([a,b,c,d]==[a',b',c',d'])=(a==a'&&(b==b'&&(c==c'&&d==d'))):=by simp[List.cons_beq_cons]
 rw[l];simp only[List.range,List.range.loop,Op.eqItems,Sem.run_bind,Nat.zero_mul,Nat.one_mul,p0,e,Result.andThen_ok];cases a==a'
 ·simp
 simp only[Bool.not_true,Bool.false_eq_true,if_false,Sem.run_bind,p1,e,Result.andThen_ok];cases b==b'
 ·simp
 simp only[Bool.not_true,Bool.false_eq_true,if_false,Sem.run_bind,show 2*1=2 from rfl,p2,e,Result.andThen_ok];cases c==c'
 ·simp
 simp only[Bool.not_true,Bool.false_eq_true,if_false,Sem.run_bind,show 3*1=3 from rfl,p3,e,Result.andThen_ok];cases d==d'<;>simp
theorem Ju:Tryz.prog.eqGuardType Tryz.prog.depth 134=false:=by kernel_rfl
theorem Jv (w:World) (a b c d:Int) (kd:Tryz.prog.underlying 28=some (.int .i64)):(Op.equalIn 10000 30 (.agg #[.int .i64 a,.int .i64 b]) (.agg #[.int .i64 c,.int .i64 d])).run Tryz.prog w=.ok (a==c&&b==d) w:=by
 have h3:Tryz.prog.underlying 3=some (.int .i64):=(inferInstance:jD Tryz.prog 3 _).h;have h3':py Tryz.prog 3=some false:=(inferInstance:iI Tryz.prog 3 false).h;have h28':py Tryz.prog 28=some false:=(inferInstance:iI Tryz.prog 28 false).h;have hf:(Tryz.prog.fieldsOf 30).toList.map (λf=>(decide (f.name = "_"),f.type,f.offset))=[(false,28,0),(false,3,1)]:=by kernel_rfl
 have ht:Tryz.prog.underlying 30=some (.struct (Tryz.prog.fieldsOf 30)):=by unfold Program.fieldsOf;rw[Tryz.underlying30]
 have hp:Tryz.prog.stoodInHeld 30=false:=by kernel_rfl
 have e28:∀ x y:Int,(Op.equalIn 9999 28 (.int .i64 x) (.int .i64 y)).run Tryz.prog w=.ok (x==y) w:=λx y=>run_equalIn_int w 9998 28 _ _ x y kd;have e3:∀ x y:Int,(Op.equalIn 9999 3 (.int .i64 x) (.int .i64 y)).run Tryz.prog w=.ok (x==y) w:=λx y=>run_equalIn_int w 9998 3 _ _ x y h3;have p0:∀ x y:Int,(part 28 #[.int .i64 x,.int .i64 y] 0).run Tryz.prog w=.ok (.int .i64 x) w:=λx y=>pa w h28' rfl;have p1:∀ x y:Int,(part 3 #[.int .i64 x,.int .i64 y] 1).run Tryz.prog w=.ok (.int .i64 y) w:=λx y=>pa w h3' rfl;rw[show (10000:Nat)=9999+1 from rfl,run_equalIn_struct w 9999 30 _ _ ht hp];generalize (Tryz.prog.fieldsOf 30).toList=fs at hf;obtain ⟨f1,f2,rfl⟩:∃ f1 f2,fs=[f1,f2]:=by
  have:=congrArg List.length hf;rw[List.length_map] at this;rcases fs with _|⟨a,_|⟨b,_|⟨c,t⟩⟩⟩
  ·cases this
  ·cases this
  ·exact ⟨_,_,rfl⟩
  simp at this
 simp only[List.map_cons,List.map_nil,List.cons.injEq,Prod.mk.injEq,decide_eq_false_iff_not,and_true] at hf;obtain ⟨⟨n1,t1,o1⟩,n2,t2,o2⟩:=hf;simp only[Op.eqFields,n1,n2,ne_eq,not_false_eq_true,if_true,t1,t2,o1,o2,Sem.run_bind,p0,e28,Result.andThen_ok];cases a==c
 ·simp
 simp only[Bool.not_true,Bool.false_eq_true,if_false,Sem.run_bind,p1,e3,Result.andThen_ok];cases b==d<;>simp
theorem JO:Tryz.prog.eqGuardType Tryz.prog.depth 30=false:=by kernel_rfl
theorem JJ:Tryz.prog.eqGuardType Tryz.prog.depth 35=false:=by kernel_rfl
section
variable {l:List (Nat×AV)} {ds:List (FuncId×List AV)} {s:List (Nat×M)}
theorem VR.zN {g:Gh} {xs:List Value} {c:Value} (h:VR g (.agg (xs.map λv=>.pv (.sc v))) c):c=.agg xs.toArray:=by
 cases h with
 | agg h=>
  congr 2
  rename_i vs
  induction xs generalizing vs with
  | nil=>cases h;rfl
  | cons x xs ih=>
   cases h with
   | cons h t=>
    cases h with
    | pv h=>cases h;rw[ih t]
theorem A9 {t yt:TypeId} {fr:eu} {x y:Operand} {xs ys:List Value} {r:Bool} (hg:Tryz.prog.eqGuardType Tryz.prog.depth t=false)
  (hx:fr.val x=.agg (xs.map λv=>.pv (.sc v))) (hy:fr.val y=.agg (ys.map λv=>.pv (.sc v))) (h:∀ w,(Op.equalIn 10000 t (.agg xs.toArray) (.agg ys.toArray)).run Tryz.prog w=.ok r w) :
  fY Tryz.prog (.binOp .eql t x y yt) fr [] (Bo r):=by
 intro o ho g ev w hG hv _
 have q1:=hv x (by simp[Op.operands]);rw[hx] at q1
 have q2:=hv y (by simp[Op.operands]);rw[hy] at q2
 exact ⟨.bool r,by simp only[execOp,ho,q1.zN,q2.zN,Sem.run_bind,run_eqGuard_agg w .eql t x y _ _ hg,Result.andThen_ok,run_eql_struct,h,Sem.run_pure],.pv (.sc _)⟩
theorem Ba {t yt:TypeId} {fr:eu} {x y:Operand} {xs ys:List Value} {r:Bool} (hg:Tryz.prog.eqGuardType Tryz.prog.depth t=false)
  (hx:fr.val x=.agg (xs.map λv=>.pv (.sc v))) (hy:fr.val y=.agg (ys.map λv=>.pv (.sc v))) (h:∀ w,(Op.equalIn 10000 t (.agg xs.toArray) (.agg ys.toArray)).run Tryz.prog w=.ok r w) :
  fY Tryz.prog (.binOp .neq t x y yt) fr [] (Bo (!r)):=by
 intro o ho g ev w hG hv _
 have q1:=hv x (by simp[Op.operands]);rw[hx] at q1
 have q2:=hv y (by simp[Op.operands]);rw[hy] at q2
 exact ⟨.bool !r,by simp only[execOp,ho,q1.zN,q2.zN,Sem.run_bind,run_eqGuard_agg w .neq t x y _ _ hg,Result.andThen_ok,run_neq_struct,h,Sem.run_pure],.pv (.sc _)⟩
theorem H4 {yt:TypeId} {x y:Operand} {a b c d:ByS} (hx:bI l x=some (.agg [F a,F b])) (hy:bI l y=some (.agg [F c,F d])):iW Tryz.prog (.binOp .eql 35 x y yt) l ds s (Bo (a==c&&b==d)) []:=
 .of (A9 (xs:=[S a,S b]) (ys:=[S c,S d]) JJ (aD hx) (aD hy) λw=>IZ w a b c d)
theorem EJ {yt:TypeId} {x y:Operand} {a b c d:ByS} (hx:bI l x=some (.agg [F a,F b])) (hy:bI l y=some (.agg [F c,F d])):iW Tryz.prog (.binOp .neq 35 x y yt) l ds s (Bo (!(a==c&&b==d))) []:=
 .of (Ba (xs:=[S a,S b]) (ys:=[S c,S d]) JJ (aD hx) (aD hy) λw=>IZ w a b c d)
theorem H5 {yt:TypeId} {x y:Operand} {a b c d a' b' c' d':Int} (hx:bI l x=some (.agg [Sc (.int .u64 a),Sc (.int .u64 b),Sc (.int .u64 c),Sc (.int .u64 d)])) (hy:bI l y=some (.agg [Sc (.int .u64 a'),Sc (.int .u64 b'),Sc (.int .u64 c'),Sc (.int .u64 d')])) :
  iW Tryz.prog (.binOp .neq 134 x y yt) l ds s (Bo (!([a,b,c,d]==[a',b',c',d']))) []:=
 .of (Ba (xs:=[.int .u64 a,.int .u64 b,.int .u64 c,.int .u64 d]) (ys:=[.int .u64 a',.int .u64 b',.int .u64 c',.int .u64 d']) Ju (aD hx) (aD hy) λw=>I0 w ..)
theorem Hf {yt:TypeId} {x y:Operand} {a b c d:Int} (hx:bI l x=some (.agg [I a,I b])) (hy:bI l y=some (.agg [I c,I d])):iW Tryz.prog (.binOp .eql 30 x y yt) l ds s (Bo (a==c&&b==d)) []:=
 .of (A9 (xs:=[.int .i64 a,.int .i64 b]) (ys:=[.int .i64 c,.int .i64 d]) JO (aD hx) (aD hy) λw=>Jv w a b c d (inferInstance:jD Tryz.prog 28 (.int .i64)).h)
end
end Go.Abs
end
section
namespace Go.Proofs
open Go.Shelf
def Tryz.Bb:Go.Shelf.Ren:=⟨λ|137=>296|217=>224|266=>248|n=>n,λ|9=>9|5=>5|3=>3|n=>n,λ|n=>n⟩
theorem Tryz.F4:Go.Proofs.Lays.n137 Tryz.prog Tryz.Bb:={
 mixed:=by kernel_rfl
 f137:=Tryz.func296.trans (congrArg some (by kernel_rfl))
 f217:=Tryz.func224.trans (congrArg some (by kernel_rfl))
 f266:=Tryz.func248.trans (congrArg some (by kernel_rfl))
 t3:=Tryz.underlying3
 a3:=Tryz.isAgg3
 z3:=Tryz.sizeOf3
 v3:=Tryz.zeroValue3
 t5:=Tryz.underlying5
 a5:=Tryz.isAgg5
 z5:=Tryz.sizeOf5
 v5:=Tryz.zeroValue5
 t9:=Tryz.underlying9
 a9:=Tryz.isAgg9
 z9:=Tryz.sizeOf9
 v9:=Tryz.zeroValue9 }
open Go.RowKit in
theorem Tryz.strings_IndexByte (s:ByteArray) (c:Int) (w:World) :
 Calls Tryz.prog 296 #[.string s,.int .u8 c] w λe w'=>e=.returned (.int .i64 (Lib.indexByte s.data.toList c.toNat.toUInt8))/\w'=w:=Any.strings_IndexByte Tryz.F4 s c w
def Tryz.Bc:Go.Shelf.Ren:=⟨λ|283=>255|n=>n,λ|3=>3|9=>9|4=>4|n=>n,λ|n=>n⟩
theorem Tryz.F5:Go.Proofs.Lays.n283 Tryz.prog Tryz.Bc:={
 mixed:=by kernel_rfl
 f283:=Tryz.func255.trans (congrArg some (by kernel_rfl))
 t3:=Tryz.underlying3
 a3:=Tryz.isAgg3
 z3:=Tryz.sizeOf3
 v3:=Tryz.zeroValue3
 t4:=Tryz.underlying4
 a4:=Tryz.isAgg4
 z4:=Tryz.sizeOf4
 v4:=Tryz.zeroValue4
 t9:=Tryz.underlying9
 a9:=Tryz.isAgg9
 z9:=Tryz.sizeOf9
 v9:=Tryz.zeroValue9 }
open Go.Lib in
theorem Tryz.internal_strconv_small (i:Nat) (h:i<100) (w:World) :
 Calls Tryz.prog 255 #[.int .i64 i] w λe w'=>e=.returned (.string ⟨(Lib.decDigits i).toArray⟩)/\w'=w:=Any.internal_strconv_small Tryz.F5 i h w
def Tryz.zO:Go.Shelf.Ren:=⟨λ|284=>256|129=>270|317=>269|318=>271|n=>n,λ|53=>44|3=>3|212=>237|0=>0|4=>4|46=>79|5=>5|9=>9|n=>n,λ|17=>3|n=>n⟩
theorem Tryz.EK:Go.Proofs.LaysM.n284 Tryz.prog Tryz.zO:={
 mixed:=by kernel_rfl
 f129:=Tryz.func270.trans (congrArg some (by kernel_rfl))
 f284:=Tryz.func256.trans (congrArg some (by kernel_rfl))
 f317:=Tryz.func269.trans (congrArg some (by kernel_rfl))
 f318:=Tryz.func271.trans (congrArg some (by kernel_rfl))
 t0:=Tryz.underlying0
 a0:=Tryz.isAgg0
 z0:=Tryz.sizeOf0
 v0:=Tryz.zeroValue0
 t3:=Tryz.underlying3
 a3:=Tryz.isAgg3
 z3:=Tryz.sizeOf3
 v3:=Tryz.zeroValue3
 t4:=Tryz.underlying4
 a4:=Tryz.isAgg4
 z4:=Tryz.sizeOf4
 v4:=Tryz.zeroValue4
 t5:=Tryz.underlying5
 a5:=Tryz.isAgg5
 z5:=Tryz.sizeOf5
 v5:=Tryz.zeroValue5
 t9:=Tryz.underlying9
 a9:=Tryz.isAgg9
 z9:=Tryz.sizeOf9
 v9:=Tryz.zeroValue9
 t46:=Tryz.underlying79
 a46:=Tryz.isAgg79
 z46:=Tryz.sizeOf79
 v46:=Tryz.zeroValue79
 t53:=Tryz.underlying44
 a53:=Tryz.isAgg44
 z53:=Tryz.sizeOf44
 v53:=Tryz.zeroValue44
 t212:=Tryz.underlying237
 a212:=Tryz.isAgg237
 z212:=Tryz.sizeOf237
 v212:=Tryz.zeroValue237
 g17:=by kernel_rfl
 i0:=by kernel_rfl
 i3:=by kernel_rfl
 i4:=by kernel_rfl
 i5:=by kernel_rfl
 i9:=by kernel_rfl
 i46:=by kernel_rfl
 i53:=by kernel_rfl
 i212:=by kernel_rfl
 m17:=by kernel_rfl }
open Go.Lib in
theorem Tryz.internal_strconv_numDigits (u:Nat) (h1:1<=u) (h2:u<18446744073709551616) (w:World) (htab:Lib.TabIs Tryz.prog w "internal/strconv.uint64pow10" .u64 Lib.pow10Tab) :
 Calls Tryz.prog 256 #[.int .u64 u] w λe w'=>e=.returned (.int .i64 (Lib.nDigits u))/\w'=w:=Any.internal_strconv_numDigits Tryz.EK u h1 h2 w htab
def Tryz.Bd:Go.Shelf.Ren:=⟨λ|285=>257|n=>n,λ|37=>181|53=>44|3=>3|4=>4|51=>194|9=>9|5=>5|0=>0|n=>n,λ|n=>n⟩
theorem Tryz.F6:Go.Proofs.Lays.n285 Tryz.prog Tryz.Bd:={
 mixed:=by kernel_rfl
 f285:=Tryz.func257.trans (congrArg some (by kernel_rfl))
 t0:=Tryz.underlying0
 a0:=Tryz.isAgg0
 z0:=Tryz.sizeOf0
 v0:=Tryz.zeroValue0
 t3:=Tryz.underlying3
 a3:=Tryz.isAgg3
 z3:=Tryz.sizeOf3
 v3:=Tryz.zeroValue3
 t4:=Tryz.underlying4
 a4:=Tryz.isAgg4
 z4:=Tryz.sizeOf4
 v4:=Tryz.zeroValue4
 t5:=Tryz.underlying5
 a5:=Tryz.isAgg5
 z5:=Tryz.sizeOf5
 v5:=Tryz.zeroValue5
 t9:=Tryz.underlying9
 a9:=Tryz.isAgg9
 z9:=Tryz.sizeOf9
 v9:=Tryz.zeroValue9
 t37:=Tryz.underlying181
 a37:=Tryz.isAgg181
 z37:=Tryz.sizeOf181
 v37:=Tryz.zeroValue181
 t51:=Tryz.underlying194
 a51:=Tryz.isAgg194
 z51:=Tryz.sizeOf194
 v51:=Tryz.zeroValue194
 t53:=Tryz.underlying44
 a53:=Tryz.isAgg44
 z53:=Tryz.sizeOf44
 v53:=Tryz.zeroValue44 }
open Go.RowKit Go.Sort Go.Lib in
theorem Tryz.internal_strconv_formatBase10 (blk off cap:Nat) (u:Nat) (d:Array UInt8) (w:World) (hH:Holds (λ(b:UInt8)=>Value.int .u8 (b.toNat:Int)) w blk off d) (hu:u<10 ^ d.size) (hu64:u<18446744073709551616) (hsz:d.size<4611686018427387904) :
 Calls Tryz.prog 257 #[.slice (some ⟨blk,off,none⟩) d.size cap,.int .u64 u] w λe w'=>
  e=.returned (.tuple #[])/\∃ (n v':Nat) (dk:Array UInt8),w'=(putRow (λ(b:UInt8)=>Value.int .u8 (b.toNat:Int)) w blk off dk).drewN n/\FmtInv d.size u 0 v' dk:=Any.internal_strconv_formatBase10 Tryz.F6 blk off cap u d w hH hu hu64 hsz
def Tryz.zP:Go.Shelf.Ren:=⟨λ|245=>191|279=>229|280=>230|281=>231|282=>232|316=>252|171=>254|205=>253|243=>268|246=>287|283=>255|284=>256|285=>257|286=>258|129=>270|317=>269|318=>271|319=>272|320=>273|337=>288|338=>289|n=>n,λ|9=>9|3=>3|75=>150|167=>213|4=>4|168=>216|210=>223|37=>181|0=>0|127=>232|145=>235|143=>233|2=>2|171=>225|53=>44|5=>5|173=>228|212=>237|51=>194|20=>20|213=>238|46=>79|232=>258|233=>259|80=>90|n=>n,λ|15=>1|16=>2|17=>3|18=>6|19=>7|n=>n⟩
theorem Tryz.Be:Go.Proofs.LaysC.n245 Tryz.prog Tryz.zP:={
 mixed:=by kernel_rfl
 f129:=Tryz.func270.trans (congrArg some (by kernel_rfl))
 f171:=Tryz.func254.trans (congrArg some (by kernel_rfl))
 f205:=Tryz.func253.trans (congrArg some (by kernel_rfl))
 f243:=Tryz.func268.trans (congrArg some (by kernel_rfl))
 f245:=Tryz.func191.trans (congrArg some (by kernel_rfl))
 f246:=Tryz.func287.trans (congrArg some (by kernel_rfl))
 f279:=Tryz.func229.trans (congrArg some (by kernel_rfl))
 f280:=Tryz.func230.trans (congrArg some (by kernel_rfl))
 f281:=Tryz.func231.trans (congrArg some (by kernel_rfl))
 f282:=Tryz.func232.trans (congrArg some (by kernel_rfl))
 f283:=Tryz.func255.trans (congrArg some (by kernel_rfl))
 f284:=Tryz.func256.trans (congrArg some (by kernel_rfl))
 f285:=Tryz.func257.trans (congrArg some (by kernel_rfl))
 f286:=Tryz.func258.trans (congrArg some (by kernel_rfl))
 f316:=Tryz.func252.trans (congrArg some (by kernel_rfl))
 f317:=Tryz.func269.trans (congrArg some (by kernel_rfl))
 f318:=Tryz.func271.trans (congrArg some (by kernel_rfl))
 f319:=Tryz.func272.trans (congrArg some (by kernel_rfl))
 f320:=Tryz.func273.trans (congrArg some (by kernel_rfl))
 f337:=Tryz.func288.trans (congrArg some (by kernel_rfl))
 f338:=Tryz.func289.trans (congrArg some (by kernel_rfl))
 t0:=Tryz.underlying0
 a0:=Tryz.isAgg0
 z0:=Tryz.sizeOf0
 v0:=Tryz.zeroValue0
 t2:=Tryz.underlying2
 a2:=Tryz.isAgg2
 z2:=Tryz.sizeOf2
 v2:=Tryz.zeroValue2
 t3:=Tryz.underlying3
 a3:=Tryz.isAgg3
 z3:=Tryz.sizeOf3
 v3:=Tryz.zeroValue3
 t4:=Tryz.underlying4
 a4:=Tryz.isAgg4
 z4:=Tryz.sizeOf4
 v4:=Tryz.zeroValue4
 t5:=Tryz.underlying5
 a5:=Tryz.isAgg5
 z5:=Tryz.sizeOf5
 v5:=Tryz.zeroValue5
 t9:=Tryz.underlying9
 a9:=Tryz.isAgg9
 z9:=Tryz.sizeOf9
 v9:=Tryz.zeroValue9
 t20:=Tryz.underlying20
 a20:=Tryz.isAgg20
 z20:=Tryz.sizeOf20
 v20:=Tryz.zeroValue20
 t37:=Tryz.underlying181
 a37:=Tryz.isAgg181
 z37:=Tryz.sizeOf181
 v37:=Tryz.zeroValue181
 t46:=Tryz.underlying79
 a46:=Tryz.isAgg79
 z46:=Tryz.sizeOf79
 v46:=Tryz.zeroValue79
 t51:=Tryz.underlying194
 a51:=Tryz.isAgg194
 z51:=Tryz.sizeOf194
 v51:=Tryz.zeroValue194
 t53:=Tryz.underlying44
 a53:=Tryz.isAgg44
 z53:=Tryz.sizeOf44
 v53:=Tryz.zeroValue44
 t75:=Tryz.underlying150
 a75:=Tryz.isAgg150
 z75:=Tryz.sizeOf150
 v75:=Tryz.zeroValue150
 t127:=Tryz.underlying232
 a127:=Tryz.isAgg232
 z127:=Tryz.sizeOf232
 v127:=Tryz.zeroValue232
 t143:=Tryz.underlying233
 a143:=Tryz.isAgg233
 z143:=Tryz.sizeOf233
 v143:=Tryz.zeroValue233
 t145:=Tryz.underlying235
 a145:=Tryz.isAgg235
 z145:=Tryz.sizeOf235
 v145:=Tryz.zeroValue235
 t167:=Tryz.underlying213
 a167:=Tryz.isAgg213
 z167:=Tryz.sizeOf213
 v167:=Tryz.zeroValue213
 t168:=Tryz.underlying216
 a168:=Tryz.isAgg216
 z168:=Tryz.sizeOf216
 v168:=Tryz.zeroValue216
 t171:=Tryz.underlying225
 a171:=Tryz.isAgg225
 z171:=Tryz.sizeOf225
 v171:=Tryz.zeroValue225
 t173:=Tryz.underlying228
 a173:=Tryz.isAgg228
 z173:=Tryz.sizeOf228
 v173:=Tryz.zeroValue228
 t210:=Tryz.underlying223
 a210:=Tryz.isAgg223
 z210:=Tryz.sizeOf223
 v210:=Tryz.zeroValue223
 t212:=Tryz.underlying237
 a212:=Tryz.isAgg237
 z212:=Tryz.sizeOf237
 v212:=Tryz.zeroValue237
 t213:=Tryz.underlying238
 a213:=Tryz.isAgg238
 z213:=Tryz.sizeOf238
 t232:=Tryz.underlying258
 a232:=Tryz.isAgg258
 z232:=Tryz.sizeOf258
 v232:=Tryz.zeroValue258
 t233:=Tryz.underlying259
 a233:=Tryz.isAgg259
 z233:=Tryz.sizeOf259
 v233:=Tryz.zeroValue259
 g15:=by kernel_rfl
 g16:=by kernel_rfl
 g17:=by kernel_rfl
 g18:=by kernel_rfl
 g19:=by kernel_rfl
 t80:=Tryz.underlying90
 a80:=Tryz.isAgg90
 z80:=Tryz.sizeOf90
 v80:=Tryz.zeroValue90
 i0:=by kernel_rfl
 i2:=by kernel_rfl
 i3:=by kernel_rfl
 i4:=by kernel_rfl
 i5:=by kernel_rfl
 i9:=by kernel_rfl
 i20:=by kernel_rfl
 i37:=by kernel_rfl
 i46:=by kernel_rfl
 i51:=by kernel_rfl
 i53:=by kernel_rfl
 i75:=by kernel_rfl
 i80:=by kernel_rfl
 i127:=by kernel_rfl
 i143:=by kernel_rfl
 i145:=by kernel_rfl
 i167:=by kernel_rfl
 i168:=by kernel_rfl
 i171:=by kernel_rfl
 i173:=by kernel_rfl
 i210:=by kernel_rfl
 i212:=by kernel_rfl
 i232:=by kernel_rfl
 i233:=by kernel_rfl
 m15:=by kernel_rfl
 m16:=by kernel_rfl
 m17:=by kernel_rfl
 m18:=by kernel_rfl
 m19:=by kernel_rfl
 c0:=by kernel_rfl
 c2:=by kernel_rfl
 c3:=by kernel_rfl
 c4:=by kernel_rfl
 c5:=by kernel_rfl
 c9:=by kernel_rfl
 c20:=by kernel_rfl
 c37:=by kernel_rfl
 c46:=by kernel_rfl
 c51:=by kernel_rfl
 c53:=by kernel_rfl
 c75:=by kernel_rfl
 c80:=by kernel_rfl
 c127:=by kernel_rfl
 c143:=by kernel_rfl
 c145:=by kernel_rfl
 c167:=by kernel_rfl
 c168:=by kernel_rfl
 c171:=by kernel_rfl
 c173:=by kernel_rfl
 c210:=by kernel_rfl
 c212:=by kernel_rfl
 c213:=by kernel_rfl
 c232:=by kernel_rfl
 c233:=by kernel_rfl }
open Go.RowKit in
theorem Tryz.strconv_toError_syntax (fn s:ByteArray) (base bits:Int) (ev:Value) (w:World) (hlim:s.size<=281474976710656) (hv:w.cell? ⟨1,0,none⟩=some ev) (hev:ev=.nilIface\/∃ te pe,ev=.iface te pe) :
 Calls Tryz.prog 191 #[.string fn,.string s,.int .i64 base,.int .i64 bits,.iface 213 (.int .i64 2)] w λe w'=>∃ N,e=.returned (.iface 216 (.pointer (some ⟨N,0,none⟩)))/\w.heap.size<=N/\w'.heap[N]?=some (.cells #[.string fn,.string s,ev] 223 (0,0))/\Below w.heap.size w w':=Any.strconv_toError_syntax Tryz.Be fn s base bits ev w hlim hv hev
open Go.RowKit in
theorem Tryz.strconv_toError_range (fn s:ByteArray) (base bits:Int) (ev:Value) (w:World) (hlim:s.size<=281474976710656) (hv:w.cell? ⟨2,0,none⟩=some ev) (hev:ev=.nilIface\/∃ te pe,ev=.iface te pe) :
 Calls Tryz.prog 191 #[.string fn,.string s,.int .i64 base,.int .i64 bits,.iface 213 (.int .i64 1)] w λe w'=>∃ N,e=.returned (.iface 216 (.pointer (some ⟨N,0,none⟩)))/\w.heap.size<=N/\w'.heap[N]?=some (.cells #[.string fn,.string s,ev] 223 (0,0))/\Below w.heap.size w w':=Any.strconv_toError_range Tryz.Be fn s base bits ev w hlim hv hev
def Tryz.zR:Go.Shelf.Ren:=⟨λ|174=>140|247=>190|245=>191|287=>228|279=>229|280=>230|281=>231|282=>232|321=>250|322=>251|316=>252|171=>254|205=>253|243=>268|246=>287|283=>255|284=>256|285=>257|286=>258|129=>270|317=>269|318=>271|319=>272|320=>273|337=>288|338=>289|n=>n,λ|9=>9|3=>3|2=>2|75=>150|85=>151|4=>4|167=>213|5=>5|53=>44|175=>214|46=>79|168=>216|37=>181|0=>0|210=>223|21=>21|127=>232|145=>235|143=>233|171=>225|173=>228|212=>237|51=>194|20=>20|213=>238|232=>258|233=>259|80=>90|n=>n,λ|15=>1|16=>2|17=>3|18=>6|19=>7|n=>n⟩
theorem Tryz.wX:Go.Proofs.LaysC.n174 Tryz.prog Tryz.zR:={
 mixed:=by kernel_rfl
 f129:=Tryz.func270.trans (congrArg some (by kernel_rfl))
 f171:=Tryz.func254.trans (congrArg some (by kernel_rfl))
 f174:=Tryz.func140.trans (congrArg some (by kernel_rfl))
 f205:=Tryz.func253.trans (congrArg some (by kernel_rfl))
 f243:=Tryz.func268.trans (congrArg some (by kernel_rfl))
 f245:=Tryz.func191.trans (congrArg some (by kernel_rfl))
 f246:=Tryz.func287.trans (congrArg some (by kernel_rfl))
 f247:=Tryz.func190.trans (congrArg some (by kernel_rfl))
 f279:=Tryz.func229.trans (congrArg some (by kernel_rfl))
 f280:=Tryz.func230.trans (congrArg some (by kernel_rfl))
 f281:=Tryz.func231.trans (congrArg some (by kernel_rfl))
 f282:=Tryz.func232.trans (congrArg some (by kernel_rfl))
 f283:=Tryz.func255.trans (congrArg some (by kernel_rfl))
 f284:=Tryz.func256.trans (congrArg some (by kernel_rfl))
 f285:=Tryz.func257.trans (congrArg some (by kernel_rfl))
 f286:=Tryz.func258.trans (congrArg some (by kernel_rfl))
 f287:=Tryz.func228.trans (congrArg some (by kernel_rfl))
 f316:=Tryz.func252.trans (congrArg some (by kernel_rfl))
 f317:=Tryz.func269.trans (congrArg some (by kernel_rfl))
 f318:=Tryz.func271.trans (congrArg some (by kernel_rfl))
 f319:=Tryz.func272.trans (congrArg some (by kernel_rfl))
 f320:=Tryz.func273.trans (congrArg some (by kernel_rfl))
 f321:=Tryz.func250.trans (congrArg some (by kernel_rfl))
 f322:=Tryz.func251.trans (congrArg some (by kernel_rfl))
 f337:=Tryz.func288.trans (congrArg some (by kernel_rfl))
 f338:=Tryz.func289.trans (congrArg some (by kernel_rfl))
 t0:=Tryz.underlying0
 a0:=Tryz.isAgg0
 z0:=Tryz.sizeOf0
 v0:=Tryz.zeroValue0
 t2:=Tryz.underlying2
 a2:=Tryz.isAgg2
 z2:=Tryz.sizeOf2
 v2:=Tryz.zeroValue2
 t3:=Tryz.underlying3
 a3:=Tryz.isAgg3
 z3:=Tryz.sizeOf3
 v3:=Tryz.zeroValue3
 t4:=Tryz.underlying4
 a4:=Tryz.isAgg4
 z4:=Tryz.sizeOf4
 v4:=Tryz.zeroValue4
 t5:=Tryz.underlying5
 a5:=Tryz.isAgg5
 z5:=Tryz.sizeOf5
 v5:=Tryz.zeroValue5
 t9:=Tryz.underlying9
 a9:=Tryz.isAgg9
 z9:=Tryz.sizeOf9
 v9:=Tryz.zeroValue9
 t20:=Tryz.underlying20
 a20:=Tryz.isAgg20
 z20:=Tryz.sizeOf20
 v20:=Tryz.zeroValue20
 t21:=Tryz.underlying21
 a21:=Tryz.isAgg21
 z21:=Tryz.sizeOf21
 v21:=Tryz.zeroValue21
 t37:=Tryz.underlying181
 a37:=Tryz.isAgg181
 z37:=Tryz.sizeOf181
 v37:=Tryz.zeroValue181
 t46:=Tryz.underlying79
 a46:=Tryz.isAgg79
 z46:=Tryz.sizeOf79
 v46:=Tryz.zeroValue79
 t51:=Tryz.underlying194
 a51:=Tryz.isAgg194
 z51:=Tryz.sizeOf194
 v51:=Tryz.zeroValue194
 t53:=Tryz.underlying44
 a53:=Tryz.isAgg44
 z53:=Tryz.sizeOf44
 v53:=Tryz.zeroValue44
 t75:=Tryz.underlying150
 a75:=Tryz.isAgg150
 z75:=Tryz.sizeOf150
 v75:=Tryz.zeroValue150
 t85:=Tryz.underlying151
 a85:=Tryz.isAgg151
 z85:=Tryz.sizeOf151
 v85:=Tryz.zeroValue151
 t127:=Tryz.underlying232
 a127:=Tryz.isAgg232
 z127:=Tryz.sizeOf232
 v127:=Tryz.zeroValue232
 t143:=Tryz.underlying233
 a143:=Tryz.isAgg233
 z143:=Tryz.sizeOf233
 v143:=Tryz.zeroValue233
 t145:=Tryz.underlying235
 a145:=Tryz.isAgg235
 z145:=Tryz.sizeOf235
 v145:=Tryz.zeroValue235
 t167:=Tryz.underlying213
 a167:=Tryz.isAgg213
 z167:=Tryz.sizeOf213
 v167:=Tryz.zeroValue213
 t168:=Tryz.underlying216
 a168:=Tryz.isAgg216
 z168:=Tryz.sizeOf216
 v168:=Tryz.zeroValue216
 t171:=Tryz.underlying225
 a171:=Tryz.isAgg225
 z171:=Tryz.sizeOf225
 v171:=Tryz.zeroValue225
 t173:=Tryz.underlying228
 a173:=Tryz.isAgg228
 z173:=Tryz.sizeOf228
 v173:=Tryz.zeroValue228
 t175:=Tryz.underlying214
 a175:=Tryz.isAgg214
 z175:=Tryz.sizeOf214
 v175:=Tryz.zeroValue214
 t210:=Tryz.underlying223
 a210:=Tryz.isAgg223
 z210:=Tryz.sizeOf223
 v210:=Tryz.zeroValue223
 t212:=Tryz.underlying237
 a212:=Tryz.isAgg237
 z212:=Tryz.sizeOf237
 v212:=Tryz.zeroValue237
 t213:=Tryz.underlying238
 a213:=Tryz.isAgg238
 z213:=Tryz.sizeOf238
 t232:=Tryz.underlying258
 a232:=Tryz.isAgg258
 z232:=Tryz.sizeOf258
 v232:=Tryz.zeroValue258
 t233:=Tryz.underlying259
 a233:=Tryz.isAgg259
 z233:=Tryz.sizeOf259
 v233:=Tryz.zeroValue259
 g15:=by kernel_rfl
 g16:=by kernel_rfl
 g17:=by kernel_rfl
 g18:=by kernel_rfl
 g19:=by kernel_rfl
 t80:=Tryz.underlying90
 a80:=Tryz.isAgg90
 z80:=Tryz.sizeOf90
 v80:=Tryz.zeroValue90
 i0:=by kernel_rfl
 i2:=by kernel_rfl
 i3:=by kernel_rfl
 i4:=by kernel_rfl
 i5:=by kernel_rfl
 i9:=by kernel_rfl
 i20:=by kernel_rfl
 i21:=by kernel_rfl
 i37:=by kernel_rfl
 i46:=by kernel_rfl
 i51:=by kernel_rfl
 i53:=by kernel_rfl
 i75:=by kernel_rfl
 i80:=by kernel_rfl
 i85:=by kernel_rfl
 i127:=by kernel_rfl
 i143:=by kernel_rfl
 i145:=by kernel_rfl
 i167:=by kernel_rfl
 i168:=by kernel_rfl
 i171:=by kernel_rfl
 i173:=by kernel_rfl
 i175:=by kernel_rfl
 i210:=by kernel_rfl
 i212:=by kernel_rfl
 i232:=by kernel_rfl
 i233:=by kernel_rfl
 m15:=by kernel_rfl
 m16:=by kernel_rfl
 m17:=by kernel_rfl
 m18:=by kernel_rfl
 m19:=by kernel_rfl
 c0:=by kernel_rfl
 c2:=by kernel_rfl
 c3:=by kernel_rfl
 c4:=by kernel_rfl
 c5:=by kernel_rfl
 c9:=by kernel_rfl
 c20:=by kernel_rfl
 c21:=by kernel_rfl
 c37:=by kernel_rfl
 c46:=by kernel_rfl
 c51:=by kernel_rfl
 c53:=by kernel_rfl
 c75:=by kernel_rfl
 c80:=by kernel_rfl
 c85:=by kernel_rfl
 c127:=by kernel_rfl
 c143:=by kernel_rfl
 c145:=by kernel_rfl
 c167:=by kernel_rfl
 c168:=by kernel_rfl
 c171:=by kernel_rfl
 c173:=by kernel_rfl
 c175:=by kernel_rfl
 c210:=by kernel_rfl
 c212:=by kernel_rfl
 c213:=by kernel_rfl
 c232:=by kernel_rfl
 c233:=by kernel_rfl }
open Go.RowKit in
theorem Tryz.strconv_ParseInt_10_at64_ok (s:ByteArray) (hmax:s.size<=9223372036854775806) (v:Int) (h:Lib.parseIntB 64 s.data.toList=.ok v) (w:World) :
 Calls Tryz.prog 140 #[.string s,.int .i64 10,.int .i64 64] w λe w'=>e=.returned (.tuple #[.int .i64 v,.nilIface])/\(w'=w\/∃ t,w'=Lib.bytesWorld w 5 t):=Any.strconv_ParseInt_10_at64_ok Tryz.wX s hmax v h w
open Go.RowKit in
theorem Tryz.strconv_ParseInt_10_at64_syntax (s:ByteArray) (hlim:s.size<=281474976710656) (h:Lib.parseIntB 64 s.data.toList=Lib.NumEnd.syntax) (ev:Value) (w:World) (hv:w.cell? ⟨1,0,none⟩=some ev) (hev:ev=.nilIface\/∃ te pe,ev=.iface te pe) :
 Calls Tryz.prog 140 #[.string s,.int .i64 10,.int .i64 64] w λe w'=>∃ N,e=.returned (.tuple #[.int .i64 (0),.iface 216 (.pointer (some ⟨N,0,none⟩))])/\w.heap.size<=N/\w'.heap[N]?=some (.cells #[.string ⟨#[80,97,114,115,101,73,110,116]⟩,.string s,ev] 223 (0,0))/\Below w.heap.size w w':=Any.strconv_ParseInt_10_at64_syntax Tryz.wX s hlim h ev w hv hev
open Go.RowKit in
theorem Tryz.strconv_ParseInt_10_at64_range (s:ByteArray) (hlim:s.size<=281474976710656) (h:Lib.parseIntB 64 s.data.toList=.range) (ev:Value) (w:World) (hv:w.cell? ⟨2,0,none⟩=some ev) (hev:ev=.nilIface\/∃ te pe,ev=.iface te pe) :
 Calls Tryz.prog 140 #[.string s,.int .i64 10,.int .i64 64] w λe w'=>∃ N,e=.returned (.tuple #[.int .i64 (Lib.intSat 64 s.data.toList),.iface 216 (.pointer (some ⟨N,0,none⟩))])/\w.heap.size<=N/\w'.heap[N]?=some (.cells #[.string ⟨#[80,97,114,115,101,73,110,116]⟩,.string s,ev] 223 (0,0))/\Below w.heap.size w w':=Any.strconv_ParseInt_10_at64_range Tryz.wX s hlim h ev w hv hev
def Tryz.Bf:Go.Shelf.Ren:=⟨λ|144=>94|143=>136|219=>189|217=>224|225=>225|224=>226|267=>227|266=>248|314=>249|n=>n,λ|9=>9|4=>4|3=>3|5=>5|46=>79|146=>195|51=>194|n=>n,λ|1=>0|n=>n⟩
theorem Tryz.F7:Go.Proofs.Lays.n144 Tryz.prog Tryz.Bf:={
 mixed:=by kernel_rfl
 f143:=Tryz.func136.trans (congrArg some (by kernel_rfl))
 f144:=Tryz.func94.trans (congrArg some (by kernel_rfl))
 f217:=Tryz.func224.trans (congrArg some (by kernel_rfl))
 f219:=Tryz.func189.trans (congrArg some (by kernel_rfl))
 f224:=Tryz.func226.trans (congrArg some (by kernel_rfl))
 f225:=Tryz.func225.trans (congrArg some (by kernel_rfl))
 f266:=Tryz.func248.trans (congrArg some (by kernel_rfl))
 f267:=Tryz.func227.trans (congrArg some (by kernel_rfl))
 f314:=Tryz.func249.trans (congrArg some (by kernel_rfl))
 t3:=Tryz.underlying3
 a3:=Tryz.isAgg3
 z3:=Tryz.sizeOf3
 v3:=Tryz.zeroValue3
 t4:=Tryz.underlying4
 a4:=Tryz.isAgg4
 z4:=Tryz.sizeOf4
 v4:=Tryz.zeroValue4
 t5:=Tryz.underlying5
 a5:=Tryz.isAgg5
 z5:=Tryz.sizeOf5
 v5:=Tryz.zeroValue5
 t9:=Tryz.underlying9
 a9:=Tryz.isAgg9
 z9:=Tryz.sizeOf9
 v9:=Tryz.zeroValue9
 t46:=Tryz.underlying79
 a46:=Tryz.isAgg79
 z46:=Tryz.sizeOf79
 v46:=Tryz.zeroValue79
 t51:=Tryz.underlying194
 a51:=Tryz.isAgg194
 z51:=Tryz.sizeOf194
 v51:=Tryz.zeroValue194
 t146:=Tryz.underlying195
 a146:=Tryz.isAgg195
 z146:=Tryz.sizeOf195
 v146:=Tryz.zeroValue195
 g1:=by kernel_rfl }
open Go.RowKit Go.Lib in
theorem Tryz.strings_Contains (s sub:ByteArray) (m:Int) (w:World) (hs:s.size<4294967281) (hm:w.cell? ⟨0,0,none⟩=some (.int .i64 m)) :
 Calls Tryz.prog 94 #[.string s,.string sub] w λe w'=>e=.returned (.bool (Lib.contains s.data.toList sub.data.toList))/\w'=w:=Any.strings_Contains Tryz.F7 s sub m w hs hm
def Tryz.Bg:Go.Shelf.Ren:=⟨λ|145=>96|220=>138|219=>189|217=>224|225=>225|224=>226|267=>227|266=>248|314=>249|n=>n,λ|9=>9|4=>4|59=>118|3=>3|5=>5|46=>79|146=>195|51=>194|n=>n,λ|1=>0|n=>n⟩
theorem Tryz.F8:Go.Proofs.Lays.n145 Tryz.prog Tryz.Bg:={
 mixed:=by kernel_rfl
 f145:=Tryz.func96.trans (congrArg some (by kernel_rfl))
 f217:=Tryz.func224.trans (congrArg some (by kernel_rfl))
 f219:=Tryz.func189.trans (congrArg some (by kernel_rfl))
 f220:=Tryz.func138.trans (congrArg some (by kernel_rfl))
 f224:=Tryz.func226.trans (congrArg some (by kernel_rfl))
 f225:=Tryz.func225.trans (congrArg some (by kernel_rfl))
 f266:=Tryz.func248.trans (congrArg some (by kernel_rfl))
 f267:=Tryz.func227.trans (congrArg some (by kernel_rfl))
 f314:=Tryz.func249.trans (congrArg some (by kernel_rfl))
 t3:=Tryz.underlying3
 a3:=Tryz.isAgg3
 z3:=Tryz.sizeOf3
 v3:=Tryz.zeroValue3
 t4:=Tryz.underlying4
 a4:=Tryz.isAgg4
 z4:=Tryz.sizeOf4
 v4:=Tryz.zeroValue4
 t5:=Tryz.underlying5
 a5:=Tryz.isAgg5
 z5:=Tryz.sizeOf5
 v5:=Tryz.zeroValue5
 t9:=Tryz.underlying9
 a9:=Tryz.isAgg9
 z9:=Tryz.sizeOf9
 v9:=Tryz.zeroValue9
 t46:=Tryz.underlying79
 a46:=Tryz.isAgg79
 z46:=Tryz.sizeOf79
 v46:=Tryz.zeroValue79
 t51:=Tryz.underlying194
 a51:=Tryz.isAgg194
 z51:=Tryz.sizeOf194
 v51:=Tryz.zeroValue194
 t59:=Tryz.underlying118
 a59:=Tryz.isAgg118
 z59:=Tryz.sizeOf118
 v59:=Tryz.zeroValue118
 t146:=Tryz.underlying195
 a146:=Tryz.isAgg195
 z146:=Tryz.sizeOf195
 v146:=Tryz.zeroValue195
 g1:=by kernel_rfl }
open Go.RowKit Go.Lib in
theorem Tryz.strings_Cut (s sep:ByteArray) (m:Int) (w:World) (hs:s.size<4294967281) (hm:w.cell? ⟨0,0,none⟩=some (.int .i64 m)) :
 Calls Tryz.prog 96 #[.string s,.string sep] w λe w'=>e=.returned (.tuple #[.string ⟨(Lib.cut s.data.toList sep.data.toList).1.toArray⟩,.string ⟨(Lib.cut s.data.toList sep.data.toList).2.1.toArray⟩,.bool (Lib.cut s.data.toList sep.data.toList).2.2])/\∃ n,w'=w.drewN n:=Any.strings_Cut Tryz.F8 s sep m w hs hm
def Tryz.Bh:Go.Shelf.Ren:=⟨λ|148=>104|222=>147|223=>148|269=>199|n=>n,λ|9=>9|3=>3|4=>4|5=>5|146=>195|51=>194|46=>79|n=>n,λ|n=>n⟩
theorem Tryz.F9:Go.Proofs.Lays.n148 Tryz.prog Tryz.Bh:={
 mixed:=by kernel_rfl
 f148:=Tryz.func104.trans (congrArg some (by kernel_rfl))
 f222:=Tryz.func147.trans (congrArg some (by kernel_rfl))
 f223:=Tryz.func148.trans (congrArg some (by kernel_rfl))
 f269:=Tryz.func199.trans (congrArg some (by kernel_rfl))
 t3:=Tryz.underlying3
 a3:=Tryz.isAgg3
 z3:=Tryz.sizeOf3
 v3:=Tryz.zeroValue3
 t4:=Tryz.underlying4
 a4:=Tryz.isAgg4
 z4:=Tryz.sizeOf4
 v4:=Tryz.zeroValue4
 t5:=Tryz.underlying5
 a5:=Tryz.isAgg5
 z5:=Tryz.sizeOf5
 v5:=Tryz.zeroValue5
 t9:=Tryz.underlying9
 a9:=Tryz.isAgg9
 z9:=Tryz.sizeOf9
 v9:=Tryz.zeroValue9
 t46:=Tryz.underlying79
 a46:=Tryz.isAgg79
 z46:=Tryz.sizeOf79
 v46:=Tryz.zeroValue79
 t51:=Tryz.underlying194
 a51:=Tryz.isAgg194
 z51:=Tryz.sizeOf194
 v51:=Tryz.zeroValue194
 t146:=Tryz.underlying195
 a146:=Tryz.isAgg195
 z146:=Tryz.sizeOf195
 v146:=Tryz.zeroValue195 }
open Go.RowKit Go.Lib in
theorem Tryz.strings_LastIndex (s sub:ByteArray) (hs:s.size<4611686018427387904) (w:World) :
 Calls Tryz.prog 104 #[.string s,.string sub] w λe w'=>e=.returned (.int .i64 (Lib.lastIndex s.data.toList sub.data.toList))/\w'=w:=Any.strings_LastIndex Tryz.F9 s sub hs w
def Tryz.Bi:Go.Shelf.Ren:=⟨λ|146=>146|221=>198|268=>235|138=>236|143=>136|195=>259|197=>260|218=>261|219=>189|260=>274|217=>224|225=>225|224=>226|267=>227|266=>248|314=>249|n=>n,λ|9=>9|31=>25|3=>3|4=>4|0=>0|105=>230|21=>21|5=>5|46=>79|119=>245|139=>248|138=>247|146=>195|51=>194|n=>n,λ|1=>0|3=>4|4=>5|n=>n⟩
theorem Tryz.Ga:Go.Proofs.Lays.n146 Tryz.prog Tryz.Bi:={
 mixed:=by kernel_rfl
 f138:=Tryz.func236.trans (congrArg some (by kernel_rfl))
 f143:=Tryz.func136.trans (congrArg some (by kernel_rfl))
 f146:=Tryz.func146.trans (congrArg some (by kernel_rfl))
 f195:=Tryz.func259.trans (congrArg some (by kernel_rfl))
 f197:=Tryz.func260.trans (congrArg some (by kernel_rfl))
 f217:=Tryz.func224.trans (congrArg some (by kernel_rfl))
 f218:=Tryz.func261.trans (congrArg some (by kernel_rfl))
 f219:=Tryz.func189.trans (congrArg some (by kernel_rfl))
 f221:=Tryz.func198.trans (congrArg some (by kernel_rfl))
 f224:=Tryz.func226.trans (congrArg some (by kernel_rfl))
 f225:=Tryz.func225.trans (congrArg some (by kernel_rfl))
 f260:=Tryz.func274.trans (congrArg some (by kernel_rfl))
 f266:=Tryz.func248.trans (congrArg some (by kernel_rfl))
 f267:=Tryz.func227.trans (congrArg some (by kernel_rfl))
 f268:=Tryz.func235.trans (congrArg some (by kernel_rfl))
 f314:=Tryz.func249.trans (congrArg some (by kernel_rfl))
 t0:=Tryz.underlying0
 a0:=Tryz.isAgg0
 z0:=Tryz.sizeOf0
 v0:=Tryz.zeroValue0
 t3:=Tryz.underlying3
 a3:=Tryz.isAgg3
 z3:=Tryz.sizeOf3
 v3:=Tryz.zeroValue3
 t4:=Tryz.underlying4
 a4:=Tryz.isAgg4
 z4:=Tryz.sizeOf4
 v4:=Tryz.zeroValue4
 t5:=Tryz.underlying5
 a5:=Tryz.isAgg5
 z5:=Tryz.sizeOf5
 v5:=Tryz.zeroValue5
 t9:=Tryz.underlying9
 a9:=Tryz.isAgg9
 z9:=Tryz.sizeOf9
 v9:=Tryz.zeroValue9
 t21:=Tryz.underlying21
 a21:=Tryz.isAgg21
 z21:=Tryz.sizeOf21
 v21:=Tryz.zeroValue21
 t31:=Tryz.underlying25
 a31:=Tryz.isAgg25
 z31:=Tryz.sizeOf25
 v31:=Tryz.zeroValue25
 t46:=Tryz.underlying79
 a46:=Tryz.isAgg79
 z46:=Tryz.sizeOf79
 v46:=Tryz.zeroValue79
 t51:=Tryz.underlying194
 a51:=Tryz.isAgg194
 z51:=Tryz.sizeOf194
 v51:=Tryz.zeroValue194
 t105:=Tryz.underlying230
 a105:=Tryz.isAgg230
 z105:=Tryz.sizeOf230
 v105:=Tryz.zeroValue230
 t119:=Tryz.underlying245
 a119:=Tryz.isAgg245
 z119:=Tryz.sizeOf245
 t138:=Tryz.underlying247
 a138:=Tryz.isAgg247
 z138:=Tryz.sizeOf247
 v138:=Tryz.zeroValue247
 t139:=Tryz.underlying248
 a139:=Tryz.isAgg248
 z139:=Tryz.sizeOf248
 v139:=Tryz.zeroValue248
 t146:=Tryz.underlying195
 a146:=Tryz.isAgg195
 z146:=Tryz.sizeOf195
 v146:=Tryz.zeroValue195
 g1:=by kernel_rfl
 g3:=by kernel_rfl
 g4:=by kernel_rfl }
open Go.RowKit Go.Lib in
theorem Tryz.strings_Split (s sep:ByteArray) (m:Int) (w:World) (hs:s.size<4294967281) (hm:w.cell? ⟨0,0,none⟩=some (.int .i64 m)) (h1:1<=sep.size) :
 Calls Tryz.prog 146 #[.string s,.string sep] w λe w'=>
  e=.returned (.slice (some ⟨w.heap.size,0,none⟩) (Lib.countB s sep+1) (Lib.countB s sep+1))/\w'=w.alloc (.cells ((Lib.splitB sep 0 (Lib.countB s sep) s).map Value.string).toArray 9):=Any.strings_Split Tryz.Ga (by kernel_rfl) s sep m w hs hm h1
end Go.Proofs
end
section
namespace Go.Abs
open Go.Proofs D Go.RowKit
theorem sv {f:FuncId} {args:List AV} {X:Type} {res:D X} {V:X->AV}
  (h:∀ x,res=.ok x->∀ (E:Env) (g:Gh) (w:World) (vs:List Value),Rel E g (Y []) w->gB g args vs->Calls Tryz.prog f vs.toArray w λe w'=>∃ g' c,e=.returned c/\VR g' (V x) c/\Rel E g' (Y []) w')
  (hp:∀ p,res≠.mf p):CT Tryz.prog f args [] res V (λ_=>[]):=by
 intro r hr hs
 cases r with
 | stuck=>exact absurd rfl hs
 | mf p=>exact absurd hr (hp p)
 | ok x=>
  intro wS g w vs hR hv
  refine (h x hr (Env.of wS g (Y []) w) g w vs hR hv).mono ?_
  rintro e w' ⟨g',c,he,hv',hR'⟩
  subst he
  exact ⟨g',.ret (V x),Y [],.inl ⟨x,rfl,rfl,rfl⟩,.ret hv',hR'⟩
theorem wY {α:Type} {p:Prop} [Decidable p] {x:D α} {a:α} (h:gd p x=.ok a):p/\x=.ok a:=HD (by simp) h
theorem wZ {α:Type} {p:Prop} [Decidable p] {a:α} (q:rA):gd p (.ok a)≠.mf q:=by unfold gd;split<;>simp
theorem gB.Jw {g:Gh} {x:Value} {vs:List Value} (h:gB g [Sc x] vs):vs=[x]:=by
 cases h with|cons h t=>cases t;rw[VR.dy h]
theorem gB.BR {g:Gh} {x y:Value} {vs:List Value} (h:gB g [Sc x,Sc y] vs):vs=[x,y]:=by
 cases h with|cons h t=>rw[VR.dy h,gB.Jw t]
theorem gB.H6 {g:Gh} {x y z:Value} {vs:List Value} (h:gB g [Sc x,Sc y,Sc z] vs):vs=[x,y,z]:=by
 cases h with|cons h t=>rw[VR.dy h,gB.BR t]
theorem Rel.Bj {E:Env} {g:Gh} {σ:cn} {w:World} (hR:Rel E g σ w) {a:Addr} {v:Value} (h:E.wS.cell? a=some v):w.cell? a=some v:=by
 unfold World.cell? at h ⊢;cases q:E.wS.heap[a.block]? with
 | none=>rw[q] at h;cases h
 | some o=>rw[hR.x.set a.block (Array.getElem?_eq_some_iff.1 q).1];exact h
theorem Rel.maxLen {E:Env} {g:Gh} {σ:cn} {w:World} (hR:Rel E g σ w):∃ m:Int,w.cell? ⟨0,0,none⟩=some (.int .i64 m):=
 let ⟨m,h⟩:=hR.x.gf.1;⟨m,hR.Bj h⟩
theorem Rel.H7 {E:Env} {g:Gh} {σ:cn} {w w':World} (h:Rel E g σ w) (hb:w'=w\/∃ t,w'=Lib.bytesWorld w 5 t):Rel E g σ w':=by
 rcases hb with rfl|⟨t,rfl⟩
 ·exact h
 exact h.below (vu _ _ _)
theorem sw:∀ (s p:ByS),Lib.index s p=match mj s p with|some i=>(i:Int)|none=>-1
 | [],p=>by unfold Lib.index mj;split<;>rfl
 | b::l,p=>by
  unfold Lib.index mj;rw[sw l p];split
  ·rfl
  cases mj l p with
  | none=>rfl
  | some i=>
   have:¬ ((i:Int)==-1)=true:=by simp
   simp[this]
theorem Bm (s p:ByS):Lib.contains s p=(mj s p).isSome:=by
 unfold Lib.contains;rw[sw];cases mj s p with
 | none=>rfl
 | some i=>simp
theorem H8 (s p:ByS):Lib.cut s p=match mj s p with|some i=>(s.take i,s.drop (i+p.length),true)|none=>(s,[],false):=by
 unfold Lib.cut;rw[sw];cases mj s p with
 | none=>rfl
 | some i=>simp
theorem kb (a b:ByS):CT Tryz.prog 94 [F a,F b] [] (strings_Contains a b) (λx=>Bo x) (λ_=>[]):=by
 refine sv (λx hx E g w vs hR hv=>?_) (λp=>wZ p);obtain ⟨hl,hx⟩:=wY hx;cases hx;have hv:=gB.BR hv;subst hv;obtain ⟨m,hm⟩:=hR.maxLen;refine (Tryz.strings_Contains ⟨a.toArray⟩ ⟨b.toArray⟩ m w (by simpa[ByteArray.size] using hl) hm).mono ?_;rintro e w' ⟨rfl,rfl⟩;exact ⟨g,_,rfl,by rw[Bm];exact .pv (.sc _),hR⟩
theorem s9 (a b:ByS):CT Tryz.prog 104 [F a,F b] [] (strings_LastIndex a b) (λx=>I x) (λ_=>[]):=by
 refine sv (λx hx E g w vs hR hv=>?_) (λp=>wZ p);obtain ⟨hl,hx⟩:=wY hx;cases hx;have hv:=gB.BR hv;subst hv;refine (Tryz.strings_LastIndex ⟨a.toArray⟩ ⟨b.toArray⟩ (by simpa[ByteArray.size] using hl) w).mono ?_;rintro e w' ⟨rfl,rfl⟩;exact ⟨g,_,rfl,.pv (.sc _),hR⟩
theorem xH (a b:ByS):CT Tryz.prog 96 [F a,F b] [] (strings_Cut a b) (λx=>.fZ [F x.1,F x.2.1,Bo x.2.2]) (λ_=>[]):=by
 refine sv (λx hx E g w vs hR hv=>?_) (λp=>wZ p);obtain ⟨hl,hx⟩:=wY hx;have hv:=gB.BR hv;subst hv;obtain ⟨m,hm⟩:=hR.maxLen;refine (Tryz.strings_Cut ⟨a.toArray⟩ ⟨b.toArray⟩ m w (by simpa[ByteArray.size] using hl) hm).mono ?_;rintro e w' ⟨rfl,k,rfl⟩;have hx2:Lib.cut a b=x:=by rw[H8];cases hx;rfl
 subst hx2;refine ⟨g,_,rfl,?_,hR.below ⟨rfl,rfl,rfl,Nat.le_refl _,λ_ _=>rfl⟩⟩;exact .fZ (.cons (.pv (.sc _)) (.cons (.pv (.sc _)) (.cons (.pv (.sc _)) .nil)))
theorem JP (l:ByS) (c:UInt8):Lib.indexByte l c=match l.findIdx? (·==c) with|some i=>(i:Int)|none=>-1:=by
 induction l with
 | nil=>rfl
 | cons b l ih=>
  unfold Lib.indexByte
  rw[List.findIdx?_cons,ih]
  split
  ·rfl
  ·cases l.findIdx? (·==c) with
   | none=>rfl
   | some i=>
    have:¬ ((i:Int)==-1)=true:=by simp
    simp[this]
theorem k3 (a:ByS) (b:Int):CT Tryz.prog 296 [F a,Sc (.int .u8 b)] [] (strings_IndexByte a b) (λx=>I x) (λ_=>[]):=by
 refine sv (λx hx E g w vs hR hv=>?_) (λp=>by unfold strings_IndexByte;simp);have hv:=gB.BR hv;subst hv;refine (Tryz.strings_IndexByte ⟨a.toArray⟩ b w).mono ?_;rintro e w' ⟨rfl,rfl⟩;unfold strings_IndexByte at hx;cases hx;refine ⟨g,_,rfl,?_,hR⟩;exact Eq.mp (congrArg (λz=>VR g (I z) (.int .i64 (Lib.indexByte a (UInt8.ofNat b.toNat)))) (JP a (UInt8.ofNat b.toNat))) (.pv (.sc _))
theorem Bn (sep:ByS):∀ (f:Nat) (s:ByS),Lib.splitK sep 0 (Lib.countFrom sep f s) s=pF sep f s
 | 0,s=>rfl
 | f+1,s=>by
  have ih:=λt=>Bn sep f t;unfold Lib.countFrom pF;rw[sw];cases q:mj s sep with
  | none=>rfl
  | some i=>
   have:¬ ((i:Int)==-1)=true:=by simp
   have e:∀ k,Lib.splitK sep 0 (k+1) s=if Lib.index s sep==-1 then [s] else s.take ((Lib.index s sep).toNat+0)::Lib.splitK sep 0 k (s.drop ((Lib.index s sep).toNat+sep.length)):=λ_=>rfl
   simp only[this]
   rw[if_neg (by simp),Nat.add_comm,e,sw,q]
   simp only[this]
   rw[if_neg (by simp)]
   simp[ih]
theorem EL (a b:ByS):(Lib.splitB ⟨b.toArray⟩ 0 (Lib.countB ⟨a.toArray⟩ ⟨b.toArray⟩) ⟨a.toArray⟩).map (·.data.toList)=pF b (a.length+1) a:=by
 rw[Lib.splitB_data];exact Bn b (a.length+1) a
theorem Bp {g:Gh}:∀ l:List ByteArray,ln g (cd (l.map (·.data.toList))) (l.map Value.string)
 | []=>.nil
 | b::l=>by
  have:Value.string b=S b.data.toList:=by simp[S]
  rw[List.map_cons,List.map_cons,this];exact .cons (.sc _) (Bp l)
theorem nD (a b:ByS):CT Tryz.prog 146 [F a,F b] [] (strings_Split a b) (λx=>.pv (.sl (List.length x) (cd x))) (λ_=>[]):=by
 refine sv (λx hx E g w vs hR hv=>?_) (λp=>wZ p);obtain ⟨hl,hx⟩:=wY hx;cases hx;have hv:=gB.BR hv;subst hv;obtain ⟨m,hm⟩:=hR.maxLen;have h1:1<=ByteArray.size ⟨b.toArray⟩:=by simpa[ByteArray.size] using hl.1
 refine (Tryz.strings_Split ⟨a.toArray⟩ ⟨b.toArray⟩ m w (by simpa[ByteArray.size] using hl.2) hm h1).mono ?_;rintro e w' ⟨rfl,rfl⟩;have hlen:=Lib.splitB_all ⟨b.toArray⟩ h1 0 _ ⟨a.toArray⟩ rfl;generalize hL:Lib.splitB ⟨b.toArray⟩ 0 (Lib.countB ⟨a.toArray⟩ ⟨b.toArray⟩) ⟨a.toArray⟩=L at hlen;have hs:pF b (a.length+1) a=L.map (·.data.toList):=by rw[<- EL,hL]
 rw[hs];have hp:ln g (cd (L.map (·.data.toList))) (L.map Value.string):=Bp L;have hc:(cd (L.map (·.data.toList))).length=L.length:=by rw[hp.length];simp
 have hR':=hR.frozen (ys:=cd (L.map (·.data.toList))) (cs:=(L.map Value.string).toArray) (el:=9) (by simp[hc]) (by rw[hc,List.take_of_length_le (by simp)];exact hp);refine ⟨_,_,rfl,?_,hR'⟩;rw[<- hlen];have:(L.map (·.data.toList)).length=L.length:=by simp
 rw[this];exact .pv (.sl w.heap.size (cd (L.map (·.data.toList))) 0 L.length _ _ (by simp[Gh.di]) (by omega) (by rw[List.drop_zero,List.take_length]) (Nat.le_refl _))
theorem tK (a:ByS) (b c:Int):CT Tryz.prog 140 [F a,I b,I c] [] (mB a b c) (λx=>.fZ [I x.1,Oe 216 x.2]) (λ_=>[]):=by
 refine sv (λx hx E g w vs hR hv=>?_) (λp=>wZ p);obtain ⟨⟨hb,hc,hl⟩,hx2⟩:=wY hx;subst hb hc
 replace hx:=hx2
 have hv:=gB.H6 hv;subst hv;have hl2:ByteArray.size ⟨a.toArray⟩<=281474976710656:=by simpa[ByteArray.size] using hl
 obtain ⟨ev1,he1,hi1⟩:=hR.x.gf.2.1;obtain ⟨ev2,he2,hi2⟩:=hR.x.gf.2.2.1;rcases q:Lib.parseIntB 64 a with v|_|_
 ·rw[q] at hx;cases hx;refine (Tryz.strconv_ParseInt_10_at64_ok ⟨a.toArray⟩ (by omega) v q w).mono ?_;rintro e w' ⟨rfl,hw⟩;exact ⟨g,_,rfl,.fZ (.cons (.pv (.sc _)) (.cons (.pv (.sc _)) .nil)),hR.H7 hw⟩
 ·rw[q] at hx;cases hx;refine (Tryz.strconv_ParseInt_10_at64_syntax ⟨a.toArray⟩ hl2 q ev1 w (hR.Bj he1) hi1).mono ?_;rintro e w' ⟨N,rfl,_,_,hw⟩;exact ⟨g,_,rfl,.fZ (.cons (.pv (.sc _)) (.cons (.mo _ (.any _)) .nil)),hR.below hw⟩
 rw[q] at hx;cases hx;refine (Tryz.strconv_ParseInt_10_at64_range ⟨a.toArray⟩ hl2 q ev2 w (hR.Bj he2) hi2).mono ?_;rintro e w' ⟨N,rfl,_,_,hw⟩;exact ⟨g,_,rfl,.fZ (.cons (.pv (.sc _)) (.cons (.mo _ (.any _)) .nil)),hR.below hw⟩
theorem ug (fn s:ByS) (b c e:Int):CT Tryz.prog 191 [F fn,F s,I b,I c,Oi e] [] (nC fn s b c e) (λx=>Oe 216 x) (λ_=>[]):=by
 refine sv (λx hx E g w vs hR hv=>?_) (λp=>wZ p);obtain ⟨⟨he,hl⟩,hx⟩:=wY hx;cases hx;have hl2:ByteArray.size ⟨s.toArray⟩<=281474976710656:=by simpa[ByteArray.size] using hl
 obtain ⟨ev1,he1,hi1⟩:=hR.x.gf.2.1;obtain ⟨ev2,he2,hi2⟩:=hR.x.gf.2.2.1;have hvs:vs=[S fn,S s,.int .i64 b,.int .i64 c,.iface 213 (.int .i64 e)]:=by
  rw[CG (by omega)] at hv;cases hv with|cons h1 t=>cases t with|cons h2 t=>cases t with|cons h3 t=>cases t with|cons h4 t=>cases t with|cons h5 t=>
   cases t
   rw[VR.dy h1,VR.dy h2,VR.dy h3,VR.dy h4]
   cases h5 with|mo _ h5=>rw[VR.dy h5]
 subst hvs;rcases he with rfl|rfl
 ·refine (Tryz.strconv_toError_range ⟨fn.toArray⟩ ⟨s.toArray⟩ b c ev2 w hl2 (hR.Bj he2) hi2).mono ?_;rintro e w' ⟨N,rfl,_,_,hw⟩;exact ⟨g,_,rfl,.mo _ (.any _),hR.below hw⟩
 refine (Tryz.strconv_toError_syntax ⟨fn.toArray⟩ ⟨s.toArray⟩ b c ev1 w hl2 (hR.Bj he1) hi1).mono ?_;rintro e w' ⟨N,rfl,_,_,hw⟩;exact ⟨g,_,rfl,.mo _ (.any _),hR.below hw⟩
end Go.Abs
end
section
namespace Go.Proofs
open Go.Shelf Go.RowKit Go.Sort Go.Lib
set_option maxHeartbeats 6400000 in
set_option maxRecDepth 100000 in
theorem Tryz.Jx (u:Nat) (hu64:u<18446744073709551616) (w:World) (htab:∀ n,Tryz.prog.globalNamed n=some 3->Lib.TabIs Tryz.prog w n .u64 Lib.pow10Tab) :
  Calls Tryz.prog 233 #[.int .u64 u,.int .i64 10] w λe w'=>e=.returned (.string ⟨(Lib.decDigits u).toArray⟩)/\∃ k os,w'=grow (w.drewN k) os:=by
 by_cases hs:u<100
 ·go_enter Tryz.func233,Tryz.ntmps233
  go_wp2_with (first
   | (go_at_call 255;refine (Tryz.internal_strconv_small u hs _).mono ?_;rintro e w' ⟨rfl,rfl⟩))
  go_ret
  exact ⟨rfl,0,#[],by simp[World.drewN_zero]⟩
 ·have hu1:1<=u:=by omega
  have hnd:Lib.nDigits u<=20:=by have:=Lib.numDigits_eq u hu1 hu64;split at this<;>omega
  have hal:Tryz.prog.arrayLen 225=24:=by simp[Program.arrayLen,Tryz.underlying225]
  have hsl:∀ W,(Instr.sliceAt 225 (.pointer (some ⟨w.heap.size,0,none⟩)) none (some (.int .i64 (Lib.nDigits u:Int))) none).run Tryz.prog W=.ok (.slice (some ⟨w.heap.size,0,none⟩) (Lib.nDigits u) 24) W:=λW=>by
   rw[run_sliceAt_array_h W 225 ⟨w.heap.size,0,none⟩ (by simp[Program.arrayLen,Program.elem,Tryz.underlying225]) .i64 (Lib.nDigits u:Int) (by omega) (by rw[hal];omega)]
   go_simp
  have hH0:Holds (λ(b:UInt8)=>Value.int .u8 (b.toNat:Int)) (w.alloc (.cells Lib.zeros24 225)) w.heap.size 0 (Array.replicate (Lib.nDigits u) 0):=λj hj=>by
   have hj':j<Lib.nDigits u:=by simpa using hj
   refine ⟨?_,World.frozen?_alloc_new _ _ _ _⟩
   rw[World.cell?_alloc_new,Lib.zeros24_at _ (by omega),getElem!_pos _ j hj]
   simp
  have hfmt:=Tryz.internal_strconv_formatBase10 w.heap.size 0 24 u (Array.replicate (Lib.nDigits u) 0) (w.alloc (.cells Lib.zeros24 225)) hH0 (by rw[Array.size_replicate];exact Lib.lt_pow_nDigits u) hu64 (by rw[Array.size_replicate];omega)
  rw[Array.size_replicate] at hfmt
  have HH0:=Lib.hid hH0
  clear hH0 hal
  go_enter Tryz.func233,Tryz.ntmps233
  go_wp2_with (first
   | (go_at_call 256;refine (Tryz.internal_strconv_numDigits u hu1 hu64 _ (Lib.tabIs_alloc (htab _ (by kernel_rfl)) _)).mono ?_;rintro e w' ⟨rfl,rfl⟩))
  go_at_call 257
  refine hfmt.mono ?_
  rintro e w' ⟨rfl,k,v',dk,rfl,hF⟩
  have hcv:(convert 181 9 (.slice (some ⟨w.heap.size,0,none⟩) (Lib.nDigits u) 24)).run Tryz.prog ((putRow (λ(b:UInt8)=>Value.int .u8 (b.toNat:Int)) (w.alloc (.cells Lib.zeros24 225)) w.heap.size 0 dk).drewN k)=.ok (.string ⟨(Lib.decDigits u).toArray⟩) ((putRow (λ(b:UInt8)=>Value.int .u8 (b.toNat:Int)) (w.alloc (.cells Lib.zeros24 225)) w.heap.size 0 dk).drewN k):=by
   have h:=run_convert_bytes_back (P:=Tryz.prog) ((putRow (λ(b:UInt8)=>Value.int .u8 (b.toNat:Int)) (w.alloc (.cells Lib.zeros24 225)) w.heap.size 0 dk).drewN k) 181 9 5 ⟨w.heap.size,0,none⟩ 24 (Lib.decDigits u) Tryz.underlying181 Tryz.underlying5 Tryz.underlying9 (λj hj=>by
    rw[Lib.row_is_numeral hF j hj,Lib.add_plain,World.cell?_drewN]
    exact cell?_putRow (λ(b:UInt8)=>Value.int .u8 (b.toNat:Int)) _ w.heap.size 0 _ dk HH0.out (by rw[hF.size,Array.size_replicate]) j (by rw[hF.size];rw[Lib.decDigits_length] at hj;exact hj))
   rw[Lib.decDigits_length] at h
   exact h
  go_wp2
  go_ret
  refine ⟨rfl,?_⟩
  rw[alloc_eq_grow]
  obtain ⟨os',_,e⟩:=putRow_grow_new (λ(b:UInt8)=>Value.int .u8 (b.toNat:Int)) w #[.cells Lib.zeros24 225] w.heap.size 0 dk (Nat.le_refl _)
  exact ⟨k,os',by rw[e];rfl⟩
theorem Tryz.I1 (u:Nat) (hu64:u<18446744073709551616) (w:World) (htab:∀ n,Tryz.prog.globalNamed n=some 3->Lib.TabIs Tryz.prog w n .u64 Lib.pow10Tab) :
  Calls Tryz.prog 193 #[.int .u64 u,.int .i64 10] w λe w'=>e=.returned (.string ⟨(Lib.decDigits u).toArray⟩)/\∃ k os,w'=grow (w.drewN k) os:=by
 go_enter Tryz.func193,Tryz.ntmps193
 go_wp2_with (first
  | (go_at_call 233;refine (Tryz.Jx u hu64 _ htab).mono ?_;rintro e w' ⟨rfl,k,os,rfl⟩))
 go_ret
 exact ⟨rfl,k,os,rfl⟩
end Go.Proofs
namespace Go.Abs
open Go.Proofs D Go.RowKit Go.Sort
theorem CI:∀ (f u:Nat),u<10 ^ f->0<f->xG f u=Lib.decDigits u
 | 0,_,_,h=>absurd h (Nat.lt_irrefl _)
 | f+1,u,h,_=>by
  unfold xG;rw[Lib.decDigits];by_cases q:u<10
  ·simp[q]
  simp only[q,if_false,dite_false];have h1:u / 10<10 ^ f:=by rw[Nat.pow_succ] at h;omega
  have hf:0<f:=by
   rcases f with _|f
   ·simp at h;omega
   omega
  rw[CI f (u / 10) h1 hf]
theorem mZ (a b:Int):CT Tryz.prog 193 [Sc (.int .u64 a),I b] [] (iN a b) (λx=>F x) (λ_=>[]):=by
 refine sv (λx hx E g w vs hR hv=>?_) (λp=>wZ p);obtain ⟨⟨hb,h0,h1⟩,hx2⟩:=wY hx;subst hb;cases hx2;have hv:=gB.BR hv;subst hv;obtain ⟨u,rfl⟩:∃ u:Nat,a=u:=⟨a.toNat,by omega⟩;obtain ⟨el,fz,h3⟩:=hR.x.gf.2.2.2;have hw3:w.heap[3]?=E.wS.heap[3]?:=hR.x.set 3 (Array.getElem?_eq_some_iff.1 h3).1;refine (Tryz.I1 u (by omega) w (λn hn=>by unfold Lib.TabIs World.var?;rw[hn];simp only[Option.bind_some,hw3,h3])).mono ?_;rintro e w' ⟨rfl,k,os,rfl⟩;refine ⟨g,_,rfl,?_,hR.below ⟨rfl,rfl,rfl,?_,λj hj=>?_⟩⟩
 ·have:xG 20 ((u:Int).toNat)=Lib.decDigits u:=by
   rw[Int.toNat_natCast];exact CI 20 u (by omega) (by omega)
  rw[this];exact .pv (.sc _)
 ·simp[grow,World.drewN]
 simp only[grow,World.drewN];exact Array.getElem?_append_left hj
end Go.Abs
end
section
namespace Go.Abs
open Go.Proofs D
def kq (p0:hQ):D (cL):=
 .ok ((cL.mk 8 p0.at_))
theorem rB (p0:hQ):CT Tryz.prog 26 [.mo 86 (.agg [I p0.at_])] [] (kq p0) (λx=>.agg [I x.Errno,I x.At]) (λ_=>[]):=by
 refine zC Tryz.func26 O λr hp h hr E hE=>A λ_ hK1=>B (aH 102 (hE _ O) O4 O ?_);refine zQ hK1 (A λ_ hK2=>B (zm O (J (G8 O) O (zm O (zx O (zx O (aH 103 (hE _ O) O4 O ?_)))))));refine zs O (za O (zQ hK2 (A λ_ hK3=>A λ_ hK4=>B (zm O (J (eo O) O (zQ hK4 (cb O (λhc=>?_) (λhc=>?_))))))))
 ·exact absurd (hc) (by simp)
 refine V (hK3 _ _ (A λ_ hK5=>B (zf O (zl O (J (bd O O O) O ?_)))));exact zs O (zQ hK5 (L (zX (.cons (aT O O O) .nil) h O)))
theorem qe (p0:hQ):NP (kq p0):=by
 unfold kq;(repeat (first|assumption|exact NP.ok _|exact NP.stuck|refine NP.br ?_ ?_|refine NP.gd ?_|refine NP.el λ_=>?_|refine NP.some? λ_=>?_|refine NP.bind ?_ λ_=>?_|refine NP.jn (λ_ _=>?_) (λ_=>?_)|refine NP.iter (λ_ _ _=>?_) _ _|apply_assumption))
def pb (v:Int):D (U×cL):=
 D.bind (kq (hQ.mk v)) λy2=>.ok ((U.mk 0 [] 0 [] [] [] [] [] 0),y2)
theorem iB (v:Int):C6 Tryz.prog 32 [.ptr 0 0,.ptr 1 0] [.box [.any,.any,.any,.any,.any,.any,.any,.any,.any],.box [.any,.any]] (some (.iface 86 (.agg #[.int .i64 v]))) (pb v) (λx=>[.box (bh x.1),.box [I x.2.Errno,I x.2.At]]):=by
 refine mY (m:=some (.iface 86 (.agg #[.int .i64 v]))) (mv:=.mo 86 (.agg [I v])) (λg=>.mo 86 (.agg (.cons (.pv (.sc _)) .nil))) Tryz.func32 O O O λr h hr E hE=>?_;refine A λ_ hK1=>B (zm O (J (uQ O O) O (zQ hK1 (cb O (λhc=>?_) (λhc=>?_)))))
 ·refine B (J (dA O O) O ?_);refine zm O (Ep hr h [] Tryz.call26 (rB (hQ.mk v)) ⟨O,O,O,O,O,O,trivial⟩ O (λ_=>O3) (λ_=>O2) (qe (hQ.mk v)) (λy2 h=>?_));refine zs O (zs O (aY (jP 0 O O) ?_));exact W (sY (.inr O) _ h.symm ⟨O,O,trivial⟩)
 exact absurd (hc) (by simp)
theorem mu (es:List M):C6 Tryz.prog 32 [.ptr 0 0,.ptr 1 0] es none (D.ok ()) (λ_=>es):=by
 refine mY (m:=none) (mv:=Sc .nilIface) (λg=>.pv (.sc _)) Tryz.func32 O O O λr h hr E hE=>?_;refine A λ_ hK1=>B (zm O (J (uR O) O (zQ hK1 (cb O (λhc=>?_) (λhc=>?_)))))
 ·exact absurd (hc) (by simp)
 exact V (o9 h)
def cB (p0:aA) (p1:ByS):D (Bool):=
 br (p0.Kind==5) (.ok ((p0.Text==p1))) (.ok (false))
theorem cJ (p0:aA) (p1:ByS):CT Tryz.prog 72 [.agg (ej p0),F p1] [] (cB p0 p1) (λx=>Bo x) (λ_=>[]):=by
 refine zC Tryz.func72 O λr hp h hr E hE=>A λ_ hK1=>B (dN 102 (hE _ O) O7 O ?_);refine za O (zQ hK1 (A λ_ hK2=>B (zf O (zl O (zc O (zm O (zb (p0.Kind==5) (λhb3=>?_) λhb3=>?_)))))))
 ·exact z1 hb3 h λh=>zG hb3 O (bF O) (zG hb3 O (bj O O O) (zG hb3 O (N O) (zG hb3 O (iS O O) (zy hb3 O (za O (zQ hK2 (L (z O h O))))))))
 exact z2 hb3 h λh=>zH 4 O hb3 (zw hb3 O (za O (zQ hK2 (L (z O h O)))))
def aF (n:Nat) (p0:H):D (aA×H):=
 jn (λ(v2:H)=>el v2.X v2.at_ λx6=>.ok (x6,(H.mk v2.text v2.X v2.at_ p0.base v2.skip v2.pending))) λj3=>iter (λnext11 (v10:H)=>br v10.skip (el v10.X v10.at_ λIx=>br (Ix.Kind==7) (gd (cr (v10.at_+1)) (next11 ((H.mk v10.text v10.X (v10.at_+1) p0.base v10.skip v10.pending)))) (j3 ((H.mk v10.text v10.X v10.at_ p0.base v10.skip v10.pending)))) (j3 ((H.mk v10.text v10.X v10.at_ p0.base v10.skip v10.pending)))) n (p0)
theorem aK (n:Nat) (p0:H):CT Tryz.prog 34 [.ptr 0 0] [.box (K p0)] (aF n p0) (λx=>.agg (ej x.1)) (λx=>[.box [F x.2.text,.pv (.sl (List.length x.2.X) (aA.Cs x.2.X)),I x.2.at_,I p0.base,Bo x.2.skip,.pv (.pt (Option.map U.C x.2.pending))]]):=by
 refine zC Tryz.func34 O λr hp h hr E hE=>A λ_ hK1=>B (aH 102 (hE _ O) O4 O ?_);refine zQ hK1 (zM h (λ(v2:H)=>[(0,.ptr 0 0),(2,.ptr 102 0)]) (λ(v2:H)=>[(0,.box [F v2.text,.pv (.sl (List.length v2.X) (aA.Cs v2.X)),I v2.at_,I p0.base,Bo v2.skip,.pv (.pt (Option.map U.C v2.pending))]),(102,.box [I 0,F [],I 0,I 0])]) (λv2 h=>?_) λ_ _ hK4 h=>?_)
 ·refine A λ_ hK5=>bu [0,1,2,3,4,5,6,7,8,9,10] O (by kernel_rfl) (zD O (N O) O (zD O (c7 O) O (zD O (bF O) O (zD O (bj O O O) O (zD O (N O) O (zD O (c7 O) O (zD O (bF O) O (zD O (bj O O O) O (ze hr h λx6 h7 h8 h9 h=>zD O (fR aA.Q aA.q h7 h8 h9 O O O) O (zD O (iJ O O) O ?_))))))))));refine bV O O8 O (λe10 he=>⟨y O,?_⟩);subst he;exact ct (hK5 _ _ (L (zX (.cons (aT O O O) .nil) h O)))
 refine u (zL hr h (λ(v10:H)=>[(0,.ptr 0 0),(2,.ptr 102 0)]) (λ(v10:H)=>[(0,.box [F v10.text,.pv (.sl (List.length v10.X) (aA.Cs v10.X)),I v10.at_,I p0.base,Bo v10.skip,.pv (.pt (Option.map U.C v10.pending))]),(102,.box [I 0,F [],I 0,I 0])]) O λ_ v10 _ hK12 h=>A λ_ hK13=>A λ_ hK14=>bu [0,1,2,3,4,5,6,7,8,9,10,11,12,13,14,15,16,17] O (by kernel_rfl) (zD O (N O) O (zD O (c7 O) O (zD O (bF O) O (zD O (bj O O O) O (zD O (N O) O (zb v10.skip (λhb15=>?_) λhb15=>?_)))))))
 ·refine z1 hb15 h λh=>cK hb15 O O2 (N O) O3 ?_;refine cK hb15 O O2 (c7 O) O3 ?_;refine cK hb15 O O2 (bF O) O3 ?_;refine cK hb15 O O2 (bj O O O) O3 ?_;refine cK hb15 O O2 (N O) O3 ?_;refine cK hb15 O O2 (c7 O) O3 ?_;refine cK hb15 O O2 (bF O) O3 ?_;refine cK hb15 O O2 (bj O O O) O3 ?_;refine ze hr h λIx h17 h18 h19 h=>cK hb15 O O2 (fR aA.Q aA.q h17 h18 h19 O O O) O3 ?_;refine cK hb15 O O2 (iF O O) O3 ?_;refine cK hb15 O O2 (dT O O) O3 ?_;refine cK hb15 O O2 (aX O O O) O3 ?_;refine zD O (cY hb15 O O) O (ct (hK14 _ _ (zB O h (λ_ h=>?_) λ_ h=>?_)))
  ·exact V (hK13 _ _ (u (B (zm O (zn O (zf O (zl O (zd hr h λhg21 h=>zo hg21 O (zn O (zf O (zs O (W (hK12 _ _ _ h O)))))))))))))
  exact aS (hK4 _ _ _ h O)
 refine z2 hb15 h λh=>cI hb15 O O2 O2 ?_;refine cI hb15 O O2 O2 ?_;refine cI hb15 O O2 O2 ?_;refine cI hb15 O O2 O2 ?_;refine cI hb15 O O2 O2 ?_;refine cI hb15 O O2 O2 ?_;refine cI hb15 O O2 O2 ?_;refine cI hb15 O O2 O2 ?_;refine cI hb15 O O2 O2 ?_;refine cI hb15 O O2 O2 ?_;refine cI hb15 O O2 O2 ?_;refine cI hb15 O O2 O2 ?_;refine zD O (cU hb15 O O) O (ct (hK14 _ _ (cb O (λhc=>?_) (λhc=>?_))))
 ·exact absurd (hc) (by simp)
 exact aS (hK4 _ _ _ h O)
theorem sx (n:Nat) (p0:H):NP (aF n p0):=by
 unfold aF;(repeat (first|assumption|exact NP.ok _|exact NP.stuck|refine NP.br ?_ ?_|refine NP.gd ?_|refine NP.el λ_=>?_|refine NP.some? λ_=>?_|refine NP.bind ?_ λ_=>?_|refine NP.jn (λ_ _=>?_) (λ_=>?_)|refine NP.iter (λ_ _ _=>?_) _ _|apply_assumption))
def ch (n:Nat) (p0:ByS) (p1:H):D (Bool×H):=
 D.bind (aF n p1) λy4=>D.bind (cB y4.1 p0) λy5=>br (!y5) (.ok (false,(H.mk y4.2.text y4.2.X y4.2.at_ p1.base y4.2.skip y4.2.pending))) (gd (cr (y4.2.at_+1)) (.ok (true,(H.mk y4.2.text y4.2.X (y4.2.at_+1) p1.base y4.2.skip y4.2.pending))))
theorem df (n:Nat) (p0:ByS) (p1:H):CT Tryz.prog 76 [.ptr 0 0,F p0] [.box (K p1)] (ch n p0 p1) (λx=>Bo x.1) (λx=>[.box (K x.2)]):=by
 refine zC Tryz.func76 O λr hp h hr E hE=>A λ_ hK1=>B (za O (zQ hK1 (A λ_ hK2=>A λ_ hK3=>B (zm O (zk hp hr h [0] Tryz.call34 (aK n p1) O (λ_=>rfl) λy4 h=>zm O (zk hp hr h [] Tryz.call72 (cJ y4.1 p0) O (λ_=>rfl) λy5 h=>J (eo O) O (zQ hK3 (zB O h (λ_ h=>?_) λ_ h=>?_))))))))
 ·exact A λ_ hK7=>B (za O (zQ hK7 (L (z O h O))))
 exact V (hK2 _ _ (A λ_ hK8=>B (zm O (zn O (zf O (zl O (zd hr h λhg9 h=>zo hg9 O (zn O (zf O (zs O (zQ hK8 (A λ_ hK10=>B (za O (zQ hK10 (L (z O h O))))))))))))))))
def slices_Index_string (n:Nat) (p0:(List ByS)) (p1:ByS):D (Int):=
 iter (λnext5 (v4:Int)=>br (decide (v4<(List.length p0:Int))) (el p0 v4 λBD=>br (p1==BD) (.ok (v4)) (gd (cr (v4+1)) (next5 (v4+1)))) (.ok ((-1)))) n (0)
theorem rK (n:Nat) (p0:(List ByS)) (p1:ByS):CT Tryz.prog 161 [.pv (.sl (List.length p0) (cd p0)),F p1] [] (slices_Index_string n p0 p1) (λx=>I x) (λ_=>[]):=by
 refine zC Tryz.func161 O λr hp h hr E hE=>A λ_ hK1=>B (za O (zQ hK1 (A λ_ hK2=>A λ_ hK3=>B (zm O (J (ca O) O (zm O (zQ hK3 (u (zL hr h (λ(v4:Int)=>[(0,.pv (.sl (List.length p0) (cd p0))),(1,F p1),(7,I (List.length p0:Int)),(8,I v4)]) (λ(v4:Int)=>[]) O λ_ v4 _ hK6 h=>A λ_ hK7=>B (zc O (zQ hK7 (A λ_ hK8=>zB O h (λ_ h=>?_) λ_ h=>?_))))))))))))
 ·refine V (hK8 _ _ (A λ_ hK10=>u (A λ_ hK11=>B (zm O (za O (zQ hK11 (A λ_ hK12=>B (zm O (zm O (zm O (ze hr h λBD h14 h15 h16 h=>J (fR dS gb h14 h15 h16 O O O) O (J (dT O O) O (J (iS O O) O (zQ hK12 (zB O h (λ_ h=>?_) λ_ h=>?_)))))))))))))))
  ·exact A λ_ hK18=>B (zm O (za O (zQ hK18 (L (z O h O)))))
  exact V (hK10 _ _ (B (zd hr h λhg19 h=>zo hg19 O (zm O (W (hK6 _ _ _ h O))))))
 exact aS (hK2 _ _ (A λ_ hK20=>B (za O (zQ hK20 (L (z O h O))))))
def slices_Contains_string (n:Nat) (p0:(List ByS)) (p1:ByS):D (Bool):=
 D.bind (slices_Index_string n p0 p1) λy3=>.ok ((decide (y3>=0)))
theorem jq (n:Nat) (p0:(List ByS)) (p1:ByS):CT Tryz.prog 109 [.pv (.sl (List.length p0) (cd p0)),F p1] [] (slices_Contains_string n p0 p1) (λx=>Bo x) (λ_=>[]):=by
 exact zC Tryz.func109 O λr hp h hr E hE=>A λ_ hK1=>B (za O (zQ hK1 (A λ_ hK2=>B (zm O (zm O (zk hp hr h [] Tryz.call161 (rK n p0 p1) O (λ_=>rfl) λy3 h=>zc O (za O (zQ hK2 (L (z O h O))))))))))
def gk (n:Nat) (p0:aA) (p1:ByS):D (Bool):=
 br (p0.Kind==5) (D.bind (strings_Split p1 ([32]:ByS)) λy4=>D.bind (slices_Contains_string n y4 p0.Text) λy5=>.ok (y5)) (.ok (false))
theorem lW (n:Nat) (p0:aA) (p1:ByS):CT Tryz.prog 151 [.agg (ej p0),F p1] [] (gk n p0 p1) (λx=>Bo x) (λ_=>[]):=by
 refine zC Tryz.func151 O λr hp h hr E hE=>A λ_ hK1=>B (dN 102 (hE _ O) O7 O ?_);refine za O (zQ hK1 (A λ_ hK2=>bu [0,1,2,3,4,6,7,5,8,9,10] O (by kernel_rfl) (zD O (bF O) O (zD O (bj O O O) O (zD O (aX O O O) O (zD O (N O) O (zb (p0.Kind==5) (λhb3=>?_) λhb3=>?_)))))))
 ·refine z1 hb3 h λh=>cK hb3 O O2 (N O) O3 ?_;refine cK hb3 O O2 (bF O) O3 ?_;refine cK hb3 O O2 (fh [.any,F p0.Text,.any,.any] O O ⟨.inr O,.inl O,.inr O,.inr O,trivial⟩ O) O3 ?_;refine dG O (AU hb3 O O2) hr h [] Tryz.call146 (nD p1 ([32]:ByS)) ⟨O,O,O,O,O,O,trivial⟩ O O (λ_=>O3) (λ_=>O2) hp (λy4 h=>⟨cF ⟨⟨⟨_,O,M.fc ⟨.inr O,.inl O,.inr O,.inr O,trivial⟩⟩,trivial⟩,⟨trivial,⟨trivial,⟨trivial,⟨trivial,⟨trivial,⟨trivial,trivial⟩⟩⟩⟩⟩⟩⟩,?_⟩);refine dG O (AU hb3 O O2) hr h [] Tryz.call109 (jq n y4 p0.Text) ⟨O,O,O,O,O,O,trivial⟩ O O (λ_=>O3) (λ_=>O2) hp (λy5 h=>⟨y O,?_⟩);exact zD O (cY hb3 O O) O (eM O O O (y O) O (ct (hK2 _ _ (L (z O h O)))))
 refine z2 hb3 h λh=>cI hb3 O O2 O2 ?_;refine cI hb3 O O2 O2 ?_;refine cI hb3 O O2 O2 ?_;refine uO hb3 O O2 O2 ?_;refine uO hb3 O O2 O2 ?_;exact zD O (cU hb3 O O) O (eM O O O (y O) O (ct (hK2 _ _ (L (z O h O)))))
def kU (p0:Int):D (ByS):=
 br (p0==0) (.ok (([124,124]:ByS))) (br (p0==1) (.ok (([38,38]:ByS))) (br (p0==2) (.ok (([61,61,32,33,61,32,60,32,60,61,32,62,32,62,61]:ByS))) (br (p0==3) (.ok (([43,32,45]:ByS))) (.ok (([42,32,47,32,37]:ByS))))))
theorem tL (p0:Int):CT Tryz.prog 215 [I p0] [] (kU p0) (λx=>F x) (λ_=>[]):=by
 refine zC Tryz.func215 O λr hp h hr E hE=>A λ_ hK1=>B (za O (zQ hK1 (A λ_ hK2=>A λ_ hK3=>B (zm O (zQ hK3 (u (A λ_ hK4=>B (zc O (za O (zQ hK4 (zB O h (λ_ h=>?_) λ_ h=>?_)))))))))))
 ·exact A λ_ hK6=>B (za O (zQ hK6 (L (z O h O))))
 refine A λ_ hK7=>B (zc O (za O (zQ hK7 (zB O h (λ_ h=>?_) λ_ h=>?_))))
 ·exact A λ_ hK9=>B (za O (zQ hK9 (L (z O h O))))
 refine A λ_ hK10=>B (zc O (za O (zQ hK10 (zB O h (λ_ h=>?_) λ_ h=>?_))))
 ·exact A λ_ hK12=>B (za O (zQ hK12 (L (z O h O))))
 refine A λ_ hK13=>B (zc O (za O (zQ hK13 (zB O h (λ_ h=>?_) λ_ h=>?_))))
 ·exact A λ_ hK15=>B (za O (zQ hK15 (L (z O h O))))
 exact V (hK2 _ _ (A λ_ hK16=>B (za O (zQ hK16 (L (z O h O))))))
def ed (p0:Int) (_:H):D (H):=
 .mf ⟨86,[.sc (.int .i64 p0)]⟩
theorem jd (p0:Int) (p1:H):CT Tryz.prog 77 [.ptr 0 0,I p0] [.box (K p1)] (ed p0 p1) (λ_=>.fZ []) (λx=>[.box (K x)]):=by
 refine zC Tryz.func77 O λr hp h hr E hE=>B (zm O (J (bd O O O) O ?_));refine J (p9 O) O ?_;exact D4 ⟨86,[.sc (.int .i64 p0)]⟩ O (zq (P:=Tryz.prog) (fn:=Tryz.f77) O h.symm)
structure hU where
 bm:U->Int->H->D (U×H)
def eO (n:Nat) (T:hU) (p0:U) (p1:Int) (p2:H):D (U×H):=
 br (p0.Kind==16) (el p0.bg 0 λx6=>el p0.bg 1 λH9=>D.bind (T.bm x6 p1 p2) λy14=>D.bind (T.bm H9 p1 y14.2) λy15=>.ok ((U.mk p0.Kind p0.Text p0.jV p0.bp p0.bq [y14.1,y15.1] p0.Decls p0.cl p0.Pos),y15.2)) (br (p0.Kind==13) (iter (λnext24 (v23:H×(List Z)×Int)=>br (decide (v23.2.2<(List.length p0.Decls:Int))) (el p0.Decls v23.2.2 λx31=>jn (λ(v35:H×Z)=>gd (k2 184 (List.length v23.2.1) (List.length [v35.2])) (gd (cr (v23.2.2+1)) (next24 (v35.1,v23.2.1++[v35.2],v23.2.2+1)))) λj36=>jn (λ(v41:Bool)=>br v41 (D.bind (ed p1 v23.1) λy45=>j36 (y45,x31)) (jn (λ(v46:Bool)=>br v46 (el x31.bg 0 λx50=>D.bind (T.bm x50 p1 v23.1) λy54=>j36 (y54.2,(Z.mk x31.Kind x31.cG x31.Label x31.bp x31.bq [y54.1] x31.Body x31.cl x31.ka x31.Trail x31.Pos))) (j36 (v23.1,x31))) λj47=>br (x31.Kind==1) (j47 ((x31.Kind==1))) (br (x31.Kind==2) (j47 ((x31.Kind==2))) (j47 ((x31.Kind==3)))))) λj42=>br (x31.Kind==4) (j42 ((x31.Kind==4))) (j42 ((x31.Kind==8)))) (.ok ((U.mk 22 p0.Text p0.jV p0.bp p0.bq p0.bg v23.2.1 p0.cl p0.Pos),v23.1))) n (p2,[],0)) (.ok (p0,p2)))
def eN:Nat->hU
 | 0=>⟨λ_ _ _=>.stuck⟩
 | n+1=>⟨eO n (eN n)⟩
def bm (n:Nat) (p0:U) (p1:Int) (p2:H):D (U×H):=(eN n).bm p0 p1 p2
structure kQ (T:hU):Prop where
 bm:∀ (p0:U) (p1:Int) (p2:H),CT Tryz.prog 74 [.ptr 0 0,.agg (bh p0),I p1] [.box (K p2)] (T.bm p0 p1 p2) (λx=>.agg (bh x.1)) (λx=>[.box (K x.2)])
theorem qg (n:Nat) (T:hU) (hT:kQ T) (p0:U) (p1:Int) (p2:H):CT Tryz.prog 74 [.ptr 0 0,.agg (bh p0),I p1] [.box (K p2)] (eO n T p0 p1 p2) (λx=>.agg (bh x.1)) (λx=>[.box (K x.2)]):=by
 refine zC Tryz.func74 O λr hp h hr E hE=>A λ_ hK1=>B (dN 104 (hE _ O) O7 O ?_);refine aH 106 (hE _ O) O4 O ?_;refine zQ hK1 (A λ_ hK2=>A λ_ hK3=>B (zf O (zl O (zQ hK3 (u (A λ_ hK4=>B (zc O (za O (zQ hK4 (zB O h (λ_ h=>?_) λ_ h=>?_))))))))))
 ·refine bu [0,1,2,3,4,5,7,8,9,10,11,12,6,13,14,15,16] O (by kernel_rfl) (zD O (N O) O (zD O (bF O) O (zD O (bj O O O) O (ze hr h λx6 h7 h8 h9 h=>zD O (fR U.Q U.q h7 h8 h9 O O O) O (zD O (iJ O O) O ?_)))));refine zD O (N O) O (zD O (N O) O (zD O (bF O) O (zD O (fh [.any,.any,.any,.any,.any,.pv (.sl (List.length p0.bg) (U.Cs p0.bg)),.any,.any,.any] O O ⟨.inr O,.inr O,.inr O,.inr O,.inr O,.inl O,.inr O,.inr O,.inr O,trivial⟩ O) O (ze hr h λH9 h11 h12 h13 h=>zD O (fR U.Q U.q h11 h12 h13 O O O) O (zD O (iJ O O) O ?_)))));refine zD O (N O) O (dG O (bQ O) hr h [0] Tryz.call74 (hT.bm x6 p1 p2) ⟨O,O,O,O,O,O,trivial⟩ O O (λ_=>O3) (λ_=>O2) hp (λy14 h=>⟨cF ⟨trivial,⟨trivial,⟨trivial,⟨⟨⟨_,O,M.fc ⟨.inr O,.inr O,.inr O,.inr O,.inr O,.inl O,.inr O,.inr O,.inr O,trivial⟩⟩,trivial⟩,⟨trivial,⟨trivial,⟨trivial,⟨trivial,⟨trivial,⟨trivial,⟨trivial,⟨trivial,trivial⟩⟩⟩⟩⟩⟩⟩⟩⟩⟩⟩⟩,?_⟩));refine dG O (bQ O) hr h [0] Tryz.call74 (hT.bm H9 p1 y14.2) ⟨O,O,O,O,O,O,trivial⟩ O O (λ_=>O3) (λ_=>O2) hp (λy15 h=>⟨y O,?_⟩);refine iL [y14.1,y15.1] U.Q O (bQ O) O2 O2 ?_;refine zD O (bF O) O (bV O O8 O (λe16 he=>⟨y O,?_⟩));subst he;refine ct (hK2 _ _ (A λ_ hK16=>B (zA O ?_)));exact zs O (zQ hK16 (L (zX (.cons (aT O O O) .nil) h O)))
 refine A λ_ hK17=>B (zc O (za O (zQ hK17 (zB O h (λ_ h=>?_) λ_ h=>?_))))
 ·refine A λ_ hK19=>B (zf O (zs O (zQ hK19 (A λ_ hK20=>B (za O (zQ hK20 (A λ_ hK21=>A λ_ hK22=>B (zf O (zl O (J (ca O) O (zm O (zQ hK22 (u (bK (pA (d:=7) 10007 (sz:=11) (el:=53) (hE _ O) O O3) ?_))))))))))))));refine zL hr h (λ(v23:H×(List Z)×Int)=>[(0,.ptr 0 0),(1,.agg (bh p0)),(2,I p1),(4,.ptr 104 0),(6,.ptr 106 0),(7,.arr 10007 (List.length v23.2.1)),(34,.pv (.sl (List.length p0.Decls) (Z.Cs p0.Decls))),(35,I (List.length p0.Decls:Int)),(36,I v23.2.2)]) (λ(v23:H×(List Z)×Int)=>[(0,.box (K v23.1)),(104,.box [I 22,F p0.Text,I p0.jV,F p0.bp,F p0.bq,.pv (.sl (List.length p0.bg) (U.Cs p0.bg)),.pv (.sl (List.length p0.Decls) (Z.Cs p0.Decls)),.pv (.sl (List.length p0.cl) (cd p0.cl)),I p0.Pos]),(106,.box [I 0,F [],I 0,F [],F [],nSl,nSl,nSl,I 0]),(10007,.app 53 11 (Z.Cs v23.2.1))]) O λ_ v23 _ hK25 h=>A λ_ hK26=>B (zc O (zQ hK26 (A λ_ hK27=>zB O h (λ_ h=>?_) λ_ h=>?_)))
  ·refine V (hK27 _ _ (A λ_ hK29=>u (A λ_ hK30=>B (ze hr h λx31 h32 h33 h34 h=>J (fR Z.Q Z.q h32 h33 h34 O O O) O (J (iJ O O) O ?_)))));refine aH 109 (hE _ O) O4 O ?_;refine zs O (zQ hK30 (zM h (λ(v35:H×Z)=>[(0,.ptr 0 0),(1,.agg (bh p0)),(2,I p1),(4,.ptr 104 0),(6,.ptr 106 0),(7,.arr 10007 (List.length v23.2.1)),(9,.ptr 109 0),(34,.pv (.sl (List.length p0.Decls) (Z.Cs p0.Decls))),(35,I (List.length p0.Decls:Int)),(36,I v23.2.2)]) (λ(v35:H×Z)=>[(0,.box (K v35.1)),(104,.box [I 22,F p0.Text,I p0.jV,F p0.bp,F p0.bq,.pv (.sl (List.length p0.bg) (U.Cs p0.bg)),.pv (.sl (List.length p0.Decls) (Z.Cs p0.Decls)),.pv (.sl (List.length p0.cl) (cd p0.cl)),I p0.Pos]),(106,.box [I 0,F [],I 0,F [],F [],nSl,nSl,nSl,I 0]),(109,.box (dB v35.2)),(10007,.app 53 11 (Z.Cs v23.2.1))]) (λv35 h=>?_) λ_ _ hK37 h=>?_))
   ·refine B (zm O (zA O ?_));refine bN [v35.2] Z.Q O2 O ?_;refine zd hr h λhg38 h=>jo 164 ⟨jD.h,dH.h,Z.Q,Z.q,Z.iu,hE _ O,O,O,(.inl O),O3,hg38⟩ O ?_;refine za O (aY (iT 164 10007 [(0,.ptr 0 0),(1,.agg (bh p0)),(2,I p1),(4,.ptr 104 0),(6,.ptr 106 0),(7,.arr 10007 (List.length (v23.2.1++[v35.2]))),(34,.pv (.sl (List.length p0.Decls) (Z.Cs p0.Decls))),(35,I (List.length p0.Decls:Int)),(36,I v23.2.2)] [(0,.box (K v35.1)),(104,.box [I 22,F p0.Text,I p0.jV,F p0.bp,F p0.bq,.pv (.sl (List.length p0.bg) (U.Cs p0.bg)),.pv (.sl (List.length p0.Decls) (Z.Cs p0.Decls)),.pv (.sl (List.length p0.cl) (cd p0.cl)),I p0.Pos]),(106,.box [I 0,F [],I 0,F [],F [],nSl,nSl,nSl,I 0])] (hE _ O) O O O2 ⟨⟨_,O,O,O⟩,⟨_,O,O,O⟩,⟨_,O,O,O⟩,⟨_,O,O,O⟩,⟨_,O,O,O⟩,⟨_,O,O,O⟩,⟨_,O,O,O⟩,⟨_,O,O,O⟩,⟨_,O,O,O⟩,trivial⟩ ⟨⟨_,O,O,O,O,O⟩,⟨_,O,O,O,O,O⟩,⟨_,O,O,O,O,O⟩,trivial⟩) ?_);exact zQ hK29 (B (zd hr h λhg39 h=>zo hg39 O (zm O (W (hK25 _ _ _ h O)))))
   refine A λ_ hK40=>B (zf O (zl O (zQ hK40 (u (zM h (λ(v41:Bool)=>[(0,.ptr 0 0),(1,.agg (bh p0)),(2,I p1),(4,.ptr 104 0),(6,.ptr 106 0),(7,.arr 10007 (List.length v23.2.1)),(9,.ptr 109 0),(34,.pv (.sl (List.length p0.Decls) (Z.Cs p0.Decls))),(35,I (List.length p0.Decls:Int)),(36,I v23.2.2),(41,I x31.Kind),(42,Bo v41)]) (λ(v41:Bool)=>[(0,.box (K v23.1)),(104,.box [I 22,F p0.Text,I p0.jV,F p0.bp,F p0.bq,.pv (.sl (List.length p0.bg) (U.Cs p0.bg)),.pv (.sl (List.length p0.Decls) (Z.Cs p0.Decls)),.pv (.sl (List.length p0.cl) (cd p0.cl)),I p0.Pos]),(106,.box [I 0,F [],I 0,F [],F [],nSl,nSl,nSl,I 0]),(109,.box (dB x31)),(10007,.app 53 11 (Z.Cs v23.2.1))]) (λv41 h=>?_) λ_ _ hK43 h=>?_)))))
   ·refine zB O h (λ_ h=>?_) λ_ h=>?_
    ·exact B (zm O (zm O (zk hp hr h [0] Tryz.call77 (jd p1 v23.1) O (λ_=>rfl) λy45 h=>W (hK37 _ _ _ h O))))
    refine zM h (λ(v46:Bool)=>[(0,.ptr 0 0),(1,.agg (bh p0)),(2,I p1),(4,.ptr 104 0),(6,.ptr 106 0),(7,.arr 10007 (List.length v23.2.1)),(9,.ptr 109 0),(34,.pv (.sl (List.length p0.Decls) (Z.Cs p0.Decls))),(35,I (List.length p0.Decls:Int)),(36,I v23.2.2),(48,Bo v46)]) (λ(v46:Bool)=>[(0,.box (K v23.1)),(104,.box [I 22,F p0.Text,I p0.jV,F p0.bp,F p0.bq,.pv (.sl (List.length p0.bg) (U.Cs p0.bg)),.pv (.sl (List.length p0.Decls) (Z.Cs p0.Decls)),.pv (.sl (List.length p0.cl) (cd p0.cl)),I p0.Pos]),(106,.box [I 0,F [],I 0,F [],F [],nSl,nSl,nSl,I 0]),(109,.box (dB x31)),(10007,.app 53 11 (Z.Cs v23.2.1))]) (λv46 h=>?_) λ_ _ hK48 h=>?_
    ·refine zB O h (λ_ h=>?_) λ_ h=>?_
     ·refine B (zm O (zf O (zl O (ze hr h λx50 h51 h52 h53 h=>J (fR U.Q U.q h51 h52 h53 O O O) O (J (iJ O O) O ?_)))));refine zm O (zk hp hr h [0] Tryz.call74 (hT.bm x50 p1 v23.1) O (λ_=>rfl) λy54 h=>bN [y54.1] U.Q O2 O ?_);exact zf O (zs O (W (hK37 _ _ _ h O)))
     exact V (hK37 _ _ _ h O)
    refine A λ_ hK55=>B (zc O (za O (zQ hK55 (zB O h (λ_ h=>?_) λ_ h=>?_))))
    ·exact V (hK48 _ _ _ h O)
    refine A λ_ hK57=>B (zc O (za O (zQ hK57 (zB O h (λ_ h=>?_) λ_ h=>?_))))
    ·exact V (hK48 _ _ _ h O)
    exact B (zc O (za O (W (hK48 _ _ _ h O))))
   refine A λ_ hK59=>B (zc O (za O (zQ hK59 (zB O h (λ_ h=>?_) λ_ h=>?_))))
   ·exact V (hK43 _ _ _ h O)
   exact B (zc O (za O (W (hK43 _ _ _ h O))))
  refine aS (hK21 _ _ (B (J (kD Z.Q Z.q O O O) O ?_)));refine zf O (zs O (zQ hK2 (A λ_ hK61=>B (zA O ?_))));exact zs O (zQ hK61 (L (zX (.cons (aT O O O) .nil) h O)))
 refine V (hK2 _ _ (A λ_ hK62=>B (zA O ?_)));exact zs O (zQ hK62 (L (zX (.cons (aT O O O) .nil) h O)))
theorem km:∀ n,kQ (eN n)
 | 0=>⟨λ_ _ _=>cx⟩
 | n+1=>⟨λp0 p1 p2=>qg n _ (km n) p0 p1 p2⟩
theorem gH (n:Nat) (p0:U) (p1:Int) (p2:H):CT Tryz.prog 74 [.ptr 0 0,.agg (bh p0),I p1] [.box (K p2)] (bm n p0 p1 p2) (λx=>.agg (bh x.1)) (λx=>[.box (K x.2)]):=(km n).bm p0 p1 p2
def bL (n:Nat) (p0:H):D (Int×H):=
 D.bind (aF n p0) λy3=>gd (cr (p0.base+y3.1.Pos)) (.ok (p0.base+y3.1.Pos,(H.mk y3.2.text y3.2.X y3.2.at_ p0.base y3.2.skip y3.2.pending)))
theorem cg (n:Nat) (p0:H):CT Tryz.prog 75 [.ptr 0 0] [.box (K p0)] (bL n p0) (λx=>I x.1) (λx=>[.box (K x.2)]):=by
 refine zC Tryz.func75 O λr hp h hr E hE=>A λ_ hK1=>B (za O (zQ hK1 (A λ_ hK2=>bu [0,1,2,3,4,5,6,7,8] O (by kernel_rfl) (zD O (N O) O (zD O (c7 O) O (zD O (bF O) O (zD O (fh [.any,.any,.any,I p0.base,.any,.any] O O ⟨.inr O,.inr O,.inr O,.inl O,.inr O,.inr O,trivial⟩ O) O (zD O (N O) O (dG O (bQ O) hr h [0] Tryz.call34 (aK n p0) ⟨O,O,O,O,O,O,trivial⟩ O O (λ_=>O3) (λ_=>O2) hp (λy3 h=>⟨cF ⟨trivial,⟨⟨⟨_,O,M.fc ⟨.inr O,.inr O,.inr O,.inl O,.inr O,.inr O,trivial⟩⟩,trivial⟩,⟨trivial,⟨trivial,⟨trivial,trivial⟩⟩⟩⟩⟩,?_⟩))))))))));refine zD O (kN O O) O ?_;exact zd hr h λhg4 h=>zD O (gV O O hg4) O (eM O O O (y O) O (ct (hK2 _ _ (L (z O h O)))))
def lX (p0:Int):D (Bool):=
 br (decide (p0>=97)) (br (decide (p0<=122)) (.ok (true)) (br (decide (p0>=65)) (.ok ((decide (p0<=90)))) (.ok (false)))) (br (decide (p0>=65)) (.ok ((decide (p0<=90)))) (.ok (false)))
theorem sy (p0:Int):CT Tryz.prog 110 [Sc (.int .u8 p0)] [] (lX p0) (λx=>Bo x) (λ_=>[]):=by
 refine zC Tryz.func110 O λr hp h hr E hE=>A λ_ hK1=>B (za O (zQ hK1 (A λ_ hK2=>B (zm O (zc O (zm O (zb (decide (p0>=97)) (λhb3=>?_) λhb3=>?_)))))))
 ·refine z1 hb3 h λh=>zG hb3 O (N O) (zG hb3 O (aX O O O) (zy hb3 O (zm O (zb (decide (p0<=122)) (λhb4=>?_) λhb4=>?_))))
  ·exact z1 hb4 h λh=>zH 3 O hb4 (zu O (zu O (zg hb4 O (zy hb4 O (za O (zQ hK2 (L (z O h O))))))))
  refine z2 hb4 h λh=>zG hb4 O (N O) (zG hb4 O (aX O O O) (zG hb4 O (N O) (zb (decide (p0>=65)) (λhb5=>?_) λhb5=>?_)))
  ·exact z1 hb5 h λh=>zG hb5 O (N O) (zG hb5 O (aX O O O) (zG hb4 O (cY hb5 O O) (zw hb4 O (za O (zQ hK2 (L (z O h O)))))))
  exact z2 hb5 h λh=>zH 2 O hb5 (zG hb4 O (cU hb5 O O) (zw hb4 O (za O (zQ hK2 (L (z O h O))))))
 refine z2 hb3 h λh=>zH 2 O hb3 (zw hb3 O (zm O (zG O O (N O) (zG O O (aX O O O) (zG O O (N O) (zb (decide (p0>=65)) (λhb6=>?_) λhb6=>?_))))))
 ·exact z1 hb6 h λh=>zG hb6 O (N O) (zG hb6 O (aX O O O) (zG O O (cY hb6 O O) (J (de O O) O (za O (zQ hK2 (L (z O h O)))))))
 exact z2 hb6 h λh=>zH 2 O hb6 (zG O O (cU hb6 O O) (J (de O O) O (za O (zQ hK2 (L (z O h O))))))
def gu (n:Nat) (p0:ByS):D (Bool):=
 br (decide ((List.length p0:Int)>32)) (.ok (false)) (D.bind (slices_Contains_string n [([110,117,108,108]:ByS),([116,114,117,101]:ByS),([102,97,108,115,101]:ByS),([98,111,111,108]:ByS),([105,110,116]:ByS),([110,117,109,98,101,114]:ByS),([115,116,114,105,110,103]:ByS),([108,101,116]:ByS),([105,102]:ByS),([102,111,114]:ByS),([105,110]:ByS),([112,97,99,107,97,103,101]:ByS),([105,109,112,111,114,116]:ByS)] p0) λy7=>br y7 (.ok (false)) (jn (λ(v10:ByS)=>br ((List.length v10:Int)==0) (.ok (false)) (el v10 0 λb17=>D.bind (lX (b17.toNat:Int)) λy21=>br (!y21) (.ok (false)) (iter (λnext27 (v26:Int)=>br (decide (v26<(List.length v10:Int))) (el v10 v26 λb35=>D.bind (lX (b35.toNat:Int)) λy39=>br (!y39) (el v10 v26 λb41=>br ((b41.toNat:Int) !=95) (el v10 v26 λb46=>br (decide ((b46.toNat:Int)<48)) (.ok (false)) (el v10 v26 λb52=>br (decide ((b52.toNat:Int)>57)) (.ok (false)) (gd (cr (v26+1)) (next27 (v26+1))))) (gd (cr (v26+1)) (next27 (v26+1)))) (gd (cr (v26+1)) (next27 (v26+1)))) (.ok (true))) n (0)))) λj11=>br (decide ((List.length p0:Int)>0)) (el p0 0 λb64=>br ((b64.toNat:Int)==35) (gd ((0:Int)<=1/\1<=(List.length p0:Int)) (j11 (dK p0 1))) (el p0 0 λb70=>br ((b70.toNat:Int)==95) (gd ((0:Int)<=1/\1<=(List.length p0:Int)) (j11 (dK p0 1))) (j11 (p0)))) (j11 (p0))))
theorem gC (n:Nat) (p0:ByS):CT Tryz.prog 62 [F p0] [] (gu n p0) (λx=>Bo x) (λ_=>[]):=by
 refine zC Tryz.func62 O λr hp h hr E hE=>A λ_ hK1=>B (za O (zQ hK1 (A λ_ hK2=>B (bN [([110,117,108,108]:ByS),([116,114,117,101]:ByS),([102,97,108,115,101]:ByS),([98,111,111,108]:ByS),([105,110,116]:ByS),([110,117,109,98,101,114]:ByS),([115,116,114,105,110,103]:ByS),([108,101,116]:ByS),([105,102]:ByS),([102,111,114]:ByS),([105,110]:ByS),([112,97,99,107,97,103,101]:ByS),([105,109,112,111,114,116]:ByS)] dS O2 O ?_))));refine za O (zQ hK2 (A λ_ hK3=>A λ_ hK4=>B (zm O (J (bJ O) O (zc O (zm O (zb (decide ((List.length p0:Int)>32)) (λhb5=>?_) λhb5=>?_)))))))
 ·refine z1 hb5 h λh=>zH 3 O hb5 (zy hb5 O (zQ hK4 (cb O (λhc=>?_) (λhc=>?_))))
  ·exact A λ_ hK6=>B (za O (zQ hK6 (L (z O h O))))
  exact absurd (hc) (by simp)
 refine z2 hb5 h λh=>zG hb5 O (N O) (zG hb5 O (N O) (zK hb5 O hp hr h [] Tryz.call109 (jq n [([110,117,108,108]:ByS),([116,114,117,101]:ByS),([102,97,108,115,101]:ByS),([98,111,111,108]:ByS),([105,110,116]:ByS),([110,117,109,98,101,114]:ByS),([115,116,114,105,110,103]:ByS),([108,101,116]:ByS),([105,102]:ByS),([102,111,114]:ByS),([105,110]:ByS),([112,97,99,107,97,103,101]:ByS),([105,109,112,111,114,116]:ByS)] p0) O (λ_=>rfl) λy7 h=>zw hb5 O (zQ hK4 (zB O h (λ_ h=>?_) λ_ h=>?_))))
 ·exact A λ_ hK9=>B (za O (zQ hK9 (L (z O h O))))
 refine V (hK3 _ _ (zM h (λ(v10:ByS)=>[(0,F v10)]) (λ(v10:ByS)=>[]) (λv10 h=>?_) λ_ _ hK12 h=>?_))
 ·refine A λ_ hK13=>A λ_ hK14=>B (zm O (J (bJ O) O (zc O (zm O (zb ((List.length v10:Int)==0) (λhb15=>?_) λhb15=>?_)))))
  ·refine z1 hb15 h λh=>zH 4 O hb15 (zy hb15 O (zQ hK14 (cb O (λhc=>?_) (λhc=>?_))))
   ·exact A λ_ hK16=>B (za O (zQ hK16 (L (z O h O))))
   exact absurd (hc) (by simp)
  refine z2 hb15 h λh=>zG hb15 O (N O) (ze hr h λb17 h18 h19 h20 h=>zG hb15 O (bY O O h18 h20) (zK hb15 O hp hr h [] Tryz.call110 (sy (b17.toNat:Int)) O (λ_=>rfl) λy21 h=>zG hb15 O (eo O) (zw hb15 O (zQ hK14 (zB O h (λ_ h=>?_) λ_ h=>?_)))))
  ·exact A λ_ hK23=>B (za O (zQ hK23 (L (z O h O))))
  refine V (hK13 _ _ (A λ_ hK24=>A λ_ hK25=>B (zm O (J (bJ O) O (zm O (zQ hK25 (u (zL hr h (λ(v26:Int)=>[(0,F v10),(39,I (List.length v10:Int)),(40,I v26)]) (λ(v26:Int)=>[]) O λ_ v26 _ hK28 h=>A λ_ hK29=>B (zc O (zQ hK29 (A λ_ hK30=>zB O h (λ_ h=>?_) λ_ h=>?_)))))))))))
  ·refine V (hK30 _ _ (A λ_ hK32=>u (A λ_ hK33=>B (zm O (za O (zQ hK33 (A λ_ hK34=>B (zm O (zm O (ze hr h λb35 h36 h37 h38 h=>J (bY O O h36 h38) O (zk hp hr h [] Tryz.call110 (sy (b35.toNat:Int)) O (λ_=>rfl) λy39 h=>J (eo O) O (zm O (zb (!y39) (λhb40=>?_) λhb40=>?_)))))))))))))
   ·refine z1 hb40 h λh=>zG hb40 O (N O) (zG hb40 O (N O) (ze hr h λb41 h42 h43 h44 h=>zG hb40 O (bY O O h42 h44) (zG hb40 O (aX O O O) (zy hb40 O (zm O (zb ((b41.toNat:Int) !=95) (λhb45=>?_) λhb45=>?_))))))
    ·refine z1 hb45 h λh=>zG hb45 O (N O) (zG hb45 O (N O) (ze hr h λb46 h47 h48 h49 h=>zG hb45 O (bY O O h47 h49) (zG hb45 O (aX O O O) (zG hb45 O (N O) (zb (decide ((b46.toNat:Int)<48)) (λhb50=>?_) λhb50=>?_)))))
     ·refine z1 hb50 h λh=>zH 4 O hb50 (zG hb45 O (cY hb50 O O) (zy hb45 O (zQ hK34 (cb O (λhc=>?_) (λhc=>?_)))))
      ·exact A λ_ hK51=>B (za O (zQ hK51 (L (z O h O))))
      exact absurd (hc) (by simp)
     refine z2 hb50 h λh=>zG hb50 O (N O) (zG hb50 O (N O) (ze hr h λb52 h53 h54 h55 h=>zG hb50 O (bY O O h53 h55) (zG hb50 O (aX O O O) (zG hb45 O (cU hb50 O O) (zy hb45 O (zQ hK34 (zB O h (λ_ h=>?_) λ_ h=>?_)))))))
     ·exact A λ_ hK57=>B (za O (zQ hK57 (L (z O h O))))
     exact V (hK32 _ _ (B (zd hr h λhg58 h=>zo hg58 O (zm O (W (hK28 _ _ _ h O))))))
    refine z2 hb45 h λh=>zH 5 O hb45 (zu O (zu O (zu O (zu O (zg hb45 O (zw hb45 O (zQ hK34 (cb O (λhc=>?_) (λhc=>?_)))))))))
    ·exact absurd (hc) (by simp)
    exact V (hK32 _ _ (B (zd hr h λhg59 h=>zo hg59 O (zm O (W (hK28 _ _ _ h O))))))
   refine z2 hb40 h λh=>zH 4 O hb40 (zw hb40 O (zm O (zH 5 O O (zu O (zu O (zu O (zu O (zg O O (J (de O O) O (zQ hK34 (cb O (λhc=>?_) (λhc=>?_))))))))))))
   ·exact absurd (hc) (by simp)
   exact V (hK32 _ _ (B (zd hr h λhg60 h=>zo hg60 O (zm O (W (hK28 _ _ _ h O))))))
  exact aS (hK24 _ _ (A λ_ hK61=>B (za O (zQ hK61 (L (z O h O))))))
 refine A λ_ hK62=>B (zm O (J (bJ O) O (zc O (zm O (zb (decide ((List.length p0:Int)>0)) (λhb63=>?_) λhb63=>?_)))))
 ·refine z1 hb63 h λh=>zG hb63 O (N O) (ze hr h λb64 h65 h66 h67 h=>zG hb63 O (bY O O h65 h67) (zG hb63 O (aX O O O) (zG hb63 O (N O) (zb ((b64.toNat:Int)==35) (λhb68=>?_) λhb68=>?_))))
  ·refine z1 hb68 h λh=>zH 3 O hb68 (zG hb63 O (cY hb68 O O) (zy hb63 O (zQ hK62 (cb O (λhc=>?_) (λhc=>?_)))))
   ·exact B (zm O (zd hr h λhg69 h=>J (ir O O hg69.1 hg69.2) O (za O (W (hK12 _ _ _ h O)))))
   exact absurd (hc) (by simp)
  refine z2 hb68 h λh=>zG hb68 O (N O) (ze hr h λb70 h71 h72 h73 h=>zG hb68 O (bY O O h71 h73) (zG hb68 O (aX O O O) (zG hb63 O (cU hb68 O O) (zy hb63 O (zQ hK62 (zB O h (λ_ h=>?_) λ_ h=>?_))))))
  ·exact B (zm O (zd hr h λhg75 h=>J (ir O O hg75.1 hg75.2) O (za O (W (hK12 _ _ _ h O)))))
  exact V (hK12 _ _ _ h O)
 refine z2 hb63 h λh=>zH 4 O hb63 (zu O (zu O (zu O (zg hb63 O (zw hb63 O (zQ hK62 (cb O (λhc=>?_) (λhc=>?_))))))))
 ·exact absurd (hc) (by simp)
 exact V (hK12 _ _ _ h O)
def gg (n:Nat) (p0:aA):D (Bool):=
 br (p0.Kind==3) (.ok (true)) (br (p0.Kind==1) (D.bind (gu n p0.Text) λy5=>.ok (y5)) (.ok (false)))
theorem qh (n:Nat) (p0:aA):CT Tryz.prog 150 [.agg (ej p0)] [] (gg n p0) (λx=>Bo x) (λ_=>[]):=by
 refine zC Tryz.func150 O λr hp h hr E hE=>A λ_ hK1=>B (dN 101 (hE _ O) O7 O ?_);refine za O (zQ hK1 (A λ_ hK2=>B (zf O (zl O (zc O (zm O (zb (p0.Kind==3) (λhb3=>?_) λhb3=>?_)))))))
 ·exact z1 hb3 h λh=>zH 4 O hb3 (zu O (zu O (zu O (zg hb3 O (zy hb3 O (za O (zQ hK2 (L (z O h O)))))))))
 refine z2 hb3 h λh=>zG hb3 O (bF O) (zG hb3 O (bj O O O) (zG hb3 O (aX O O O) (zG hb3 O (N O) (zb (p0.Kind==1) (λhb4=>?_) λhb4=>?_))))
 ·exact z1 hb4 h λh=>zG hb4 O (bF O) (zG hb4 O (bj O O O) (zK hb4 O hp hr h [] Tryz.call62 (gC n p0.Text) O (λ_=>rfl) λy5 h=>zG hb3 O (cY hb4 O O) (zw hb3 O (za O (zQ hK2 (L (z O h O)))))))
 exact z2 hb4 h λh=>zH 3 O hb4 (zG hb3 O (cU hb4 O O) (zw hb3 O (za O (zQ hK2 (L (z O h O))))))
def lH (p0:Int):D (Bool):=
 br (decide (p0>=(-1000000000000000))) (.ok ((decide (p0<=1000000000000000)))) (.ok (false))
theorem pG (p0:Int):CT Tryz.prog 141 [I p0] [] (lH p0) (λx=>Bo x) (λ_=>[]):=by
 refine zC Tryz.func141 O λr hp h hr E hE=>A λ_ hK1=>B (za O (zQ hK1 (A λ_ hK2=>B (zm O (zc O (zm O (zb (decide (p0>=(-1000000000000000))) (λhb3=>?_) λhb3=>?_)))))))
 ·exact z1 hb3 h λh=>zG hb3 O (N O) (zG hb3 O (aX O O O) (zy hb3 O (za O (zQ hK2 (L (z O h O))))))
 exact z2 hb3 h λh=>zH 2 O hb3 (zw hb3 O (za O (zQ hK2 (L (z O h O)))))
def qM (p0:Int):D (Int):=
 br (decide (p0<0)) (.ok (IntKind.wrap .u64 (IntKind.wrap .i64 (0 - p0)))) (.ok (IntKind.wrap .u64 p0))
theorem zS (p0:Int):CT Tryz.prog 192 [I p0] [] (qM p0) (λx=>Sc (.int .u64 x)) (λ_=>[]):=by
 refine zC Tryz.func192 O λr hp h hr E hE=>A λ_ hK1=>B (za O (zQ hK1 (A λ_ hK2=>A λ_ hK3=>B (zm O (zc O (zQ hK3 (zB O h (λ_ h=>?_) λ_ h=>?_)))))))
 ·exact A λ_ hK5=>B (zm O (J (BN O) O (J (jy O) O (za O (zQ hK5 (L (z O h O)))))))
 exact V (hK2 _ _ (A λ_ hK6=>B (zm O (J (jy O) O (za O (zQ hK6 (L (z O h O))))))))
def qN (n:Nat) (p0:Int):D (ByS):=
 D.bind (lH p0) λy4=>br (!y4) (.ok (([63]:ByS))) (D.bind (qM p0) λy8=>gd ((10000:Int)≠0) (D.bind (iN (IntKind.wrap .u64 (Int.tdiv y8 10000)) 10) λy11=>jn (λ(v12:ByS)=>gd ((10000:Int)≠0) (D.bind (iN (IntKind.wrap .u64 ((Int.tmod y8 10000)+10000)) 10) λy17=>gd ((0:Int)<=1/\1<=(List.length y17:Int)) (jn (λ(v19:ByS)=>br (v19 !=([]:ByS)) (gd (mh ([46]:ByS) v19) (gd (mh v12 (([46]:ByS)++v19)) (.ok (v12++(([46]:ByS)++v19))))) (.ok (v12))) λj20=>iter (λnext30 (v29:ByS)=>br (decide ((List.length v29:Int)>0)) (gd (cr ((List.length v29:Int) - 1)) (el v29 ((List.length v29:Int) - 1) λb36=>br ((b36.toNat:Int)==48) (gd (cr ((List.length v29:Int) - 1)) (gd ((0:Int)<=((List.length v29:Int) - 1)/\((List.length v29:Int) - 1)<=(List.length v29:Int)) (next30 (jU v29 ((List.length v29:Int) - 1))))) (j20 (v29)))) (j20 (v29))) n (dK y17 1)))) λj13=>br (decide (p0<0)) (gd (mh ([45]:ByS) y11) (j13 (([45]:ByS)++y11))) (j13 (y11))))
theorem zT (n:Nat) (p0:Int):CT Tryz.prog 142 [I p0] [] (qN n p0) (λx=>F x) (λ_=>[]):=by
 refine zC Tryz.func142 O λr hp h hr E hE=>A λ_ hK1=>B (za O (zQ hK1 (A λ_ hK2=>A λ_ hK3=>B (zm O (zk hp hr h [] Tryz.call141 (pG p0) O (λ_=>rfl) λy4 h=>J (eo O) O (zQ hK3 (zB O h (λ_ h=>?_) λ_ h=>?_)))))))
 ·exact A λ_ hK6=>B (za O (zQ hK6 (L (z O h O))))
 refine V (hK2 _ _ (A λ_ hK7=>B (zm O (zk hp hr h [] Tryz.call192 (zS p0) O (λ_=>rfl) λy8 h=>za O (zQ hK7 (A λ_ hK9=>B (zm O (zd hr h λhg10 h=>J (wQ O O hg10) O (zk hp hr h [] Tryz.call193 (mZ (IntKind.wrap .u64 (Int.tdiv y8 10000)) 10) O (λ_=>rfl) λy11 h=>za O (zQ hK9 (zM h (λ(v12:ByS)=>[(0,I p0),(3,Sc (.int .u64 y8)),(4,F v12)]) (λ(v12:ByS)=>[]) (λv12 h=>?_) λ_ _ hK14 h=>?_)))))))))))
 ·refine A λ_ hK15=>B (zm O (zd hr h λhg16 h=>J (wR O O hg16) O (J (jm O O) O (zk hp hr h [] Tryz.call193 (mZ (IntKind.wrap .u64 ((Int.tmod y8 10000)+10000)) 10) O (λ_=>rfl) λy17 h=>zd hr h λhg18 h=>J (ir O O hg18.1 hg18.2) O (za O (zQ hK15 (zM h (λ(v19:ByS)=>[(0,I p0),(4,F v12),(5,F v19)]) (λ(v19:ByS)=>[]) (λv19 h=>?_) λ_ _ hK21 h=>?_)))))))
  ·refine A λ_ hK22=>A λ_ hK23=>B (zm O (J (pU O O) O (zQ hK23 (zB O h (λ_ h=>?_) λ_ h=>?_))))
   ·exact B (zm O (zm O (zd hr h λhg25 h=>J (iK O O hg25) O (zd hr h λhg26 h=>J (iK O O hg26) O (za O (zQ hK22 (A λ_ hK27=>B (zm O (za O (zQ hK27 (L (z O h O))))))))))))
   exact V (hK22 _ _ (A λ_ hK28=>B (zm O (za O (zQ hK28 (L (z O h O)))))))
  refine u (zL hr h (λ(v29:ByS)=>[(0,I p0),(4,F v12),(5,F v29)]) (λ(v29:ByS)=>[]) O λ_ v29 _ hK31 h=>A λ_ hK32=>A λ_ hK33=>B (zm O (J (bJ O) O (zc O (zm O (zb (decide ((List.length v29:Int)>0)) (λhb34=>?_) λhb34=>?_))))))
  ·refine z1 hb34 h λh=>zG hb34 O (N O) (zG hb34 O (N O) (zG hb34 O (bJ O) (zd hr h λhg35 h=>zG hb34 O (jT O O hg35) (ze hr h λb36 h37 h38 h39 h=>zG hb34 O (bY O O h37 h39) (zG hb34 O (aX O O O) (zy hb34 O (zQ hK33 (zB O h (λ_ h=>?_) λ_ h=>?_))))))))
   ·exact V (hK32 _ _ (u (B (zm O (zm O (J (bJ O) O (zd hr h λhg41 h=>J (jT O O hg41) O (zd hr h λhg42 h=>J (o7 O O hg42.1 hg42.2) O (za O (W (hK31 _ _ _ h O)))))))))))
   exact aS (hK21 _ _ _ h O)
  refine z2 hb34 h λh=>zH 6 O hb34 (zw hb34 O (zQ hK33 (cb O (λhc=>?_) (λhc=>?_))))
  ·exact absurd (hc) (by simp)
  exact aS (hK21 _ _ _ h O)
 refine A λ_ hK43=>B (zm O (zc O (zQ hK43 (zB O h (λ_ h=>?_) λ_ h=>?_))))
 ·exact B (zm O (zd hr h λhg45 h=>J (iK O O hg45) O (za O (W (hK14 _ _ _ h O)))))
 exact V (hK14 _ _ _ h O)
def na (n:Nat) (p0:ByS):D (Int×Int):=
 br (decide ((List.length p0:Int)>20)) (.ok (0,8)) (jn (λ(v7:ByS×ByS)=>iter (λnext12 (v11:ByS)=>br (decide ((List.length v11:Int)<4)) (gd (mh v11 ([48]:ByS)) (next12 (v11++([48]:ByS)))) (br (decide ((List.length v11:Int)>4)) (.ok (0,8)) (gd (mh v7.1 v11) (D.bind (mB (v7.1++v11) 10 64) λy24=>br y24.2 (.ok (0,8)) (D.bind (lH y24.1) λy29=>br (!y29) (.ok (0,8)) (D.bind (qN n y24.1) λy32=>br (y32 !=p0) (.ok (0,8)) (.ok (y24.1,0)))))))) n (v7.2)) λj8=>iter (λnext38 (v37:Int)=>br (decide (v37<(List.length p0:Int))) (el p0 v37 λb46=>br ((b46.toNat:Int)==46) (gd ((0:Int)<=v37/\v37<=(List.length p0:Int)) (gd (cr (v37+1)) (gd ((0:Int)<=(v37+1)/\(v37+1)<=(List.length p0:Int)) (j8 (jU p0 v37,dK p0 (v37+1)))))) (gd (cr (v37+1)) (next38 (v37+1)))) (j8 (p0,([]:ByS)))) n (0))
theorem tu (n:Nat) (p0:ByS):CT Tryz.prog 100 [F p0] [] (na n p0) (λx=>.fZ [I x.1,I x.2]) (λ_=>[]):=by
 refine zC Tryz.func100 O λr hp h hr E hE=>A λ_ hK1=>B (za O (za O (zQ hK1 (A λ_ hK2=>A λ_ hK3=>B (zm O (J (bJ O) O (zc O (zQ hK3 (zB O h (λ_ h=>?_) λ_ h=>?_)))))))))
 ·exact A λ_ hK5=>B (za O (za O (zQ hK5 (L (zX (.cons (aP O) (.cons (aP O) .nil)) h O)))))
 refine V (hK2 _ _ (A λ_ hK6=>B (zm O (za O (za O (zQ hK6 (zM h (λ(v7:ByS×ByS)=>[(0,F p0),(4,F v7.1),(5,F v7.2)]) (λ(v7:ByS×ByS)=>[]) (λv7 h=>?_) λ_ _ hK9 h=>?_)))))))
 ·refine A λ_ hK10=>u (zL hr h (λ(v11:ByS)=>[(0,F p0),(4,F v7.1),(5,F v11)]) (λ(v11:ByS)=>[]) O λ_ v11 _ hK13 h=>A λ_ hK14=>A λ_ hK15=>B (zm O (J (bJ O) O (zc O (zQ hK15 (zB O h (λ_ h=>?_) λ_ h=>?_))))))
  ·exact V (hK14 _ _ (u (B (zm O (zd hr h λhg17 h=>J (iK O O hg17) O (za O (W (hK13 _ _ _ h O))))))))
  refine aS (hK10 _ _ (A λ_ hK18=>A λ_ hK19=>B (zm O (J (bJ O) O (zc O (zQ hK19 (zB O h (λ_ h=>?_) λ_ h=>?_)))))))
  ·exact A λ_ hK21=>B (za O (za O (zQ hK21 (L (zX (.cons (aP O) (.cons (aP O) .nil)) h O)))))
  refine V (hK18 _ _ (A λ_ hK22=>B (zm O (zm O (zd hr h λhg23 h=>J (iK O O hg23) O (jF hr h [] Tryz.call140 (tK (v7.1++v11) 10 64) ⟨O,O,O,O,O,O,trivial⟩ O (λ_=>⟨O,O,CD O⟩) (λ_=>⟨Es,O⟩) hp (λy24 h=>?_)))))));refine zm O (zx O (zx O (za O (za O (zQ hK22 (A λ_ hK25=>A λ_ hK26=>B (zm O (J (Eh O) O (zm O (zb y24.2 (λhb27=>?_) λhb27=>?_))))))))))
  ·refine z1 hb27 h λh=>zH 3 O hb27 (zy hb27 O (zm O (zH 4 O O (zt O (zQ hK26 (cb O (λhc=>?_) (λhc=>?_)))))))
   ·exact A λ_ hK28=>B (za O (za O (zQ hK28 (L (zX (.cons (aP O) (.cons (aP O) .nil)) h O)))))
   exact absurd (hc) (by simp)
  refine z2 hb27 h λh=>zG hb27 O (N O) (zK hb27 O hp hr h [] Tryz.call141 (pG y24.1) O (λ_=>rfl) λy29 h=>zG hb27 O (eo O) (zw hb27 O (zm O (zb (!y29) (λhb30=>?_) λhb30=>?_))))
  ·refine z1 hb30 h λh=>zH 4 O hb30 (zy hb30 O (zQ hK26 (cb O (λhc=>?_) (λhc=>?_))))
   ·exact A λ_ hK31=>B (za O (za O (zQ hK31 (L (zX (.cons (aP O) (.cons (aP O) .nil)) h O)))))
   exact absurd (hc) (by simp)
  refine z2 hb30 h λh=>zG hb30 O (N O) (zK hb30 O hp hr h [] Tryz.call142 (zT n y24.1) O (λ_=>rfl) λy32 h=>zG hb30 O (N O) (zG hb30 O (pU O O) (zw hb30 O (zQ hK26 (zB O h (λ_ h=>?_) λ_ h=>?_)))))
  ·exact A λ_ hK34=>B (za O (za O (zQ hK34 (L (zX (.cons (aP O) (.cons (aP O) .nil)) h O)))))
  exact V (hK25 _ _ (A λ_ hK35=>B (zm O (za O (za O (zQ hK35 (L (zX (.cons (aP O) (.cons (aP O) .nil)) h O))))))))
 refine A λ_ hK36=>B (zm O (J (bJ O) O (zm O (zQ hK36 (u (zL hr h (λ(v37:Int)=>[(0,F p0),(4,F p0),(5,F ([]:ByS)),(14,I (List.length p0:Int)),(15,I v37)]) (λ(v37:Int)=>[]) O λ_ v37 _ hK39 h=>A λ_ hK40=>B (zc O (zQ hK40 (A λ_ hK41=>zB O h (λ_ h=>?_) λ_ h=>?_)))))))))
 ·refine V (hK41 _ _ (A λ_ hK43=>u (A λ_ hK44=>B (zm O (za O (zQ hK44 (A λ_ hK45=>B (zm O (zm O (ze hr h λb46 h47 h48 h49 h=>J (bY O O h47 h49) O (zc O (zQ hK45 (zB O h (λ_ h=>?_) λ_ h=>?_)))))))))))))
  ·exact A λ_ hK51=>bu [0,1,2,3,4,5,6,7,8] O (by kernel_rfl) (zD O (N O) O (zD O (N O) O (zd hr h λhg52 h=>zD O (o7 O O hg52.1 hg52.2) O (zD O (N O) O (zD O (N O) O (zd hr h λhg53 h=>zD O (gV O O hg53) O (zd hr h λhg54 h=>zD O (ir O O hg54.1 hg54.2) O (eM O O O (y O) O (eM O O O (y O) O (ct (hK51 _ _ (aS (hK9 _ _ _ h O)))))))))))))
  exact V (hK43 _ _ (B (zd hr h λhg55 h=>zo hg55 O (zm O (W (hK39 _ _ _ h O))))))
 exact aS (hK9 _ _ _ h O)
def bo (n:Nat) (p0:H):D (H):=
 D.bind (bL n p0) λy1=>D.bind (ed y1.1 y1.2) λy2=>.ok (y2)
theorem bC (n:Nat) (p0:H):CT Tryz.prog 35 [.ptr 0 0] [.box (K p0)] (bo n p0) (λ_=>.fZ []) (λx=>[.box (K x)]):=by
 exact zC Tryz.func35 O λr hp h hr E hE=>B (zm O (zm O (zk hp hr h [0] Tryz.call75 (cg n p0) O (λ_=>rfl) λy1 h=>zk hp hr h [0] Tryz.call77 (jd y1.1 y1.2) O (λ_=>rfl) λy2 h=>W (zY .nil h O))))
def bS (n:Nat) (p0:ByS) (p1:H):D (H):=
 D.bind (ch n p0 p1) λy2=>br (!y2.1) (D.bind (bo n y2.2) λy4=>.ok (y4)) (.ok (y2.2))
theorem cV (n:Nat) (p0:ByS) (p1:H):CT Tryz.prog 155 [.ptr 0 0,F p0] [.box (K p1)] (bS n p0 p1) (λ_=>.fZ []) (λx=>[.box (K x)]):=by
 refine zC Tryz.func155 O λr hp h hr E hE=>A λ_ hK1=>B (zm O (zm O (zk hp hr h [0] Tryz.call76 (df n p0 p1) O (λ_=>rfl) λy2 h=>J (eo O) O (zQ hK1 (zB O h (λ_ h=>?_) λ_ h=>?_)))))
 ·exact B (zm O (zk hp hr h [0] Tryz.call35 (bC n y2.2) O (λ_=>rfl) λy4 h=>W (zY .nil h O)))
 exact V (zY .nil h O)
def cM (n:Nat) (p0:ByS) (p1:H):D (H):=
 D.bind (aF n p1) λy2=>D.bind (cB y2.1 p0) λy3=>br (!y3) (D.bind (bo n (H.mk y2.2.text y2.2.X y2.2.at_ p1.base y2.2.skip y2.2.pending)) λy5=>.ok (y5)) (.ok ((H.mk y2.2.text y2.2.X y2.2.at_ p1.base y2.2.skip y2.2.pending)))
theorem du (n:Nat) (p0:ByS) (p1:H):CT Tryz.prog 202 [.ptr 0 0,F p0] [.box (K p1)] (cM n p0 p1) (λ_=>.fZ []) (λx=>[.box (K x)]):=by
 refine zC Tryz.func202 O λr hp h hr E hE=>A λ_ hK1=>B (zm O (zk hp hr h [0] Tryz.call34 (aK n p1) O (λ_=>rfl) λy2 h=>zm O (zk hp hr h [] Tryz.call72 (cJ y2.1 p0) O (λ_=>rfl) λy3 h=>J (eo O) O (zQ hK1 (zB O h (λ_ h=>?_) λ_ h=>?_)))))
 ·exact B (zm O (zk hp hr h [0] Tryz.call35 (bC n (H.mk y2.2.text y2.2.X y2.2.at_ p1.base y2.2.skip y2.2.pending)) O (λ_=>rfl) λy5 h=>W (zY .nil h O)))
 exact V (zY .nil h O)
def dO (n:Nat) (p0:H):D (Bool×H):=
 gd (cr (p0.at_ - 1)) (iter (λnext6 (v5:Int)=>br (decide (v5>=0)) (el p0.X v5 λBD=>br (BD.Kind !=7) (el p0.X v5 λI2=>el p0.X p0.at_ λx23=>gd ((0:Int)<=I2.End/\(I2.End:Int)<=x23.Pos/\x23.Pos<=(List.length p0.text:Int)) (D.bind (strings_Contains (sub p0.text I2.End x23.Pos) ([10]:ByS)) λy28=>.ok (y28,p0))) (gd (cr (v5 - 1)) (next6 (v5 - 1)))) (.ok (true,p0))) n (p0.at_ - 1))
theorem iR (n:Nat) (p0:H):CT Tryz.prog 103 [.ptr 0 0] [.box (K p0)] (dO n p0) (λx=>Bo x.1) (λx=>[.box (K x.2)]):=by
 refine zC Tryz.func103 O λr hp h hr E hE=>A λ_ hK1=>B (za O (zQ hK1 (A λ_ hK2=>A λ_ hK3=>B (zm O (zn O (zf O (zl O (zd hr h λhg4 h=>J (jT O O hg4) O (za O (zQ hK3 (u (zL hr h (λ(v5:Int)=>[(0,.ptr 0 0),(3,I v5)]) (λ(v5:Int)=>[(0,.box (K p0))]) O λ_ v5 _ hK7 h=>A λ_ hK8=>A λ_ hK9=>B (zm O (zc O (zQ hK9 (zB O h (λ_ h=>?_) λ_ h=>?_))))))))))))))))
 ·refine V (hK8 _ _ (A λ_ hK11=>u (A λ_ hK12=>B (zm O (zn O (zf O (zl O (zm O (ze hr h λBD h14 h15 h16 h=>J (fR aA.Q aA.q h14 h15 h16 O O O) O (J (iF O O) O (J (dT O O) O (zc O (zQ hK12 (zB O h (λ_ h=>?_) λ_ h=>?_))))))))))))))
  ·refine A λ_ hK18=>bu [0,1,2,3,4,5,6,7,8,9,10,11,12,13,14,15,16,17,18,19,20,21,22,23,24,25] O (by kernel_rfl) (zD O (N O) O (zD O (c7 O) O (zD O (bF O) O (zD O (bj O O O) O (zD O (N O) O (zD O (c7 O) O (zD O (bF O) O (zD O (bj O O O) O (zD O (N O) O (ze hr h λI2 h20 h21 h22 h=>zD O (fR aA.Q aA.q h20 h21 h22 O O O) O (zD O (iF O O) O (zD O (dT O O) O (zD O (N O) O (zD O (c7 O) O (zD O (bF O) O (zD O (bj O O O) O (zD O (N O) O (zD O (c7 O) O (zD O (bF O) O (zD O (bj O O O) O (ze hr h λx23 h24 h25 h26 h=>zD O (fR aA.Q aA.q h24 h25 h26 O O O) O ?_)))))))))))))))))))));refine zD O (iF O O) O (zD O (dT O O) O (zd hr h λhg27 h=>zD O (lG O O O hg27.1 hg27.2.1 hg27.2.2) O (dG O (bQ O) hr h [] Tryz.call94 (kb (sub p0.text I2.End x23.Pos) ([10]:ByS)) ⟨O,O,O,O,O,O,trivial⟩ O O (λ_=>O3) (λ_=>O2) hp (λy28 h=>⟨y O,?_⟩))));exact eM O O O (y O) O (ct (hK18 _ _ (L (z O h O))))
  exact V (hK11 _ _ (B (zm O (zd hr h λhg29 h=>J (jT O O hg29) O (za O (W (hK7 _ _ _ h O)))))))
 exact aS (hK2 _ _ (A λ_ hK30=>B (za O (zQ hK30 (L (z O h O))))))
def cO (p0:Int) (p1:H):D (aA×H):=
 gd (cr (p1.at_+p0)) (gd (cr ((List.length p1.X:Int) - 1)) (el p1.X (if (List.length p1.X:Int) - 1<p1.at_+p0 then (List.length p1.X:Int) - 1 else p1.at_+p0) λx5=>.ok (x5,p1)))
theorem eP (p0:Int) (p1:H):CT Tryz.prog 149 [.ptr 0 0,I p0] [.box (K p1)] (cO p0 p1) (λx=>.agg (ej x.1)) (λx=>[.box (K x.2)]):=by
 refine zC Tryz.func149 O λr hp h hr E hE=>A λ_ hK1=>B (aH 104 (hE _ O) O4 O ?_);refine zQ hK1 (A λ_ hK2=>bu [0,1,2,3,4,5,6,7,8,9,10,11,12,13,14,15,16,17,18,19] O (by kernel_rfl) (zD O (N O) O (zD O (c7 O) O (zD O (bF O) O (zD O (bj O O O) O (zD O (N O) O (zD O (c7 O) O (zD O (bF O) O (zD O (bj O O O) O (zD O (N O) O (zd hr h λhg3 h=>zD O (gV O O hg3) O (zD O (N O) O (zD O (c7 O) O (zD O (bF O) O (zD O (bj O O O) O (zD O (ca O) O (zd hr h λhg4 h=>zD O (jT O O hg4) O (zD O (Iy O O) O (ze hr h λx5 h6 h7 h8 h=>zD O (fR aA.Q aA.q h6 h7 h8 O O O) O (zD O (iJ O O) O ?_))))))))))))))))))));refine bV O O8 O (λe19 he=>⟨y O,?_⟩);subst he;exact ct (hK2 _ _ (L (zX (.cons (aT O O O) .nil) h O)))
def eJ (p0:aA) (p1:ByS):D (Bool):=
 br (p0.Kind==1) (.ok ((p0.Text==p1))) (.ok (false))
theorem hY (p0:aA) (p1:ByS):CT Tryz.prog 56 [.agg (ej p0),F p1] [] (eJ p0 p1) (λx=>Bo x) (λ_=>[]):=by
 refine zC Tryz.func56 O λr hp h hr E hE=>A λ_ hK1=>B (dN 102 (hE _ O) O7 O ?_);refine za O (zQ hK1 (A λ_ hK2=>B (zf O (zl O (zc O (zm O (zb (p0.Kind==1) (λhb3=>?_) λhb3=>?_)))))))
 ·exact z1 hb3 h λh=>zG hb3 O (bF O) (zG hb3 O (bj O O O) (zG hb3 O (N O) (zG hb3 O (iS O O) (zy hb3 O (za O (zQ hK2 (L (z O h O))))))))
 exact z2 hb3 h λh=>zH 4 O hb3 (zw hb3 O (za O (zQ hK2 (L (z O h O)))))
def ez (n:Nat) (p0:H):D (Bool×H):=
 D.bind (aF n p0) λy4=>D.bind (cB y4.1 ([91]:ByS)) λy5=>br (!y5) (.ok (false,(H.mk y4.2.text y4.2.X y4.2.at_ p0.base y4.2.skip y4.2.pending))) (jn (λ(v9:H×Int)=>iter (λnext14 (v13:H×Int)=>D.bind (cO v13.2 v13.1) λy18=>br (y18.1.Kind==7) (gd (cr (v13.2+1)) (next14 (y18.2,v13.2+1))) (D.bind (cO v13.2 y18.2) λy22=>D.bind (cB y22.1 ([93]:ByS)) λy23=>br y23 (gd (cr (v13.2+1)) (D.bind (cO (v13.2+1) y22.2) λy26=>D.bind (cB y26.1 ([58]:ByS)) λy27=>.ok (y27,y26.2))) (.ok (false,y22.2)))) n (v9.1,v9.2)) λj10=>D.bind (cO 1 (H.mk y4.2.text y4.2.X y4.2.at_ p0.base y4.2.skip y4.2.pending)) λy29=>D.bind (eJ y29.1 ([115,116,114,105,110,103]:ByS)) λy30=>br (!y30) (D.bind (cO 1 y29.2) λy34=>D.bind (cB y34.1 ([61,126]:ByS)) λy35=>br (!y35) (.ok (false,y34.2)) (D.bind (cO 2 y34.2) λy38=>br (y38.1.Kind !=3) (.ok (false,y38.2)) (j10 (y38.2,3)))) (j10 (y29.2,2)))
theorem oW (n:Nat) (p0:H):CT Tryz.prog 153 [.ptr 0 0] [.box (K p0)] (ez n p0) (λx=>Bo x.1) (λx=>[.box (K x.2)]):=by
 refine zC Tryz.func153 O λr hp h hr E hE=>A λ_ hK1=>B (za O (zQ hK1 (A λ_ hK2=>A λ_ hK3=>B (zm O (zk hp hr h [0] Tryz.call34 (aK n p0) O (λ_=>rfl) λy4 h=>zk hp hr h [] Tryz.call72 (cJ y4.1 ([91]:ByS)) O (λ_=>rfl) λy5 h=>J (eo O) O (zQ hK3 (zB O h (λ_ h=>?_) λ_ h=>?_)))))))
 ·exact A λ_ hK7=>B (za O (zQ hK7 (L (z O h O))))
 refine V (hK2 _ _ (A λ_ hK8=>B (za O (zQ hK8 (zM h (λ(v9:H×Int)=>[(0,.ptr 0 0),(3,I v9.2)]) (λ(v9:H×Int)=>[(0,.box (K v9.1))]) (λv9 h=>?_) λ_ _ hK11 h=>?_)))))
 ·refine A λ_ hK12=>u (zL hr h (λ(v13:H×Int)=>[(0,.ptr 0 0),(3,I v13.2)]) (λ(v13:H×Int)=>[(0,.box (K v13.1))]) O λ_ v13 _ hK15 h=>A λ_ hK16=>A λ_ hK17=>B (zm O (zm O (zk hp hr h [0] Tryz.call149 (eP v13.2 v13.1) O (λ_=>rfl) λy18 h=>J (kN O O) O ?_))));refine zc O (zQ hK17 (zB O h (λ_ h=>?_) λ_ h=>?_))
  ·exact V (hK16 _ _ (u (B (zm O (zd hr h λhg20 h=>zo hg20 O (za O (W (hK15 _ _ _ h O))))))))
  refine aS (hK12 _ _ (A λ_ hK21=>B (zm O (zm O (zk hp hr h [0] Tryz.call149 (eP v13.2 y18.2) O (λ_=>rfl) λy22 h=>zk hp hr h [] Tryz.call72 (cJ y22.1 ([93]:ByS)) O (λ_=>rfl) λy23 h=>zm O (zb y23 (λhb24=>?_) λhb24=>?_))))))
  ·exact z1 hb24 h λh=>zG hb24 O (N O) (zG hb24 O (N O) (zd hr h λhg25 h=>zG hb24 O (gV O O hg25) (zK hb24 O hp hr h [0] Tryz.call149 (eP (v13.2+1) y22.2) O (λ_=>rfl) λy26 h=>zK hb24 O hp hr h [] Tryz.call72 (cJ y26.1 ([58]:ByS)) O (λ_=>rfl) λy27 h=>zy hb24 O (za O (zQ hK21 (L (z O h O)))))))
  exact z2 hb24 h λh=>zH 5 O hb24 (zw hb24 O (za O (zQ hK21 (L (z O h O)))))
 refine A λ_ hK28=>B (zm O (zk hp hr h [0] Tryz.call149 (eP 1 (H.mk y4.2.text y4.2.X y4.2.at_ p0.base y4.2.skip y4.2.pending)) O (λ_=>rfl) λy29 h=>zk hp hr h [] Tryz.call56 (hY y29.1 ([115,116,114,105,110,103]:ByS)) O (λ_=>rfl) λy30 h=>J (eo O) O (zQ hK28 (zB O h (λ_ h=>?_) λ_ h=>?_))))
 ·refine A λ_ hK32=>A λ_ hK33=>B (zm O (zk hp hr h [0] Tryz.call149 (eP 1 y29.2) O (λ_=>rfl) λy34 h=>zk hp hr h [] Tryz.call72 (cJ y34.1 ([61,126]:ByS)) O (λ_=>rfl) λy35 h=>J (eo O) O (zm O (zb (!y35) (λhb36=>?_) λhb36=>?_))))
  ·refine z1 hb36 h λh=>zH 4 O hb36 (zy hb36 O (zQ hK33 (cb O (λhc=>?_) (λhc=>?_))))
   ·exact A λ_ hK37=>B (za O (zQ hK37 (L (z O h O))))
   exact absurd (hc) (by simp)
  refine z2 hb36 h λh=>zG hb36 O (N O) (zK hb36 O hp hr h [0] Tryz.call149 (eP 2 y34.2) O (λ_=>rfl) λy38 h=>zG hb36 O (kN O O) ?_);refine zG hb36 O (aX O O O) (zw hb36 O (zQ hK33 (zB O h (λ_ h=>?_) λ_ h=>?_)))
  ·exact A λ_ hK40=>B (za O (zQ hK40 (L (z O h O))))
  exact V (hK32 _ _ (B (za O (W (hK11 _ _ _ h O)))))
 exact V (hK11 _ _ _ h O)
def dv (n:Nat) (p0:ByS) (p1:H):D (H):=
 D.bind (aF n p1) λy3=>D.bind (eJ y3.1 p0) λy4=>br (!y4) (D.bind (bo n (H.mk y3.2.text y3.2.X y3.2.at_ p1.base y3.2.skip y3.2.pending)) λy6=>gd (cr (y6.at_+1)) (.ok ((H.mk y6.text y6.X (y6.at_+1) y6.base y6.skip y6.pending)))) (gd (cr (y3.2.at_+1)) (.ok ((H.mk y3.2.text y3.2.X (y3.2.at_+1) p1.base y3.2.skip y3.2.pending))))
theorem iv (n:Nat) (p0:ByS) (p1:H):CT Tryz.prog 158 [.ptr 0 0,F p0] [.box (K p1)] (dv n p0 p1) (λ_=>.fZ []) (λx=>[.box (K x)]):=by
 refine zC Tryz.func158 O λr hp h hr E hE=>A λ_ hK1=>A λ_ hK2=>B (zm O (zk hp hr h [0] Tryz.call34 (aK n p1) O (λ_=>rfl) λy3 h=>zm O (zk hp hr h [] Tryz.call56 (hY y3.1 p0) O (λ_=>rfl) λy4 h=>J (eo O) O (zQ hK2 (zB O h (λ_ h=>?_) λ_ h=>?_)))))
 ·exact B (zm O (zk hp hr h [0] Tryz.call35 (bC n (H.mk y3.2.text y3.2.X y3.2.at_ p1.base y3.2.skip y3.2.pending)) O (λ_=>rfl) λy6 h=>zQ hK1 (B (zm O (zn O (zf O (zl O (zd hr h λhg7 h=>zo hg7 O (zn O (zf O (zs O (W (zY .nil h O)))))))))))))
 exact V (hK1 _ _ (B (zm O (zn O (zf O (zl O (zd hr h λhg8 h=>zo hg8 O (zn O (zf O (zs O (W (zY .nil h O))))))))))))
def dw (n:Nat) (p0:H):D (ByS×H):=
 D.bind (aF n p0) λy3=>jn (λ(v4:H)=>gd (cr (v4.at_+1)) (.ok (y3.1.Text,(H.mk v4.text v4.X (v4.at_+1) v4.base v4.skip v4.pending)))) λj5=>br (y3.1.Kind !=1) (D.bind (bo n (H.mk y3.2.text y3.2.X y3.2.at_ p0.base y3.2.skip y3.2.pending)) λy12=>j5 (y12)) (D.bind (gu n y3.1.Text) λy13=>br (!y13) (D.bind (bo n (H.mk y3.2.text y3.2.X y3.2.at_ p0.base y3.2.skip y3.2.pending)) λy15=>j5 (y15)) (j5 ((H.mk y3.2.text y3.2.X y3.2.at_ p0.base y3.2.skip y3.2.pending))))
theorem gv (n:Nat) (p0:H):CT Tryz.prog 57 [.ptr 0 0] [.box (K p0)] (dw n p0) (λx=>F x.1) (λx=>[.box (K x.2)]):=by
 refine zC Tryz.func57 O λr hp h hr E hE=>A λ_ hK1=>B (za O (zQ hK1 (A λ_ hK2=>B (zm O (zk hp hr h [0] Tryz.call34 (aK n p0) O (λ_=>rfl) λy3 h=>aH 103 (hE _ O) O4 O ?_)))));refine zs O (zQ hK2 (zM h (λ(v4:H)=>[(0,.ptr 0 0),(3,.ptr 103 0)]) (λ(v4:H)=>[(0,.box (K v4)),(103,.box (ej y3.1))]) (λv4 h=>?_) λ_ _ hK6 h=>?_))
 ·exact A λ_ hK7=>B (zm O (zn O (zf O (zl O (zd hr h λhg8 h=>zo hg8 O (zn O (zf O (zs O (zQ hK7 (A λ_ hK9=>B (zf O (zl O (za O (zQ hK9 (L (z O h O))))))))))))))))
 refine A λ_ hK10=>B (zf O (zl O (zc O (zm O (zb (y3.1.Kind !=1) (λhb11=>?_) λhb11=>?_)))))
 ·refine z1 hb11 h λh=>zH 4 O hb11 (zy hb11 O (zQ hK10 (cb O (λhc=>?_) (λhc=>?_))))
  ·exact B (zm O (zk hp hr h [0] Tryz.call35 (bC n (H.mk y3.2.text y3.2.X y3.2.at_ p0.base y3.2.skip y3.2.pending)) O (λ_=>rfl) λy12 h=>W (hK6 _ _ _ h O)))
  exact absurd (hc) (by simp)
 refine z2 hb11 h λh=>zG hb11 O (bF O) (zG hb11 O (bj O O O) (zK hb11 O hp hr h [] Tryz.call62 (gC n y3.1.Text) O (λ_=>rfl) λy13 h=>zG hb11 O (eo O) (zw hb11 O (zQ hK10 (zB O h (λ_ h=>?_) λ_ h=>?_)))))
 ·exact B (zm O (zk hp hr h [0] Tryz.call35 (bC n (H.mk y3.2.text y3.2.X y3.2.at_ p0.base y3.2.skip y3.2.pending)) O (λ_=>rfl) λy15 h=>W (hK6 _ _ _ h O)))
 exact V (hK6 _ _ _ h O)
def fe (n:Nat) (p0:H):D (gT×H):=
 D.bind (dw n p0) λy3=>D.bind (bS n ([44]:ByS) y3.2) λy5=>D.bind (bL n y5) λy7=>D.bind (dw n y7.2) λy9=>br (y3.1==y9.1) (D.bind (ed y7.1 y9.2) λy13=>.ok ((gT.mk y3.1 y9.1),y13)) (.ok ((gT.mk y3.1 y9.1),y9.2))
theorem mw (n:Nat) (p0:H):CT Tryz.prog 157 [.ptr 0 0] [.box (K p0)] (fe n p0) (λx=>.agg [F x.1.x0,F x.1.x1]) (λx=>[.box (K x.2)]):=by
 refine zC Tryz.func157 O λr hp h hr E hE=>A λ_ hK1=>B (aH 102 (hE _ O) O4 O ?_);refine zQ hK1 (A λ_ hK2=>B (zm O (zk hp hr h [0] Tryz.call57 (gv n p0) O (λ_=>rfl) λy3 h=>za O (zQ hK2 (A λ_ hK4=>B (zm O (zk hp hr h [0] Tryz.call155 (cV n ([44]:ByS) y3.2) O (λ_=>rfl) λy5 h=>zQ hK4 (A λ_ hK6=>B (zm O (zk hp hr h [0] Tryz.call75 (cg n y5) O (λ_=>rfl) λy7 h=>za O (zQ hK6 (A λ_ hK8=>B (zm O (zk hp hr h [0] Tryz.call57 (gv n y7.2) O (λ_=>rfl) λy9 h=>za O (zQ hK8 (A λ_ hK10=>?_))))))))))))))));refine A λ_ hK11=>B (zm O (zm O (J (iS O O) O (zQ hK11 (zB O h (λ_ h=>?_) λ_ h=>?_)))))
 ·refine B (zm O (zm O (zk hp hr h [0] Tryz.call77 (jd y7.1 y9.2) O (λ_=>rfl) λy13 h=>zQ hK10 (A λ_ hK14=>B (zm O (zm O (J (bd O O O) O ?_)))))));exact zs O (zQ hK14 (L (zX (.cons (aT O O O) .nil) h O)))
 refine V (hK10 _ _ (A λ_ hK15=>B (zm O (zm O (J (bd O O O) O ?_)))));exact zs O (zQ hK15 (L (zX (.cons (aT O O O) .nil) h O)))
structure ls where
 gO:aQ->Int->D (Int)
def kr (n:Nat) (T:ls) (p0:aQ) (p1:Int):D (Int):=
 br (decide (p1>16)) (.ok (9)) (jn (λ(_:Unit)=>jn (λ(_:Unit)=>iter (λnext16 (v15:Int)=>br (decide (v15<(List.length p0.bg:Int))) (el p0.bg v15 λx23=>gd (cr (p1+1)) (D.bind (T.gO x23 (p1+1)) λy29=>br (y29 !=0) (.ok (y29)) (gd (cr (v15+1)) (next16 (v15+1))))) (.ok (0))) n (0)) λj11=>jn (λ(v36:Bool)=>br v36 (br (decide ((List.length p0.bg:Int)<2)) (.ok (2)) (j11 ())) (br (p0.Kind==5) (br ((List.length p0.bg:Int) !=1) (.ok (2)) (j11 ())) (br ((List.length p0.bg:Int) !=0) (.ok (2)) (j11 ())))) λj37=>br (p0.Kind==3) (j37 ((p0.Kind==3))) (j37 ((p0.Kind==4)))) λj7=>br (decide (p0.Kind<0)) (.ok (11)) (br (decide (p0.Kind>5)) (.ok (11)) (br (p0.Kind !=2) (br (!([p0.FT,p0.FU,p0.FV,p0.FW]==[0,0,0,0])) (.ok (11)) (j7 ())) (j7 ()))))
def jH:Nat->ls
 | 0=>⟨λ_ _=>.stuck⟩
 | n+1=>⟨kr n (jH n)⟩
def gO (n:Nat) (p0:aQ) (p1:Int):D (Int):=(jH n).gO p0 p1
structure pc (T:ls):Prop where
 gO:∀ (p0:aQ) (p1:Int),CT Tryz.prog 241 [.agg (eI p0),I p1] [] (T.gO p0 p1) (λx=>I x) (λ_=>[])
theorem w4 (n:Nat) (T:ls) (hT:pc T) (p0:aQ) (p1:Int):CT Tryz.prog 241 [.agg (eI p0),I p1] [] (kr n T p0 p1) (λx=>I x) (λ_=>[]):=by
 refine zC Tryz.func241 O λr hp h hr E hE=>A λ_ hK1=>B (dN 102 (hE _ O) O7 O ?_);refine za O (zQ hK1 (A λ_ hK2=>A λ_ hK3=>B (zm O (zc O (zQ hK3 (zB O h (λ_ h=>?_) λ_ h=>?_))))))
 ·exact A λ_ hK5=>B (za O (zQ hK5 (L (z O h O))))
 refine V (hK2 _ _ (zM h (λ(v6:Unit)=>[(0,.agg (eI p0)),(1,I p1),(2,.ptr 102 0)]) (λ(v6:Unit)=>[(102,.box (eI p0))]) (λv6 h=>?_) λ_ _ hK8 h=>?_))
 ·refine A λ_ hK9=>B (zf O (zl O (J (ca O) O (za O (zQ hK9 (zM h (λ(v10:Unit)=>[(0,.agg (eI p0)),(1,I p1),(2,.ptr 102 0)]) (λ(v10:Unit)=>[(102,.box (eI p0))]) (λv10 h=>?_) λ_ _ hK12 h=>?_))))))
  ·refine A λ_ hK13=>A λ_ hK14=>B (zf O (zl O (J (ca O) O (zm O (zQ hK14 (u (zL hr h (λ(v15:Int)=>[(0,.agg (eI p0)),(1,I p1),(47,.pv (.sl (List.length p0.bg) (aQ.Cs p0.bg))),(48,I (List.length p0.bg:Int)),(49,I v15)]) (λ(v15:Int)=>[]) O λ_ v15 _ hK17 h=>A λ_ hK18=>B (zc O (zQ hK18 (A λ_ hK19=>zB O h (λ_ h=>?_) λ_ h=>?_))))))))))
   ·refine V (hK19 _ _ (A λ_ hK21=>u (A λ_ hK22=>B (ze hr h λx23 h24 h25 h26 h=>J (fR aQ.Q aQ.q h24 h25 h26 O O O) O (J (iJ O O) O ?_)))));refine aH 107 (hE _ O) O4 O ?_;refine zs O (zQ hK22 (A λ_ hK27=>B (zA O ?_)));refine zm O (zd hr h λhg28 h=>zo hg28 O (zk hp hr h [] Tryz.call241 (hT.gO x23 (p1+1)) O (λ_=>rfl) λy29 h=>za O (zQ hK27 (A λ_ hK30=>B (zm O (zc O (zQ hK30 (zB O h (λ_ h=>?_) λ_ h=>?_))))))))
    ·exact A λ_ hK32=>B (zm O (za O (zQ hK32 (L (z O h O)))))
    exact V (hK21 _ _ (B (zd hr h λhg33 h=>zo hg33 O (zm O (W (hK17 _ _ _ h O))))))
   exact aS (hK13 _ _ (A λ_ hK34=>B (za O (zQ hK34 (L (z O h O))))))
  refine A λ_ hK35=>B (zf O (zl O (zQ hK35 (u (zM h (λ(v36:Bool)=>[(0,.agg (eI p0)),(1,I p1),(2,.ptr 102 0),(5,I (List.length p0.bg:Int)),(34,I p0.Kind),(37,Bo v36)]) (λ(v36:Bool)=>[(102,.box (eI p0))]) (λv36 h=>?_) λ_ _ hK38 h=>?_)))))
  ·refine zB O h (λ_ h=>?_) λ_ h=>?_
   ·refine A λ_ hK40=>B (zm O (zc O (zQ hK40 (zB O h (λ_ h=>?_) λ_ h=>?_))))
    ·exact A λ_ hK42=>B (za O (zQ hK42 (L (z O h O))))
    exact V (hK12 _ _ _ h O)
   refine A λ_ hK43=>B (zc O (za O (zQ hK43 (zB O h (λ_ h=>?_) λ_ h=>?_))))
   ·refine A λ_ hK45=>B (zm O (zc O (zQ hK45 (zB O h (λ_ h=>?_) λ_ h=>?_))))
    ·exact A λ_ hK47=>B (za O (zQ hK47 (L (z O h O))))
    exact V (hK12 _ _ _ h O)
   refine A λ_ hK48=>B (zm O (zc O (zQ hK48 (zB O h (λ_ h=>?_) λ_ h=>?_))))
   ·exact A λ_ hK50=>B (za O (zQ hK50 (L (z O h O))))
   exact V (hK12 _ _ _ h O)
  refine A λ_ hK51=>B (zc O (za O (zQ hK51 (zB O h (λ_ h=>?_) λ_ h=>?_))))
  ·exact V (hK38 _ _ _ h O)
  exact B (zc O (za O (W (hK38 _ _ _ h O))))
 refine A λ_ hK53=>B (zf O (zl O (zc O (zm O (zb (decide (p0.Kind<0)) (λhb54=>?_) λhb54=>?_)))))
 ·refine z1 hb54 h λh=>zH 3 O hb54 (zy hb54 O (zm O (zH 4 O O (zu O (zu O (zu O (zu O (zg O O (zt O (zQ hK53 (cb O (λhc=>?_) (λhc=>?_))))))))))))
  ·exact A λ_ hK55=>B (za O (zQ hK55 (L (z O h O))))
  exact absurd (hc) (by simp)
 refine z2 hb54 h λh=>zG hb54 O (bF O) (zG hb54 O (bj O O O) (zG hb54 O (aX O O O) (zw hb54 O (zm O (zb (decide (p0.Kind>5)) (λhb56=>?_) λhb56=>?_)))))
 ·refine z1 hb56 h λh=>zH 4 O hb56 (zu O (zu O (zu O (zu O (zg hb56 O (zy hb56 O (zQ hK53 (cb O (λhc=>?_) (λhc=>?_)))))))))
  ·exact A λ_ hK57=>B (za O (zQ hK57 (L (z O h O))))
  exact absurd (hc) (by simp)
 refine z2 hb56 h λh=>zG hb56 O (bF O) (zG hb56 O (bj O O O) (zG hb56 O (aX O O O) (zG hb56 O (N O) (zb (p0.Kind !=2) (λhb58=>?_) λhb58=>?_))))
 ·refine z1 hb58 h λh=>zG hb58 O (bF O) (zG hb58 O (jS O O O O) ?_);refine zG hb58 O (bd O O O) ?_;refine zG hb58 O (H5 O O) (zG hb56 O (cY hb58 O O) (zw hb56 O (zQ hK53 (zB O h (λ_ h=>?_) λ_ h=>?_))))
  ·exact A λ_ hK60=>B (za O (zQ hK60 (L (z O h O))))
  exact V (hK8 _ _ _ h O)
 refine z2 hb58 h λh=>zH 4 O hb58 (zG hb56 O (cU hb58 O O) (zw hb56 O (zQ hK53 (cb O (λhc=>?_) (λhc=>?_)))))
 ·exact absurd (hc) (by simp)
 exact V (hK8 _ _ _ h O)
theorem nL:∀ n,pc (jH n)
 | 0=>⟨λ_ _=>cx⟩
 | n+1=>⟨λp0 p1=>w4 n _ (nL n) p0 p1⟩
theorem xI (n:Nat) (p0:aQ) (p1:Int):CT Tryz.prog 241 [.agg (eI p0),I p1] [] (gO n p0 p1) (λx=>I x) (λ_=>[]):=(nL n).gO p0 p1
def sA (n:Nat) (p0:aQ):D (Int):=
 D.bind (gO n p0 1) λy3=>.ok (y3)
theorem xJ (n:Nat) (p0:aQ):CT Tryz.prog 208 [.agg (eI p0)] [] (sA n p0) (λx=>I x) (λ_=>[]):=by
 refine zC Tryz.func208 O λr hp h hr E hE=>A λ_ hK1=>B (dN 101 (hE _ O) O7 O ?_);refine za O (zQ hK1 (A λ_ hK2=>B (zA O ?_)));exact zk hp hr h [] Tryz.call241 (xI n p0 1) O (λ_=>rfl) λy3 h=>za O (zQ hK2 (L (z O h O)))
def lY (v:Int):D (aQ×cL):=
 .ok ((aQ.mk 0 0 0 0 0 []),(cL.mk 8 v))
theorem k4 (v:Int):C6 Tryz.prog 205 [.ptr 0 0,.ptr 1 0,.ptr 2 0] [.box [.ptr 3 0],.box [.any,.any,.any,.any,.any,.any],.box [.any,.any],.box [.any,.any]] (some (.iface 202 (.agg #[.int .i64 v]))) (lY v) (λx=>[.box [.ptr 3 0],.box (eI x.1),.box [I x.2.Errno,I x.2.At],.box [.any,.any]]):=by
 refine mY (m:=some (.iface 202 (.agg #[.int .i64 v]))) (mv:=.mo 202 (.agg [I v])) (λg=>.mo 202 (.agg (.cons (.pv (.sc _)) .nil))) Tryz.func205 O O O λr h hr E hE=>?_;refine A λ_ hK1=>B (zm O (J (uQ O O) O (zQ hK1 (cb O (λhc=>?_) (λhc=>?_)))))
 ·refine A λ_ hK2=>B (J (dA O O) O ?_);refine zl O (zn O (zf O (J (HV O O O) O (J (bd O O O) O ?_))));refine zs O (zs O (zQ hK2 (A λ_ hK3=>B (zm O (J (G8 O) O (zm O (zx O (zx O (aH 104 (hE _ O) O4 O ?_)))))))));refine zs O (za O (zQ hK3 (A λ_ hK4=>B (zm O (zQ hK4 (cb O (λhc=>?_) (λhc=>?_)))))))
  ·refine B (zf O (zl O (zf O (zs O (aY (jP 1 O O) ?_)))));exact W (sY (.inr O) _ h.symm ⟨O,O,O,O,trivial⟩)
  exact absurd (hc) (by simp)
 exact absurd (hc) (by simp)
theorem mx (es:List M):C6 Tryz.prog 205 [.ptr 0 0,.ptr 1 0,.ptr 2 0] es none (D.ok ()) (λ_=>es):=by
 refine mY (m:=none) (mv:=Sc .nilIface) (λg=>.pv (.sc _)) Tryz.func205 O O O λr h hr E hE=>?_;refine A λ_ hK1=>B (zm O (J (uR O) O (zQ hK1 (cb O (λhc=>?_) (λhc=>?_)))))
 ·exact absurd (hc) (by simp)
 exact V (o9 h)
def lC (p0:Int) (p1:(List aQ)):D (aQ):=
 br ((List.length p1:Int)==1) (el p1 0 λx6=>.ok (x6)) (.ok ((aQ.mk p0 0 0 0 0 p1)))
theorem nW (p0:Int) (p1:(List aQ)):CT Tryz.prog 240 [I p0,.pv (.sl (List.length p1) (aQ.Cs p1))] [] (lC p0 p1) (λx=>.agg (eI x)) (λ_=>[]):=by
 refine zC Tryz.func240 O λr hp h hr E hE=>A λ_ hK1=>B (aH 104 (hE _ O) O4 O ?_);refine zQ hK1 (A λ_ hK2=>A λ_ hK3=>B (zm O (J (ca O) O (zc O (zQ hK3 (zB O h (λ_ h=>?_) λ_ h=>?_))))))
 ·refine A λ_ hK5=>B (zm O (ze hr h λx6 h7 h8 h9 h=>J (fR aQ.Q aQ.q h7 h8 h9 O O O) O (J (iJ O O) O ?_)));exact zs O (zQ hK5 (L (zX (.cons (aT O O O) .nil) h O)))
 refine V (hK2 _ _ (A λ_ hK10=>B (zm O (zm O (J (bd O O O) O ?_)))));exact zs O (zQ hK10 (L (zX (.cons (aT O O O) .nil) h O)))
def gI (n:Nat) (p0:Int) (p1:Int):D (fC):=
 iter (λnext6 (v5:fC×Int)=>br (decide (v5.2<256)) (jn (λ(v13:Bool)=>br v13 (gd ((64:Int)≠0) (gd ((0:Int)<=(IntKind.wrap .i64 (Int.tdiv v5.2 64))/\(IntKind.wrap .i64 (Int.tdiv v5.2 64))<4) (gd ((64:Int)≠0) (gd ((0:Int)<=(Int.tmod v5.2 64)) (gd ((0:Int)<=(IntKind.wrap .i64 (Int.tdiv v5.2 64))/\(IntKind.wrap .i64 (Int.tdiv v5.2 64))<4) (gd (cr (v5.2+1)) (next6 ((fC.mk (jb (so [v5.1.x0,v5.1.x1,v5.1.x2,v5.1.x3] (IntKind.wrap .i64 (Int.tdiv v5.2 64)) (yw .u64 (jb [v5.1.x0,v5.1.x1,v5.1.x2,v5.1.x3] (IntKind.wrap .i64 (Int.tdiv v5.2 64))) (oG .u64 1 (Int.tmod v5.2 64)))) 0) (jb (so [v5.1.x0,v5.1.x1,v5.1.x2,v5.1.x3] (IntKind.wrap .i64 (Int.tdiv v5.2 64)) (yw .u64 (jb [v5.1.x0,v5.1.x1,v5.1.x2,v5.1.x3] (IntKind.wrap .i64 (Int.tdiv v5.2 64))) (oG .u64 1 (Int.tmod v5.2 64)))) 1) (jb (so [v5.1.x0,v5.1.x1,v5.1.x2,v5.1.x3] (IntKind.wrap .i64 (Int.tdiv v5.2 64)) (yw .u64 (jb [v5.1.x0,v5.1.x1,v5.1.x2,v5.1.x3] (IntKind.wrap .i64 (Int.tdiv v5.2 64))) (oG .u64 1 (Int.tmod v5.2 64)))) 2) (jb (so [v5.1.x0,v5.1.x1,v5.1.x2,v5.1.x3] (IntKind.wrap .i64 (Int.tdiv v5.2 64)) (yw .u64 (jb [v5.1.x0,v5.1.x1,v5.1.x2,v5.1.x3] (IntKind.wrap .i64 (Int.tdiv v5.2 64))) (oG .u64 1 (Int.tmod v5.2 64)))) 3)),v5.2+1)))))))) (gd (cr (v5.2+1)) (next6 (v5.1,v5.2+1)))) λj14=>br (decide (v5.2>=(IntKind.wrap .i64 p0))) (j14 ((decide (v5.2<=(IntKind.wrap .i64 p1))))) (j14 (false))) (.ok (v5.1))) n ((fC.mk 0 0 0 0),0)
theorem gJ (n:Nat) (p0:Int) (p1:Int):CT Tryz.prog 292 [Sc (.int .u8 p0),Sc (.int .u8 p1)] [] (gI n p0 p1) (λx=>.agg (jc x)) (λ_=>[]):=by
 refine zC Tryz.func292 O λr hp h hr E hE=>A λ_ hK1=>B (aH 104 (hE _ O) O4 O ?_);refine zQ hK1 (A λ_ hK2=>B (aH 105 (hE _ O) O4 O ?_));refine zQ hK2 (A λ_ hK3=>A λ_ hK4=>B (zm O (zQ hK4 (u (zL hr h (λ(v5:fC×Int)=>[(0,Sc (.int .u8 p0)),(1,Sc (.int .u8 p1)),(4,.ptr 104 0),(5,.ptr 105 0),(7,I v5.2)]) (λ(v5:fC×Int)=>[(104,.box [Sc (.int .u64 0),Sc (.int .u64 0),Sc (.int .u64 0),Sc (.int .u64 0)]),(105,.box (jc v5.1))]) O λ_ v5 _ hK7 h=>A λ_ hK8=>B (zc O (zQ hK8 (A λ_ hK9=>zB O h (λ_ h=>?_) λ_ h=>?_))))))))
 ·refine V (hK9 _ _ (A λ_ hK11=>u (A λ_ hK12=>B (zm O (za O (zQ hK12 (zM h (λ(v13:Bool)=>[(0,Sc (.int .u8 p0)),(1,Sc (.int .u8 p1)),(4,.ptr 104 0),(5,.ptr 105 0),(6,I v5.2),(7,I v5.2),(19,Bo v13)]) (λ(v13:Bool)=>[(104,.box [Sc (.int .u64 0),Sc (.int .u64 0),Sc (.int .u64 0),Sc (.int .u64 0)]),(105,.box (jc v5.1))]) (λv13 h=>?_) λ_ _ hK15 h=>?_)))))))
  ·refine zB O h (λ_ h=>?_) λ_ h=>?_
   ·refine bu [0,1,2,3,4,5,6,7,8,9] O (by kernel_rfl) (zD O (N O) O (zd hr h λhg17 h=>zD O (wQ O O hg17) O (zd hr h λhg18 h=>zD O (ja O O hg18.1 hg18.2) O (zD O (zI (λx=>Sc (.int .u64 x)) (xs:=[v5.1.x0,v5.1.x1,v5.1.x2,v5.1.x3]) O O O hg18.1 hg18.2) O (zD O (N O) O (zd hr h λhg19 h=>zD O (wR O O hg19) O (zd hr h λhg20 h=>zD O (zF O O hg20) O (zD O (A0 O O) O (zd hr h λhg21 h=>zD O (ja O O hg21.1 hg21.2) O (CE (λx=>Sc (.int .u64 x)) O (xs:=[v5.1.x0,v5.1.x1,v5.1.x2,v5.1.x3]) O O O O hg21.1 hg21.2 (λ_=>O2) (HT _ (by simp[so])) O ⟨y O,?_⟩))))))))));exact ct (hK11 _ _ (B (zd hr h λhg22 h=>zo hg22 O (zm O (W (hK7 _ _ _ h O))))))
   exact V (hK11 _ _ (B (zd hr h λhg23 h=>zo hg23 O (zm O (W (hK7 _ _ _ h O))))))
  refine B (zm O (zm O (J (jy O) O (zc O (zm O (zb (decide (v5.2>=(IntKind.wrap .i64 p0))) (λhb24=>?_) λhb24=>?_))))))
  ·exact z1 hb24 h λh=>zG hb24 O (N O) (zG hb24 O (N O) (zG hb24 O (jy O) (zG hb24 O (aX O O O) (zy hb24 O (W (hK15 _ _ _ h O))))))
  exact z2 hb24 h λh=>zH 4 O hb24 (zw hb24 O (W (hK15 _ _ _ h O)))
 refine aS (hK3 _ _ (A λ_ hK25=>B (zA O ?_)));exact zs O (zQ hK25 (L (zX (.cons (aT O O O) .nil) h O)))
def jr (n:Nat) (p0:fC) (p1:fC):D (fC):=
 iter (λnext5 (v4:fC×Int)=>br (decide (v4.2<4)) (gd ((0:Int)<=v4.2/\v4.2<4) (gd ((0:Int)<=v4.2/\v4.2<4) (gd ((0:Int)<=v4.2/\v4.2<4) (gd (cr (v4.2+1)) (next5 ((fC.mk (jb (so [v4.1.x0,v4.1.x1,v4.1.x2,v4.1.x3] v4.2 (yw .u64 (jb [v4.1.x0,v4.1.x1,v4.1.x2,v4.1.x3] v4.2) (jb [p1.x0,p1.x1,p1.x2,p1.x3] v4.2))) 0) (jb (so [v4.1.x0,v4.1.x1,v4.1.x2,v4.1.x3] v4.2 (yw .u64 (jb [v4.1.x0,v4.1.x1,v4.1.x2,v4.1.x3] v4.2) (jb [p1.x0,p1.x1,p1.x2,p1.x3] v4.2))) 1) (jb (so [v4.1.x0,v4.1.x1,v4.1.x2,v4.1.x3] v4.2 (yw .u64 (jb [v4.1.x0,v4.1.x1,v4.1.x2,v4.1.x3] v4.2) (jb [p1.x0,p1.x1,p1.x2,p1.x3] v4.2))) 2) (jb (so [v4.1.x0,v4.1.x1,v4.1.x2,v4.1.x3] v4.2 (yw .u64 (jb [v4.1.x0,v4.1.x1,v4.1.x2,v4.1.x3] v4.2) (jb [p1.x0,p1.x1,p1.x2,p1.x3] v4.2))) 3)),v4.2+1)))))) (.ok (v4.1))) n (p0,0)
theorem kc (n:Nat) (p0:fC) (p1:fC):CT Tryz.prog 310 [.agg (jc p0),.agg (jc p1)] [] (jr n p0 p1) (λx=>.agg (jc x)) (λ_=>[]):=by
 refine zC Tryz.func310 O λr hp h hr E hE=>A λ_ hK1=>B (dN 102 (hE _ O) O7 O ?_);refine dN 103 (hE _ O) O7 O ?_;refine aH 104 (hE _ O) O4 O ?_;refine zQ hK1 (A λ_ hK2=>A λ_ hK3=>B (zm O (zQ hK3 (u (zL hr h (λ(v4:fC×Int)=>[(0,.agg (jc p0)),(1,.agg (jc p1)),(2,.ptr 102 0),(3,.ptr 103 0),(4,.ptr 104 0),(6,I v4.2)]) (λ(v4:fC×Int)=>[(102,.box (jc v4.1)),(103,.box (jc p1)),(104,.box [Sc (.int .u64 0),Sc (.int .u64 0),Sc (.int .u64 0),Sc (.int .u64 0)])]) O λ_ v4 _ hK6 h=>A λ_ hK7=>B (zc O (zQ hK7 (A λ_ hK8=>zB O h (λ_ h=>?_) λ_ h=>?_))))))))
 ·refine V (hK8 _ _ (A λ_ hK10=>u (A λ_ hK11=>B (zm O (za O (zQ hK11 (bu [0,1,2,3,4,5,6,7,8] O (by kernel_rfl) (zD O (N O) O (zd hr h λhg12 h=>zD O (ja O O hg12.1 hg12.2) O (zD O (zI (λx=>Sc (.int .u64 x)) (xs:=[v4.1.x0,v4.1.x1,v4.1.x2,v4.1.x3]) O O O hg12.1 hg12.2) O (zD O (N O) O (zd hr h λhg13 h=>zD O (ja O O hg13.1 hg13.2) O (zD O (zI (λx=>Sc (.int .u64 x)) (xs:=[p1.x0,p1.x1,p1.x2,p1.x3]) O O O hg13.1 hg13.2) O (zD O (A0 O O) O (zd hr h λhg14 h=>zD O (ja O O hg14.1 hg14.2) O (CE (λx=>Sc (.int .u64 x)) O (xs:=[v4.1.x0,v4.1.x1,v4.1.x2,v4.1.x3]) O O O O hg14.1 hg14.2 (λ_=>O2) (HT _ (by simp[so])) O ⟨y O,?_⟩))))))))))))))));exact ct (hK10 _ _ (B (zd hr h λhg15 h=>zo hg15 O (zm O (W (hK6 _ _ _ h O))))))
 refine aS (hK2 _ _ (A λ_ hK16=>B (zA O ?_)));exact zs O (zQ hK16 (L (zX (.cons (aT O O O) .nil) h O)))
def pd (n:Nat) (p0:Int):D (fC×Bool):=
 D.bind (gI n 48 57) λy3=>br (p0==100) (.ok (y3,true)) (br (p0==119) (D.bind (gI n 97 122) λy12=>D.bind (gI n 65 90) λy13=>D.bind (jr n y12 y13) λy14=>D.bind (jr n y3 y14) λy16=>D.bind (gI n 95 95) λy17=>D.bind (jr n y16 y17) λy18=>.ok (y18,true)) (br (p0==115) (D.bind (gI n 9 10) λy22=>D.bind (gI n 13 13) λy23=>D.bind (jr n y22 y23) λy24=>D.bind (gI n 32 32) λy25=>D.bind (jr n y24 y25) λy26=>.ok (y26,true)) (.ok ((fC.mk 0 0 0 0),false))))
theorem xK (n:Nat) (p0:Int):CT Tryz.prog 293 [Sc (.int .u8 p0)] [] (pd n p0) (λx=>.fZ [.agg (jc x.1),Bo x.2]) (λ_=>[]):=by
 refine zC Tryz.func293 O λr hp h hr E hE=>A λ_ hK1=>B (aH 102 (hE _ O) O4 O ?_);refine za O (zQ hK1 (A λ_ hK2=>B (zk hp hr h [] Tryz.call292 (gJ n 48 57) O (λ_=>rfl) λy3 h=>aH 104 (hE _ O) O4 O ?_)));refine zs O (zQ hK2 (A λ_ hK4=>A λ_ hK5=>B (zm O (zQ hK5 (u (A λ_ hK6=>B (zc O (za O (zQ hK6 (zB O h (λ_ h=>?_) λ_ h=>?_))))))))))
 ·refine A λ_ hK8=>B (zA O ?_);exact zs O (za O (zQ hK8 (L (zX (.cons (aT O O O) (.cons (aP O) .nil)) h O))))
 refine A λ_ hK9=>B (zc O (za O (zQ hK9 (zB O h (λ_ h=>?_) λ_ h=>?_))))
 ·refine A λ_ hK11=>B (zk hp hr h [] Tryz.call292 (gJ n 97 122) O (λ_=>rfl) λy12 h=>zk hp hr h [] Tryz.call292 (gJ n 65 90) O (λ_=>rfl) λy13 h=>zk hp hr h [] Tryz.call310 (kc n y12 y13) O (λ_=>rfl) λy14 h=>aH 105 (hE _ O) O4 O ?_);refine zs O (zQ hK11 (A λ_ hK15=>B (zA O ?_)));refine zA O ?_;exact zk hp hr h [] Tryz.call310 (kc n y3 y14) O (λ_=>rfl) λy16 h=>zk hp hr h [] Tryz.call292 (gJ n 95 95) O (λ_=>rfl) λy17 h=>zk hp hr h [] Tryz.call310 (kc n y16 y17) O (λ_=>rfl) λy18 h=>zs O (za O (zQ hK15 (L (zX (.cons (aT O O O) (.cons (aP O) .nil)) h O))))
 refine A λ_ hK19=>B (zc O (za O (zQ hK19 (zB O h (λ_ h=>?_) λ_ h=>?_))))
 ·exact A λ_ hK21=>B (zk hp hr h [] Tryz.call292 (gJ n 9 10) O (λ_=>rfl) λy22 h=>zk hp hr h [] Tryz.call292 (gJ n 13 13) O (λ_=>rfl) λy23 h=>zk hp hr h [] Tryz.call310 (kc n y22 y23) O (λ_=>rfl) λy24 h=>zk hp hr h [] Tryz.call292 (gJ n 32 32) O (λ_=>rfl) λy25 h=>zk hp hr h [] Tryz.call310 (kc n y24 y25) O (λ_=>rfl) λy26 h=>zs O (za O (zQ hK21 (L (zX (.cons (aT O O O) (.cons (aP O) .nil)) h O)))))
 refine V (hK4 _ _ (A λ_ hK27=>B (J (bd O O O) O ?_)));exact zs O (za O (zQ hK27 (L (zX (.cons (aT O O O) (.cons (aP O) .nil)) h O))))
def ov (n:Nat) (p0:Int):D (aQ):=
 D.bind (gI n p0 p0) λy3=>.ok ((aQ.mk 2 y3.x0 y3.x1 y3.x2 y3.x3 []))
theorem sB (n:Nat) (p0:Int):CT Tryz.prog 294 [Sc (.int .u8 p0)] [] (ov n p0) (λx=>.agg (eI x)) (λ_=>[]):=by
 refine zC Tryz.func294 O λr hp h hr E hE=>A λ_ hK1=>B (aH 102 (hE _ O) O4 O ?_);refine zQ hK1 (A λ_ hK2=>B (zm O (zm O (zk hp hr h [] Tryz.call292 (gJ n p0 p0) O (λ_=>rfl) λy3 h=>J (dA O O) O ?_))));refine zs O (zQ hK2 (bK (jP 102 O O) ?_));exact L (zX (.cons (aT O O O) .nil) h O)
def dj (p0:Int) (_:R):D (R):=
 .mf ⟨202,[.sc (.int .i64 p0)]⟩
theorem dP (p0:Int) (p1:R):CT Tryz.prog 207 [.ptr 0 0,I p0] [.box (aL p1)] (dj p0 p1) (λ_=>.fZ []) (λx=>[.box (aL x)]):=by
 refine zC Tryz.func207 O λr hp h hr E hE=>B (zm O (J (bd O O O) O ?_));refine J (p9 O) O ?_;exact D4 ⟨202,[.sc (.int .i64 p0)]⟩ O (zq (P:=Tryz.prog) (fn:=Tryz.f207) O h.symm)
def pf (p0:Int):D (Int×Bool):=
 jn (λ(v3:Bool)=>br v3 (.ok (IntKind.wrap .u8 (p0 - 48),true)) (jn (λ(v8:Bool)=>br v8 (.ok (IntKind.wrap .u8 ((IntKind.wrap .u8 (p0 - 97))+10),true)) (br (decide (p0>=65)) (br (decide (p0<=70)) (.ok (IntKind.wrap .u8 ((IntKind.wrap .u8 (p0 - 65))+10),true)) (.ok (0,false))) (.ok (0,false)))) λj9=>br (decide (p0>=97)) (j9 ((decide (p0<=102)))) (j9 (false)))) λj4=>br (decide (p0>=48)) (j4 ((decide (p0<=57)))) (j4 (false))
theorem xL (p0:Int):CT Tryz.prog 318 [Sc (.int .u8 p0)] [] (pf p0) (λx=>.fZ [Sc (.int .u8 x.1),Bo x.2]) (λ_=>[]):=by
 refine zC Tryz.func318 O λr hp h hr E hE=>A λ_ hK1=>B (za O (za O (zQ hK1 (A λ_ hK2=>u (zM h (λ(v3:Bool)=>[(0,Sc (.int .u8 p0)),(4,Bo v3)]) (λ(v3:Bool)=>[]) (λv3 h=>?_) λ_ _ hK5 h=>?_)))))
 ·refine zB O h (λ_ h=>?_) λ_ h=>?_
  ·exact A λ_ hK7=>B (zm O (J (tH O O) O (za O (za O (zQ hK7 (L (zX (.cons (aP O) (.cons (aP O) .nil)) h O)))))))
  refine zM h (λ(v8:Bool)=>[(0,Sc (.int .u8 p0)),(13,Bo v8)]) (λ(v8:Bool)=>[]) (λv8 h=>?_) λ_ _ hK10 h=>?_
  ·refine zB O h (λ_ h=>?_) λ_ h=>?_
   ·exact A λ_ hK12=>B (zm O (J (tH O O) O (J (jm O O) O (za O (za O (zQ hK12 (L (zX (.cons (aP O) (.cons (aP O) .nil)) h O))))))))
   refine A λ_ hK13=>B (zm O (zc O (zm O (zb (decide (p0>=65)) (λhb14=>?_) λhb14=>?_))))
   ·refine z1 hb14 h λh=>zG hb14 O (N O) (zG hb14 O (aX O O O) (zy hb14 O (za O (zQ hK13 (zB O h (λ_ h=>?_) λ_ h=>?_)))))
    ·exact A λ_ hK16=>B (zm O (J (tH O O) O (J (jm O O) O (za O (za O (zQ hK16 (L (zX (.cons (aP O) (.cons (aP O) .nil)) h O))))))))
    exact V (hK2 _ _ (A λ_ hK17=>B (za O (za O (zQ hK17 (L (zX (.cons (aP O) (.cons (aP O) .nil)) h O)))))))
   refine z2 hb14 h λh=>zH 2 O hb14 (zw hb14 O (za O (zQ hK13 (cb O (λhc=>?_) (λhc=>?_)))))
   ·exact absurd (hc) (by simp)
   exact V (hK2 _ _ (A λ_ hK18=>B (za O (za O (zQ hK18 (L (zX (.cons (aP O) (.cons (aP O) .nil)) h O)))))))
  refine B (zm O (zc O (zm O (zb (decide (p0>=97)) (λhb19=>?_) λhb19=>?_))))
  ·exact z1 hb19 h λh=>zG hb19 O (N O) (zG hb19 O (aX O O O) (zy hb19 O (za O (W (hK10 _ _ _ h O)))))
  exact z2 hb19 h λh=>zH 2 O hb19 (zw hb19 O (za O (W (hK10 _ _ _ h O))))
 refine B (zm O (zc O (zm O (zb (decide (p0>=48)) (λhb20=>?_) λhb20=>?_))))
 ·exact z1 hb20 h λh=>zG hb20 O (N O) (zG hb20 O (aX O O O) (zy hb20 O (za O (W (hK5 _ _ _ h O)))))
 exact z2 hb20 h λh=>zH 2 O hb20 (zw hb20 O (za O (W (hK5 _ _ _ h O))))
def cy (p0:R):D (Int×R):=
 br (decide (p0.at_<(List.length p0.text:Int))) (el p0.text p0.at_ λb6=>.ok ((b6.toNat:Int),p0)) (.ok (0,p0))
theorem cN (p0:R):CT Tryz.prog 239 [.ptr 0 0] [.box (aL p0)] (cy p0) (λx=>Sc (.int .u8 x.1)) (λx=>[.box (aL x.2)]):=by
 refine zC Tryz.func239 O λr hp h hr E hE=>A λ_ hK1=>B (za O (zQ hK1 (A λ_ hK2=>A λ_ hK3=>bu [0,1,2,3,4,5,6,7,8,9] O (by kernel_rfl) (zD O (N O) O (zD O (c7 O) O (zD O (bF O) O (zD O (bj O O O) O (zD O (N O) O (zD O (c7 O) O (zD O (bF O) O (zD O (bj O O O) O (zD O (bJ O) O (zD O (aX O O O) O (ct (hK3 _ _ (zB O h (λ_ h=>?_) λ_ h=>?_))))))))))))))))
 ·exact A λ_ hK5=>bu [0,1,2,3,4,5,6,7,8,9] O (by kernel_rfl) (zD O (N O) O (zD O (c7 O) O (zD O (bF O) O (zD O (bj O O O) O (zD O (N O) O (zD O (c7 O) O (zD O (bF O) O (zD O (bj O O O) O (ze hr h λb6 h7 h8 h9 h=>zD O (bY O O h7 h9) O (eM O O O (y O) O (ct (hK5 _ _ (L (z O h O))))))))))))))
 exact V (hK2 _ _ (A λ_ hK10=>B (za O (zQ hK10 (L (z O h O))))))
def hZ (n:Nat) (p0:Int) (p1:R):D (Int×R):=
 iter (λnext6 (v5:R×Int×Int)=>br (decide (v5.2.2<2)) (gd ((0:Int)<=v5.2.2/\v5.2.2<2) (gd (cr (v5.1.at_+1)) (D.bind (cy (R.mk v5.1.text (v5.1.at_+1))) λy17=>D.bind (pf y17.1) λy18=>gd ((0:Int)<=4) (jn (λ(v21:Bool)=>br v21 (D.bind (dj y17.2.at_ y17.2) λy25=>gd (cr (v5.2.2+1)) (next6 (y25,yw .u8 (oG .u8 v5.2.1 4) y18.1,v5.2.2+1))) (gd (cr (v5.2.2+1)) (next6 (y17.2,yw .u8 (oG .u8 v5.2.1 4) y18.1,v5.2.2+1)))) λj22=>br (!y18.2) (j22 (true)) (br (decide ((jb [15,0] v5.2.2)>0)) (gd ((0:Int)<=4) (br (decide ((yw .u8 (oG .u8 (yw .u8 (oG .u8 v5.2.1 4) y18.1) 4) (jb [15,0] v5.2.2))<p0)) (j22 (true)) (br ((jb [15,0] v5.2.2)==0) (j22 ((decide ((yw .u8 (oG .u8 v5.2.1 4) y18.1)<p0)))) (j22 (false))))) (br ((jb [15,0] v5.2.2)==0) (j22 ((decide ((yw .u8 (oG .u8 v5.2.1 4) y18.1)<p0)))) (j22 (false)))))))) (gd (cr (v5.1.at_+1)) (.ok (v5.2.1,(R.mk v5.1.text (v5.1.at_+1)))))) n (p1,0,0)
theorem oJ (n:Nat) (p0:Int) (p1:R):CT Tryz.prog 312 [.ptr 0 0,Sc (.int .u8 p0)] [.box (aL p1)] (hZ n p0 p1) (λx=>Sc (.int .u8 x.1)) (λx=>[.box (aL x.2)]):=by
 refine zC Tryz.func312 O λr hp h hr E hE=>A λ_ hK1=>B (za O (zQ hK1 (A λ_ hK2=>B (za O (zQ hK2 (A λ_ hK3=>A λ_ hK4=>B (J (bd O O O) O ?_)))))));refine zm O (zQ hK4 (u (zL hr h (λ(v5:R×Int×Int)=>[(0,.ptr 0 0),(1,Sc (.int .u8 p0)),(5,Sc (.int .u8 v5.2.1)),(10,.agg [Sc (.int .u8 15),Sc (.int .u8 0)]),(11,I v5.2.2)]) (λ(v5:R×Int×Int)=>[(0,.box (aL v5.1))]) O λ_ v5 _ hK7 h=>A λ_ hK8=>B (zc O (zQ hK8 (A λ_ hK9=>zB O h (λ_ h=>?_) λ_ h=>?_))))))
 ·refine V (hK9 _ _ (A λ_ hK11=>u (A λ_ hK12=>B (zd hr h λhg13 h=>J (HK (λx=>Sc (.int .u8 x)) (xs:=[15,0]) O O O O hg13.1 hg13.2) O (za O (zQ hK12 (A λ_ hK14=>B (zm O (zn O (zf O (zl O (zd hr h λhg15 h=>zo hg15 O (zn O (zf O (zs O (zQ hK14 (A λ_ hK16=>B (zm O ?_))))))))))))))))));refine zk hp hr h [0] Tryz.call239 (cN (R.mk v5.1.text (v5.1.at_+1))) O (λ_=>rfl) λy17 h=>zk hp hr h [] Tryz.call318 (xL y17.1) O (λ_=>rfl) λy18 h=>zm O (zx O (zx O (za O (za O (zQ hK16 (A λ_ hK19=>B (zm O (zd hr h λhg20 h=>J (zF O O hg20) O (zm O (J (A0 O O) O (za O (zQ hK19 (zM h (λ(v21:Bool)=>[(0,.ptr 0 0),(1,Sc (.int .u8 p0)),(5,Sc (.int .u8 (yw .u8 (oG .u8 v5.2.1 4) y18.1))),(10,.agg [Sc (.int .u8 15),Sc (.int .u8 0)]),(11,I v5.2.2),(53,Bo v21)]) (λ(v21:Bool)=>[(0,.box (aL y17.2))]) (λv21 h=>?_) λ_ _ hK23 h=>?_)))))))))))))
  ·refine zB O h (λ_ h=>?_) λ_ h=>?_
   ·exact B (zm O (zm O (zn O (zf O (zl O (zk hp hr h [0] Tryz.call207 (dP y17.2.at_ y17.2) O (λ_=>rfl) λy25 h=>zQ hK11 (B (zd hr h λhg26 h=>zo hg26 O (zm O (W (hK7 _ _ _ h O)))))))))))
   exact V (hK11 _ _ (B (zd hr h λhg27 h=>zo hg27 O (zm O (W (hK7 _ _ _ h O))))))
  refine B (zm O (J (eo O) O (zm O (zb (!y18.2) (λhb28=>?_) λhb28=>?_))))
  ·exact z1 hb28 h λh=>zH 3 O hb28 (zu O (zu O (zu O (zu O (zu O (zu O (zg hb28 O (zy hb28 O (zm O (zH 3 O O (zu O (zu O (zu O (zg O O (zt O (W (hK23 _ _ _ h O)))))))))))))))))
  refine z2 hb28 h λh=>zG hb28 O (N O) (zG hb28 O (aX O O O) (zG hb28 O (N O) (zb (decide ((jb [15,0] v5.2.2)>0)) (λhb29=>?_) λhb29=>?_)))
  ·refine z1 hb29 h λh=>zG hb29 O (N O) (zd hr h λhg30 h=>zG hb29 O (zF O O hg30) (zG hb29 O (N O) (zG hb29 O (A0 O O) (zG hb29 O (N O) (zG hb29 O (aX O O O) (zG hb28 O (cY hb29 O O) (zw hb28 O (zm O (zb (decide ((yw .u8 (oG .u8 (yw .u8 (oG .u8 v5.2.1 4) y18.1) 4) (jb [15,0] v5.2.2))<p0)) (λhb31=>?_) λhb31=>?_)))))))))
   ·exact z1 hb31 h λh=>zH 3 O hb31 (zu O (zu O (zu O (zg hb31 O (zy hb31 O (W (hK23 _ _ _ h O)))))))
   refine z2 hb31 h λh=>zG hb31 O (N O) (zG hb31 O (aX O O O) (zG hb31 O (N O) (zb ((jb [15,0] v5.2.2)==0) (λhb32=>?_) λhb32=>?_)))
   ·exact z1 hb32 h λh=>zG hb32 O (N O) (zG hb32 O (N O) (zG hb32 O (aX O O O) (zG hb31 O (cY hb32 O O) (zw hb31 O (W (hK23 _ _ _ h O))))))
   exact z2 hb32 h λh=>zH 3 O hb32 (zG hb31 O (cU hb32 O O) (zw hb31 O (W (hK23 _ _ _ h O))))
  refine z2 hb29 h λh=>zH 6 O hb29 (zG hb28 O (cU hb29 O O) (zw hb28 O (zm O (zG O O (N O) (zG O O (aX O O O) (zG O O (N O) (zb ((jb [15,0] v5.2.2)==0) (λhb33=>?_) λhb33=>?_)))))))
  ·exact z1 hb33 h λh=>zG hb33 O (N O) (zG hb33 O (N O) (zG hb33 O (aX O O O) (zG O O (cY hb33 O O) (J (de O O) O (W (hK23 _ _ _ h O))))))
  exact z2 hb33 h λh=>zH 3 O hb33 (zG O O (cU hb33 O O) (J (de O O) O (W (hK23 _ _ _ h O))))
 exact aS (hK3 _ _ (A λ_ hK34=>B (zm O (zn O (zf O (zl O (zd hr h λhg35 h=>zo hg35 O (zn O (zf O (zs O (zQ hK34 (A λ_ hK36=>B (zm O (za O (zQ hK36 (L (z O h O)))))))))))))))))
def gw (n:Nat) (p0:Int) (p1:R):D (Int×R):=
 gd (cr (p1.at_+1)) (D.bind (cy (R.mk p1.text (p1.at_+1))) λy5=>jn (λ(v6:R×Int)=>jn (λ(v9:R)=>gd (cr (v9.at_+1)) (.ok (v6.2,(R.mk v9.text (v9.at_+1))))) λj10=>br (decide (v6.2<p0)) (D.bind (dj v6.1.at_ v6.1) λy17=>j10 (y17)) (j10 (v6.1))) λj7=>br (decide (y5.2.at_>=(List.length y5.2.text:Int))) (D.bind (dj (List.length y5.2.text:Int) y5.2) λy20=>j7 (y20,y5.1)) (br (y5.1==120) (D.bind (hZ n p0 y5.2) λy24=>.ok (y24.1,y24.2)) (br (y5.1==110) (j7 (y5.2,10)) (br (y5.1==116) (j7 (y5.2,9)) (br (y5.1==114) (j7 (y5.2,13)) (D.bind (strings_IndexByte ([40,41,91,93,123,125,124,42,43,63,46,92,45,94]:ByS) y5.1) λy32=>br (decide (y32<0)) (D.bind (dj y5.2.at_ y5.2) λy34=>j7 (y34,y5.1)) (j7 (y5.2,y5.1))))))))
theorem ke (n:Nat) (p0:Int) (p1:R):CT Tryz.prog 295 [.ptr 0 0,Sc (.int .u8 p0)] [.box (aL p1)] (gw n p0 p1) (λx=>Sc (.int .u8 x.1)) (λx=>[.box (aL x.2)]):=by
 refine zC Tryz.func295 O λr hp h hr E hE=>A λ_ hK1=>B (za O (zQ hK1 (A λ_ hK2=>B (zm O (zn O (zf O (zl O (zd hr h λhg3 h=>zo hg3 O (zn O (zf O (zs O (zQ hK2 (A λ_ hK4=>B (zm O (zk hp hr h [0] Tryz.call239 (cN (R.mk p1.text (p1.at_+1))) O (λ_=>rfl) λy5 h=>za O (zQ hK4 (zM h (λ(v6:R×Int)=>[(0,.ptr 0 0),(1,Sc (.int .u8 p0)),(5,Sc (.int .u8 v6.2))]) (λ(v6:R×Int)=>[(0,.box (aL v6.1))]) (λv6 h=>?_) λ_ _ hK8 h=>?_)))))))))))))))))
 ·refine zM h (λ(v9:R)=>[(0,.ptr 0 0),(1,Sc (.int .u8 p0)),(5,Sc (.int .u8 v6.2))]) (λ(v9:R)=>[(0,.box (aL v9))]) (λv9 h=>?_) λ_ _ hK11 h=>?_
  ·exact A λ_ hK12=>B (zm O (zn O (zf O (zl O (zd hr h λhg13 h=>zo hg13 O (zn O (zf O (zs O (zQ hK12 (A λ_ hK14=>B (zm O (za O (zQ hK14 (L (z O h O)))))))))))))))
  refine A λ_ hK15=>B (zm O (zm O (zc O (zQ hK15 (zB O h (λ_ h=>?_) λ_ h=>?_)))))
  ·exact B (zm O (zm O (zn O (zf O (zl O (zk hp hr h [0] Tryz.call207 (dP v6.1.at_ v6.1) O (λ_=>rfl) λy17 h=>W (hK11 _ _ _ h O)))))))
  exact V (hK11 _ _ _ h O)
 refine u (A λ_ hK18=>bu [0,1,2,3,4,5,6,7,8,9,10] O (by kernel_rfl) (zD O (N O) O (zD O (c7 O) O (zD O (bF O) O (zD O (bj O O O) O (zD O (N O) O (zD O (c7 O) O (zD O (bF O) O (zD O (bj O O O) O (zD O (bJ O) O (zD O (aX O O O) O (eM O O O (y O) O (ct (hK18 _ _ (zB O h (λ_ h=>?_) λ_ h=>?_)))))))))))))))
 ·exact B (zm O (zm O (zn O (zf O (zl O (J (bJ O) O (zk hp hr h [0] Tryz.call207 (dP (List.length y5.2.text:Int) y5.2) O (λ_=>rfl) λy20 h=>W (hK8 _ _ _ h O))))))))
 refine A λ_ hK21=>B (zm O (zc O (za O (zQ hK21 (zB O h (λ_ h=>?_) λ_ h=>?_)))))
 ·exact A λ_ hK23=>B (zm O (zm O (zk hp hr h [0] Tryz.call312 (oJ n p0 y5.2) O (λ_=>rfl) λy24 h=>za O (zQ hK23 (L (z O h O))))))
 refine A λ_ hK25=>B (zm O (zc O (za O (zQ hK25 (zB O h (λ_ h=>?_) λ_ h=>?_)))))
 ·exact B (za O (W (hK8 _ _ _ h O)))
 refine A λ_ hK27=>B (zm O (zc O (za O (zQ hK27 (zB O h (λ_ h=>?_) λ_ h=>?_)))))
 ·exact B (za O (W (hK8 _ _ _ h O)))
 refine A λ_ hK29=>B (zm O (zc O (za O (zQ hK29 (zB O h (λ_ h=>?_) λ_ h=>?_)))))
 ·exact B (za O (W (hK8 _ _ _ h O)))
 refine A λ_ hK31=>B (zm O (zk hp hr h [] Tryz.call296 (k3 ([40,41,91,93,123,125,124,42,43,63,46,92,45,94]:ByS) y5.1) O (λ_=>rfl) λy32 h=>zc O (za O (zQ hK31 (zB O h (λ_ h=>?_) λ_ h=>?_)))))
 ·exact B (zm O (zm O (zn O (zf O (zl O (zk hp hr h [0] Tryz.call207 (dP y5.2.at_ y5.2) O (λ_=>rfl) λy34 h=>W (hK8 _ _ _ h O)))))))
 exact V (hK8 _ _ _ h O)
def pg (n:Nat) (p0:fC):D (fC):=
 iter (λnext5 (v4:fC×Int)=>br (decide (v4.2<4)) (gd ((0:Int)<=v4.2/\v4.2<4) (gd ((0:Int)<=v4.2/\v4.2<4) (gd (cr (v4.2+1)) (next5 ((fC.mk (jb (so [v4.1.x0,v4.1.x1,v4.1.x2,v4.1.x3] v4.2 (Dc .u64 (jb [v4.1.x0,v4.1.x1,v4.1.x2,v4.1.x3] v4.2))) 0) (jb (so [v4.1.x0,v4.1.x1,v4.1.x2,v4.1.x3] v4.2 (Dc .u64 (jb [v4.1.x0,v4.1.x1,v4.1.x2,v4.1.x3] v4.2))) 1) (jb (so [v4.1.x0,v4.1.x1,v4.1.x2,v4.1.x3] v4.2 (Dc .u64 (jb [v4.1.x0,v4.1.x1,v4.1.x2,v4.1.x3] v4.2))) 2) (jb (so [v4.1.x0,v4.1.x1,v4.1.x2,v4.1.x3] v4.2 (Dc .u64 (jb [v4.1.x0,v4.1.x1,v4.1.x2,v4.1.x3] v4.2))) 3)),v4.2+1))))) (.ok (v4.1))) n (p0,0)
theorem xM (n:Nat) (p0:fC):CT Tryz.prog 311 [.agg (jc p0)] [] (pg n p0) (λx=>.agg (jc x)) (λ_=>[]):=by
 refine zC Tryz.func311 O λr hp h hr E hE=>A λ_ hK1=>B (dN 101 (hE _ O) O7 O ?_);refine aH 102 (hE _ O) O4 O ?_;refine zQ hK1 (A λ_ hK2=>A λ_ hK3=>B (zm O (zQ hK3 (u (zL hr h (λ(v4:fC×Int)=>[(0,.agg (jc p0)),(1,.ptr 101 0),(2,.ptr 102 0),(4,I v4.2)]) (λ(v4:fC×Int)=>[(101,.box (jc v4.1)),(102,.box [Sc (.int .u64 0),Sc (.int .u64 0),Sc (.int .u64 0),Sc (.int .u64 0)])]) O λ_ v4 _ hK6 h=>A λ_ hK7=>B (zc O (zQ hK7 (A λ_ hK8=>zB O h (λ_ h=>?_) λ_ h=>?_))))))))
 ·refine V (hK8 _ _ (A λ_ hK10=>u (A λ_ hK11=>B (zm O (za O (zQ hK11 (B (zm O (zm O (zd hr h λhg12 h=>J (ja O O hg12.1 hg12.2) O (J (zI (λx=>Sc (.int .u64 x)) (xs:=[v4.1.x0,v4.1.x1,v4.1.x2,v4.1.x3]) O O O hg12.1 hg12.2) O (J (HI O) O (zd hr h λhg13 h=>J (ja O O hg13.1 hg13.2) O (FN (λx=>Sc (.int .u64 x)) (xs:=[v4.1.x0,v4.1.x1,v4.1.x2,v4.1.x3]) O O O O hg13.1 hg13.2 (λ_=>O2) (HT _ (by simp[so])) ?_))))))))))))));exact zQ hK10 (B (zd hr h λhg14 h=>zo hg14 O (zm O (W (hK6 _ _ _ h O)))))
 refine aS (hK2 _ _ (A λ_ hK15=>B (zA O ?_)));exact zs O (zQ hK15 (L (zX (.cons (aT O O O) .nil) h O)))
def je (n:Nat) (p0:Int) (p1:R):D (Int×R):=
 D.bind (cy p1) λy3=>jn (λ(v4:R)=>gd (cr (v4.at_+1)) (.ok (y3.1,(R.mk v4.text (v4.at_+1))))) λj5=>br (decide (y3.2.at_>=(List.length y3.2.text:Int))) (D.bind (dj (List.length y3.2.text:Int) y3.2) λy12=>j5 (y12)) (br (y3.1==92) (D.bind (gw n p0 y3.2) λy16=>.ok (y16.1,y16.2)) (jn (λ(v17:Bool)=>br v17 (D.bind (dj y3.2.at_ y3.2) λy21=>j5 (y21)) (j5 (y3.2))) λj18=>br (decide (y3.1<32)) (j18 (true)) (br (decide (y3.1>126)) (j18 (true)) (br (decide (y3.1<p0)) (j18 (true)) (D.bind (strings_IndexByte ([40,41,91,93,123,125,124,42,43,63,46,94,45]:ByS) y3.1) λy25=>j18 ((decide (y25>=0))))))))
theorem nM (n:Nat) (p0:Int) (p1:R):CT Tryz.prog 309 [.ptr 0 0,Sc (.int .u8 p0)] [.box (aL p1)] (je n p0 p1) (λx=>Sc (.int .u8 x.1)) (λx=>[.box (aL x.2)]):=by
 refine zC Tryz.func309 O λr hp h hr E hE=>A λ_ hK1=>B (za O (zQ hK1 (A λ_ hK2=>B (zm O (zk hp hr h [0] Tryz.call239 (cN p1) O (λ_=>rfl) λy3 h=>za O (zQ hK2 (zM h (λ(v4:R)=>[(0,.ptr 0 0),(1,Sc (.int .u8 p0)),(5,Sc (.int .u8 y3.1))]) (λ(v4:R)=>[(0,.box (aL v4))]) (λv4 h=>?_) λ_ _ hK6 h=>?_)))))))
 ·exact A λ_ hK7=>B (zm O (zn O (zf O (zl O (zd hr h λhg8 h=>zo hg8 O (zn O (zf O (zs O (zQ hK7 (A λ_ hK9=>B (zm O (za O (zQ hK9 (L (z O h O)))))))))))))))
 refine u (A λ_ hK10=>bu [0,1,2,3,4,5,6,7,8,9,10] O (by kernel_rfl) (zD O (N O) O (zD O (c7 O) O (zD O (bF O) O (zD O (bj O O O) O (zD O (N O) O (zD O (c7 O) O (zD O (bF O) O (zD O (bj O O O) O (zD O (bJ O) O (zD O (aX O O O) O (eM O O O (y O) O (ct (hK10 _ _ (zB O h (λ_ h=>?_) λ_ h=>?_)))))))))))))))
 ·exact B (zm O (zm O (zn O (zf O (zl O (J (bJ O) O (zk hp hr h [0] Tryz.call207 (dP (List.length y3.2.text:Int) y3.2) O (λ_=>rfl) λy12 h=>W (hK6 _ _ _ h O))))))))
 refine A λ_ hK13=>B (zm O (zc O (za O (zQ hK13 (zB O h (λ_ h=>?_) λ_ h=>?_)))))
 ·exact A λ_ hK15=>B (zm O (zm O (zk hp hr h [0] Tryz.call295 (ke n p0 y3.2) O (λ_=>rfl) λy16 h=>za O (zQ hK15 (L (z O h O))))))
 refine zM h (λ(v17:Bool)=>[(0,.ptr 0 0),(1,Sc (.int .u8 p0)),(5,Sc (.int .u8 y3.1)),(32,Bo v17)]) (λ(v17:Bool)=>[(0,.box (aL y3.2))]) (λv17 h=>?_) λ_ _ hK19 h=>?_
 ·refine zB O h (λ_ h=>?_) λ_ h=>?_
  ·exact B (zm O (zm O (zn O (zf O (zl O (zk hp hr h [0] Tryz.call207 (dP y3.2.at_ y3.2) O (λ_=>rfl) λy21 h=>W (hK6 _ _ _ h O)))))))
  exact V (hK6 _ _ _ h O)
 refine B (zm O (zc O (zm O (zb (decide (y3.1<32)) (λhb22=>?_) λhb22=>?_))))
 ·exact z1 hb22 h λh=>zH 2 O hb22 (zy hb22 O (zm O (zH 3 O O (zt O (zm O (zH 3 O O (zt O (za O (W (hK19 _ _ _ h O))))))))))
 refine z2 hb22 h λh=>zG hb22 O (N O) (zG hb22 O (aX O O O) (zw hb22 O (zm O (zb (decide (y3.1>126)) (λhb23=>?_) λhb23=>?_))))
 ·exact z1 hb23 h λh=>zH 3 O hb23 (zy hb23 O (zm O (zH 3 O O (zt O (za O (W (hK19 _ _ _ h O)))))))
 refine z2 hb23 h λh=>zG hb23 O (N O) (zG hb23 O (N O) (zG hb23 O (aX O O O) (zw hb23 O (zm O (zb (decide (y3.1<p0)) (λhb24=>?_) λhb24=>?_)))))
 ·exact z1 hb24 h λh=>zH 3 O hb24 (zy hb24 O (za O (W (hK19 _ _ _ h O))))
 exact z2 hb24 h λh=>zG hb24 O (N O) (zK hb24 O hp hr h [] Tryz.call296 (k3 ([40,41,91,93,123,125,124,42,43,63,46,94,45]:ByS) y3.1) O (λ_=>rfl) λy25 h=>zG hb24 O (aX O O O) (zw hb24 O (za O (W (hK19 _ _ _ h O)))))
def kV (n:Nat) (p0:R):D (aQ×R):=
 gd (cr (p0.at_+1)) (D.bind (cy (R.mk p0.text (p0.at_+1))) λy5=>jn (λ(v6:R)=>jn (λ(v10:R×Bool)=>br v10.2 (gd (cr (v10.1.at_+1)) (.ok ((aQ.mk 0 0 0 0 0 []),(R.mk v10.1.text (v10.1.at_+1))))) (iter (λnext21 (v20:R×fC×Bool)=>jn (λ(v23:R)=>D.bind (je n 0 v23) λy28=>D.bind (cy y28.2) λy32=>br (y32.1==45) (gd (cr (y32.2.at_+1)) (D.bind (je n y28.1 (R.mk y32.2.text (y32.2.at_+1))) λy36=>D.bind (gI n y28.1 y36.1) λy37=>D.bind (jr n v20.2.1 y37) λy38=>next21 (y36.2,y38,false))) (D.bind (gI n y28.1 y28.1) λy39=>D.bind (jr n v20.2.1 y39) λy40=>next21 (y32.2,y40,false))) λj24=>br v20.2.2 (j24 (v20.1)) (D.bind (cy v20.1) λy43=>br (y43.1 !=93) (j24 (y43.2)) (gd (cr (y43.2.at_+1)) (br (y5.1==94) (D.bind (pg n v20.2.1) λy50=>.ok ((aQ.mk 2 y50.x0 y50.x1 y50.x2 y50.x3 []),(R.mk y43.2.text (y43.2.at_+1)))) (.ok ((aQ.mk 2 v20.2.1.x0 v20.2.1.x1 v20.2.1.x2 v20.2.1.x3 []),(R.mk y43.2.text (y43.2.at_+1)))))))) n (v10.1,(fC.mk 0 0 0 0),true))) λj11=>br (!(y5.1==94)) (D.bind (cy v6) λy54=>j11 (y54.2,(y54.1==93))) (j11 (v6,false))) λj7=>br (y5.1==94) (gd (cr (y5.2.at_+1)) (j7 ((R.mk y5.2.text (y5.2.at_+1))))) (j7 (y5.2)))
theorem tM (n:Nat) (p0:R):CT Tryz.prog 291 [.ptr 0 0] [.box (aL p0)] (kV n p0) (λx=>.agg (eI x.1)) (λx=>[.box (aL x.2)]):=by
 refine zC Tryz.func291 O λr hp h hr E hE=>A λ_ hK1=>B (aH 102 (hE _ O) O4 O ?_);refine zQ hK1 (A λ_ hK2=>B (zm O (zn O (zf O (zl O (zd hr h λhg3 h=>zo hg3 O (zn O (zf O (zs O (zQ hK2 (A λ_ hK4=>B (zm O (zk hp hr h [0] Tryz.call239 (cN (R.mk p0.text (p0.at_+1))) O (λ_=>rfl) λy5 h=>zc O (za O (zQ hK4 (zM h (λ(v6:R)=>[(0,.ptr 0 0),(2,.ptr 102 0),(3,Bo (y5.1==94))]) (λ(v6:R)=>[(0,.box (aL v6)),(102,.box [I 0,Sc (.int .u64 0),Sc (.int .u64 0),Sc (.int .u64 0),Sc (.int .u64 0),nSl])]) (λv6 h=>?_) λ_ _ hK8 h=>?_))))))))))))))))
 ·refine A λ_ hK9=>zM h (λ(v10:R×Bool)=>[(0,.ptr 0 0),(2,.ptr 102 0),(3,Bo (y5.1==94)),(32,Bo v10.2)]) (λ(v10:R×Bool)=>[(0,.box (aL v10.1)),(102,.box [I 0,Sc (.int .u64 0),Sc (.int .u64 0),Sc (.int .u64 0),Sc (.int .u64 0),nSl])]) (λv10 h=>?_) λ_ _ hK12 h=>?_
  ·refine zB O h (λ_ h=>?_) λ_ h=>?_
   ·refine A λ_ hK14=>B (zm O (zn O (zf O (zl O (zd hr h λhg15 h=>zo hg15 O (zn O (zf O (zs O (zQ hK14 (A λ_ hK16=>B (J (dA O O) O ?_)))))))))));refine zs O (zQ hK16 (bK (jP 102 O O) ?_));exact L (zX (.cons (aT O O O) .nil) h O)
   refine V (hK9 _ _ (A λ_ hK17=>B (aH 104 (hE _ O) O4 O ?_)));refine zQ hK17 (A λ_ hK18=>A λ_ hK19=>B (za O (zQ hK19 (u (zL hr h (λ(v20:R×fC×Bool)=>[(0,.ptr 0 0),(2,.ptr 102 0),(3,Bo (y5.1==94)),(4,.ptr 104 0),(5,Bo v20.2.2)]) (λ(v20:R×fC×Bool)=>[(0,.box (aL v20.1)),(102,.box [I 0,Sc (.int .u64 0),Sc (.int .u64 0),Sc (.int .u64 0),Sc (.int .u64 0),nSl]),(104,.box (jc v20.2.1))]) O λ_ v20 _ hK22 h=>zM h (λ(v23:R)=>[(0,.ptr 0 0),(2,.ptr 102 0),(3,Bo (y5.1==94)),(4,.ptr 104 0)]) (λ(v23:R)=>[(0,.box (aL v23)),(102,.box [I 0,Sc (.int .u64 0),Sc (.int .u64 0),Sc (.int .u64 0),Sc (.int .u64 0),nSl]),(104,.box (jc v20.2.1))]) (λv23 h=>?_) λ_ _ hK25 h=>?_)))))
   ·refine A λ_ hK26=>u (A λ_ hK27=>B (zm O (zk hp hr h [0] Tryz.call309 (nM n 0 v23) O (λ_=>rfl) λy28 h=>za O (zQ hK27 (A λ_ hK29=>B (zm O (za O (zQ hK29 (A λ_ hK30=>A λ_ hK31=>B (zm O (zk hp hr h [0] Tryz.call239 (cN y28.2) O (λ_=>rfl) λy32 h=>zc O (zQ hK31 (zB O h (λ_ h=>?_) λ_ h=>?_)))))))))))))
    ·refine A λ_ hK34=>B (zm O (zn O (zf O (zl O (zd hr h λhg35 h=>zo hg35 O (zn O (zf O (zs O (zQ hK34 (B (zm O (zm O (zk hp hr h [0] Tryz.call309 (nM n y28.1 (R.mk y32.2.text (y32.2.at_+1))) O (λ_=>rfl) λy36 h=>za O (zQ hK30 (bu [0,1,2,3,4,5] O (by kernel_rfl) (zD O (jS O O O O) O ?_))))))))))))))));refine zD O (N O) O (zD O (N O) O (dG O (bQ O) hr h [] Tryz.call292 (gJ n y28.1 y36.1) ⟨O,O,O,O,O,O,trivial⟩ O O (λ_=>O3) (λ_=>O2) hp (λy37 h=>⟨cF ⟨trivial,⟨trivial,⟨⟨⟨_,O,M.le_refl _⟩,trivial⟩,trivial⟩⟩⟩,?_⟩)));refine dG O (bQ O) hr h [] Tryz.call310 (kc n v20.2.1 y37) ⟨O,O,O,O,O,O,trivial⟩ O O (λ_=>O3) (λ_=>O2) hp (λy38 h=>⟨y O,?_⟩);refine bV O O8 O (λe5 he=>⟨y O,?_⟩);subst he;exact ct (hK26 _ _ (B (za O (W (hK22 _ _ _ h O)))))
    refine V (hK30 _ _ (bu [0,1,2,3,4,5] O (by kernel_rfl) (zD O (jS O O O O) O ?_)));refine zD O (N O) O (zD O (N O) O (dG O (bQ O) hr h [] Tryz.call292 (gJ n y28.1 y28.1) ⟨O,O,O,O,O,O,trivial⟩ O O (λ_=>O3) (λ_=>O2) hp (λy39 h=>⟨cF ⟨trivial,⟨trivial,⟨⟨⟨_,O,M.le_refl _⟩,trivial⟩,trivial⟩⟩⟩,?_⟩)));refine dG O (bQ O) hr h [] Tryz.call310 (kc n v20.2.1 y39) ⟨O,O,O,O,O,O,trivial⟩ O O (λ_=>O3) (λ_=>O2) hp (λy40 h=>⟨y O,?_⟩);refine bV O O8 O (λe5 he=>⟨y O,?_⟩);subst he;exact ct (hK26 _ _ (B (za O (W (hK22 _ _ _ h O)))))
   refine A λ_ hK41=>B (zm O (zm O (zb v20.2.2 (λhb42=>?_) λhb42=>?_)))
   ·refine z1 hb42 h λh=>zH 3 O hb42 (zy hb42 O (zQ hK41 (cb O (λhc=>?_) (λhc=>?_))))
    ·exact V (hK25 _ _ _ h O)
    exact absurd (hc) (by simp)
   refine z2 hb42 h λh=>zG hb42 O (N O) (zK hb42 O hp hr h [0] Tryz.call239 (cN v20.1) O (λ_=>rfl) λy43 h=>zG hb42 O (aX O O O) (zw hb42 O (zQ hK41 (zB O h (λ_ h=>?_) λ_ h=>?_))))
   ·exact V (hK25 _ _ _ h O)
   refine aS (hK18 _ _ (A λ_ hK45=>B (zm O (zn O (zf O (zl O (zd hr h λhg46 h=>zo hg46 O (zn O (zf O (zs O (zQ hK45 (A λ_ hK47=>A λ_ hK48=>B (zm O (zQ hK48 (zB O h (λ_ h=>?_) λ_ h=>?_)))))))))))))))
   ·refine B (zA O ?_);refine zk hp hr h [] Tryz.call311 (xM n v20.2.1) O (λ_=>rfl) λy50 h=>zs O (zQ hK47 (A λ_ hK51=>B (zA O ?_)));refine J (dA O O) O ?_;refine zs O (zQ hK51 (bK (jP 102 O O) ?_));exact L (zX (.cons (aT O O O) .nil) h O)
   refine V (hK47 _ _ (A λ_ hK52=>B (zA O ?_)));refine J (dA O O) O ?_;refine zs O (zQ hK52 (bK (jP 102 O O) ?_));exact L (zX (.cons (aT O O O) .nil) h O)
  refine B (zm O (J (eo O) O (zm O (zb (!(y5.1==94)) (λhb53=>?_) λhb53=>?_))))
  ·exact z1 hb53 h λh=>zG hb53 O (N O) (zK hb53 O hp hr h [0] Tryz.call239 (cN v6) O (λ_=>rfl) λy54 h=>zG hb53 O (aX O O O) (zy hb53 O (W (hK12 _ _ _ h O))))
  exact z2 hb53 h λh=>zH 3 O hb53 (zw hb53 O (W (hK12 _ _ _ h O)))
 refine A λ_ hK55=>B (zm O (zQ hK55 (zB O h (λ_ h=>?_) λ_ h=>?_)))
 ·exact B (zm O (zn O (zf O (zl O (zd hr h λhg57 h=>zo hg57 O (zn O (zf O (zs O (W (hK8 _ _ _ h O))))))))))
 exact V (hK8 _ _ _ h O)
end Go.Abs
end
