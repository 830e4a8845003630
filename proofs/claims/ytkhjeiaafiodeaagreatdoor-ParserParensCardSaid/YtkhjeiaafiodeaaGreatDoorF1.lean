/- PROVED: lemmas of a proof that ParserParens returns true. CONDITIONS: as each states. -/
import Derived.Test.YtkhjeiaafiodeaaGreatDoorF0
import Derived.Recover
import Derived.Laws.BytesArg
import Derived.Laws.StructEq
import Derived.Below
import Derived.Lib.ConvBytes
import Derived.Lib.IndexMore
import Derived.Lib.LastIndexLaws
import Derived.Lib.ParseIntB
section
namespace Go.Abs
def sh (l:List (Nat×AV)):List Operand→Option (List AV)
 | []=>some []
 | x::xs=>match bT l x,sh l xs with
  | some v,some vs=>some (v::vs)
  | _,_=>none
theorem kQ {l:List (Nat×AV)} {ds:List (FuncId×List AV)}:∀ {xs:List Operand} {vs:List AV},sh l xs=some vs→xs.map (Y l ds).val=vs
 | [],_,h=>by simp[sh] at h;simp[h]
 | x::xs,vs,h=>by
  simp only[sh] at h
  split at h
  ·rename_i v vs' hv hvs
   cases h
   simp[aE hv,kQ hvs]
  ·cases h
mutual
theorem o5 {π:Nat→Nat}:∀ {v:AV},v.only (fun _=>false)=true→v.gg π=v
 | .any,_=>rfl
 | .oc,_=>rfl
 | .pv _,_=>rfl
 | .ptr _ _,h=>by simp[AV.only] at h
 | .arr _ _,h=>by simp[AV.only] at h
 | .sp _,_=>rfl
 | .fn f xs ys,h=>by simp only[AV.only,Bool.and_eq_true] at h;simp only[AV.gg,o6 h.1,o6 h.2]
 | .agg cs,h=>by simp only[AV.only] at h;simp only[AV.gg,o6 h]
 | .fX cs,h=>by simp only[AV.only] at h;simp only[AV.gg,o6 h]
 | .lF t v,h=>by simp only[AV.only] at h;simp only[AV.gg,o5 h]
theorem o6 {π:Nat→Nat}:∀ {v:List AV},AV.only.jJ (fun _=>false) v=true→AV.gg.k7 π v=v
 | [],_=>rfl
 | x::xs,h=>by simp only[AV.only.jJ,Bool.and_eq_true] at h;simp only[AV.gg.k7,o5 h.1,o6 h.2]
end
theorem lV {a b:Nat}:Nat.blt a b=true↔a<b:=by rw[Nat.blt_eq]
def ez:Nat→List M→List (Nat×M)
 | _,[]=>[]
 | i,e::es=>(i,e)::ez (i+1) es
def kR:List Nat→List M→List (Nat×M)
 | k::ks,e::es=>(k,e)::kR ks es
 | _,_=>[]
def sW (s:List (Nat×M)):List Nat→Option (List M)
 | []=>some []
 | k::ks=>match dB s k,sW s ks with
  | some e,some es=>some (e::es)
  | _,_=>none
def nodupB:List Nat→Bool
 | []=>true
 | k::ks=>!ks.any (Nat.beq k)&&nodupB ks
def jL (π:Nat→Nat):List M→List M
 | []=>[]
 | e::es=>e.gg π::jL π es
def M.oq (p:Nat→Bool):M→Bool
 | .app _ _ _=>true
 | .box cs=>AV.only.jJ p cs
 | .arr _ _ _=>true
theorem sX (p:Nat→Bool):∀ l:List PV,AV.only.jJ p (l.map .pv)=true
 | []=>rfl
 | x::l=>by simp[AV.only.jJ,AV.only,sX p l]
theorem M.DK {p:Nat→Bool}:∀ {e:M},e.oq p=true→AV.only.jJ p e.cells=true
 | .app _ _ c,_=>sX p c
 | .box _,h=>h
 | .arr _ _ c,_=>sX p c
def jd (p:Nat→Bool):List M→Bool
 | []=>true
 | e::es=>e.oq p&&jd p es
def nth:List Nat→Nat→Nat
 | [],_=>0
 | k::_,0=>k
 | _::ks,j+1=>nth ks j
def below (m:Nat):Nat→Bool:=fun j=>Nat.blt j m
theorem fi:∀ {es:List M} {i j:Nat} {e:M},U (ez i es) j=some e→i≤j∧es[j - i]?=some e
 | [],_,_,_,h=>by cases h
 | a::es,i,j,e,h=>by
  simp only[ez,U,jU] at h
  split at h
  ·rename_i q;cases h;subst q;simp
  ·rename_i q
   obtain ⟨h1,h2⟩:=fi (es:=es) (i:=i+1) h
   refine ⟨by omega,?_⟩
   rw[show j - i=(j - (i+1))+1 by omega];simpa using h2
theorem mg {es:List M}:∀ {i j:Nat} {e:M},es[j]?=some e→U (ez i es) (i+j)=some e:=by
 induction es with
 | nil=>intro i j e h;simp at h
 | cons a es ih=>
  intro i j e h
  cases j with
  | zero=>simp at h;simp[ez,U,jU,h]
  | succ j=>
   have:=ih (i:=i+1) (j:=j) (by simpa using h)
   simp only[U] at this
   simp only[ez,U,jU]
   rw[if_neg (by omega),show i+(j+1)=i+1+j by omega];exact this
theorem ni:∀ {ks:List Nat},nodupB ks=true→∀ {i j:Nat},i<ks.length→j<ks.length→nth ks i=nth ks j→i=j:=by
 have mem:∀ {ks:List Nat} {j:Nat},j<ks.length→nth ks j∈ks:=by
  intro ks
  induction ks with
  | nil=>intro j h;simp at h
  | cons k ks ih=>
   intro j h
   cases j with
   | zero=>simp[nth]
   | succ j=>simp only[nth];exact List.mem_cons_of_mem _ (ih (by simpa using h))
 intro ks
 induction ks with
 | nil=>intro _ i j h;simp at h
 | cons k ks ih=>
  intro h i j hi hj he
  simp only[nodupB,Bool.and_eq_true,Bool.not_eq_true'] at h
  have hk:∀ j,j<ks.length→nth ks j≠k:=fun j hj q=>by
   have h1:=mem hj
   rw[q] at h1
   have:ks.any (Nat.beq k)=true:=List.any_eq_true.2 ⟨k,h1,by simp⟩
   rw[h.1] at this;cases this
  cases i with
  | zero=>
   cases j with
   | zero=>rfl
   | succ j=>simp only[nth] at he;exact absurd he.symm (hk j (by simpa using hj))
  | succ i=>
   cases j with
   | zero=>simp only[nth] at he;exact absurd he (hk i (by simpa using hi))
   | succ j=>simp only[nth] at he;rw[ih h.2 (by simpa using hi) (by simpa using hj) he]
theorem nJ {s:List (Nat×M)}:∀ {ks:List Nat} {es:List M},sW s ks=some es→es.length=ks.length∧∀ j e,es[j]?=some e→U s (nth ks j)=some e
 | [],_,h=>by simp[sW] at h;simp[h]
 | k::ks,es,h=>by
  simp only[sW] at h
  split at h
  ·rename_i e es' he hes
   cases h
   obtain ⟨h1,h2⟩:=nJ hes
   refine ⟨by simp[h1],fun j e' hj=>?_⟩
   cases j with
   | zero=>simp at hj;subst hj;exact bW he
   | succ j=>exact h2 j e' (by simpa using hj)
  ·cases h
theorem lW (π:Nat→Nat):∀ {es:List M} {j:Nat},(jL π es)[j]?=(es[j]?).map (M.gg π)
 | [],_=>by simp[jL]
 | e::es,0=>by simp[jL]
 | e::es,j+1=>by simp[jL,lW π (es:=es)]
theorem gL (π:Nat→Nat):∀ es:List M,(jL π es).length=es.length
 | []=>rfl
 | _::es=>by simp[jL,gL π es]
theorem rj {p:Nat→Bool}:∀ {es:List M},jd p es=true→∀ {j:Nat} {e:M},es[j]?=some e→AV.only.jJ p e.cells=true
 | [],_,j,e,h=>by simp at h
 | a::es,h,0,e,he=>by simp only[jd,Bool.and_eq_true] at h;simp at he;subst he;exact M.DK h.1
 | a::es,h,j+1,e,he=>by simp only[jd,Bool.and_eq_true] at h;exact rj h.2 (by simpa using he)
def vf (k:Nat) (ks:List Nat):List (Nat×M)→Bool
 | []=>false
 | (j,e)::s=>(!ks.any (Nat.beq j)&&e.mq k)||vf k ks s
def AD (l:List (Nat×AV)) (ds:List (FuncId×List AV)) (s:List (Nat×M)) (ks0:List Nat):List Nat→List M→Bool
 | _::ks,.box _::es=>AD l ds s ks0 ks es
 | k::ks,_::es=>!kF k l&&!ja k ds&&!vf k ks0 s&&AD l ds s ks0 ks es
 | _,_=>true
def vP (E:Env):List Nat→List M→Prop
 | _::ks,.box _::es=>vP E ks es
 | k::ks,_::es=>E.fix k=none∧vP E ks es
 | _,_=>True
theorem lO {k:Nat} {ks:List Nat}:∀ {s:List (Nat×M)},vf k ks s=false→∀ j e,ks.any (Nat.beq j)=false→U s j=some e→AV.ed.fg k e.cells=false
 | [],_,j,e,_,h=>by cases h
 | (i,v)::s,h,j,e,hj,he=>by
  simp only[vf,Bool.or_eq_false_iff] at h
  simp only[U,jU] at he
  split at he
  ·rename_i q
   cases he;subst q
   exact M.w9 (by simpa[hj] using h.1)
  ·exact lO h.2 j e hj he
theorem tB {E:Env} {l:List (Nat×AV)} {ds:List (FuncId×List AV)} {s:List (Nat×M)} {ks0:List Nat}:∀ {ks:List Nat} {es:List M},AD l ds s ks0 ks es=true→vP E ks es→∀ {j:Nat} {e:M},
  j<ks.length→es[j]?=some e→(∃ cs,e=.box cs)∨(kF (nth ks j) l=false∧ja (nth ks j) ds=false∧vf (nth ks j) ks0 s=false∧E.fix (nth ks j)=none)
 | [],_,_,_,j,e,hj,_=>by simp at hj
 | _::_,[],_,_,j,e,_,he=>by simp at he
 | k::ks,.box cs::es,h,hf,0,e,_,he=>by simp at he;exact .inl ⟨cs,he.symm⟩
 | k::ks,.box cs::es,h,hf,j+1,e,hj,he=>tB (ks:=ks) (es:=es) h hf (by simpa using hj) (by simpa using he)
 | k::ks,.arr _ _ _::es,h,hf,0,e,_,he=>by
  simp only[AD,Bool.and_eq_true,Bool.not_eq_true'] at h
  exact .inr ⟨h.1.1.1,h.1.1.2,h.1.2,hf.1⟩
 | k::ks,.arr _ _ _::es,h,hf,j+1,e,hj,he=>by
  simp only[AD,Bool.and_eq_true] at h
  exact tB (ks:=ks) (es:=es) h.2 hf.2 (by simpa using hj) (by simpa using he)
 | k::ks,.app _ _ _::es,h,hf,0,e,_,he=>by
  simp only[AD,Bool.and_eq_true,Bool.not_eq_true'] at h
  exact .inr ⟨h.1.1.1,h.1.1.2,h.1.2,hf.1⟩
 | k::ks,.app _ _ _::es,h,hf,j+1,e,hj,he=>by
  simp only[AD,Bool.and_eq_true] at h
  exact tB (ks:=ks) (es:=es) h.2 hf.2 (by simpa using hj) (by simpa using he)
theorem xe {s:List (Nat×M)}:∀ {ks:List Nat} {es:List M},es.length=ks.length→nodupB ks=true→∀ k,
  U (kR ks es++s) k=match (List.range ks.length).find? (fun j=>nth ks j==k) with|some j=>es[j]?|none=>U s k:=by
 intro ks
 induction ks with
 | nil=>intro es _ _ k;cases es<;>simp[kR]
 | cons a ks ih=>
  intro es hl hn k
  cases es with
  | nil=>simp at hl
  | cons e es=>
   simp only[nodupB,Bool.and_eq_true] at hn
   have hr:List.range (a::ks).length=0::(List.range ks.length).map (·+1):=by
    rw[List.length_cons,List.range_succ_eq_map]
   rw[hr]
   simp only[List.find?_cons,nth]
   by_cases q:a=k
   ·subst q;simp[kR,U,jU]
   ·have q':(a==k)=false:=by simpa using q
    have:=ih (es:=es) (by simpa using hl) hn.2 k
    simp only[U] at this
    simp only[q',kR,List.cons_append,U,jU]
    rw[if_neg (fun h=>q h.symm),this]
    rw[List.find?_map]
    have:((fun j=>nth (a::ks) j==k) ∘ (·+1))=fun j=>nth ks j==k:=by funext j;simp[nth]
    rw[this]
    cases (List.range ks.length).find? (fun j=>nth ks j==k)<;>simp
def pL {X:Type} (V:X→AV) (C:X→List M) (G:X→Prop) (H:AV→Prop):n7→Z→Prop:=
 fun ae σ=>(∃ x,G x∧ae=.ret (V x)∧σ=U (ez 0 (C x)))∨(∃ v,H v∧ae=.panic v∧σ=U [])
theorem xf {ks:List Nat} {k:Nat} (h:(List.range ks.length).any (fun i=>nth ks i==k)=false):ks.any (Nat.beq k)=false:=by
 rw[List.any_eq_false] at h ⊢
 intro x hx q
 obtain ⟨i,hi,rfl⟩:=List.getElem_of_mem hx
 have key:∀ (ks:List Nat) (i:Nat) (h:i<ks.length),nth ks i=ks[i]:=by
  intro ks
  induction ks with
  | nil=>intro i h;simp at h
  | cons a ks ih=>
   intro i h
   cases i with
   | zero=>rfl
   | succ i=>simp only[nth];exact ih i (by simpa using h)
 refine h i (by simpa using hi) ?_
 rw[key ks i hi]
 have:=Nat.eq_of_beq_eq_true q
 simp[this]
section
variable {P:Program} {E:Env} {n:Nat} {ops:Array Oper} {Q:dS} {rest:List Oper} {l:List (Nat×AV)} {ds:List (FuncId×List AV)} {s:List (Nat×M)}
structure kS (E:Env) (ds:List (FuncId×List AV)) (l:List (Nat×AV)) (s:List (Nat×M)) (ks:List Nat) (f:Operand) (args:List Operand) (fid:FuncId) (argsC:List AV) (es:List M) (first cap vs:List AV) (l':List (Nat×AV):=l):Prop where
 f:bT l f=some (.fn fid first cap)
 a:sh l args=some vs
 e:first++vs++cap=AV.gg.k7 (nth ks) argsC
 gs:sW s ks=some (jL (nth ks) es)
 nd:nodupB ks=true
 bx:AD l' ds s ks ks es=true
 fx:vP E ks es
theorem vg {o:Oper} {X:Type} {V:X→AV} {C:X→List M} {G:X→Prop} {H:AV→Prop} {f:Operand} {args:List Operand} {ts:Array TypeId} {fid:FuncId} {argsC first cap vs:List AV} {es:List M}
  {next:ew→Z→Prop} {l':List (Nat×AV)} (hwk:(Y l ds).le (Y l' ds)) (ks:List Nat) (hen:Enters P fid) (ho:o.op=.call ⟨.value f,args.toArray,ts⟩) (hC:SC P fid argsC (U (ez 0 es)) (pL V C G H)) (hk:kS E ds l s ks f args fid argsC es first cap vs l')
  (hd:∀ d,o.dst=some d→d<n) (hx:∀ x,G x→(C x).length=ks.length∧jd (below ks.length) (C x)=true∧(V x).only (below ks.length)=true)
  (hret:∀ x,G x→next ((Y l' ds).hY o.dst ((V x).gg (nth ks))) (U (kR ks (jL (nth ks) (C x))++s)))
  (hpan:∀ v,H v→v.only (fun _=>false)=true∧Q (.panic v) (Y l' ds) (after (U s) (nth ks) (List.range ks.length) [] (U []))):Step P E n Q o (Y l ds) (U s) next:=by
 obtain ⟨hl,hat⟩:=nJ hk.gs
 rw[gL] at hl
 have hcon:∀ j,(List.range ks.length).contains j=below ks.length j:=fun j=>by
  have h1:(List.range ks.length).contains j=decide (j<ks.length):=by
   by_cases q:j<ks.length<;>simp[q]
  rw[h1];simp only[below]
  by_cases q:j<ks.length
  ·simp[q,lV.2 q]
  ·have:Nat.blt j ks.length=false:=by
    cases h:Nat.blt j ks.length with
    | false=>rfl
    | true=>exact absurd (lV.1 h) q
   simp[q,this]
 have hconf:(List.range ks.length).contains=below ks.length:=funext hcon
 have hltr:∀ j,below ks.length j=true→j<ks.length:=fun j h=>lV.1 h
 have hsome:∀ j,(U (ez 0 es) j).isSome=true→j<ks.length:=fun j hj=>by
  cases q:U (ez 0 es) j with
  | none=>rw[q] at hj;cases hj
  | some e=>
   obtain ⟨_,h2⟩:=fi q
   have:=(List.getElem?_eq_some_iff.1 h2).1
   simp at this;omega
 refine u6 hwk (nth ks) (List.range ks.length) hen ho (aE hk.f) (by rw[kQ hk.a];exact hk.e) hC (fun j hj=>by simpa using hsome j hj) (fun j e hj=>?_)
  (fun j j' hj hj' he=>ni hk.nd (hsome j hj) (hsome j' hj') he) hd (fun v σc hr=>?_) (fun v σc hr=>?_)
 ·obtain ⟨_,h2⟩:=fi hj
  exact hat j _ (by rw[lW,show j=j - 0 by omega,h2];rfl)
 ·rcases hr with ⟨x,hg,he,rfl⟩|⟨_,_,he,_⟩
  ·cases he
   obtain ⟨h1,h2,h3⟩:=hx x hg
   refine ⟨List.range ks.length,{ DH:=fun j e hj=>?_,val:=by rw[hconf];exact h3,inj:=fun j j' hj hj' he=>ni hk.nd (by simpa using hj) (by simpa using hj') he,same:=fun j hj=>?_ },?_⟩
   ·obtain ⟨_,h4⟩:=fi hj
    have h5:=(List.getElem?_eq_some_iff.1 h4).1
    exact ⟨by simp;omega,by rw[hconf];exact rj h2 h4⟩
   ·have hj':j<es.length:=by simp at hj;omega
    rcases tB hk.bx hk.fx (by simpa using hj) (List.getElem?_eq_getElem hj') with ⟨cs,hcs⟩|⟨q1,q2,q3,q4⟩
    ·exact .inl ⟨cs,by have:=mg (i:=0) (List.getElem?_eq_getElem hj');rw[hcs] at this;simpa using this⟩
    ·exact .inr ⟨fR q1 q2,fun k e hkl he=>lO q3 k e (xf hkl) he,q4⟩
   ·have:after (U s) (nth ks) (List.range ks.length) (List.range ks.length) (U (ez 0 (C x)))=U (kR ks (jL (nth ks) (C x))++s):=by
     funext k
     rw[xe (by rw[gL,h1]) hk.nd]
     simp only[after]
     cases hf:(List.range ks.length).find? (fun j=>nth ks j==k) with
     | some j=>
      have hj:=List.mem_of_find?_eq_some hf
      simp at hj
      simp only[lW]
      have:j<(C x).length:=by omega
      rw[List.getElem?_eq_getElem this]
      have h6:=mg (i:=0) (List.getElem?_eq_getElem this)
      simp at h6
      rw[h6]
     | none=>
      have:(List.range ks.length).any (fun j=>nth ks j==k)=false:=by
       rw[List.any_eq_false];intro j hj
       have:=List.find?_eq_none.1 hf j hj
       simpa using this
      simp[this]
    rw[this];exact hret x hg
  ·cases he
 ·rcases hr with ⟨_,_,he,_⟩|⟨v',hh,he,rfl⟩
  ·cases he
  ·cases he
   obtain ⟨h1,h2⟩:=hpan v hh
   refine ⟨[],{ DH:=fun j e hj=>(by cases hj),val:=?_,inj:=fun j _ hj=>(by simp at hj),same:=fun j hj=>(by simp at hj) },?_⟩
   ·have:([]:List Nat).contains=fun _=>false:=by funext k;simp
    rw[this];exact h1
   ·rw[o5 h1];exact h2
theorem Be {o:Oper} {X:Type} {V:X→AV} {C:X→List M} {G:X→Prop} {H:AV→Prop} {f:Operand} {args:List Operand} {ts:Array TypeId} {fid:FuncId} {argsC first cap vs:List AV} {es:List M}
  {next:ew→Z→Prop} (ks:List Nat) (hen:Enters P fid) (ho:o.op=.call ⟨.value f,args.toArray,ts⟩) (hC:SC P fid argsC (U (ez 0 es)) (pL V C G H)) (hk:kS E ds l s ks f args fid argsC es first cap vs)
  (hd:∀ d,o.dst=some d→d<n) (hx:∀ x,G x→(C x).length=ks.length∧jd (below ks.length) (C x)=true∧(V x).only (below ks.length)=true)
  (hret:∀ x,G x→next ((Y l ds).hY o.dst ((V x).gg (nth ks))) (U (kR ks (jL (nth ks) (C x))++s)))
  (hpan:∀ v,H v→v.only (fun _=>false)=true∧Q (.panic v) (Y l ds) (after (U s) (nth ks) (List.range ks.length) [] (U []))):Step P E n Q o (Y l ds) (U s) next:=
 vg ⟨fun _=>.inl rfl,rfl⟩ ks hen ho hC hk hd hx hret hpan
end
section
variable {P:Program} {E:Env} {n:Nat} {ops:Array Oper} {Q:dS} {rest:List Oper} {l:List (Nat×AV)} {ds:List (FuncId×List AV)} {s:List (Nat×M)}
 {ty:TypeId} {pos:String} {af:Array Edge}
theorem lP {d n:Nat} (h:Nat.blt d n=true):∀ x,some d=some x→x<n:=fun x hx=>by cases hx;exact lV.1 h
theorem aK {d:Nat} {t:TypeId} {z:List Value} [hz:kf P t z] {zs:List AV} (nm:Nat) (hE:E.fix nm=none)
  (h:z.map (fun v=>AV.pv (.sc v))=zs∧kF nm l=false∧ja nm ds=false∧mX nm s=false)
  (hd:Nat.blt d n=true) (hn:SL P E n ops Q rest (Y ((d,.ptr nm 0)::l) ds) (U ((nm,.box zs)::s))):SL P E n ops Q (⟨some d,.alloc t,ty,pos,af,none⟩::rest) (Y l ds) (U s):=
 iA rfl (w7 (x8 nm hz.h) (fR h.2.1 h.2.2.1) (jb h.2.2.2) hE (lP hd) (by rw[h.1];exact hn))
def yi:List AV→Nat→List AV→List AV
 | cs,0,v=>GO cs v
 | [],_+1,_=>[]
 | c::cs,k+1,v=>c::yi cs k v
where
 GO:List AV→List AV→List AV
  | cs,[]=>cs
  | [],_::_=>[]
  | _::cs,v::vs=>v::GO cs vs
theorem B5:∀ {cs v:List AV},v.length≤cs.length→yi.GO cs v=v++cs.drop v.length
 | cs,[],_=>by simp[yi.GO]
 | [],_::_,h=>by simp at h
 | c::cs,v::vs,h=>by simp[yi.GO,B5 (cs:=cs) (v:=vs) (by simpa using h)]
theorem AE:∀ {cs:List AV} {off:Nat} {v:List AV},off+v.length≤cs.length→yi cs off v=cs.take off++v++cs.drop (off+v.length)
 | cs,0,v,h=>by simp[yi,B5 (cs:=cs) (v:=v) (by simpa using h)]
 | [],k+1,v,h=>by simp at h
 | c::cs,k+1,v,h=>by
  simp only[yi]
  rw[AE (cs:=cs) (off:=k) (v:=v) (by simp at h;omega)]
  simp[show k+1+v.length=(k+v.length)+1 by omega]
def M.put (off:Nat) (v:List AV):M→M
 | .box cs=>.box (yi cs off v)
 | e=>e
def M.vh:M→Bool
 | .box _=>true
 | _=>false
theorem put_eq {e:M} {off:Nat} {v:List AV} (hb:e.vh=true) (h:off+v.length≤e.cells.length):e.Aw off v=e.put off v:=by
 cases e with
 | box cs=>simp only[M.Aw,M.put];rw[AE (cs:=cs) h]
 | arr el sz cs=>cases hb
 | app el sz cs=>cases hb
theorem tC {e:M} (h:e.vh=true):e.isApp=false:=by cases e<;>first|rfl|cases h
theorem tD {e:M} {p:Prop} (h:e.vh=true) (q:e.BZ=true):p:=by cases e with|box _=>cases q|arr _ _ _=>cases h|app _ _ _=>cases h
theorem B6 {t:TypeId} {x y:Operand} {k off m:Nat} {e:M} {v:AV} {c:List AV} [ht:lG P t m]
  (h:bT l x=some (.ptr k off)∧dB s k=some e∧e.vh=true∧bT l y=some v∧v.fh=some c∧AV.iW c=true∧c.length=m∧Nat.ble (off+c.length) e.cells.length=true)
  (hn:∀ e',e.put off c=e'→SL P E n ops Q rest (Y l ds) (U ((k,e')::s))):SL P E n ops Q (⟨none,.store t x y,ty,pos,af,none⟩::rest) (Y l ds) (U s):=by
 obtain ⟨hx,hk,hea,hy,hc,h1,hm,hl⟩:=h
 have hl':=Nat.le_of_ble_eq_true hl
 refine iA rfl (pH rfl rfl (aE hx) (bW hk) (tC hea) (by rw[aE hy];exact hc) h1 (by rw[hm];exact ht.h) hl' (tD hea) ?_)
 rw[put_eq hea hl'];exact hn _ rfl
theorem GP {d:Nat} {t e:TypeId} {m sz:Nat} {parts:List (Nat×Operand)} {zs:List Value} {pl:List (Nat×Nat)} {pv:List (Nat×AV)} {cells:List PV} [ht:kg P t m e sz zs pl]
  (h:parts.mapM (fun p=>(bT l p.2).map fun v=>(p.1,v))=some pv∧k6 pl (zs.map fun v=>.pv (.sc v)) pv=some (cells.map .pv)) (hd:Nat.blt d n=true)
  (hn:SL P E n ops Q rest (Y ((d,.pv (.sl m cells))::l) ds) (U s)):SL P E n ops Q (⟨some d,.buildSlice t m parts.toArray,ty,pos,af,none⟩::rest) (Y l ds) (U s):=by
 refine iA rfl (DE (sd ht.h ?_) (lP hd) hn)
 have key:∀ (ps:List (Nat×Operand)) (pv:List (Nat×AV)),ps.mapM (fun p=>(bT l p.2).map fun v=>(p.1,v))=some pv→(ps.map fun p=>(p.1,(Y l ds).val p.2))=pv:=by
  intro ps
  induction ps with
  | nil=>intro pv h;simp at h;simp[h]
  | cons p ps ih=>
   intro pv h
   rw[List.mapM_cons] at h
   cases hv:bT l p.2 with
   | none=>simp[hv] at h
   | some v=>
    cases hr:ps.mapM (fun p=>(bT l p.2).map fun v=>(p.1,v)) with
    | none=>simp[hv,hr] at h
    | some r=>
     simp[hv,hr] at h
     subst h
     simp[ih r hr,aE (ds:=ds) hv]
 rw[key parts pv h.1];exact h.2
theorem zU {fn:Func} {X:Type} {V:X→AV} {C:X→List M} {G:X→Prop} {H:AV→Prop} {v:AV} {fr:ew} {σ:Z} (hd:fr.ds=[]) (h:H v):nf P fn (pL V C G H) (.panic v) fr σ:=
 ⟨hd,U [],fun k e hk=>(by cases hk),.inr ⟨v,h,rfl,rfl⟩⟩
theorem yj {es:List M} (h:∀ j e,es[j]?=some e→dB s j=some e):∀ k e,U (ez 0 es) k=some e→U s k=some e:=fun k e hk=>by
 obtain ⟨_,h2⟩:=fi hk
 exact bW (h k e (by simpa using h2))
def tE (s:List (Nat×M)):Nat→List M→Prop
 | _,[]=>True
 | i,e::es=>dB s i=some e∧tE s (i+1) es
theorem tF:∀ {es:List M} {i:Nat},tE s i es→∀ j e,es[j]?=some e→dB s (i+j)=some e
 | [],_,_,j,e,h=>by simp at h
 | a::es,i,h,0,e,he=>by simp at he;subst he;exact h.1
 | a::es,i,h,j+1,e,he=>by
  have:=tF h.2 j e (by simpa using he)
  rw[show i+(j+1)=i+1+j by omega];exact this
theorem mh {fn:Func} {X:Type} {V:X→AV} {C:X→List M} {G:X→Prop} {H:AV→Prop} {vs:List AV} {ae:se} (hae:ae=.ret∨ae=.normal) (x:X) (hr:Bc P (Y l []) (U s) fn.results.toList vs)
  (hg:G x) (hle:(mJ vs).le (V x)) (hm:tE s 0 (C x)):nf P fn (pL V C G H) ae (Y l []) (U s):=by
 have h:(Y l []).ds=[]∧∃ vs v σ',Bc P (Y l []) (U s) fn.results.toList vs∧(mJ vs).le v∧(∀ k e,σ' k=some e→U s k=some e)∧pL V C G H (.ret v) σ':=
  ⟨rfl,vs,V x,U (ez 0 (C x)),hr,hle,yj (fun j e hj=>by have:=tF hm j e hj;simpa using this),.inl ⟨x,hg,rfl,rfl⟩⟩
 rcases hae with rfl|rfl
 ·exact h
 ·exact h
theorem K {t:Nat} {v:AV} (h:jK l t=some v):RV P (Y l ds) (U s) (.tmp t) v:=by rw[← eW h];exact .tmp t
theorem aZ {a k:Nat} {t:TypeId} {cs:List AV} {m:Nat} [ht:lG P t m] [ha:ic P t true] (hk:jK l a=some (.ptr k 0)) (hs:dB s k=some (.box cs)) (hm:cs.length=m) :
  RV P (Y l ds) (U s) (.cell a t) (.agg cs):=.agg (eW hk) (bW hs) (by rw[hm];exact ht.h) ha.h
theorem xg {a k:Nat} {t:TypeId} {c:AV} [ha:ic P t false] (hk:jK l a=some (.ptr k 0)) (hs:dB s k=some (.box [c])):RV P (Y l ds) (U s) (.cell a t) c:=.one (eW hk) (bW hs) ha.h
theorem vi (args:List AV):(⟨fun i=>args[i]?.getD .any,[]⟩:ew)=Y ((List.range args.length).zip args) []:=by
 simp only[Y,ew.mk.injEq,and_true]
 funext i
 have key:∀ (l:List AV) (k i:Nat),kc ((List.range' k l.length).zip l) (k+i)=l[i]?.getD .any:=by
  intro l
  induction l with
  | nil=>intro k i;simp[kc]
  | cons a l ih=>
   intro k i
   simp only[List.length_cons,List.range'_succ,List.zip_cons_cons,kc]
   cases i with
   | zero=>simp
   | succ i=>
    rw[if_neg (by omega),show k+(i+1)=k+1+i by omega,ih];simp
 have:=key args 0 i
 rw[List.range_eq_range'];simpa using this.symm
def kh:List M→Nat→Bool
 | [],_=>true
 | .box _::_,0=>false
 | _::_,0=>true
 | _::es,k+1=>kh es k
theorem DL {f:FuncId} {fn:Func} {c:Code} {args:List AV} {es:List M} {R:n7→Z→Prop} (hf:P.funcs[f]?=some fn) (hb:fn.body=some c) (hn:Nat.ble args.length fn.ntmps=true)
  (h:∀ E:Env,(∀ k,kh es k=true→E.fix k=none)→SW P E fn.ntmps c (nf P fn R) (Y ((List.range args.length).zip args) []) (U (ez 0 es))):SC P f args (U (ez 0 es)) R:=
 B1 hf hb (Nat.le_of_ble_eq_true hn) fun E hE=>by
  rw[vi]
  refine h E fun k hk=>hE k fun cs hcs=>?_
  obtain ⟨_,h2⟩:=fi hcs
  have h3:∀ (es:List M) (k:Nat),kh es k=true→es[k]?≠some (.box cs):=by
   intro es
   induction es with
   | nil=>intro k _;simp
   | cons e es ih=>
    intro k hk
    cases k with
    | zero=>intro q;simp at q;subst q;simp[kh] at hk
    | succ k=>simpa using ih k (by cases e<;>simpa[kh] using hk)
  exact h3 es k hk (by simpa using h2)
end
section
variable {P:Program} {E:Env} {n:Nat} {ops:Array Oper} {Q:dS}
variable (P E n ops Q) in
abbrev DX (x y:Nat):List Nat→List Rec→ew→Z→Prop:=lC P E n ops Q fun recs fr σ=>DW P E n ops Q [x,y] recs fr σ∧DW P E n ops Q [y,x] recs fr σ
theorem Inv.swap {x y:Nat} {listed:Array Bool} {recs:List Rec} {fr:ew} {σ:Z} (h:Inv P E n ops listed [x,y] recs fr σ) (hp:k8 ops [y,x]=true):Inv P E n ops listed [y,x] recs fr σ:=
 {
  size:=h.size
  todo:=fun i hi=>h.todo i (by simp at hi ⊢;exact hi.symm)
  done:=fun i o ho hi=>h.done i o ho (by simp at hi ⊢;exact ⟨hi.2,hi.1⟩)
  gR:=fun r hr=>by
   obtain ⟨h1,h2⟩:=h.gR r hr
   exact ⟨by simp at h1 ⊢;exact ⟨h1.2,h1.1⟩,h2⟩
  vd:=fun i hi=>h.vd i (by simp at hi ⊢;exact hi.symm)
  apart:=h.apart,names:=h.names,wv:=h.wv
  uk:=fun i j hi hiL hj=>h.uk i j hi (by simp at hiL ⊢;exact ⟨hiL.2,hiL.1⟩) (by simp at hj ⊢;exact hj.symm)
  tz:=hp
  down:=h.down,wx:=h.wx,reads:=h.reads,gX:=h.gX,ds:=h.ds,Bd:=h.Bd,qY:=h.qY }
theorem yk {x y:Nat} {listed:Array Bool} {i:Nat} {o:Oper} (ho:ops[i]?=some o) (hr:∀ e,e∈o.after.toList→Region.binds .any e=true→o3 listed e.on=true) :
  ∀ (L:List Nat) (recs:List Rec) (fr:ew) (σ:Z) (g:Gh) (a:Act) (w:World),i∈L++[x,y]→strict ops (L++[x])=true→strict ops (L++[y])=true→Inv P E n ops listed (L++[x,y]) recs fr σ→DX P E n ops Q x y L recs fr σ→
   Rel E g (eo σ (mS listed recs)) w→FR n g (ey fr (mF listed recs)) a→
   (∃ L' recs' fr' σ',strict ops (i::L'++[x])=true∧strict ops (i::L'++[y])=true∧Inv P E n ops listed (i::(L'++[x,y])) recs' fr' σ'∧DX P E n ops Q x y (i::L') recs' fr' σ'∧Rel E g (eo σ' (mS listed recs')) w∧FR n g (ey fr' (mF listed recs')) a)∨
   ((i=x∨i=y)∧∃ recs' fr' σ',Inv P E n ops listed [x,y] recs' fr' σ'∧DX P E n ops Q x y [] recs' fr' σ'∧Rel E g (eo σ' (mS listed recs')) w∧FR n g (ey fr' (mF listed recs')) a)
 | [],recs,fr,σ,g,a,w,hi,_,_,hI,hD,hR,hF=>.inr ⟨by simpa using hi,recs,fr,σ,hI,hD,hR,hF⟩
 | c::L,recs,fr,σ,g,a,w,hi,hs1,hs2,hI,hD,hR,hF=>by
  by_cases q:c=i
  ·subst q;exact .inl ⟨L,recs,fr,σ,hs1,hs2,hI,hD,hR,hF⟩
  ·have hiL:i∈L++[x,y]:=by
    rcases List.mem_cons.1 hi with h|h
    ·exact absurd h.symm q
    ·exact h
   obtain ⟨oc,hoc,hS⟩:=hD
   have hPP:=hI.tz
   simp only[List.cons_append,k8,Bool.and_eq_true] at hPP
   have hpair:oK ops c i=true:=List.all_eq_true.1 hPP.1.2 i hiL
   have hhv:dN oc=false:=by
    cases h:dN oc with
    | false=>rfl
    | true=>
     have h1:mc ops ops.size i c=true:=by
      rcases (kP hoc ho hpair).2.2 h with h0|h0
      ·have:i∈L++[x]∨i∈L++[y]:=by
        simp only[List.mem_append,List.mem_cons,List.not_mem_nil,or_false] at hiL ⊢
        rcases hiL with h|h|h
        ·exact .inl (.inl h)
        ·exact .inl (.inr h)
        ·exact .inr (.inr h)
       rcases this with hm|hm
       ·exact tw hs1 hm hoc ho h h0
       ·exact tw hs2 hm hoc ho h h0
      ·exact h0
     have h2:=nI hI.down _ _ _ o ho hr h1
     rw[(hI.todo c (by simp)).2] at h2;cases h2
   obtain ⟨r,recs',fr',σ',rfl,_,hn,hI',hR',hF'⟩:=walk hI hoc hhv hS hR hF
   exact yk ho hr L _ fr' σ' g a w hiL (iB hs1) (iB hs2) hI' hn hR' hF'
theorem FA {x y:Nat} {ox oy:Oper} (hox:ops[x]?=some ox) (hoy:ops[y]?=some oy) (hhx:dN ox=true) (hhy:dN oy=true) (hpp:k8 ops [y,x]=true)
  (hsm:∀ i o,ops[i]?=some o→∀ e,e∈o.after.toList→Region.binds .any e=true→e.on<i) :
  ∀ (fuel:Nat) (listed:Array Bool) (L:List Nat) (recs:List Rec) (fr:ew) (σ:Z) (g:Gh) (a:Act) (w:World),left ops listed≤fuel→strict ops (L++[x])=true→strict ops (L++[y])=true→Inv P E n ops listed (L++[x,y]) recs fr σ→DX P E n ops Q x y L recs fr σ→
   Rel E g (eo σ (mS listed recs)) w→FR n g (ey fr (mF listed recs)) a→wpAny P .any ops (LQ E n Q) fuel listed a w:=by
 intro fuel
 have never:∀ listed L recs fr σ,Inv P E n ops listed (L++[x,y]) recs fr σ→(∀ i,i<ops.size→o3 listed i=true)→False:=fun listed L recs fr σ hI hall=>by
  have:=hI.todo x (by simp)
  rw[hall x this.1] at this;cases this.2
 induction fuel with
 | zero=>
  intro listed L recs fr σ g a w hfu hs1 hs2 hI hD hR hF
  exfalso
  refine never listed L recs fr σ hI fun i hi=>?_
  have:left ops listed=0:=by omega
  unfold left at this
  rw[List.countP_eq_zero] at this
  simpa using this i (by simpa using hi)
 | succ fuel ih=>
  intro listed L recs fr σ g a w hfu hs1 hs2 hI hD hR hF
  refine ⟨fun hnil=>(never listed L recs fr σ hI (AA hI hsm hnil)).elim,fun i hi=>?_⟩
  obtain ⟨h1,h2,o,ho,hr⟩:=sx hI.size hi
  have hlf:left ops (listed.setIfInBounds i true)≤fuel:=by have:=yg hI.size h1 h2;omega
  have hpend:∀ L recs fr σ g a w,strict ops (L++[x])=true→strict ops (L++[y])=true→(∃ r,r∈kO listed recs∧r.i=i)→Inv P E n ops listed (L++[x,y]) recs fr σ→DX P E n ops Q x y L recs fr σ→Rel E g (eo σ (mS listed recs)) w→FR n g (ey fr (mF listed recs)) a→
    wpOp P ops (LQ E n Q) i (wpAny P .any ops (LQ E n Q) fuel (listed.setIfInBounds i true)) a w:=by
   rintro L recs fr σ g a w hs1 hs2 ⟨r,hrp,hri⟩ hI hD hR hF
   exact yf hI ho hr hrp hri hR hF fun g' a' w' hI' hR' hF'=>ih _ L recs fr σ g' a' w' hlf hs1 hs2 hI' hD hR' hF'
  by_cases hiL:i∈L++[x,y]
  ·rcases yk ho hr L recs fr σ g a w hiL hs1 hs2 hI hD hR hF with ⟨L',recs',fr',σ',hs1',hs2',hI',hD',hR',hF'⟩|⟨hxy,recs',fr',σ',hI',hD',hR',hF'⟩
   ·obtain ⟨oc,hoc,hS⟩:=hD'
    rw[ho] at hoc;cases hoc
    cases hh:dN o with
    | true=>
     exact tA hI' ho hh hr hS hR' hF' fun g2 fr2 σ2 a2 w2 hn hI2 hR2 hF2=>ih _ L' recs' fr2 σ2 g2 a2 w2 hlf (iB hs1') (iB hs2') hI2 hn hR2 hF2
    | false=>
     obtain ⟨r,recs2,fr2,σ2,rfl,hri,hn,hI2,hR2,hF2⟩:=walk hI' ho hh hS hR' hF'
     exact hpend L' _ fr2 σ2 g a w (iB hs1') (iB hs2') ⟨r,dA.2 ⟨by simp,by rw[hri];exact h2⟩,hri⟩ hI2 hn hR2 hF2
   ·have fin:∀ u v ou,ops[u]?=some ou→dN ou=true→i=u→Inv P E n ops listed [u,v] recs' fr' σ'→DW P E n ops Q [u,v] recs' fr' σ'→
      wpOp P ops (LQ E n Q) i (wpAny P .any ops (LQ E n Q) fuel (listed.setIfInBounds i true)) a w:=fun u v ou hou hhu hiu hIu hDu=>by
     subst hiu
     obtain ⟨oc,hoc,hS⟩:=hDu
     rw[ho] at hoc;cases hoc
     rw[ho] at hou;cases hou
     exact tA hIu ho hhu hr hS hR' hF' fun g2 fr2 σ2 a2 w2 hn hI2 hR2 hF2=>yh hsm fuel _ [v] recs' fr2 σ2 g2 a2 w2 hlf rfl hI2 hn hR2 hF2
    rcases hxy with q|q
    ·exact fin x y ox hox hhx q hI' hD'.1
    ·exact fin y x oy hoy hhy q (hI'.swap hpp) hD'.2
  ·obtain ⟨hd1,hd2⟩:=hI.done i o ho hiL
   cases hh:dN o with
   | true=>rw[hd1 hh] at h2;cases h2
   | false=>
    obtain ⟨r,hrr,hri⟩:=hd2 hh
    exact hpend L recs fr σ g a w hs1 hs2 ⟨r,dA.2 ⟨hrr,by rw[hri];exact h2⟩,hri⟩ hI hD hR hF
def GQ (ops:Array Oper) (L:List Nat) (x y:Nat):Bool:=
 (L++[x,y]).all (sv ops)&&(List.range ops.size).all (fun i=>(L++[x,y]).contains i)&&(L++[x,y]).all (fun i=>decide (i<ops.size))&&k8 ops (L++[x,y])&&
  strict ops (L++[x])&&strict ops (L++[y])&&k8 ops [y,x]&&(match ops[x]?,ops[y]? with|some a,some b=>dN a&&dN b|_,_=>false)
theorem o7 {id:Nat} {fr:ew} {σ:Z} (L:List Nat) (x y:Nat) (hm:P.follows .mixedOrders=true) (hchk:GQ ops L x y=true) (h:DX P E n ops Q x y L [] fr σ):SW P E n (.region id ops true) Q fr σ:=by
 intro g a w hR hF
 simp only[GQ,Bool.and_eq_true,List.all_eq_true,decide_eq_true_eq] at hchk
 obtain ⟨⟨⟨⟨⟨⟨⟨hself,hall⟩,hin⟩,hpairs⟩,hs1⟩,hs2⟩,hpp⟩,hhv⟩:=hchk
 have hsm:∀ i o,ops[i]?=some o→∀ e,e∈o.after.toList→Region.binds .any e=true→e.on<i:=fun i o ho e he hb=>by
  have hi:i<ops.size:=by
   rcases Nat.lt_or_ge i ops.size with q|q
   ·exact q
   ·rw[Array.getElem?_eq_none q] at ho;cases ho
  have h1:=hself i (by have:=hall i (List.mem_range.2 hi);simpa using this)
  simp only[sv,ho,Bool.and_eq_true,List.all_eq_true] at h1
  have:=h1.1 e he
  simpa[hb] using this
 have hnone:∀ i,o3 (Array.replicate ops.size false) i=false:=fun i=>by
  simp only[o3,Array.getD_eq_getD_getElem?]
  rcases Nat.lt_or_ge i ops.size with q|q
  ·simp[q]
  ·rw[Array.getElem?_eq_none (by simpa using q)];rfl
 have hmem:∀ i,i<ops.size→i∈L++[x,y]:=fun i hi=>by have:=hall i (List.mem_range.2 hi);simpa using this
 have hI:Inv P E n ops (Array.replicate ops.size false) (L++[x,y]) [] fr σ:=
  Inv.mk (by simp) (fun i hi=>⟨hin i hi,hnone i⟩) (fun i o ho hi=>by
    exfalso
    have hlt:i<ops.size:=by
     rcases Nat.lt_or_ge i ops.size with q|q
     ·exact q
     ·rw[Array.getElem?_eq_none q] at ho;cases ho
    exact hi (hmem i hlt)) (fun r hr=>by cases hr) hself (fun r _ hr=>by cases hr) (fun r _ _ hr=>by cases hr) (fun r _ hr=>by cases hr)
   (fun i j hi hiL hj=>absurd (hmem i hi) hiL) hpairs (fun i o _ h=>by rw[hnone i] at h;cases h) (fun r hr=>by cases hr) (fun r hr=>by cases hr)
   (fun r hr=>by cases hr) (fun r hr=>by cases hr) (fun r hr=>by cases hr) (fun r _ hr=>by cases hr)
 have h1:mF (Array.replicate ops.size false) []=fun _=>false:=rfl
 have h2:mS (Array.replicate ops.size false) []=fun _=>false:=rfl
 have h3:ey fr (fun _=>false)=fr:=by simp[ey]
 have h4:eo σ (fun _=>false)=σ:=by funext k;simp[eo]
 split at hhv
 ·rename_i ox oy hox hoy
  simp only[Bool.and_eq_true] at hhv
  refine wp_region_any hm (FA hox hoy hhv.1 hhv.2 hpp hsm ops.size _ L [] fr σ g a _ ?_ hs1 hs2 hI h ?_ ?_)
  ·exact Nat.le_trans (List.countP_le_length) (by simp)
  ·rw[h2,h4];exact hR.drew
  ·rw[h1,h3];exact hF
 ·cases hhv
end
def vj (ops:Array Oper) (i:Nat) (v:AV) (rd:List (Nat×M)):List Rec→Bool
 | []=>true
 | r::rs=>(match r.nm with|none=>true|some nm=>mc ops ops.size i r.i||(!v.ed nm&&rd.all fun p=>!Nat.beq p.1 nm))&&vj ops i v rd rs
theorem sy {ops:Array Oper} {i:Nat} {v:AV} {rd:List (Nat×M)}:∀ {recs:List Rec},vj ops i v rd recs=true→
  ∀ r,r∈gh ops recs i→∀ nm,r.nm=some nm→v.ed nm=false∧∀ p,p∈rd→p.1≠nm
 | [],_,r,hr=>by simp[gh] at hr
 | a::rs,h,r,hr=>by
  simp only[vj,Bool.and_eq_true] at h
  intro nm hnm
  simp only[gh,List.mem_filter,Bool.not_eq_true'] at hr
  rcases List.mem_cons.1 hr.1 with q|q
  ·subst q
   have h1:=h.1
   rw[hnm] at h1
   simp only[hr.2,Bool.false_or,Bool.and_eq_true,Bool.not_eq_true',List.all_eq_true] at h1
   refine ⟨h1.1,fun p hp e=>?_⟩
   have:=h1.2 p hp
   rw[e] at this
   simp at this
  ·exact sy h.2 r (by simp[gh,q,hr.2]) nm hnm
section
variable {P:Program} {E:Env} {n:Nat} {ops:Array Oper} {Q:dS} {B:List Rec→ew→Z→Prop} {i:Nat} {L:List Nat} {recs:List Rec} {l:List (Nat×AV)} {ds:List (FuncId×List AV)} {s:List (Nat×M)}
 {ty:TypeId} {pos:String} {af:Array Edge}
theorem cX (h:Q .normal (Y l ds) (U s)):DW P E n ops Q [] recs (Y l ds) (U s):=h
theorem GU {d:Nat} {op:Op} {v:AV} {rd:List (Nat×M)} (ho:ops[i]?=some ⟨some d,op,ty,pos,af,none⟩) (h:iC P op l ds s v rd)
  (hc:dN ⟨some d,op,ty,pos,af,none⟩=false∧Nat.blt d n=true∧vj ops i v rd recs=true)
  (hn:lC P E n ops Q B L (⟨i,some d,rd,none⟩::recs) (Y ((d,v)::l) ds) (U s)):lC P E n ops Q B (i::L) recs (Y l ds) (U s):=
 ⟨_,ho,.ev (.inl rfl) hc.1 h.h h.r (lP hc.2.1) (sy hc.2.2) hn⟩
theorem FB {d j g:Nat} {op:Op} {v:AV} {rd:List (Nat×M)} {want:Bool} (ho:ops[i]?=some ⟨some d,op,ty,pos,af,some (j,want)⟩)
  (hj:(ops[j]?).bind (·.dst)=some g∧jK l g=some (Bo want)) (h:iC P op l ds s v rd)
  (hc:dN ⟨some d,op,ty,pos,af,some (j,want)⟩=false∧Nat.blt d n=true∧vj ops i v rd recs=true)
  (hn:lC P E n ops Q B L (⟨i,some d,rd,none⟩::recs) (Y ((d,v)::l) ds) (U s)):lC P E n ops Q B (i::L) recs (Y l ds) (U s):=
 ⟨_,ho,.ev (.inr ⟨j,want,g,rfl,hj.1,eW hj.2⟩) hc.1 h.h h.r (lP hc.2.1) (sy hc.2.2) hn⟩
theorem GV {d j g:Nat} {op:Op} {want b:Bool} (ho:ops[i]?=some ⟨some d,op,ty,pos,af,some (j,want)⟩)
  (hj:(ops[j]?).bind (·.dst)=some g∧jK l g=some (Bo b)∧(b==want)=false) (hc:dN ⟨some d,op,ty,pos,af,some (j,want)⟩=false∧Nat.blt d n=true)
  (hn:lC P E n ops Q B L (⟨i,some d,[],none⟩::recs) (Y ((d,Sc undef)::l) ds) (U s)):lC P E n ops Q B (i::L) recs (Y l ds) (U s):=
 ⟨_,ho,.skip ⟨j,want,g,.bool b,rfl,hj.1,eW hj.2.1,fun q=>by have:=hj.2.2;cases q;simp at this⟩ (lP hc.2) (by rw[hc.1];exact hn)⟩
theorem FC {d j g:Nat} {op:Op} {want b:Bool} (ho:ops[i]?=some ⟨some d,op,ty,pos,af,some (j,want)⟩)
  (hj:(ops[j]?).bind (·.dst)=some g∧jK l g=some (Bo b)∧(b==want)=false) (hc:dN ⟨some d,op,ty,pos,af,some (j,want)⟩=true∧Nat.blt d n=true)
  (hn:lC P E n ops Q B L recs (Y ((d,Sc undef)::l) ds) (U s)):lC P E n ops Q B (i::L) recs (Y l ds) (U s):=
 ⟨_,ho,.skip ⟨j,want,g,.bool b,rfl,hj.1,eW hj.2.1,fun q=>by have:=hj.2.2;cases q;simp at this⟩ (lP hc.2) (by rw[hc.1];exact hn)⟩
theorem o8 {d j g:Nat} {op:Op} {want:Bool} (ho:ops[i]?=some ⟨some d,op,ty,pos,af,some (j,want)⟩)
  (hj:(ops[j]?).bind (·.dst)=some g∧jK l g=some (Sc undef)) (hc:dN ⟨some d,op,ty,pos,af,some (j,want)⟩=false∧Nat.blt d n=true)
  (hn:lC P E n ops Q B L (⟨i,some d,[],none⟩::recs) (Y ((d,Sc undef)::l) ds) (U s)):lC P E n ops Q B (i::L) recs (Y l ds) (U s):=
 ⟨_,ho,.skip ⟨j,want,g,undef,rfl,hj.1,eW hj.2,by simp[undef]⟩ (lP hc.2) (by rw[hc.1];exact hn)⟩
def jW:List Rec→Bool
 | []=>true
 | r::rs=>r.nm.isNone&&jW rs
theorem et:∀ {recs:List Rec},jW recs=true→∀ r,r∈recs→r.nm=none
 | [],_,r,hr=>by cases hr
 | a::rs,h,r,hr=>by
  simp only[jW,Bool.and_eq_true,Option.isNone_iff_eq_none] at h
  rcases List.mem_cons.1 hr with q|q
  ·subst q;exact h.1
  ·exact et h.2 r q
mutual
theorem rS {p q:Nat→Bool} (hpq:∀ k,p k=true→q k=true):∀ {v:AV},v.only p=true→v.only q=true
 | .any,_=>rfl
 | .oc,_=>rfl
 | .pv _,_=>rfl
 | .ptr _ _,h=>hpq _ h
 | .arr _ _,h=>hpq _ h
 | .sp _,_=>rfl
 | .fn f xs ys,h=>by simp only[AV.only,Bool.and_eq_true] at h ⊢;exact ⟨nK hpq h.1,nK hpq h.2⟩
 | .agg cs,h=>by simp only[AV.only] at h ⊢;exact nK hpq h
 | .fX cs,h=>by simp only[AV.only] at h ⊢;exact nK hpq h
 | .lF t v,h=>by simp only[AV.only] at h ⊢;exact rS hpq h
theorem nK {p q:Nat→Bool} (hpq:∀ k,p k=true→q k=true):∀ {v:List AV},AV.only.jJ p v=true→AV.only.jJ q v=true
 | [],_=>rfl
 | x::xs,h=>by simp only[AV.only.jJ,Bool.and_eq_true] at h ⊢;exact ⟨rS hpq h.1,nK hpq h.2⟩
end
def tG (ks:List Nat):List Rec→Bool
 | []=>true
 | r::rs=>(match r.nm with
  | none=>true
  | some k=>!ks.any (Nat.beq k))&&tG ks rs
theorem rk {ks:List Nat}:∀ {recs:List Rec},tG ks recs=true→∀ r,r∈recs→∀ nm,r.nm=some nm→nm ∉ ks
 | a::rs,h,r,hr,nm,hn,hk=>by
  simp only[tG,Bool.and_eq_true] at h
  rcases List.mem_cons.1 hr with q|q
  ·subst q
   rw[hn] at h
   have h1:=h.1
   simp only[Bool.not_eq_true',List.any_eq_false,Bool.not_eq_true] at h1
   have:=h1 nm hk
   simp at this
  ·exact rk h.2 r q nm hn hk
theorem uM:∀ {ks:List Nat} {j:Nat},j<ks.length→nth ks j∈ks
 | _::_,0,_=>by simp[nth]
 | _::ks,j+1,h=>by simp only[nth];exact List.mem_cons_of_mem _ (uM (by simpa using h))
mutual
theorem vk {ks:List Nat} {nm:Nat} (hn:nm ∉ ks):∀ {v:AV},v.only (below ks.length)=true→(v.gg (nth ks)).ed nm=false
 | .any,_=>rfl
 | .oc,_=>rfl
 | .pv _,_=>rfl
 | .ptr j _,h=>by
  simp only[AV.only] at h
  simp only[AV.gg,AV.ed]
  have:=uM (ks:=ks) (lV.1 h)
  simp;intro q;subst q;exact hn this
 | .arr j _,h=>by
  simp only[AV.only] at h
  simp only[AV.gg,AV.ed]
  have:=uM (ks:=ks) (lV.1 h)
  simp;intro q;subst q;exact hn this
 | .sp _,_=>rfl
 | .fn f xs ys,h=>by simp only[AV.only,Bool.and_eq_true] at h;simp only[AV.gg,AV.ed,nD hn h.1,nD hn h.2,Bool.or_self]
 | .agg cs,h=>by simp only[AV.only] at h;simp only[AV.gg,AV.ed,nD hn h]
 | .fX cs,h=>by simp only[AV.only] at h;simp only[AV.gg,AV.ed,nD hn h]
 | .lF t v,h=>by simp only[AV.only] at h;simp only[AV.gg,AV.ed];exact vk hn h
theorem nD {ks:List Nat} {nm:Nat} (hn:nm ∉ ks):∀ {v:List AV},AV.only.jJ (below ks.length) v=true→AV.ed.fg nm (AV.gg.k7 (nth ks) v)=false
 | [],_=>rfl
 | x::xs,h=>by simp only[AV.only.jJ,Bool.and_eq_true] at h;simp only[AV.gg.k7,AV.ed.fg,vk hn h.1,nD hn h.2,Bool.or_self]
end
def la (ops:Array Oper) (i:Nat) (s':List (Nat×M)) (recs:List Rec):Prop:=
 ∀ r,r∈gh ops recs i→∀ p,p∈r.rd→∃ e,dB s' p.1=some e∧e.le p.2
theorem fK {d:Nat} {x:Operand} {v:AV} (ho:ops[i]?=some ⟨some d,.assign x,ty,pos,af,none⟩) (hx:bT l x=some v) (hd:Nat.blt d n=true) (hs:la ops i s recs) (hnm:jW recs=true)
  (hn:lC P E n ops Q B L recs (Y ((d,v)::l) ds) (U s)):lC P E n ops Q B (i::L) recs (Y l ds) (U s):=
 ⟨_,ho,.dN (.inl rfl) rfl (.ev (v:=v) (by rw[← aE (ds:=ds) hx];exact tj x) (lP hd)
  ⟨fun r hr=>⟨fun p hp=>(let ⟨e,h1,h2⟩:=hs r hr p hp;⟨e,bW h1,h2⟩),fun nm q=>by rw[et hnm r (List.mem_filter.1 hr).1] at q;cases q⟩,hn⟩) (fun r _ k hk=>by cases hk)⟩
theorem cf {t:TypeId} {x y:Operand} {k off m:Nat} {e:M} {v:AV} {c:List AV} [ht:lG P t m] (ho:ops[i]?=some ⟨none,.store t x y,ty,pos,af,none⟩)
  (h:bT l x=some (.ptr k off)∧dB s k=some e∧e.vh=true∧bT l y=some v∧v.fh=some c∧AV.iW c=true∧c.length=m∧Nat.ble (off+c.length) e.cells.length=true)
  (hnm:jW recs=true) (hn:∀ e',e.put off c=e'→la ops i ((k,e')::s) recs∧lC P E n ops Q B L recs (Y l ds) (U ((k,e')::s))):lC P E n ops Q B (i::L) recs (Y l ds) (U s):=by
 obtain ⟨hx,hk,hea,hy,hc,h1,hm,hl⟩:=h
 have hl':=Nat.le_of_ble_eq_true hl
 obtain ⟨hst,hn⟩:=hn _ rfl
 refine ⟨_,ho,.dN (.inl rfl) rfl (.store rfl rfl (aE hx) (bW hk) (tC hea) (by rw[aE hy];exact hc) h1 (by rw[hm];exact ht.h) hl' (tD hea) ?_) (fun r hr k' _=>by rw[et hnm r (List.mem_filter.1 hr).1];simp)⟩
 rw[put_eq hea hl']
 exact ⟨fun r hr=>⟨fun p hp=>(let ⟨e,h1,h2⟩:=hst r hr p hp;⟨e,bW h1,h2⟩),fun nm q=>by rw[et hnm r (List.mem_filter.1 hr).1] at q;cases q⟩,hn⟩
theorem AF {d:Nat} {X:Type} {V:X→AV} {C:X→List M} {G:X→Prop} {H:AV→Prop} {f:Operand} {args:List Operand} {ts:Array TypeId} {fid:FuncId} {argsC first cap vs:List AV} {es:List M}
  {gd:Option (Nat×Bool)} (ho:ops[i]?=some ⟨some d,.call ⟨.value f,args.toArray,ts⟩,ty,pos,af,gd⟩) (hw:gC ops ⟨some d,.call ⟨.value f,args.toArray,ts⟩,ty,pos,af,gd⟩ (Y l ds)) (ks:List Nat) (hen:Enters P fid)
  (hC:SC P fid argsC (U (ez 0 es)) (pL V C G H)) (hk:kS E ds l s ks f args fid argsC es first cap vs) (hd:Nat.blt d n=true) (hnm:tG ks recs=true)
  (hx:∀ x,G x→(C x).length=ks.length∧jd (below ks.length) (C x)=true∧(V x).only (below ks.length)=true)
  (hpan:∀ v,H v→v.only (fun _=>false)=true∧∀ fr' σ',fr'.ds=ds→Q (.panic v) fr' σ')
  (hret:∀ x,G x→∀ v' s',(V x).gg (nth ks)=v'→kR ks (jL (nth ks) (C x))++s=s'→la ops i s' recs∧lC P E n ops Q B L recs (Y ((d,v')::l) ds) (U s')) :
  lC P E n ops Q B (i::L) recs (Y l ds) (U s):=by
 obtain ⟨hl,hat⟩:=nJ hk.gs
 rw[gL] at hl
 have hcon:∀ j,(List.range ks.length).contains j=below ks.length j:=fun j=>by
  have h1:(List.range ks.length).contains j=decide (j<ks.length):=by
   by_cases q:j<ks.length<;>simp[q]
  rw[h1];simp only[below]
  by_cases q:j<ks.length
  ·simp[q,lV.2 q]
  ·have:Nat.blt j ks.length=false:=by
    cases h:Nat.blt j ks.length with
    | false=>rfl
    | true=>exact absurd (lV.1 h) q
   simp[q,this]
 have hconf:(List.range ks.length).contains=below ks.length:=funext hcon
 have hsome:∀ j,(U (ez 0 es) j).isSome=true→j<ks.length:=fun j hj=>by
  cases q:U (ez 0 es) j with
  | none=>rw[q] at hj;cases hj
  | some e=>
   obtain ⟨_,h2⟩:=fi q
   have:=(List.getElem?_eq_some_iff.1 h2).1
   simp at this;omega
 have hinj:∀ j j',(List.range ks.length).contains j=true→(List.range ks.length).contains j'=true→nth ks j=nth ks j'→j=j':=fun j j' hj hj' he=>ni hk.nd (by simpa using hj) (by simpa using hj') he
 have hat0:∀ j,(List.range ks.length).contains j=true→∃ e,U (ez 0 es) j=some e:=fun j hj=>by
  have hj':j<es.length:=by simp at hj;omega
  exact ⟨_,by have:=mg (i:=0) (List.getElem?_eq_getElem hj');simpa using this⟩
 have hsame:∀ j,(List.range ks.length).contains j=true→(∃ cs,U (ez 0 es) j=some (.box cs))∨((Y l ds).clear (nth ks j)∧
   (∀ k e,(List.range ks.length).any (fun i=>nth ks i==k)=false→U s k=some e→AV.ed.fg (nth ks j) e.cells=false)∧E.fix (nth ks j)=none):=fun j hj=>by
  have hj':j<es.length:=by simp at hj;omega
  rcases tB hk.bx hk.fx (by simpa using hj) (List.getElem?_eq_getElem hj') with ⟨cs,hcs⟩|⟨q1,q2,q3,q4⟩
  ·exact .inl ⟨cs,by have:=mg (i:=0) (List.getElem?_eq_getElem hj');rw[hcs] at this;simpa using this⟩
  ·exact .inr ⟨fR q1 q2,fun k e hkl he=>lO q3 k e (xf hkl) he,q4⟩
 refine ⟨_,ho,.dN hw rfl (.call (nth ks) (List.range ks.length) hen rfl (aE hk.f) (by rw[kQ hk.a];exact hk.e) hC (fun j hj=>by simpa using hsome j hj) (fun j e hj=>?_)
   (fun j hj=>by obtain ⟨e,he⟩:=hat0 j hj;rw[he];rfl) (fun j j' hj hj' he=>ni hk.nd (hsome j hj) (hsome j' hj') he) (lP hd) (fun v σc hr=>?_) (fun v σc hr=>?_))
  (fun r hr k hk' q=>by
   obtain ⟨j,hj,rfl⟩:=List.mem_map.1 hk'
   exact rk hnm r (List.mem_filter.1 hr).1 _ q (uM (by simpa using hj)))⟩
 ·obtain ⟨_,h2⟩:=fi hj
  exact hat j _ (by rw[lW,show j=j - 0 by omega,h2];rfl)
 ·rcases hr with ⟨x,hg,he,rfl⟩|⟨_,_,he,_⟩
  ·cases he
   obtain ⟨h1,h2,h3⟩:=hx x hg
   obtain ⟨hst,hn⟩:=hret x hg _ _ rfl rfl
   refine ⟨{ DH:=fun j e hj=>?_,val:=by rw[hconf];exact h3,inj:=hinj,same:=hsame },?_⟩
   ·obtain ⟨_,h4⟩:=fi hj
    have h5:=(List.getElem?_eq_some_iff.1 h4).1
    exact ⟨by simp;omega,by rw[hconf];exact rj h2 h4⟩
   ·have:after (U s) (nth ks) (List.range ks.length) (List.range ks.length) (U (ez 0 (C x)))=U (kR ks (jL (nth ks) (C x))++s):=by
     funext k
     rw[xe (by rw[gL,h1]) hk.nd]
     simp only[after]
     cases hf:(List.range ks.length).find? (fun j=>nth ks j==k) with
     | some j=>
      have hj:=List.mem_of_find?_eq_some hf
      simp at hj
      simp only[lW]
      have:j<(C x).length:=by omega
      rw[List.getElem?_eq_getElem this]
      have h6:=mg (i:=0) (List.getElem?_eq_getElem this)
      simp at h6
      rw[h6]
     | none=>
      have:(List.range ks.length).any (fun j=>nth ks j==k)=false:=by
       rw[List.any_eq_false];intro j hj
       have:=List.find?_eq_none.1 hf j hj
       simpa using this
      simp[this]
    rw[this]
    refine ⟨fun r hr=>⟨fun p hp=>(let ⟨e,h1,h2⟩:=hst r hr p hp;⟨e,bW h1,h2⟩),fun nm q=>?_⟩,hn⟩
    have hnk:=rk hnm r (List.mem_filter.1 hr).1 nm q
    refine ⟨fun d' hd'=>?_,fun k hk' e he=>?_⟩
    ·cases hd'
     simp only[ew.hY,ew.put,if_true]
     exact vk hnk h3
    ·obtain ⟨j,hj,rfl⟩:=List.mem_map.1 hk'
     have hj':j<ks.length:=by simpa using hj
     have hcl:j<(C x).length:=by omega
     rw[xe (by rw[gL,h1]) hk.nd] at he
     have hfd:(List.range ks.length).find? (fun j'=>nth ks j'==nth ks j)=some j:=by
      cases hf:(List.range ks.length).find? (fun j'=>nth ks j'==nth ks j) with
      | none=>have:=List.find?_eq_none.1 hf j (by simpa using hj');simp at this
      | some j2=>
       have h7:=List.find?_some hf
       have h8:=List.mem_of_find?_eq_some hf
       simp at h7 h8
       rw[ni hk.nd h8 hj' h7]
     rw[hfd] at he
     simp only[lW,List.getElem?_eq_getElem hcl,Option.map_some] at he
     injection he with he
     subst he
     have:=rj h2 (List.getElem?_eq_getElem hcl)
     generalize (C x)[j]=ce at this
     cases ce with
     | box cs=>exact nD hnk this
     | arr _ _ cs=>exact mb _ _
     | app _ _ cs=>exact mb _ _
  ·cases he
 ·rcases hr with ⟨_,_,he,_⟩|⟨v',hh,he,rfl⟩
  ·cases he
  ·cases he
   obtain ⟨h1,h2⟩:=hpan v hh
   refine ⟨{ DH:=fun j e hj=>(by cases hj),val:=?_,inj:=hinj,same:=hsame },fun fr' σ' hds _ _=>?_⟩
   ·exact rS (fun k hk=>by cases hk) h1
   ·rw[o5 h1];exact h2 fr' σ' hds
end
structure oj where
 t:TypeId
 cells:List PV
def oj.av (p:oj):AV:=.lF p.t (.agg (p.cells.map .pv))
theorem oj.only (p:oj) (q:Nat→Bool):p.av.only q=true:=by simp[oj.av,AV.only,sX]
inductive D (α:Type) where
 | stuck
 | kT (p:oj)
 | ok (a:α)
namespace D
variable {α β:Type}
def bind (x:D α) (k:α→D β):D β:=
 match x with
 | .stuck=>.stuck
 | .kT v=>.kT v
 | .ok a=>k a
def br (b:Bool) (x y:D α):D α:=match b with|true=>x|false=>y
def gd (p:Prop) [Decidable p] (x:D α):D α:=if p then x else .stuck
def el (l:List β) (i:Int) (k:β→D α):D α:=if 0≤i then (match l[i.toNat]? with|some x=>k x|none=>.stuck) else .stuck
def some? (x:Option β) (k:β→D α):D α:=match x with|some x=>k x|none=>.stuck
def jn {X:Type} (j:X→D α) (p:(X→D α)→D α):D α:=p j
def iter {X:Type} (body:(X→D α)→X→D α):Nat→X→D α
 | 0,_=>.stuck
 | n+1,x=>body (iter body n) x
theorem GW {b:Bool} {x y r:D α} (hb:b=true) (h:br b x y=r):x=r:=by subst hb;exact h
theorem GX {b:Bool} {x y r:D α} (hb:b=false) (h:br b x y=r):y=r:=by subst hb;exact h
theorem FD {p:Prop} [Decidable p] {x r:D α} (hr:r≠.stuck) (h:gd p x=r):p∧x=r:=by
 unfold gd at h
 split at h
 ·exact ⟨‹p›,h⟩
 ·exact absurd h.symm hr
theorem HB {l:List β} {i:Int} {k:β→D α} {r:D α} (hr:r≠.stuck) (h:el l i k=r):∃ x,0≤i∧i<l.length∧l[i.toNat]?=some x∧k x=r:=by
 unfold el at h
 split at h
 ·rename_i h0
  split at h
  ·rename_i x hx
   have:=(List.getElem?_eq_some_iff.1 hx).1
   exact ⟨x,h0,by omega,hx,h⟩
  ·exact absurd h.symm hr
 ·exact absurd h.symm hr
theorem FE {x:Option β} {k:β→D α} {r:D α} (hr:r≠.stuck) (h:some? x k=r):∃ y,x=some y∧k y=r:=by
 cases x with
 | none=>exact absurd h.symm hr
 | some y=>exact ⟨y,rfl,h⟩
end D
open D
def CT (P:Program) (f:FuncId) (args:List AV) (es:List M) {X:Type} (res:D X) (V:X→AV) (C:X→List M):Prop:=
 ∀ r,res=r→r≠.stuck→SC P f args (U (ez 0 es)) (pL V C (fun x=>r=.ok x) (fun v=>∃ p,r=.kT p∧v=p.av))
section
variable {P:Program} {E:Env} {n:Nat} {ops:Array Oper} {Q:dS} {rest:List Oper} {l:List (Nat×AV)} {ds:List (FuncId×List AV)} {s:List (Nat×M)}
 {ty:TypeId} {pos:String} {af:Array Edge}
theorem DM {f:FuncId} {fn:Func} {c:Code} {args:List AV} {es:List M} {X:Type} {res:D X} {V:X→AV} {C:X→List M} (hf:P.funcs[f]?=some fn) (hb:fn.body=some c) (hn:Nat.ble args.length fn.ntmps=true)
  (h:∀ r,res=r→r≠.stuck→∀ E:Env,(∀ k,kh es k=true→E.fix k=none)→
   SW P E fn.ntmps c (nf P fn (pL V C (fun x=>r=.ok x) (fun v=>∃ p,r=.kT p∧v=p.av))) (Y ((List.range args.length).zip args) []) (U (ez 0 es))):CT P f args es res V C:=
 fun r hr hs=>DL hf hb hn (h r hr hs)
theorem dm {c:Operand} {x y:Code} {b:Bool} (hb:bT l c=some (Bo b)) (ht:b=true→SW P E n x Q (Y l ds) (U s)) (hf:b=false→SW P E n y Q (Y l ds) (U s)):SW P E n (.cond c x y) Q (Y l ds) (U s):=
 DF (aE hb) ht hf
def si (l G:List (Nat×AV)):List (Nat×AV)→Prop
 | []=>True
 | (i,_)::F=>jK l i=jK G i∧si l G F
def sY (s G:List (Nat×M)):List (Nat×M)→Prop
 | []=>True
 | (i,_)::F=>dB s i=dB G i∧sY s G F
theorem wy {l:List (Nat×AV)} {i:Nat}:kc l i=(jK l i).getD .any:=by
 induction l with
 | nil=>rfl
 | cons a l ih=>
  obtain ⟨j,v⟩:=a
  simp only[kc,jK]
  by_cases q:i=j
  ·subst q;simp
  ·have:Nat.beq i j=false:=by
    cases h:Nat.beq i j with
    | false=>rfl
    | true=>exact absurd (Nat.eq_of_beq_eq_true h) q
   simp[this,q,ih]
theorem pM {l:List (Nat×M)} {i:Nat}:jU l i=dB l i:=by
 induction l with
 | nil=>rfl
 | cons a l ih=>
  obtain ⟨j,v⟩:=a
  simp only[jU,dB]
  by_cases q:i=j
  ·subst q;simp
  ·have:Nat.beq i j=false:=by
    cases h:Nat.beq i j with
    | false=>rfl
    | true=>exact absurd (Nat.eq_of_beq_eq_true h) q
   simp[this,q,ih]
theorem nL {l G:List (Nat×AV)}:∀ {F:List (Nat×AV)},si l G F→∀ p∈F,kc l p.1=kc G p.1
 | [],_,p,hp=>by cases hp
 | (i,v)::F,h,p,hp=>by
  rcases List.mem_cons.1 hp with q|q
  ·subst q;rw[wy,wy,h.1]
  ·exact nL h.2 p q
theorem pN {s G:List (Nat×M)}:∀ {F:List (Nat×M)},sY s G F→∀ p∈F,jU s p.1=jU G p.1
 | [],_,p,hp=>by cases hp
 | (i,v)::F,h,p,hp=>by
  rcases List.mem_cons.1 hp with q|q
  ·subst q;rw[pM,pM,h.1]
  ·exact pN h.2 p q
theorem AG {c:Code} (l':List (Nat×AV)) (s':List (Nat×M)) (h1:si l l' l') (h2:sY s s' s') (h:SW P E n c Q (Y l' ds) (U s')):SW P E n c Q (Y l ds) (U s):=
 Av (xa (nL h1)) (xb (pN h2)) h
theorem DN {X:Type} {x y:Code} (F:X→List (Nat×AV)) (H:X→List (Nat×M)) (G:X→Prop)
  (hy:∀ v,G v→SW P E n y Q (Y (F v) ds) (U (H v)))
  (hx:∀ K:ew→Z→Prop,(∀ v l s,G v→si l (F v) (F v)→sY s (H v) (H v)→K (Y l ds) (U s))→SW P E n x (uh K Q) (Y l ds) (U s)):SW P E n (.seq x y) Q (Y l ds) (U s):=
 BY (hx _ fun v _ _ hg h1 h2=>AG (F v) (H v) h1 h2 (hy v hg))
theorem Bf {X R:Type} {c:Code} (F:X→List (Nat×AV)) (H:X→List (Nat×M)) (body:(X→D R)→X→D R) (r:D R) (m:Nat) (v:X) (hr:r≠.stuck) (h0:iter body m v=r)
  (h1:si l (F v) (F v)) (h2:sY s (H v) (H v))
  (hx:∀ (next:X→D R) (v:X) (K:ew→Z→Prop),(∀ v l s,next v=r→si l (F v) (F v)→sY s (H v) (H v)→K (Y l ds) (U s))→body next v=r→SW P E n c (uh K Q) (Y (F v) ds) (U (H v))) :
  SW P E n (.loop c) Q (Y l ds) (U s):=by
 refine AG (F v) (H v) h1 h2 (DG (fun k fr σ=>∃ v,iter body k v=r∧fr.le (Y (F v) ds)∧∀ j e,U (H v) j=some e→σ j=some e) m ⟨v,h0,⟨fun _=>.inl rfl,rfl⟩,fun _ _ h=>h⟩ ?_)
 rintro k fr σ ⟨v,hv,hle,hsub⟩
 cases k with
 | zero=>exact absurd hv.symm hr
 | succ k=>
  refine Av hle hsub (hx (iter body k) v _ ?_ hv)
  intro v' l' s' hv' hf hs
  exact ⟨k,Nat.lt_succ_self k,v',hv',xa (nL hf),xb (pN hs)⟩
end
end Go.Abs
end
section
namespace Go.Abs
open D
theorem wz {α:Type} {f:α→List PV} {sz:Nat} (hf:∀ x,(f x).length=sz):∀ {l:List α} {i:Nat} {x:α},l[i]?=some x→
  (l.flatMap f).drop (i*sz)=f x++(l.flatMap f).drop ((i+1)*sz):=by
 intro l
 induction l with
 | nil=>intro i x h;simp at h
 | cons a l ih=>
  intro i x h
  cases i with
  | zero=>
   simp at h;subst h
   rw[List.flatMap_cons,Nat.zero_mul,List.drop_zero,Nat.zero_add,Nat.one_mul,← hf a,List.drop_left]
  | succ i=>
   have h1:=ih (i:=i) (x:=x) (by simpa using h)
   have h2:∀ j,(f a++l.flatMap f).drop ((j+1)*sz)=(l.flatMap f).drop (j*sz):=fun j=>by
    rw[Nat.succ_mul,Nat.add_comm,← hf a,← List.drop_drop,List.drop_left]
   rw[List.flatMap_cons,h2,h2,h1]
theorem gN {α:Type} {f:α→List PV} {sz:Nat} (hf:∀ x,(f x).length=sz):∀ (l:List α),(l.flatMap f).length=l.length*sz
 | []=>by simp
 | a::l=>by simp[gN hf l,hf a,Nat.succ_mul,Nat.add_comm]
section
variable {P:Program} {l:List (Nat×AV)} {ds:List (FuncId×List AV)} {s:List (Nat×M)}
theorem iC.two {op:Op} {v:AV} {k j:Nat} {e e':M} (hk:dB s k=some e) (hj:dB s j=some e') (h:fJ P op (Y l ds) [(k,e),(j,e')] v):iC P op l ds s v [(k,e),(j,e')]:=
 ⟨h,fun p hp=>by
  simp at hp
  rcases hp with q|q
  ·subst q;exact ⟨_,bW hk,M.le_refl _⟩
  ·subst q;exact ⟨_,bW hj,M.le_refl _⟩⟩
theorem fJ.ya {op:Op} {fr:ew} {rd:List (Nat×M)} {v v':AV} (h:fJ P op fr rd v) (hle:v.le v'):fJ P op fr rd v':=fun o ho g ev w hG hv hr=>
 let ⟨c,h1,h2⟩:=h o ho g ev w hG hv hr;⟨c,h1,hle g c h2⟩
theorem iC.ya {op:Op} {v v':AV} {rd:List (Nat×M)} (h:iC P op l ds s v rd) (hle:v.le v'):iC P op l ds s v' rd:=⟨h.h.ya hle,h.r⟩
theorem AV.GY:(Sc (.pointer none)).le (.pv (.pt none)):=fun g c h=>by rw[h.dz];exact .pv .BO
theorem FF {x:Operand} {k m sz:Nat} {el:TypeId} {cells:List PV} (hx:bT l x=some (.arr k m)) (hk:dB s k=some (.app el sz cells)) (hz:Nat.blt 0 sz=true) (hn:cells.length=m*sz) :
  iC P (.move x) l ds s (.pv (.sl m cells)) [(k,.app el sz cells)]:=.on hk (wU (aE hx) (by simpa[Nat.blt_eq] using hz) hn)
theorem B7 {t:TypeId} {x:Operand} {k j off m sz:Nat} {el:TypeId} {cells:List PV} {e:M} [ha:ic P t false] (hx:bT l x=some (.ptr k off)) (hk:dB s k=some e)
  (hv:e.cells[off]?=some (.arr j m)) (hj:dB s j=some (.app el sz cells)) (hz:Nat.blt 0 sz=true) (hn:cells.length=m*sz) :
  iC P (.load t x) l ds s (.pv (.sl m cells)) [(k,e),(j,.app el sz cells)]:=.two hk hj (wV ha.h (aE hx) hv (by simpa[Nat.blt_eq] using hz) hn)
theorem ia {α:Type} {f:α→List PV} {Cs:List α→List PV} {t e:TypeId} {sz m:Nat} {x ix:Operand} {k:IntKind} {i:Int} {xs:List α} {a:α} [ht:AB P t e sz]
  (lH:∀ l,Cs l=l.flatMap f) (hf:∀ x,(f x).length=sz) (h0:0≤i) (h1:i<xs.length) (ha:xs[i.toNat]?=some a)
  (hx:bT l x=some (.pv (.sl m (Cs xs)))) (hm:m=xs.length) (hi:bT l ix=some (Sc (.int k i))) :
  iC P (.indexAddr t x ix) l ds s (.sp (f a++(xs.flatMap f).drop ((i.toNat+1)*sz))) []:=by
 subst hm
 rw[lH] at hx
 refine DJ hx hi h0 h1 ?_ (by rw[wz hf ha])
 rw[gN hf];exact Nat.mul_le_mul_right _ (by omega)
theorem sZ {parts:List (Nat×Operand)} {pv:List (Nat×AV)} (h:parts.mapM (fun p=>(bT l p.2).map fun v=>(p.1,v))=some pv):(parts.map fun p=>(p.1,(Y l ds).val p.2))=pv:=by
 have key:∀ (ps:List (Nat×Operand)) (pv:List (Nat×AV)),ps.mapM (fun p=>(bT l p.2).map fun v=>(p.1,v))=some pv→(ps.map fun p=>(p.1,(Y l ds).val p.2))=pv:=by
  intro ps
  induction ps with
  | nil=>intro pv h;simp at h;simp[h]
  | cons p ps ih=>
   intro pv h
   rw[List.mapM_cons] at h
   cases hv:bT l p.2 with
   | none=>simp[hv] at h
   | some v=>
    cases hr:ps.mapM (fun p=>(bT l p.2).map fun v=>(p.1,v)) with
    | none=>simp[hv,hr] at h
    | some r=>
     simp[hv,hr] at h
     subst h
     simp[ih r hr,aE (ds:=ds) hv]
 exact key parts pv h
def nj (k:Nat):List (Nat×M)→List (Nat×M)
 | []=>[]
 | (j,e)::s=>match Nat.beq j k with
  | true=>nj k s
  | false=>(j,e)::nj k s
theorem om {k:Nat}:∀ {s:List (Nat×M)},U (nj k s)=(U s).del k
 | []=>by funext j;simp[nj,U,jU,Z.del]
 | (i,e)::s=>by
  have ih:=om (k:=k) (s:=s)
  funext j
  have ihj:=congrFun ih j
  simp only[U,Z.del] at ihj
  simp only[nj]
  split
  ·rename_i q
   have hik:=Nat.eq_of_beq_eq_true q
   subst hik
   simp only[U,jU,Z.del]
   rw[ihj]
   split<;>simp_all
  ·rename_i q
   have hik:i≠k:=fun h=>by subst h;simp at q
   simp only[U,jU,Z.del]
   by_cases hj:j=i
   ·subst hj;simp[hik]
   ·simp only[hj,if_false];exact ihj
theorem DO {xt yt el:TypeId} {fr:ew} {x y:Operand} {o:Option (List PV)} (ht:P.underlying xt=some (.pointer el)) (hx:fr.val x=.pv (.pt o)) (hy:fr.val y=Sc (.pointer none)) :
  fJ P (.binOp .eql xt x y yt) fr [] (Bo o.isNone):=by
 intro o' ho g ev w _ hv _
 have q1:=hv x (by simp[Op.operands]);rw[hx] at q1
 have q2:=hv y (by simp[Op.operands]);rw[hy] at q2
 generalize hq:ev x=c at q1
 cases q1 with
 | pv q1=>cases q1 with
  | BO=>
   refine ⟨.bool true,?_,.pv (.sc _)⟩
   simp only[execOp,ho,hq,q2.dz,binOp,Sem.run_bind,uf,Sem.run_pure,Result.andThen_ok];simp[Op.equal,Op.maxDepth,qt ht 9999]
  | BL=>
   refine ⟨.bool false,?_,.pv (.sc _)⟩
   simp only[execOp,ho,hq,q2.dz,eqGuard,binOp];simp[Op.equal,Op.maxDepth,qu ht 9999]
theorem DP {xt yt el:TypeId} {fr:ew} {x y:Operand} {o:Option (List PV)} (ht:P.underlying xt=some (.pointer el)) (hx:fr.val x=.pv (.pt o)) (hy:fr.val y=Sc (.pointer none)) :
  fJ P (.binOp .neq xt x y yt) fr [] (Bo o.isSome):=by
 intro o' ho g ev w _ hv _
 have q1:=hv x (by simp[Op.operands]);rw[hx] at q1
 have q2:=hv y (by simp[Op.operands]);rw[hy] at q2
 generalize hq:ev x=c at q1
 cases q1 with
 | pv q1=>cases q1 with
  | BO=>
   refine ⟨.bool false,?_,.pv (.sc _)⟩
   simp only[execOp,ho,hq,q2.dz,binOp,Sem.run_bind,uf,Sem.run_pure,Result.andThen_ok];simp[Op.equal,Op.maxDepth,qt ht 9999]
  | BL=>
   refine ⟨.bool true,?_,.pv (.sc _)⟩
   simp only[execOp,ho,hq,q2.dz,eqGuard,binOp];simp[Op.equal,Op.maxDepth,qu ht 9999]
theorem B8 {fr:ew} {x:Operand} {c:List PV} (hx:fr.val x=.pv (.pt (some c))):fJ P (.nilCheck x) fr [] (.sp c):=by
 intro o ho g ev w _ hv _
 have h1:=hv x (by simp[Op.operands]);rw[hx] at h1
 generalize hq:ev x=c at h1
 cases h1 with
 | pv h1=>cases h1 with
  | BL b ys off cells h hl hc=>exact ⟨_,by simp[execOp,ho,hq],.sp off h hl hc⟩
theorem B9 {xt yt el:TypeId} {x y:Operand} {o:Option (List PV)} [ht:jV P xt (.pointer el)] (hx:bT l x=some (.pv (.pt o))) (hy:bT l y=some (Sc (.pointer none))) :
  iC P (.binOp .eql xt x y yt) l ds s (Bo o.isNone) []:=.of (DO ht.h (aE hx) (aE hy))
theorem Ca {xt yt el:TypeId} {x y:Operand} {o:Option (List PV)} [ht:jV P xt (.pointer el)] (hx:bT l x=some (.pv (.pt o))) (hy:bT l y=some (Sc (.pointer none))) :
  iC P (.binOp .neq xt x y yt) l ds s (Bo o.isSome) []:=.of (DP ht.h (aE hx) (aE hy))
theorem DQ {x:Operand} {c:List PV} (hx:bT l x=some (.pv (.pt (some c)))):iC P (.nilCheck x) l ds s (.sp c) []:=.of (B8 (aE hx))
theorem dD {c a b:Operand} {v:AV} {t:Bool} (ht:t=true) (hc:bT l c=some (Bo t)) (ha:bT l a=some v):iC P (.pick c a b) l ds s v []:=by subst ht;exact uL hc ha
theorem dy {c a b:Operand} {v:AV} {t:Bool} (ht:t=false) (hc:bT l c=some (Bo t)) (hb:bT l b=some v):iC P (.pick c a b) l ds s v []:=by subst ht;exact dI hc hb
theorem je {xt yt:TypeId} {x y:Operand} {k:IntKind} {a b:Int} (hx:bT l x=some (Sc (.int k a))) (hy:bT l y=some (Sc (.int k b))):iC P (.binOp .add xt x y yt) l ds s (Sc (.int k (k.wrap (a+b)))) []:=
 .of (Ar (aE hx) (aE hy))
theorem tH {xt yt:TypeId} {x y:Operand} {k:IntKind} {a b:Int} (hx:bT l x=some (Sc (.int k a))) (hy:bT l y=some (Sc (.int k b))):iC P (.binOp .sub xt x y yt) l ds s (Sc (.int k (k.wrap (a - b)))) []:=
 .of (As (aE hx) (aE hy))
theorem FG {xt yt:TypeId} {x y:Operand} {k:IntKind} {a b:Int} (hx:bT l x=some (Sc (.int k a))) (hy:bT l y=some (Sc (.int k b))):iC P (.binOp .mul xt x y yt) l ds s (Sc (.int k (k.wrap (a*b)))) []:=
 .of (DA (aE hx) (aE hy))
theorem lX {a b:TypeId} {x:Operand} {k k':IntKind} {v:Int} [hs:jV P a (.int k')] [ht:jV P b (.int k)] (hx:bT l x=some (Sc (.int k' v))):iC P (.convert a b x) l ds s (Sc (.int k (k.wrap v))) []:=
 .of (zO hs.h ht.h (aE hx))
end
section
variable {P:Program} {E:Env} {n:Nat} {ops:Array Oper} {Q:dS} {rest:List Oper} {l:List (Nat×AV)} {ds:List (FuncId×List AV)} {s:List (Nat×M)}
 {ty:TypeId} {pos:String} {af:Array Edge}
theorem GZ {d j g:Nat} {op:Op} {v:AV} {rd:List (Nat×M)} {want b:Bool} (hb:b=want) (hj:(ops[j]?).bind (·.dst)=some g∧jK l g=some (Bo b))
  (h:iC P op l ds s v rd) (hd:Nat.blt d n=true) (hn:SL P E n ops Q rest (Y ((d,v)::l) ds) (U s)):SL P E n ops Q (⟨some d,op,ty,pos,af,some (j,want)⟩::rest) (Y l ds) (U s):=by
 subst hb;exact Fz hj h hd hn
theorem G1 {d j g:Nat} {op:Op} {want b:Bool} (hb:b = !want) (hj:(ops[j]?).bind (·.dst)=some g∧jK l g=some (Bo b)) (hd:Nat.blt d n=true)
  (hn:SL P E n ops Q rest (Y ((d,Sc undef)::l) ds) (U s)):SL P E n ops Q (⟨some d,op,ty,pos,af,some (j,want)⟩::rest) (Y l ds) (U s):=by
 subst hb;exact GK ⟨hj.1,hj.2,by cases want<;>rfl⟩ hd hn
theorem Cb {d:Nat} {t e:TypeId} {m sz:Nat} {parts:List (Nat×Operand)} {zs:List Value} {pl:List (Nat×Nat)} {pv:List (Nat×AV)} {cells:List PV} [ht:kg P t m e sz zs pl] (nm:Nat) (hE:E.fix nm=none)
  (h:parts.mapM (fun p=>(bT l p.2).map fun v=>(p.1,v))=some pv∧k6 pl (zs.map fun v=>.pv (.sc v)) pv=some (cells.map .pv)∧cells.length=m*sz∧Nat.ble m 1000=true)
  (hm:kF nm l=false∧ja nm ds=false∧mX nm s=false) (hd:Nat.blt d n=true)
  (hn:SL P E n ops Q rest (Y ((d,.arr nm m)::l) ds) (U ((nm,.app e sz cells)::s))):SL P E n ops Q (⟨some d,.buildSlice t m parts.toArray,ty,pos,af,none⟩::rest) (Y l ds) (U s):=by
 refine iA rfl (w7 (ug nm ht.h ?_ h.2.2.1 (Nat.le_trans (Nat.le_of_ble_eq_true h.2.2.2) (by simp[maxLen]))) (fR hm.1 hm.2.1) (jb hm.2.2) hE (lP hd) hn)
 rw[sZ h.1];exact h.2.1
end
end Go.Abs
end
section
namespace Go.Abs
open D
section
variable {P:Program} {E:Env} {n:Nat} {ops:Array Oper} {Q:dS} {B:List Rec→ew→Z→Prop} {i:Nat} {L:List Nat} {recs:List Rec} {l:List (Nat×AV)} {ds:List (FuncId×List AV)} {s:List (Nat×M)}
 {ty:TypeId} {pos:String} {af:Array Edge}
theorem en {d j g:Nat} {op:Op} {v:AV} {rd:List (Nat×M)} {want b:Bool} (hb:b=want) (ho:ops[i]?=some ⟨some d,op,ty,pos,af,some (j,want)⟩)
  (hj:(ops[j]?).bind (·.dst)=some g∧jK l g=some (Bo b)) (h:iC P op l ds s v rd)
  (hc:dN ⟨some d,op,ty,pos,af,some (j,want)⟩=false∧Nat.blt d n=true∧vj ops i v rd recs=true)
  (hn:lC P E n ops Q B L (⟨i,some d,rd,none⟩::recs) (Y ((d,v)::l) ds) (U s)):lC P E n ops Q B (i::L) recs (Y l ds) (U s):=by
 subst hb;exact FB ho hj h hc hn
theorem ef {d j g:Nat} {op:Op} {want b:Bool} (hb:b = !want) (ho:ops[i]?=some ⟨some d,op,ty,pos,af,some (j,want)⟩)
  (hj:(ops[j]?).bind (·.dst)=some g∧jK l g=some (Bo b)) (hc:dN ⟨some d,op,ty,pos,af,some (j,want)⟩=false∧Nat.blt d n=true)
  (hn:lC P E n ops Q B L (⟨i,some d,[],none⟩::recs) (Y ((d,Sc undef)::l) ds) (U s)):lC P E n ops Q B (i::L) recs (Y l ds) (U s):=by
 subst hb;exact GV ho ⟨hj.1,hj.2,by cases want<;>rfl⟩ hc hn
theorem tI {d j g:Nat} {op:Op} {want b:Bool} (hb:b = !want) (ho:ops[i]?=some ⟨some d,op,ty,pos,af,some (j,want)⟩)
  (hj:(ops[j]?).bind (·.dst)=some g∧jK l g=some (Bo b)) (hc:dN ⟨some d,op,ty,pos,af,some (j,want)⟩=true∧Nat.blt d n=true)
  (hn:lC P E n ops Q B L recs (Y ((d,Sc undef)::l) ds) (U s)):lC P E n ops Q B (i::L) recs (Y l ds) (U s):=by
 subst hb;exact FC ho ⟨hj.1,hj.2,by cases want<;>rfl⟩ hc hn
theorem bL {id:Nat} {fr:ew} {σ:Z} (L:List Nat) (hm:P.follows .mixedOrders=true) (hchk:GH ops L=true) (h:DW P E n ops Q L [] fr σ):SW P E n (.region id ops true) Q fr σ:=DI L hm hchk h
end
theorem ki {α β:Type} {x:D α} {k:α→D β} {r:D β} (hr:r≠.stuck) (h:D.bind x k=r):x≠.stuck∧(∀ a,x=.ok a→k a=r)∧∀ p,x=.kT p→r=.kT p:=by
 cases x with
 | stuck=>exact absurd h.symm hr
 | kT p=>exact ⟨by simp,fun _ q=>by simp at q,fun q hq=>by cases hq;exact h.symm⟩
 | ok a=>exact ⟨by simp,fun b q=>by cases q;exact h,fun _ q=>by simp at q⟩
section
variable {P:Program} {E:Env} {n:Nat} {ops:Array Oper} {Q:dS} {rest:List Oper} {l:List (Nat×AV)} {ds:List (FuncId×List AV)} {s:List (Nat×M)}
 {ty:TypeId} {pos:String} {af:Array Edge}
theorem yl {o:Oper} {X R:Type} {res:D X} {kk:X→D R} {r:D R} {V V':X→AV} {C:X→List M} {C':X→List (Nat×M)} {f:Operand} {args:List Operand} {ts:Array TypeId} {fid:FuncId}
  {argsC first cap vs:List AV} {es:List M} {next:ew→Z→Prop} (hr:r≠.stuck) (h:D.bind res kk=r) {l':List (Nat×AV)} (hwk:(Y l ds).le (Y l' ds)) (ks:List Nat) (hen:Enters P fid) (ho:o.op=.call ⟨.value f,args.toArray,ts⟩)
  (hC:CT P fid argsC es res V C) (hk:kS E ds l s ks f args fid argsC es first cap vs l') (hd:∀ d,o.dst=some d→d<n)
  (hx:∀ x,(C x).length=ks.length∧jd (below ks.length) (C x)=true∧(V x).only (below ks.length)=true)
  (hV:∀ x,(V x).gg (nth ks)=V' x∧kR ks (jL (nth ks) (C x))=C' x)
  (hpan:∀ p fr σ,fr.ds=ds→r=.kT p→Q (.panic p.av) fr σ)
  (hret:∀ x,kk x=r→next ((Y l' ds).hY o.dst (V' x)) (U (C' x++s))):Step P E n Q o (Y l ds) (U s) next:=by
 obtain ⟨hns,hok,hp⟩:=ki hr h
 refine vg hwk ks hen ho (hC res rfl hns) hk hd (fun x _=>hx x) (fun x hg=>?_) (fun v hv=>?_)
 ·have:=hret x (hok x hg)
  rw[← (hV x).1,← (hV x).2] at this;exact this
 ·obtain ⟨p,hp1,rfl⟩:=hv
  exact ⟨p.only _,hpan p _ _ rfl (hp p hp1)⟩
theorem AH {o:Oper} {X R:Type} {res:D X} {kk:X→D R} {r:D R} {V V':X→AV} {C:X→List M} {C':X→List (Nat×M)} {f:Operand} {args:List Operand} {ts:Array TypeId} {fid:FuncId}
  {argsC first cap vs:List AV} {es:List M} {next:ew→Z→Prop} (hr:r≠.stuck) (h:D.bind res kk=r) (ks:List Nat) (hen:Enters P fid) (ho:o.op=.call ⟨.value f,args.toArray,ts⟩)
  (hC:CT P fid argsC es res V C) (hk:kS E ds l s ks f args fid argsC es first cap vs) (hd:∀ d,o.dst=some d→d<n)
  (hx:∀ x,(C x).length=ks.length∧jd (below ks.length) (C x)=true∧(V x).only (below ks.length)=true)
  (hV:∀ x,(V x).gg (nth ks)=V' x∧kR ks (jL (nth ks) (C x))=C' x)
  (hpan:∀ p fr σ,fr.ds=ds→r=.kT p→Q (.panic p.av) fr σ)
  (hret:∀ x,kk x=r→next ((Y l ds).hY o.dst (V' x)) (U (C' x++s))):Step P E n Q o (Y l ds) (U s) next:=
 yl hr h ⟨fun _=>.inl rfl,rfl⟩ ks hen ho hC hk hd hx hV hpan hret
theorem jf {d:Nat} {X R:Type} {res:D X} {kk:X→D R} {r:D R} {V V':X→AV} {C:X→List M} {C':X→List (Nat×M)} {f:Operand} {args:List Operand} {ts:Array TypeId} {fid:FuncId}
  {argsC first cap vs:List AV} {es:List M} (hr:r≠.stuck) (h:D.bind res kk=r) (ks:List Nat) (hen:Enters P fid)
  (hC:CT P fid argsC es res V C) (hk:kS E ds l s ks f args fid argsC es first cap vs) (hd:Nat.blt d n=true)
  (hx:∀ x,(C x).length=ks.length∧jd (below ks.length) (C x)=true∧(V x).only (below ks.length)=true)
  (hV:∀ x,(V x).gg (nth ks)=V' x∧kR ks (jL (nth ks) (C x))=C' x)
  (hpan:∀ p fr σ,fr.ds=ds→r=.kT p→Q (.panic p.av) fr σ)
  (hret:∀ x,kk x=r→SL P E n ops Q rest (Y ((d,V' x)::l) ds) (U (C' x++s))) :
  SL P E n ops Q (⟨some d,.call ⟨.value f,args.toArray,ts⟩,ty,pos,af,none⟩::rest) (Y l ds) (U s):=
 iA rfl (AH hr h ks hen rfl hC hk (lP hd) hx hV hpan hret)
theorem FH {d:Nat} {X R:Type} {res:D X} {kk:X→D R} {r:D R} {V V':X→AV} {C:X→List M} {C':X→List (Nat×M)} {f:Operand} {args:List Operand} {ts:Array TypeId} {fid:FuncId}
  {argsC first cap vs:List AV} {es:List M} (l':List (Nat×AV)) (hwk:si l l' l') (hr:r≠.stuck) (h:D.bind res kk=r) (ks:List Nat) (hen:Enters P fid)
  (hC:CT P fid argsC es res V C) (hk:kS E ds l s ks f args fid argsC es first cap vs l') (hd:Nat.blt d n=true)
  (hx:∀ x,(C x).length=ks.length∧jd (below ks.length) (C x)=true∧(V x).only (below ks.length)=true)
  (hV:∀ x,(V x).gg (nth ks)=V' x∧kR ks (jL (nth ks) (C x))=C' x)
  (hpan:∀ p fr σ,fr.ds=ds→r=.kT p→Q (.panic p.av) fr σ)
  (hret:∀ x,kk x=r→SL P E n ops Q rest (Y ((d,V' x)::l') ds) (U (C' x++s))) :
  SL P E n ops Q (⟨some d,.call ⟨.value f,args.toArray,ts⟩,ty,pos,af,none⟩::rest) (Y l ds) (U s):=
 iA rfl (yl hr h (xa (nL hwk)) ks hen rfl hC hk (lP hd) hx hV hpan hret)
theorem Cc {d j g:Nat} {want b:Bool} {X R:Type} {res:D X} {kk:X→D R} {r:D R} {V V':X→AV} {C:X→List M} {C':X→List (Nat×M)} {f:Operand} {args:List Operand} {ts:Array TypeId} {fid:FuncId}
  {argsC first cap vs:List AV} {es:List M} (hb:b=want) (hj:(ops[j]?).bind (·.dst)=some g∧jK l g=some (Bo b)) (hr:r≠.stuck) (h:D.bind res kk=r) (ks:List Nat) (hen:Enters P fid)
  (hC:CT P fid argsC es res V C) (hk:kS E ds l s ks f args fid argsC es first cap vs) (hd:Nat.blt d n=true)
  (hx:∀ x,(C x).length=ks.length∧jd (below ks.length) (C x)=true∧(V x).only (below ks.length)=true)
  (hV:∀ x,(V x).gg (nth ks)=V' x∧kR ks (jL (nth ks) (C x))=C' x)
  (hpan:∀ p fr σ,fr.ds=ds→r=.kT p→Q (.panic p.av) fr σ)
  (hret:∀ x,kk x=r→SL P E n ops Q rest (Y ((d,V' x)::l) ds) (U (C' x++s))) :
  SL P E n ops Q (⟨some d,.call ⟨.value f,args.toArray,ts⟩,ty,pos,af,some (j,want)⟩::rest) (Y l ds) (U s):=by
 subst hb
 exact u2 rfl hj.1 (eW hj.2) (lP hd) (fun _=>AH hr h ks hen rfl hC hk (lP hd) hx hV hpan hret) (fun q=>absurd rfl q)
end
section
variable {P:Program} {E:Env} {n:Nat} {ops:Array Oper} {Q:dS} {B:List Rec→ew→Z→Prop} {i:Nat} {L:List Nat} {recs:List Rec} {l:List (Nat×AV)} {ds:List (FuncId×List AV)} {s:List (Nat×M)}
 {ty:TypeId} {pos:String} {af:Array Edge}
theorem dL {d:Nat} {X R:Type} {res:D X} {kk:X→D R} {r:D R} {V V':X→AV} {C:X→List M} {C':X→List (Nat×M)} {f:Operand} {args:List Operand} {ts:Array TypeId} {fid:FuncId}
  {argsC first cap vs:List AV} {es:List M} {gd:Option (Nat×Bool)} (ho:ops[i]?=some ⟨some d,.call ⟨.value f,args.toArray,ts⟩,ty,pos,af,gd⟩)
  (hw:gC ops ⟨some d,.call ⟨.value f,args.toArray,ts⟩,ty,pos,af,gd⟩ (Y l ds)) (hr:r≠.stuck) (h:D.bind res kk=r) (ks:List Nat) (hen:Enters P fid)
  (hC:CT P fid argsC es res V C) (hk:kS E ds l s ks f args fid argsC es first cap vs) (hd:Nat.blt d n=true) (hnm:tG ks recs=true)
  (hx:∀ x,(C x).length=ks.length∧jd (below ks.length) (C x)=true∧(V x).only (below ks.length)=true)
  (hV:∀ x,(V x).gg (nth ks)=V' x∧kR ks (jL (nth ks) (C x))=C' x)
  (hpan:∀ p fr σ,fr.ds=ds→r=.kT p→Q (.panic p.av) fr σ)
  (hret:∀ x,kk x=r→la ops i (C' x++s) recs∧lC P E n ops Q B L recs (Y ((d,V' x)::l) ds) (U (C' x++s))):lC P E n ops Q B (i::L) recs (Y l ds) (U s):=by
 obtain ⟨hns,hok,hp⟩:=ki hr h
 refine AF ho hw ks hen (hC res rfl hns) hk hd hnm (fun x _=>hx x) (fun v hv=>?_) (fun x hg v' s' hv hs=>?_)
 ·obtain ⟨p,hp1,rfl⟩:=hv
  exact ⟨p.only _,fun fr' σ' hds=>hpan p _ _ hds (hp p hp1)⟩
 ·have:=hret x (hok x hg)
  rw[← (hV x).1,← (hV x).2] at this
  subst hv hs;exact this
theorem bX {o:Oper} {fr:ew} (h:o.guard=none):gC ops o fr:=.inl h
theorem ym {o:Oper} {j g:Nat} {want b:Bool} (hb:b=want) (h:o.guard=some (j,want)) (hj:(ops[j]?).bind (·.dst)=some g∧jK l g=some (Bo b)):gC ops o (Y l ds):=by
 subst hb;exact .inr ⟨j,b,g,h,hj.1,eW hj.2⟩
end
theorem xh {P:Program} {fn:Func} {X:Type} {V:X→AV} {C:X→List M} {r:D X} {p:oj} {fr:ew} {σ:Z} (hd:fr.ds=[]) (h:r=.kT p) :
  nf P fn (pL V C (fun x=>r=.ok x) (fun v=>∃ p,r=.kT p∧v=p.av)) (.panic p.av) fr σ:=zU hd ⟨p,h,rfl⟩
end Go.Abs
end
section
namespace Go.Abs
open D
theorem Rel.uN {E:Env} {g:Gh} {σ:Z} {w:World} (h:Rel E g σ w) {nm sz:Nat} {el:TypeId} (hc:σ.clear nm) (hf:E.fix nm=none) :
  Rel E (g.unbind nm) (σ.set nm (.app el sz [])) w:=by
 have hle:=ju.unbind g nm
 have hρ:∀ j,j≠nm→(g.unbind nm).ρ j=g.ρ j:=fun j q=>by simp[Gh.unbind,q]
 have hρn:(g.unbind nm).ρ nm=none:=by simp[Gh.unbind]
 have hne:∀ j e,σ.set nm (.app el sz []) j=some e→j≠nm→σ j=some e:=fun j e hj q=>by simpa[Z.set,q] using hj
 have hnes:∀ j,(σ.set nm (.app el sz []) j).isSome=true→j≠nm→(σ j).isSome=true:=fun j hj q=>by simpa[Z.set,q] using hj
 refine { iZ:=?_,inj:=?_,gl:=?_,apart:=?_,size:=h.size,nB:=h.nB,own:=?_,fix:=?_,ib:=?_,g0:=h.g0,gn:=h.gn,os:=h.os,out:=h.out,tape:=h.tape,x:=h.x.qS rfl rfl (fun j b hj hb=>by
   by_cases q:j=nm
   ·subst q;rw[hρn] at hb;cases hb
   ·exact ⟨j,hnes j hj q,by rw[← hρ j q];exact hb,.inl rfl⟩) (fun j b e' hfj hj=>by
   have q:j≠nm:=fun q=>by subst q;rw[hf] at hfj;cases hfj
   exact ⟨e',hne j _ hj q,id⟩) }
 ·intro k e hk
  by_cases q:k=nm
  ·subst q;simp[Z.set] at hk;subst hk;exact .uW hρn
  ·have hk':=hne k e hk q
   exact (h.iZ k e hk').le hle q (fun _ _ _=>rfl) (fun j hj=>by subst hj;exact hc k e hk') (fun _ _=>rfl)
 ·intro k k' b hk hk' hb hb'
  by_cases q:k=nm
  ·subst q;rw[hρn] at hb;cases hb
  ·by_cases q':k'=nm
   ·subst q';rw[hρn] at hb';cases hb'
   ·rw[hρ k q] at hb;rw[hρ k' q'] at hb'
    exact h.inj k k' b (hnes k hk q) (hnes k' hk' q') hb hb'
 ·exact h.gl.le hle rfl (fun _ _ _=>rfl)
 ·intro k b e hk hka hb
  by_cases q:k=nm
  ·subst q;rw[hρn] at hb;cases hb
  ·rw[hρ k q] at hb;exact h.apart k b e (hne k e hk q) hka hb
 ·intro k b hk hb
  by_cases q:k=nm
  ·subst q;rw[hρn] at hb;cases hb
  ·rw[hρ k q] at hb;exact h.own k b (hnes k hk q) hb
 ·intro k b hk
  have q:k≠nm:=fun q=>by subst q;rw[hf] at hk;cases hk
  rw[hρ k q];exact h.fix k b hk
 ·intro k b hk
  have q:k≠nm:=fun q=>by subst q;rw[hf] at hk;cases hk
  have:(g.unbind nm).cp k=g.cp k:=rfl
  rw[this];exact h.ib k b hk
section
variable {P:Program} {E:Env} {n:Nat} {ops:Array Oper} {Q:dS} {rest:List Oper} {c:Code} {l:List (Nat×AV)} {ds:List (FuncId×List AV)} {s:List (Nat×M)}
def eT (E:Env) (n:Nat) (l:List (Nat×AV)) (ds:List (FuncId×List AV)) (s:List (Nat×M)) (l':List (Nat×AV)) (s':List (Nat×M)):Prop:=
 ∀ (g:Gh) (a:Act) (w:World),Rel E g (U s) w→FR n g (Y l ds) a→∃ g',Rel E g' (U s') w∧FR n g' (Y l' ds) a
theorem b3 {l':List (Nat×AV)} {s':List (Nat×M)} (hg:eT E n l ds s l' s') (h:SW P E n c Q (Y l' ds) (U s')):SW P E n c Q (Y l ds) (U s):=fun g a w hR hF=>
 let ⟨g',hR',hF'⟩:=hg g a w hR hF;h g' a w hR' hF'
theorem aX {l':List (Nat×AV)} {s':List (Nat×M)} (hg:eT E n l ds s l' s') (h:SL P E n ops Q rest (Y l' ds) (U s')):SL P E n ops Q rest (Y l ds) (U s):=fun g a w hR hF=>
 let ⟨g',hR',hF'⟩:=hg g a w hR hF;h g' a w hR' hF'
theorem ga.set {g:Gh} {v:AV}:∀ {cells:List AV} {vs:List Value} {off:Nat} {u:AV},ga g cells vs→cells[off]?=some u→(∀ c,VR g u c→VR g v c)→ga g (cells.set off v) vs
 | [],_,_,_,_,h,_=>by simp at h
 | x::xs,_,0,u,.cons h t,hu,hv=>by simp at hu;subst hu;exact .cons (hv _ h) t
 | x::xs,_,off+1,u,.cons h t,hu,hv=>.cons h (ga.set t (by simpa using hu) hv)
theorem DS {j off k m sz:Nat} {el:TypeId} {cells:List PV} {cs:List AV} (hj:dB s j=some (.box cs)) (hc:cs[off]?=some (.arr k m)) (hk:dB s k=some (.app el sz cells)) (hz:Nat.blt 0 sz=true)
  (hn:cells.length=m*sz):eT E n l ds s l ((j,.box (cs.set off (.pv (.sl m cells))))::s):=fun g a w hR hF=>by
 refine ⟨g,?_,hF⟩
 have hjs:=bW hj
 have hks:=bW hk
 have he:∀ i e,U ((j,.box (cs.set off (.pv (.sl m cells))))::s) i=some e→(U s i).isSome=true∧(i≠j→U s i=some e):=fun i e h=>by
  by_cases q:i=j
  ·subst q;exact ⟨by rw[hjs];rfl,fun q=>absurd rfl q⟩
  ·have:U s i=some e:=by simpa[U,jU,q] using h
   exact ⟨by rw[this];rfl,fun _=>this⟩
 have hs:∀ i,(U ((j,.box (cs.set off (.pv (.sl m cells))))::s) i).isSome=true→(U s i).isSome=true:=fun i h=>by
  cases q:U ((j,.box (cs.set off (.pv (.sl m cells))))::s) i with
  | none=>rw[q] at h;cases h
  | some e=>exact (he i e q).1
 exact {
     iZ:=fun i e h=>by
      by_cases q:i=j
      ·subst q
       have:e=.box (cs.set off (.pv (.sl m cells))):=by simpa[U,jU] using h.symm
       subst this
       cases hR.iZ i _ hjs with
       | box h1 h2 h3 h4=>exact .box h1 h2 (h3.set hc fun c hc=>hc.view (hR.iZ k _ hks) (by simpa[Nat.blt_eq] using hz) hn) h4
      ·exact hR.iZ i e ((he i e h).2 q)
     inj:=fun i i' b h h'=>hR.inj i i' b (hs i h) (hs i' h')
     gl:=hR.gl
     apart:=fun i b e h hea hb=>by
      by_cases q:i=j
      ·subst q;exact hR.apart i b _ hjs rfl hb
      ·exact hR.apart i b e ((he i e h).2 q) hea hb
     size:=hR.size,nB:=hR.nB,own:=fun i b h=>hR.own i b (hs i h),fix:=hR.fix,ib:=hR.ib,g0:=hR.g0,gn:=hR.gn,os:=hR.os,out:=hR.out,tape:=hR.tape
     x:=hR.x.qS rfl rfl (fun i b hi hb=>⟨i,hs i hi,hb,.inl rfl⟩) (fun i b e' _ hi=>by
      by_cases q:i=j
      ·subst q;exact ⟨_,hjs,fun _=>(by simp[U,jU] at hi;exact ⟨_,hi.symm⟩)⟩
      ·exact ⟨e',(he i _ hi).2 q,id⟩) }
theorem sA {d:Nat} (nm:Nat) {sz:Nat} {el:TypeId} (hE:E.fix nm=none) (hd:jK l d=some (Sc (.slice none 0 0))) (hm:kF nm l=false∧ja nm ds=false∧mX nm s=false) :
  eT E n l ds s ((d,.arr nm 0)::l) ((nm,.app el sz [])::s):=fun g a w hR hF=>by
 have h1:=hR.uN (el:=el) (sz:=sz) (jb hm.2.2) hE
 have h2:=hF.le (ju.unbind g nm) (fun k q=>by subst q;exact fR hm.1 hm.2.1)
 refine ⟨g.unbind nm,h1,h2.size,fun i=>?_,h2.ds⟩
 by_cases q:i=d
 ·subst q
  have h3:=h2.gX i
  simp only[Y,eW hd] at h3
  simp only[Y,kc,if_true]
  rw[h3.dz];exact .n5 (by simp[Gh.unbind])
 ·simpa[Y,kc,q] using h2.gX i
theorem rT {j off:Nat} (nm:Nat) {sz:Nat} {el:TypeId} {cs:List AV} (hE:E.fix nm=none) (hj:dB s j=some (.box cs)) (hc:cs[off]?=some (Sc (.slice none 0 0)))
  (hm:kF nm l=false∧ja nm ds=false∧mX nm s=false) (hjn:Nat.beq j nm=false) :
  eT E n l ds s l ((j,.box (cs.set off (.arr nm 0)))::(nm,.app el sz [])::s):=fun g a w hR hF=>by
 have hR:=hR.uN (el:=el) (sz:=sz) (jb hm.2.2) hE
 have hF:=hF.le (ju.unbind g nm) (fun k q=>by subst q;exact fR hm.1 hm.2.1)
 have hjn':j≠nm:=fun q=>by subst q;simp at hjn
 have hjs:(U s).set nm (.app el sz []) j=some (.box cs):=by simp[Z.set,hjn',bW hj]
 refine ⟨g.unbind nm,?_,hF⟩
 have he:∀ i e,U ((j,.box (cs.set off (.arr nm 0)))::(nm,.app el sz [])::s) i=some e→(((U s).set nm (.app el sz [])) i).isSome=true∧(i≠j→((U s).set nm (.app el sz [])) i=some e):=fun i e h=>by
  by_cases q:i=j
  ·subst q;exact ⟨by rw[hjs];rfl,fun q=>absurd rfl q⟩
  ·have:((U s).set nm (.app el sz [])) i=some e:=by simpa[U,jU,Z.set,q] using h
   exact ⟨by rw[this];rfl,fun _=>this⟩
 have hs:∀ i,(U ((j,.box (cs.set off (.arr nm 0)))::(nm,.app el sz [])::s) i).isSome=true→(((U s).set nm (.app el sz [])) i).isSome=true:=fun i h=>by
  cases q:U ((j,.box (cs.set off (.arr nm 0)))::(nm,.app el sz [])::s) i with
  | none=>rw[q] at h;cases h
  | some e=>exact (he i e q).1
 exact {
     iZ:=fun i e h=>by
      by_cases q:i=j
      ·subst q
       have:e=.box (cs.set off (.arr nm 0)):=by simpa[U,jU] using h.symm
       subst this
       cases hR.iZ i _ hjs with
       | box h1 h2 h3 h4=>exact .box h1 h2 (h3.set hc fun c hc=>by rw[hc.dz];exact .n5 (by simp[Gh.unbind])) h4
      ·exact hR.iZ i e ((he i e h).2 q)
     inj:=fun i i' b h h'=>hR.inj i i' b (hs i h) (hs i' h')
     gl:=hR.gl
     apart:=fun i b e h hea hb=>by
      by_cases q:i=j
      ·subst q;exact hR.apart i b _ hjs rfl hb
      ·exact hR.apart i b e ((he i e h).2 q) hea hb
     size:=hR.size,nB:=hR.nB,own:=fun i b h=>hR.own i b (hs i h),fix:=hR.fix,ib:=hR.ib,g0:=hR.g0,gn:=hR.gn,os:=hR.os,out:=hR.out,tape:=hR.tape
     x:=hR.x.qS rfl rfl (fun i b hi hb=>⟨i,hs i hi,hb,.inl rfl⟩) (fun i b e' _ hi=>by
      by_cases q:i=j
      ·subst q;exact ⟨_,hjs,fun _=>(by simp[U,jU] at hi;exact ⟨_,hi.symm⟩)⟩
      ·exact ⟨e',(he i _ hi).2 q,id⟩) }
end
def bK (x:Int):Prop:=-9223372036854775808≤x∧x≤9223372036854775807
instance (x:Int):Decidable (bK x):=by unfold bK;exact inferInstance
def c7 (a b:List UInt8):Prop:=a.length+b.length≤9223372036854775807
instance (a b:List UInt8):Decidable (c7 a b):=by unfold c7;exact inferInstance
def sub (c:List UInt8) (i j:Int):List UInt8:=(c.drop i.toNat).take (j.toNat - i.toNat)
def dp (c:List UInt8) (i:Int):List UInt8:=c.drop i.toNat
def iU (c:List UInt8) (j:Int):List UInt8:=c.take j.toNat
def AV.nz:AV→AV
 | .pv (.sc (.slice none 0 0))=>.pv (.sl 0 [])
 | .pv (.sc (.pointer none))=>.pv (.pt none)
 | v=>v
theorem AV.Cd (v:AV):v.le v.nz:=by
 unfold AV.nz
 split
 ·exact AV.le_nil
 ·exact AV.GY
 ·exact AV.le_refl _
def AV.GC:List AV→List AV
 | []=>[]
 | v::vs=>v.nz::GC vs
theorem AV.uO:∀ l:List AV,xU l (AV.GC l)
 | []=>.nil
 | v::l=>.cons (AV.Cd v) (AV.uO l)
section
variable {P:Program} {l:List (Nat×AV)} {ds:List (FuncId×List AV)} {s:List (Nat×M)}
theorem bQ {t:TypeId} {parts:List (Nat×Operand)} {z:List Value} {pl:List (Nat×Nat)} {pv:List (Nat×AV)} {out out':List AV} [ht:gT P t z pl]
  (hp:parts.mapM (fun p=>(bT l p.2).map fun v=>(p.1,v))=some pv) (h:k6 pl (z.map fun v=>.pv (.sc v)) pv=some out) (hn:AV.GC out=out'):iC P (.build t parts.toArray) l ds s (.agg out') []:=by
 subst hn;exact (dC hp h).ya (AV.Fx (AV.uO out))
end
class Ce (P:Program) (t:TypeId):Prop where h:(P.underlying t).map BV=some false
section
variable {P:Program} {l:List (Nat×AV)} {ds:List (FuncId×List AV)} {s:List (Nat×M)}
theorem Cf {t:TypeId} {x:Operand} {f d:Nat} {cs:List AV} {v:AV} [hd:k4 P t f d] (ha:∀ fields fd,P.underlying t=some (.struct fields)→fields[f]?=some fd→oJ P fd.type=some false)
  (hx:bT l x=some (.agg cs)) (hv:cs[d]?=some v):iC P (.field t x f) l ds s v []:=by
 have h:=hd.h
 unfold GA at h
 split at h
 ·rename_i fs hu
  split at h
  ·rename_i fd hf
   split at h
   ·cases h;exact .of (w3 hu hf rfl (ha _ _ hu hf) (aE hx) hv)
   ·cases h
  ·cases h
 ·cases h
theorem o9 {t:TypeId} {x:Operand} {v:AV} [ht:Ce P t] (hx:bT l x=some v):iC P (.makeInterface t x) l ds s (.lF t v) []:=by
 have h:=ht.h
 cases hu:P.underlying t with
 | none=>simp[hu] at h
 | some d=>simp[hu] at h;exact .of (wZ hu h (aE hx))
theorem pc {f:FuncId} {a b:List Operand} {va vb:List AV} (ha:sh l a=some va) (hb:sh l b=some vb):iC P (.makeFunc (.func f) a.toArray b.toArray) l ds s (.fn f va vb) []:=
 .of (by have:=xZ (P:=P) (fr:=Y l ds) (f:=f) (a:=a) (b:=b);rw[kQ ha,kQ hb] at this;exact this)
end
section
variable {P:Program} {E:Env} {n:Nat} {ops:Array Oper} {Q:dS} {rest:List Oper} {l:List (Nat×AV)} {ds:List (FuncId×List AV)} {s:List (Nat×M)}
 {ty:TypeId} {pos:String} {af:Array Edge}
theorem AI {g:Gh} {w:World} {k:Nat} {cs cs':List AV} (h:xU cs cs') (he:iv g w k (.box cs)):iv g w k (.box cs'):=by
 cases he with|box h1 h2 h3 h4=>exact .box h1 h2 (h.E4 h3) h4
theorem AJ {j:Nat} {cs cs':List AV} (hj:dB s j=some (.box cs)) (hl:xU cs cs'):eT E n l ds s l ((j,.box cs')::s):=fun g a w hR hF=>by
 refine ⟨g,?_,hF⟩
 have hjs:=bW hj
 have he:∀ i e,U ((j,.box cs')::s) i=some e→(U s i).isSome=true∧(i≠j→U s i=some e):=fun i e h=>by
  by_cases q:i=j
  ·subst q;exact ⟨by rw[hjs];rfl,fun q=>absurd rfl q⟩
  ·have:U s i=some e:=by simpa[U,jU,q] using h
   exact ⟨by rw[this];rfl,fun _=>this⟩
 have hs:∀ i,(U ((j,.box cs')::s) i).isSome=true→(U s i).isSome=true:=fun i h=>by
  cases q:U ((j,.box cs')::s) i with
  | none=>rw[q] at h;cases h
  | some e=>exact (he i e q).1
 exact {
     iZ:=fun i e h=>by
      by_cases q:i=j
      ·subst q
       have:e=.box cs':=by simpa[U,jU] using h.symm
       subst this
       exact AI hl (hR.iZ i _ hjs)
      ·exact hR.iZ i e ((he i e h).2 q)
     inj:=fun i i' b h h'=>hR.inj i i' b (hs i h) (hs i' h')
     gl:=hR.gl
     apart:=fun i b e h hea hb=>by
      by_cases q:i=j
      ·subst q;exact hR.apart i b _ hjs rfl hb
      ·exact hR.apart i b e ((he i e h).2 q) hea hb
     size:=hR.size,nB:=hR.nB,own:=fun i b h=>hR.own i b (hs i h),fix:=hR.fix,ib:=hR.ib,g0:=hR.g0,gn:=hR.gn,os:=hR.os,out:=hR.out,tape:=hR.tape
     x:=hR.x.qS rfl rfl (fun i b hi hb=>⟨i,hs i hi,hb,.inl rfl⟩) (fun i b e' _ hi=>by
      by_cases q:i=j
      ·subst q;exact ⟨_,hjs,fun _=>(by simp[U,jU] at hi;exact ⟨_,hi.symm⟩)⟩
      ·exact ⟨e',(he i _ hi).2 q,id⟩) }
theorem jt (j:Nat) {cs cs':List AV} (hj:dB s j=some (.box cs)) (hn:AV.GC cs=cs'):eT E n l ds s l ((j,.box cs')::s):=by subst hn;exact AJ hj (AV.uO cs)
theorem Cg {x:Operand} (p:oj) (hx:bT l x=some p.av) (hq:Q (.panic p.av) (Y l ds) (U s)):SL P E n ops Q (⟨none,.panic x,ty,pos,af,none⟩::rest) (Y l ds) (U s):=
 iA rfl (zS rfl (aE hx) hq)
end
end Go.Abs
end
section
namespace Go.Abs
open D
def quiet (ops:Array Oper) (i:Nat):List Rec→Bool
 | []=>true
 | r::rs=>(match r.rd with|[]=>true|_=>mc ops ops.size i r.i)&&quiet ops i rs
theorem aL {ops:Array Oper} {i:Nat} {s':List (Nat×M)} {recs:List Rec} (h:quiet ops i recs=true):la ops i s' recs:=by
 induction recs with
 | nil=>intro r hr;simp[gh] at hr
 | cons a rs ih=>
  simp only[quiet,Bool.and_eq_true] at h
  intro r hr p hp
  simp only[gh,List.mem_filter,Bool.not_eq_true'] at hr
  rcases List.mem_cons.1 hr.1 with q|q
  ·subst q
   have h1:=h.1
   split at h1
   ·rename_i h0;rw[h0] at hp;cases hp
   ·rw[hr.2] at h1;cases h1
  ·exact ih h.2 r (by simp[gh,q,hr.2]) p hp
def HP (P:Program) (s:TypeId) (f:Nat):Option Bool:=
 match P.underlying s with
 | some (.struct fs)=>match fs[f]? with
  | some fd=>oJ P fd.type
  | none=>none
 | _=>none
class Hv (P:Program) (t:TypeId) (f:Nat) (b:outParam Bool):Prop where h:HP P t f=some b
section
variable {P:Program} {l:List (Nat×AV)} {ds:List (FuncId×List AV)} {s:List (Nat×M)}
theorem kj {t:TypeId} {x:Operand} {f d:Nat} {cs:List AV} {v:AV} [hd:k4 P t f d] [hb:Hv P t f false] (hx:bT l x=some (.agg cs)) (hv:cs[d]?=some v):iC P (.field t x f) l ds s v []:=
 Cf (fun fields fd hu hf=>by have:=hb.h;simp only[HP,hu,hf] at this;exact this) hx hv
end
section
variable {P:Program} {E:Env} {n:Nat} {ops:Array Oper} {Q:dS} {rest:List Oper} {l:List (Nat×AV)} {ds:List (FuncId×List AV)} {s:List (Nat×M)}
 {ty:TypeId} {pos:String} {af:Array Edge}
theorem b4 {α:Type} {C:α→List PV} {Cs:List α→List PV} (xs:List α) (lH:∀ l,Cs l=l.flatMap C) {d:Nat} {t e:TypeId} {m sz:Nat} {parts:List (Nat×Operand)} {zs:List Value} {pl:List (Nat×Nat)} {pv:List (Nat×AV)}
  [ht:kg P t m e sz zs pl] (h:parts.mapM (fun p=>(bT l p.2).map fun v=>(p.1,v))=some pv∧k6 pl (zs.map fun v=>.pv (.sc v)) pv=some ((xs.flatMap C).map .pv)) (hd:Nat.blt d n=true)
  (hn:SL P E n ops Q rest (Y ((d,.pv (.sl m (Cs xs)))::l) ds) (U s)):SL P E n ops Q (⟨some d,.buildSlice t m parts.toArray,ty,pos,af,none⟩::rest) (Y l ds) (U s):=
 GP h hd (by rw[← lH];exact hn)
end
end Go.Abs
end
section
namespace Go.Abs
open D
def GN (E:Env) (n:Nat) (ds:List (FuncId×List AV)) (Q:dS):dS
 | .normal,fr,σ=>∃ l s l' s',fr=Y l ds∧σ=U s∧eT E n l ds s l' s'∧Q .normal (Y l' ds) (U s')
 | e,fr,σ=>Q e fr σ
section
variable {P:Program} {E:Env} {n:Nat} {ops:Array Oper} {Q:dS} {rest:List Oper} {c:Code} {l:List (Nat×AV)} {ds:List (FuncId×List AV)} {s:List (Nat×M)}
theorem LQ.gn {e:Exit} {a:Act} {w:World} (h:LQ E n (GN E n ds Q) e a w):LQ E n Q e a w:=by
 obtain ⟨g,ae,fr,σ,q,hx,hR,hF⟩:=h
 cases hx with
 | normal=>
  obtain ⟨l,s,l',s',rfl,rfl,hg,hq⟩:=q
  obtain ⟨g',hR',hF'⟩:=hg g a w hR hF
  exact ⟨g',_,_,_,hq,.normal,hR',hF'⟩
 | exit id=>exact ⟨g,_,_,_,q,.exit id,hR,hF⟩
 | goto id=>exact ⟨g,_,_,_,q,.goto id,hR,hF⟩
 | ret=>exact ⟨g,_,_,_,q,.ret,hR,hF⟩
 | panic hv=>exact ⟨g,_,_,_,q,.panic hv,hR,hF⟩
theorem mi {fr:ew} {σ:Z} (ds:List (FuncId×List AV)) (h:SW P E n c (GN E n ds Q) fr σ):SW P E n c Q fr σ:=fun g a w hR hF=>wp_mono (h g a w hR hF) fun _ _ _ q=>q.gn
theorem eT.trans {l1 l2:List (Nat×AV)} {s1 s2:List (Nat×M)} (h:eT E n l ds s l1 s1) (h':eT E n l1 ds s1 l2 s2):eT E n l ds s l2 s2:=fun g a w hR hF=>
 let ⟨g',hR',hF'⟩:=h g a w hR hF;h' g' a w hR' hF'
theorem eT.xW (l':List (Nat×AV)) (s':List (Nat×M)) (h1:si l l' l') (h2:sY s s' s'):eT E n l ds s l' s':=fun g _ _ hR hF=>
 ⟨g,hR.sub (xb (pN h2)),hF.ya (xa (nL h1))⟩
def mj (nm k:Nat):Nat→Nat:=fun j=>match Nat.beq j nm with
 | true=>k
 | false=>j
def Ch (nm k:Nat) (l:List (Nat×AV)):List (Nat×AV)→Prop
 | []=>True
 | (i,v')::F=>(∃ v,jK l i=some v∧v.ed k=false∧v.gg (mj nm k)=v')∧Ch nm k l F
def Ci (nm k:Nat) (s:List (Nat×M)):List (Nat×M)→Prop
 | []=>True
 | (i,e')::F=>(∃ e,dB s i=some e∧e.mq k=false∧e.gg (mj nm k)=e'∧Nat.beq i nm=false∧Nat.beq i k=false)∧Ci nm k s F
theorem uP (nm k:Nat):mj nm k nm=k:=by simp[mj]
theorem AK {nm k j:Nat} (h:j≠nm):mj nm k j=j:=by
 unfold mj
 split
 ·rename_i q;exact absurd (Nat.eq_of_beq_eq_true q) h
 ·rfl
mutual
theorem VR.mj {g:Gh} {nm k:Nat}:∀ {v:AV} {c:Value},v.ed k=false→VR g v c→VR (g.alias k nm) (v.gg (mj nm k)) c
 | .any,_,_,_=>.any _
 | .oc,_,_,h=>by cases h with|oc h=>exact .oc h
 | .pv _,_,_,h=>by cases h with|pv h=>exact .pv (PR.congr (g:=g) (g':=g.alias k nm) (fun _ _ q=>q) h)
 | .ptr j off,_,hm,h=>by
  have hj:j≠k:=by simpa[AV.ed] using hm
  cases h with|ptr _ h=>
   by_cases q:j=nm
   ·subst q;simp only[AV.gg,uP];exact .ptr off (by simp[Gh.alias,h])
   ·simp only[AV.gg,AK q];exact .ptr off (by simp[Gh.alias,hj,h])
 | .arr j m,_,hm,h=>by
  have hj:j≠k:=by simpa[AV.ed] using hm
  by_cases q:j=nm
  ·subst q;simp only[AV.gg,uP]
   have e1:(g.alias k j).ρ k=g.ρ j:=by simp[Gh.alias]
   have e2:(g.alias k j).cp k=g.cp j:=by simp[Gh.alias]
   cases h with
   | arr _ h=>rw[← e2];exact .arr m (e1.trans h)
   | n5 h=>exact .n5 (e1.trans h)
  ·simp only[AV.gg,AK q]
   have e1:(g.alias k nm).ρ j=g.ρ j:=by simp[Gh.alias,hj]
   have e2:(g.alias k nm).cp j=g.cp j:=by simp[Gh.alias,hj]
   cases h with
   | arr _ h=>rw[← e2];exact .arr m (e1.trans h)
   | n5 h=>exact .n5 (e1.trans h)
 | .sp _,_,_,h=>by cases h with|sp off h hl hc=>exact .sp off h hl hc
 | .fn f x y,_,hm,h=>by
  simp[AV.ed] at hm
  cases h with|fn _ hx hy=>exact .fn f (ga.mj hm.1 hx) (ga.mj hm.2 hy)
 | .agg x,_,hm,h=>by cases h with|agg h=>exact .agg (ga.mj (by simpa[AV.ed] using hm) h)
 | .fX x,_,hm,h=>by cases h with|fX h=>exact .fX (ga.mj (by simpa[AV.ed] using hm) h)
 | .lF t x,_,hm,h=>by cases h with|lF _ h=>exact .lF t (VR.mj (by simpa[AV.ed] using hm) h)
theorem ga.mj {g:Gh} {nm k:Nat}:∀ {v:List AV} {c:List Value},AV.ed.fg k v=false→ga g v c→ga (g.alias k nm) (AV.gg.k7 (mj nm k) v) c
 | [],_,_,h=>by cases h;exact .nil
 | x::xs,_,hm,h=>by
  simp[AV.ed.fg] at hm
  cases h with|cons h t=>exact .cons (VR.mj hm.1 h) (ga.mj hm.2 t)
end
theorem kL.alias {g:Gh} {nm k:Nat} {ps:List PV} {vs:List Value} (h:kL g ps vs):kL (g.alias k nm) ps vs:=kL.congr (g:=g) (g':=g.alias k nm) (fun _ _ q=>q) h
theorem iv.mj {g:Gh} {w:World} {nm k j:Nat} {e:M} (hj:j≠k) (hm:AV.ed.fg k e.cells=false) (h:iv g w j e):iv (g.alias k nm) w j (e.gg (mj nm k)):=by
 have e1:(g.alias k nm).ρ j=g.ρ j:=by simp[Gh.alias,hj]
 have e2:(g.alias k nm).cp j=g.cp j:=by simp[Gh.alias,hj]
 cases h with
 | box h hw hc h1=>exact .box (e1.trans h) hw (hc.mj hm) h1
 | n5 h=>exact .n5 (e1.trans h)
 | arr h hw hl hz hx hc=>exact .arr (e1.trans h) hw hl (by rw[e2];exact hz) (by rw[e2];exact hx) hc.alias
 | uW h=>exact .uW (e1.trans h)
 | app h hG hw hl hz hx hc=>exact .app (e1.trans h) hG hw hl (by rw[e2];exact hz) (by rw[e2];exact hx) hc.alias
theorem iv.uP {g:Gh} {w:World} {nm k:Nat} {el:TypeId} {sz:Nat} {cells:List PV} (h:iv g w nm (.app el sz cells)):iv (g.alias k nm) w k (.app el sz cells):=by
 have e1:(g.alias k nm).ρ k=g.ρ nm:=by simp[Gh.alias]
 have e2:(g.alias k nm).cp k=g.cp nm:=by simp[Gh.alias]
 cases h with
 | uW h=>exact .uW (e1.trans h)
 | app h hG hw hl hz hx hc=>exact .app (e1.trans h) hG hw hl (by rw[e2];exact hz) (by rw[e2];exact hx) hc.alias
theorem wA {nm k:Nat} {l:List (Nat×AV)}:∀ {F:List (Nat×AV)},Ch nm k l F→∀ i,(∃ v,kc l i=v∧v.ed k=false∧kc F i=v.gg (mj nm k))∨kc F i=.any
 | [],_,i=>.inr rfl
 | (j,v')::F,h,i=>by
  obtain ⟨⟨v,h1,h2,h3⟩,ht⟩:=h
  simp only[kc]
  by_cases q:i=j
  ·subst q;rw[if_pos rfl];exact .inl ⟨v,eW h1,h2,h3.symm⟩
  ·rw[if_neg q];exact wA ht i
theorem wB {nm k:Nat} {s:List (Nat×M)}:∀ {F:List (Nat×M)},Ci nm k s F→∀ i e',U F i=some e'→∃ e,U s i=some e∧AV.ed.fg k e.cells=false∧e.gg (mj nm k)=e'∧i≠nm∧i≠k
 | [],_,i,e',h=>by cases h
 | (j,v')::F,h,i,e',he=>by
  obtain ⟨⟨e,h1,h2,h3,h4,h5⟩,ht⟩:=h
  simp only[U,jU] at he
  by_cases q:i=j
  ·subst q;rw[if_pos rfl] at he;cases he
   exact ⟨e,bW h1,M.w9 h2,h3,fun q=>by subst q;simp at h4,fun q=>by subst q;simp at h5⟩
  ·rw[if_neg q] at he;exact wB ht i e' he
theorem Cj (nm k:Nat) {e0:M} (he0:∀ g w,iv g w nm e0→iv (g.alias k nm) w k e0) (hnb:∀ cs,e0≠.box cs) (l':List (Nat×AV)) (s':List (Nat×M)) (hE:E.fix k=none) (hnk:Nat.beq nm k=false) (hk:dB s nm=some e0)
  (hd:ja nm ds=false∧ja k ds=false) (h1:Ch nm k l l') (h2:Ci nm k s s'):eT E n l ds s l' ((k,e0)::s'):=fun g a w hR hF=>by
 have hne:nm≠k:=fun q=>by subst q;simp at hnk
 have hks:=bW hk
 have hs':∀ i e',U ((k,e0)::s') i=some e'→(i=k∧e'=e0)∨(i≠k∧i≠nm∧∃ e,U s i=some e∧AV.ed.fg k e.cells=false∧e.gg (mj nm k)=e'):=fun i e' he=>by
  simp only[U,jU] at he
  by_cases q:i=k
  ·subst q;rw[if_pos rfl] at he;cases he;exact .inl ⟨rfl,rfl⟩
  ·rw[if_neg q] at he
   obtain ⟨e,h3,h4,h5,h6,h7⟩:=wB h2 i e' he
   exact .inr ⟨q,h6,e,h3,h4,h5⟩
 have hρk:(g.alias k nm).ρ k=g.ρ nm:=by simp[Gh.alias]
 have hρ:∀ j,j≠k→(g.alias k nm).ρ j=g.ρ j:=fun j hj=>by simp[Gh.alias,hj]
 have hcp:∀ j,j≠k→(g.alias k nm).cp j=g.cp j:=fun j hj=>by simp[Gh.alias,hj]
 have hold:∀ i,(U ((k,e0)::s') i).isSome=true→∃ j,(U s j).isSome=true∧(g.alias k nm).ρ i=g.ρ j∧((i=k∧j=nm)∨(i≠k∧i≠nm∧j=i)):=fun i hi=>by
  cases q:U ((k,e0)::s') i with
  | none=>rw[q] at hi;cases hi
  | some e'=>
   rcases hs' i e' q with ⟨rfl,_⟩|⟨q1,q2,e,q3,_⟩
   ·exact ⟨nm,by rw[hks];rfl,hρk,.inl ⟨rfl,rfl⟩⟩
   ·exact ⟨i,by rw[q3];rfl,hρ i q1,.inr ⟨q1,q2,rfl⟩⟩
 refine ⟨g.alias k nm,?_,⟨hF.size,fun i=>?_,?_⟩⟩
 ·exact {
      iZ:=fun i e' h=>by
       rcases hs' i e' h with ⟨rfl,rfl⟩|⟨q1,q2,e,q3,q4,rfl⟩
       ·exact he0 _ _ (hR.iZ nm _ hks)
       ·exact (hR.iZ i e q3).mj q1 q4
      inj:=fun i i' b h h' hb hb'=>by
       obtain ⟨j,j1,j2,j3⟩:=hold i h
       obtain ⟨j',j1',j2',j3'⟩:=hold i' h'
       have:=hR.inj j j' b j1 j1' (j2▸hb) (j2'▸hb')
       rcases j3 with ⟨rfl,rfl⟩|⟨q1,q2,rfl⟩<;>rcases j3' with ⟨rfl,rfl⟩|⟨q1',q2',rfl⟩
       ·rfl
       ·exact absurd this.symm q2'
       ·exact absurd this q2
       ·exact this
      gl:=fun b ys hb=>by
       obtain ⟨cs,el,fz,h1,h2,h3⟩:=hR.gl b ys hb
       exact ⟨cs,el,fz,h1,h2,h3.alias⟩
      apart:=fun i b e' h hea hb=>by
       rcases hs' i e' h with ⟨rfl,rfl⟩|⟨q1,q2,e,q3,q4,rfl⟩
       ·rw[hρk] at hb;exact hR.apart nm b _ hks hea hb
       ·exact hR.apart i b e q3 (by rw[← M.w8 (mj nm k) e];exact hea) (by rw[← hρ i q1];exact hb)
      size:=hR.size,nB:=hR.nB
      own:=fun i b h hb=>by
       obtain ⟨j,j1,j2,_⟩:=hold i h
       exact hR.own j b j1 (j2▸hb)
      fix:=fun i b h=>by
       have q:i≠k:=fun q=>by subst q;rw[hE] at h;cases h
       rw[hρ i q];exact hR.fix i b h
      ib:=fun i b h=>by
       have q:i≠k:=fun q=>by subst q;rw[hE] at h;cases h
       rw[hcp i q];exact hR.ib i b h
      g0:=hR.g0,gn:=hR.gn,os:=hR.os,out:=hR.out,tape:=hR.tape
      x:=hR.x.qS rfl rfl (fun i b hi hb=>by
       obtain ⟨j,j1,j2,j3⟩:=hold i hi
       refine ⟨j,j1,j2▸hb,?_⟩
       rcases j3 with ⟨_,rfl⟩|⟨_,_,rfl⟩
       ·exact .inr ⟨_,hks,hnb⟩
       ·exact .inl rfl) (fun i b e' hfi hi=>by
       rcases hs' i _ hi with ⟨rfl,q⟩|⟨q1,q2,e,q3,q4,q5⟩
       ·rw[hE] at hfi;cases hfi
       ·refine ⟨e,q3,fun ⟨c,q⟩=>?_⟩
        subst q;exact ⟨_,q5.symm⟩) }
 ·have hsl:=hF.gX i
  rcases wA h1 i with ⟨v,q1,q2,q3⟩|q
  ·simp only[Y] at hsl ⊢
   rw[q3];rw[q1] at hsl;exact hsl.mj q2
  ·simp only[Y];rw[q];exact .any _
 ·refine hF.ds.le (ju.alias g k nm) fun j q p hp=>?_
  subst q;exact ss hd.2 p hp
theorem kz (nm k:Nat) {el:TypeId} {sz:Nat} {cells:List PV} (l':List (Nat×AV)) (s':List (Nat×M)) (hE:E.fix k=none) (hnk:Nat.beq nm k=false) (hk:dB s nm=some (.app el sz cells))
  (hd:ja nm ds=false∧ja k ds=false) (h1:Ch nm k l l') (h2:Ci nm k s s'):eT E n l ds s l' ((k,.app el sz cells)::s'):=
 Cj nm k (fun _ _ h=>h.uP) (fun _ q=>by cases q) l' s' hE hnk hk hd h1 h2
theorem iv.Ck {g:Gh} {w:World} {nm k:Nat} {el:TypeId} {sz:Nat} {cells:List PV} (h:iv g w nm (.arr el sz cells)):iv (g.alias k nm) w k (.arr el sz cells):=by
 have e1:(g.alias k nm).ρ k=g.ρ nm:=by simp[Gh.alias]
 have e2:(g.alias k nm).cp k=g.cp nm:=by simp[Gh.alias]
 cases h with
 | n5 h=>exact .n5 (e1.trans h)
 | arr h hw hl hz hx hc=>exact .arr (e1.trans h) hw hl (by rw[e2];exact hz) (by rw[e2];exact hx) hc.alias
theorem jg (nm k:Nat) {el:TypeId} {sz:Nat} {cells:List PV} (l':List (Nat×AV)) (s':List (Nat×M)) (hE:E.fix k=none) (hnk:Nat.beq nm k=false) (hk:dB s nm=some (.arr el sz cells))
  (hd:ja nm ds=false∧ja k ds=false) (h1:Ch nm k l l') (h2:Ci nm k s s'):eT E n l ds s l' ((k,.arr el sz cells)::s'):=
 Cj nm k (fun _ _ h=>h.Ck) (fun _ q=>by cases q) l' s' hE hnk hk hd h1 h2
end
def cV (bytes a b:Nat):Prop:=(a+b)*bytes≤140737488355328∧a+b≤maxLen
instance (bytes a b:Nat):Decidable (cV bytes a b):=by unfold cV;exact inferInstance
theorem yn:∀ {a b:List PV},PV.iW a=true→PV.iW b=true→PV.iW (a++b)=true
 | [],_,_,h=>h
 | x::a,b,h,h'=>by simp[PV.iW] at h ⊢;exact ⟨h.1,yn h.2 h'⟩
theorem pd {α:Type} {C:α→List PV} (hC:∀ x,PV.iW (C x)=true):∀ l:List α,PV.iW (l.flatMap C)=true
 | []=>rfl
 | x::l=>by rw[List.flatMap_cons];exact yn (hC x) (pd hC l)
section
variable {P:Program} {E:Env} {n:Nat} {ops:Array Oper} {Q:dS} {rest:List Oper} {l:List (Nat×AV)} {ds:List (FuncId×List AV)} {s:List (Nat×M)}
 {ty:TypeId} {pos:String} {af:Array Edge}
structure wC (P:Program) (E:Env) (l:List (Nat×AV)) (ds:List (FuncId×List AV)) (s:List (Nat×M)) {α:Type} (C:α→List PV) (Cs:List α→List PV) (t e:TypeId) (sz bytes k nm:Nat) (a x:Operand) (xs ys:List α):Prop where
 hT:P.underlying t=some (.slice e)
 hB:pI P e=some (sz,bytes)
 lH:∀ l,Cs l=l.flatMap C
 hL:∀ x,(C x).length=sz
 h1:∀ x,PV.iW (C x)=true
 hE:E.fix nm=none
 hs:bT l a=some (.arr k (List.length xs))
 hk:dB s k=some (.app e sz (Cs xs))
 hx:bT l x=some (.pv (.sl (List.length ys) (Cs ys)))∨(ys=[]∧bT l x=some (Sc (.slice none 0 0)))
 hm:kF nm l=false∧ja nm ds=false∧vf nm [k] s=false
 hg:cV bytes (List.length xs) (List.length ys)
theorem wC.G2 {α:Type} {C:α→List PV} {Cs:List α→List PV} {t e:TypeId} {sz bytes k nm:Nat} {a x:Operand} {xs ys:List α} (h:wC P E l ds s C Cs t e sz bytes k nm a x xs ys) :
  Dw sz ((Y l ds).val x) (List.length ys) (Cs ys):=by
 rcases h.hx with q|⟨q1,q2⟩
 ·rw[aE q];exact .sl _ _ (by rw[h.lH,gN h.hL])
 ·rw[aE q2];subst q1;rw[h.lH];exact .nil
theorem wC.G3 {α:Type} {C:α→List PV} {Cs:List α→List PV} {t e:TypeId} {sz bytes k nm:Nat} {a x:Operand} {xs ys:List α} (h:wC P E l ds s C Cs t e sz bytes k nm a x xs ys) :
  ((U s).del k).clear nm:=by
 intro j e he
 unfold Z.del at he
 split at he
 ·cases he
 ·rename_i q
  refine lO h.hm.2.2 j e ?_ he
  cases hb:Nat.beq j k with
  | true=>exact absurd (Nat.eq_of_beq_eq_true hb) q
  | false=>simp[hb]
theorem lQ {α:Type} {C:α→List PV} {Cs:List α→List PV} {d:Nat} {t e:TypeId} {a x:Operand} {sz bytes k:Nat} (nm:Nat) {xs ys:List α} (h:wC P E l ds s C Cs t e sz bytes k nm a x xs ys) (hd:Nat.blt d n=true)
  (hn:SL P E n ops Q rest (Y ((d,.arr nm (List.length (xs++ys)))::l) ds) (U ((nm,.app e sz (Cs (xs++ys)))::nj k s))) :
  SL P E n ops Q (⟨some d,.call ⟨.builtin .append,#[a,x],#[t,t]⟩,ty,pos,af,none⟩::rest) (Y l ds) (U s):=by
 refine iA rfl (sU (nm:=nm) rfl h.hT h.hB (aE h.hs) (bW h.hk) (by rw[h.lH,gN h.hL]) h.G2 (by rw[h.lH];exact pd h.h1 ys) (fR h.hm.1 h.hm.2.1) h.G3 h.hE h.hg.1 h.hg.2 (lP hd) ?_)
 rw[← om,← List.length_append,show Cs xs++Cs ys=Cs (xs++ys) by rw[h.lH,h.lH,h.lH,List.flatMap_append]];exact hn
theorem yo {α:Type} {C:α→List PV} {Cs:List α→List PV} {j off k sz:Nat} {el:TypeId} {xs:List α} {cs:List AV} (lH:∀ l,Cs l=l.flatMap C) (hC:∀ x,(C x).length=sz) (hz:Nat.blt 0 sz=true) (hj:dB s j=some (.box cs)) (hc:cs[off]?=some (.arr k (List.length xs)))
  (hk:dB s k=some (.app el sz (Cs xs))) {cs':List AV} (hcs:cs.set off (.pv (.sl (List.length xs) (Cs xs)))=cs'):eT E n l ds s l ((j,.box cs')::s):=by
 subst hcs;exact DS hj hc hk hz (by rw[lH,gN hC])
theorem lY {α:Type} {C:α→List PV} {Cs:List α→List PV} {x:Operand} {k sz:Nat} {el:TypeId} {xs:List α} (lH:∀ l,Cs l=l.flatMap C) (hC:∀ x,(C x).length=sz) (hz:Nat.blt 0 sz=true) (hx:bT l x=some (.arr k (List.length xs))) (hk:dB s k=some (.app el sz (Cs xs))) :
  iC P (.move x) l ds s (.pv (.sl (List.length xs) (Cs xs))) [(k,.app el sz (Cs xs))]:=FF hx hk hz (by rw[lH,gN hC])
theorem nE {α:Type} {C:α→List PV} {Cs:List α→List PV} {t:TypeId} {x:Operand} {k j off sz:Nat} {el:TypeId} {xs:List α} {e:M} [ha:ic P t false] (lH:∀ l,Cs l=l.flatMap C) (hC:∀ x,(C x).length=sz) (hz:Nat.blt 0 sz=true)
  (hx:bT l x=some (.ptr k off)) (hk:dB s k=some e) (hv:e.cells[off]?=some (.arr j (List.length xs))) (hj:dB s j=some (.app el sz (Cs xs))) :
  iC P (.load t x) l ds s (.pv (.sl (List.length xs) (Cs xs))) [(k,e),(j,.app el sz (Cs xs))]:=B7 hx hk hv hj hz (by rw[lH,gN hC])
theorem yp {d:Nat} {v:AV} (hd:jK l d=some v) {v':AV} (hv:v.nz=v'):eT E n l ds s ((d,v')::l) s:=fun g a w hR hF=>by
 subst hv
 refine ⟨g,hR,hF.size,fun i=>?_,hF.ds⟩
 have h:=hF.gX i
 by_cases q:i=d
 ·subst q;simp only[Y,kc,if_true];simp only[Y,eW hd] at h;exact AV.Cd v g _ h
 ·simpa[Y,kc,q] using h
theorem AV.zV (v:AV):v.le .any:=fun _ _ _=>.any _
theorem AL:∀ (cs:List AV) (off:Nat),xU cs (cs.set off .any)
 | [],_=>.nil
 | c::cs,0=>.cons (AV.zV c) (vl cs)
 | c::cs,off+1=>.cons (AV.le_refl c) (AL cs off)
where vl:∀ cs:List AV,xU cs cs
 | []=>.nil
 | c::cs=>.cons (AV.le_refl c) (vl cs)
theorem AM:∀ (cs:List AV) (off:Nat) (v:AV),cs[off]?=some v→xU cs (cs.set off v.nz)
 | [],_,_,h=>by simp at h
 | c::cs,0,v,h=>by simp at h;subst h;exact .cons (AV.Cd c) (AL.vl cs)
 | c::cs,off+1,v,h=>.cons (AV.le_refl c) (AM cs off v (by simpa using h))
theorem gE (j off:Nat) {cs cs':List AV} {v:AV} (hj:dB s j=some (.box cs)) (hv:cs[off]?=some v) (hn:cs.set off v.nz=cs'):eT E n l ds s l ((j,.box cs')::s):=by subst hn;exact AJ hj (AM cs off v hv)
end
section
variable {P:Program} {E:Env} {n:Nat} {ops:Array Oper} {Q:dS} {B:List Rec→ew→Z→Prop} {i:Nat} {L:List Nat} {recs:List Rec} {l:List (Nat×AV)} {ds:List (FuncId×List AV)} {s:List (Nat×M)}
 {ty:TypeId} {pos:String} {af:Array Edge}
theorem gi {l':List (Nat×AV)} {s':List (Nat×M)} (hg:eT E n l ds s l' s') (h:Q .normal (Y l' ds) (U s')):DW P E n ops (GN E n ds Q) [] recs (Y l ds) (U s):=⟨l,s,l',s',rfl,rfl,hg,h⟩
theorem ig {α:Type} {C:α→List PV} {Cs:List α→List PV} (xs:List α) (lH:∀ l,Cs l=l.flatMap C) {d:Nat} {t e:TypeId} {m sz:Nat} {parts:List (Nat×Operand)} {zs:List Value} {pl:List (Nat×Nat)} {pv:List (Nat×AV)}
  {gd:Option (Nat×Bool)} [ht:kg P t m e sz zs pl] (ho:ops[i]?=some ⟨some d,.buildSlice t m parts.toArray,ty,pos,af,gd⟩) (hw:gC ops ⟨some d,.buildSlice t m parts.toArray,ty,pos,af,gd⟩ (Y l ds))
  (h:parts.mapM (fun p=>(bT l p.2).map fun v=>(p.1,v))=some pv∧k6 pl (zs.map fun v=>.pv (.sc v)) pv=some ((xs.flatMap C).map .pv))
  (hc:dN ⟨some d,.buildSlice t m parts.toArray,ty,pos,af,gd⟩=false∧Nat.blt d n=true)
  (hn:lC P E n ops Q B L (⟨i,some d,[],none⟩::recs) (Y ((d,.pv (.sl m (Cs xs)))::l) ds) (U s)):lC P E n ops Q B (i::L) recs (Y l ds) (U s):=by
 refine ⟨_,ho,.fz hw hc.1 (v:=.pv (.sl m (Cs xs))) ?_ (lP hc.2) (fun _ _ _ _=>rfl) hn⟩
 rw[lH]
 refine sd ht.h ?_
 rw[sZ h.1];exact h.2
theorem xi {α:Type} {C:α→List PV} {Cs:List α→List PV} {d:Nat} {t e:TypeId} {a x:Operand} {sz bytes k:Nat} {gd:Option (Nat×Bool)} (nm:Nat) {xs ys:List α}
  (ho:ops[i]?=some ⟨some d,.call ⟨.builtin .append,#[a,x],#[t,t]⟩,ty,pos,af,gd⟩) (hw:gC ops ⟨some d,.call ⟨.builtin .append,#[a,x],#[t,t]⟩,ty,pos,af,gd⟩ (Y l ds))
  (h:wC P E l ds s C Cs t e sz bytes k nm a x xs ys) (hd:Nat.blt d n=true) (hnm:jW recs=true)
  (hn:la ops i ((nm,.app e sz (Cs (xs++ys)))::nj k s) recs∧lC P E n ops Q B L recs (Y ((d,.arr nm (List.length (xs++ys)))::l) ds) (U ((nm,.app e sz (Cs (xs++ys)))::nj k s))) :
  lC P E n ops Q B (i::L) recs (Y l ds) (U s):=by
 refine ⟨_,ho,.dN hw rfl (.append (nm:=nm) rfl h.hT h.hB (aE h.hs) (bW h.hk) (by rw[h.lH,gN h.hL]) h.G2 (by rw[h.lH];exact pd h.h1 ys) (fR h.hm.1 h.hm.2.1) h.G3 h.hE h.hg.1 h.hg.2 (lP hd) ?_)
  (fun r hr k' _=>by rw[et hnm r (List.mem_filter.1 hr).1];simp)⟩
 have e1:((U s).del k).set nm (.app e sz (Cs xs++Cs ys))=U ((nm,.app e sz (Cs (xs++ys)))::nj k s):=by
  rw[← om,show Cs xs++Cs ys=Cs (xs++ys) by rw[h.lH,h.lH,h.lH,List.flatMap_append]];rfl
 rw[e1,← List.length_append]
 exact ⟨fun r hr=>⟨fun p hp=>(let ⟨e,h1,h2⟩:=hn.1 r hr p hp;⟨e,bW h1,h2⟩),fun nm q=>by rw[et hnm r (List.mem_filter.1 hr).1] at q;cases q⟩,hn.2⟩
end
end Go.Abs
end
section
namespace Go.Abs
open D
def M.lost:M→M
 | .box cs=>.box (cs.map fun _=>.any)
 | e=>e
def gy:List M→Bool
 | []=>true
 | .box _::es=>gy es
 | _::_=>false
theorem AN (g:Gh):∀ {cells:List AV} {vs:List Value},cells.length=vs.length→ga g (cells.map fun _=>AV.any) vs
 | [],[],_=>.nil
 | _::cells,v::vs,h=>.cons (.any v) (AN g (by simpa using h))
 | [],_::_,h=>by simp at h
 | _::_,[],h=>by simp at h
theorem Rel.lost {wS:World} {g g':Gh} {σ σ':Z} {w w':World} (h0:Rel (Env.of wS g σ w) g σ w) (hb:∀ k e,σ k=some e→∃ cs,e=.box cs) (h:Rel (Env.of wS g σ w) g' σ' w') :
    Rel (Env.of wS g σ w) g' (fun k=>(σ k).map M.lost) w':=by
  have key:∀ k e,(σ k).map M.lost=some e→∃ cs b,σ k=some (.box cs)∧e=.box (cs.map fun _=>.any)∧g.ρ k=some b∧g'.ρ k=some b∧(Env.of wS g σ w).fix k=some b:=fun k e he=>by
    cases q:σ k with
    | none=>rw[q] at he;cases he
    | some e0=>
      rw[q] at he
      obtain ⟨cs,rfl⟩:=hb k e0 q
      have he':e=.box (cs.map fun _=>.any):=by simpa[M.lost] using he.symm
      cases h0.iZ k _ q with
      | box h1 h2 h3=>
        rename_i b _ _ _
        have hf:(Env.of wS g σ w).fix k=some b:=by simp only[Env.of,q];exact h1
        exact ⟨cs,b,rfl,he',h1,h.fix k b hf,hf⟩
  have hks:∀ k,((σ k).map M.lost).isSome=true→∃ e,(σ k).map M.lost=some e:=fun k hk=>by
    cases q:(σ k).map M.lost with
    | none=>rw[q] at hk;cases hk
    | some e=>exact ⟨e,rfl⟩
  exact {
          iZ:=fun k e he=>by
            obtain ⟨cs,b,h1,rfl,h3,h4,h5⟩:=key k e he
            cases h0.iZ k _ h1 with
            | box h6 h7 h8 h13=>
              rw[h3] at h6;cases h6
              obtain ⟨cs',h9,h10⟩:=h.x.vN b _ _ _ h7
              obtain ⟨cs'',h11,h12⟩:=h.x.flat k b _ _ _ h5 h7 h13
              rw[h9] at h11;cases h11
              refine .box h4 h9 (AN g' ?_) h12
              rw[h8.length];simp[h10]
          inj:=fun k k' b hk hk' hb hb'=>by
            obtain ⟨e,he⟩:=hks k hk
            obtain ⟨e',he'⟩:=hks k' hk'
            obtain ⟨cs,c,h1,_,h3,h4,_⟩:=key k e he
            obtain ⟨cs',c',h1',_,h3',h4',_⟩:=key k' e' he'
            rw[h4] at hb;cases hb
            rw[h4'] at hb';cases hb'
            exact h0.inj k k' _ (by rw[h1];rfl) (by rw[h1'];rfl) h3 h3'
          gl:=h.gl
          apart:=fun k b e he _ hb=>by
            obtain ⟨cs,c,h1,_,h3,h4,h5⟩:=key k e he
            rw[h4] at hb;cases hb
            exact h.x.nc k _ h5
          size:=h.size,nB:=h.nB
          own:=fun k b hk hb=>by
            obtain ⟨e,he⟩:=hks k hk
            obtain ⟨cs,c,h1,_,h3,h4,_⟩:=key k e he
            rw[h4] at hb;cases hb
            exact .inl ⟨k,by rw[h1];rfl,h3⟩
          fix:=h.fix,ib:=h.ib,g0:=h.g0,gn:=h.gn,os:=h.os,out:=h.out,tape:=h.tape
          x:={
                 vN:=h.x.vN,flat:=h.x.flat,set:=h.x.set,vO:=h.x.vO
                 hi:=fun k b hk hb=>by
                   obtain ⟨e,he⟩:=hks k hk
                   obtain ⟨cs,c,h1,_,h3,h4,_⟩:=key k e he
                   rw[h4] at hb;cases hb
                   exact h0.x.hi k b (by rw[h1];rfl) h3
                 gf:=h.x.gf
                 mG:=h.x.mG,nc:=h.x.nc
                 mH:=fun k b k' hf hk hb=>by
                   obtain ⟨e,he⟩:=hks k' hk
                   obtain ⟨cs,c,h1,_,h3,h4,h5⟩:=key k' e he
                   rw[h4] at hb;cases hb
                   have h6:=h.fix k _ hf
                   simp only[Env.of] at hf
                   split at hf
                   · rename_i cs0 hc
                     exact h0.inj k' k _ (by rw[h1];rfl) (by rw[hc];rfl) h3 hf
                   · cases hf
                 mI:=fun k b e hf hk=>by
                   obtain ⟨cs,c,h1,h2,_⟩:=key k _ hk
                   exact ⟨_,h2⟩ } }
def HC {X:Type} (V:X→AV) (C:X→List M) (G:X→Prop) (H:AV→Prop) (es:List M):n7→Z→Prop:=
 fun ae σ=>(∃ x,G x∧ae=.ret (V x)∧σ=U (ez 0 (C x)))∨(∃ v,H v∧ae=.panic v∧σ=U (ez 0 (es.map M.lost)))
theorem yq:∀ {es:List M} {i:Nat},U (ez i (es.map M.lost))=fun k=>(U (ez i es) k).map M.lost
 | [],i=>by funext k;rfl
 | e::es,i=>by
  funext k
  have ih:=congrFun (yq (es:=es) (i:=i+1)) k
  simp only[List.map_cons,ez,U,jU] at ih ⊢
  split
  ·rfl
  ·exact ih
theorem vm:∀ {es:List M},gy es=true→∀ {j:Nat} {e:M},es[j]?=some e→∃ cs,e=.box cs
 | [],_,j,e,h=>by simp at h
 | .box cs::es,h,0,e,he=>by simp at he;exact ⟨cs,he.symm⟩
 | .box cs::es,h,j+1,e,he=>vm (es:=es) (by simpa[gy] using h) (by simpa using he)
 | .arr _ _ _::es,h,_,_,_=>by simp[gy] at h
 | .app _ _ _::es,h,_,_,_=>by simp[gy] at h
theorem SC.lost {P:Program} {f:FuncId} {args:List AV} {es:List M} {X:Type} {V:X→AV} {C:X→List M} {G:X→Prop} {H:AV→Prop} (hb:gy es=true) (h:SC P f args (U (ez 0 es)) (pL V C G H)) :
  SC P f args (U (ez 0 es)) (HC V C G H es):=fun wS g w vs hR hv=>(h wS g w vs hR hv).mono fun e w' ⟨g',ae,σ',q,hE,hR'⟩=>by
 rcases q with q|⟨v,hH,rfl,rfl⟩
 ·exact ⟨g',ae,σ',.inl q,hE,hR'⟩
 ·refine ⟨g',_,U (ez 0 (es.map M.lost)),.inr ⟨v,hH,rfl,rfl⟩,hE,?_⟩
  rw[yq]
  exact hR.lost (fun k e hk=>by
   obtain ⟨_,h2⟩:=fi hk
   exact vm hb h2) hR'
section
variable {P:Program} {E:Env} {n:Nat} {ops:Array Oper} {Q:dS} {rest:List Oper} {l:List (Nat×AV)} {ds:List (FuncId×List AV)} {s:List (Nat×M)}
theorem rl (m:Nat):(List.range m).contains=below m:=by
 funext j
 have h1:(List.range m).contains j=decide (j<m):=by
  by_cases q:j<m<;>simp[q]
 rw[h1];simp only[below]
 by_cases q:j<m
 ·simp[q,lV.2 q]
 ·have:Nat.blt j m=false:=by
   cases h:Nat.blt j m with
   | false=>rfl
   | true=>exact absurd (lV.1 h) q
  simp[q,this]
theorem nM {ks:List Nat} (hnd:nodupB ks=true) {cs:List M} (h1:cs.length=ks.length) :
  after (U s) (nth ks) (List.range ks.length) (List.range ks.length) (U (ez 0 cs))=U (kR ks (jL (nth ks) cs)++s):=by
 funext k
 rw[xe (by rw[gL,h1]) hnd]
 simp only[after]
 cases hf:(List.range ks.length).find? (fun j=>nth ks j==k) with
 | some j=>
  have hj:=List.mem_of_find?_eq_some hf
  simp at hj
  simp only[lW]
  have:j<cs.length:=by omega
  rw[List.getElem?_eq_getElem this]
  have h6:=mg (i:=0) (List.getElem?_eq_getElem this)
  simp at h6
  rw[h6]
 | none=>
  have:(List.range ks.length).any (fun j=>nth ks j==k)=false:=by
   rw[List.any_eq_false];intro j hj
   have:=List.find?_eq_none.1 hf j hj
   simpa using this
  simp[this]
theorem nk {es:List M} {j:Nat} (hj:(U (ez 0 es) j).isSome=true):j<es.length:=by
 cases q:U (ez 0 es) j with
 | none=>rw[q] at hj;cases hj
 | some e=>
  obtain ⟨_,h2⟩:=fi q
  have:=(List.getElem?_eq_some_iff.1 h2).1
  simpa using this
theorem tJ (p:Nat→Bool):∀ {es:List M},gy es=true→jd p (es.map M.lost)=true
 | [],_=>rfl
 | .box cs::es,h=>by
  simp only[List.map_cons,jd,M.lost,M.oq,Bool.and_eq_true]
  refine ⟨?_,tJ p (by simpa[gy] using h)⟩
  have:∀ cs:List AV,AV.only.jJ p (cs.map fun _=>AV.any)=true:=fun cs=>by
   induction cs with
   | nil=>rfl
   | cons c cs ih=>simp[AV.only.jJ,AV.only,ih]
  exact this cs
 | .arr _ _ _::_,h=>by simp[gy] at h
 | .app _ _ _::_,h=>by simp[gy] at h
theorem pf {fr:ew} {ks:List Nat} {es:List M} (hfr:fr.s=(Y l ds).s∧fr.ds=ds) (hl:es.length=ks.length) (hnd:nodupB ks=true) (hbx:AD l ds s ks ks es=true) (hfx:vP E ks es)
  {cs:List M} {v:AV} (hcs:cs.length=ks.length) (ho:jd (below ks.length) cs=true) (hv:v.only (below ks.length)=true) :
  uA E fr (U s) (nth ks) (List.range ks.length) (List.range ks.length) (U (ez 0 es)) (U (ez 0 cs)) v:=by
 have hfr':fr=Y l ds:=by cases fr;simp only[Y] at hfr ⊢;rw[hfr.1,hfr.2]
 subst hfr'
 refine { DH:=fun j e hj=>?_,val:=by rw[rl];exact hv,inj:=fun j j' hj hj' he=>ni hnd (by simpa using hj) (by simpa using hj') he,same:=fun j hj=>?_ }
 ·obtain ⟨_,h4⟩:=fi hj
  have h5:=(List.getElem?_eq_some_iff.1 h4).1
  exact ⟨by simp;omega,by rw[rl];exact rj ho h4⟩
 ·have hj':j<es.length:=by simp at hj;omega
  rcases tB hbx hfx (by simpa using hj) (List.getElem?_eq_getElem hj') with ⟨cs,hcs⟩|⟨q1,q2,q3,q4⟩
  ·exact .inl ⟨cs,by have:=mg (i:=0) (List.getElem?_eq_getElem hj');rw[hcs] at this;simpa using this⟩
  ·exact .inr ⟨fR q1 q2,fun k e hkl he=>lO q3 k e (xf hkl) he,q4⟩
theorem zW {o:Oper} {X:Type} {V:X→AV} {C:X→List M} {G:X→Prop} {H:AV→Prop} {f:Operand} {args:List Operand} {ts:Array TypeId} {fid:FuncId} {argsC first cap vs:List AV} {es:List M}
  {next:ew→Z→Prop} (ks:List Nat) (hen:Enters P fid) (ho:o.op=.call ⟨.value f,args.toArray,ts⟩) (hC:SC P fid argsC (U (ez 0 es)) (pL V C G H)) (hk:kS E ds l s ks f args fid argsC es first cap vs) (hbb:gy es=true)
  (hd:∀ d,o.dst=some d→d<n) (hx:∀ x,G x→(C x).length=ks.length∧jd (below ks.length) (C x)=true∧(V x).only (below ks.length)=true)
  (hret:∀ x,G x→next ((Y l ds).hY o.dst ((V x).gg (nth ks))) (U (kR ks (jL (nth ks) (C x))++s)))
  (hpan:∀ v,H v→v.only (fun _=>false)=true∧Q (.panic v) (Y l ds) (U (kR ks (jL (nth ks) (es.map M.lost))++s))):Step P E n Q o (Y l ds) (U s) next:=by
 obtain ⟨hl,hat⟩:=nJ hk.gs
 rw[gL] at hl
 refine wq (nth ks) (List.range ks.length) hen ho (aE hk.f) (by rw[kQ hk.a];exact hk.e) (hC.lost hbb) (fun j hj=>by have:=nk hj;simp;omega) (fun j e hj=>?_)
  (fun j j' hj hj' he=>ni hk.nd (by have:=nk hj;omega) (by have:=nk hj';omega) he) hd (fun v σc hr=>?_) (fun v σc hr=>?_)
 ·obtain ⟨_,h2⟩:=fi hj
  exact hat j _ (by rw[lW,show j=j - 0 by omega,h2];rfl)
 ·rcases hr with ⟨x,hg,he,rfl⟩|⟨_,_,he,_⟩
  ·cases he
   obtain ⟨h1,h2,h3⟩:=hx x hg
   exact ⟨List.range ks.length,pf ⟨rfl,rfl⟩ hl hk.nd hk.bx hk.fx h1 h2 h3,by rw[nM hk.nd h1];exact hret x hg⟩
  ·cases he
 ·rcases hr with ⟨_,_,he,_⟩|⟨v',hh,he,rfl⟩
  ·cases he
  ·cases he
   obtain ⟨h1,h2⟩:=hpan v hh
   refine ⟨List.range ks.length,pf ⟨rfl,rfl⟩ hl hk.nd hk.bx hk.fx (by simp[hl]) (tJ _ hbb) (rS (fun k hk=>by cases hk) h1),?_⟩
   rw[nM hk.nd (by simp[hl]),o5 h1];exact h2
end
section
variable {P:Program} {E:Env} {n:Nat} {ops:Array Oper} {Q:dS} {rest:List Oper} {fr:ew} {σ:Z}
theorem Cn {o:Oper} {x:Operand} {ts:Array TypeId} {fid:FuncId} {cap:List AV} {next:ew→Z→Prop} (ho:o.op=.defer ⟨.value x,#[],ts⟩) (hx:fr.val x=.fn fid [] cap) (hd:∀ d,o.dst=some d→d<n)
  (hn:next (ew.hY ⟨fr.s,(fid,cap)::fr.ds⟩ o.dst .any) σ):Step P E n Q o fr σ next:=by
 intro g a w K hR hF hK
 have q:=hF.eval x;rw[hx] at q
 generalize hq:a.eval x=c at q
 cases q with
 | fn _ h1 h2=>
  rename_i xs ys
  have hxs:xs=[]:=by cases h1;rfl
  subst hxs
  have hrun:(execOp a.eval o).run P w=.ok (.defer { target:=.fn (.func fid) ys.toArray,args:=#[] }) w:=by
   simp[execOp,ho,resolve,hq,Deferred.ofValue]
  simp only[Oper.wp,hrun,Oper.upon]
  refine hK g _ _ _ _ hn hR ?_
  have hF':FR n g ⟨fr.s,(fid,cap)::fr.ds⟩ { a with defers:={ target:=.fn (.func fid) ys.toArray,args:=#[] }::a.defers }:=⟨hF.size,hF.gX,.cons h2 hF.ds⟩
  exact hF'.put hd (.any _)
theorem xj {l:List (Nat×AV)} {ds:List (FuncId×List AV)} {s:List (Nat×M)} {ty:TypeId} {pos:String} {af:Array Edge} {x:Operand} {ts:Array TypeId} {fid:FuncId} {cap:List AV} (hx:bT l x=some (.fn fid [] cap))
  (hn:SL P E n ops Q rest (Y l ((fid,cap)::ds)) (U s)):SL P E n ops Q (⟨none,.defer ⟨.value x,#[],ts⟩,ty,pos,af,none⟩::rest) (Y l ds) (U s):=
 iA rfl (Cn rfl (aE hx) (fun _ q=>by cases q) hn)
def HQ:Option Value→FrameMode→Prop
 | none,u=>u=.returning
 | some c,u=>u=.panicking [{ v:=c,recovered:=false }]
def HR (P:Program) (f:FuncId) (cap:List AV) (σ:Z) (m:Option Value) (R:Z→Prop):Prop:=
 ∀ (wS:World) (g:Gh) (w:World) (vs:List Value) (u:FrameMode),Rel (Env.of wS g σ w) g σ w→ga g cap vs→HQ m u→
  CallsD P f vs.toArray u w fun e u' w'=>(∃ v,e=.returned v)∧settle u'=.returning∧∃ g' σ',R σ'∧Rel (Env.of wS g σ w) g' σ' w'
def Bg (P:Program) (f:FuncId) (cap:List AV) (es:List M) (m:Option Value) {X:Type} (res:D X) (C:X→List M):Prop:=
 ∀ r,res=r→r≠.stuck→HR P f cap (U (ez 0 es)) m (fun σ=>∃ x,r=.ok x∧σ=U (ez 0 (C x)))
def Bh (P:Program) (E:Env) (fn:Func) (R:n7→Z→Prop) (fid:FuncId) (cap:List AV) (m:Option Value) (fr:ew) (σ:Z):Prop:=
 ∃ (π:Nat→Nat) (L:List Nat) (σ0:Z) (capC:List AV) (R0:Z→Prop),Enters P fid∧cap=AV.gg.k7 π capC∧HR P fid capC σ0 m R0∧(∀ j,(σ0 j).isSome=true→L.contains j=true)∧
  (∀ j e,σ0 j=some e→σ (π j)=some (e.gg π))∧(∀ j j',(σ0 j).isSome=true→(σ0 j').isSome=true→π j=π j'→j=j')∧
  ∀ σc,R0 σc→uA E fr σ π L L σ0 σc (.fX [])∧nf P fn R .ret ⟨fr.s,[]⟩ (after σ π L L σc)
def uo (P:Program) (E:Env) (fn:Func) (R:n7→Z→Prop):dS
 | .normal,fr,σ|.ret,fr,σ=>nf P fn R .ret fr σ∨∃ fid cap,fr.ds=[(fid,cap)]∧Bh P E fn R fid cap none fr σ
 | .panic v,fr,σ=>nf P fn R (.panic v) fr σ∨∃ fid cap c,fr.ds=[(fid,cap)]∧(∀ g c',VR g v c'→c'=c)∧Bh P E fn R fid cap (some c) fr σ
 | _,_,_=>False
theorem Bi {f:FuncId} {fn:Func} {c:Code} {args:List AV} {R:n7→Z→Prop} (hf:P.funcs[f]?=some fn) (hb:fn.body=some c) (hn:args.length≤fn.ntmps)
  (h:∀ E:Env,(∀ k,(∀ cs,σ k≠some (.box cs))→E.fix k=none)→SW P E fn.ntmps c (uo P E fn R) ⟨fun i=>args[i]?.getD .any,[]⟩ σ):SC P f args σ R:=by
 intro wS g w vs hR hv
 have hE:∀ k,(∀ cs,σ k≠some (.box cs))→(Env.of wS g σ w).fix k=none:=fun k hk=>by
  cases q:σ k with
  | none=>simp only[Env.of,q]
  | some e=>cases e with
   | box cs=>exact absurd q (hk cs)
   | arr el sz cs=>simp only[Env.of,q]
   | app el sz cs=>simp only[Env.of,q]
 have hlen:=hv.length
 refine calls_of_wp_defers hf hb (wp_mono (h _ hE g { tmps:=vs.toArray++Array.replicate (fn.ntmps - vs.toArray.size) undef,defers:=[] } w hR ⟨by simp;omega,fun i=>?_,.nil⟩) fun e a w' hq=>?_)
 ·rw[Array.getD_eq_getD_getElem?]
  rcases Nat.lt_or_ge i args.length with q|q
  ·obtain ⟨c,h1,h2⟩:=hv.get i args[i] (by simp)
   have:(vs.toArray++Array.replicate (fn.ntmps - vs.toArray.size) undef)[i]?=some c:=by
    rw[Array.getElem?_append_left (by simp;omega)];simpa using h1
   rw[this]
   simp[q];exact h2
  ·have e:args[i]?=none:=List.getElem?_eq_none q
   simp only[e,Option.getD_none];exact .any _
 ·obtain ⟨g',ae,fr',σ',q,hx,hR',hF'⟩:=hq
  have fin:∀ g' (fr':ew) (a:Act) σ' w',Rel (Env.of wS g σ w) g' σ' w'→FR fn.ntmps g' fr' a→nf P fn R .ret fr' σ'→
    ∃ c,(results fn a.tmps).run P w'=.ok c w'∧∃ g' ae σ',R ae σ'∧ER g' ae (.returned c)∧Rel (Env.of wS g σ w) g' σ' w':=by
   intro g' fr' a σ' w' hR' hF' ⟨_,vs,v,σ2,h1,h2,hs,h3⟩
   obtain ⟨cs,h4,h5⟩:=h1.run hR' hF'
   refine ⟨if hh:cs.toArray.size=1 then cs.toArray[0] else .tuple cs.toArray,?_,g',.ret v,σ2,h3,.ret (h2 g' _ h5.mJ),hR'.sub hs⟩
   rw[su,← Array.toArray_toList (xs:=fn.results)]
   simp only[List.mapM_toArray,Sem.run_bind,Sem.run_map,h4,Result.andThen_ok,Sem.run_pure]
  have runs:∀ fid cap m u,fr'.ds=[(fid,cap)]→Bh P (Env.of wS g σ w) fn R fid cap m fr' σ'→HQ m u→u≠.run→
    Leaves P fn a.tmps (fun e w'=>∃ g' ae σ',R ae σ'∧ER g' ae e∧Rel (Env.of wS g σ w) g' σ' w') a.defers u w':=by
   intro fid cap m u hds ⟨π,L,σ0,capC,R0,hen,hcap,hC,hL,hσ,hinj,hback⟩ hm hu
   have hdr:=hF'.ds;rw[hds] at hdr
   generalize hdf:a.defers=dd at hdr
   cases hdr with
   | cons hv hnil=>
    rename_i cv ds
    have:ds=[]:=hnil.ng
    subst this
    rw[hcap] at hv
    refine ⟨hu,.func fid,cv.toArray,fid,cv.toArray,rfl,by simpa[invoke] using hen cv.toArray w',?_⟩
    refine (hC (Env.of wS g σ w).wS (g'.pull π) w' cv u (Ax hR' hσ hinj) hv.pull hm).mono fun e u' w2 ⟨⟨v,he⟩,hset,g2,σ2,hr0,hR2⟩=>?_
    subst he
    obtain ⟨hB,hpost⟩:=hback σ2 hr0
    obtain ⟨h1,h2,_⟩:=tv (v:=.fX []) (c:=.tuple #[]) hR' hF' hL hσ hB hR2 (.fX .nil)
    simp only[hset]
    exact fin _ ⟨fr'.s,[]⟩ { tmps:=a.tmps,defers:=[] } _ _ h1 ⟨h2.size,h2.gX,.nil⟩ hpost
  cases hx with
  | normal=>
   rcases q with q|⟨fid,cap,hds,hrun⟩
   ·have hd:=hF'.ds;rw[q.1] at hd
    simp only[bodyPostD,hd.ng]
    exact fin _ _ _ _ _ hR' hF' q
   ·exact runs fid cap none .returning hds hrun rfl (by simp)
  | ret=>
   rcases q with q|⟨fid,cap,hds,hrun⟩
   ·have hd:=hF'.ds;rw[q.1] at hd
    simp only[bodyPostD,hd.ng]
    exact fin _ _ _ _ _ hR' hF' q
   ·exact runs fid cap none .returning hds hrun rfl (by simp)
  | panic hv=>
   rcases q with ⟨hd,σ2,hs,h1⟩|⟨fid,cap,c,hds,hc,hrun⟩
   ·have hdd:=hF'.ds;rw[hd] at hdd
    simp only[bodyPostD,hdd.ng]
    exact ⟨g',_,σ2,h1,.panic hv,hR'.sub hs⟩
   ·rw[hc _ _ hv]
    exact runs fid cap (some c) _ hds hrun rfl (by simp)
  | exit id=>exact q.elim
  | goto l=>exact q.elim
end
section
variable {P:Program} {E:Env} {n:Nat} {ops:Array Oper} {Q:dS} {rest:List Oper} {l:List (Nat×AV)} {ds:List (FuncId×List AV)} {s:List (Nat×M)} {ty:TypeId} {pos:String} {af:Array Edge}
theorem Co {f:FuncId} {fn:Func} {c:Code} {args:List AV} {es:List M} {X:Type} {res:D X} {V:X→AV} {C:X→List M} (hf:P.funcs[f]?=some fn) (hb:fn.body=some c) (hn:Nat.ble args.length fn.ntmps=true)
  (h:∀ r,res=r→r≠.stuck→∀ E:Env,(∀ k,kh es k=true→E.fix k=none)→
   SW P E fn.ntmps c (uo P E fn (pL V C (fun x=>r=.ok x) (fun v=>∃ p,r=.kT p∧v=p.av))) (Y ((List.range args.length).zip args) []) (U (ez 0 es))):CT P f args es res V C:=
 fun r hr hs=>Bi hf hb (Nat.le_of_ble_eq_true hn) fun E hE=>by
  rw[vi]
  refine h r hr hs E fun k hk=>hE k fun cs hcs=>?_
  obtain ⟨_,h2⟩:=fi hcs
  have h3:∀ (es:List M) (k:Nat),kh es k=true→es[k]?≠some (.box cs):=by
   intro es
   induction es with
   | nil=>intro k _;simp
   | cons e es ih=>
    intro k hk
    cases k with
    | zero=>intro q;simp at q;subst q;simp[kh] at hk
    | succ k=>simpa using ih k (by cases e<;>simpa[kh] using hk)
  exact h3 es k hk (by simpa using h2)
def nN {α:Type} (x:D α) (h:oj→D α):D α:=match x with
 | .stuck=>.stuck
 | .kT p=>h p
 | .ok a=>.ok a
theorem uQ {α:Type} {x:D α} {h:oj→D α} {r:D α} (hr:r≠.stuck) (hc:nN x h=r):∃ r0,r0≠.stuck∧x=r0∧nN r0 h=r:=by
 refine ⟨x,?_,rfl,hc⟩
 intro q;subst q;exact hr hc.symm
def sB {α:Type} (T:TypeId) (p:oj) (k:Int→D α):D α:=match p with
 | ⟨t,[.sc (.int .i64 v)]⟩=>if t=T then k v else .stuck
 | _=>.stuck
theorem lR {α:Type} {T:TypeId} {p:oj} {k:Int→D α} {r:D α} (hr:r≠.stuck) (h:sB T p k=r):∃ v,p=⟨T,[.sc (.int .i64 v)]⟩∧k v=r:=by
 unfold sB at h
 split at h
 ·split at h
  ·rename_i v q;subst q;exact ⟨v,rfl,h⟩
  ·exact absurd h.symm hr
 ·exact absurd h.symm hr
theorem Cp {g:Gh} {T:TypeId} {v:Int} {c:Value} (h:VR g (oj.av ⟨T,[.sc (.int .i64 v)]⟩) c):c=.iface T (.agg #[.int .i64 v]):=by
 simp only[oj.av,List.map_cons,List.map_nil] at h
 cases h with
 | lF _ h=>cases h with
  | agg h=>cases h with
   | cons h t=>
    cases t
    rw[h.dz]
theorem Bj {fn:Func} {R:n7→Z→Prop} {fr:ew} {σ:Z} (h:nf P fn R .normal fr σ):nf P fn R .ret fr σ:=h
theorem Cq {fn:Func} {R:n7→Z→Prop} {ae:se} (hae:ae=.ret∨ae=.normal) {fr:ew} {σ:Z} (h:nf P fn R ae fr σ):uo P E fn R ae fr σ:=by
 rcases hae with rfl|rfl
 ·exact .inl h
 ·exact .inl (Bj h)
structure AO (E:Env) (l:List (Nat×AV)) (s:List (Nat×M)) (ks:List Nat) (cap capC:List AV) (es:List M):Prop where
 c:cap=AV.gg.k7 (nth ks) capC
 gs:sW s ks=some (jL (nth ks) es)
 nd:nodupB ks=true
 bx:gy es=true
theorem wD:∀ {ks:List Nat} {es:List M},gy es=true→vP E ks es
 | [],_,_=>by cases ‹List M›<;>trivial
 | _::_,[],_=>trivial
 | k::ks,.box cs::es,h=>by simp only[vP];exact wD (by simpa[gy] using h)
 | _::_,.arr _ _ _::_,h=>by simp[gy] at h
 | _::_,.app _ _ _::_,h=>by simp[gy] at h
theorem yr {ks0:List Nat}:∀ {ks:List Nat} {es:List M},gy es=true→AD l ds s ks0 ks es=true
 | [],_,_=>by cases ‹List M›<;>rfl
 | _::_,[],_=>rfl
 | k::ks,.box cs::es,h=>by simp only[AD];simp[yr (ks:=ks) (es:=es) (by simpa[gy] using h)]
 | _::_,.arr _ _ _::_,h=>by simp[gy] at h
 | _::_,.app _ _ _::_,h=>by simp[gy] at h
theorem E5 {fn:Func} {R:n7→Z→Prop} {fid:FuncId} {cap capC:List AV} {es:List M} {ks:List Nat} {m:Option Value} {X:Type} {res:D X} {C:X→List M} (hen:Enters P fid) (hC:Bg P fid capC es m res C) (hns:res≠.stuck)
  (hk:AO E l s ks cap capC es) (hx:∀ x,(C x).length=ks.length∧jd (below ks.length) (C x)=true)
  (hret:∀ x,res=.ok x→nf P fn R .ret (Y l []) (U (kR ks (jL (nth ks) (C x))++s))):Bh P E fn R fid cap m (Y l [(fid,cap)]) (U s):=by
 obtain ⟨hl,hat⟩:=nJ hk.gs
 rw[gL] at hl
 refine ⟨nth ks,List.range ks.length,U (ez 0 es),capC,_,hen,hk.c,hC res rfl hns,fun j hj=>by have:=nk hj;simp;omega,fun j e hj=>?_,
  fun j j' hj hj' he=>ni hk.nd (by have:=nk hj;omega) (by have:=nk hj';omega) he,?_⟩
 ·obtain ⟨_,h2⟩:=fi hj
  exact hat j _ (by rw[lW,show j=j - 0 by omega,h2];rfl)
 ·rintro σc ⟨x,hxr,rfl⟩
  obtain ⟨h1,h2⟩:=hx x
  refine ⟨pf (l:=l) (ds:=[(fid,cap)]) ⟨rfl,rfl⟩ hl hk.nd (yr hk.bx) (wD hk.bx) h1 h2 rfl,?_⟩
  rw[nM hk.nd h1];exact hret x hxr
theorem Bk {fn:Func} {R:n7→Z→Prop} {ae:se} (hae:ae=.ret∨ae=.normal) {fid:FuncId} {cap capC:List AV} {es:List M} (ks:List Nat) {X:Type} {x:X} {C:X→List M} (hen:Enters P fid) (hC:Bg P fid capC es none (D.ok x) C)
  (hk:AO E l s ks cap capC es) (hx:∀ x,(C x).length=ks.length∧jd (below ks.length) (C x)=true) {s':List (Nat×M)} (hs:kR ks (jL (nth ks) (C x))++s=s')
  (hret:nf P fn R .ret (Y l []) (U s')):uo P E fn R ae (Y l [(fid,cap)]) (U s):=by
 have:Bh P E fn R fid cap none (Y l [(fid,cap)]) (U s):=E5 hen hC (by simp) hk hx fun y q=>by cases q;rw[hs];exact hret
 rcases hae with rfl|rfl
 ·exact .inr ⟨fid,cap,rfl,this⟩
 ·exact .inr ⟨fid,cap,rfl,this⟩
theorem oL {d:Nat} {X R:Type} {res:D X} {kk:X→D R} {r:D R} {V V':X→AV} {C:X→List M} {C':X→List (Nat×M)} {f:Operand} {args:List Operand} {ts:Array TypeId} {fid:FuncId}
  {argsC first cap vs:List AV} {es:List M} (hr:r≠.stuck) (h:D.bind res kk=r) (ks:List Nat) (hen:Enters P fid)
  (hC:CT P fid argsC es res V C) (hk:kS E ds l s ks f args fid argsC es first cap vs) (hbb:gy es=true) (hd:Nat.blt d n=true)
  (hx:∀ x,(C x).length=ks.length∧jd (below ks.length) (C x)=true∧(V x).only (below ks.length)=true)
  (hV:∀ x,(V x).gg (nth ks)=V' x∧kR ks (jL (nth ks) (C x))=C' x)
  {sp:List (Nat×M)} (hsp:kR ks (jL (nth ks) (es.map M.lost))++s=sp) (hpan:∀ p,r=.kT p→Q (.panic p.av) (Y l ds) (U sp))
  (hret:∀ x,kk x=r→SL P E n ops Q rest (Y ((d,V' x)::l) ds) (U (C' x++s))) :
  SL P E n ops Q (⟨some d,.call ⟨.value f,args.toArray,ts⟩,ty,pos,af,none⟩::rest) (Y l ds) (U s):=by
 obtain ⟨hns,hok,hp⟩:=ki hr h
 subst hsp
 refine iA rfl (zW ks hen rfl (hC res rfl hns) hk hbb (lP hd) (fun x _=>hx x) (fun x hg=>?_) (fun v hv=>?_))
 ·have:=hret x (hok x hg)
  rw[← (hV x).1,← (hV x).2] at this;exact this
 ·obtain ⟨p,hp1,rfl⟩:=hv
  exact ⟨p.only _,hpan p (hp p hp1)⟩
end
end Go.Abs
end
section
namespace Go.Abs
open D
def nO (k:IntKind) (x y:Int):Int:=k.wrap (x*2 ^ (min y.toNat k.bits))
def Cr (k:IntKind) (x y:Int):Int:=k.wrap (BitVec.ofInt k.bits x&&& BitVec.ofInt k.bits y).toNat
def wE (k:IntKind) (x y:Int):Int:=k.wrap (BitVec.ofInt k.bits x||| BitVec.ofInt k.bits y).toNat
def G4 (k:IntKind) (x y:Int):Int:=k.wrap (BitVec.ofInt k.bits x ^^^ BitVec.ofInt k.bits y).toNat
def Bl (k:IntKind) (x:Int):Int:=G4 k (if k.signed then -1 else k.max) x
def iE (l:List Int) (i:Int):Int:=l.getD i.toNat 0
def rm (l:List Int) (i v:Int):List Int:=l.set i.toNat v
def jX (l:List Int):List UInt8:=l.map fun i=>UInt8.ofNat i.toNat
section
variable {P:Program} {l:List (Nat×AV)} {ds:List (FuncId×List AV)} {s:List (Nat×M)}
theorem zZ {xt yt:TypeId} {x y:Operand} {k:IntKind} {a b:Int} (hx:bT l x=some (Sc (.int k a))) (hy:bT l y=some (Sc (.int k b))) (h:b≠0):iC P (.binOp .quo xt x y yt) l ds s (Sc (.int k (k.wrap (a.tdiv b)))) []:=
 .of (sS (aE hx) (aE hy) fun w=>by simp[binOp,Op.intDiv,h])
theorem Ct {xt yt:TypeId} {x y:Operand} {k:IntKind} {a b:Int} (hx:bT l x=some (Sc (.int k a))) (hy:bT l y=some (Sc (.int k b))) (h:b≠0):iC P (.binOp .rem xt x y yt) l ds s (Sc (.int k (a.tmod b))) []:=
 .of (sS (aE hx) (aE hy) fun w=>by simp[binOp,Op.intDiv,h])
theorem xk {xt yt:TypeId} {x y:Operand} {k k':IntKind} {a b:Int} (hx:bT l x=some (Sc (.int k a))) (hy:bT l y=some (Sc (.int k' b))) (h:0≤b):iC P (.binOp .shl xt x y yt) l ds s (Sc (.int k (nO k a b))) []:=
 .of (sS (aE hx) (aE hy) fun w=>by simp[binOp,Op.shift,Int.not_lt.2 h,nO])
theorem FI {xt yt:TypeId} {x y:Operand} {k:IntKind} {a b:Int} (hx:bT l x=some (Sc (.int k a))) (hy:bT l y=some (Sc (.int k b))):iC P (.binOp .and xt x y yt) l ds s (Sc (.int k (Cr k a b))) []:=
 .of (sS (aE hx) (aE hy) fun w=>by simp[binOp,Op.intBits,Cr])
theorem yu {xt yt:TypeId} {x y:Operand} {k:IntKind} {a b:Int} (hx:bT l x=some (Sc (.int k a))) (hy:bT l y=some (Sc (.int k b))):iC P (.binOp .or xt x y yt) l ds s (Sc (.int k (wE k a b))) []:=
 .of (sS (aE hx) (aE hy) fun w=>by simp[binOp,Op.intBits,wE])
theorem E6 {op:UnOp} {t:TypeId} {fr:ew} {x:Operand} {a c:Value} (hx:fr.val x=Sc a) (h:∀ w,(Op.unary op a).run P w=.ok c w):fJ P (.unOp op t x) fr [] (Sc c):=by
 intro o ho g ev w _ hv _
 have q1:=hv x (by simp[Op.operands]);rw[hx] at q1
 exact ⟨c,by simp[execOp,ho,q1.dz,h],.pv (.sc _)⟩
theorem FJ {t:TypeId} {x:Operand} {k:IntKind} {a:Int} (hx:bT l x=some (Sc (.int k a))):iC P (.unOp .neg t x) l ds s (Sc (.int k (k.wrap (0 - a)))) []:=
 .of (E6 (aE hx) fun w=>by simp[Op.unary,Op.intArith])
theorem FK {t:TypeId} {x:Operand} {k:IntKind} {a:Int} (hx:bT l x=some (Sc (.int k a))):iC P (.unOp .xor t x) l ds s (Sc (.int k (Bl k a))) []:=
 .of (E6 (aE hx) fun w=>by simp[Op.unary,Op.intBits,Bl,G4])
def Oe (T:TypeId) (b:Bool):AV:=match b with
 | true=>.lF T .any
 | false=>Sc .nilIface
class Bm (P:Program) (t:TypeId):Prop where h:∃ ms,P.underlying t=some (.interface ms)
theorem Cu {t:TypeId} (ht:∃ ms,P.underlying t=some (.interface ms)) (u:TypeId) (v:Value) (w:World):(Op.equal t (.iface u v) .nilIface).run P w=.ok false w:=by
 obtain ⟨ms,ht⟩:=ht
 have:∀ d,(Op.equalIn (d+1) t (.iface u v) .nilIface).run P w=.ok false w:=fun d=>by simp[Op.equalIn,run_underlying ht]
 exact this 9999
theorem Cv {t:TypeId} (ht:∃ ms,P.underlying t=some (.interface ms)) (w:World):(Op.equal t .nilIface .nilIface).run P w=.ok true w:=by
 obtain ⟨ms,ht⟩:=ht
 have:∀ d,(Op.equalIn (d+1) t .nilIface .nilIface).run P w=.ok true w:=fun d=>by simp[Op.equalIn,run_underlying ht]
 exact this 9999
theorem DT {xt yt u:TypeId} {fr:ew} {x y:Operand} {v:AV} (ht:∃ ms,P.underlying xt=some (.interface ms)) (hx:fr.val x=.lF u v) (hy:fr.val y=Sc .nilIface):fJ P (.binOp .neq xt x y yt) fr [] (Bo true):=by
 intro o ho g ev w _ hv _
 have q1:=hv x (by simp[Op.operands]);rw[hx] at q1
 have q2:=hv y (by simp[Op.operands]);rw[hy] at q2
 generalize hq:ev x=c at q1
 cases q1 with
 | lF _ h=>
  rename_i vv
  refine ⟨.bool true,?_,.pv (.sc _)⟩
  simp[execOp,ho,hq,q2.dz,eqGuard,binOp,Cu ht u vv w]
theorem DU {xt yt:TypeId} {fr:ew} {x:Operand} (ht:∃ ms,P.underlying xt=some (.interface ms)) (hx:fr.val x=Sc .nilIface):fJ P (.binOp .neq xt x (.const .nilIface) yt) fr [] (Bo false):=by
 intro o ho g ev w _ hv _
 have q1:=hv x (by simp[Op.operands]);rw[hx] at q1
 have q2:=hv (.const .nilIface) (by simp[Op.operands])
 have e2:ev (.const .nilIface)=.nilIface:=VR.dz q2
 refine ⟨.bool false,?_,.pv (.sc _)⟩
 simp[execOp,ho,q1.dz,e2,eqGuard,binOp,Cv ht w]
theorem tK {xt yt u:TypeId} {x y:Operand} {v:AV} [ht:Bm P xt] (hx:bT l x=some (.lF u v)) (hy:bT l y=some (Sc .nilIface)):iC P (.binOp .neq xt x y yt) l ds s (Bo true) []:=.of (DT ht.h (aE hx) (aE hy))
theorem tL {xt yt:TypeId} {x:Operand} [ht:Bm P xt] (hx:bT l x=some (Sc .nilIface)):iC P (.binOp .neq xt x (.const .nilIface) yt) l ds s (Bo false) []:=.of (DU ht.h (aE hx))
theorem Cw {xt yt T:TypeId} {x:Operand} {b:Bool} [ht:Bm P xt] (hx:bT l x=some (Oe T b)):iC P (.binOp .neq xt x (.const .nilIface) yt) l ds s (Bo b) []:=by
 cases b with
 | true=>exact tK hx rfl
 | false=>exact tL hx
theorem FL {xt t:TypeId} {fr:ew} {x:Operand} {v:AV} {d:TypeDesc} (ht:P.underlying t=some d) (hd:BV d=false) (hx:fr.val x=.lF t v):fJ P (.typeAssert x xt t true) fr [] (.fX [v,Bo true]):=by
 intro o ho g ev w _ hv _
 have q1:=hv x (by simp[Op.operands]);rw[hx] at q1
 generalize hq:ev x=c at q1
 cases q1 with
 | lF _ h=>
  rename_i vv
  refine ⟨.tuple [vv,.bool true].toArray,?_,.fX (.cons h (.cons (.pv (.sc _)) .nil))⟩
  simp only[execOp,ho,hq,Instr.typeAssert,Sem.run_bind,run_underlying ht,Result.andThen_ok]
  cases d<;>simp_all [BV]
theorem E7 {xt t:TypeId} {x:Operand} {v:AV} [ht:Ce P t] (hx:bT l x=some (.lF t v)):iC P (.typeAssert x xt t true) l ds s (.fX [v,Bo true]) []:=by
 have h:=ht.h
 cases hu:P.underlying t with
 | none=>simp[hu] at h
 | some d=>simp[hu] at h;exact .of (FL hu h (aE hx))
theorem yv (f:Int→AV):∀ {xs:List Int} {i:Int},0≤i→i<xs.length→(xs.map f)[i.toNat]?=some (f (iE xs i)):=fun {xs i} h0 h1=>by
 have:i.toNat<xs.length:=by omega
 simp[iE,this]
theorem FM (f:Int→AV) {t e:TypeId} {x ix:Operand} {n:Nat} {k:IntKind} {i:Int} {xs:List Int} {cs:List AV} [ht:jV P t (.array n e)] [ha:ic P e false] [hz:lG P e 1]
  (hx:bT l x=some (.agg cs)) (hi:bT l ix=some (Sc (.int k i))) (hc:cs=xs.map f) (hn:xs.length=n) (h0:0≤i) (h1:i<n):iC P (.index t x ix) l ds s (f (iE xs i)) []:=
 .of (w4 ht.h ha.h hz.h (aE hx) (aE hi) h0 h1 (by rw[hc];exact yv f h0 (by rw[hn];exact h1)))
theorem xl (f:Int→AV) {t:TypeId} {x:Operand} {k:Nat} {i:Int} {xs:List Int} {cs:List AV} [ha:ic P t false] (hx:bT l x=some (.ptr k (0+i.toNat*1))) (hk:dB s k=some (.box cs)) (hc:cs=xs.map f) (h0:0≤i) (h1:i<xs.length) :
  iC P (.load t x) l ds s (f (iE xs i)) [(k,.box cs)]:=
 .on hk (qU ha.h (aE hx) (by simp only[M.cells];rw[hc,show 0+i.toNat*1=i.toNat by omega];exact yv f h0 h1))
end
theorem iv.np {g:Gh} {w:World} {k sz:Nat} {el:TypeId} {cells:List PV} (h:iv g w k (.arr el sz cells)):(g.ρ k=none∧cells=[])∨
  ∃ (b:Nat) (cs:Array Value) (el':TypeId),g.ρ k=some b∧w.heap[b]?=some (.cells cs el' (0,0))∧cells.length≤cs.size∧cs.size=g.cp k*sz:=by
 generalize he:M.arr el sz cells=e at h
 cases h with
 | box=>cases he
 | n5 h=>cases he;exact .inl ⟨h,rfl⟩
 | arr h hw hl hz=>cases he;exact .inr ⟨_,_,_,h,hw,hl,hz⟩
 | uW=>cases he
 | app=>cases he
theorem VR.np {g:Gh} {k n:Nat} {c:Value} (h:VR g (.arr k n) c):(∃ b,g.ρ k=some b∧c=.slice (some ⟨b,0,none⟩) n (g.cp k))∨(g.ρ k=none∧n=0∧c=.slice none 0 0):=by
 generalize he:AV.arr k n=e at h
 cases h with
 | arr m hb=>cases he;exact .inl ⟨_,hb,rfl⟩
 | n5 hb=>cases he;exact .inr ⟨hb,rfl,rfl⟩
 | _=>cases he
theorem Rel.freeze {E:Env} {g:Gh} {σ:Z} {w:World} (h:Rel E g σ w) {k b:Nat} {e:M} {ys:List PV} (hk:σ k=some e) (hea:e.isApp=false) (hfx:E.fix k=none) (hb:g.ρ k=some b) (hc:e.cells=ys.map .pv) :
  Rel E (g.dq b ys) (σ.del k) w:=by
 have hG:=h.apart k b e hk hea hb
 have hle:ju (fun _=>False) g (g.dq b ys):=ju.dq g b ys hG
 have hks:(σ k).isSome=true:=by rw[hk];rfl
 have hdel:∀ j e',(σ.del k) j=some e'→j≠k∧σ j=some e':=fun j e' hj=>by
  by_cases q:j=k
  ·subst q;simp[Z.del] at hj
  ·exact ⟨q,by simpa[Z.del,q] using hj⟩
 have hdels:∀ j,((σ.del k) j).isSome=true→j≠k∧(σ j).isSome=true:=fun j hj=>by
  by_cases q:j=k
  ·subst q;simp[Z.del] at hj
  ·exact ⟨q,by simpa[Z.del,q] using hj⟩
 have hne:∀ j c,j≠k→(σ j).isSome=true→g.ρ j=some c→c≠b:=fun j c hj hs hc q=>by
  subst q;exact hj (h.inj j k c hs hks hc hb)
 have hfb:∀ j,E.fix j≠some b:=fun j q=>by
  have:=h.x.mH j b k q hks hb
  subst this;rw[hfx] at q;cases q
 obtain ⟨cs,el,hw,hcl,hcv⟩:=(h.iZ k e hk).at hb
 rw[hc] at hcl hcv
 simp only[List.length_map] at hcl hcv
 refine { iZ:=?_,inj:=?_,gl:=?_,apart:=?_,size:=h.size,nB:=h.nB,own:=?_,fix:=h.fix,ib:=h.ib,g0:=?_,gn:=?_,os:=h.os,out:=h.out,tape:=h.tape,x:=?_ }
 ·intro j e' hj
  obtain ⟨q,hj'⟩:=hdel j e' hj
  exact (h.iZ j e' hj').le hle (fun q=>q) (fun c hc _=>by simp[Gh.dq,hne j c q (by rw[hj'];rfl) hc]) (fun _ q=>q.elim) (fun _ _=>rfl)
 ·exact fun j j' c hj hj'=>h.inj j j' c (hdels j hj).2 (hdels j' hj').2
 ·intro c zs hz
  by_cases q:c=b
  ·subst q;simp[Gh.dq] at hz;subst hz
   exact ⟨cs,el,(0,0),hw,hcl,(kL.u1 hcv).le hle⟩
  ·simp[Gh.dq,q] at hz
   obtain ⟨c1,e1,f1,h1,h2,h3⟩:=h.gl c zs hz
   exact ⟨c1,e1,f1,h1,h2,h3.le hle⟩
 ·intro j c e' hj hja hc'
  obtain ⟨q,hj'⟩:=hdel j e' hj
  have:=hne j c q (by rw[hj'];rfl) hc'
  simp only[Gh.dq,this,if_false]
  exact h.apart j c e' hj' hja hc'
 ·exact fun j c hj hc=>h.own j c (hdels j hj).2 hc
 ·intro c zs hz
  obtain ⟨us,h1⟩:=h.g0 c zs hz
  obtain ⟨vs,h2⟩:=hle.G c _ h1
  exact ⟨us++vs,by rw[h2,List.append_assoc]⟩
 ·intro c zs hz
  by_cases q:c=b
  ·subst q
   rcases h.own k c hks hb with q|q
   ·exact .inr (.inl q)
   ·exact .inr (.inr q)
  ·simp[Gh.dq,q] at hz;exact h.gn c zs hz
 ·exact {
      vN:=h.x.vN,flat:=h.x.flat,set:=h.x.set,vO:=h.x.vO,gf:=h.x.gf,mG:=h.x.mG
      hi:=fun j c hj hc=>h.x.hi j c (hdels j hj).2 hc
      nc:=fun j c hf=>by
       have:c≠b:=fun q=>by subst q;exact hfb j hf
       simp only[Gh.dq,this,if_false];exact h.x.nc j c hf
      mH:=fun j c j' hf hj hc=>h.x.mH j c j' hf (hdels j' hj).2 hc
      mI:=fun j c e' hf hj=>h.x.mI j c e' hf (hdel j e' hj).2 }
section
variable {P:Program} {E:Env} {n:Nat} {ops:Array Oper} {Q:dS} {rest:List Oper} {l:List (Nat×AV)} {ds:List (FuncId×List AV)} {s:List (Nat×M)}
 {ty:TypeId} {pos:String} {af:Array Edge}
theorem HD (l:List (Nat×AV)) (s:List (Nat×M)):eT E n l ds s l s:=fun g _ _ hR hF=>⟨g,hR,hF⟩
theorem Cy {α:Type} {C:α→List PV} {Cs:List α→List PV} {g:Gh} {w:World} {b sz k:Nat} {el:TypeId} {xs:List α} (lH:∀ l,Cs l=l.flatMap C) (hC:∀ x,(C x).length=sz) (hz:0<sz) (hb:g.ρ k=some b)
  (he:iv g w k (.arr el sz (Cs xs))):VR (g.dq b (Cs xs)) (.pv (.sl xs.length (Cs xs))) (.slice (some ⟨b,0,none⟩) xs.length (g.cp k)):=by
 rcases he.np with ⟨h,_⟩|⟨b',cs,el',h,hw,hl,hz'⟩
 ·rw[h] at hb;cases hb
 ·rw[h] at hb;cases hb
  refine .pv (.sl _ (Cs xs) 0 _ _ (Cs xs) (by simp[Gh.dq]) (by simp) (by simp) ?_)
  have h1:xs.length*sz≤g.cp k*sz:=by
   rw[← hz']
   rw[lH,gN hC] at hl;exact hl
  exact Nat.le_of_mul_le_mul_right h1 hz
theorem yw {α:Type} {C:α→List PV} {sz:Nat} (hC:∀ x,(C x).length=sz) (hz:0<sz) {xs:List α} (h:xs.flatMap C=[]):xs=[]:=by
 have:=gN hC xs
 rw[h] at this
 cases xs with
 | nil=>rfl
 | cons a l=>simp[Nat.succ_mul] at this;omega
theorem Cz {α:Type} {C:α→List PV} {Cs:List α→List PV} {d k sz:Nat} {el:TypeId} {xs:List α} (lH:∀ l,Cs l=l.flatMap C) (hC:∀ x,(C x).length=sz) (hz:Nat.blt 0 sz=true) (hd:jK l d=some (.arr k (List.length xs)))
  (hk:dB s k=some (.arr el sz (Cs xs))) (hE:E.fix k=none):eT E n l ds s ((d,.pv (.sl (List.length xs) (Cs xs)))::l) (nj k s):=fun g a w hR hF=>by
 have hks:=bW hk
 have hz':0<sz:=by simpa[Nat.blt_eq] using hz
 have hs:=hF.gX d
 simp only[Y,eW hd] at hs
 rw[om]
 cases hb:g.ρ k with
 | none=>
  have hx:xs=[]:=by
   rcases (hR.iZ k _ hks).np with ⟨_,this⟩|⟨b',cs,el',h,_⟩
   ·rw[lH] at this;exact yw hC hz' (by simpa using this)
   ·rw[h] at hb;cases hb
  subst hx
  have e0:Cs ([]:List α)=[]:=by rw[lH];rfl
  refine ⟨g,hR.sub fun j e hj=>by
   unfold Z.del at hj
   split at hj
   ·cases hj
   ·exact hj,hF.size,fun i=>?_,hF.ds⟩
  by_cases q:i=d
  ·subst q;simp only[Y,kc,if_true]
   generalize a.tmps.getD i undef=c at hs ⊢
   rcases hs.np with ⟨b',h,_⟩|⟨_,_,rfl⟩
   ·rw[h] at hb;cases hb
   ·rw[e0];exact .pv (.nil _ _)
  ·simpa[Y,kc,q] using hF.gX i
 | some b=>
  refine ⟨g.dq b (Cs xs),hR.freeze hks rfl hE hb rfl,?_⟩
  have hle:ju (fun _=>False) g (g.dq b (Cs xs)):=ju.dq g b _ (hR.apart k b _ hks rfl hb)
  have hF':=hF.le hle (fun _ q=>q.elim)
  refine ⟨hF'.size,fun i=>?_,hF'.ds⟩
  by_cases q:i=d
  ·subst q;simp only[Y,kc,if_true]
   generalize a.tmps.getD i undef=c at hs ⊢
   rcases hs.np with ⟨b',h,rfl⟩|⟨h,_⟩
   ·rw[h] at hb;cases hb;exact Cy lH hC hz' h (hR.iZ k _ hks)
   ·rw[h] at hb;cases hb
  ·simpa[Y,kc,q] using hF'.gX i
theorem pO {α:Type} {C:α→List PV} {Cs:List α→List PV} {j off k sz:Nat} {el:TypeId} {xs:List α} {cs cs':List AV} (lH:∀ l,Cs l=l.flatMap C) (hC:∀ x,(C x).length=sz) (hz:Nat.blt 0 sz=true) (hj:dB s j=some (.box cs))
  (hc:cs[off]?=some (.arr k (List.length xs))) (hk:dB s k=some (.arr el sz (Cs xs))) (hE:E.fix k=none) (hcs:cs.set off (.pv (.sl (List.length xs) (Cs xs)))=cs') :
  eT E n l ds s l ((j,.box cs')::nj k s):=fun g a w hR hF=>by
 subst hcs
 have hks:=bW hk
 have hjs:=bW hj
 have hz':0<sz:=by simpa[Nat.blt_eq] using hz
 have hjk:j≠k:=fun q=>by subst q;rw[hjs] at hks;cases hks
 have fin:∀ g',Rel E g' ((U s).del k) w→FR n g' (Y l ds) a→(∀ c,VR g (.arr k (List.length xs)) c→VR g' (.pv (.sl (List.length xs) (Cs xs))) c)→(∀ cs0:Array Value,ga g cs cs0.toList→ga g' (cs.set off (.pv (.sl (List.length xs) (Cs xs)))) cs0.toList)→
   g'.ρ j=g.ρ j→∃ g',Rel E g' (U ((j,.box (cs.set off (.pv (.sl (List.length xs) (Cs xs)))))::nj k s)) w∧FR n g' (Y l ds) a:=fun g' hR' hF' _ hbx hρ=>by
  refine ⟨g',?_,hF'⟩
  have e1:U ((j,.box (cs.set off (.pv (.sl (List.length xs) (Cs xs)))))::nj k s)=((U s).del k).set j (.box (cs.set off (.pv (.sl (List.length xs) (Cs xs))))):=by
   rw[← om];rfl
  rw[e1]
  have hjd:((U s).del k) j=some (.box cs):=by simp[Z.del,hjk,hjs]
  cases hR.iZ j _ hjs with
  | box h1 h2 h3 h4=>
   exact {
       iZ:=fun i e he=>by
        by_cases q:i=j
        ·subst q;simp[Z.set] at he;subst he
         exact .box (hρ.trans h1) h2 (hbx _ h3) h4
        ·simp[Z.set,q] at he;exact hR'.iZ i e he
       inj:=fun i i' b hi hi'=>hR'.inj i i' b (by
        by_cases q:i=j
        ·subst q;rw[hjd];rfl
        ·simpa[Z.set,q] using hi) (by
        by_cases q:i'=j
        ·subst q;rw[hjd];rfl
        ·simpa[Z.set,q] using hi')
       gl:=hR'.gl
       apart:=fun i b e he hea hb=>by
        by_cases q:i=j
        ·subst q;exact hR'.apart i b _ hjd rfl hb
        ·exact hR'.apart i b e (by simpa[Z.set,q] using he) hea hb
       size:=hR'.size,nB:=hR'.nB
       own:=fun i b hi hb=>hR'.own i b (by
        by_cases q:i=j
        ·subst q;rw[hjd];rfl
        ·simpa[Z.set,q] using hi) hb
       fix:=hR'.fix,ib:=hR'.ib,g0:=hR'.g0,gn:=hR'.gn,os:=hR'.os,out:=hR'.out,tape:=hR'.tape
       x:=hR'.x.qS rfl rfl (fun i b hi hb=>⟨i,by
        by_cases q:i=j
        ·subst q;rw[hjd];rfl
        ·simpa[Z.set,q] using hi,hb,.inl rfl⟩) (fun i b e' _ hi=>by
        by_cases q:i=j
        ·subst q;exact ⟨_,hjd,fun _=>(by simp[Z.set] at hi;exact ⟨_,hi.symm⟩)⟩
        ·exact ⟨e',by simpa[Z.set,q] using hi,id⟩) }
 cases hb:g.ρ k with
 | none=>
  have hx:xs=[]:=by
   rcases (hR.iZ k _ hks).np with ⟨_,this⟩|⟨b',cs,el',h,_⟩
   ·rw[lH] at this;exact yw hC hz' (by simpa using this)
   ·rw[h] at hb;cases hb
  have e0:Cs xs=[]:=by rw[hx,lH];rfl
  have hv:∀ c,VR g (.arr k (List.length xs)) c→VR g (.pv (.sl (List.length xs) (Cs xs))) c:=fun c hcv=>by
   rw[e0]
   rcases hcv.np with ⟨b',h,_⟩|⟨_,hn,rfl⟩
   ·rw[h] at hb;cases hb
   ·rw[hn];exact .pv (.nil _ _)
  exact fin g (hR.sub fun i e hi=>by
   unfold Z.del at hi
   split at hi
   ·cases hi
   ·exact hi) hF hv (fun cs0 h3=>h3.set hc hv) rfl
 | some b=>
  have hle:ju (fun _=>False) g (g.dq b (Cs xs)):=ju.dq g b _ (hR.apart k b _ hks rfl hb)
  have hv:∀ c,VR g (.arr k (List.length xs)) c→VR (g.dq b (Cs xs)) (.pv (.sl (List.length xs) (Cs xs))) c:=fun c hcv=>by
   rcases hcv.np with ⟨b',h,rfl⟩|⟨h,_⟩
   ·rw[h] at hb;cases hb;exact Cy lH hC hz' h (hR.iZ k _ hks)
   ·rw[h] at hb;cases hb
  refine fin _ (hR.freeze hks rfl hE hb rfl) (hF.le hle fun _ q=>q.elim) hv (fun cs0 h3=>?_) rfl
  have h4:=h3.le hle (fun _ q=>q.elim)
  exact h4.set (g:=g.dq b (Cs xs)) hc fun c hcv=>by
   rcases hcv.np with ⟨b',h,rfl⟩|⟨h,_⟩
   ·have h':g.ρ k=some b':=h
    rw[h'] at hb;cases hb;exact Cy lH hC hz' h' (hR.iZ k _ hks)
   ·have h':g.ρ k=none:=h
    rw[h'] at hb;cases hb
theorem FN {d k:Nat} {ps:List PV} (hd:jK l d=some (.ptr k 0)) (hk:dB s k=some (.box (ps.map .pv))) (hE:E.fix k=none):eT E n l ds s ((d,.pv (.pt (some ps)))::l) (nj k s):=fun g a w hR hF=>by
 have hks:=bW hk
 have hs:=hF.gX d
 simp only[Y,eW hd] at hs
 rw[om]
 generalize hc:a.tmps.getD d undef=c at hs
 cases hs with
 | ptr _ hb=>
  rename_i b
  refine ⟨g.dq b ps,hR.freeze hks rfl hE hb rfl,?_⟩
  have hle:ju (fun _=>False) g (g.dq b ps):=ju.dq g b _ (hR.apart k b _ hks rfl hb)
  have hF':=hF.le hle (fun _ q=>q.elim)
  refine ⟨hF'.size,fun i=>?_,hF'.ds⟩
  by_cases q:i=d
  ·subst q;simp only[Y,kc,if_true];rw[hc]
   exact .pv (.BL b ps 0 ps (by simp[Gh.dq]) (by simp) (by simp))
  ·simpa[Y,kc,q] using hF'.gX i
theorem CA (nm:Nat) {sz:Nat} {el:TypeId} (hE:E.fix nm=none) (hm:kF nm l=false∧ja nm ds=false∧mX nm s=false):eT E n l ds s l ((nm,.app el sz [])::s):=fun g a w hR hF=>
 ⟨g.unbind nm,hR.uN (jb hm.2.2) hE,hF.le (ju.unbind g nm) (fun k q=>by subst q;exact fR hm.1 hm.2.1)⟩
theorem FO (nm:Nat) {sz:Nat} {el:TypeId} (l':List (Nat×AV)) (s':List (Nat×M)) (hE:E.fix nm=none) (h1:si l l' l') (h2:sY s s' s') (hm:kF nm l'=false∧ja nm ds=false∧mX nm s'=false) :
  eT E n l ds s l' ((nm,.app el sz [])::s'):=(eT.xW l' s' h1 h2).trans (CA nm hE hm)
theorem Rel.yx {E:Env} {g:Gh} {σ:Z} {w:World} (h:Rel E g σ w) {nm sz:Nat} {el:TypeId} (hc:σ.clear nm) (hf:E.fix nm=none):Rel E (g.unbind nm) (σ.set nm (.arr el sz [])) w:=by
 have h0:=h.uN (el:=el) (sz:=sz) hc hf
 have hρn:(g.unbind nm).ρ nm=none:=by simp[Gh.unbind]
 have hne:∀ j e,σ.set nm (.arr el sz []) j=some e→j≠nm→σ.set nm (.app el sz []) j=some e:=fun j e hj q=>by simpa[Z.set,q] using hj
 have hs:∀ j,(σ.set nm (.arr el sz []) j).isSome=true→(σ.set nm (.app el sz []) j).isSome=true:=fun j hj=>by
  by_cases q:j=nm
  ·subst q;simp[Z.set]
  ·simpa[Z.set,q] using hj
 exact {
     iZ:=fun j e hj=>by
      by_cases q:j=nm
      ·subst q;simp[Z.set] at hj;subst hj;exact .n5 hρn
      ·exact h0.iZ j e (hne j e hj q)
     inj:=fun j j' b hj hj'=>h0.inj j j' b (hs j hj) (hs j' hj')
     gl:=h0.gl
     apart:=fun j b e hj hea hb=>by
      by_cases q:j=nm
      ·subst q;rw[hρn] at hb;cases hb
      ·exact h0.apart j b e (hne j e hj q) hea hb
     size:=h0.size,nB:=h0.nB,own:=fun j b hj=>h0.own j b (hs j hj),fix:=h0.fix,ib:=h0.ib,g0:=h0.g0,gn:=h0.gn,os:=h0.os,out:=h0.out,tape:=h0.tape
     x:=h0.x.qS rfl rfl (fun j b hj hb=>⟨j,hs j hj,hb,.inl rfl⟩) (fun j b e' hfj hj=>by
      have q:j≠nm:=fun q=>by subst q;rw[hf] at hfj;cases hfj
      exact ⟨e',hne j _ hj q,id⟩) }
theorem AP {d:Nat} (nm:Nat) {sz:Nat} {el:TypeId} (hE:E.fix nm=none) (hd:jK l d=some (Sc (.slice none 0 0))) (hm:kF nm l=false∧ja nm ds=false∧mX nm s=false) :
  eT E n l ds s ((d,.arr nm 0)::l) ((nm,.arr el sz [])::s):=fun g a w hR hF=>by
 have h1:=hR.yx (el:=el) (sz:=sz) (jb hm.2.2) hE
 have h2:=hF.le (ju.unbind g nm) (fun k q=>by subst q;exact fR hm.1 hm.2.1)
 refine ⟨g.unbind nm,h1,h2.size,fun i=>?_,h2.ds⟩
 by_cases q:i=d
 ·subst q
  have h3:=h2.gX i
  simp only[Y,eW hd] at h3
  simp only[Y,kc,if_true]
  rw[h3.dz];exact .n5 (by simp[Gh.unbind])
 ·simpa[Y,kc,q] using h2.gX i
theorem rn {j off:Nat} (nm:Nat) {sz:Nat} {el:TypeId} {cs cs':List AV} (hE:E.fix nm=none) (hj:dB s j=some (.box cs)) (hc:cs[off]?=some (Sc (.slice none 0 0)))
  (hm:kF nm l=false∧ja nm ds=false∧mX nm s=false) (hjn:Nat.beq j nm=false) (hcs:cs.set off (.arr nm 0)=cs') :
  eT E n l ds s l ((j,.box cs')::(nm,.arr el sz [])::s):=fun g a w hR hF=>by
 subst hcs
 have hR:=hR.yx (el:=el) (sz:=sz) (jb hm.2.2) hE
 have hF:=hF.le (ju.unbind g nm) (fun k q=>by subst q;exact fR hm.1 hm.2.1)
 have hjn':j≠nm:=fun q=>by subst q;simp at hjn
 have hjs:(U s).set nm (.arr el sz []) j=some (.box cs):=by simp[Z.set,hjn',bW hj]
 refine ⟨g.unbind nm,?_,hF⟩
 have he:∀ i e,U ((j,.box (cs.set off (.arr nm 0)))::(nm,.arr el sz [])::s) i=some e→(((U s).set nm (.arr el sz [])) i).isSome=true∧(i≠j→((U s).set nm (.arr el sz [])) i=some e):=fun i e h=>by
  by_cases q:i=j
  ·subst q;exact ⟨by rw[hjs];rfl,fun q=>absurd rfl q⟩
  ·have:((U s).set nm (.arr el sz [])) i=some e:=by simpa[U,jU,Z.set,q] using h
   exact ⟨by rw[this];rfl,fun _=>this⟩
 have hs:∀ i,(U ((j,.box (cs.set off (.arr nm 0)))::(nm,.arr el sz [])::s) i).isSome=true→(((U s).set nm (.arr el sz [])) i).isSome=true:=fun i h=>by
  cases q:U ((j,.box (cs.set off (.arr nm 0)))::(nm,.arr el sz [])::s) i with
  | none=>rw[q] at h;cases h
  | some e=>exact (he i e q).1
 exact {
     iZ:=fun i e h=>by
      by_cases q:i=j
      ·subst q
       have:e=.box (cs.set off (.arr nm 0)):=by simpa[U,jU] using h.symm
       subst this
       cases hR.iZ i _ hjs with
       | box h1 h2 h3 h4=>exact .box h1 h2 (h3.set hc fun c hc=>by rw[hc.dz];exact .n5 (by simp[Gh.unbind])) h4
      ·exact hR.iZ i e ((he i e h).2 q)
     inj:=fun i i' b h h'=>hR.inj i i' b (hs i h) (hs i' h')
     gl:=hR.gl
     apart:=fun i b e h hea hb=>by
      by_cases q:i=j
      ·subst q;exact hR.apart i b _ hjs rfl hb
      ·exact hR.apart i b e ((he i e h).2 q) hea hb
     size:=hR.size,nB:=hR.nB,own:=fun i b h=>hR.own i b (hs i h),fix:=hR.fix,ib:=hR.ib,g0:=hR.g0,gn:=hR.gn,os:=hR.os,out:=hR.out,tape:=hR.tape
     x:=hR.x.qS rfl rfl (fun i b hi hb=>⟨i,hs i hi,hb,.inl rfl⟩) (fun i b e' _ hi=>by
      by_cases q:i=j
      ·subst q;exact ⟨_,hjs,fun _=>(by simp[U,jU] at hi;exact ⟨_,hi.symm⟩)⟩
      ·exact ⟨e',(he i _ hi).2 q,id⟩) }
end
theorem Bn {α:Type} {f:α→List PV} {sz:Nat} (hf:∀ x,(f x).length=sz):∀ (l:List α) (i:Nat),(l.flatMap f).take (i*sz)=(l.take i).flatMap f:=by
 intro l
 induction l with
 | nil=>intro i;simp
 | cons a l ih=>
  intro i
  cases i with
  | zero=>simp
  | succ i=>
   rw[List.take_succ_cons,List.flatMap_cons,List.flatMap_cons,Nat.succ_mul,Nat.add_comm,List.take_append]
   rw[List.take_of_length_le (by rw[hf];omega),hf,show sz+i*sz - sz=i*sz by omega,ih]
theorem CB {α:Type} {f:α→List PV} {sz:Nat} (hf:∀ x,(f x).length=sz) {l:List α} {i d:Nat} {a a':α} {vs:List PV} (ha:l[i]?=some a) (hd:d+vs.length≤sz) (hu:f a'=(f a).take d++vs++(f a).drop (d+vs.length)) :
  (l.flatMap f).take (i*sz+d)++vs++(l.flatMap f).drop (i*sz+d+vs.length)=(l.set i a').flatMap f:=by
 have hlt:i<l.length:=(List.getElem?_eq_some_iff.1 ha).1
 have hdrop:=wz hf ha
 have e1:(l.flatMap f).take (i*sz+d)=(l.take i).flatMap f++(f a).take d:=by
  rw[List.take_add,Bn hf,hdrop,List.take_append_of_le_length (by rw[hf];omega)]
 have e2:(l.flatMap f).drop (i*sz+d+vs.length)=(f a).drop (d+vs.length)++(l.drop (i+1)).flatMap f:=by
  rw[show i*sz+d+vs.length=i*sz+(d+vs.length) by omega,← List.drop_drop,hdrop,List.drop_append_of_le_length (by rw[hf];omega)]
  congr 1
  have:∀ (l:List α) (j:Nat),(l.flatMap f).drop (j*sz)=(l.drop j).flatMap f:=by
   intro l
   induction l with
   | nil=>intro j;simp
   | cons b l ih=>
    intro j
    cases j with
    | zero=>simp
    | succ j=>
     rw[List.drop_succ_cons,List.flatMap_cons,Nat.succ_mul,Nat.add_comm,← List.drop_drop]
     rw[List.drop_left' (hf b)];exact ih j
  exact this l (i+1)
 rw[e1,e2,List.set_eq_take_append_cons_drop,if_pos hlt,List.flatMap_append,List.flatMap_cons,hu]
 simp
section
variable {P:Program} {E:Env} {n:Nat} {ops:Array Oper} {Q:dS} {rest:List Oper} {l:List (Nat×AV)} {ds:List (FuncId×List AV)} {s:List (Nat×M)}
 {ty:TypeId} {pos:String} {af:Array Edge}
theorem yy {k:Nat} {e:M}:U ((k,e)::nj k s)=(U s).set k e:=by
 funext j
 have h:=congrFun (om (k:=k) (s:=s)) j
 simp only[U,Z.del,Z.set,jU] at h ⊢
 by_cases q:j=k
 ·simp[q]
 ·simp only[q,if_false] at h ⊢;exact h
structure vQ (P:Program) {α:Type} (C:α→List PV) (Cs:List α→List PV) (l:List (Nat×AV)) (s:List (Nat×M)) (t:TypeId) (x y:Operand) (k off m sz:Nat) (el:TypeId) (i:Int) (xs:List α) (a a':α) (v:AV) (vs:List PV):Prop where
 lH:∀ l,Cs l=l.flatMap C
 hC:∀ x,(C x).length=sz
 h0:0≤i
 ha:xs[i.toNat]?=some a
 hx:bT l x=some (.ptr k (i.toNat*sz+off))
 hk:dB s k=some (.arr el sz (Cs xs))
 hy:bT l y=some v
 hv:v.fh=some (vs.map .pv)
 h1:PV.iW vs=true
 ht:vL P t=some m
 hm:vs.length=m
 hb:Nat.ble (off+vs.length) sz=true
 hu:C a'=(C a).take off++vs++(C a).drop (off+vs.length)
theorem vQ.Aw {α:Type} {C:α→List PV} {Cs:List α→List PV} {t:TypeId} {x y:Operand} {k off m sz:Nat} {el:TypeId} {i:Int} {xs:List α} {a a':α} {v:AV} {vs:List PV} (h:vQ P C Cs l s t x y k off m sz el i xs a a' v vs) :
  (M.arr el sz (Cs xs)).Aw (i.toNat*sz+off) (vs.map .pv)=.arr el sz (Cs (xs.set i.toNat a')):=by
 simp only[M.Aw,List.length_map,u3]
 rw[h.lH,h.lH,CB h.hC h.ha (Nat.le_of_ble_eq_true h.hb) h.hu]
theorem vQ.le {α:Type} {C:α→List PV} {Cs:List α→List PV} {t:TypeId} {x y:Operand} {k off m sz:Nat} {el:TypeId} {i:Int} {xs:List α} {a a':α} {v:AV} {vs:List PV} (h:vQ P C Cs l s t x y k off m sz el i xs a a' v vs) :
  i.toNat*sz+off+(vs.map AV.pv).length≤(M.arr el sz (Cs xs)).cells.length:=by
 have hlt:i.toNat<xs.length:=(List.getElem?_eq_some_iff.1 h.ha).1
 have hb:=Nat.le_of_ble_eq_true h.hb
 simp only[M.cells,List.length_map]
 rw[h.lH,gN h.hC]
 have:(i.toNat+1)*sz≤xs.length*sz:=Nat.mul_le_mul_right _ hlt
 rw[Nat.succ_mul] at this
 omega
theorem CC {α:Type} {C:α→List PV} {Cs:List α→List PV} {t:TypeId} {x y:Operand} {k off m sz:Nat} {el:TypeId} {i:Int} {xs:List α} {a a':α} {v:AV} {vs:List PV} (h:vQ P C Cs l s t x y k off m sz el i xs a a' v vs)
  (hn:SL P E n ops Q rest (Y l ds) (U ((k,.arr el sz (Cs (xs.set i.toNat a')))::nj k s))):SL P E n ops Q (⟨none,.store t x y,ty,pos,af,none⟩::rest) (Y l ds) (U s):=by
 refine iA rfl (pH rfl rfl (aE h.hx) (bW h.hk) rfl (by rw[aE h.hy];exact h.hv) (u5 h.h1) (by rw[List.length_map,h.hm];exact h.ht) h.le (fun _=>⟨_,rfl⟩) ?_)
 rw[h.Aw,← yy];exact hn
structure rp (P:Program) (E:Env) (l:List (Nat×AV)) (ds:List (FuncId×List AV)) (s:List (Nat×M)) {α:Type} (C:α→List PV) (Cs:List α→List PV) (t e:TypeId) (sz bytes k nm:Nat) (a x:Operand) (xs ys:List α):Prop where
 hT:P.underlying t=some (.slice e)
 hB:pI P e=some (sz,bytes)
 lH:∀ l,Cs l=l.flatMap C
 hL:∀ x,(C x).length=sz
 h1:∀ x,PV.iW (C x)=true
 hE:E.fix nm=none
 hs:bT l a=some (.arr k (List.length xs))
 hk:dB s k=some (.arr e sz (Cs xs))
 hx:bT l x=some (.pv (.sl (List.length ys) (Cs ys)))∨(ys=[]∧bT l x=some (Sc (.slice none 0 0)))
 hm:kF nm l=false∧ja nm ds=false∧vf nm [k] s=false
 hg:cV bytes (List.length xs) (List.length ys)
section
variable {α:Type} {C:α→List PV} {Cs:List α→List PV} {t e:TypeId} {sz bytes k nm:Nat} {a x:Operand} {xs ys:List α}
theorem rp.G2 (h:rp P E l ds s C Cs t e sz bytes k nm a x xs ys):Dw sz ((Y l ds).val x) (List.length ys) (Cs ys):=by
 rcases h.hx with q|⟨q1,q2⟩
 ·rw[aE q];exact .sl _ _ (by rw[h.lH,gN h.hL])
 ·rw[aE q2];subst q1;rw[h.lH];exact .nil
theorem rp.G3 (h:rp P E l ds s C Cs t e sz bytes k nm a x xs ys):((U s).del k).clear nm:=by
 intro j e he
 unfold Z.del at he
 split at he
 ·cases he
 ·rename_i q
  refine lO h.hm.2.2 j e ?_ he
  cases hb:Nat.beq j k with
  | true=>exact absurd (Nat.eq_of_beq_eq_true hb) q
  | false=>simp[hb]
theorem rp.st (h:rp P E l ds s C Cs t e sz bytes k nm a x xs ys):((U s).del k).set nm (.arr e sz (Cs xs++Cs ys))=U ((nm,.arr e sz (Cs (xs++ys)))::nj k s):=by
 rw[← om,show Cs xs++Cs ys=Cs (xs++ys) by rw[h.lH,h.lH,h.lH,List.flatMap_append]];rfl
theorem s3 {d:Nat} (nm:Nat) (h:rp P E l ds s C Cs t e sz bytes k nm a x xs ys) (hd:Nat.blt d n=true)
  (hn:SL P E n ops Q rest (Y ((d,.arr nm (List.length (xs++ys)))::l) ds) (U ((nm,.arr e sz (Cs (xs++ys)))::nj k s))) :
  SL P E n ops Q (⟨some d,.call ⟨.builtin .append,#[a,x],#[t,t]⟩,ty,pos,af,none⟩::rest) (Y l ds) (U s):=by
 refine iA rfl (sV (nm:=nm) rfl h.hT h.hB (aE h.hs) (bW h.hk) (by rw[h.lH,gN h.hL]) h.G2 (by rw[h.lH];exact pd h.h1 ys) (fR h.hm.1 h.hm.2.1) h.G3 h.hE h.hg.1 h.hg.2 (lP hd) ?_)
 rw[h.st,← List.length_append];exact hn
end
end
section
variable {P:Program} {E:Env} {n:Nat} {ops:Array Oper} {Q:dS} {B:List Rec→ew→Z→Prop} {i:Nat} {L:List Nat} {recs:List Rec} {l:List (Nat×AV)} {ds:List (FuncId×List AV)} {s:List (Nat×M)}
 {ty:TypeId} {pos:String} {af:Array Edge}
theorem nq {α:Type} {C:α→List PV} {Cs:List α→List PV} {d:Nat} {t e:TypeId} {a x:Operand} {sz bytes k:Nat} {gd:Option (Nat×Bool)} (nm:Nat) {xs ys:List α}
  (ho:ops[i]?=some ⟨some d,.call ⟨.builtin .append,#[a,x],#[t,t]⟩,ty,pos,af,gd⟩) (hw:gC ops ⟨some d,.call ⟨.builtin .append,#[a,x],#[t,t]⟩,ty,pos,af,gd⟩ (Y l ds))
  (h:rp P E l ds s C Cs t e sz bytes k nm a x xs ys) (hd:Nat.blt d n=true) (hnm:jW recs=true)
  (hn:la ops i ((nm,.arr e sz (Cs (xs++ys)))::nj k s) recs∧lC P E n ops Q B L recs (Y ((d,.arr nm (List.length (xs++ys)))::l) ds) (U ((nm,.arr e sz (Cs (xs++ys)))::nj k s))) :
  lC P E n ops Q B (i::L) recs (Y l ds) (U s):=by
 refine ⟨_,ho,.dN hw rfl (.Ay (nm:=nm) rfl h.hT h.hB (aE h.hs) (bW h.hk) (by rw[h.lH,gN h.hL]) h.G2 (by rw[h.lH];exact pd h.h1 ys) (fR h.hm.1 h.hm.2.1) h.G3 h.hE h.hg.1 h.hg.2 (lP hd) ?_)
  (fun r hr k' _=>by rw[et hnm r (List.mem_filter.1 hr).1];simp)⟩
 rw[h.st,← List.length_append]
 exact ⟨fun r hr=>⟨fun p hp=>(let ⟨e,h1,h2⟩:=hn.1 r hr p hp;⟨e,bW h1,h2⟩),fun nm q=>by rw[et hnm r (List.mem_filter.1 hr).1] at q;cases q⟩,hn.2⟩
theorem FP {α:Type} {C:α→List PV} {Cs:List α→List PV} {t:TypeId} {x y:Operand} {k off m sz:Nat} {el:TypeId} {ii:Int} {xs:List α} {a a':α} {v:AV} {vs:List PV}
  (ho:ops[i]?=some ⟨none,.store t x y,ty,pos,af,none⟩) (h:vQ P C Cs l s t x y k off m sz el ii xs a a' v vs) (hnm:jW recs=true)
  (hn:la ops i ((k,.arr el sz (Cs (xs.set ii.toNat a')))::nj k s) recs∧lC P E n ops Q B L recs (Y l ds) (U ((k,.arr el sz (Cs (xs.set ii.toNat a')))::nj k s))):lC P E n ops Q B (i::L) recs (Y l ds) (U s):=by
 refine ⟨_,ho,.dN (.inl rfl) rfl (.store rfl rfl (aE h.hx) (bW h.hk) rfl (by rw[aE h.hy];exact h.hv) (u5 h.h1) (by rw[List.length_map,h.hm];exact h.ht) h.le (fun _=>⟨_,rfl⟩) ?_) (fun r hr k' _=>by rw[et hnm r (List.mem_filter.1 hr).1];simp)⟩
 rw[h.Aw,← yy]
 exact ⟨fun r hr=>⟨fun p hp=>(let ⟨e,h1,h2⟩:=hn.1 r hr p hp;⟨e,bW h1,h2⟩),fun nm q=>by rw[et hnm r (List.mem_filter.1 hr).1] at q;cases q⟩,hn.2⟩
theorem sC {d:Nat} {x:Operand} {v:AV} (ho:ops[i]?=some ⟨some d,.assign x,ty,pos,af,none⟩) (hx:bT l x=some v) (hd:Nat.blt d n=true) (hs:la ops i s recs) (hnm:jW (gh ops recs i)=true)
  (hn:lC P E n ops Q B L recs (Y ((d,v)::l) ds) (U s)):lC P E n ops Q B (i::L) recs (Y l ds) (U s):=
 ⟨_,ho,.dN (.inl rfl) rfl (.ev (v:=v) (by rw[← aE (ds:=ds) hx];exact tj x) (lP hd)
  ⟨fun r hr=>⟨fun p hp=>(let ⟨e,h1,h2⟩:=hs r hr p hp;⟨e,bW h1,h2⟩),fun nm q=>by rw[et hnm r hr] at q;cases q⟩,hn⟩) (fun r _ k hk=>by cases hk)⟩
theorem rU {t:TypeId} {x y:Operand} {k off m:Nat} {e:M} {v:AV} {c:List AV} [ht:lG P t m] (ho:ops[i]?=some ⟨none,.store t x y,ty,pos,af,none⟩)
  (h:bT l x=some (.ptr k off)∧dB s k=some e∧e.vh=true∧bT l y=some v∧v.fh=some c∧AV.iW c=true∧c.length=m∧Nat.ble (off+c.length) e.cells.length=true)
  (hnm:jW (gh ops recs i)=true) (hn:∀ e',e.put off c=e'→la ops i ((k,e')::s) recs∧lC P E n ops Q B L recs (Y l ds) (U ((k,e')::s))):lC P E n ops Q B (i::L) recs (Y l ds) (U s):=by
 obtain ⟨hx,hk,hea,hy,hc,h1,hm,hl⟩:=h
 have hl':=Nat.le_of_ble_eq_true hl
 obtain ⟨hst,hn⟩:=hn _ rfl
 refine ⟨_,ho,.dN (.inl rfl) rfl (.store rfl rfl (aE hx) (bW hk) (tC hea) (by rw[aE hy];exact hc) h1 (by rw[hm];exact ht.h) hl' (tD hea) ?_) (fun r hr k' _=>by rw[et hnm r hr];simp)⟩
 rw[put_eq hea hl']
 exact ⟨fun r hr=>⟨fun p hp=>(let ⟨e,h1,h2⟩:=hst r hr p hp;⟨e,bW h1,h2⟩),fun nm q=>by rw[et hnm r hr] at q;cases q⟩,hn⟩
def pP (nm:Nat):List Rec→Bool
 | []=>true
 | r::rs=>(match r.nm with|none=>true|some k=>!Nat.beq k nm)&&r.rd.all (fun p=>!Nat.beq p.1 nm)&&pP nm rs
theorem kq {nm:Nat}:∀ {recs:List Rec},pP nm recs=true→∀ r,r∈recs→r.nm≠some nm∧∀ p,p∈r.rd→p.1≠nm
 | [],_,r,hr=>by cases hr
 | a::rs,h,r,hr=>by
  simp only[pP,Bool.and_eq_true,List.all_eq_true] at h
  rcases List.mem_cons.1 hr with q|q
  ·subst q
   refine ⟨fun q=>?_,fun p hp q=>?_⟩
   ·have:=h.1.1;rw[q] at this;simp at this
   ·have:=h.1.2 p hp;rw[q] at this;simp at this
  ·exact kq h.2 r q
theorem FQ {d:Nat} {op:Op} {v:AV} {e:M} {gd:Option (Nat×Bool)} (nm:Nat) (ho:ops[i]?=some ⟨some d,op,ty,pos,af,gd⟩) (hw:gC ops ⟨some d,op,ty,pos,af,gd⟩ (Y l ds)) (h:zP P op (Y l ds) nm e v)
  (hE:E.fix nm=none) (hm:kF nm l=false∧ja nm ds=false∧mX nm s=false∧dB s nm=none) (hh:dN ⟨some d,op,ty,pos,af,gd⟩=false∧Nat.blt d n=true∧jW (gh ops recs i)=true∧pP nm recs=true) (hv:AV.ed.fg nm e.cells=false)
  (hn:lC P E n ops Q B L (⟨i,some d,[],some nm⟩::recs) (Y ((d,v)::l) ds) (U ((nm,e)::s))):lC P E n ops Q B (i::L) recs (Y l ds) (U s):=by
 have hs:U s nm=none:=by
  have:=pM (l:=s) (i:=nm)
  simp only[U];rw[this];exact hm.2.2.2
 exact ⟨_,ho,.nw hw hh.1 h (fR hm.1 hm.2.1) (jb hm.2.2.1) hs hE (lP hh.2.1) (fun r hr k q=>by rw[et hh.2.2.1 r hr] at q;cases q)
  (fun r hr=>(kq hh.2.2.2 r hr).1) (fun r hr=>(kq hh.2.2.2 r hr).2) hv hn⟩
theorem s4 {d:Nat} {t:TypeId} {z:List Value} [hz:kf P t z] {zs:List AV} {gd:Option (Nat×Bool)} (ho:ops[i]?=some ⟨some d,.alloc t,ty,pos,af,gd⟩) (hw:gC ops ⟨some d,.alloc t,ty,pos,af,gd⟩ (Y l ds)) (nm:Nat) (hE:E.fix nm=none)
  (hm:z.map (fun v=>AV.pv (.sc v))=zs∧kF nm l=false∧ja nm ds=false∧mX nm s=false∧dB s nm=none) (hh:dN ⟨some d,.alloc t,ty,pos,af,gd⟩=false∧Nat.blt d n=true∧pP nm recs=true∧pP nm recs=true)
  (hn:lC P E n ops Q B L (⟨i,some d,[],some nm⟩::recs) (Y ((d,.ptr nm 0)::l) ds) (U ((nm,.box zs)::s))):lC P E n ops Q B (i::L) recs (Y l ds) (U s):=by
 obtain ⟨h1,h2⟩:=hm
 subst h1
 have this:∀ (k:Nat) (z:List Value),AV.ed.fg k (z.map fun v=>AV.pv (.sc v))=false:=fun k z=>by
  induction z with
  | nil=>rfl
  | cons a z ih=>simp[AV.ed.fg,AV.ed,ih]
 have hs:U s nm=none:=by
  have:=pM (l:=s) (i:=nm)
  simp only[U];rw[this];exact h2.2.2.2
 refine ⟨_,ho,.nw hw hh.1 (x8 nm hz.h) (fR h2.1 h2.2.1) (jb h2.2.2.1) hs hE (lP hh.2.1) (fun r hr k q=>⟨?_,this k z⟩)
  (fun r hr=>(kq hh.2.2.2 r hr).1) (fun r hr=>(kq hh.2.2.2 r hr).2) (this nm z) hn⟩
 have hne:=(kq hh.2.2.2 r (List.mem_filter.1 hr).1).1
 have:nm≠k:=fun e=>hne (by rw[q,e])
 simpa[AV.ed] using this
theorem FT {α:Type} {C:α→List PV} {Cs:List α→List PV} {sz:Nat} (xs:List α) (lH:∀ l,Cs l=l.flatMap C) (hC:∀ x,(C x).length=sz) {d:Nat} {t e:TypeId} {m:Nat} {parts:List (Nat×Operand)} {zs:List Value} {pl:List (Nat×Nat)} {pv:List (Nat×AV)}
  {gd:Option (Nat×Bool)} [ht:kg P t m e sz zs pl] (ho:ops[i]?=some ⟨some d,.buildSlice t m parts.toArray,ty,pos,af,gd⟩) (hw:gC ops ⟨some d,.buildSlice t m parts.toArray,ty,pos,af,gd⟩ (Y l ds)) (nm:Nat) (hE:E.fix nm=none)
  (h:parts.mapM (fun p=>(bT l p.2).map fun v=>(p.1,v))=some pv∧k6 pl (zs.map fun v=>.pv (.sc v)) pv=some ((xs.flatMap C).map .pv)∧xs.length=m∧Nat.ble m 1000=true)
  (hm:kF nm l=false∧ja nm ds=false∧mX nm s=false∧dB s nm=none) (hh:dN ⟨some d,.buildSlice t m parts.toArray,ty,pos,af,gd⟩=false∧Nat.blt d n=true∧jW (gh ops recs i)=true∧pP nm recs=true)
  (hn:lC P E n ops Q B L (⟨i,some d,[],some nm⟩::recs) (Y ((d,.arr nm (List.length xs))::l) ds) (U ((nm,.app e sz (Cs xs))::s))):lC P E n ops Q B (i::L) recs (Y l ds) (U s):=by
 rw[h.2.2.1] at hn
 refine FQ nm ho hw (ug nm ht.h ?_ ?_ (Nat.le_trans (Nat.le_of_ble_eq_true h.2.2.2) (by simp[maxLen]))) hE hm hh (by simp only[M.cells];exact mb _ _) hn
 ·rw[sZ h.1,lH];exact h.2.1
 ·rw[lH,gN hC,h.2.2.1]
end
section
variable {P:Program} {E:Env} {n:Nat} {ops:Array Oper} {Q:dS} {rest:List Oper} {l:List (Nat×AV)} {ds:List (FuncId×List AV)} {s:List (Nat×M)}
 {ty:TypeId} {pos:String} {af:Array Edge}
theorem FU {α:Type} {C:α→List PV} {Cs:List α→List PV} {d:Nat} {t e:TypeId} {m sz:Nat} {parts:List (Nat×Operand)} {zs:List Value} {pl:List (Nat×Nat)} {pv:List (Nat×AV)} [ht:kg P t m e sz zs pl] (nm:Nat)
  (xs:List α) (lH:∀ l,Cs l=l.flatMap C) (hC:∀ x,(C x).length=sz) (hE:E.fix nm=none)
  (h:parts.mapM (fun p=>(bT l p.2).map fun v=>(p.1,v))=some pv∧k6 pl (zs.map fun v=>.pv (.sc v)) pv=some ((xs.flatMap C).map .pv)∧xs.length=m∧Nat.ble m 1000=true)
  (hm:kF nm l=false∧ja nm ds=false∧mX nm s=false) (hd:Nat.blt d n=true)
  (hn:SL P E n ops Q rest (Y ((d,.arr nm (List.length xs))::l) ds) (U ((nm,.app e sz (Cs xs))::s))):SL P E n ops Q (⟨some d,.buildSlice t m parts.toArray,ty,pos,af,none⟩::rest) (Y l ds) (U s):=by
 rw[h.2.2.1,lH] at hn
 exact Cb nm hE ⟨h.1,h.2.1,by rw[gN hC,h.2.2.1],h.2.2.2⟩ hm hd hn
theorem vn {fr:ew} {t e:TypeId} {n sz:Nat} {zs:List Value} {places:List (Nat×Nat)} {parts:List (Nat×Operand)} {out:List AV} {cells:List PV} (ht:wo P t n=some (e,sz,zs,places))
  (h:k6 places (zs.map fun v=>.pv (.sc v)) (parts.map fun p=>(p.1,fr.val p.2))=some out) (hn:AV.GC out=cells.map .pv):BX P (.buildSlice t n parts.toArray) fr (.pv (.sl n cells)):=by
 intro o ho g ev w hv
 obtain ⟨place,hp,hzl,hb⟩:=nH ht
 obtain ⟨cs',hf,hr⟩:=qW (g:=g) (vs:=parts.map fun p=>(p.1,ev p.2)) (cs:=zs.toArray) hp h (by simpa using ga.pG g zs) (by simp)
  (tu fun p hp=>hv p.2 (by simp[Op.operands];exact ⟨_,hp⟩)) trivial (qX h)
 have e1:(parts.toArray.map fun (x:Nat×Operand)=>(x.1,ev x.2)).toList=parts.map fun p=>(p.1,ev p.2):=by simp
 have hrun:=hb (parts.toArray.map fun (x:Nat×Operand)=>(x.1,ev x.2)) cs' w (by rw[e1];exact hf)
 have hps:=kL.u1 (g:=g) (ps:=cells) (by rw[← hn];exact (AV.uO out).E4 hr)
 have hlen:=hps.length
 refine ⟨.slice (some ⟨w.heap.size,0,none⟩) n n,cs',e,cells,?_,by simp at hlen;omega,?_,.pv (.sl w.heap.size cells 0 n n cells (by simp[Gh.dq]) (by simp) (by simp) (Nat.le_refl _))⟩
 ·simp only[execOp,ho,Sem.run_bind,hrun,Result.andThen_ok,Sem.run_pure]
 ·rw[List.take_of_length_le (by simp at hlen;simp;omega)];exact hps
end
section
variable {P:Program} {E:Env} {n:Nat} {ops:Array Oper} {Q:dS} {B:List Rec→ew→Z→Prop} {i:Nat} {L:List Nat} {recs:List Rec} {l:List (Nat×AV)} {ds:List (FuncId×List AV)} {s:List (Nat×M)}
 {ty:TypeId} {pos:String} {af:Array Edge}
theorem tM {α:Type} {C:α→List PV} {Cs:List α→List PV} (xs:List α) (lH:∀ l,Cs l=l.flatMap C) {d:Nat} {t e:TypeId} {m sz:Nat} {parts:List (Nat×Operand)} {zs:List Value} {pl:List (Nat×Nat)} {pv:List (Nat×AV)} {out:List AV}
  {gd:Option (Nat×Bool)} [ht:kg P t m e sz zs pl] (ho:ops[i]?=some ⟨some d,.buildSlice t m parts.toArray,ty,pos,af,gd⟩) (hw:gC ops ⟨some d,.buildSlice t m parts.toArray,ty,pos,af,gd⟩ (Y l ds))
  (h:parts.mapM (fun p=>(bT l p.2).map fun v=>(p.1,v))=some pv∧k6 pl (zs.map fun v=>.pv (.sc v)) pv=some out∧AV.GC out=(xs.flatMap C).map .pv)
  (hc:dN ⟨some d,.buildSlice t m parts.toArray,ty,pos,af,gd⟩=false∧Nat.blt d n=true)
  (hn:lC P E n ops Q B L (⟨i,some d,[],none⟩::recs) (Y ((d,.pv (.sl m (Cs xs)))::l) ds) (U s)):lC P E n ops Q B (i::L) recs (Y l ds) (U s):=by
 refine ⟨_,ho,.fz hw hc.1 (v:=.pv (.sl m (Cs xs))) ?_ (lP hc.2) (fun _ _ _ _=>rfl) hn⟩
 rw[lH]
 exact vn ht.h (by rw[sZ h.1];exact h.2.1) h.2.2
end
end Go.Abs
end
section
namespace Go.Abs
open D
theorem cy {P:Program} {f:FuncId} {args:List AV} {es:List M} {X:Type} {V:X→AV} {C:X→List M}:CT P f args es (D.stuck:D X) V C:=fun _ h hs=>absurd h.symm hs
theorem lf {α:Type} {H:oj→D α} {r rO:D α} {p:oj} (hc:nN r H=rO) (hp:r=.kT p):H p=rO:=by subst hp;exact hc
theorem pQ {α:Type} {H:oj→D α} {r rO:D α} {x:α} (hc:nN r H=rO) (h:r=.ok x):rO=.ok x:=by subst h;exact hc.symm
def AV.wk:AV→AV
 | .ptr k o=>.ptr k o
 | _=>.any
theorem AV.G5 (v:AV):v.le v.wk:=by
 cases v<;>first|exact AV.le_refl _|exact AV.zV _
theorem CD:∀ cs:List AV,xU cs (cs.map AV.wk)
 | []=>.nil
 | c::cs=>.cons (AV.G5 c) (CD cs)
section
variable {P:Program} {E:Env} {n:Nat} {ops:Array Oper} {Q:dS} {rest:List Oper} {l:List (Nat×AV)} {ds:List (FuncId×List AV)} {s:List (Nat×M)} {ty:TypeId} {pos:String} {af:Array Edge}
def G6:List Nat→List (Nat×M)→Option (List (Nat×M))
 | [],s=>some s
 | k::ks,s=>match G6 ks s with
  | some s'=>match dB s' k with
   | some (.box cs)=>some ((k,.box (cs.map AV.wk))::s')
   | _=>none
  | none=>none
theorem G7:∀ {ks:List Nat} {s':List (Nat×M)},G6 ks s=some s'→eT E n l ds s l s'
 | [],s',h=>by simp[G6] at h;subst h;exact HD l s
 | k::ks,s',h=>by
  simp only[G6] at h
  split at h
  ·rename_i s1 h1
   split at h
   ·rename_i cs h2
    cases h
    exact (G7 h1).trans (AJ h2 (CD cs))
   ·cases h
  ·cases h
def tN (P:Program) (E:Env) (n:Nat) (fn:Func) (R:n7→Z→Prop):dS
 | .panic v,fr,σ=>nf P fn R (.panic v) fr σ∨∃ l fid cap c s s',fr=Y l [(fid,cap)]∧σ=U s∧(∀ g c',VR g v c'→c'=c)∧eT E n l [(fid,cap)] s l s'∧Bh P E fn R fid cap (some c) (Y l [(fid,cap)]) (U s')
 | e,fr,σ=>uo P E fn R e fr σ
theorem LQ.dg {fn:Func} {R:n7→Z→Prop} {e:Exit} {a:Act} {w:World} (h:LQ E n (tN P E n fn R) e a w):LQ E n (uo P E fn R) e a w:=by
 obtain ⟨g,ae,fr,σ,q,hx,hR,hF⟩:=h
 cases hx with
 | normal=>exact ⟨g,.normal,fr,σ,q,.normal,hR,hF⟩
 | exit id=>exact ⟨g,.exit id,fr,σ,q,.exit id,hR,hF⟩
 | goto id=>exact ⟨g,.goto id,fr,σ,q,.goto id,hR,hF⟩
 | ret=>exact ⟨g,.ret,fr,σ,q,.ret,hR,hF⟩
 | @panic v c0 hv=>
  rcases q with q|⟨l,fid,cap,c,s,s',rfl,rfl,hc,hg,hq⟩
  ·exact ⟨g,.panic v,fr,σ,(show uo P E fn R (.panic v) fr σ from .inl q),.panic hv,hR,hF⟩
  ·obtain ⟨g',hR',hF'⟩:=hg g a w hR hF
   have hcc:=hc _ _ hv
   subst hcc
   exact ⟨g',.panic (Sc c0),Y l [(fid,cap)],U s',(show uo P E fn R (.panic (Sc c0)) (Y l [(fid,cap)]) (U s') from .inr ⟨fid,cap,c0,rfl,fun _ _ h=>h.dz,hq⟩),.panic (.pv (.sc _)),hR',hF'⟩
theorem rV {f:FuncId} {fn:Func} {c:Code} {args:List AV} {es:List M} {X:Type} {res:D X} {V:X→AV} {C:X→List M} (hf:P.funcs[f]?=some fn) (hb:fn.body=some c) (hn:Nat.ble args.length fn.ntmps=true)
  (h:∀ r,res=r→r≠.stuck→∀ E:Env,(∀ k,kh es k=true→E.fix k=none)→
   SW P E fn.ntmps c (tN P E fn.ntmps fn (pL V C (fun x=>r=.ok x) (fun v=>∃ p,r=.kT p∧v=p.av))) (Y ((List.range args.length).zip args) []) (U (ez 0 es))):CT P f args es res V C:=
 Co hf hb hn fun r hr hs E hE=>fun g a w hR hF=>wp_mono (h r hr hs E hE g a w hR hF) fun _ _ _ q=>q.dg
theorem s5 {fn:Func} {R:n7→Z→Prop} {ae:se} (hae:ae=.ret∨ae=.normal) {fr:ew} {σ:Z} (h:nf P fn R ae fr σ):tN P E n fn R ae fr σ:=by
 rcases hae with rfl|rfl
 ·exact Cq (.inl rfl) h
 ·exact Cq (.inr rfl) h
theorem uR {fn:Func} {X:Type} {V:X→AV} {C:X→List M} {r:D X} {p:oj} {fr:ew} {σ:Z} (hd:fr.ds=[]) (h:r=.kT p) :
  tN P E n fn (pL V C (fun x=>r=.ok x) (fun v=>∃ p,r=.kT p∧v=p.av)) (.panic p.av) fr σ:=.inl (xh hd h)
theorem kU {fn:Func} {R:n7→Z→Prop} {ae:se} (hae:ae=.ret∨ae=.normal) {fid:FuncId} {cap capC:List AV} {es:List M} (ks:List Nat) (hen:Enters P fid) (hC:Bg P fid capC es none (D.ok ()) (fun _=>es))
  (hk:AO E l s ks cap capC es) (hx:jd (below ks.length) es=true) {s':List (Nat×M)} (hs:kR ks (jL (nth ks) es)++s=s') (hret:nf P fn R .ret (Y l []) (U s')):tN P E n fn R ae (Y l [(fid,cap)]) (U s):=by
 have hl:es.length=ks.length:=by
  have:=(nJ hk.gs).1
  rwa [gL] at this
 have:=Bk (E:=E) hae ks hen hC hk (fun _=>⟨hl,hx⟩) hs hret
 rcases hae with rfl|rfl
 ·exact this
 ·exact this
theorem ij {fn:Func} {R:n7→Z→Prop} {T:TypeId} {v:Int} {fid:FuncId} {cap capC:List AV} {es:List M} (ks:List Nat) {s1:List (Nat×M)} {X:Type} {res:D X} {C:X→List M} (hen:Enters P fid)
  (hC:Bg P fid capC es (some (.iface T (.agg #[.int .i64 v]))) res C) (hns:res≠.stuck) (hw:G6 ks s=some s1) (hk:AO E l s1 ks cap capC es) (hx:∀ x,(C x).length=ks.length∧jd (below ks.length) (C x)=true)
  (hret:∀ x,res=.ok x→nf P fn R .ret (Y l []) (U (kR ks (jL (nth ks) (C x))++s1))):tN P E n fn R (.panic (oj.av ⟨T,[.sc (.int .i64 v)]⟩)) (Y l [(fid,cap)]) (U s):=
 .inr ⟨l,fid,cap,_,s,s1,rfl,rfl,fun _ _ h=>Cp h,G7 hw,E5 hen hC hns hk hx hret⟩
def CE (R:Z→Prop):dS
 | .normal,fr,σ|.ret,fr,σ=>fr.ds=[]∧∃ σ',(∀ k e,σ' k=some e→σ k=some e)∧R σ'
 | _,_,_=>False
theorem rW {ae:se} (hae:ae=.ret∨ae=.normal) {X:Type} {r:D X} {C:X→List M} (x:X) (hg:r=.ok x) (hm:tE s 0 (C x)):CE (fun σ=>∃ x,r=.ok x∧σ=U (ez 0 (C x))) ae (Y l []) (U s):=by
 have h:(Y l []).ds=[]∧∃ σ',(∀ k e,σ' k=some e→U s k=some e)∧∃ x,r=.ok x∧σ'=U (ez 0 (C x)):=
  ⟨rfl,U (ez 0 (C x)),yj (fun j e hj=>by have:=tF hm j e hj;simpa using this),x,hg,rfl⟩
 rcases hae with rfl|rfl
 ·exact h
 ·exact h
theorem oo {es:List M} {r:D Unit} (h:D.ok ()=r) {ae:se} (hae:ae=.ret∨ae=.normal:=by first|exact .inr rfl|exact .inl rfl):CE (fun σ=>∃ x,r=.ok x∧σ=U (ez 0 ((fun _:Unit=>es) x))) ae (Y l []) (U (ez 0 es)):=by
 have q:(Y l []).ds=[]∧∃ σ',(∀ k e,σ' k=some e→U (ez 0 es) k=some e)∧∃ x,r=.ok x∧σ'=U (ez 0 ((fun _:Unit=>es) x)):=⟨rfl,_,fun _ _ h=>h,(),h.symm,rfl⟩
 rcases hae with rfl|rfl
 ·exact q
 ·exact q
theorem ml {f:FuncId} {fn:Func} {y:Code} {id d1 d2:Nat} {ts ty1 ty2:_} {p1 p2:String} {a1 a2:Array Edge} {cap:List AV} {es:List M} {m:Option Value} {mv:AV} {X:Type} {res:D X} {C:X→List M}
  (hmv:∀ g,VR g mv (m.getD .nilIface)) (hf:P.funcs[f]?=some fn)
  (hb:fn.body=some (.seq (.region id #[⟨some d1,.call ⟨.builtin .recover,#[],ts⟩,ty1,p1,a1,none⟩,⟨some d2,.assign (.tmp d1),ty2,p2,a2,none⟩] false) y))
  (hres:fn.results = #[]) (hn:(Nat.ble cap.length fn.ntmps&&Nat.blt d1 fn.ntmps&&Nat.blt d2 fn.ntmps)=true)
  (h:∀ r,res=r→r≠.stuck→∀ E:Env,(∀ k,kh es k=true→E.fix k=none)→
   SW P E fn.ntmps y (CE (fun σ=>∃ x,r=.ok x∧σ=U (ez 0 (C x)))) (Y ((d2,mv)::(d1,mv)::(List.range cap.length).zip cap) []) (U (ez 0 es))):Bg P f cap es m res C:=by
 intro r hr hs wS g w vs u hR hv hu
 simp only[Bool.and_eq_true] at hn
 have hn1:=Nat.le_of_ble_eq_true hn.1.1
 have hd1:d1<fn.ntmps:=by simpa[Nat.blt_eq] using hn.1.2
 have hd2:d2<fn.ntmps:=by simpa[Nat.blt_eq] using hn.2
 have hlen:=hv.length
 let E:=Env.of wS g (U (ez 0 es)) w
 have hE:∀ k,kh es k=true→E.fix k=none:=fun k hk=>by
  have h3:∀ (es:List M) (k:Nat),kh es k=true→∀ cs,es[k]?≠some (.box cs):=by
   intro es
   induction es with
   | nil=>intro k _ cs;simp
   | cons e es ih=>
    intro k hk cs
    cases k with
    | zero=>intro q;simp at q;subst q;simp[kh] at hk
    | succ k=>simpa using ih k (by cases e<;>simpa[kh] using hk) cs
  simp only[E,Env.of]
  split
  ·rename_i cs hcs
   obtain ⟨_,h2⟩:=fi hcs
   exact absurd (by simpa using h2) (h3 es k hk cs)
  ·rfl
 have hW:=h r hr hs E hE
 refine callsD_of_wpS hf hb fun c₀ cs hcm=>?_
 let a0:Act:={ tmps:=vs.toArray++Array.replicate (fn.ntmps - vs.toArray.size) undef,defers:=[] }
 have hF0:FR fn.ntmps g (Y ((List.range cap.length).zip cap) []) a0:=by
  rw[← vi]
  refine ⟨by simp[a0];omega,fun i=>?_,.nil⟩
  rw[Array.getD_eq_getD_getElem?]
  rcases Nat.lt_or_ge i cap.length with q|q
  ·obtain ⟨c,h1,h2⟩:=hv.get i cap[i] (by simp)
   have:a0.tmps[i]?=some c:=by
    simp only[a0];rw[Array.getElem?_append_left (by simp;omega)];simpa using h1
   rw[this]
   simp[q];exact h2
  ·have e:cap[i]?=none:=List.getElem?_eq_none q
   simp only[e,Option.getD_none];exact .any _
 have hF1:=hF0.put (d:=some d1) (v:=mv) (c:=m.getD .nilIface) (fun x hx=>by cases hx;exact hd1) (hmv g)
 have hF2:=hF1.put (d:=some d2) (v:=mv) (c:=m.getD .nilIface) (fun x hx=>by cases hx;exact hd2) (hmv g)
 rw[yc,yc] at hF2
 have hwp:=hW g _ w hR hF2
 have fin:∀ u',(settle u'=.returning)→y.wpS P (bodyPostS P fn c₀ cs fun e u' w'=>(∃ v,e=.returned v)∧settle u'=.returning∧∃ g' σ',(∃ x,r=.ok x∧σ'=U (ez 0 (C x)))∧Rel E g' σ' w')
   ((a0.put (some d1) (m.getD .nilIface)).put (some d2) (m.getD .nilIface)) ({ c₀ with mode:=u' }::cs) w:=fun u' hu'=>by
  refine wpS_of_wp (wp_mono hwp fun e a w' hq=>?_)
  obtain ⟨g',ae,fr',σ',q,hx,hR',hF'⟩:=hq
  have res:(results fn a.tmps).run P w'=.ok (.tuple #[]) w':=by
   rw[su,hres];simp
  cases hx with
  | normal=>
   obtain ⟨hd,σ2,hs2,hx2⟩:=q
   have:=hF'.ds;rw[hd] at this
   exact ⟨this.ng,u',rfl,_,res,⟨_,rfl⟩,hu',g',σ2,hx2,hR'.sub hs2⟩
  | ret=>
   obtain ⟨hd,σ2,hs2,hx2⟩:=q
   have:=hF'.ds;rw[hd] at this
   exact ⟨this.ng,u',rfl,_,res,⟨_,rfl⟩,hu',g',σ2,hx2,hR'.sub hs2⟩
  | exit id=>exact q.elim
  | goto l=>exact q.elim
  | panic hv=>exact q.elim
 refine wpS_seq (wpS_region ?_)
 have hr2:List.range #[(⟨some d1,.call ⟨.builtin .recover,#[],ts⟩,ty1,p1,a1,none⟩:Oper),⟨some d2,.assign (.tmp d1),ty2,p2,a2,none⟩].size=[0,1]:=rfl
 rw[hr2]
 have hrec:∀ a:Act,(execOp a.eval (⟨some d1,.call ⟨.builtin .recover,#[],ts⟩,ty1,p1,a1,none⟩:Oper)).run P w=.ok .recover w:=fun a=>by
  simp[execOp,resolve,invoke,builtin]
 have hev:∀ (a:Act) (c:Value),(a.put (some d1) c).tmps.getD d1 undef=c∨¬ d1<a.tmps.size:=fun a c=>by
  by_cases q:d1<a.tmps.size
  ·left;simp[Act.put,q]
  ·right;exact q
 have hsz:d1<a0.tmps.size:=by rw[hF0.size];exact hd1
 have hasg:∀ c:Value,(execOp (a0.put (some d1) c).eval (⟨some d2,.assign (.tmp d1),ty2,p2,a2,none⟩:Oper)).run P w=.ok (.value c) w:=fun c=>by
  have:=(hev a0 c).resolve_right (fun q=>q hsz)
  simp[execOp,Act.eval,this]
 cases m with
 | none=>
  have hu':c₀.mode=.returning:=hcm.trans hu
  have hrd:recoverD (c₀::cs)=none:=by simp[recoverD,hu']
  simp only[wpOpsS,List.getElem?_toArray,List.getElem?_cons_zero,List.getElem?_cons_succ,Region.wanted,if_true,hrec,hrd]
  rw[show (Value.nilIface)=(none:Option Value).getD .nilIface from rfl,hasg]
  simp only[Oper.upon,Exit.thenS]
  exact fin c₀.mode (by rw[hu'];rfl)
 | some c=>
  have hu':c₀.mode=.panicking [{ v:=c,recovered:=false }]:=hcm.trans hu
  have hrd:recoverD (c₀::cs)=some (c,{ c₀ with mode:=.panicking [{ v:=c,recovered:=true }] }::cs):=by simp[recoverD,hu']
  simp only[wpOpsS,List.getElem?_toArray,List.getElem?_cons_zero,List.getElem?_cons_succ,Region.wanted,if_true,hrec,hrd]
  rw[hasg]
  simp only[Oper.upon,Exit.thenS]
  exact fin _ rfl
def NP {α:Type} (x:D α):Prop:=∀ p,x≠.kT p
theorem NP.ok {α:Type} (a:α):NP (D.ok a):=fun _ h=>by cases h
theorem NP.stuck {α:Type}:NP (D.stuck:D α):=fun _ h=>by cases h
theorem NP.br {α:Type} {b:Bool} {x y:D α} (hx:NP x) (hy:NP y):NP (D.br b x y):=by cases b<;>assumption
theorem NP.gd {α:Type} {p:Prop} [Decidable p] {x:D α} (hx:NP x):NP (D.gd p x):=by unfold D.gd;split;exact hx;exact NP.stuck
theorem NP.el {α β:Type} {l:List β} {i:Int} {k:β→D α} (hk:∀ x,NP (k x)):NP (D.el l i k):=by
 unfold D.el
 split
 ·split
  ·exact hk _
  ·exact NP.stuck
 ·exact NP.stuck
theorem NP.some? {α β:Type} {o:Option β} {k:β→D α} (hk:∀ x,NP (k x)):NP (D.some? o k):=by cases o;exact NP.stuck;exact hk _
theorem NP.bind {α β:Type} {x:D α} {k:α→D β} (hx:NP x) (hk:∀ a,NP (k a)):NP (D.bind x k):=by
 cases x with
 | stuck=>exact NP.stuck
 | kT p=>exact absurd rfl (hx p)
 | ok a=>exact hk a
theorem NP.jn {α X:Type} {j:X→D α} {p:(X→D α)→D α} (h:∀ j,(∀ x,NP (j x))→NP (p j)) (hj:∀ x,NP (j x)):NP (D.jn j p):=h j hj
theorem NP.iter {α X:Type} {body:(X→D α)→X→D α} (h:∀ nx,(∀ x,NP (nx x))→∀ x,NP (body nx x)):∀ (n:Nat) (x:X),NP (D.iter body n x)
 | 0,_=>NP.stuck
 | n+1,x=>h _ (fun y=>NP.iter h n y) x
end
section
variable {P:Program} {E:Env} {n:Nat} {ops:Array Oper} {Q:dS} {B:List Rec→ew→Z→Prop} {i:Nat} {L:List Nat} {recs:List Rec} {rest:List Oper} {l:List (Nat×AV)} {ds:List (FuncId×List AV)} {s:List (Nat×M)}
 {ty:TypeId} {pos:String} {af:Array Edge}
theorem CF {d:Nat} {X R:Type} {res:D X} {kk:X→D R} {r:D R} {V V':X→AV} {C:X→List M} {C':X→List (Nat×M)} {f:Operand} {args:List Operand} {ts:Array TypeId} {fid:FuncId}
  {argsC first cap vs:List AV} {es:List M} (hr:r≠.stuck) (h:D.bind res kk=r) (ks:List Nat) (hen:Enters P fid)
  (hC:CT P fid argsC es res V C) (hk:kS E ds l s ks f args fid argsC es first cap vs) (hd:Nat.blt d n=true)
  (hx:∀ x,(C x).length=ks.length∧jd (below ks.length) (C x)=true∧(V x).only (below ks.length)=true)
  (hV:∀ x,(V x).gg (nth ks)=V' x∧kR ks (jL (nth ks) (C x))=C' x) (hnp:NP res)
  (hret:∀ x,kk x=r→SL P E n ops Q rest (Y ((d,V' x)::l) ds) (U (C' x++s))) :
  SL P E n ops Q (⟨some d,.call ⟨.value f,args.toArray,ts⟩,ty,pos,af,none⟩::rest) (Y l ds) (U s):=by
 obtain ⟨hns,hok,hp⟩:=ki hr h
 refine iA rfl (Be ks hen rfl (hC res rfl hns) hk (lP hd) (fun x _=>hx x) (fun x hg=>?_) (fun v hv=>?_))
 ·have:=hret x (hok x hg)
  rw[← (hV x).1,← (hV x).2] at this;exact this
 ·obtain ⟨p,hp1,_⟩:=hv
  exact absurd hp1 (hnp p)
theorem FV {d:Nat} {X R:Type} {res:D X} {kk:X→D R} {r:D R} {V V':X→AV} {C:X→List M} {C':X→List (Nat×M)} {f:Operand} {args:List Operand} {ts:Array TypeId} {fid:FuncId}
  {argsC first cap vs:List AV} {es:List M} {gd:Option (Nat×Bool)} (ho:ops[i]?=some ⟨some d,.call ⟨.value f,args.toArray,ts⟩,ty,pos,af,gd⟩)
  (hw:gC ops ⟨some d,.call ⟨.value f,args.toArray,ts⟩,ty,pos,af,gd⟩ (Y l ds)) (hr:r≠.stuck) (h:D.bind res kk=r) (ks:List Nat) (hen:Enters P fid)
  (hC:CT P fid argsC es res V C) (hk:kS E ds l s ks f args fid argsC es first cap vs) (hd:Nat.blt d n=true) (hnm:tG ks recs=true)
  (hx:∀ x,(C x).length=ks.length∧jd (below ks.length) (C x)=true∧(V x).only (below ks.length)=true)
  (hV:∀ x,(V x).gg (nth ks)=V' x∧kR ks (jL (nth ks) (C x))=C' x) (hnp:NP res)
  (hret:∀ x,kk x=r→la ops i (C' x++s) recs∧lC P E n ops Q B L recs (Y ((d,V' x)::l) ds) (U (C' x++s))):lC P E n ops Q B (i::L) recs (Y l ds) (U s):=by
 obtain ⟨hns,hok,hp⟩:=ki hr h
 refine AF ho hw ks hen (hC res rfl hns) hk hd hnm (fun x _=>hx x) (fun v hv=>?_) (fun x hg v' s' hv hs=>?_)
 ·obtain ⟨p,hp1,_⟩:=hv
  exact absurd hp1 (hnp p)
 ·have:=hret x (hok x hg)
  rw[← (hV x).1,← (hV x).2] at this
  subst hv hs;exact this
theorem FW {d:Nat} {X R:Type} {res:D X} {kk:X→D R} {r:D R} {V V':X→AV} {C:X→List M} {C':X→List (Nat×M)} {f:Operand} {args:List Operand} {ts:Array TypeId} {fid:FuncId}
  {argsC first cap vs:List AV} {es:List M} {gd:Option (Nat×Bool)} (ho:ops[i]?=some ⟨some d,.call ⟨.value f,args.toArray,ts⟩,ty,pos,af,gd⟩)
  (hw:gC ops ⟨some d,.call ⟨.value f,args.toArray,ts⟩,ty,pos,af,gd⟩ (Y l ds)) (hfl:gh ops recs i=[]) (hr:r≠.stuck) (h:D.bind res kk=r) (ks:List Nat) (hen:Enters P fid)
  (hC:CT P fid argsC es res V C) (hk:kS E ds l s ks f args fid argsC es first cap vs) (hbb:gy es=true) (hd:Nat.blt d n=true)
  (hx:∀ x,(C x).length=ks.length∧jd (below ks.length) (C x)=true∧(V x).only (below ks.length)=true)
  (hV:∀ x,(V x).gg (nth ks)=V' x∧kR ks (jL (nth ks) (C x))=C' x)
  {sp:List (Nat×M)} (hsp:kR ks (jL (nth ks) (es.map M.lost))++s=sp) (hpan:∀ p,r=.kT p→Q (.panic p.av) (Y l ds) (U sp))
  (hret:∀ x,kk x=r→lC P E n ops Q B L recs (Y ((d,V' x)::l) ds) (U (C' x++s))):lC P E n ops Q B (i::L) recs (Y l ds) (U s):=by
 obtain ⟨hns,hok,hp⟩:=ki hr h
 subst hsp
 obtain ⟨hl,hat⟩:=nJ hk.gs
 rw[gL] at hl
 have hC':=(hC res rfl hns).lost hbb
 refine ⟨_,ho,.dN hw rfl (.call (nth ks) (List.range ks.length) hen rfl (aE hk.f) (by rw[kQ hk.a];exact hk.e) hC' (fun j hj=>by have:=nk hj;simp;omega) (fun j e hj=>?_)
   (fun j hj=>by
    have hj':j<es.length:=by simp at hj;omega
    have:=mg (i:=0) (List.getElem?_eq_getElem hj')
    simp at this;rw[this];rfl)
   (fun j j' hj hj' he=>ni hk.nd (by have:=nk hj;omega) (by have:=nk hj';omega) he) (lP hd) (fun v σc hr=>?_) (fun v σc hr=>?_)) (fun r hr=>by rw[hfl] at hr;cases hr)⟩
 ·obtain ⟨_,h2⟩:=fi hj
  exact hat j _ (by rw[lW,show j=j - 0 by omega,h2];rfl)
 ·rcases hr with ⟨x,hg,he,rfl⟩|⟨_,_,he,_⟩
  ·cases he
   obtain ⟨h1,h2,h3⟩:=hx x
   refine ⟨pf ⟨rfl,rfl⟩ hl hk.nd hk.bx hk.fx h1 h2 h3,?_⟩
   rw[nM hk.nd h1,(hV x).1,(hV x).2]
   exact ⟨fun r hr=>(by rw[hfl] at hr;cases hr),hret x (hok x hg)⟩
  ·cases he
 ·rcases hr with ⟨_,_,he,_⟩|⟨v',⟨p,hp1,hp2⟩,he,rfl⟩
  ·cases he
  ·cases he
   subst hp2
   refine ⟨pf ⟨rfl,rfl⟩ hl hk.nd hk.bx hk.fx (by simp[hl]) (tJ _ hbb) (p.only _),fun fr' σ' _ _ hq=>?_⟩
   obtain ⟨rfl,rfl⟩:=hq hfl
   rw[nM hk.nd (by simp[hl]),o5 (p.only _)]
   exact hpan p (hp p hp1)
theorem AQ (f:Int→AV):∀ {xs:List Int} {i:Nat} {v:Int},(xs.map f).take i++[f v]++(xs.map f).drop (i+1)=(xs.set i v).map f∨xs.length≤i:=by
 intro xs i v
 rcases Nat.lt_or_ge i xs.length with q|q
 ·left
  rw[List.set_eq_take_append_cons_drop,if_pos q]
  simp
 ·exact .inr q
theorem FX (f:Int→AV):∀ {xs:List Int},xs.length=4→xs.map f=[f (iE xs 0),f (iE xs 1),f (iE xs 2),f (iE xs 3)]
 | [_,_,_,_],_=>rfl
theorem DV (f:Int→AV) {t:TypeId} {x y:Operand} {k:Nat} {ii:Int} {xs:List Int} {cs cs':List AV} {v:Int} [ht:lG P t 1] (hx:bT l x=some (.ptr k (0+ii.toNat*1))) (hk:dB s k=some (.box cs)) (hc:cs=xs.map f)
  (hy:bT l y=some (f v)) (h0:0≤ii) (h1:ii<xs.length) (ho:∀ v,(f v).fh=some [f v]∧AV.iW [f v]=true) (hn':(rm xs ii v).map f=cs')
  (hn:SL P E n ops Q rest (Y l ds) (U ((k,.box cs')::s))):SL P E n ops Q (⟨none,.store t x y,ty,pos,af,none⟩::rest) (Y l ds) (U s):=by
 have hlt:ii.toNat<xs.length:=by omega
 refine iA rfl (pH rfl rfl (aE hx) (bW hk) rfl (by rw[aE hy];exact (ho v).1) (ho v).2 ht.h (by simp only[M.cells,List.length_singleton];rw[hc,List.length_map];omega) (fun q=>by cases q) ?_)
 have e1:(M.box cs).Aw (0+ii.toNat*1) [f v]=.box cs':=by
  simp only[M.Aw,List.length_singleton]
  rw[hc,← hn',show 0+ii.toNat*1=ii.toNat by omega]
  rcases AQ f (xs:=xs) (i:=ii.toNat) (v:=v) with q|q
  ·rw[q];rfl
  ·omega
 rw[e1];exact hn
end
end Go.Abs
end
section
namespace Go.Abs
open D
def Hw:List AV→List AV→Prop
 | [],[]=>True
 | a::as,b::bs=>(a=b∨b=.any)∧Hw as bs
 | _,_=>False
theorem AR:∀ {a b:List AV},Hw a b→xU a b
 | [],[],_=>.nil
 | a::as,b::bs,h=>.cons (by rcases h.1 with q|q<;>subst q;exact AV.le_refl _;exact AV.zV _) (AR h.2)
 | [],_::_,h=>h.elim
 | _::_,[],h=>h.elim
def FY (s':List (Nat×M)):List (Nat×M)→Prop
 | []=>True
 | p::ps=>(∃ e,dB s' p.1=some e∧e.le p.2)∧FY s' ps
theorem wF {s':List (Nat×M)}:∀ {l:List (Nat×M)},FY s' l→∀ p,p∈l→∃ e,dB s' p.1=some e∧e.le p.2
 | _::_,h,p,hp=>by
  rcases List.mem_cons.1 hp with q|q
  ·subst q;exact h.1
  ·exact wF h.2 p q
def AS (ops:Array Oper) (i:Nat) (s':List (Nat×M)):List Rec→Prop
 | []=>True
 | r::rs=>(match r.rd with
  | []=>True
  | p::ps=>match mc ops ops.size i r.i with
   | true=>True
   | false=>FY s' (p::ps))∧AS ops i s' rs
theorem cP {ops:Array Oper} {i:Nat} {s':List (Nat×M)} {recs:List Rec} (h:AS ops i s' recs):la ops i s' recs:=by
 induction recs with
 | nil=>intro r hr;simp[gh] at hr
 | cons a rs ih=>
  intro r hr p hp
  simp only[gh,List.mem_filter,Bool.not_eq_true'] at hr
  rcases List.mem_cons.1 hr.1 with q|q
  ·subst q
   have h1:=h.1
   cases hrd:r.rd with
   | nil=>rw[hrd] at hp;cases hp
   | cons x xs=>
    rw[hrd] at h1 hp
    simp only[hr.2] at h1
    exact wF h1 p hp
  ·exact ih h.2 r (by simp[gh,q,hr.2]) p hp
theorem M.ff {cs cs':List AV} (h:Hw cs cs'):M.le (.box cs) (.box cs'):=fun _ _ _ he=>AI (AR h) he
section
variable {P:Program} {l:List (Nat×AV)} {ds:List (FuncId×List AV)} {s:List (Nat×M)}
theorem fj (cs':List AV) {t:TypeId} {x:Operand} {k off:Nat} {cs:List AV} {v:AV} [ha:ic P t false] (hx:bT l x=some (.ptr k off)) (hk:dB s k=some (.box cs)) (hw:Hw cs cs') (hv:cs'[off]?=some v) :
  iC P (.load t x) l ds s v [(k,.box cs')]:=
 ⟨qU ha.h (aE hx) hv,fun p hp=>by simp at hp;subst hp;exact ⟨_,bW hk,M.ff hw⟩⟩
theorem CG {α β:Type} (f:α→β):∀ l:List α,(l.flatMap fun x=>[f x])=l.map f
 | []=>rfl
 | x::l=>by simp[List.flatMap_cons,CG f l]
theorem Bp {α β:Type} {f:α→β} (l:List α):(l.flatMap fun x=>[f x]).length=l.length:=by rw[CG,List.length_map]
theorem FZ {t:TypeId} {x:Operand} {k off:Nat} {cs:List AV} [ha:ic P t false] (hx:bT l x=some (.ptr k off)) (hk:dB s k=some (.box cs)) (hv:cs[off]?=some .any) :
  iC P (.load t x) l ds s .oc [(k,.box cs)]:=.on hk (by
 intro o ho g ev w hG hv' hr
 have q:=hv' x (by simp[Op.operands]);rw[aE hx] at q
 have he:=hr (k,.box cs) (by simp)
 generalize hq:ev x=c at q
 cases q with
 | ptr _ hb=>
  cases he with
  | box h hw hc h1=>
   rw[h] at hb;cases hb
   obtain ⟨v,hv1,_⟩:=hc.get off _ hv
   refine ⟨v,?_,.oc (h1 v (List.mem_of_getElem? hv1))⟩
   simp only[execOp,ho,hq,Instr.loadAt,Instr.sureAddr,Sem.run_bind,Sem.run_pure,Result.andThen_ok,l9 ha.h hw hv1])
theorem Bq {a b e:TypeId} (ha:P.underlying a=some (.slice e)) (he:P.underlying e=some (.int .u8)) (hb:P.underlying b=some .string) {g:Gh} {w:World} (hG:An g w) {xs:List Int} {n:Nat} (hn:n=xs.length) {c:Value}
  (h:VR g (.pv (.sl n (xs.flatMap fun x=>[PV.sc (.int .u8 x)]))) c):(convert a b c).run P w=.ok (S (jX xs)) w:=by
 subst hn
 cases h with
 | pv h=>
  generalize hcs:(xs.flatMap fun x=>[PV.sc (.int .u8 x)])=cells at h
  generalize hl:xs.length=n at h
  cases h with
  | nil a' cap=>
   have:xs=[]:=List.length_eq_zero_iff.1 hl
   subst this
   rw[run_convert_bytes_string w a b e _ _ _ ha he hb]
   cases a' with
   | none=>simp[Conv.bytesToString,S,jX,ByteArray.empty,ByteArray.emptyWithCapacity];rfl
   | some a0=>
    rw[run_bytesToString w a0 0 cap [] (by simp[loadCells,loadCellsFrom,Sem.run_pure])]
    simp[S,jX,ByteArray.empty,ByteArray.emptyWithCapacity];rfl
  | sl blk ys off n cap cells h hl' hc hnc=>
   have hlen:cells.length=xs.length:=by rw[← hcs];exact Bp xs
   obtain ⟨cs,el,fz,hw,h1,h2⟩:=Aq hG h hl' hc
   have:=run_convert_bytes_arg (P:=P) w a e ha he blk off xs.length cap xs rfl (fun i hi=>by
    have hci:cells[i]?=some (.sc (.int .u8 (xs.getD i 0))):=by
     rw[← hcs]
     rw[CG,List.getElem?_map,List.getElem?_eq_getElem hi]
     simp[List.getD,List.getElem?_eq_getElem hi]
    obtain ⟨v,hv1,hv2⟩:=h2.get i _ hci
    cases hv2
    rw[List.getElem?_take] at hv1
    split at hv1
    ·simp at hv1
     simp[World.cell?,hw]
     exact hv1
    ·cases hv1) b hb
   rw[← hl,this]
   rfl
theorem AT {a b e:TypeId} {x:Operand} {n:Nat} {xs:List Int} [ha:jV P a (.slice e)] [he:jV P e (.int .u8)] [hb:jV P b .string] (hx:bT l x=some (.pv (.sl n (xs.flatMap fun x=>[PV.sc (.int .u8 x)])))) (hn:n=xs.length) :
  iC P (.convert a b x) l ds s (F (jX xs)) []:=.of (by
 intro o ho g ev w hG hv _
 have q1:=hv x (by simp[Op.operands]);rw[aE hx] at q1
 exact ⟨S (jX xs),by simp only[execOp,ho,Sem.run_bind,Bq ha.h he.h hb.h hG hn q1,Result.andThen_ok,Sem.run_pure],.pv (.sc _)⟩)
end
section
variable {P:Program} {E:Env} {n:Nat} {c:Code} {Q:dS} {fr:ew} {σ:Z}
def HE (Q:dS):dS
 | .goto _,_,_=>False
 | e,fr,σ=>Q e fr σ
theorem yz (h:SW P E n c (HE Q) fr σ):SW P E n (.scope c) Q fr σ:=fun g a w hR hF=>by
 refine wp_scope_straight (wp_mono (h g a w hR hF) fun e a w hq=>?_)
 obtain ⟨g',ae,fr',σ',q,hx,hR',hF'⟩:=hq
 cases hx with
 | goto l=>exact q.elim
 | normal=>exact ⟨g',_,fr',σ',q,.normal,hR',hF'⟩
 | exit id=>exact ⟨g',_,fr',σ',q,.exit id,hR',hF'⟩
 | ret=>exact ⟨g',_,fr',σ',q,.ret,hR',hF'⟩
 | panic hv=>exact ⟨g',_,fr',σ',q,.panic hv,hR',hF'⟩
end
theorem AU {q:Nat→Bool} {v:AV} {T:TypeId} {b:Bool} (h:v.only q=true):(AV.fX [v,Oe T b]).only q=true:=by cases b<;>simp[AV.only,AV.only.jJ,h,Oe]
theorem CH {f:Nat→Nat} {v:AV} {T:TypeId} {b:Bool}:(AV.fX [v,Oe T b]).gg f=.fX [v.gg f,Oe T b]:=by cases b<;>rfl
theorem rX {α:Type} (X:List α) (z:α):((X.length:Int))<((X++[z]).length:Int):=by simp;omega
theorem jM {α:Type} (X:List α) (z:α):(X++[z])[((X.length:Int)).toNat]?=some z:=by simp
theorem CI {α:Type} (X:List α) (z a:α):(X++[z]).set ((X.length:Int)).toNat a=X++[a]:=by simp
section
variable {P:Program} {E:Env} {n:Nat} {ops:Array Oper} {Q:dS} {B:List Rec→ew→Z→Prop} {i:Nat} {L:List Nat} {recs:List Rec} {rest:List Oper} {l:List (Nat×AV)} {ds:List (FuncId×List AV)} {s:List (Nat×M)}
 {ty:TypeId} {pos:String} {af:Array Edge}
theorem AW (f:Int→AV) {t:TypeId} {x y:Operand} {k:Nat} {ii:Int} {xs:List Int} {cs cs':List AV} {v:Int} [ht:lG P t 1] (hop:ops[i]?=some ⟨none,.store t x y,ty,pos,af,none⟩)
  (hx:bT l x=some (.ptr k (0+ii.toNat*1))) (hk:dB s k=some (.box cs)) (hc:cs=xs.map f)
  (hy:bT l y=some (f v)) (h0:0≤ii) (h1:ii<xs.length) (ho:∀ v,(f v).fh=some [f v]∧AV.iW [f v]=true) (hn':(rm xs ii v).map f=cs') (hnm:jW recs=true)
  (hn:la ops i ((k,.box cs')::s) recs∧lC P E n ops Q B L recs (Y l ds) (U ((k,.box cs')::s))):lC P E n ops Q B (i::L) recs (Y l ds) (U s):=by
 have hlt:ii.toNat<xs.length:=by omega
 obtain ⟨hst,hn⟩:=hn
 refine ⟨_,hop,.dN (.inl rfl) rfl (.store rfl rfl (aE hx) (bW hk) rfl (by rw[aE hy];exact (ho v).1) (ho v).2 ht.h (by simp only[M.cells,List.length_singleton];rw[hc,List.length_map];omega) (fun q=>by cases q) ?_) (fun r hr k' _=>by rw[et hnm r (List.mem_filter.1 hr).1];simp)⟩
 have e1:(M.box cs).Aw (0+ii.toNat*1) [f v]=.box cs':=by
  simp only[M.Aw,List.length_singleton]
  rw[hc,← hn',show 0+ii.toNat*1=ii.toNat by omega]
  rcases AQ f (xs:=xs) (i:=ii.toNat) (v:=v) with q|q
  ·rw[q];rfl
  ·omega
 rw[e1]
 exact ⟨fun r hr=>⟨fun p hp=>(let ⟨e,h1,h2⟩:=hst r hr p hp;⟨e,bW h1,h2⟩),fun nm q=>by rw[et hnm r (List.mem_filter.1 hr).1] at q;cases q⟩,hn⟩
theorem mK {α:Type} {C:α→List PV} {Cs:List α→List PV} {t:TypeId} {x y:Operand} {k off m sz:Nat} {el:TypeId} (xs:List α) {a a':α} {v:AV} {vs:List PV}
  (ho:ops[i]?=some ⟨none,.store t x y,ty,pos,af,none⟩) (h:vQ P C Cs l s t x y k off m sz el (xs.length:Int) (xs++[a]) a a' v vs) (hnm:jW recs=true)
  (hn:la ops i ((k,.arr el sz (Cs (xs++[a'])))::nj k s) recs∧lC P E n ops Q B L recs (Y l ds) (U ((k,.arr el sz (Cs (xs++[a'])))::nj k s))):lC P E n ops Q B (i::L) recs (Y l ds) (U s):=
 FP ho h hnm (by rw[CI];exact hn)
end
section
variable {E:Env} {n:Nat} {l:List (Nat×AV)} {ds:List (FuncId×List AV)} {s:List (Nat×M)}
theorem CJ (d:Nat) {k m m':Nat} (hd:jK l d=some (.arr k m)) (hm:m=m'):eT E n l ds s ((d,.arr k m')::l) s:=fun g a w hR hF=>by
 subst hm
 refine ⟨g,hR,hF.size,fun i=>?_,hF.ds⟩
 by_cases q:i=d
 ·subst q
  have:=hF.gX i
  simp only[Y,eW hd] at this
  simpa[Y,kc] using this
 ·have:=hF.gX i
  simpa[Y,kc,q] using this
theorem mL (j off:Nat) {cs cs':List AV} {k m m':Nat} (hj:dB s j=some (.box cs)) (hc:cs[off]?=some (.arr k m)) (hm:m=m') (hcs:cs.set off (.arr k m')=cs'):eT E n l ds s l ((j,.box cs')::s):=by
 subst hm
 have:cs.set off (.arr k m)=cs:=by
  obtain ⟨h1,h2⟩:=List.getElem?_eq_some_iff.1 hc
  rw[← h2];exact List.set_getElem_self h1
 rw[this] at hcs
 subst hcs
 exact AJ hj (xU.refl _)
end
section
variable {P:Program} {E:Env} {n:Nat} {ops:Array Oper} {Q:dS} {recs:List Rec} {l:List (Nat×AV)} {ds:List (FuncId×List AV)} {s:List (Nat×M)}
theorem rY {x y:Nat} (h1:DW P E n ops Q [x,y] recs (Y l ds) (U s)) (h2:DW P E n ops Q [y,x] recs (Y l ds) (U s)):DX P E n ops Q x y [] recs (Y l ds) (U s):=⟨h1,h2⟩
end
section
variable {P:Program} {l:List (Nat×AV)} {s:List (Nat×M)}
theorem fL {fn:Func} {X:Type} {V:X→AV} {C:X→List M} {vs:List AV} {ae:se} {r:D X} (hae:ae=.ret∨ae=.normal) (x:X) (hr:Bc P (Y l []) (U s) fn.results.toList vs)
  (hg:r=.ok x) (hle:(mJ vs).le (V x)) (hm:tE s 0 (C x)):nf P fn (pL V C (fun x=>r=.ok x) (fun v=>∃ p,r=.kT p∧v=p.av)) ae (Y l []) (U s):=mh hae x hr hg hle hm
end
theorem lg {K:ew→Z→Prop} {Q:dS} {v:AV} {fr:ew} {σ:Z} (h:Q (.panic v) fr σ):uh K Q (.panic v) fr σ:=h
theorem kl {id:Nat} {Q:dS} {v:AV} {fr:ew} {σ:Z} (h:Q (.panic v) fr σ):zR id Q (.panic v) fr σ:=h
end Go.Abs
end
section
namespace Go.Abs
open D
def cm (m:Nat→Nat):Prop:=∀ N,∃ M,∀ i,M≤i→N≤m i
theorem cm.id:cm fun i=>i:=fun N=>⟨N,fun _ h=>h⟩
theorem cm.pred {m:Nat→Nat} (h:cm m):cm fun i=>m i - 1:=fun N=>
 let ⟨M,hM⟩:=h (N+1);⟨M,fun i hi=>by have:=hM i hi;show N≤m i - 1;omega⟩
def D.sat {α:Type} (r:D α) (Q:α→Prop) (R:oj→Prop):Prop:=match r with
 | .stuck=>False
 | .ok a=>Q a
 | .kT p=>R p
def Ev {α:Type} (F:Nat→D α) (Q:α→Prop) (R:oj→Prop):Prop:=∃ r:D α,r.sat Q R∧∃ N,∀ i,N≤i→F i=r
section
variable {α β X:Type} {Q Q':α→Prop} {R R':oj→Prop} {Qb:β→Prop}
theorem Ev.ok {a:α} (h:Q a):Ev (fun _=>.ok a) Q R:=⟨.ok a,h,0,fun _ _=>rfl⟩
theorem Ev.kT {p:oj} (h:R p):Ev (fun _=>(.kT p:D α)) Q R:=⟨.kT p,h,0,fun _ _=>rfl⟩
theorem Ev.mono {F:Nat→D α} (h:Ev F Q' R') (hq:∀ a,Q' a→Q a) (hr:∀ p,R' p→R p):Ev F Q R:=by
 obtain ⟨r,h1,h2⟩:=h
 refine ⟨r,?_,h2⟩
 cases r with
 | stuck=>exact h1
 | ok a=>exact hq a h1
 | kT p=>exact hr p h1
theorem Ev.yA {F:Nat→D α} (h:Ev F Q' R) (hq:∀ a,Q' a→Q a):Ev F Q R:=h.mono hq fun _ q=>q
theorem Ev.bind {F:Nat→D α} {K:Nat→α→D β} (h:Ev F Q R') (hr:∀ p,R' p→R p) (hk:∀ a,Q a→Ev (fun i=>K i a) Qb R):Ev (fun i=>D.bind (F i) (K i)) Qb R:=by
 obtain ⟨r,h1,N,hN⟩:=h
 cases r with
 | stuck=>exact h1.elim
 | ok a=>
  obtain ⟨r',h2,M,hM⟩:=hk a h1
  exact ⟨r',h2,N+M,fun i hi=>by dsimp only;rw[hN i (by omega)];exact hM i (by omega)⟩
 | kT p=>exact ⟨.kT p,hr p h1,N,fun i hi=>by dsimp only;rw[hN i hi];rfl⟩
theorem Ev.aQ {F:Nat→D α} {K:Nat→α→D β} (h:Ev F Q R) (hk:∀ a,Q a→Ev (fun i=>K i a) Qb R):Ev (fun i=>D.bind (F i) (K i)) Qb R:=Ev.bind h (fun _ q=>q) hk
theorem Ev.qw {x:D α} {a:α} {K:Nat→α→D β} (h:x=.ok a) (hk:Ev (fun i=>K i a) Qb R):Ev (fun i=>D.bind x (K i)) Qb R:=by
 subst h;exact hk
theorem Ev.br {b:Bool} {F G:Nat→D α} (ht:b=true→Ev F Q R) (hf:b=false→Ev G Q R):Ev (fun i=>D.br b (F i) (G i)) Q R:=by
 cases b with
 | true=>exact ht rfl
 | false=>exact hf rfl
theorem Ev.gd {p:Prop} [Decidable p] {F:Nat→D α} (hp:p) (h:Ev F Q R):Ev (fun i=>D.gd p (F i)) Q R:=by
 have:(fun i=>D.gd p (F i))=F:=by funext i;simp[D.gd,hp]
 rw[this];exact h
theorem Ev.el {l:List X} {j:Int} {K:Nat→X→D α} (h0:0≤j) (h1:j<l.length) (h:∀ x,l[j.toNat]?=some x→Ev (fun i=>K i x) Q R):Ev (fun i=>D.el l j (K i)) Q R:=by
 have h2:j.toNat<l.length:=by omega
 have:=h _ (List.getElem?_eq_getElem h2)
 have he:(fun i=>D.el l j (K i))=fun i=>K i l[j.toNat]:=by funext i;simp[D.el,h0,List.getElem?_eq_getElem h2]
 rw[he];exact this
theorem Ev.HS {l:List X} {j:Int} {K:Nat→X→D α} {x:X} (h0:0≤j) (hx:l[j.toNat]?=some x) (h:Ev (fun i=>K i x) Q R):Ev (fun i=>D.el l j (K i)) Q R:=by
 have he:(fun i=>D.el l j (K i))=fun i=>K i x:=by funext i;simp[D.el,h0,hx]
 rw[he];exact h
theorem Ev.some {o:Option X} {x:X} {K:Nat→X→D α} (hx:o=some x) (h:Ev (fun i=>K i x) Q R):Ev (fun i=>D.some? o (K i)) Q R:=by subst hx;exact h
theorem Ev.jn {j:Nat→X→D α} {p:Nat→(X→D α)→D α} (J:X→Prop) (hj:∀ v,J v→Ev (fun i=>j i v) Q R)
  (hp:∀ j:Nat→X→D α,(∀ v,J v→Ev (fun i=>j i v) Q R)→Ev (fun i=>p i (j i)) Q R):Ev (fun i=>D.jn (j i) (p i)) Q R:=hp j hj
theorem Ev.grow {F:Nat→D α} {m:Nat→Nat} (hm:cm m) (h:∀ m',cm m'→Ev (fun i=>F (m' i+1)) Q R):Ev (fun i=>F (m i)) Q R:=by
 obtain ⟨r,h1,N,hN⟩:=h _ hm.pred
 obtain ⟨M,hM⟩:=hm 1
 refine ⟨r,h1,N+M,fun i hi=>?_⟩
 have:=hN i (by omega)
 have h2:=hM i (by omega)
 simp only[Nat.sub_add_cancel h2] at this
 exact this
theorem Ev.iter {body:Nat→(X→D α)→X→D α} {m:Nat→Nat} (hm:cm m) (I:X→Prop) (f:X→Nat) {x:X} (h0:I x)
  (hb:∀ x,I x→∀ next:Nat→X→D α,(∀ y,I y→f y<f x→Ev (fun i=>next i y) Q R)→Ev (fun i=>body i (next i) x) Q R) :
  Ev (fun i=>D.iter (body i) (m i) x) Q R:=by
 have key:∀ (k:Nat) (x:X) (m:Nat→Nat),cm m→I x→f x<k→Ev (fun i=>D.iter (body i) (m i) x) Q R:=by
  intro k
  induction k with
  | zero=>intro x m _ _ h;exact absurd h (Nat.not_lt_zero _)
  | succ k ih=>
   intro x m hm hx hk
   obtain ⟨r,h1,N,hN⟩:=hb x hx (fun i=>D.iter (body i) (m i - 1)) fun y hy hlt=>ih y _ hm.pred hy (by omega)
   obtain ⟨M,hM⟩:=hm 1
   refine ⟨r,h1,N+M,fun i hi=>?_⟩
   have h2:=hM i (by omega)
   rw[← hN i (by omega)]
   obtain ⟨q,hq⟩:∃ q,m i=q+1:=⟨m i - 1,by omega⟩
   simp only[hq];rfl
 exact key _ x m hm h0 (Nat.lt_succ_self _)
theorem Ev.wG {F:Nat→D α} {H:Nat→oj→D α} (h:Ev F Q R') (hh:∀ p,R' p→Ev (fun i=>H i p) Q R):Ev (fun i=>nN (F i) (H i)) Q R:=by
 obtain ⟨r,h1,N,hN⟩:=h
 cases r with
 | stuck=>exact h1.elim
 | ok a=>exact ⟨.ok a,h1,N,fun i hi=>by dsimp only;rw[hN i hi];rfl⟩
 | kT p=>
  obtain ⟨r',h2,M,hM⟩:=hh p h1
  exact ⟨r',h2,N+M,fun i hi=>by dsimp only;rw[hN i (by omega)];exact hM i (by omega)⟩
theorem Ev.sB {T:TypeId} {v:Int} {K:Nat→Int→D α} (h:Ev (fun i=>K i v) Q R):Ev (fun i=>Go.Abs.sB T ⟨T,[.sc (.int .i64 v)]⟩ (K i)) Q R:=by
 have:(fun i=>Go.Abs.sB T ⟨T,[.sc (.int .i64 v)]⟩ (K i))=fun i=>K i v:=by funext i;simp[Go.Abs.sB]
 rw[this];exact h
theorem Ev.get {F:Nat→D α} (h:Ev F Q fun _=>False):∃ a,Q a∧∃ N,∀ i,N≤i→F i=.ok a:=by
 obtain ⟨r,h1,h2⟩:=h
 cases r with
 | stuck=>exact h1.elim
 | ok a=>exact ⟨a,h1,h2⟩
 | kT p=>exact h1.elim
end
end Go.Abs
end
section
namespace Go.Abs
open D Go.RowKit
section
variable {E:Env} {g:Gh} {σ:Z} {w w':World}
theorem An.CK (h:An g w) {b:Nat} (hb:w.heap.size≤b):g.G b=none:=by
 cases q:g.G b with
 | none=>rfl
 | some ys=>have:=h.lt q;omega
theorem ju.E8 {b:Nat} {ys:List PV} (h:g.G b=none):ju (fun _=>False) g (g.dq b ys):=by
 refine ⟨fun _ _=>rfl,fun _ _=>rfl,fun c zs hc=>?_⟩
 have:c≠b:=fun q=>by subst q;rw[h] at hc;cases hc
 exact ⟨[],by simp[Gh.dq,this,hc]⟩
theorem Rel.below (h:Rel E g σ w) (hb:Below w.heap.size w w'):Rel E g σ w':=by
 have hs:=hb.size
 refine { iZ:=?_,inj:=h.inj,gl:=?_,apart:=h.apart,size:=Nat.le_trans h.size hs,nB:=?_,own:=h.own,fix:=h.fix,ib:=h.ib,g0:=h.g0,gn:=h.gn,os:=hb.os.trans h.os,out:=hb.output.trans h.out,tape:=hb.tape.trans h.tape,x:=?_ }
 ·intro k e hk
  exact (h.iZ k e hk).le (ju.refl (fun _=>False) g) (fun q=>q) (fun _ _ _=>rfl) (fun _ q=>q.elim) (fun b hb'=>hb.block b ((h.iZ k e hk).lt hb'))
 ·intro b ys hG
  obtain ⟨c,e,f,h1,h2,h3⟩:=h.gl b ys hG
  exact ⟨c,e,f,by rw[hb.block b (h.gl.lt hG)];exact h1,h2,h3⟩
 ·intro b hb' ho
  rw[hb.block b (Nat.lt_of_lt_of_le hb' h.size)];exact h.nB b hb' ho
 ·exact {
      vN:=fun b cs el fz h1=>let ⟨cs',h2,h3⟩:=h.x.vN b cs el fz h1;⟨cs',by rw[hb.block b (pE h2)];exact h2,h3⟩
      flat:=fun k b cs el fz h0 h1 hf=>let ⟨cs',h2,h3⟩:=h.x.flat k b cs el fz h0 h1 hf;⟨cs',by rw[hb.block b (pE h2)];exact h2,h3⟩
      set:=fun b hb'=>by
       have h1:=h.x.set b hb'
       have:E.wS.heap[b]?=some E.wS.heap[b]:=Array.getElem?_eq_getElem hb'
       rw[hb.block b (pE (h1.trans this))];exact h1
      vO:=h.x.vO,hi:=h.x.hi,gf:=h.x.gf,mG:=h.x.mG,nc:=h.x.nc,mH:=h.x.mH,mI:=h.x.mI }
theorem Rel.G8 (h:Rel E g σ w) {b:Nat} (hge:E.w0.heap.size≤b) (hG:g.G b=none) (hk:∀ k,(σ k).isSome=true→g.ρ k≠some b) {cs:Array Value} {el:TypeId} {fz:Nat×Nat} (hw:w.heap[b]?=some (.cells cs el fz)) {ys:List PV} (hl:ys.length≤cs.size) (hp:kL g ys (cs.toList.take ys.length)) :
  Rel E (g.dq b ys) σ w:=by
 have hle:ju (fun _=>False) g (g.dq b ys):=ju.E8 hG
 refine { iZ:=?_,inj:=h.inj,gl:=?_,apart:=?_,size:=h.size,nB:=h.nB,own:=h.own,fix:=h.fix,ib:=h.ib,g0:=?_,gn:=?_,os:=h.os,out:=h.out,tape:=h.tape,x:=?_ }
 ·intro k e hk'
  exact (h.iZ k e hk').le hle (fun q=>q) (fun c hc _=>by
   have:c≠b:=fun q=>by subst q;exact hk k (by rw[hk'];rfl) hc
   simp[Gh.dq,this]) (fun _ q=>q.elim) (fun _ _=>rfl)
 ·intro c zs hc
  by_cases q:c=b
  ·subst q
   simp[Gh.dq] at hc;subst hc
   exact ⟨cs,el,fz,hw,hl,hp.le hle⟩
  ·simp[Gh.dq,q] at hc
   obtain ⟨c',e,f,h1,h2,h3⟩:=h.gl c zs hc
   exact ⟨c',e,f,h1,h2,h3.le hle⟩
 ·intro k c e' hk' hka hc
  have q:c≠b:=fun q=>by subst q;exact hk k (by rw[hk'];rfl) hc
  simp only[Gh.dq,q,if_false]
  exact h.apart k c e' hk' hka hc
 ·intro c zs hc
  obtain ⟨us,h1⟩:=h.g0 c zs hc
  obtain ⟨vs,h2⟩:=hle.G c _ h1
  exact ⟨us++vs,by rw[h2,List.append_assoc]⟩
 ·intro c zs hc
  by_cases q:c=b
  ·subst q;exact .inr (.inr hge)
  ·simp[Gh.dq,q] at hc;exact h.gn c zs hc
 ·have hx:=h.x
  exact {
      vN:=hx.vN,flat:=hx.flat,set:=hx.set,vO:=hx.vO,hi:=hx.hi,gf:=hx.gf,mG:=hx.mG
      nc:=fun k c hf=>by
       have:=hx.mG k c hf
       have q:c≠b:=by omega
       simp only[Gh.dq,q,if_false];exact hx.nc k c hf
      mH:=hx.mH,mI:=hx.mI }
theorem Rel.grown (h:Rel E g σ w) (hb:Below w.heap.size w w') {b:Nat} (hge:w.heap.size≤b) {cs:Array Value} {el:TypeId} {fz:Nat×Nat} (hw:w'.heap[b]?=some (.cells cs el fz)) {ys:List PV} (hl:ys.length≤cs.size) (hp:kL g ys (cs.toList.take ys.length)) :
  Rel E (g.dq b ys) σ w':=
 (h.below hb).G8 (Nat.le_trans h.size hge) (h.gl.CK hge) (fun k hk q=>by have:=h.lt hk q;omega) hw hl hp
theorem uq (w:World) (e:TypeId) (s:ByteArray):Below w.heap.size w (Lib.bytesWorld w e s):=
 ⟨rfl,rfl,rfl,by rw[Lib.bytesWorld_size];omega,fun k hk=>Lib.bytesWorld_at_old w e s k hk⟩
end
def ofBytes (s:List UInt8):List Int:=s.map fun b=>(b.toNat:Int)
theorem wH {g:Gh}:∀ l:List UInt8,kL g ((ofBytes l).flatMap fun x=>[PV.sc (.int .u8 x)]) (l.map fun b=>Value.int .u8 b.toNat)
 | []=>.nil
 | _::l=>.cons (.sc _) (wH l)
section
variable {P:Program} {E:Env} {n:Nat} {ops:Array Oper} {Q:dS} {rest:List Oper} {l:List (Nat×AV)} {ds:List (FuncId×List AV)} {s:List (Nat×M)}
 {ty:TypeId} {pos:String} {af:Array Edge}
theorem F0 {d:Nat} {a b e:TypeId} {u:TypeDesc} {x:Operand} {c:List UInt8} {Cs:List Int→List PV} [hs:jV P a u] [ht:jV P b (.slice e)] [he:jV P e (.int .u8)] (hx:bT l x=some (F c)) (hC:∀ l,Cs l=l.flatMap fun x=>[PV.sc (.int .u8 x)])
  (hd:Nat.blt d n=true) (hn:SL P E n ops Q rest (Y ((d,.pv (.sl (ofBytes c).length (Cs (ofBytes c))))::l) ds) (U s)):SL P E n ops Q (⟨some d,.convert a b x,ty,pos,af,none⟩::rest) (Y l ds) (U s):=by
 refine iA rfl ?_
 intro g act w K hR hF hK
 have q:=hF.eval x
 rw[aE hx] at q
 have hq:=q.dz
 have hrun:=Lib.run_convert_string_bytes w a b e ⟨c.toArray⟩ hs.h ht.h he.h
 have hev:(execOp act.eval ⟨some d,.convert a b x,ty,pos,af,none⟩).run P w=.ok (.value (.slice (some ⟨w.heap.size,0,none⟩) (ByteArray.size ⟨c.toArray⟩) (grownCap w (ByteArray.size ⟨c.toArray⟩) 0 e))) (Lib.bytesWorld w e ⟨c.toArray⟩):=by
  simp only[execOp,hq];simp[S,hrun]
 simp only[Oper.wp,hev,Oper.upon]
 have hsz:ByteArray.size ⟨c.toArray⟩=c.length:=by simp[ByteArray.size]
 have hnew:=Lib.bytesWorld_at_new w e ⟨c.toArray⟩
 have hfl:((ofBytes c).flatMap fun x=>[PV.sc (.int .u8 x)]).length=c.length:=by
  rw[gN (sz:=1) (fun _=>rfl)];simp[ofBytes]
 have hcl:(Lib.bytesCells w e ⟨c.toArray⟩).toList.take c.length=c.map fun b=>Value.int .u8 b.toNat:=by
  simp[Lib.bytesCells]
 have hR':=hR.grown (uq w e ⟨c.toArray⟩) (Nat.le_refl _) hnew (ys:=(ofBytes c).flatMap fun x=>[PV.sc (.int .u8 x)]) (by rw[hfl];simp[Lib.bytesCells]) (by rw[hfl,hcl];exact wH c)
 refine hK _ _ _ _ _ hn hR' ((hF.le (nn:=fun _=>False) (ju.E8 (hR.gl.CK (Nat.le_refl _))) fun k q=>q.elim).put (lP hd) ?_)
 rw[hC]
 have hcap:(ofBytes c).length≤grownCap w (ByteArray.size ⟨c.toArray⟩) 0 e:=by
  have:(ofBytes c).length=ByteArray.size ⟨c.toArray⟩:=by simp[ofBytes,hsz]
  rw[this];exact grownCap_ge _ _ _ _
 have e2:ByteArray.size ⟨c.toArray⟩=(ofBytes c).length:=by simp[ofBytes,hsz]
 rw[e2] at hcap ⊢
 exact .pv (.sl w.heap.size ((ofBytes c).flatMap fun x=>[PV.sc (.int .u8 x)]) 0 (ofBytes c).length _ _ (by simp[Gh.dq]) (by simp) (by rw[List.drop_zero,List.take_length]) hcap)
def Oi (e:Int):AV:=match e with
 | .ofNat 0=>Sc .nilIface
 | e=>.lF 213 (I e)
theorem CL {q:Nat→Bool} {T:TypeId} {b:Bool}:(Oe T b).only q=true:=by cases b<;>rfl
theorem DY {f:Nat→Nat} {T:TypeId} {b:Bool}:(Oe T b).gg f=Oe T b:=by cases b<;>rfl
theorem CM {q:Nat→Bool} {e:Int}:(Oi e).only q=true:=by unfold Oi;split<;>rfl
theorem AX {f:Nat→Nat} {e:Int}:(Oi e).gg f=Oi e:=by unfold Oi;split<;>rfl
theorem DZ {q:Nat→Bool} {v:AV} {e:Int} (h:v.only q=true):(AV.fX [v,Oi e]).only q=true:=by simp[AV.only,AV.only.jJ,h,CM]
theorem F1 {f:Nat→Nat} {v:AV} {e:Int}:(AV.fX [v,Oi e]).gg f=.fX [v.gg f,Oi e]:=by simp[AV.gg,AV.gg.k7,AX]
theorem AY {e:Int} (h:e≠0):Oi e=.lF 213 (I e):=by
 unfold Oi;split
 ·exact absurd rfl h
 ·rfl
theorem F2 {xt yt:TypeId} {x:Operand} {e:Int} [ht:Bm P xt] (hx:bT l x=some (Oi e)):iC P (.binOp .neq xt x (.const .nilIface) yt) l ds s (Bo (e !=0)) []:=by
 by_cases h:e=0
 ·subst h;exact tL hx
 ·rw[AY h] at hx
  have:(e !=0)=true:=by simpa using h
  rw[this];exact tK hx rfl
end
end Go.Abs
end
section
namespace Go.Abs
open D
def mn:List UInt8→List UInt8→Option Nat
 | [],sub=>if sub.isEmpty then some 0 else none
 | b::l,sub=>if sub.isPrefixOf (b::l) then some 0 else match mn l sub with|some i=>some (i+1)|none=>none
def mM (sep:List UInt8):Nat→List UInt8→List (List UInt8)
 | 0,s=>[s]
 | k+1,s=>match mn s sep with|none=>[s]|some i=>s.take i::mM sep k (s.drop (i+sep.length))
def vR:Nat→Nat→List UInt8
 | 0,_=>[]
 | f+1,u=>if u<10 then [UInt8.ofNat (48+u)] else vR f (u / 10)++[UInt8.ofNat (48+u % 10)]
def strings_Contains (a b:List UInt8):D Bool:=gd (a.length<4294967281) (.ok (mn a b).isSome)
def strings_Split (a b:List UInt8):D (List (List UInt8)):=gd (1≤b.length∧a.length<4294967281) (.ok (mM b (a.length+1) a))
def strings_LastIndex (a b:List UInt8):D Int:=gd (a.length<4611686018427387904) (.ok (Lib.lastIndex a b))
def strings_Cut (a b:List UInt8):D (List UInt8×List UInt8×Bool):=
 gd (a.length<4294967281) (.ok (match mn a b with|some i=>(a.take i,a.drop (i+b.length),true)|none=>(a,[],false)))
def strings_IndexByte (a:List UInt8) (b:Int):D Int:=.ok (match a.findIdx? (·==UInt8.ofNat b.toNat) with|some i=>(i:Int)|none=>-1)
def ik (a b:Int):D (List UInt8):=gd (b=10∧0≤a∧a<18446744073709551616) (.ok (vR 20 a.toNat))
def lS (a:List UInt8) (b c:Int):D (Int×Bool):=
 gd (b=10∧c=64∧a.length≤281474976710656) (.ok (match Lib.parseIntB 64 a with|.ok v=>(v,false)|Lib.NumEnd.syntax=>(0,true)|.range=>(Lib.intSat 64 a,true)))
def mN (_ s:List UInt8) (_ _ e:Int):D Bool:=gd ((e=1∨e=2)∧s.length≤281474976710656) (.ok true)
section
variable {α β X:Type} {Q Q':α→Prop} {R R':oj→Prop} {F G:Nat→D α}
theorem Ev.kp {l:List X} {j:Int} {K:Nat→X→D α} (h:0≤j∧j<l.length) (hk:∀ x,l[j.toNat]?=Option.some x→Ev (fun i=>K i x) Q R):Ev (fun i=>D.el l j (K i)) Q R:=Ev.el h.1 h.2 hk
theorem Ev.ba {p:Prop} [Decidable p] (ht:p→Ev F Q R) (hf:¬ p→Ev G Q R):Ev (fun i=>D.br (decide p) (F i) (G i)) Q R:=
 Ev.br (fun h=>ht (of_decide_eq_true h)) (fun h=>hf (of_decide_eq_false h))
theorem Ev.bE [BEq β] [LawfulBEq β] {a b:β} (ht:a=b→Ev F Q R) (hf:a≠b→Ev G Q R):Ev (fun i=>D.br (a==b) (F i) (G i)) Q R:=
 Ev.br (fun h=>ht (beq_iff_eq.1 h)) (fun h=>hf fun e=>by subst e;simp at h)
theorem Ev.b5 [BEq β] [LawfulBEq β] {a b:β} (ht:a≠b→Ev F Q R) (hf:a=b→Ev G Q R):Ev (fun i=>D.br (a !=b) (F i) (G i)) Q R:=
 Ev.br (fun h=>ht fun e=>by subst e;simp at h) (fun h=>hf (by simpa using h))
theorem Ev.bA {b:Bool} (ht:b=false→Ev F Q R) (hf:b=true→Ev G Q R):Ev (fun i=>D.br (!b) (F i) (G i)) Q R:=
 Ev.br (fun h=>ht (by simpa using h)) (fun h=>hf (by simpa using h))
theorem Ev.cD (h:Ev F Q R):Ev (fun i=>D.br true (F i) (G i)) Q R:=h
theorem Ev.cg (h:Ev G Q R):Ev (fun i=>D.br false (F i) (G i)) Q R:=h
theorem Ev.jN {j:Nat→X→D α} {p:Nat→(X→D α)→D α} (h:Ev (fun i=>p i (j i)) Q R):Ev (fun i=>D.jn (j i) (p i)) Q R:=h
theorem Ev.ep {F:Nat→D α} {K:Nat→α→D β} {Qb:β→Prop} (h:Ev F Q fun _=>False) (hk:∀ a,Q a→Ev (fun i=>K i a) Qb R):Ev (fun i=>D.bind (F i) (K i)) Qb R:=
 Ev.bind h (fun _ q=>q.elim) hk
end
theorem rZ {c:List UInt8} {i j:Int} (h0:0≤i) (h1:i≤j) (h2:j≤c.length):((sub c i j).length:Int)=j - i:=by
 simp only[sub,List.length_take,List.length_drop];omega
theorem jR {c:List UInt8} {i:Int} (h0:0≤i) (h1:i≤c.length):((dp c i).length:Int)=c.length - i:=by
 simp only[dp,List.length_drop];omega
theorem wI {c:List UInt8} {j:Int} (h0:0≤j) (h1:j≤c.length):((iU c j).length:Int)=j:=by
 simp only[iU,List.length_take];omega
theorem vo {c:List UInt8} {j:Int}:(iU c j).length≤c.length:=by simp only[iU,List.length_take];omega
theorem vp (sep:List UInt8):∀ (k:Nat) (s:List UInt8),(mM sep k s).length≤k+1
 | 0,_=>by simp[mM]
 | k+1,s=>by
  unfold mM
  split
  ·simp
  ·have:=vp sep k (s.drop (by assumption+sep.length));simp;omega
theorem yB:∀ (f u:Nat),(vR f u).length≤f
 | 0,_=>by simp[vR]
 | f+1,u=>by
  unfold vR;split
  ·simp
  ·have:=yB f (u / 10);simp;omega
theorem CN (f u:Nat):1≤(vR (f+1) u).length:=by
 unfold vR;split
 ·simp
 ·simp
theorem wrap_u64 (x:Int):0≤IntKind.wrap .u64 x∧IntKind.wrap .u64 x<18446744073709551616:=by
 have:IntKind.wrap .u64 x=x % 18446744073709551616:=by simp[IntKind.wrap,IntKind.bits,IntKind.signed]
 rw[this];omega
abbrev NZ {α:Type}:α→Prop:=fun _=>False
def RS {α β:Type} (Z:α→Prop) (V:α→β→Prop) (x:D α) (y:D β):Prop:=∀ a,x=.ok a→Z a∨y=.stuck∨∃ b,y=.ok b∧V a b
def gZ {α:Type} (x:D α):Prop:=∀ a,x≠.ok a
section
variable {α β γ δ X Y:Type} {V V':α→β→Prop} {W:γ→δ→Prop} {Z:α→Prop}
theorem RS.ok {a:α} {b:β} (h:V a b):RS Z V (.ok a) (.ok b):=fun _ e=>by cases e;exact .inr (.inr ⟨b,rfl,h⟩)
theorem RS.kT {p:oj} {y:D β}:RS Z V (.kT p) y:=fun _ e=>by cases e
theorem RS.nil {y:D β}:RS Z V .stuck y:=fun _ e=>by cases e
theorem RS.sD {x:D α}:RS Z V x .stuck:=fun _ _=>.inr (.inl rfl)
theorem RS.D0 {a:α} {y:D β} (h:Z a):RS Z V (.ok a) y:=fun _ e=>by cases e;exact .inl h
theorem RS.yC {x:D α} {y:D β} (h:gZ x):RS Z V x y:=fun a e=>absurd e (h a)
theorem gZ.bind {x:D γ} {f:γ→D α} (h:∀ c,x=.ok c→gZ (f c)):gZ (D.bind x f):=fun a e=>by
 cases x with
 | stuck=>cases e
 | kT p=>cases e
 | ok c=>exact h c rfl a e
theorem gZ.br {b:Bool} {x y:D α} (ht:b=true→gZ x) (hf:b=false→gZ y):gZ (D.br b x y):=by
 cases b with
 | true=>exact ht rfl
 | false=>exact hf rfl
theorem gZ.gd {p:Prop} [Decidable p] {x:D α} (h:gZ x):gZ (D.gd p x):=by
 unfold D.gd
 split
 ·exact h
 ·exact fun a e=>by cases e
theorem RS.bind {x:D γ} {y:D δ} {f:γ→D α} {g:δ→D β} (h:RS NZ W x y) (hk:∀ a b,W a b→RS Z V (f a) (g b)):RS Z V (D.bind x f) (D.bind y g):=by
 intro a e
 cases x with
 | stuck=>cases e
 | kT p=>cases e
 | ok c=>
  rcases h c rfl with q|q|⟨d,q,hd⟩
  ·exact q.elim
  ·subst q;exact .inr (.inl rfl)
  ·subst q;exact hk c d hd a e
theorem RS.vq {Z':γ→Prop} {x:D γ} {y:D δ} {f:γ→D α} {g:δ→D β} (h:RS Z' W x y) (hz:∀ c,Z' c→∀ a,f c=.ok a→Z a) (hk:∀ a b,W a b→RS Z V (f a) (g b)):RS Z V (D.bind x f) (D.bind y g):=by
 intro a e
 cases x with
 | stuck=>cases e
 | kT p=>cases e
 | ok c=>
  rcases h c rfl with q|q|⟨d,q,hd⟩
  ·exact .inl (hz c q a e)
  ·subst q;exact .inr (.inl rfl)
  ·subst q;exact hk c d hd a e
theorem RS.same {x:D γ} {f:γ→D α} {g:γ→D β} (hk:∀ a,x=.ok a→RS Z V (f a) (g a)):RS Z V (D.bind x f) (D.bind x g):=
 RS.bind (W:=fun a b=>x=.ok a∧b=a) (fun a e=>.inr (.inr ⟨a,e,e,rfl⟩)) fun a b h=>by rw[h.2];exact hk a h.1
theorem RS.br {b c:Bool} {x x':D α} {y y':D β} (h:c=b) (ht:b=true→RS Z V x y) (hf:b=false→RS Z V x' y'):RS Z V (D.br b x x') (D.br c y y'):=by
 subst h
 cases c with
 | true=>exact ht rfl
 | false=>exact hf rfl
theorem RS.GD {b:Bool} {x x':D α} {y:D β} (ht:b=true→RS Z V x y) (hf:b=false→RS Z V x' y):RS Z V (D.br b x x') y:=by
 cases b with
 | true=>exact ht rfl
 | false=>exact hf rfl
theorem RS.G9 {b:Bool} {x:D α} {y y':D β} (ht:b=true→RS Z V x y) (hf:b=false→RS Z V x y'):RS Z V x (D.br b y y'):=by
 cases b with
 | true=>exact ht rfl
 | false=>exact hf rfl
theorem RS.gd {p p':Prop} [Decidable p] [Decidable p'] {x:D α} {y:D β} (h:p→p'→RS Z V x y):RS Z V (D.gd p x) (D.gd p' y):=by
 unfold D.gd
 split
 ·split
  ·exact h ‹_› ‹_›
  ·exact RS.sD
 ·exact RS.nil
theorem RS.el {l:List X} {l':List Y} {j j':Int} {K:X→D α} {K':Y→D β} (h:∀ x y,0≤j→0≤j'→l[j.toNat]?=some x→l'[j'.toNat]?=some y→RS Z V (K x) (K' y)):RS Z V (D.el l j K) (D.el l' j' K'):=by
 unfold D.el
 split
 ·split
  ·split
   ·split
    ·exact h _ _ ‹_› ‹_› ‹_› ‹_›
    ·exact RS.sD
   ·exact RS.sD
  ·exact RS.nil
 ·exact RS.nil
theorem RS.HT {p:Prop} [Decidable p] {x:D α} {y:D β} (h:p→RS Z V x y):RS Z V x (D.gd p y):=by
 unfold D.gd
 split
 ·exact h ‹_›
 ·exact RS.sD
theorem RS.HU {l:List Y} {v:Int} {x:D α} {K:Y→D β} (h:∀ y,0≤v→l[v.toNat]?=Option.some y→RS Z V x (K y)):RS Z V x (D.el l v K):=by
 unfold D.el
 split
 ·split
  ·exact h _ ‹_› ‹_›
  ·exact RS.sD
 ·exact RS.sD
theorem RS.some {o:Option X} {o':Option Y} {K:X→D α} {K':Y→D β} (h:∀ x y,o=some x→o'=some y→RS Z V (K x) (K' y)):RS Z V (D.some? o K) (D.some? o' K'):=by
 cases o with
 | none=>exact RS.nil
 | some x=>cases o' with
  | none=>exact RS.sD
  | some y=>exact h x y rfl rfl
theorem RS.jn {j:X→D α} {j':Y→D β} {p:(X→D α)→D α} {p':(Y→D β)→D β} (J:X→Y→Prop) (hj:∀ v w,J v w→RS Z V (j v) (j' w))
  (hp:∀ (j:X→D α) (j':Y→D β),(∀ v w,J v w→RS Z V (j v) (j' w))→RS Z V (p j) (p' j')):RS Z V (D.jn j p) (D.jn j' p'):=hp j j' hj
theorem RS.HZ {j:X→D α} {j':Y→D β} {p:(X→D α)→D α} {p':(Y→D β)→D β} (J:X→Y→Prop) (N:X→Prop) (hj:∀ v w,J v w→RS Z V (j v) (j' w)) (hN:∀ v,N v→gZ (j v))
  (hp:∀ (j:X→D α) (j':Y→D β),(∀ v w,J v w→RS Z V (j v) (j' w))→(∀ v,N v→gZ (j v))→RS Z V (p j) (p' j')):RS Z V (D.jn j p) (D.jn j' p'):=hp j j' hj hN
theorem gZ.mY {x:D γ} {f:γ→D α} (h:gZ x):gZ (D.bind x f):=gZ.bind fun c e=>absurd e (h c)
theorem RS.iter {body:(X→D α)→X→D α} {body':(Y→D β)→Y→D β} (I:X→Y→Prop)
  (hb:∀ x y,I x y→∀ (next:X→D α) (next':Y→D β),(∀ v w,I v w→RS Z V (next v) (next' w))→RS Z V (body next x) (body' next' y)) :
  ∀ (n n':Nat) {x:X} {y:Y},I x y→RS Z V (D.iter body n x) (D.iter body' n' y)
 | 0,_,_,_,_=>RS.nil
 | _+1,0,_,_,_=>RS.sD
 | n+1,n'+1,x,y,h=>hb x y h _ _ fun _ _ q=>RS.iter I hb n n' q
theorem RS.wG {x:D α} {y:D β} {H:oj→D α} {H':oj→D β} (h:RS Z V x y) (hr:∀ p a,x=.kT p→H p=.ok a→(∀ b,y=.ok b→V a b)∧∀ q,y=.kT q→H' q=.stuck∨∃ b,H' q=.ok b∧V a b):RS Z V (nN x H) (nN y H'):=by
 intro a e
 cases x with
 | stuck=>cases e
 | ok c=>
  cases e
  rcases h a rfl with q|q|⟨d,q,hd⟩
  ·exact .inl q
  ·subst q;exact .inr (.inl rfl)
  ·subst q;exact .inr (.inr ⟨d,rfl,hd⟩)
 | kT p=>
  obtain ⟨h1,h2⟩:=hr p a rfl e
  cases y with
  | stuck=>exact .inr (.inl rfl)
  | ok b=>exact .inr (.inr ⟨b,rfl,h1 b rfl⟩)
  | kT q=>exact .inr (h2 q rfl)
theorem Ev.follow {F:Nat→D α} {G:Nat→D β} {m:Nat→Nat} {a:α} {Q:β→Prop} {R:oj→Prop} (hm:cm m) (hF:∃ N,∀ i,N≤i→F i=.ok a) (hG:Ev (fun i=>G (m i)) Q R) (h:∀ i,RS NZ V (F i) (G i)) :
  Ev (fun i=>G (m i)) (fun b=>Q b∧V a b) fun _=>False:=by
 obtain ⟨r,h1,N,hN⟩:=hG
 obtain ⟨M,hM⟩:=hF
 obtain ⟨M',hM'⟩:=hm M
 have e:=hN (N+M') (by omega)
 dsimp only at e
 have e2:=hM (m (N+M')) (hM' _ (by omega))
 rcases h (m (N+M')) a e2 with q|q|⟨b,q,hb⟩
 ·exact q.elim
 ·rw[q] at e;subst e;exact h1.elim
 ·rw[q] at e;subst e;exact ⟨.ok b,⟨h1,hb⟩,N,hN⟩
theorem Ev.self {F:Nat→D α} {Q:α→Prop} {R:oj→Prop} (h:Ev F Q R):Ev F (fun a=>Q a∧∃ N,∀ i,N≤i→F i=.ok a) R:=by
 obtain ⟨r,h1,N,hN⟩:=h
 refine ⟨r,?_,N,hN⟩
 cases r with
 | stuck=>exact h1
 | ok a=>exact ⟨h1,N,hN⟩
 | kT p=>exact h1
end
def LR {X Y:Type} (R:X→Y→Prop) (l:List X) (l':List Y):Prop:=l.length=l'.length∧∀ (i:Nat) x y,l[i]?=some x→l'[i]?=some y→R x y
section
variable {X Y:Type} {R:X→Y→Prop}
theorem LR.nil:LR R [] []:=⟨rfl,fun i x y h=>by simp at h⟩
theorem LR.cons {l:List X} {l':List Y} {x:X} {y:Y} (h:R x y) (h':LR R l l'):LR R (x::l) (y::l'):=by
 refine ⟨by simp[h'.1],fun i a b ha hb=>?_⟩
 cases i with
 | zero=>simp at ha hb;subst ha hb;exact h
 | succ i=>simp at ha hb;exact h'.2 i a b ha hb
theorem LR.one {x:X} {y:Y} (h:R x y):LR R [x] [y]:=.cons h .nil
theorem LR.two {x a:X} {y b:Y} (h:R x y) (h':R a b):LR R [x,a] [y,b]:=.cons h (.one h')
theorem LR.snoc {l:List X} {l':List Y} {x:X} {y:Y} (h':LR R l l') (h:R x y):LR R (l++[x]) (l'++[y]):=by
 refine ⟨by simp[h'.1],fun i a b ha hb=>?_⟩
 have hl:=h'.1
 by_cases q:i<l.length
 ·rw[List.getElem?_append_left q] at ha
  rw[List.getElem?_append_left (by omega)] at hb
  exact h'.2 i a b ha hb
 ·rw[List.getElem?_append_right (by omega)] at ha
  rw[List.getElem?_append_right (by omega)] at hb
  have:=(List.getElem?_eq_some_iff.1 ha).1
  simp at this
  rw[show i - l.length=0 by omega] at ha
  rw[show i - l'.length=0 by omega] at hb
  simp at ha hb;subst ha hb;exact h
theorem LR.set {l:List X} {l':List Y} {x:X} {y:Y} (h':LR R l l') (h:R x y) (j:Nat):LR R (l.set j x) (l'.set j y):=by
 refine ⟨by simp[h'.1],fun i a b ha hb=>?_⟩
 have hl:=h'.1
 by_cases q:j=i
 ·subst q
  have h1:=(List.getElem?_eq_some_iff.1 ha).1
  have h2:=(List.getElem?_eq_some_iff.1 hb).1
  simp at h1 h2
  rw[List.getElem?_set_self h1] at ha
  rw[List.getElem?_set_self h2] at hb
  cases ha;cases hb;exact h
 ·rw[List.getElem?_set_ne q] at ha hb
  exact h'.2 i a b ha hb
end
end Go.Abs
end
section
namespace Go.Abs
theorem O.{u} {α:Sort u} {a:α}:a=a:=rfl
open D
section
variable {P:Program} {E:Env} {n:Nat} {ops:Array Oper} {Q:dS} {rest:List Oper} {l:List (Nat×AV)} {ds:List (FuncId×List AV)} {s:List (Nat×M)}
 {ty:TypeId} {pos:String} {af:Array Edge} {d:Nat}
theorem p1 {α β:Type} {a c:α} {b e:β} (h:(a,b)=(c,e)):a=c:=congrArg Prod.fst h
theorem p2 {α β:Type} {a c:α} {b e:β} (h:(a,b)=(c,e)):b=e:=congrArg Prod.snd h
theorem zm {x:Operand} {v:AV} (h:(bT l x,Nat.blt d n)=(some v,true)) (hn:SL P E n ops Q rest (Y ((d,v)::l) ds) (U s)):SL P E n ops Q (⟨some d,.move x,ty,pos,af,none⟩::rest) (Y l ds) (U s):=
 J (W (p1 h)) (p2 h) hn
theorem za {x:Operand} {v:AV} (h:(bT l x,Nat.blt d n)=(some v,true)) (hn:SL P E n ops Q rest (Y ((d,v)::l) ds) (U s)):SL P E n ops Q (⟨some d,.assign x,ty,pos,af,none⟩::rest) (Y l ds) (U s):=
 J (B4 (p1 h)) (p2 h) hn
theorem zn {x:Operand} {k off:Nat} (h:(bT l x,Nat.blt d n)=(some (.ptr k off),true)) (hn:SL P E n ops Q rest (Y ((d,.ptr k off)::l) ds) (U s)):SL P E n ops Q (⟨some d,.nilCheck x,ty,pos,af,none⟩::rest) (Y l ds) (U s):=
 J (da (p1 h)) (p2 h) hn
theorem zf {t:TypeId} {x:Operand} {f k off m:Nat} [hf:k4 P t f m] (h:(bT l x,Nat.blt d n)=(some (.ptr k off),true)) (hn:SL P E n ops Q rest (Y ((d,.ptr k (off+m))::l) ds) (U s)) :
  SL P E n ops Q (⟨some d,.fieldAddr t x f,ty,pos,af,none⟩::rest) (Y l ds) (U s):=J (bR (p1 h)) (p2 h) hn
theorem zl {t:TypeId} {x:Operand} {k off:Nat} {e:M} {v:AV} [ha:ic P t false] (h:(bT l x,dB s k,e.cells[off]?,Nat.blt d n)=(some (.ptr k off),some e,some v,true))
  (hn:SL P E n ops Q rest (Y ((d,v)::l) ds) (U s)):SL P E n ops Q (⟨some d,.load t x,ty,pos,af,none⟩::rest) (Y l ds) (U s):=J (bp (p1 h) (p1 (p2 h)) (p1 (p2 (p2 h)))) (p2 (p2 (p2 h))) hn
theorem zA {t:TypeId} {x:Operand} {k off m:Nat} {e:M} {cs:List AV} [ha:ic P t true] [hz:lG P t m] (h:(bT l x,dB s k,Nat.ble (off+m) e.cells.length,(e.cells.drop off).take m,Nat.blt d n)=(some (.ptr k off),some e,true,cs,true))
  (hn:SL P E n ops Q rest (Y ((d,.agg cs)::l) ds) (U s)):SL P E n ops Q (⟨some d,.load t x,ty,pos,af,none⟩::rest) (Y l ds) (U s):=J (iT (p1 h) (p1 (p2 h)) (p1 (p2 (p2 h))) (p1 (p2 (p2 (p2 h))))) (p2 (p2 (p2 (p2 h)))) hn
theorem zc {op:BinOp} {xt yt:TypeId} {x y:Operand} {k:IntKind} {a b:Int} {r:Bool} (h:(bT l x,bT l y,Dy op a b,Nat.blt d n)=(some (Sc (.int k a)),some (Sc (.int k b)),some r,true))
  (hn:SL P E n ops Q rest (Y ((d,Bo r)::l) ds) (U s)):SL P E n ops Q (⟨some d,.binOp op xt x y yt,ty,pos,af,none⟩::rest) (Y l ds) (U s):=J (bw (p1 h) (p1 (p2 h)) (p1 (p2 (p2 h)))) (p2 (p2 (p2 h))) hn
theorem zy {c a b:Operand} {v:AV} {t:Bool} (ht:t=true) (h:(bT l c,bT l a,Nat.blt d n)=(some (Bo t),some v,true)) (hn:SL P E n ops Q rest (Y ((d,v)::l) ds) (U s)) :
  SL P E n ops Q (⟨some d,.pick c a b,ty,pos,af,none⟩::rest) (Y l ds) (U s):=J (dD ht (p1 h) (p1 (p2 h))) (p2 (p2 h)) hn
theorem zw {c a b:Operand} {v:AV} {t:Bool} (ht:t=false) (h:(bT l c,bT l b,Nat.blt d n)=(some (Bo t),some v,true)) (hn:SL P E n ops Q rest (Y ((d,v)::l) ds) (U s)) :
  SL P E n ops Q (⟨some d,.pick c a b,ty,pos,af,none⟩::rest) (Y l ds) (U s):=J (dy ht (p1 h) (p1 (p2 h))) (p2 (p2 h)) hn
theorem zt {c a b:Operand} {v:AV} (h:(bT l c,bT l a,Nat.blt d n)=(some (Bo true),some v,true)) (hn:SL P E n ops Q rest (Y ((d,v)::l) ds) (U s)) :
  SL P E n ops Q (⟨some d,.pick c a b,ty,pos,af,none⟩::rest) (Y l ds) (U s):=J (uL (p1 h) (p1 (p2 h))) (p2 (p2 h)) hn
theorem zo {xt yt:TypeId} {x y:Operand} {a b:Int} (hg:-9223372036854775808≤a+b∧a+b≤9223372036854775807) (h:(bT l x,bT l y,Nat.blt d n)=(some (I a),some (I b),true))
  (hn:SL P E n ops Q rest (Y ((d,I (a+b))::l) ds) (U s)):SL P E n ops Q (⟨some d,.binOp .add xt x y yt,ty,pos,af,none⟩::rest) (Y l ds) (U s):=J (k9 (p1 h) (p1 (p2 h)) hg) (p2 (p2 h)) hn
theorem zx {x:Operand} {i:Nat} {vs:List AV} {v:AV} (h:(bT l x,vs[i]?,Nat.blt d n)=(some (.fX vs),some v,true)) (hn:SL P E n ops Q rest (Y ((d,v)::l) ds) (U s)) :
  SL P E n ops Q (⟨some d,.extract x i,ty,pos,af,none⟩::rest) (Y l ds) (U s):=J (o4 (p1 h) (p1 (p2 h))) (p2 (p2 h)) hn
theorem zg {j g:Nat} {op:Op} {want b:Bool} (hb:b = !want) (h:((ops[j]?).bind (·.dst),jK l g,Nat.blt d n)=(some g,some (Bo b),true))
  (hn:SL P E n ops Q rest (Y ((d,Sc undef)::l) ds) (U s)):SL P E n ops Q (⟨some d,op,ty,pos,af,some (j,want)⟩::rest) (Y l ds) (U s):=G1 hb ⟨p1 h,p1 (p2 h)⟩ (p2 (p2 h)) hn
theorem zG {j g:Nat} {op:Op} {v:AV} {rd:List (Nat×M)} {want b:Bool} (hb:b=want) (h:((ops[j]?).bind (·.dst),jK l g,Nat.blt d n)=(some g,some (Bo b),true))
  (he:iC P op l ds s v rd) (hn:SL P E n ops Q rest (Y ((d,v)::l) ds) (U s)):SL P E n ops Q (⟨some d,op,ty,pos,af,some (j,want)⟩::rest) (Y l ds) (U s):=GZ hb ⟨p1 h,p1 (p2 h)⟩ he (p2 (p2 h)) hn
theorem zu {j g:Nat} {op:Op} {want:Bool} (h:((ops[j]?).bind (·.dst),jK l g,Nat.blt d n)=(some g,some (Sc undef),true))
  (hn:SL P E n ops Q rest (Y ((d,Sc undef)::l) ds) (U s)):SL P E n ops Q (⟨some d,op,ty,pos,af,some (j,want)⟩::rest) (Y l ds) (U s):=GM ⟨p1 h,p1 (p2 h)⟩ (p2 (p2 h)) hn
theorem zs {t:TypeId} {x y:Operand} {k off m:Nat} {e:M} {v:AV} {c:List AV} [ht:lG P t m]
  (h:(bT l x,dB s k,e.vh,bT l y,v.fh,AV.iW c,c.length,Nat.ble (off+c.length) e.cells.length)=(some (.ptr k off),some e,true,some v,some c,true,m,true))
  (hn:SL P E n ops Q rest (Y l ds) (U ((k,e.put off c)::s))):SL P E n ops Q (⟨none,.store t x y,ty,pos,af,none⟩::rest) (Y l ds) (U s):=
 B6 ⟨p1 h,p1 (p2 h),p1 (p2 (p2 h)),p1 (p2 (p2 (p2 h))),p1 (p2 (p2 (p2 (p2 h)))),p1 (p2 (p2 (p2 (p2 (p2 h))))),p1 (p2 (p2 (p2 (p2 (p2 (p2 h)))))),p2 (p2 (p2 (p2 (p2 (p2 (p2 h))))))⟩ (fun _ q=>q▸hn)
def yD (E:Env) (ds:List (FuncId×List AV)) (l:List (Nat×AV)) (s:List (Nat×M)) (ks:List Nat) (f:Operand) (args:List Operand) (fid:FuncId) (argsC:List AV) (es:List M) (first cap vs:List AV) (l':List (Nat×AV)) (d n:Nat):Prop:=
 (bT l f,sh l args,first++vs++cap,sW s ks,nodupB ks,AD l' ds s ks ks es,vP E ks es,Nat.blt d n)=(some (.fn fid first cap),some vs,AV.gg.k7 (nth ks) argsC,some (jL (nth ks) es),true,true,True,true)
theorem yD.ok {ks:List Nat} {f:Operand} {args:List Operand} {fid:FuncId} {argsC:List AV} {es:List M} {first cap vs:List AV} {l':List (Nat×AV)} (h:yD E ds l s ks f args fid argsC es first cap vs l' d n) :
  kS E ds l s ks f args fid argsC es first cap vs l':=
 ⟨p1 h,p1 (p2 h),p1 (p2 (p2 h)),p1 (p2 (p2 (p2 h))),p1 (p2 (p2 (p2 (p2 h)))),p1 (p2 (p2 (p2 (p2 (p2 h))))),of_eq_true (p1 (p2 (p2 (p2 (p2 (p2 (p2 h)))))))⟩
theorem yD.bl {ks:List Nat} {f:Operand} {args:List Operand} {fid:FuncId} {argsC:List AV} {es:List M} {first cap vs:List AV} {l':List (Nat×AV)} (h:yD E ds l s ks f args fid argsC es first cap vs l' d n) :
  Nat.blt d n=true:=p2 (p2 (p2 (p2 (p2 (p2 (p2 h))))))
theorem zk {X R:Type} {res:D X} {kk:X→D R} {r:D R} {V V':X→AV} {C:X→List M} {C':X→List (Nat×M)} {f:Operand} {args:List Operand} {ts:Array TypeId} {fid:FuncId}
  {argsC first cap vs:List AV} {es:List M} (hp:∀ p fr σ,fr.ds=ds→r=.kT p→Q (.panic p.av) fr σ) (hr:r≠.stuck) (h:D.bind res kk=r) (ks:List Nat) (hen:Enters P fid)
  (hC:CT P fid argsC es res V C) (hk:(bT l f,sh l args,first++vs++cap,sW s ks,nodupB ks,AD l ds s ks ks es,vP E ks es,Nat.blt d n)=(some (.fn fid first cap),some vs,AV.gg.k7 (nth ks) argsC,some (jL (nth ks) es),true,true,True,true))
  (hx:∀ x,((C x).length,jd (below ks.length) (C x),(V x).only (below ks.length),(V x).gg (nth ks),kR ks (jL (nth ks) (C x)))=(ks.length,true,true,V' x,C' x))
  (hret:∀ x,kk x=r→SL P E n ops Q rest (Y ((d,V' x)::l) ds) (U (C' x++s))) :
  SL P E n ops Q (⟨some d,.call ⟨.value f,args.toArray,ts⟩,ty,pos,af,none⟩::rest) (Y l ds) (U s):=
 jf hr h ks hen hC (yD.ok (d:=d) (n:=n) hk) (yD.bl hk) (fun x=>⟨p1 (hx x),p1 (p2 (hx x)),p1 (p2 (p2 (hx x)))⟩) (fun x=>⟨p1 (p2 (p2 (p2 (hx x)))),p2 (p2 (p2 (p2 (hx x))))⟩) hp hret
theorem zK {j g:Nat} {want b:Bool} {X R:Type} {res:D X} {kk:X→D R} {r:D R} {V V':X→AV} {C:X→List M} {C':X→List (Nat×M)} {f:Operand} {args:List Operand} {ts:Array TypeId} {fid:FuncId}
  {argsC first cap vs:List AV} {es:List M} (hb:b=want) (hj:((ops[j]?).bind (·.dst),jK l g)=(some g,some (Bo b))) (hp:∀ p fr σ,fr.ds=ds→r=.kT p→Q (.panic p.av) fr σ) (hr:r≠.stuck) (h:D.bind res kk=r) (ks:List Nat) (hen:Enters P fid)
  (hC:CT P fid argsC es res V C) (hk:(bT l f,sh l args,first++vs++cap,sW s ks,nodupB ks,AD l ds s ks ks es,vP E ks es,Nat.blt d n)=(some (.fn fid first cap),some vs,AV.gg.k7 (nth ks) argsC,some (jL (nth ks) es),true,true,True,true))
  (hx:∀ x,((C x).length,jd (below ks.length) (C x),(V x).only (below ks.length),(V x).gg (nth ks),kR ks (jL (nth ks) (C x)))=(ks.length,true,true,V' x,C' x))
  (hret:∀ x,kk x=r→SL P E n ops Q rest (Y ((d,V' x)::l) ds) (U (C' x++s))) :
  SL P E n ops Q (⟨some d,.call ⟨.value f,args.toArray,ts⟩,ty,pos,af,some (j,want)⟩::rest) (Y l ds) (U s):=
 Cc hb ⟨p1 hj,p2 hj⟩ hr h ks hen hC (yD.ok (d:=d) (n:=n) hk) (yD.bl hk) (fun x=>⟨p1 (hx x),p1 (p2 (hx x)),p1 (p2 (p2 (hx x)))⟩) (fun x=>⟨p1 (p2 (p2 (p2 (hx x)))),p2 (p2 (p2 (p2 (hx x))))⟩) hp hret
theorem zC {f:FuncId} {fn:Func} {c:Code} {args:List AV} {es:List M} {X:Type} {res:D X} {V:X→AV} {C:X→List M} (hf:P.funcs[f]?=some fn) (hb:(fn.body,Nat.ble args.length fn.ntmps)=(some c,true))
  (h:∀ r,(∀ p fr (σ:Z),fr.ds=[]→r=.kT p→nf P fn (pL V C (fun x=>r=.ok x) (fun v=>∃ p,r=.kT p∧v=p.av)) (.panic p.av) fr σ)→res=r→r≠.stuck→∀ E:Env,(∀ k,kh es k=true→E.fix k=none)→
   SW P E fn.ntmps c (nf P fn (pL V C (fun x=>r=.ok x) (fun v=>∃ p,r=.kT p∧v=p.av))) (Y ((List.range args.length).zip args) []) (U (ez 0 es))):CT P f args es res V C:=
 DM hf (p1 hb) (p2 hb) fun r hr hs=>h r (fun _ _ _ hd hp=>xh hd hp) hr hs
theorem zB {R:Type} {c:Operand} {x y:Code} {b:Bool} {u v r:D R} (hb:bT l c=some (Bo b)) (h:br b u v=r) (ht:b=true→u=r→SW P E n x Q (Y l ds) (U s)) (hf:b=false→v=r→SW P E n y Q (Y l ds) (U s)):SW P E n (.cond c x y) Q (Y l ds) (U s):=
 dm hb (fun q=>ht q (GW q h)) (fun q=>hf q (GX q h))
theorem zd {R:Type} {p:Prop} [Decidable p] {x r:D R} {q:Prop} (hr:r≠.stuck) (h:gd p x=r) (k:p→x=r→q):q:=k (FD hr h).1 (FD hr h).2
theorem ze {R β:Type} {l:List β} {i:Int} {k:β→D R} {r:D R} {q:Prop} (hr:r≠.stuck) (h:el l i k=r) (c:∀ x,0≤i→i<l.length→l[i.toNat]?=some x→k x=r→q):q:=
 let ⟨x,a,b,d,e⟩:=HB hr h;c x a b d e
theorem z1 {R:Type} {b:Bool} {u v r:D R} {q:Prop} (hb:b=true) (h:br b u v=r) (k:u=r→q):q:=k (GW hb h)
theorem z2 {R:Type} {b:Bool} {u v r:D R} {q:Prop} (hb:b=false) (h:br b u v=r) (k:v=r→q):q:=k (GX hb h)
theorem zb {q:Prop} (b:Bool) (h1:b=true→q) (h2:b=false→q):q:=by cases b;exact h2 rfl;exact h1 rfl
def gF (l:List (Nat×AV)):List (Nat×AV)→List (Option AV)
 | []=>[]
 | (i,_)::F=>jK l i::gF l F
def gS (s:List (Nat×M)):List (Nat×M)→List (Option M)
 | []=>[]
 | (i,_)::F=>dB s i::gS s F
theorem D1 {l G:List (Nat×AV)}:∀ {F:List (Nat×AV)},gF l F=gF G F→si l G F
 | [],_=>trivial
 | (_,_)::_,h=>⟨(List.cons.inj h).1,D1 (List.cons.inj h).2⟩
theorem D2 {l G:List (Nat×M)}:∀ {F:List (Nat×M)},gS l F=gS G F→sY l G F
 | [],_=>trivial
 | (_,_)::_,h=>⟨(List.cons.inj h).1,D2 (List.cons.inj h).2⟩
theorem zM {X R:Type} {x y:Code} {j:X→D R} {p:(X→D R)→D R} {r:D R} (h:jn j p=r) (F:X→List (Nat×AV)) (H:X→List (Nat×M))
  (hy:∀ v,j v=r→SW P E n y Q (Y (F v) ds) (U (H v)))
  (hx:∀ (j':X→D R) (K:ew→Z→Prop),(∀ v l s,j' v=r→(gF l (F v),gS s (H v))=(gF (F v) (F v),gS (H v) (H v))→K (Y l ds) (U s))→p j'=r→SW P E n x (uh K Q) (Y l ds) (U s)):SW P E n (.seq x y) Q (Y l ds) (U s):=
 DN F H (fun v=>j v=r) hy (fun K hK=>hx j K (fun v l s a b=>hK v l s a (D1 (p1 b)) (D2 (p2 b))) h)
theorem zL {X R:Type} {c:Code} {body:(X→D R)→X→D R} {r:D R} {m:Nat} {v:X} (hr:r≠.stuck) (h0:iter body m v=r) (F:X→List (Nat×AV)) (H:X→List (Nat×M))
  (h1:(gF l (F v),gS s (H v))=(gF (F v) (F v),gS (H v) (H v)))
  (hx:∀ (next:X→D R) (v:X) (K:ew→Z→Prop),(∀ v l s,next v=r→(gF l (F v),gS s (H v))=(gF (F v) (F v),gS (H v) (H v))→K (Y l ds) (U s))→body next v=r→SW P E n c (uh K Q) (Y (F v) ds) (U (H v))) :
  SW P E n (.loop c) Q (Y l ds) (U s):=
 Bf F H body r m v hr h0 (D1 (p1 h1)) (D2 (p2 h1)) (fun next v K hK h=>hx next v K (fun v l s a b=>hK v l s a (D1 (p1 b)) (D2 (p2 b))) h)
theorem zQ {c:Code} {Q':dS} {fr:ew} {σ:Z} (k:∀ fr σ,SW P E n c Q' fr σ→Q .normal fr σ) (h:SW P E n c Q' fr σ):SL P E n ops Q [] fr σ:=N (k _ _ h)
def gM (s:List (Nat×M)):Nat→List M→List (Option M)
 | _,[]=>[]
 | i,_::es=>dB s i::gM s (i+1) es
theorem F3 {s:List (Nat×M)}:∀ {es:List M} {i:Nat},gM s i es=es.map some→tE s i es
 | [],_,_=>trivial
 | _::_,_,h=>⟨(List.cons.inj h).1,F3 (List.cons.inj h).2⟩
theorem zX {fn:Func} {X:Type} {V:X→AV} {C:X→List M} {r:D X} {H:AV→Prop} {vs:List AV} {x:X} (hr:Bc P (Y l []) (U s) fn.results.toList vs) (hg:.ok x=r) (hm:(mJ vs,gM s 0 (C x))=(V x,(C x).map some)) :
  nf P fn (pL V C (fun x=>r=.ok x) H) .ret (Y l []) (U s):=mh (.inl rfl) x hr hg.symm (p1 hm▸AV.le_refl _) (F3 (p2 hm))
theorem zY {fn:Func} {X:Type} {V:X→AV} {C:X→List M} {r:D X} {H:AV→Prop} {vs:List AV} {x:X} (hr:Bc P (Y l []) (U s) fn.results.toList vs) (hg:.ok x=r) (hm:(mJ vs,gM s 0 (C x))=(V x,(C x).map some)) :
  nf P fn (pL V C (fun x=>r=.ok x) H) .normal (Y l []) (U s):=mh (.inr rfl) x hr hg.symm (p1 hm▸AV.le_refl _) (F3 (p2 hm))
end
section
variable {P:Program} {E:Env} {n:Nat} {ops:Array Oper} {Q:dS} {B:List Rec→ew→Z→Prop} {i:Nat} {L:List Nat} {recs:List Rec} {l:List (Nat×AV)} {ds:List (FuncId×List AV)} {s:List (Nat×M)}
 {ty:TypeId} {pos:String} {af:Array Edge} {d:Nat}
theorem zD {op:Op} {v:AV} {rd:List (Nat×M)} (ho:ops[i]?=some ⟨some d,op,ty,pos,af,none⟩) (h:iC P op l ds s v rd)
  (hc:(dN ⟨some d,op,ty,pos,af,none⟩,Nat.blt d n,vj ops i v rd recs)=(false,true,true))
  (hn:lC P E n ops Q B L (⟨i,some d,rd,none⟩::recs) (Y ((d,v)::l) ds) (U s)):lC P E n ops Q B (i::L) recs (Y l ds) (U s):=GU ho h ⟨p1 hc,p1 (p2 hc),p2 (p2 hc)⟩ hn
end
end Go.Abs
end
