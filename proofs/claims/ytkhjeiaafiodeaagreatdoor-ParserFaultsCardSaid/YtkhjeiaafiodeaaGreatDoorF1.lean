/- PROVED: lemmas of the proof that configlanglaw26.ParserFaults returns true for every input. CONDITIONS: as each lemma states. (Put together by a program of my own out of my own texts.) -/
import Derived.Test.YtkhjeiaafiodeaaGreatDoorF0
import Derived.Recover
import Derived.Laws.BytesArg
import Derived.Laws.StructEq
import Derived.Below
import Derived.Lib.ConvBytes
import Derived.Lib.IndexMore
import Derived.Lib.LastIndexLaws
import Derived.Lib.ParseIntB
section
namespace Go.Abs
def rH (l:List (Nat×AV)):List Operand→Option (List AV)
 | []=>some []
 | x::xs=>match bD l x,rH l xs with
  | some v,some vs=>some (v::vs)
  | _,_=>none
theorem kG {l:List (Nat×AV)} {ds:List (FuncId×List AV)}:∀ {xs:List Operand} {vs:List AV},rH l xs=some vs→xs.map (bP l ds).val=vs
 | [],_,h=>by simp[rH] at h;simp[h]
 | x::xs,vs,h=>by
  simp only[rH] at h
  split at h
  ·rename_i v vs' hv hvs
   cases h
   simp[aC hv,kG hvs]
  ·cases h
mutual
theorem oB {π:Nat→Nat}:∀ {v:AV},v.only (fun _=>false)=true→v.eZ π=v
 | .any,_=>rfl
 | .oc,_=>rfl
 | .pv _,_=>rfl
 | .ptr _ _,h=>by simp[AV.only] at h
 | .arr _ _,h=>by simp[AV.only] at h
 | .sp _,_=>rfl
 | .fn f xs ys,h=>by simp only[AV.only,Bool.and_eq_true] at h;simp only[AV.eZ,oC h.1,oC h.2]
 | .agg cs,h=>by simp only[AV.only] at h;simp only[AV.eZ,oC h]
 | .eT cs,h=>by simp only[AV.only] at h;simp only[AV.eZ,oC h]
 | .ln t v,h=>by simp only[AV.only] at h;simp only[AV.eZ,oB h]
theorem oC {π:Nat→Nat}:∀ {v:List AV},AV.only.jw (fun _=>false) v=true→AV.eZ.kT π v=v
 | [],_=>rfl
 | x::xs,h=>by simp only[AV.only.jw,Bool.and_eq_true] at h;simp only[AV.eZ.kT,oB h.1,oC h.2]
end
theorem lE {a b:Nat}:Nat.blt a b=true↔a<b:=by rw[Nat.blt_eq]
def dC:Nat→List be→List (Nat×be)
 | _,[]=>[]
 | i,e::es=>(i,e)::dC (i+1) es
def kH:List Nat→List be→List (Nat×be)
 | k::ks,e::es=>(k,e)::kH ks es
 | _,_=>[]
def sn (s:List (Nat×be)):List Nat→Option (List be)
 | []=>some []
 | k::ks=>match cR s k,sn s ks with
  | some e,some es=>some (e::es)
  | _,_=>none
def nodupB:List Nat→Bool
 | []=>true
 | k::ks=>!ks.any (Nat.beq k)&&nodupB ks
def jy (π:Nat→Nat):List be→List be
 | []=>[]
 | e::es=>e.eZ π::jy π es
def be.oq (p:Nat→Bool):be→Bool
 | .app _ _ _=>true
 | .box cs=>AV.only.jw p cs
 | .arr _ _ _=>true
theorem so (p:Nat→Bool):∀ l:List PV,AV.only.jw p (l.map .pv)=true
 | []=>rfl
 | x::l=>by simp[AV.only.jw,AV.only,so p l]
theorem be.BK {p:Nat→Bool}:∀ {e:be},e.oq p=true→AV.only.jw p e.cells=true
 | .app _ _ c,_=>so p c
 | .box _,h=>h
 | .arr _ _ c,_=>so p c
def iR (p:Nat→Bool):List be→Bool
 | []=>true
 | e::es=>e.oq p&&iR p es
def nth:List Nat→Nat→Nat
 | [],_=>0
 | k::_,0=>k
 | _::ks,j+1=>nth ks j
def below (m:Nat):Nat→Bool:=fun j=>Nat.blt j m
theorem eh:∀ {es:List be} {i j:Nat} {e:be},bz (dC i es) j=some e→i≤j∧es[j - i]?=some e
 | [],_,_,_,h=>by cases h
 | a::es,i,j,e,h=>by
  simp only[dC,bz,jF] at h
  split at h
  ·rename_i q;cases h;subst q;simp
  ·rename_i q
   obtain ⟨h1,h2⟩:=eh (es:=es) (i:=i+1) h
   refine ⟨by omega,?_⟩
   rw[show j - i=(j - (i+1))+1 by omega];simpa using h2
theorem lR {es:List be}:∀ {i j:Nat} {e:be},es[j]?=some e→bz (dC i es) (i+j)=some e:=by
 induction es with
 | nil=>intro i j e h;simp at h
 | cons a es ih=>
  intro i j e h
  cases j with
  | zero=>simp at h;simp[dC,bz,jF,h]
  | succ j=>
   have:=ih (i:=i+1) (j:=j) (by simpa using h)
   simp only[bz] at this
   simp only[dC,bz,jF]
   rw[if_neg (by omega),show i+(j+1)=i+1+j by omega];exact this
theorem mI:∀ {ks:List Nat},nodupB ks=true→∀ {i j:Nat},i<ks.length→j<ks.length→nth ks i=nth ks j→i=j:=by
 have mem:∀ {ks:List Nat} {j:Nat},j<ks.length→nth ks j∈ks:=by
  intro ks
  induction ks with
  | nil=>intro j h;simp at h
  | cons k ks ih=>
   intro j h
   cases j with
   | zero=>simp[nth]
   | succ j=>simp only[nth];exact List.mem_cons_of_mem _ (ih (by simpa using h))
 intro ks
 induction ks with
 | nil=>intro _ i j h;simp at h
 | cons k ks ih=>
  intro h i j hi hj he
  simp only[nodupB,Bool.and_eq_true,Bool.not_eq_true'] at h
  have hk:∀ j,j<ks.length→nth ks j≠k:=fun j hj q=>by
   have h1:=mem hj
   rw[q] at h1
   have:ks.any (Nat.beq k)=true:=List.any_eq_true.2 ⟨k,h1,by simp⟩
   rw[h.1] at this;cases this
  cases i with
  | zero=>
   cases j with
   | zero=>rfl
   | succ j=>simp only[nth] at he;exact absurd he.symm (hk j (by simpa using hj))
  | succ i=>
   cases j with
   | zero=>simp only[nth] at he;exact absurd he (hk i (by simpa using hi))
   | succ j=>simp only[nth] at he;rw[ih h.2 (by simpa using hi) (by simpa using hj) he]
theorem nj {s:List (Nat×be)}:∀ {ks:List Nat} {es:List be},sn s ks=some es→es.length=ks.length∧∀ j e,es[j]?=some e→bz s (nth ks j)=some e
 | [],_,h=>by simp[sn] at h;simp[h]
 | k::ks,es,h=>by
  simp only[sn] at h
  split at h
  ·rename_i e es' he hes
   cases h
   obtain ⟨h1,h2⟩:=nj hes
   refine ⟨by simp[h1],fun j e' hj=>?_⟩
   cases j with
   | zero=>simp at hj;subst hj;exact bG he
   | succ j=>exact h2 j e' (by simpa using hj)
  ·cases h
theorem lF (π:Nat→Nat):∀ {es:List be} {j:Nat},(jy π es)[j]?=(es[j]?).map (be.eZ π)
 | [],_=>by simp[jy]
 | e::es,0=>by simp[jy]
 | e::es,j+1=>by simp[jy,lF π (es:=es)]
theorem fL (π:Nat→Nat):∀ es:List be,(jy π es).length=es.length
 | []=>rfl
 | _::es=>by simp[jy,fL π es]
theorem qz {p:Nat→Bool}:∀ {es:List be},iR p es=true→∀ {j:Nat} {e:be},es[j]?=some e→AV.only.jw p e.cells=true
 | [],_,j,e,h=>by simp at h
 | a::es,h,0,e,he=>by simp only[iR,Bool.and_eq_true] at h;simp at he;subst he;exact be.BK h.1
 | a::es,h,j+1,e,he=>by simp only[iR,Bool.and_eq_true] at h;exact qz h.2 (by simpa using he)
def ug (k:Nat) (ks:List Nat):List (Nat×be)→Bool
 | []=>false
 | (j,e)::s=>(!ks.any (Nat.beq j)&&e.mq k)||ug k ks s
def yx (l:List (Nat×AV)) (ds:List (FuncId×List AV)) (s:List (Nat×be)) (ks0:List Nat):List Nat→List be→Bool
 | _::ks,.box _::es=>yx l ds s ks0 ks es
 | k::ks,_::es=>!kq k l&&!iO k ds&&!ug k ks0 s&&yx l ds s ks0 ks es
 | _,_=>true
def uX (E:Env):List Nat→List be→Prop
 | _::ks,.box _::es=>uX E ks es
 | k::ks,_::es=>E.fix k=none∧uX E ks es
 | _,_=>True
theorem ly {k:Nat} {ks:List Nat}:∀ {s:List (Nat×be)},ug k ks s=false→∀ j e,ks.any (Nat.beq j)=false→bz s j=some e→AV.dr.ef k e.cells=false
 | [],_,j,e,_,h=>by cases h
 | (i,v)::s,h,j,e,hj,he=>by
  simp only[ug,Bool.or_eq_false_iff] at h
  simp only[bz,jF] at he
  split at he
  ·rename_i q
   cases he;subst q
   exact be.wb (by simpa[hj] using h.1)
  ·exact ly h.2 j e hj he
theorem sP {E:Env} {l:List (Nat×AV)} {ds:List (FuncId×List AV)} {s:List (Nat×be)} {ks0:List Nat}:∀ {ks:List Nat} {es:List be},yx l ds s ks0 ks es=true→uX E ks es→∀ {j:Nat} {e:be},
  j<ks.length→es[j]?=some e→(∃ cs,e=.box cs)∨(kq (nth ks j) l=false∧iO (nth ks j) ds=false∧ug (nth ks j) ks0 s=false∧E.fix (nth ks j)=none)
 | [],_,_,_,j,e,hj,_=>by simp at hj
 | _::_,[],_,_,j,e,_,he=>by simp at he
 | k::ks,.box cs::es,h,hf,0,e,_,he=>by simp at he;exact .inl ⟨cs,he.symm⟩
 | k::ks,.box cs::es,h,hf,j+1,e,hj,he=>sP (ks:=ks) (es:=es) h hf (by simpa using hj) (by simpa using he)
 | k::ks,.arr _ _ _::es,h,hf,0,e,_,he=>by
  simp only[yx,Bool.and_eq_true,Bool.not_eq_true'] at h
  exact .inr ⟨h.1.1.1,h.1.1.2,h.1.2,hf.1⟩
 | k::ks,.arr _ _ _::es,h,hf,j+1,e,hj,he=>by
  simp only[yx,Bool.and_eq_true] at h
  exact sP (ks:=ks) (es:=es) h.2 hf.2 (by simpa using hj) (by simpa using he)
 | k::ks,.app _ _ _::es,h,hf,0,e,_,he=>by
  simp only[yx,Bool.and_eq_true,Bool.not_eq_true'] at h
  exact .inr ⟨h.1.1.1,h.1.1.2,h.1.2,hf.1⟩
 | k::ks,.app _ _ _::es,h,hf,j+1,e,hj,he=>by
  simp only[yx,Bool.and_eq_true] at h
  exact sP (ks:=ks) (es:=es) h.2 hf.2 (by simpa using hj) (by simpa using he)
theorem wi {s:List (Nat×be)}:∀ {ks:List Nat} {es:List be},es.length=ks.length→nodupB ks=true→∀ k,
  bz (kH ks es++s) k=match (List.range ks.length).find? (fun j=>nth ks j==k) with|some j=>es[j]?|none=>bz s k:=by
 intro ks
 induction ks with
 | nil=>intro es _ _ k;cases es<;>simp[kH]
 | cons a ks ih=>
  intro es hl hn k
  cases es with
  | nil=>simp at hl
  | cons e es=>
   simp only[nodupB,Bool.and_eq_true] at hn
   have hr:List.range (a::ks).length=0::(List.range ks.length).map (·+1):=by
    rw[List.length_cons,List.range_succ_eq_map]
   rw[hr]
   simp only[List.find?_cons,nth]
   by_cases q:a=k
   ·subst q;simp[kH,bz,jF]
   ·have q':(a==k)=false:=by simpa using q
    have:=ih (es:=es) (by simpa using hl) hn.2 k
    simp only[bz] at this
    simp only[q',kH,List.cons_append,bz,jF]
    rw[if_neg (fun h=>q h.symm),this]
    rw[List.find?_map]
    have:((fun j=>nth (a::ks) j==k) ∘ (·+1))=fun j=>nth ks j==k:=by funext j;simp[nth]
    rw[this]
    cases (List.range ks.length).find? (fun j=>nth ks j==k)<;>simp
def o9 {X:Type} (V:X→AV) (C:X→List be) (G:X→Prop) (H:AV→Prop):nJ→bX→Prop:=
 fun ae σ=>(∃ x,G x∧ae=.ret (V x)∧σ=bz (dC 0 (C x)))∨(∃ v,H v∧ae=.panic v∧σ=bz [])
theorem wj {ks:List Nat} {k:Nat} (h:(List.range ks.length).any (fun i=>nth ks i==k)=false):ks.any (Nat.beq k)=false:=by
 rw[List.any_eq_false] at h ⊢
 intro x hx q
 obtain ⟨i,hi,rfl⟩:=List.getElem_of_mem hx
 have key:∀ (ks:List Nat) (i:Nat) (h:i<ks.length),nth ks i=ks[i]:=by
  intro ks
  induction ks with
  | nil=>intro i h;simp at h
  | cons a ks ih=>
   intro i h
   cases i with
   | zero=>rfl
   | succ i=>simp only[nth];exact ih i (by simpa using h)
 refine h i (by simpa using hi) ?_
 rw[key ks i hi]
 have:=Nat.eq_of_beq_eq_true q
 simp[this]
section
variable {P:Program} {E:Env} {n:Nat} {ops:Array Oper} {Q:df} {rest:List Oper} {l:List (Nat×AV)} {ds:List (FuncId×List AV)} {s:List (Nat×be)}
structure kI (E:Env) (ds:List (FuncId×List AV)) (l:List (Nat×AV)) (s:List (Nat×be)) (ks:List Nat) (f:Operand) (args:List Operand) (fid:FuncId) (argsC:List AV) (es:List be) (first cap vs:List AV) (l':List (Nat×AV):=l):Prop where
 f:bD l f=some (.fn fid first cap)
 a:rH l args=some vs
 e:first++vs++cap=AV.eZ.kT (nth ks) argsC
 gs:sn s ks=some (jy (nth ks) es)
 nd:nodupB ks=true
 bx:yx l' ds s ks ks es=true
 fx:uX E ks es
theorem uh {o:Oper} {X:Type} {V:X→AV} {C:X→List be} {G:X→Prop} {H:AV→Prop} {f:Operand} {args:List Operand} {ts:Array TypeId} {fid:FuncId} {argsC first cap vs:List AV} {es:List be}
  {next:dz→bX→Prop} {l':List (Nat×AV)} (hwk:(bP l ds).le (bP l' ds)) (ks:List Nat) (hen:Enters P fid) (ho:o.op=.call ⟨.value f,args.toArray,ts⟩) (hC:SC P fid argsC (bz (dC 0 es)) (o9 V C G H)) (hk:kI E ds l s ks f args fid argsC es first cap vs l')
  (hd:∀ d,o.dst=some d→d<n) (hx:∀ x,G x→(C x).length=ks.length∧iR (below ks.length) (C x)=true∧(V x).only (below ks.length)=true)
  (hret:∀ x,G x→next ((bP l' ds).gr o.dst ((V x).eZ (nth ks))) (bz (kH ks (jy (nth ks) (C x))++s)))
  (hpan:∀ v,H v→v.only (fun _=>false)=true∧Q (.panic v) (bP l' ds) (after (bz s) (nth ks) (List.range ks.length) [] (bz []))):Step P E n Q o (bP l ds) (bz s) next:=by
 obtain ⟨hl,hat⟩:=nj hk.gs
 rw[fL] at hl
 have hcon:∀ j,(List.range ks.length).contains j=below ks.length j:=fun j=>by
  have h1:(List.range ks.length).contains j=decide (j<ks.length):=by
   by_cases q:j<ks.length<;>simp[q]
  rw[h1];simp only[below]
  by_cases q:j<ks.length
  ·simp[q,lE.2 q]
  ·have:Nat.blt j ks.length=false:=by
    cases h:Nat.blt j ks.length with
    | false=>rfl
    | true=>exact absurd (lE.1 h) q
   simp[q,this]
 have hconf:(List.range ks.length).contains=below ks.length:=funext hcon
 have hltr:∀ j,below ks.length j=true→j<ks.length:=fun j h=>lE.1 h
 have hsome:∀ j,(bz (dC 0 es) j).isSome=true→j<ks.length:=fun j hj=>by
  cases q:bz (dC 0 es) j with
  | none=>rw[q] at hj;cases hj
  | some e=>
   obtain ⟨_,h2⟩:=eh q
   have:=(List.getElem?_eq_some_iff.1 h2).1
   simp at this;omega
 refine ub hwk (nth ks) (List.range ks.length) hen ho (aC hk.f) (by rw[kG hk.a];exact hk.e) hC (fun j hj=>by simpa using hsome j hj) (fun j e hj=>?_)
  (fun j j' hj hj' he=>mI hk.nd (hsome j hj) (hsome j' hj') he) hd (fun v σc hr=>?_) (fun v σc hr=>?_)
 ·obtain ⟨_,h2⟩:=eh hj
  exact hat j _ (by rw[lF,show j=j - 0 by omega,h2];rfl)
 ·rcases hr with ⟨x,hg,he,rfl⟩|⟨_,_,he,_⟩
  ·cases he
   obtain ⟨h1,h2,h3⟩:=hx x hg
   refine ⟨List.range ks.length,{ BH:=fun j e hj=>?_,val:=by rw[hconf];exact h3,inj:=fun j j' hj hj' he=>mI hk.nd (by simpa using hj) (by simpa using hj') he,same:=fun j hj=>?_ },?_⟩
   ·obtain ⟨_,h4⟩:=eh hj
    have h5:=(List.getElem?_eq_some_iff.1 h4).1
    exact ⟨by simp;omega,by rw[hconf];exact qz h2 h4⟩
   ·have hj':j<es.length:=by simp at hj;omega
    rcases sP hk.bx hk.fx (by simpa using hj) (List.getElem?_eq_getElem hj') with ⟨cs,hcs⟩|⟨q1,q2,q3,q4⟩
    ·exact .inl ⟨cs,by have:=lR (i:=0) (List.getElem?_eq_getElem hj');rw[hcs] at this;simpa using this⟩
    ·exact .inr ⟨eN q1 q2,fun k e hkl he=>ly q3 k e (wj hkl) he,q4⟩
   ·have:after (bz s) (nth ks) (List.range ks.length) (List.range ks.length) (bz (dC 0 (C x)))=bz (kH ks (jy (nth ks) (C x))++s):=by
     funext k
     rw[wi (by rw[fL,h1]) hk.nd]
     simp only[after]
     cases hf:(List.range ks.length).find? (fun j=>nth ks j==k) with
     | some j=>
      have hj:=List.mem_of_find?_eq_some hf
      simp at hj
      simp only[lF]
      have:j<(C x).length:=by omega
      rw[List.getElem?_eq_getElem this]
      have h6:=lR (i:=0) (List.getElem?_eq_getElem this)
      simp at h6
      rw[h6]
     | none=>
      have:(List.range ks.length).any (fun j=>nth ks j==k)=false:=by
       rw[List.any_eq_false];intro j hj
       have:=List.find?_eq_none.1 hf j hj
       simpa using this
      simp[this]
    rw[this];exact hret x hg
  ·cases he
 ·rcases hr with ⟨_,_,he,_⟩|⟨v',hh,he,rfl⟩
  ·cases he
  ·cases he
   obtain ⟨h1,h2⟩:=hpan v hh
   refine ⟨[],{ BH:=fun j e hj=>(by cases hj),val:=?_,inj:=fun j _ hj=>(by simp at hj),same:=fun j hj=>(by simp at hj) },?_⟩
   ·have:([]:List Nat).contains=fun _=>false:=by funext k;simp
    rw[this];exact h1
   ·rw[oB h1];exact h2
theorem zp {o:Oper} {X:Type} {V:X→AV} {C:X→List be} {G:X→Prop} {H:AV→Prop} {f:Operand} {args:List Operand} {ts:Array TypeId} {fid:FuncId} {argsC first cap vs:List AV} {es:List be}
  {next:dz→bX→Prop} (ks:List Nat) (hen:Enters P fid) (ho:o.op=.call ⟨.value f,args.toArray,ts⟩) (hC:SC P fid argsC (bz (dC 0 es)) (o9 V C G H)) (hk:kI E ds l s ks f args fid argsC es first cap vs)
  (hd:∀ d,o.dst=some d→d<n) (hx:∀ x,G x→(C x).length=ks.length∧iR (below ks.length) (C x)=true∧(V x).only (below ks.length)=true)
  (hret:∀ x,G x→next ((bP l ds).gr o.dst ((V x).eZ (nth ks))) (bz (kH ks (jy (nth ks) (C x))++s)))
  (hpan:∀ v,H v→v.only (fun _=>false)=true∧Q (.panic v) (bP l ds) (after (bz s) (nth ks) (List.range ks.length) [] (bz []))):Step P E n Q o (bP l ds) (bz s) next:=
 uh ⟨fun _=>.inl rfl,rfl⟩ ks hen ho hC hk hd hx hret hpan
end
end Go.Abs
end
section
namespace Go.Abs
section
variable {P:Program} {E:Env} {n:Nat} {ops:Array Oper} {Q:df} {rest:List Oper} {l:List (Nat×AV)} {ds:List (FuncId×List AV)} {s:List (Nat×be)}
 {ty:TypeId} {pos:String} {af:Array Edge}
theorem lz {d n:Nat} (h:Nat.blt d n=true):∀ x,some d=some x→x<n:=fun x hx=>by cases hx;exact lE.1 h
theorem aM {d:Nat} {t:TypeId} {z:List Value} [hz:jQ P t z] {zs:List AV} (nm:Nat) (hE:E.fix nm=none)
  (h:z.map (fun v=>AV.pv (.sc v))=zs∧kq nm l=false∧iO nm ds=false∧mz nm s=false)
  (hd:Nat.blt d n=true) (hn:SL P E n ops Q rest (bP ((d,.ptr nm 0)::l) ds) (bz ((nm,.box zs)::s))):SL P E n ops Q (⟨some d,.alloc t,ty,pos,af,none⟩::rest) (bP l ds) (bz s):=
 hQ rfl (vZ (wX nm hz.h) (eN h.2.1 h.2.2.1) (iP h.2.2.2) hE (lz hd) (by rw[h.1];exact hn))
def xa:List AV→Nat→List AV→List AV
 | cs,0,v=>DP cs v
 | [],_+1,_=>[]
 | c::cs,k+1,v=>c::xa cs k v
where
 DP:List AV→List AV→List AV
  | cs,[]=>cs
  | [],_::_=>[]
  | _::cs,v::vs=>v::DP cs vs
theorem Ar:∀ {cs v:List AV},v.length≤cs.length→xa.DP cs v=v++cs.drop v.length
 | cs,[],_=>by simp[xa.DP]
 | [],_::_,h=>by simp at h
 | c::cs,v::vs,h=>by simp[xa.DP,Ar (cs:=cs) (v:=vs) (by simpa using h)]
theorem yy:∀ {cs:List AV} {off:Nat} {v:List AV},off+v.length≤cs.length→xa cs off v=cs.take off++v++cs.drop (off+v.length)
 | cs,0,v,h=>by simp[xa,Ar (cs:=cs) (v:=v) (by simpa using h)]
 | [],k+1,v,h=>by simp at h
 | c::cs,k+1,v,h=>by
  simp only[xa]
  rw[yy (cs:=cs) (off:=k) (v:=v) (by simp at h;omega)]
  simp[show k+1+v.length=(k+v.length)+1 by omega]
def be.put (off:Nat) (v:List AV):be→be
 | .box cs=>.box (xa cs off v)
 | e=>e
def be.ui:be→Bool
 | .box _=>true
 | _=>false
theorem put_eq {e:be} {off:Nat} {v:List AV} (hb:e.ui=true) (h:off+v.length≤e.cells.length):e.yp off v=e.put off v:=by
 cases e with
 | box cs=>simp only[be.yp,be.put];rw[yy (cs:=cs) h]
 | arr el sz cs=>cases hb
 | app el sz cs=>cases hb
theorem sQ {e:be} (h:e.ui=true):e.isApp=false:=by cases e<;>first|rfl|cases h
theorem sR {e:be} {p:Prop} (h:e.ui=true) (q:e.Al=true):p:=by cases e with|box _=>cases q|arr _ _ _=>cases h|app _ _ _=>cases h
theorem As {t:TypeId} {x y:Operand} {k off m:Nat} {e:be} {v:AV} {c:List AV} [ht:lp P t m]
  (h:bD l x=some (.ptr k off)∧cR s k=some e∧e.ui=true∧bD l y=some v∧v.eg=some c∧AV.iG c=true∧c.length=m∧Nat.ble (off+c.length) e.cells.length=true)
  (hn:∀ e',e.put off c=e'→SL P E n ops Q rest (bP l ds) (bz ((k,e')::s))):SL P E n ops Q (⟨none,.store t x y,ty,pos,af,none⟩::rest) (bP l ds) (bz s):=by
 obtain ⟨hx,hk,hea,hy,hc,h1,hm,hl⟩:=h
 have hl':=Nat.le_of_ble_eq_true hl
 refine hQ rfl (o4 rfl rfl (aC hx) (bG hk) (sQ hea) (by rw[aC hy];exact hc) h1 (by rw[hm];exact ht.h) hl' (sR hea) ?_)
 rw[put_eq hea hl'];exact hn _ rfl
theorem DQ {d:Nat} {t e:TypeId} {m sz:Nat} {parts:List (Nat×Operand)} {zs:List Value} {pl:List (Nat×Nat)} {pv:List (Nat×AV)} {cells:List PV} [ht:jR P t m e sz zs pl]
  (h:parts.mapM (fun p=>(bD l p.2).map fun v=>(p.1,v))=some pv∧kS pl (zs.map fun v=>.pv (.sc v)) pv=some (cells.map .pv)) (hd:Nat.blt d n=true)
  (hn:SL P E n ops Q rest (bP ((d,.pv (.sl m cells))::l) ds) (bz s)):SL P E n ops Q (⟨some d,.buildSlice t m parts.toArray,ty,pos,af,none⟩::rest) (bP l ds) (bz s):=by
 refine hQ rfl (BE (rD ht.h ?_) (lz hd) hn)
 have key:∀ (ps:List (Nat×Operand)) (pv:List (Nat×AV)),ps.mapM (fun p=>(bD l p.2).map fun v=>(p.1,v))=some pv→(ps.map fun p=>(p.1,(bP l ds).val p.2))=pv:=by
  intro ps
  induction ps with
  | nil=>intro pv h;simp at h;simp[h]
  | cons p ps ih=>
   intro pv h
   rw[List.mapM_cons] at h
   cases hv:bD l p.2 with
   | none=>simp[hv] at h
   | some v=>
    cases hr:ps.mapM (fun p=>(bD l p.2).map fun v=>(p.1,v)) with
    | none=>simp[hv,hr] at h
    | some r=>
     simp[hv,hr] at h
     subst h
     simp[ih r hr,aC (ds:=ds) hv]
 rw[key parts pv h.1];exact h.2
theorem xV {fn:Func} {X:Type} {V:X→AV} {C:X→List be} {G:X→Prop} {H:AV→Prop} {v:AV} {fr:dz} {σ:bX} (hd:fr.ds=[]) (h:H v):mE P fn (o9 V C G H) (.panic v) fr σ:=
 ⟨hd,bz [],fun k e hk=>(by cases hk),.inr ⟨v,h,rfl,rfl⟩⟩
theorem xb {es:List be} (h:∀ j e,es[j]?=some e→cR s j=some e):∀ k e,bz (dC 0 es) k=some e→bz s k=some e:=fun k e hk=>by
 obtain ⟨_,h2⟩:=eh hk
 exact bG (h k e (by simpa using h2))
def sS (s:List (Nat×be)):Nat→List be→Prop
 | _,[]=>True
 | i,e::es=>cR s i=some e∧sS s (i+1) es
theorem sT:∀ {es:List be} {i:Nat},sS s i es→∀ j e,es[j]?=some e→cR s (i+j)=some e
 | [],_,_,j,e,h=>by simp at h
 | a::es,i,h,0,e,he=>by simp at he;subst he;exact h.1
 | a::es,i,h,j+1,e,he=>by
  have:=sT h.2 j e (by simpa using he)
  rw[show i+(j+1)=i+1+j by omega];exact this
theorem lS {fn:Func} {X:Type} {V:X→AV} {C:X→List be} {G:X→Prop} {H:AV→Prop} {vs:List AV} {ae:rE} (hae:ae=.ret∨ae=.normal) (x:X) (hr:zi P (bP l []) (bz s) fn.results.toList vs)
  (hg:G x) (hle:(mi vs).le (V x)) (hm:sS s 0 (C x)):mE P fn (o9 V C G H) ae (bP l []) (bz s):=by
 have h:(bP l []).ds=[]∧∃ vs v σ',zi P (bP l []) (bz s) fn.results.toList vs∧(mi vs).le v∧(∀ k e,σ' k=some e→bz s k=some e)∧o9 V C G H (.ret v) σ':=
  ⟨rfl,vs,V x,bz (dC 0 (C x)),hr,hle,xb (fun j e hj=>by have:=sT hm j e hj;simpa using this),.inl ⟨x,hg,rfl,rfl⟩⟩
 rcases hae with rfl|rfl
 ·exact h
 ·exact h
theorem aw {t:Nat} {v:AV} (h:jx l t=some v):RV P (bP l ds) (bz s) (.tmp t) v:=by rw[← dV h];exact .tmp t
theorem aZ {a k:Nat} {t:TypeId} {cs:List AV} {m:Nat} [ht:lp P t m] [ha:gj P t true] (hk:jx l a=some (.ptr k 0)) (hs:cR s k=some (.box cs)) (hm:cs.length=m) :
  RV P (bP l ds) (bz s) (.cell a t) (.agg cs):=.agg (dV hk) (bG hs) (by rw[hm];exact ht.h) ha.h
theorem wm {a k:Nat} {t:TypeId} {c:AV} [ha:gj P t false] (hk:jx l a=some (.ptr k 0)) (hs:cR s k=some (.box [c])):RV P (bP l ds) (bz s) (.cell a t) c:=.one (dV hk) (bG hs) ha.h
theorem uj (args:List AV):(⟨fun i=>args[i]?.getD .any,[]⟩:dz)=bP ((List.range args.length).zip args) []:=by
 simp only[bP,dz.mk.injEq,and_true]
 funext i
 have key:∀ (l:List AV) (k i:Nat),jO ((List.range' k l.length).zip l) (k+i)=l[i]?.getD .any:=by
  intro l
  induction l with
  | nil=>intro k i;simp[jO]
  | cons a l ih=>
   intro k i
   simp only[List.length_cons,List.range'_succ,List.zip_cons_cons,jO]
   cases i with
   | zero=>simp
   | succ i=>
    rw[if_neg (by omega),show k+(i+1)=k+1+i by omega,ih];simp
 have:=key args 0 i
 rw[List.range_eq_range'];simpa using this.symm
def jS:List be→Nat→Bool
 | [],_=>true
 | .box _::_,0=>false
 | _::_,0=>true
 | _::es,k+1=>jS es k
theorem BL {f:FuncId} {fn:Func} {c:Code} {args:List AV} {es:List be} {R:nJ→bX→Prop} (hf:P.funcs[f]?=some fn) (hb:fn.body=some c) (hn:Nat.ble args.length fn.ntmps=true)
  (h:∀ E:Env,(∀ k,jS es k=true→E.fix k=none)→SW P E fn.ntmps c (mE P fn R) (bP ((List.range args.length).zip args) []) (bz (dC 0 es))):SC P f args (bz (dC 0 es)) R:=
 An hf hb (Nat.le_of_ble_eq_true hn) fun E hE=>by
  rw[uj]
  refine h E fun k hk=>hE k fun cs hcs=>?_
  obtain ⟨_,h2⟩:=eh hcs
  have h3:∀ (es:List be) (k:Nat),jS es k=true→es[k]?≠some (.box cs):=by
   intro es
   induction es with
   | nil=>intro k _;simp
   | cons e es ih=>
    intro k hk
    cases k with
    | zero=>intro q;simp at q;subst q;simp[jS] at hk
    | succ k=>simpa using ih k (by cases e<;>simpa[jS] using hk)
  exact h3 es k hk (by simpa using h2)
end
end Go.Abs
end
section
namespace Go.Abs
section
variable {P:Program} {E:Env} {n:Nat} {ops:Array Oper} {Q:df}
variable (P E n ops Q) in
abbrev DX (x y:Nat):List Nat→List Rec→dz→bX→Prop:=lj P E n ops Q fun recs fr σ=>DW P E n ops Q [x,y] recs fr σ∧DW P E n ops Q [y,x] recs fr σ
theorem Inv.swap {x y:Nat} {listed:Array Bool} {recs:List Rec} {fr:dz} {σ:bX} (h:Inv P E n ops listed [x,y] recs fr σ) (hp:kU ops [y,x]=true):Inv P E n ops listed [y,x] recs fr σ:=
 {
  size:=h.size
  todo:=fun i hi=>h.todo i (by simp at hi ⊢;exact hi.symm)
  done:=fun i o ho hi=>h.done i o ho (by simp at hi ⊢;exact ⟨hi.2,hi.1⟩)
  fQ:=fun r hr=>by
   obtain ⟨h1,h2⟩:=h.fQ r hr
   exact ⟨by simp at h1 ⊢;exact ⟨h1.2,h1.1⟩,h2⟩
  ue:=fun i hi=>h.ue i (by simp at hi ⊢;exact hi.symm)
  apart:=h.apart,names:=h.names,vq:=h.vq
  tm:=fun i j hi hiL hj=>h.tm i j hi (by simp at hiL ⊢;exact ⟨hiL.2,hiL.1⟩) (by simp at hj ⊢;exact hj.symm)
  sN:=hp
  down:=h.down,vr:=h.vr,reads:=h.reads,gh:=h.gh,ds:=h.ds,zj:=h.zj,qo:=h.qo }
theorem xc {x y:Nat} {listed:Array Bool} {i:Nat} {o:Oper} (ho:ops[i]?=some o) (hr:∀ e,e∈o.after.toList→Region.binds .any e=true→oz listed e.on=true) :
  ∀ (L:List Nat) (recs:List Rec) (fr:dz) (σ:bX) (g:Gh) (a:Act) (w:World),i∈L++[x,y]→strict ops (L++[x])=true→strict ops (L++[y])=true→Inv P E n ops listed (L++[x,y]) recs fr σ→DX P E n ops Q x y L recs fr σ→
   Rel E g (dv σ (mS listed recs)) w→FR n g (dB fr (mF listed recs)) a→
   (∃ L' recs' fr' σ',strict ops (i::L'++[x])=true∧strict ops (i::L'++[y])=true∧Inv P E n ops listed (i::(L'++[x,y])) recs' fr' σ'∧DX P E n ops Q x y (i::L') recs' fr' σ'∧Rel E g (dv σ' (mS listed recs')) w∧FR n g (dB fr' (mF listed recs')) a)∨
   ((i=x∨i=y)∧∃ recs' fr' σ',Inv P E n ops listed [x,y] recs' fr' σ'∧DX P E n ops Q x y [] recs' fr' σ'∧Rel E g (dv σ' (mS listed recs')) w∧FR n g (dB fr' (mF listed recs')) a)
 | [],recs,fr,σ,g,a,w,hi,_,_,hI,hD,hR,hF=>.inr ⟨by simpa using hi,recs,fr,σ,hI,hD,hR,hF⟩
 | c::L,recs,fr,σ,g,a,w,hi,hs1,hs2,hI,hD,hR,hF=>by
  by_cases q:c=i
  ·subst q;exact .inl ⟨L,recs,fr,σ,hs1,hs2,hI,hD,hR,hF⟩
  ·have hiL:i∈L++[x,y]:=by
    rcases List.mem_cons.1 hi with h|h
    ·exact absurd h.symm q
    ·exact h
   obtain ⟨oc,hoc,hS⟩:=hD
   have hPP:=hI.sN
   simp only[List.cons_append,kU,Bool.and_eq_true] at hPP
   have hpair:n5 ops c i=true:=List.all_eq_true.1 hPP.1.2 i hiL
   have hhv:da oc=false:=by
    cases h:da oc with
    | false=>rfl
    | true=>
     have h1:lO ops ops.size i c=true:=by
      rcases (kF hoc ho hpair).2.2 h with h0|h0
      ·have:i∈L++[x]∨i∈L++[y]:=by
        simp only[List.mem_append,List.mem_cons,List.not_mem_nil,or_false] at hiL ⊢
        rcases hiL with h|h|h
        ·exact .inl (.inl h)
        ·exact .inl (.inr h)
        ·exact .inr (.inr h)
       rcases this with hm|hm
       ·exact sL hs1 hm hoc ho h h0
       ·exact sL hs2 hm hoc ho h h0
      ·exact h0
     have h2:=ni hI.down _ _ _ o ho hr h1
     rw[(hI.todo c (by simp)).2] at h2;cases h2
   obtain ⟨r,recs',fr',σ',rfl,_,hn,hI',hR',hF'⟩:=walk hI hoc hhv hS hR hF
   exact xc ho hr L _ fr' σ' g a w hiL (hU hs1) (hU hs2) hI' hn hR' hF'
theorem CY {x y:Nat} {ox oy:Oper} (hox:ops[x]?=some ox) (hoy:ops[y]?=some oy) (hhx:da ox=true) (hhy:da oy=true) (hpp:kU ops [y,x]=true)
  (hsm:∀ i o,ops[i]?=some o→∀ e,e∈o.after.toList→Region.binds .any e=true→e.on<i) :
  ∀ (fuel:Nat) (listed:Array Bool) (L:List Nat) (recs:List Rec) (fr:dz) (σ:bX) (g:Gh) (a:Act) (w:World),left ops listed≤fuel→strict ops (L++[x])=true→strict ops (L++[y])=true→Inv P E n ops listed (L++[x,y]) recs fr σ→DX P E n ops Q x y L recs fr σ→
   Rel E g (dv σ (mS listed recs)) w→FR n g (dB fr (mF listed recs)) a→wpAny P .any ops (LQ E n Q) fuel listed a w:=by
 intro fuel
 have never:∀ listed L recs fr σ,Inv P E n ops listed (L++[x,y]) recs fr σ→(∀ i,i<ops.size→oz listed i=true)→False:=fun listed L recs fr σ hI hall=>by
  have:=hI.todo x (by simp)
  rw[hall x this.1] at this;cases this.2
 induction fuel with
 | zero=>
  intro listed L recs fr σ g a w hfu hs1 hs2 hI hD hR hF
  exfalso
  refine never listed L recs fr σ hI fun i hi=>?_
  have:left ops listed=0:=by omega
  unfold left at this
  rw[List.countP_eq_zero] at this
  simpa using this i (by simpa using hi)
 | succ fuel ih=>
  intro listed L recs fr σ g a w hfu hs1 hs2 hI hD hR hF
  refine ⟨fun hnil=>(never listed L recs fr σ hI (yv hI hsm hnil)).elim,fun i hi=>?_⟩
  obtain ⟨h1,h2,o,ho,hr⟩:=rV hI.size hi
  have hlf:left ops (listed.setIfInBounds i true)≤fuel:=by have:=w8 hI.size h1 h2;omega
  have hpend:∀ L recs fr σ g a w,strict ops (L++[x])=true→strict ops (L++[y])=true→(∃ r,r∈kE listed recs∧r.i=i)→Inv P E n ops listed (L++[x,y]) recs fr σ→DX P E n ops Q x y L recs fr σ→Rel E g (dv σ (mS listed recs)) w→FR n g (dB fr (mF listed recs)) a→
    wpOp P ops (LQ E n Q) i (wpAny P .any ops (LQ E n Q) fuel (listed.setIfInBounds i true)) a w:=by
   rintro L recs fr σ g a w hs1 hs2 ⟨r,hrp,hri⟩ hI hD hR hF
   exact w7 hI ho hr hrp hri hR hF fun g' a' w' hI' hR' hF'=>ih _ L recs fr σ g' a' w' hlf hs1 hs2 hI' hD hR' hF'
  by_cases hiL:i∈L++[x,y]
  ·rcases xc ho hr L recs fr σ g a w hiL hs1 hs2 hI hD hR hF with ⟨L',recs',fr',σ',hs1',hs2',hI',hD',hR',hF'⟩|⟨hxy,recs',fr',σ',hI',hD',hR',hF'⟩
   ·obtain ⟨oc,hoc,hS⟩:=hD'
    rw[ho] at hoc;cases hoc
    cases hh:da o with
    | true=>
     exact sO hI' ho hh hr hS hR' hF' fun g2 fr2 σ2 a2 w2 hn hI2 hR2 hF2=>ih _ L' recs' fr2 σ2 g2 a2 w2 hlf (hU hs1') (hU hs2') hI2 hn hR2 hF2
    | false=>
     obtain ⟨r,recs2,fr2,σ2,rfl,hri,hn,hI2,hR2,hF2⟩:=walk hI' ho hh hS hR' hF'
     exact hpend L' _ fr2 σ2 g a w (hU hs1') (hU hs2') ⟨r,cO.2 ⟨by simp,by rw[hri];exact h2⟩,hri⟩ hI2 hn hR2 hF2
   ·have fin:∀ u v ou,ops[u]?=some ou→da ou=true→i=u→Inv P E n ops listed [u,v] recs' fr' σ'→DW P E n ops Q [u,v] recs' fr' σ'→
      wpOp P ops (LQ E n Q) i (wpAny P .any ops (LQ E n Q) fuel (listed.setIfInBounds i true)) a w:=fun u v ou hou hhu hiu hIu hDu=>by
     subst hiu
     obtain ⟨oc,hoc,hS⟩:=hDu
     rw[ho] at hoc;cases hoc
     rw[ho] at hou;cases hou
     exact sO hIu ho hhu hr hS hR' hF' fun g2 fr2 σ2 a2 w2 hn hI2 hR2 hF2=>w9 hsm fuel _ [v] recs' fr2 σ2 g2 a2 w2 hlf rfl hI2 hn hR2 hF2
    rcases hxy with q|q
    ·exact fin x y ox hox hhx q hI' hD'.1
    ·exact fin y x oy hoy hhy q (hI'.swap hpp) hD'.2
  ·obtain ⟨hd1,hd2⟩:=hI.done i o ho hiL
   cases hh:da o with
   | true=>rw[hd1 hh] at h2;cases h2
   | false=>
    obtain ⟨r,hrr,hri⟩:=hd2 hh
    exact hpend L recs fr σ g a w hs1 hs2 ⟨r,cO.2 ⟨hrr,by rw[hri];exact h2⟩,hri⟩ hI hD hR hF
def DS (ops:Array Oper) (L:List Nat) (x y:Nat):Bool:=
 (L++[x,y]).all (rT ops)&&(List.range ops.size).all (fun i=>(L++[x,y]).contains i)&&(L++[x,y]).all (fun i=>decide (i<ops.size))&&kU ops (L++[x,y])&&
  strict ops (L++[x])&&strict ops (L++[y])&&kU ops [y,x]&&(match ops[x]?,ops[y]? with|some a,some b=>da a&&da b|_,_=>false)
theorem oD {id:Nat} {fr:dz} {σ:bX} (L:List Nat) (x y:Nat) (hm:P.follows .mixedOrders=true) (hchk:DS ops L x y=true) (h:DX P E n ops Q x y L [] fr σ):SW P E n (.region id ops true) Q fr σ:=by
 intro g a w hR hF
 simp only[DS,Bool.and_eq_true,List.all_eq_true,decide_eq_true_eq] at hchk
 obtain ⟨⟨⟨⟨⟨⟨⟨hself,hall⟩,hin⟩,hpairs⟩,hs1⟩,hs2⟩,hpp⟩,hhv⟩:=hchk
 have hsm:∀ i o,ops[i]?=some o→∀ e,e∈o.after.toList→Region.binds .any e=true→e.on<i:=fun i o ho e he hb=>by
  have hi:i<ops.size:=by
   rcases Nat.lt_or_ge i ops.size with q|q
   ·exact q
   ·rw[Array.getElem?_eq_none q] at ho;cases ho
  have h1:=hself i (by have:=hall i (List.mem_range.2 hi);simpa using this)
  simp only[rT,ho,Bool.and_eq_true,List.all_eq_true] at h1
  have:=h1.1 e he
  simpa[hb] using this
 have hnone:∀ i,oz (Array.replicate ops.size false) i=false:=fun i=>by
  simp only[oz,Array.getD_eq_getD_getElem?]
  rcases Nat.lt_or_ge i ops.size with q|q
  ·simp[q]
  ·rw[Array.getElem?_eq_none (by simpa using q)];rfl
 have hmem:∀ i,i<ops.size→i∈L++[x,y]:=fun i hi=>by have:=hall i (List.mem_range.2 hi);simpa using this
 have hI:Inv P E n ops (Array.replicate ops.size false) (L++[x,y]) [] fr σ:=
  Inv.mk (by simp) (fun i hi=>⟨hin i hi,hnone i⟩) (fun i o ho hi=>by
    exfalso
    have hlt:i<ops.size:=by
     rcases Nat.lt_or_ge i ops.size with q|q
     ·exact q
     ·rw[Array.getElem?_eq_none q] at ho;cases ho
    exact hi (hmem i hlt)) (fun r hr=>by cases hr) hself (fun r _ hr=>by cases hr) (fun r _ _ hr=>by cases hr) (fun r _ hr=>by cases hr)
   (fun i j hi hiL hj=>absurd (hmem i hi) hiL) hpairs (fun i o _ h=>by rw[hnone i] at h;cases h) (fun r hr=>by cases hr) (fun r hr=>by cases hr)
   (fun r hr=>by cases hr) (fun r hr=>by cases hr) (fun r hr=>by cases hr) (fun r _ hr=>by cases hr)
 have h1:mF (Array.replicate ops.size false) []=fun _=>false:=rfl
 have h2:mS (Array.replicate ops.size false) []=fun _=>false:=rfl
 have h3:dB fr (fun _=>false)=fr:=by simp[dB]
 have h4:dv σ (fun _=>false)=σ:=by funext k;simp[dv]
 split at hhv
 ·rename_i ox oy hox hoy
  simp only[Bool.and_eq_true] at hhv
  refine wp_region_any hm (CY hox hoy hhv.1 hhv.2 hpp hsm ops.size _ L [] fr σ g a _ ?_ hs1 hs2 hI h ?_ ?_)
  ·exact Nat.le_trans (List.countP_le_length) (by simp)
  ·rw[h2,h4];exact hR.drew
  ·rw[h1,h3];exact hF
 ·cases hhv
end
end Go.Abs
end
section
namespace Go.Abs
def uk (ops:Array Oper) (i:Nat) (v:AV) (rd:List (Nat×be)):List Rec→Bool
 | []=>true
 | r::rs=>(match r.nm with|none=>true|some nm=>lO ops ops.size i r.i||(!v.dr nm&&rd.all fun p=>!Nat.beq p.1 nm))&&uk ops i v rd rs
theorem rW {ops:Array Oper} {i:Nat} {v:AV} {rd:List (Nat×be)}:∀ {recs:List Rec},uk ops i v rd recs=true→
  ∀ r,r∈fa ops recs i→∀ nm,r.nm=some nm→v.dr nm=false∧∀ p,p∈rd→p.1≠nm
 | [],_,r,hr=>by simp[fa] at hr
 | a::rs,h,r,hr=>by
  simp only[uk,Bool.and_eq_true] at h
  intro nm hnm
  simp only[fa,List.mem_filter,Bool.not_eq_true'] at hr
  rcases List.mem_cons.1 hr.1 with q|q
  ·subst q
   have h1:=h.1
   rw[hnm] at h1
   simp only[hr.2,Bool.false_or,Bool.and_eq_true,Bool.not_eq_true',List.all_eq_true] at h1
   refine ⟨h1.1,fun p hp e=>?_⟩
   have:=h1.2 p hp
   rw[e] at this
   simp at this
  ·exact rW h.2 r (by simp[fa,q,hr.2]) nm hnm
section
variable {P:Program} {E:Env} {n:Nat} {ops:Array Oper} {Q:df} {B:List Rec→dz→bX→Prop} {i:Nat} {L:List Nat} {recs:List Rec} {l:List (Nat×AV)} {ds:List (FuncId×List AV)} {s:List (Nat×be)}
 {ty:TypeId} {pos:String} {af:Array Edge}
theorem b4 (h:Q .normal (bP l ds) (bz s)):DW P E n ops Q [] recs (bP l ds) (bz s):=h
theorem DT {d:Nat} {op:Op} {v:AV} {rd:List (Nat×be)} (ho:ops[i]?=some ⟨some d,op,ty,pos,af,none⟩) (h:hP P op l ds s v rd)
  (hc:da ⟨some d,op,ty,pos,af,none⟩=false∧Nat.blt d n=true∧uk ops i v rd recs=true)
  (hn:lj P E n ops Q B L (⟨i,some d,rd,none⟩::recs) (bP ((d,v)::l) ds) (bz s)):lj P E n ops Q B (i::L) recs (bP l ds) (bz s):=
 ⟨_,ho,.ev (.inl rfl) hc.1 h.h h.r (lz hc.2.1) (rW hc.2.2) hn⟩
theorem CZ {d j g:Nat} {op:Op} {v:AV} {rd:List (Nat×be)} {want:Bool} (ho:ops[i]?=some ⟨some d,op,ty,pos,af,some (j,want)⟩)
  (hj:(ops[j]?).bind (·.dst)=some g∧jx l g=some (Bo want)) (h:hP P op l ds s v rd)
  (hc:da ⟨some d,op,ty,pos,af,some (j,want)⟩=false∧Nat.blt d n=true∧uk ops i v rd recs=true)
  (hn:lj P E n ops Q B L (⟨i,some d,rd,none⟩::recs) (bP ((d,v)::l) ds) (bz s)):lj P E n ops Q B (i::L) recs (bP l ds) (bz s):=
 ⟨_,ho,.ev (.inr ⟨j,want,g,rfl,hj.1,dV hj.2⟩) hc.1 h.h h.r (lz hc.2.1) (rW hc.2.2) hn⟩
theorem DU {d j g:Nat} {op:Op} {want b:Bool} (ho:ops[i]?=some ⟨some d,op,ty,pos,af,some (j,want)⟩)
  (hj:(ops[j]?).bind (·.dst)=some g∧jx l g=some (Bo b)∧(b==want)=false) (hc:da ⟨some d,op,ty,pos,af,some (j,want)⟩=false∧Nat.blt d n=true)
  (hn:lj P E n ops Q B L (⟨i,some d,[],none⟩::recs) (bP ((d,Sc undef)::l) ds) (bz s)):lj P E n ops Q B (i::L) recs (bP l ds) (bz s):=
 ⟨_,ho,.skip ⟨j,want,g,.bool b,rfl,hj.1,dV hj.2.1,fun q=>by have:=hj.2.2;cases q;simp at this⟩ (lz hc.2) (by rw[hc.1];exact hn)⟩
theorem C0 {d j g:Nat} {op:Op} {want b:Bool} (ho:ops[i]?=some ⟨some d,op,ty,pos,af,some (j,want)⟩)
  (hj:(ops[j]?).bind (·.dst)=some g∧jx l g=some (Bo b)∧(b==want)=false) (hc:da ⟨some d,op,ty,pos,af,some (j,want)⟩=true∧Nat.blt d n=true)
  (hn:lj P E n ops Q B L recs (bP ((d,Sc undef)::l) ds) (bz s)):lj P E n ops Q B (i::L) recs (bP l ds) (bz s):=
 ⟨_,ho,.skip ⟨j,want,g,.bool b,rfl,hj.1,dV hj.2.1,fun q=>by have:=hj.2.2;cases q;simp at this⟩ (lz hc.2) (by rw[hc.1];exact hn)⟩
theorem oE {d j g:Nat} {op:Op} {want:Bool} (ho:ops[i]?=some ⟨some d,op,ty,pos,af,some (j,want)⟩)
  (hj:(ops[j]?).bind (·.dst)=some g∧jx l g=some (Sc undef)) (hc:da ⟨some d,op,ty,pos,af,some (j,want)⟩=false∧Nat.blt d n=true)
  (hn:lj P E n ops Q B L (⟨i,some d,[],none⟩::recs) (bP ((d,Sc undef)::l) ds) (bz s)):lj P E n ops Q B (i::L) recs (bP l ds) (bz s):=
 ⟨_,ho,.skip ⟨j,want,g,undef,rfl,hj.1,dV hj.2,by simp[undef]⟩ (lz hc.2) (by rw[hc.1];exact hn)⟩
def jH:List Rec→Bool
 | []=>true
 | r::rs=>r.nm.isNone&&jH rs
theorem dw:∀ {recs:List Rec},jH recs=true→∀ r,r∈recs→r.nm=none
 | [],_,r,hr=>by cases hr
 | a::rs,h,r,hr=>by
  simp only[jH,Bool.and_eq_true,Option.isNone_iff_eq_none] at h
  rcases List.mem_cons.1 hr with q|q
  ·subst q;exact h.1
  ·exact dw h.2 r q
mutual
theorem re {p q:Nat→Bool} (hpq:∀ k,p k=true→q k=true):∀ {v:AV},v.only p=true→v.only q=true
 | .any,_=>rfl
 | .oc,_=>rfl
 | .pv _,_=>rfl
 | .ptr _ _,h=>hpq _ h
 | .arr _ _,h=>hpq _ h
 | .sp _,_=>rfl
 | .fn f xs ys,h=>by simp only[AV.only,Bool.and_eq_true] at h ⊢;exact ⟨nk hpq h.1,nk hpq h.2⟩
 | .agg cs,h=>by simp only[AV.only] at h ⊢;exact nk hpq h
 | .eT cs,h=>by simp only[AV.only] at h ⊢;exact nk hpq h
 | .ln t v,h=>by simp only[AV.only] at h ⊢;exact re hpq h
theorem nk {p q:Nat→Bool} (hpq:∀ k,p k=true→q k=true):∀ {v:List AV},AV.only.jw p v=true→AV.only.jw q v=true
 | [],_=>rfl
 | x::xs,h=>by simp only[AV.only.jw,Bool.and_eq_true] at h ⊢;exact ⟨re hpq h.1,nk hpq h.2⟩
end
def sU (ks:List Nat):List Rec→Bool
 | []=>true
 | r::rs=>(match r.nm with
  | none=>true
  | some k=>!ks.any (Nat.beq k))&&sU ks rs
theorem qA {ks:List Nat}:∀ {recs:List Rec},sU ks recs=true→∀ r,r∈recs→∀ nm,r.nm=some nm→nm ∉ ks
 | a::rs,h,r,hr,nm,hn,hk=>by
  simp only[sU,Bool.and_eq_true] at h
  rcases List.mem_cons.1 hr with q|q
  ·subst q
   rw[hn] at h
   have h1:=h.1
   simp only[Bool.not_eq_true',List.any_eq_false,Bool.not_eq_true] at h1
   have:=h1 nm hk
   simp at this
  ·exact qA h.2 r q nm hn hk
theorem tJ:∀ {ks:List Nat} {j:Nat},j<ks.length→nth ks j∈ks
 | _::_,0,_=>by simp[nth]
 | _::ks,j+1,h=>by simp only[nth];exact List.mem_cons_of_mem _ (tJ (by simpa using h))
mutual
theorem um {ks:List Nat} {nm:Nat} (hn:nm ∉ ks):∀ {v:AV},v.only (below ks.length)=true→(v.eZ (nth ks)).dr nm=false
 | .any,_=>rfl
 | .oc,_=>rfl
 | .pv _,_=>rfl
 | .ptr j _,h=>by
  simp only[AV.only] at h
  simp only[AV.eZ,AV.dr]
  have:=tJ (ks:=ks) (lE.1 h)
  simp;intro q;subst q;exact hn this
 | .arr j _,h=>by
  simp only[AV.only] at h
  simp only[AV.eZ,AV.dr]
  have:=tJ (ks:=ks) (lE.1 h)
  simp;intro q;subst q;exact hn this
 | .sp _,_=>rfl
 | .fn f xs ys,h=>by simp only[AV.only,Bool.and_eq_true] at h;simp only[AV.eZ,AV.dr,na hn h.1,na hn h.2,Bool.or_self]
 | .agg cs,h=>by simp only[AV.only] at h;simp only[AV.eZ,AV.dr,na hn h]
 | .eT cs,h=>by simp only[AV.only] at h;simp only[AV.eZ,AV.dr,na hn h]
 | .ln t v,h=>by simp only[AV.only] at h;simp only[AV.eZ,AV.dr];exact um hn h
theorem na {ks:List Nat} {nm:Nat} (hn:nm ∉ ks):∀ {v:List AV},AV.only.jw (below ks.length) v=true→AV.dr.ef nm (AV.eZ.kT (nth ks) v)=false
 | [],_=>rfl
 | x::xs,h=>by simp only[AV.only.jw,Bool.and_eq_true] at h;simp only[AV.eZ.kT,AV.dr.ef,um hn h.1,na hn h.2,Bool.or_self]
end
def kW (ops:Array Oper) (i:Nat) (s':List (Nat×be)) (recs:List Rec):Prop:=
 ∀ r,r∈fa ops recs i→∀ p,p∈r.rd→∃ e,cR s' p.1=some e∧e.le p.2
theorem eF {d:Nat} {x:Operand} {v:AV} (ho:ops[i]?=some ⟨some d,.assign x,ty,pos,af,none⟩) (hx:bD l x=some v) (hd:Nat.blt d n=true) (hs:kW ops i s recs) (hnm:jH recs=true)
  (hn:lj P E n ops Q B L recs (bP ((d,v)::l) ds) (bz s)):lj P E n ops Q B (i::L) recs (bP l ds) (bz s):=
 ⟨_,ho,.da (.inl rfl) rfl (.ev (v:=v) (by rw[← aC (ds:=ds) hx];exact sF x) (lz hd)
  ⟨fun r hr=>⟨fun p hp=>(let ⟨e,h1,h2⟩:=hs r hr p hp;⟨e,bG h1,h2⟩),fun nm q=>by rw[dw hnm r (List.mem_filter.1 hr).1] at q;cases q⟩,hn⟩) (fun r _ k hk=>by cases hk)⟩
theorem bR {t:TypeId} {x y:Operand} {k off m:Nat} {e:be} {v:AV} {c:List AV} [ht:lp P t m] (ho:ops[i]?=some ⟨none,.store t x y,ty,pos,af,none⟩)
  (h:bD l x=some (.ptr k off)∧cR s k=some e∧e.ui=true∧bD l y=some v∧v.eg=some c∧AV.iG c=true∧c.length=m∧Nat.ble (off+c.length) e.cells.length=true)
  (hnm:jH recs=true) (hn:∀ e',e.put off c=e'→kW ops i ((k,e')::s) recs∧lj P E n ops Q B L recs (bP l ds) (bz ((k,e')::s))):lj P E n ops Q B (i::L) recs (bP l ds) (bz s):=by
 obtain ⟨hx,hk,hea,hy,hc,h1,hm,hl⟩:=h
 have hl':=Nat.le_of_ble_eq_true hl
 obtain ⟨hst,hn⟩:=hn _ rfl
 refine ⟨_,ho,.da (.inl rfl) rfl (.store rfl rfl (aC hx) (bG hk) (sQ hea) (by rw[aC hy];exact hc) h1 (by rw[hm];exact ht.h) hl' (sR hea) ?_) (fun r hr k' _=>by rw[dw hnm r (List.mem_filter.1 hr).1];simp)⟩
 rw[put_eq hea hl']
 exact ⟨fun r hr=>⟨fun p hp=>(let ⟨e,h1,h2⟩:=hst r hr p hp;⟨e,bG h1,h2⟩),fun nm q=>by rw[dw hnm r (List.mem_filter.1 hr).1] at q;cases q⟩,hn⟩
theorem yz {d:Nat} {X:Type} {V:X→AV} {C:X→List be} {G:X→Prop} {H:AV→Prop} {f:Operand} {args:List Operand} {ts:Array TypeId} {fid:FuncId} {argsC first cap vs:List AV} {es:List be}
  {gd:Option (Nat×Bool)} (ho:ops[i]?=some ⟨some d,.call ⟨.value f,args.toArray,ts⟩,ty,pos,af,gd⟩) (hw:fA ops ⟨some d,.call ⟨.value f,args.toArray,ts⟩,ty,pos,af,gd⟩ (bP l ds)) (ks:List Nat) (hen:Enters P fid)
  (hC:SC P fid argsC (bz (dC 0 es)) (o9 V C G H)) (hk:kI E ds l s ks f args fid argsC es first cap vs) (hd:Nat.blt d n=true) (hnm:sU ks recs=true)
  (hx:∀ x,G x→(C x).length=ks.length∧iR (below ks.length) (C x)=true∧(V x).only (below ks.length)=true)
  (hpan:∀ v,H v→v.only (fun _=>false)=true∧∀ fr' σ',fr'.ds=ds→Q (.panic v) fr' σ')
  (hret:∀ x,G x→∀ v' s',(V x).eZ (nth ks)=v'→kH ks (jy (nth ks) (C x))++s=s'→kW ops i s' recs∧lj P E n ops Q B L recs (bP ((d,v')::l) ds) (bz s')) :
  lj P E n ops Q B (i::L) recs (bP l ds) (bz s):=by
 obtain ⟨hl,hat⟩:=nj hk.gs
 rw[fL] at hl
 have hcon:∀ j,(List.range ks.length).contains j=below ks.length j:=fun j=>by
  have h1:(List.range ks.length).contains j=decide (j<ks.length):=by
   by_cases q:j<ks.length<;>simp[q]
  rw[h1];simp only[below]
  by_cases q:j<ks.length
  ·simp[q,lE.2 q]
  ·have:Nat.blt j ks.length=false:=by
    cases h:Nat.blt j ks.length with
    | false=>rfl
    | true=>exact absurd (lE.1 h) q
   simp[q,this]
 have hconf:(List.range ks.length).contains=below ks.length:=funext hcon
 have hsome:∀ j,(bz (dC 0 es) j).isSome=true→j<ks.length:=fun j hj=>by
  cases q:bz (dC 0 es) j with
  | none=>rw[q] at hj;cases hj
  | some e=>
   obtain ⟨_,h2⟩:=eh q
   have:=(List.getElem?_eq_some_iff.1 h2).1
   simp at this;omega
 have hinj:∀ j j',(List.range ks.length).contains j=true→(List.range ks.length).contains j'=true→nth ks j=nth ks j'→j=j':=fun j j' hj hj' he=>mI hk.nd (by simpa using hj) (by simpa using hj') he
 have hat0:∀ j,(List.range ks.length).contains j=true→∃ e,bz (dC 0 es) j=some e:=fun j hj=>by
  have hj':j<es.length:=by simp at hj;omega
  exact ⟨_,by have:=lR (i:=0) (List.getElem?_eq_getElem hj');simpa using this⟩
 have hsame:∀ j,(List.range ks.length).contains j=true→(∃ cs,bz (dC 0 es) j=some (.box cs))∨((bP l ds).clear (nth ks j)∧
   (∀ k e,(List.range ks.length).any (fun i=>nth ks i==k)=false→bz s k=some e→AV.dr.ef (nth ks j) e.cells=false)∧E.fix (nth ks j)=none):=fun j hj=>by
  have hj':j<es.length:=by simp at hj;omega
  rcases sP hk.bx hk.fx (by simpa using hj) (List.getElem?_eq_getElem hj') with ⟨cs,hcs⟩|⟨q1,q2,q3,q4⟩
  ·exact .inl ⟨cs,by have:=lR (i:=0) (List.getElem?_eq_getElem hj');rw[hcs] at this;simpa using this⟩
  ·exact .inr ⟨eN q1 q2,fun k e hkl he=>ly q3 k e (wj hkl) he,q4⟩
 refine ⟨_,ho,.da hw rfl (.call (nth ks) (List.range ks.length) hen rfl (aC hk.f) (by rw[kG hk.a];exact hk.e) hC (fun j hj=>by simpa using hsome j hj) (fun j e hj=>?_)
   (fun j hj=>by obtain ⟨e,he⟩:=hat0 j hj;rw[he];rfl) (fun j j' hj hj' he=>mI hk.nd (hsome j hj) (hsome j' hj') he) (lz hd) (fun v σc hr=>?_) (fun v σc hr=>?_))
  (fun r hr k hk' q=>by
   obtain ⟨j,hj,rfl⟩:=List.mem_map.1 hk'
   exact qA hnm r (List.mem_filter.1 hr).1 _ q (tJ (by simpa using hj)))⟩
 ·obtain ⟨_,h2⟩:=eh hj
  exact hat j _ (by rw[lF,show j=j - 0 by omega,h2];rfl)
 ·rcases hr with ⟨x,hg,he,rfl⟩|⟨_,_,he,_⟩
  ·cases he
   obtain ⟨h1,h2,h3⟩:=hx x hg
   obtain ⟨hst,hn⟩:=hret x hg _ _ rfl rfl
   refine ⟨{ BH:=fun j e hj=>?_,val:=by rw[hconf];exact h3,inj:=hinj,same:=hsame },?_⟩
   ·obtain ⟨_,h4⟩:=eh hj
    have h5:=(List.getElem?_eq_some_iff.1 h4).1
    exact ⟨by simp;omega,by rw[hconf];exact qz h2 h4⟩
   ·have:after (bz s) (nth ks) (List.range ks.length) (List.range ks.length) (bz (dC 0 (C x)))=bz (kH ks (jy (nth ks) (C x))++s):=by
     funext k
     rw[wi (by rw[fL,h1]) hk.nd]
     simp only[after]
     cases hf:(List.range ks.length).find? (fun j=>nth ks j==k) with
     | some j=>
      have hj:=List.mem_of_find?_eq_some hf
      simp at hj
      simp only[lF]
      have:j<(C x).length:=by omega
      rw[List.getElem?_eq_getElem this]
      have h6:=lR (i:=0) (List.getElem?_eq_getElem this)
      simp at h6
      rw[h6]
     | none=>
      have:(List.range ks.length).any (fun j=>nth ks j==k)=false:=by
       rw[List.any_eq_false];intro j hj
       have:=List.find?_eq_none.1 hf j hj
       simpa using this
      simp[this]
    rw[this]
    refine ⟨fun r hr=>⟨fun p hp=>(let ⟨e,h1,h2⟩:=hst r hr p hp;⟨e,bG h1,h2⟩),fun nm q=>?_⟩,hn⟩
    have hnk:=qA hnm r (List.mem_filter.1 hr).1 nm q
    refine ⟨fun d' hd'=>?_,fun k hk' e he=>?_⟩
    ·cases hd'
     simp only[dz.gr,dz.put,if_true]
     exact um hnk h3
    ·obtain ⟨j,hj,rfl⟩:=List.mem_map.1 hk'
     have hj':j<ks.length:=by simpa using hj
     have hcl:j<(C x).length:=by omega
     rw[wi (by rw[fL,h1]) hk.nd] at he
     have hfd:(List.range ks.length).find? (fun j'=>nth ks j'==nth ks j)=some j:=by
      cases hf:(List.range ks.length).find? (fun j'=>nth ks j'==nth ks j) with
      | none=>have:=List.find?_eq_none.1 hf j (by simpa using hj');simp at this
      | some j2=>
       have h7:=List.find?_some hf
       have h8:=List.mem_of_find?_eq_some hf
       simp at h7 h8
       rw[mI hk.nd h8 hj' h7]
     rw[hfd] at he
     simp only[lF,List.getElem?_eq_getElem hcl,Option.map_some] at he
     injection he with he
     subst he
     have:=qz h2 (List.getElem?_eq_getElem hcl)
     generalize (C x)[j]=ce at this
     cases ce with
     | box cs=>exact na hnk this
     | arr _ _ cs=>exact lN _ _
     | app _ _ cs=>exact lN _ _
  ·cases he
 ·rcases hr with ⟨_,_,he,_⟩|⟨v',hh,he,rfl⟩
  ·cases he
  ·cases he
   obtain ⟨h1,h2⟩:=hpan v hh
   refine ⟨{ BH:=fun j e hj=>(by cases hj),val:=?_,inj:=hinj,same:=hsame },fun fr' σ' hds _ _=>?_⟩
   ·exact re (fun k hk=>by cases hk) h1
   ·rw[oB h1];exact h2 fr' σ' hds
end
end Go.Abs
end
section
namespace Go.Abs
structure rX where
 t:TypeId
 cells:List PV
def rX.av (p:rX):AV:=.ln p.t (.agg (p.cells.map .pv))
theorem rX.only (p:rX) (q:Nat→Bool):p.av.only q=true:=by simp[rX.av,AV.only,so]
inductive ay (α:Type) where
 | stuck
 | nl (p:rX)
 | ok (a:α)
namespace ay
variable {α β:Type}
def bind (x:ay α) (k:α→ay β):ay β:=
 match x with
 | .stuck=>.stuck
 | .nl v=>.nl v
 | .ok a=>k a
def br (b:Bool) (x y:ay α):ay α:=match b with|true=>x|false=>y
def gd (p:Prop) [Decidable p] (x:ay α):ay α:=if p then x else .stuck
def el (l:List β) (i:Int) (k:β→ay α):ay α:=if 0≤i then (match l[i.toNat]? with|some x=>k x|none=>.stuck) else .stuck
def some? (x:Option β) (k:β→ay α):ay α:=match x with|some x=>k x|none=>.stuck
def jn {X:Type} (j:X→ay α) (p:(X→ay α)→ay α):ay α:=p j
def iter {X:Type} (body:(X→ay α)→X→ay α):Nat→X→ay α
 | 0,_=>.stuck
 | n+1,x=>body (iter body n) x
theorem DV {b:Bool} {x y r:ay α} (hb:b=true) (h:br b x y=r):x=r:=by subst hb;exact h
theorem DY {b:Bool} {x y r:ay α} (hb:b=false) (h:br b x y=r):y=r:=by subst hb;exact h
theorem C1 {p:Prop} [Decidable p] {x r:ay α} (hr:r≠.stuck) (h:gd p x=r):p∧x=r:=by
 unfold gd at h
 split at h
 ·exact ⟨‹p›,h⟩
 ·exact absurd h.symm hr
theorem Eu {l:List β} {i:Int} {k:β→ay α} {r:ay α} (hr:r≠.stuck) (h:el l i k=r):∃ x,0≤i∧i<l.length∧l[i.toNat]?=some x∧k x=r:=by
 unfold el at h
 split at h
 ·rename_i h0
  split at h
  ·rename_i x hx
   have:=(List.getElem?_eq_some_iff.1 hx).1
   exact ⟨x,h0,by omega,hx,h⟩
  ·exact absurd h.symm hr
 ·exact absurd h.symm hr
theorem C2 {x:Option β} {k:β→ay α} {r:ay α} (hr:r≠.stuck) (h:some? x k=r):∃ y,x=some y∧k y=r:=by
 cases x with
 | none=>exact absurd h.symm hr
 | some y=>exact ⟨y,rfl,h⟩
end ay
open ay
def CT (P:Program) (f:FuncId) (args:List AV) (es:List be) {X:Type} (res:ay X) (V:X→AV) (C:X→List be):Prop:=
 ∀ r,res=r→r≠.stuck→SC P f args (bz (dC 0 es)) (o9 V C (fun x=>r=.ok x) (fun v=>∃ p,r=.nl p∧v=p.av))
section
variable {P:Program} {E:Env} {n:Nat} {ops:Array Oper} {Q:df} {rest:List Oper} {l:List (Nat×AV)} {ds:List (FuncId×List AV)} {s:List (Nat×be)}
 {ty:TypeId} {pos:String} {af:Array Edge}
theorem BM {f:FuncId} {fn:Func} {c:Code} {args:List AV} {es:List be} {X:Type} {res:ay X} {V:X→AV} {C:X→List be} (hf:P.funcs[f]?=some fn) (hb:fn.body=some c) (hn:Nat.ble args.length fn.ntmps=true)
  (h:∀ r,res=r→r≠.stuck→∀ E:Env,(∀ k,jS es k=true→E.fix k=none)→
   SW P E fn.ntmps c (mE P fn (o9 V C (fun x=>r=.ok x) (fun v=>∃ p,r=.nl p∧v=p.av))) (bP ((List.range args.length).zip args) []) (bz (dC 0 es))):CT P f args es res V C:=
 fun r hr hs=>BL hf hb hn (h r hr hs)
theorem cg {c:Operand} {x y:Code} {b:Bool} (hb:bD l c=some (Bo b)) (ht:b=true→SW P E n x Q (bP l ds) (bz s)) (hf:b=false→SW P E n y Q (bP l ds) (bz s)):SW P E n (.cond c x y) Q (bP l ds) (bz s):=
 BF (aC hb) ht hf
def rI (l G:List (Nat×AV)):List (Nat×AV)→Prop
 | []=>True
 | (i,_)::F=>jx l i=jx G i∧rI l G F
def sq (s G:List (Nat×be)):List (Nat×be)→Prop
 | []=>True
 | (i,_)::F=>cR s i=cR G i∧sq s G F
theorem vt {l:List (Nat×AV)} {i:Nat}:jO l i=(jx l i).getD .any:=by
 induction l with
 | nil=>rfl
 | cons a l ih=>
  obtain ⟨j,v⟩:=a
  simp only[jO,jx]
  by_cases q:i=j
  ·subst q;simp
  ·have:Nat.beq i j=false:=by
    cases h:Nat.beq i j with
    | false=>rfl
    | true=>exact absurd (Nat.eq_of_beq_eq_true h) q
   simp[this,q,ih]
theorem pa {l:List (Nat×be)} {i:Nat}:jF l i=cR l i:=by
 induction l with
 | nil=>rfl
 | cons a l ih=>
  obtain ⟨j,v⟩:=a
  simp only[jF,cR]
  by_cases q:i=j
  ·subst q;simp
  ·have:Nat.beq i j=false:=by
    cases h:Nat.beq i j with
    | false=>rfl
    | true=>exact absurd (Nat.eq_of_beq_eq_true h) q
   simp[this,q,ih]
theorem np {l G:List (Nat×AV)}:∀ {F:List (Nat×AV)},rI l G F→∀ p∈F,jO l p.1=jO G p.1
 | [],_,p,hp=>by cases hp
 | (i,v)::F,h,p,hp=>by
  rcases List.mem_cons.1 hp with q|q
  ·subst q;rw[vt,vt,h.1]
  ·exact np h.2 p q
theorem pb {s G:List (Nat×be)}:∀ {F:List (Nat×be)},sq s G F→∀ p∈F,jF s p.1=jF G p.1
 | [],_,p,hp=>by cases hp
 | (i,v)::F,h,p,hp=>by
  rcases List.mem_cons.1 hp with q|q
  ·subst q;rw[pa,pa,h.1]
  ·exact pb h.2 p q
theorem yA {c:Code} (l':List (Nat×AV)) (s':List (Nat×be)) (h1:rI l l' l') (h2:sq s s' s') (h:SW P E n c Q (bP l' ds) (bz s')):SW P E n c Q (bP l ds) (bz s):=
 yo (wc (np h1)) (we (pb h2)) h
theorem BN {X:Type} {x y:Code} (F:X→List (Nat×AV)) (H:X→List (Nat×be)) (G:X→Prop)
  (hy:∀ v,G v→SW P E n y Q (bP (F v) ds) (bz (H v)))
  (hx:∀ K:dz→bX→Prop,(∀ v l s,G v→rI l (F v) (F v)→sq s (H v) (H v)→K (bP l ds) (bz s))→SW P E n x (ti K Q) (bP l ds) (bz s)):SW P E n (.seq x y) Q (bP l ds) (bz s):=
 Ak (hx _ fun v _ _ hg h1 h2=>yA (F v) (H v) h1 h2 (hy v hg))
theorem zq {X R:Type} {c:Code} (F:X→List (Nat×AV)) (H:X→List (Nat×be)) (body:(X→ay R)→X→ay R) (r:ay R) (m:Nat) (v:X) (hr:r≠.stuck) (h0:iter body m v=r)
  (h1:rI l (F v) (F v)) (h2:sq s (H v) (H v))
  (hx:∀ (next:X→ay R) (v:X) (K:dz→bX→Prop),(∀ v l s,next v=r→rI l (F v) (F v)→sq s (H v) (H v)→K (bP l ds) (bz s))→body next v=r→SW P E n c (ti K Q) (bP (F v) ds) (bz (H v))) :
  SW P E n (.loop c) Q (bP l ds) (bz s):=by
 refine yA (F v) (H v) h1 h2 (BG (fun k fr σ=>∃ v,iter body k v=r∧fr.le (bP (F v) ds)∧∀ j e,bz (H v) j=some e→σ j=some e) m ⟨v,h0,⟨fun _=>.inl rfl,rfl⟩,fun _ _ h=>h⟩ ?_)
 rintro k fr σ ⟨v,hv,hle,hsub⟩
 cases k with
 | zero=>exact absurd hv.symm hr
 | succ k=>
  refine yo hle hsub (hx (iter body k) v _ ?_ hv)
  intro v' l' s' hv' hf hs
  exact ⟨k,Nat.lt_succ_self k,v',hv',wc (np hf),we (pb hs)⟩
end
end Go.Abs
end
section
namespace Go.Abs
open ay
theorem vu {α:Type} {f:α→List PV} {sz:Nat} (hf:∀ x,(f x).length=sz):∀ {l:List α} {i:Nat} {x:α},l[i]?=some x→
  (l.flatMap f).drop (i*sz)=f x++(l.flatMap f).drop ((i+1)*sz):=by
 intro l
 induction l with
 | nil=>intro i x h;simp at h
 | cons a l ih=>
  intro i x h
  cases i with
  | zero=>
   simp at h;subst h
   rw[List.flatMap_cons,Nat.zero_mul,List.drop_zero,Nat.zero_add,Nat.one_mul,← hf a,List.drop_left]
  | succ i=>
   have h1:=ih (i:=i) (x:=x) (by simpa using h)
   have h2:∀ j,(f a++l.flatMap f).drop ((j+1)*sz)=(l.flatMap f).drop (j*sz):=fun j=>by
    rw[Nat.succ_mul,Nat.add_comm,← hf a,← List.drop_drop,List.drop_left]
   rw[List.flatMap_cons,h2,h2,h1]
theorem fM {α:Type} {f:α→List PV} {sz:Nat} (hf:∀ x,(f x).length=sz):∀ (l:List α),(l.flatMap f).length=l.length*sz
 | []=>by simp
 | a::l=>by simp[fM hf l,hf a,Nat.succ_mul,Nat.add_comm]
section
variable {P:Program} {l:List (Nat×AV)} {ds:List (FuncId×List AV)} {s:List (Nat×be)}
theorem hP.two {op:Op} {v:AV} {k j:Nat} {e e':be} (hk:cR s k=some e) (hj:cR s j=some e') (h:eD P op (bP l ds) [(k,e),(j,e')] v):hP P op l ds s v [(k,e),(j,e')]:=
 ⟨h,fun p hp=>by
  simp at hp
  rcases hp with q|q
  ·subst q;exact ⟨_,bG hk,be.le_refl _⟩
  ·subst q;exact ⟨_,bG hj,be.le_refl _⟩⟩
theorem eD.wZ {op:Op} {fr:dz} {rd:List (Nat×be)} {v v':AV} (h:eD P op fr rd v) (hle:v.le v'):eD P op fr rd v':=fun o ho g ev w hG hv hr=>
 let ⟨c,h1,h2⟩:=h o ho g ev w hG hv hr;⟨c,h1,hle g c h2⟩
theorem hP.wZ {op:Op} {v v':AV} {rd:List (Nat×be)} (h:hP P op l ds s v rd) (hle:v.le v'):hP P op l ds s v' rd:=⟨h.h.wZ hle,h.r⟩
theorem AV.DZ:(Sc (.pointer none)).le (.pv (.pt none)):=fun g c h=>by rw[h.cN];exact .pv .Aa
theorem C3 {x:Operand} {k m sz:Nat} {el:TypeId} {cells:List PV} (hx:bD l x=some (.arr k m)) (hk:cR s k=some (.app el sz cells)) (hz:Nat.blt 0 sz=true) (hn:cells.length=m*sz) :
  hP P (.move x) l ds s (.pv (.sl m cells)) [(k,.app el sz cells)]:=.on hk (vP (aC hx) (by simpa[Nat.blt_eq] using hz) hn)
theorem Au {t:TypeId} {x:Operand} {k j off m sz:Nat} {el:TypeId} {cells:List PV} {e:be} [ha:gj P t false] (hx:bD l x=some (.ptr k off)) (hk:cR s k=some e)
  (hv:e.cells[off]?=some (.arr j m)) (hj:cR s j=some (.app el sz cells)) (hz:Nat.blt 0 sz=true) (hn:cells.length=m*sz) :
  hP P (.load t x) l ds s (.pv (.sl m cells)) [(k,e),(j,.app el sz cells)]:=.two hk hj (vQ ha.h (aC hx) hv (by simpa[Nat.blt_eq] using hz) hn)
theorem eE {α:Type} {f:α→List PV} {Cs:List α→List PV} {t e:TypeId} {sz m:Nat} {x ix:Operand} {k:IntKind} {i:Int} {xs:List α} {a:α} [ht:yw P t e sz]
  (lq:∀ l,Cs l=l.flatMap f) (hf:∀ x,(f x).length=sz) (h0:0≤i) (h1:i<xs.length) (ha:xs[i.toNat]?=some a)
  (hx:bD l x=some (.pv (.sl m (Cs xs)))) (hm:m=xs.length) (hi:bD l ix=some (Sc (.int k i))) :
  hP P (.indexAddr t x ix) l ds s (.sp (f a++(xs.flatMap f).drop ((i.toNat+1)*sz))) []:=by
 subst hm
 rw[lq] at hx
 refine BJ hx hi h0 h1 ?_ (by rw[vu hf ha])
 rw[fM hf];exact Nat.mul_le_mul_right _ (by omega)
theorem sr {parts:List (Nat×Operand)} {pv:List (Nat×AV)} (h:parts.mapM (fun p=>(bD l p.2).map fun v=>(p.1,v))=some pv):(parts.map fun p=>(p.1,(bP l ds).val p.2))=pv:=by
 have key:∀ (ps:List (Nat×Operand)) (pv:List (Nat×AV)),ps.mapM (fun p=>(bD l p.2).map fun v=>(p.1,v))=some pv→(ps.map fun p=>(p.1,(bP l ds).val p.2))=pv:=by
  intro ps
  induction ps with
  | nil=>intro pv h;simp at h;simp[h]
  | cons p ps ih=>
   intro pv h
   rw[List.mapM_cons] at h
   cases hv:bD l p.2 with
   | none=>simp[hv] at h
   | some v=>
    cases hr:ps.mapM (fun p=>(bD l p.2).map fun v=>(p.1,v)) with
    | none=>simp[hv,hr] at h
    | some r=>
     simp[hv,hr] at h
     subst h
     simp[ih r hr,aC (ds:=ds) hv]
 exact key parts pv h
def mJ (k:Nat):List (Nat×be)→List (Nat×be)
 | []=>[]
 | (j,e)::s=>match Nat.beq j k with
  | true=>mJ k s
  | false=>(j,e)::mJ k s
theorem nR {k:Nat}:∀ {s:List (Nat×be)},bz (mJ k s)=(bz s).del k
 | []=>by funext j;simp[mJ,bz,jF,bX.del]
 | (i,e)::s=>by
  have ih:=nR (k:=k) (s:=s)
  funext j
  have ihj:=congrFun ih j
  simp only[bz,bX.del] at ihj
  simp only[mJ]
  split
  ·rename_i q
   have hik:=Nat.eq_of_beq_eq_true q
   subst hik
   simp only[bz,jF,bX.del]
   rw[ihj]
   split<;>simp_all
  ·rename_i q
   have hik:i≠k:=fun h=>by subst h;simp at q
   simp only[bz,jF,bX.del]
   by_cases hj:j=i
   ·subst hj;simp[hik]
   ·simp only[hj,if_false];exact ihj
theorem BO {xt yt el:TypeId} {fr:dz} {x y:Operand} {o:Option (List PV)} (ht:P.underlying xt=some (.pointer el)) (hx:fr.val x=.pv (.pt o)) (hy:fr.val y=Sc (.pointer none)) :
  eD P (.binOp .eql xt x y yt) fr [] (Bo o.isNone):=by
 intro o' ho g ev w _ hv _
 have q1:=hv x (by simp[Op.operands]);rw[hx] at q1
 have q2:=hv y (by simp[Op.operands]);rw[hy] at q2
 generalize hq:ev x=c at q1
 cases q1 with
 | pv q1=>cases q1 with
  | Aa=>
   refine ⟨.bool true,?_,.pv (.sc _)⟩
   simp only[execOp,ho,hq,q2.cN,binOp,Sem.run_bind,tg,Sem.run_pure,Result.andThen_ok];simp[Op.equal,Op.maxDepth,pK ht 9999]
  | z8=>
   refine ⟨.bool false,?_,.pv (.sc _)⟩
   simp only[execOp,ho,hq,q2.cN,eqGuard,binOp];simp[Op.equal,Op.maxDepth,pL ht 9999]
theorem BP {xt yt el:TypeId} {fr:dz} {x y:Operand} {o:Option (List PV)} (ht:P.underlying xt=some (.pointer el)) (hx:fr.val x=.pv (.pt o)) (hy:fr.val y=Sc (.pointer none)) :
  eD P (.binOp .neq xt x y yt) fr [] (Bo o.isSome):=by
 intro o' ho g ev w _ hv _
 have q1:=hv x (by simp[Op.operands]);rw[hx] at q1
 have q2:=hv y (by simp[Op.operands]);rw[hy] at q2
 generalize hq:ev x=c at q1
 cases q1 with
 | pv q1=>cases q1 with
  | Aa=>
   refine ⟨.bool false,?_,.pv (.sc _)⟩
   simp only[execOp,ho,hq,q2.cN,binOp,Sem.run_bind,tg,Sem.run_pure,Result.andThen_ok];simp[Op.equal,Op.maxDepth,pK ht 9999]
  | z8=>
   refine ⟨.bool true,?_,.pv (.sc _)⟩
   simp only[execOp,ho,hq,q2.cN,eqGuard,binOp];simp[Op.equal,Op.maxDepth,pL ht 9999]
theorem Av {fr:dz} {x:Operand} {c:List PV} (hx:fr.val x=.pv (.pt (some c))):eD P (.nilCheck x) fr [] (.sp c):=by
 intro o ho g ev w _ hv _
 have h1:=hv x (by simp[Op.operands]);rw[hx] at h1
 generalize hq:ev x=c at h1
 cases h1 with
 | pv h1=>cases h1 with
  | z8 b ys off cells h hl hc=>exact ⟨_,by simp[execOp,ho,hq],.sp off h hl hc⟩
theorem Aw {xt yt el:TypeId} {x y:Operand} {o:Option (List PV)} [ht:jC P xt (.pointer el)] (hx:bD l x=some (.pv (.pt o))) (hy:bD l y=some (Sc (.pointer none))) :
  hP P (.binOp .eql xt x y yt) l ds s (Bo o.isNone) []:=.of (BO ht.h (aC hx) (aC hy))
theorem Ax {xt yt el:TypeId} {x y:Operand} {o:Option (List PV)} [ht:jC P xt (.pointer el)] (hx:bD l x=some (.pv (.pt o))) (hy:bD l y=some (Sc (.pointer none))) :
  hP P (.binOp .neq xt x y yt) l ds s (Bo o.isSome) []:=.of (BP ht.h (aC hx) (aC hy))
theorem BQ {x:Operand} {c:List PV} (hx:bD l x=some (.pv (.pt (some c)))):hP P (.nilCheck x) l ds s (.sp c) []:=.of (Av (aC hx))
theorem cx {c a b:Operand} {v:AV} {t:Bool} (ht:t=true) (hc:bD l c=some (Bo t)) (ha:bD l a=some v):hP P (.pick c a b) l ds s v []:=by subst ht;exact tI hc ha
theorem ct {c a b:Operand} {v:AV} {t:Bool} (ht:t=false) (hc:bD l c=some (Bo t)) (hb:bD l b=some v):hP P (.pick c a b) l ds s v []:=by subst ht;exact dj hc hb
theorem iS {xt yt:TypeId} {x y:Operand} {k:IntKind} {a b:Int} (hx:bD l x=some (Sc (.int k a))) (hy:bD l y=some (Sc (.int k b))):hP P (.binOp .add xt x y yt) l ds s (Sc (.int k (k.wrap (a+b)))) []:=
 .of (yl (aC hx) (aC hy))
theorem sV {xt yt:TypeId} {x y:Operand} {k:IntKind} {a b:Int} (hx:bD l x=some (Sc (.int k a))) (hy:bD l y=some (Sc (.int k b))):hP P (.binOp .sub xt x y yt) l ds s (Sc (.int k (k.wrap (a - b)))) []:=
 .of (ym (aC hx) (aC hy))
theorem C4 {xt yt:TypeId} {x y:Operand} {k:IntKind} {a b:Int} (hx:bD l x=some (Sc (.int k a))) (hy:bD l y=some (Sc (.int k b))):hP P (.binOp .mul xt x y yt) l ds s (Sc (.int k (k.wrap (a*b)))) []:=
 .of (BB (aC hx) (aC hy))
theorem lG {a b:TypeId} {x:Operand} {k k':IntKind} {v:Int} [hs:jC P a (.int k')] [ht:jC P b (.int k)] (hx:bD l x=some (Sc (.int k' v))):hP P (.convert a b x) l ds s (Sc (.int k (k.wrap v))) []:=
 .of (xQ hs.h ht.h (aC hx))
end
section
variable {P:Program} {E:Env} {n:Nat} {ops:Array Oper} {Q:df} {rest:List Oper} {l:List (Nat×AV)} {ds:List (FuncId×List AV)} {s:List (Nat×be)}
 {ty:TypeId} {pos:String} {af:Array Edge}
theorem D0 {d j g:Nat} {op:Op} {v:AV} {rd:List (Nat×be)} {want b:Bool} (hb:b=want) (hj:(ops[j]?).bind (·.dst)=some g∧jx l g=some (Bo b))
  (h:hP P op l ds s v rd) (hd:Nat.blt d n=true) (hn:SL P E n ops Q rest (bP ((d,v)::l) ds) (bz s)):SL P E n ops Q (⟨some d,op,ty,pos,af,some (j,want)⟩::rest) (bP l ds) (bz s):=by
 subst hb;exact CX hj h hd hn
theorem D1 {d j g:Nat} {op:Op} {want b:Bool} (hb:b = !want) (hj:(ops[j]?).bind (·.dst)=some g∧jx l g=some (Bo b)) (hd:Nat.blt d n=true)
  (hn:SL P E n ops Q rest (bP ((d,Sc undef)::l) ds) (bz s)):SL P E n ops Q (⟨some d,op,ty,pos,af,some (j,want)⟩::rest) (bP l ds) (bz s):=by
 subst hb;exact DN ⟨hj.1,hj.2,by cases want<;>rfl⟩ hd hn
theorem Ay {d:Nat} {t e:TypeId} {m sz:Nat} {parts:List (Nat×Operand)} {zs:List Value} {pl:List (Nat×Nat)} {pv:List (Nat×AV)} {cells:List PV} [ht:jR P t m e sz zs pl] (nm:Nat) (hE:E.fix nm=none)
  (h:parts.mapM (fun p=>(bD l p.2).map fun v=>(p.1,v))=some pv∧kS pl (zs.map fun v=>.pv (.sc v)) pv=some (cells.map .pv)∧cells.length=m*sz∧Nat.ble m 1000=true)
  (hm:kq nm l=false∧iO nm ds=false∧mz nm s=false) (hd:Nat.blt d n=true)
  (hn:SL P E n ops Q rest (bP ((d,.arr nm m)::l) ds) (bz ((nm,.app e sz cells)::s))):SL P E n ops Q (⟨some d,.buildSlice t m parts.toArray,ty,pos,af,none⟩::rest) (bP l ds) (bz s):=by
 refine hQ rfl (vZ (th nm ht.h ?_ h.2.2.1 (Nat.le_trans (Nat.le_of_ble_eq_true h.2.2.2) (by simp[maxLen]))) (eN hm.1 hm.2.1) (iP hm.2.2) hE (lz hd) hn)
 rw[sr h.1];exact h.2.1
end
end Go.Abs
end
section
namespace Go.Abs
open ay
section
variable {P:Program} {E:Env} {n:Nat} {ops:Array Oper} {Q:df} {B:List Rec→dz→bX→Prop} {i:Nat} {L:List Nat} {recs:List Rec} {l:List (Nat×AV)} {ds:List (FuncId×List AV)} {s:List (Nat×be)}
 {ty:TypeId} {pos:String} {af:Array Edge}
theorem cn {d j g:Nat} {op:Op} {v:AV} {rd:List (Nat×be)} {want b:Bool} (hb:b=want) (ho:ops[i]?=some ⟨some d,op,ty,pos,af,some (j,want)⟩)
  (hj:(ops[j]?).bind (·.dst)=some g∧jx l g=some (Bo b)) (h:hP P op l ds s v rd)
  (hc:da ⟨some d,op,ty,pos,af,some (j,want)⟩=false∧Nat.blt d n=true∧uk ops i v rd recs=true)
  (hn:lj P E n ops Q B L (⟨i,some d,rd,none⟩::recs) (bP ((d,v)::l) ds) (bz s)):lj P E n ops Q B (i::L) recs (bP l ds) (bz s):=by
 subst hb;exact CZ ho hj h hc hn
theorem cl {d j g:Nat} {op:Op} {want b:Bool} (hb:b = !want) (ho:ops[i]?=some ⟨some d,op,ty,pos,af,some (j,want)⟩)
  (hj:(ops[j]?).bind (·.dst)=some g∧jx l g=some (Bo b)) (hc:da ⟨some d,op,ty,pos,af,some (j,want)⟩=false∧Nat.blt d n=true)
  (hn:lj P E n ops Q B L (⟨i,some d,[],none⟩::recs) (bP ((d,Sc undef)::l) ds) (bz s)):lj P E n ops Q B (i::L) recs (bP l ds) (bz s):=by
 subst hb;exact DU ho ⟨hj.1,hj.2,by cases want<;>rfl⟩ hc hn
theorem rY {d j g:Nat} {op:Op} {want b:Bool} (hb:b = !want) (ho:ops[i]?=some ⟨some d,op,ty,pos,af,some (j,want)⟩)
  (hj:(ops[j]?).bind (·.dst)=some g∧jx l g=some (Bo b)) (hc:da ⟨some d,op,ty,pos,af,some (j,want)⟩=true∧Nat.blt d n=true)
  (hn:lj P E n ops Q B L recs (bP ((d,Sc undef)::l) ds) (bz s)):lj P E n ops Q B (i::L) recs (bP l ds) (bz s):=by
 subst hb;exact C0 ho ⟨hj.1,hj.2,by cases want<;>rfl⟩ hc hn
theorem bo {id:Nat} {fr:dz} {σ:bX} (L:List Nat) (hm:P.follows .mixedOrders=true) (hchk:Et ops L=true) (h:DW P E n ops Q L [] fr σ):SW P E n (.region id ops true) Q fr σ:=BI L hm hchk h
end
theorem jT {α β:Type} {x:ay α} {k:α→ay β} {r:ay β} (hr:r≠.stuck) (h:ay.bind x k=r):x≠.stuck∧(∀ a,x=.ok a→k a=r)∧∀ p,x=.nl p→r=.nl p:=by
 cases x with
 | stuck=>exact absurd h.symm hr
 | nl p=>exact ⟨by simp,fun _ q=>by simp at q,fun q hq=>by cases hq;exact h.symm⟩
 | ok a=>exact ⟨by simp,fun b q=>by cases q;exact h,fun _ q=>by simp at q⟩
section
variable {P:Program} {E:Env} {n:Nat} {ops:Array Oper} {Q:df} {rest:List Oper} {l:List (Nat×AV)} {ds:List (FuncId×List AV)} {s:List (Nat×be)}
 {ty:TypeId} {pos:String} {af:Array Edge}
theorem xd {o:Oper} {X R:Type} {res:ay X} {kk:X→ay R} {r:ay R} {V V':X→AV} {C:X→List be} {C':X→List (Nat×be)} {f:Operand} {args:List Operand} {ts:Array TypeId} {fid:FuncId}
  {argsC first cap vs:List AV} {es:List be} {next:dz→bX→Prop} (hr:r≠.stuck) (h:ay.bind res kk=r) {l':List (Nat×AV)} (hwk:(bP l ds).le (bP l' ds)) (ks:List Nat) (hen:Enters P fid) (ho:o.op=.call ⟨.value f,args.toArray,ts⟩)
  (hC:CT P fid argsC es res V C) (hk:kI E ds l s ks f args fid argsC es first cap vs l') (hd:∀ d,o.dst=some d→d<n)
  (hx:∀ x,(C x).length=ks.length∧iR (below ks.length) (C x)=true∧(V x).only (below ks.length)=true)
  (hV:∀ x,(V x).eZ (nth ks)=V' x∧kH ks (jy (nth ks) (C x))=C' x)
  (hpan:∀ p fr σ,fr.ds=ds→r=.nl p→Q (.panic p.av) fr σ)
  (hret:∀ x,kk x=r→next ((bP l' ds).gr o.dst (V' x)) (bz (C' x++s))):Step P E n Q o (bP l ds) (bz s) next:=by
 obtain ⟨hns,hok,hp⟩:=jT hr h
 refine uh hwk ks hen ho (hC res rfl hns) hk hd (fun x _=>hx x) (fun x hg=>?_) (fun v hv=>?_)
 ·have:=hret x (hok x hg)
  rw[← (hV x).1,← (hV x).2] at this;exact this
 ·obtain ⟨p,hp1,rfl⟩:=hv
  exact ⟨p.only _,hpan p _ _ rfl (hp p hp1)⟩
theorem yB {o:Oper} {X R:Type} {res:ay X} {kk:X→ay R} {r:ay R} {V V':X→AV} {C:X→List be} {C':X→List (Nat×be)} {f:Operand} {args:List Operand} {ts:Array TypeId} {fid:FuncId}
  {argsC first cap vs:List AV} {es:List be} {next:dz→bX→Prop} (hr:r≠.stuck) (h:ay.bind res kk=r) (ks:List Nat) (hen:Enters P fid) (ho:o.op=.call ⟨.value f,args.toArray,ts⟩)
  (hC:CT P fid argsC es res V C) (hk:kI E ds l s ks f args fid argsC es first cap vs) (hd:∀ d,o.dst=some d→d<n)
  (hx:∀ x,(C x).length=ks.length∧iR (below ks.length) (C x)=true∧(V x).only (below ks.length)=true)
  (hV:∀ x,(V x).eZ (nth ks)=V' x∧kH ks (jy (nth ks) (C x))=C' x)
  (hpan:∀ p fr σ,fr.ds=ds→r=.nl p→Q (.panic p.av) fr σ)
  (hret:∀ x,kk x=r→next ((bP l ds).gr o.dst (V' x)) (bz (C' x++s))):Step P E n Q o (bP l ds) (bz s) next:=
 xd hr h ⟨fun _=>.inl rfl,rfl⟩ ks hen ho hC hk hd hx hV hpan hret
theorem iT {d:Nat} {X R:Type} {res:ay X} {kk:X→ay R} {r:ay R} {V V':X→AV} {C:X→List be} {C':X→List (Nat×be)} {f:Operand} {args:List Operand} {ts:Array TypeId} {fid:FuncId}
  {argsC first cap vs:List AV} {es:List be} (hr:r≠.stuck) (h:ay.bind res kk=r) (ks:List Nat) (hen:Enters P fid)
  (hC:CT P fid argsC es res V C) (hk:kI E ds l s ks f args fid argsC es first cap vs) (hd:Nat.blt d n=true)
  (hx:∀ x,(C x).length=ks.length∧iR (below ks.length) (C x)=true∧(V x).only (below ks.length)=true)
  (hV:∀ x,(V x).eZ (nth ks)=V' x∧kH ks (jy (nth ks) (C x))=C' x)
  (hpan:∀ p fr σ,fr.ds=ds→r=.nl p→Q (.panic p.av) fr σ)
  (hret:∀ x,kk x=r→SL P E n ops Q rest (bP ((d,V' x)::l) ds) (bz (C' x++s))) :
  SL P E n ops Q (⟨some d,.call ⟨.value f,args.toArray,ts⟩,ty,pos,af,none⟩::rest) (bP l ds) (bz s):=
 hQ rfl (yB hr h ks hen rfl hC hk (lz hd) hx hV hpan hret)
theorem C5 {d:Nat} {X R:Type} {res:ay X} {kk:X→ay R} {r:ay R} {V V':X→AV} {C:X→List be} {C':X→List (Nat×be)} {f:Operand} {args:List Operand} {ts:Array TypeId} {fid:FuncId}
  {argsC first cap vs:List AV} {es:List be} (l':List (Nat×AV)) (hwk:rI l l' l') (hr:r≠.stuck) (h:ay.bind res kk=r) (ks:List Nat) (hen:Enters P fid)
  (hC:CT P fid argsC es res V C) (hk:kI E ds l s ks f args fid argsC es first cap vs l') (hd:Nat.blt d n=true)
  (hx:∀ x,(C x).length=ks.length∧iR (below ks.length) (C x)=true∧(V x).only (below ks.length)=true)
  (hV:∀ x,(V x).eZ (nth ks)=V' x∧kH ks (jy (nth ks) (C x))=C' x)
  (hpan:∀ p fr σ,fr.ds=ds→r=.nl p→Q (.panic p.av) fr σ)
  (hret:∀ x,kk x=r→SL P E n ops Q rest (bP ((d,V' x)::l') ds) (bz (C' x++s))) :
  SL P E n ops Q (⟨some d,.call ⟨.value f,args.toArray,ts⟩,ty,pos,af,none⟩::rest) (bP l ds) (bz s):=
 hQ rfl (xd hr h (wc (np hwk)) ks hen rfl hC hk (lz hd) hx hV hpan hret)
theorem Az {d j g:Nat} {want b:Bool} {X R:Type} {res:ay X} {kk:X→ay R} {r:ay R} {V V':X→AV} {C:X→List be} {C':X→List (Nat×be)} {f:Operand} {args:List Operand} {ts:Array TypeId} {fid:FuncId}
  {argsC first cap vs:List AV} {es:List be} (hb:b=want) (hj:(ops[j]?).bind (·.dst)=some g∧jx l g=some (Bo b)) (hr:r≠.stuck) (h:ay.bind res kk=r) (ks:List Nat) (hen:Enters P fid)
  (hC:CT P fid argsC es res V C) (hk:kI E ds l s ks f args fid argsC es first cap vs) (hd:Nat.blt d n=true)
  (hx:∀ x,(C x).length=ks.length∧iR (below ks.length) (C x)=true∧(V x).only (below ks.length)=true)
  (hV:∀ x,(V x).eZ (nth ks)=V' x∧kH ks (jy (nth ks) (C x))=C' x)
  (hpan:∀ p fr σ,fr.ds=ds→r=.nl p→Q (.panic p.av) fr σ)
  (hret:∀ x,kk x=r→SL P E n ops Q rest (bP ((d,V' x)::l) ds) (bz (C' x++s))) :
  SL P E n ops Q (⟨some d,.call ⟨.value f,args.toArray,ts⟩,ty,pos,af,some (j,want)⟩::rest) (bP l ds) (bz s):=by
 subst hb
 exact tX rfl hj.1 (dV hj.2) (lz hd) (fun _=>yB hr h ks hen rfl hC hk (lz hd) hx hV hpan hret) (fun q=>absurd rfl q)
end
section
variable {P:Program} {E:Env} {n:Nat} {ops:Array Oper} {Q:df} {B:List Rec→dz→bX→Prop} {i:Nat} {L:List Nat} {recs:List Rec} {l:List (Nat×AV)} {ds:List (FuncId×List AV)} {s:List (Nat×be)}
 {ty:TypeId} {pos:String} {af:Array Edge}
theorem cS {d:Nat} {X R:Type} {res:ay X} {kk:X→ay R} {r:ay R} {V V':X→AV} {C:X→List be} {C':X→List (Nat×be)} {f:Operand} {args:List Operand} {ts:Array TypeId} {fid:FuncId}
  {argsC first cap vs:List AV} {es:List be} {gd:Option (Nat×Bool)} (ho:ops[i]?=some ⟨some d,.call ⟨.value f,args.toArray,ts⟩,ty,pos,af,gd⟩)
  (hw:fA ops ⟨some d,.call ⟨.value f,args.toArray,ts⟩,ty,pos,af,gd⟩ (bP l ds)) (hr:r≠.stuck) (h:ay.bind res kk=r) (ks:List Nat) (hen:Enters P fid)
  (hC:CT P fid argsC es res V C) (hk:kI E ds l s ks f args fid argsC es first cap vs) (hd:Nat.blt d n=true) (hnm:sU ks recs=true)
  (hx:∀ x,(C x).length=ks.length∧iR (below ks.length) (C x)=true∧(V x).only (below ks.length)=true)
  (hV:∀ x,(V x).eZ (nth ks)=V' x∧kH ks (jy (nth ks) (C x))=C' x)
  (hpan:∀ p fr σ,fr.ds=ds→r=.nl p→Q (.panic p.av) fr σ)
  (hret:∀ x,kk x=r→kW ops i (C' x++s) recs∧lj P E n ops Q B L recs (bP ((d,V' x)::l) ds) (bz (C' x++s))):lj P E n ops Q B (i::L) recs (bP l ds) (bz s):=by
 obtain ⟨hns,hok,hp⟩:=jT hr h
 refine yz ho hw ks hen (hC res rfl hns) hk hd hnm (fun x _=>hx x) (fun v hv=>?_) (fun x hg v' s' hv hs=>?_)
 ·obtain ⟨p,hp1,rfl⟩:=hv
  exact ⟨p.only _,fun fr' σ' hds=>hpan p _ _ hds (hp p hp1)⟩
 ·have:=hret x (hok x hg)
  rw[← (hV x).1,← (hV x).2] at this
  subst hv hs;exact this
theorem bF {o:Oper} {fr:dz} (h:o.guard=none):fA ops o fr:=.inl h
theorem vw {o:Oper} {j g:Nat} {want b:Bool} (hb:b=want) (h:o.guard=some (j,want)) (hj:(ops[j]?).bind (·.dst)=some g∧jx l g=some (Bo b)):fA ops o (bP l ds):=by
 subst hb;exact .inr ⟨j,b,g,h,hj.1,dV hj.2⟩
end
theorem wo {P:Program} {fn:Func} {X:Type} {V:X→AV} {C:X→List be} {r:ay X} {p:rX} {fr:dz} {σ:bX} (hd:fr.ds=[]) (h:r=.nl p) :
  mE P fn (o9 V C (fun x=>r=.ok x) (fun v=>∃ p,r=.nl p∧v=p.av)) (.panic p.av) fr σ:=xV hd ⟨p,h,rfl⟩
end Go.Abs
end
section
namespace Go.Abs
open ay
theorem Rel.tK {E:Env} {g:Gh} {σ:bX} {w:World} (h:Rel E g σ w) {nm sz:Nat} {el:TypeId} (hc:σ.clear nm) (hf:E.fix nm=none) :
  Rel E (g.unbind nm) (σ.set nm (.app el sz [])) w:=by
 have hle:=je.unbind g nm
 have hρ:∀ j,j≠nm→(g.unbind nm).ρ j=g.ρ j:=fun j q=>by simp[Gh.unbind,q]
 have hρn:(g.unbind nm).ρ nm=none:=by simp[Gh.unbind]
 have hne:∀ j e,σ.set nm (.app el sz []) j=some e→j≠nm→σ j=some e:=fun j e hj q=>by simpa[bX.set,q] using hj
 have hnes:∀ j,(σ.set nm (.app el sz []) j).isSome=true→j≠nm→(σ j).isSome=true:=fun j hj q=>by simpa[bX.set,q] using hj
 refine { iN:=?_,inj:=?_,gl:=?_,apart:=?_,size:=h.size,mY:=h.mY,own:=?_,fix:=?_,gE:=?_,g0:=h.g0,gn:=h.gn,os:=h.os,out:=h.out,tape:=h.tape,x:=h.x.qi rfl rfl (fun j b hj hb=>by
   by_cases q:j=nm
   ·subst q;rw[hρn] at hb;cases hb
   ·exact ⟨j,hnes j hj q,by rw[← hρ j q];exact hb,.inl rfl⟩) (fun j b e' hfj hj=>by
   have q:j≠nm:=fun q=>by subst q;rw[hf] at hfj;cases hfj
   exact ⟨e',hne j _ hj q,id⟩) }
 ·intro k e hk
  by_cases q:k=nm
  ·subst q;simp[bX.set] at hk;subst hk;exact .tR hρn
  ·have hk':=hne k e hk q
   exact (h.iN k e hk').le hle q (fun _ _ _=>rfl) (fun j hj=>by subst hj;exact hc k e hk') (fun _ _=>rfl)
 ·intro k k' b hk hk' hb hb'
  by_cases q:k=nm
  ·subst q;rw[hρn] at hb;cases hb
  ·by_cases q':k'=nm
   ·subst q';rw[hρn] at hb';cases hb'
   ·rw[hρ k q] at hb;rw[hρ k' q'] at hb'
    exact h.inj k k' b (hnes k hk q) (hnes k' hk' q') hb hb'
 ·exact h.gl.le hle rfl (fun _ _ _=>rfl)
 ·intro k b e hk hka hb
  by_cases q:k=nm
  ·subst q;rw[hρn] at hb;cases hb
  ·rw[hρ k q] at hb;exact h.apart k b e (hne k e hk q) hka hb
 ·intro k b hk hb
  by_cases q:k=nm
  ·subst q;rw[hρn] at hb;cases hb
  ·rw[hρ k q] at hb;exact h.own k b (hnes k hk q) hb
 ·intro k b hk
  have q:k≠nm:=fun q=>by subst q;rw[hf] at hk;cases hk
  rw[hρ k q];exact h.fix k b hk
 ·intro k b hk
  have q:k≠nm:=fun q=>by subst q;rw[hf] at hk;cases hk
  have:(g.unbind nm).cp k=g.cp k:=rfl
  rw[this];exact h.gE k b hk
section
variable {P:Program} {E:Env} {n:Nat} {ops:Array Oper} {Q:df} {rest:List Oper} {c:Code} {l:List (Nat×AV)} {ds:List (FuncId×List AV)} {s:List (Nat×be)}
def dU (E:Env) (n:Nat) (l:List (Nat×AV)) (ds:List (FuncId×List AV)) (s:List (Nat×be)) (l':List (Nat×AV)) (s':List (Nat×be)):Prop:=
 ∀ (g:Gh) (a:Act) (w:World),Rel E g (bz s) w→FR n g (bP l ds) a→∃ g',Rel E g' (bz s') w∧FR n g' (bP l' ds) a
theorem bK {l':List (Nat×AV)} {s':List (Nat×be)} (hg:dU E n l ds s l' s') (h:SW P E n c Q (bP l' ds) (bz s')):SW P E n c Q (bP l ds) (bz s):=fun g a w hR hF=>
 let ⟨g',hR',hF'⟩:=hg g a w hR hF;h g' a w hR' hF'
theorem aY {l':List (Nat×AV)} {s':List (Nat×be)} (hg:dU E n l ds s l' s') (h:SL P E n ops Q rest (bP l' ds) (bz s')):SL P E n ops Q rest (bP l ds) (bz s):=fun g a w hR hF=>
 let ⟨g',hR',hF'⟩:=hg g a w hR hF;h g' a w hR' hF'
theorem eX.set {g:Gh} {v:AV}:∀ {cells:List AV} {vs:List Value} {off:Nat} {u:AV},eX g cells vs→cells[off]?=some u→(∀ c,VR g u c→VR g v c)→eX g (cells.set off v) vs
 | [],_,_,_,_,h,_=>by simp at h
 | x::xs,_,0,u,.cons h t,hu,hv=>by simp at hu;subst hu;exact .cons (hv _ h) t
 | x::xs,_,off+1,u,.cons h t,hu,hv=>.cons h (eX.set t (by simpa using hu) hv)
theorem BR {j off k m sz:Nat} {el:TypeId} {cells:List PV} {cs:List AV} (hj:cR s j=some (.box cs)) (hc:cs[off]?=some (.arr k m)) (hk:cR s k=some (.app el sz cells)) (hz:Nat.blt 0 sz=true)
  (hn:cells.length=m*sz):dU E n l ds s l ((j,.box (cs.set off (.pv (.sl m cells))))::s):=fun g a w hR hF=>by
 refine ⟨g,?_,hF⟩
 have hjs:=bG hj
 have hks:=bG hk
 have he:∀ i e,bz ((j,.box (cs.set off (.pv (.sl m cells))))::s) i=some e→(bz s i).isSome=true∧(i≠j→bz s i=some e):=fun i e h=>by
  by_cases q:i=j
  ·subst q;exact ⟨by rw[hjs];rfl,fun q=>absurd rfl q⟩
  ·have:bz s i=some e:=by simpa[bz,jF,q] using h
   exact ⟨by rw[this];rfl,fun _=>this⟩
 have hs:∀ i,(bz ((j,.box (cs.set off (.pv (.sl m cells))))::s) i).isSome=true→(bz s i).isSome=true:=fun i h=>by
  cases q:bz ((j,.box (cs.set off (.pv (.sl m cells))))::s) i with
  | none=>rw[q] at h;cases h
  | some e=>exact (he i e q).1
 exact {
     iN:=fun i e h=>by
      by_cases q:i=j
      ·subst q
       have:e=.box (cs.set off (.pv (.sl m cells))):=by simpa[bz,jF] using h.symm
       subst this
       cases hR.iN i _ hjs with
       | box h1 h2 h3 h4=>exact .box h1 h2 (h3.set hc fun c hc=>hc.view (hR.iN k _ hks) (by simpa[Nat.blt_eq] using hz) hn) h4
      ·exact hR.iN i e ((he i e h).2 q)
     inj:=fun i i' b h h'=>hR.inj i i' b (hs i h) (hs i' h')
     gl:=hR.gl
     apart:=fun i b e h hea hb=>by
      by_cases q:i=j
      ·subst q;exact hR.apart i b _ hjs rfl hb
      ·exact hR.apart i b e ((he i e h).2 q) hea hb
     size:=hR.size,mY:=hR.mY,own:=fun i b h=>hR.own i b (hs i h),fix:=hR.fix,gE:=hR.gE,g0:=hR.g0,gn:=hR.gn,os:=hR.os,out:=hR.out,tape:=hR.tape
     x:=hR.x.qi rfl rfl (fun i b hi hb=>⟨i,hs i hi,hb,.inl rfl⟩) (fun i b e' _ hi=>by
      by_cases q:i=j
      ·subst q;exact ⟨_,hjs,fun _=>(by simp[bz,jF] at hi;exact ⟨_,hi.symm⟩)⟩
      ·exact ⟨e',(he i _ hi).2 q,id⟩) }
theorem rZ {d:Nat} (nm:Nat) {sz:Nat} {el:TypeId} (hE:E.fix nm=none) (hd:jx l d=some (Sc (.slice none 0 0))) (hm:kq nm l=false∧iO nm ds=false∧mz nm s=false) :
  dU E n l ds s ((d,.arr nm 0)::l) ((nm,.app el sz [])::s):=fun g a w hR hF=>by
 have h1:=hR.tK (el:=el) (sz:=sz) (iP hm.2.2) hE
 have h2:=hF.le (je.unbind g nm) (fun k q=>by subst q;exact eN hm.1 hm.2.1)
 refine ⟨g.unbind nm,h1,h2.size,fun i=>?_,h2.ds⟩
 by_cases q:i=d
 ·subst q
  have h3:=h2.gh i
  simp only[bP,dV hd] at h3
  simp only[bP,jO,if_true]
  rw[h3.cN];exact .nI (by simp[Gh.unbind])
 ·simpa[bP,jO,q] using h2.gh i
theorem rf {j off:Nat} (nm:Nat) {sz:Nat} {el:TypeId} {cs:List AV} (hE:E.fix nm=none) (hj:cR s j=some (.box cs)) (hc:cs[off]?=some (Sc (.slice none 0 0)))
  (hm:kq nm l=false∧iO nm ds=false∧mz nm s=false) (hjn:Nat.beq j nm=false) :
  dU E n l ds s l ((j,.box (cs.set off (.arr nm 0)))::(nm,.app el sz [])::s):=fun g a w hR hF=>by
 have hR:=hR.tK (el:=el) (sz:=sz) (iP hm.2.2) hE
 have hF:=hF.le (je.unbind g nm) (fun k q=>by subst q;exact eN hm.1 hm.2.1)
 have hjn':j≠nm:=fun q=>by subst q;simp at hjn
 have hjs:(bz s).set nm (.app el sz []) j=some (.box cs):=by simp[bX.set,hjn',bG hj]
 refine ⟨g.unbind nm,?_,hF⟩
 have he:∀ i e,bz ((j,.box (cs.set off (.arr nm 0)))::(nm,.app el sz [])::s) i=some e→(((bz s).set nm (.app el sz [])) i).isSome=true∧(i≠j→((bz s).set nm (.app el sz [])) i=some e):=fun i e h=>by
  by_cases q:i=j
  ·subst q;exact ⟨by rw[hjs];rfl,fun q=>absurd rfl q⟩
  ·have:((bz s).set nm (.app el sz [])) i=some e:=by simpa[bz,jF,bX.set,q] using h
   exact ⟨by rw[this];rfl,fun _=>this⟩
 have hs:∀ i,(bz ((j,.box (cs.set off (.arr nm 0)))::(nm,.app el sz [])::s) i).isSome=true→(((bz s).set nm (.app el sz [])) i).isSome=true:=fun i h=>by
  cases q:bz ((j,.box (cs.set off (.arr nm 0)))::(nm,.app el sz [])::s) i with
  | none=>rw[q] at h;cases h
  | some e=>exact (he i e q).1
 exact {
     iN:=fun i e h=>by
      by_cases q:i=j
      ·subst q
       have:e=.box (cs.set off (.arr nm 0)):=by simpa[bz,jF] using h.symm
       subst this
       cases hR.iN i _ hjs with
       | box h1 h2 h3 h4=>exact .box h1 h2 (h3.set hc fun c hc=>by rw[hc.cN];exact .nI (by simp[Gh.unbind])) h4
      ·exact hR.iN i e ((he i e h).2 q)
     inj:=fun i i' b h h'=>hR.inj i i' b (hs i h) (hs i' h')
     gl:=hR.gl
     apart:=fun i b e h hea hb=>by
      by_cases q:i=j
      ·subst q;exact hR.apart i b _ hjs rfl hb
      ·exact hR.apart i b e ((he i e h).2 q) hea hb
     size:=hR.size,mY:=hR.mY,own:=fun i b h=>hR.own i b (hs i h),fix:=hR.fix,gE:=hR.gE,g0:=hR.g0,gn:=hR.gn,os:=hR.os,out:=hR.out,tape:=hR.tape
     x:=hR.x.qi rfl rfl (fun i b hi hb=>⟨i,hs i hi,hb,.inl rfl⟩) (fun i b e' _ hi=>by
      by_cases q:i=j
      ·subst q;exact ⟨_,hjs,fun _=>(by simp[bz,jF] at hi;exact ⟨_,hi.symm⟩)⟩
      ·exact ⟨e',(he i _ hi).2 q,id⟩) }
end
end Go.Abs
end
section
namespace Go.Abs
open ay
def aD (x:Int):Prop:=-9223372036854775808≤x∧x≤9223372036854775807
instance (x:Int):Decidable (aD x):=by unfold aD;exact inferInstance
def aN (a b:List UInt8):Prop:=a.length+b.length≤9223372036854775807
instance (a b:List UInt8):Decidable (aN a b):=by unfold aN;exact inferInstance
def sub (c:List UInt8) (i j:Int):List UInt8:=(c.drop i.toNat).take (j.toNat - i.toNat)
def dK (c:List UInt8) (i:Int):List UInt8:=c.drop i.toNat
def kr (c:List UInt8) (j:Int):List UInt8:=c.take j.toNat
def AV.nz:AV→AV
 | .pv (.sc (.slice none 0 0))=>.pv (.sl 0 [])
 | .pv (.sc (.pointer none))=>.pv (.pt none)
 | v=>v
theorem AV.AA (v:AV):v.le v.nz:=by
 unfold AV.nz
 split
 ·exact AV.le_nil
 ·exact AV.DZ
 ·exact AV.le_refl _
def AV.DJ:List AV→List AV
 | []=>[]
 | v::vs=>v.nz::DJ vs
theorem AV.tL:∀ l:List AV,wQ l (AV.DJ l)
 | []=>.nil
 | v::l=>.cons (AV.AA v) (AV.tL l)
section
variable {P:Program} {l:List (Nat×AV)} {ds:List (FuncId×List AV)} {s:List (Nat×be)}
theorem bA {t:TypeId} {parts:List (Nat×Operand)} {z:List Value} {pl:List (Nat×Nat)} {pv:List (Nat×AV)} {out out':List AV} [ht:fR P t z pl]
  (hp:parts.mapM (fun p=>(bD l p.2).map fun v=>(p.1,v))=some pv) (h:kS pl (z.map fun v=>.pv (.sc v)) pv=some out) (hn:AV.DJ out=out'):hP P (.build t parts.toArray) l ds s (.agg out') []:=by
 subst hn;exact (cT hp h).wZ (AV.CV (AV.tL out))
end
class AB (P:Program) (t:TypeId):Prop where h:(P.underlying t).map Ah=some false
section
variable {P:Program} {l:List (Nat×AV)} {ds:List (FuncId×List AV)} {s:List (Nat×be)}
theorem AD {t:TypeId} {x:Operand} {f d:Nat} {cs:List AV} {v:AV} [hd:kP P t f d] (ha:∀ fields fd,P.underlying t=some (.struct fields)→fields[f]?=some fd→nf P fd.type=some false)
  (hx:bD l x=some (.agg cs)) (hv:cs[d]?=some v):hP P (.field t x f) l ds s v []:=by
 have h:=hd.h
 unfold DH at h
 split at h
 ·rename_i fs hu
  split at h
  ·rename_i fd hf
   split at h
   ·cases h;exact .of (vV hu hf rfl (ha _ _ hu hf) (aC hx) hv)
   ·cases h
  ·cases h
 ·cases h
theorem oF {t:TypeId} {x:Operand} {v:AV} [ht:AB P t] (hx:bD l x=some v):hP P (.makeInterface t x) l ds s (.ln t v) []:=by
 have h:=ht.h
 cases hu:P.underlying t with
 | none=>simp[hu] at h
 | some d=>simp[hu] at h;exact .of (vU hu h (aC hx))
theorem oG {f:FuncId} {a b:List Operand} {va vb:List AV} (ha:rH l a=some va) (hb:rH l b=some vb):hP P (.makeFunc (.func f) a.toArray b.toArray) l ds s (.fn f va vb) []:=
 .of (by have:=wV (P:=P) (fr:=bP l ds) (f:=f) (a:=a) (b:=b);rw[kG ha,kG hb] at this;exact this)
end
section
variable {P:Program} {E:Env} {n:Nat} {ops:Array Oper} {Q:df} {rest:List Oper} {l:List (Nat×AV)} {ds:List (FuncId×List AV)} {s:List (Nat×be)}
 {ty:TypeId} {pos:String} {af:Array Edge}
theorem yC {g:Gh} {w:World} {k:Nat} {cs cs':List AV} (h:wQ cs cs') (he:gZ g w k (.box cs)):gZ g w k (.box cs'):=by
 cases he with|box h1 h2 h3 h4=>exact .box h1 h2 (h.Cy h3) h4
theorem yD {j:Nat} {cs cs':List AV} (hj:cR s j=some (.box cs)) (hl:wQ cs cs'):dU E n l ds s l ((j,.box cs')::s):=fun g a w hR hF=>by
 refine ⟨g,?_,hF⟩
 have hjs:=bG hj
 have he:∀ i e,bz ((j,.box cs')::s) i=some e→(bz s i).isSome=true∧(i≠j→bz s i=some e):=fun i e h=>by
  by_cases q:i=j
  ·subst q;exact ⟨by rw[hjs];rfl,fun q=>absurd rfl q⟩
  ·have:bz s i=some e:=by simpa[bz,jF,q] using h
   exact ⟨by rw[this];rfl,fun _=>this⟩
 have hs:∀ i,(bz ((j,.box cs')::s) i).isSome=true→(bz s i).isSome=true:=fun i h=>by
  cases q:bz ((j,.box cs')::s) i with
  | none=>rw[q] at h;cases h
  | some e=>exact (he i e q).1
 exact {
     iN:=fun i e h=>by
      by_cases q:i=j
      ·subst q
       have:e=.box cs':=by simpa[bz,jF] using h.symm
       subst this
       exact yC hl (hR.iN i _ hjs)
      ·exact hR.iN i e ((he i e h).2 q)
     inj:=fun i i' b h h'=>hR.inj i i' b (hs i h) (hs i' h')
     gl:=hR.gl
     apart:=fun i b e h hea hb=>by
      by_cases q:i=j
      ·subst q;exact hR.apart i b _ hjs rfl hb
      ·exact hR.apart i b e ((he i e h).2 q) hea hb
     size:=hR.size,mY:=hR.mY,own:=fun i b h=>hR.own i b (hs i h),fix:=hR.fix,gE:=hR.gE,g0:=hR.g0,gn:=hR.gn,os:=hR.os,out:=hR.out,tape:=hR.tape
     x:=hR.x.qi rfl rfl (fun i b hi hb=>⟨i,hs i hi,hb,.inl rfl⟩) (fun i b e' _ hi=>by
      by_cases q:i=j
      ·subst q;exact ⟨_,hjs,fun _=>(by simp[bz,jF] at hi;exact ⟨_,hi.symm⟩)⟩
      ·exact ⟨e',(he i _ hi).2 q,id⟩) }
theorem jd (j:Nat) {cs cs':List AV} (hj:cR s j=some (.box cs)) (hn:AV.DJ cs=cs'):dU E n l ds s l ((j,.box cs')::s):=by subst hn;exact yD hj (AV.tL cs)
theorem AE {x:Operand} (p:rX) (hx:bD l x=some p.av) (hq:Q (.panic p.av) (bP l ds) (bz s)):SL P E n ops Q (⟨none,.panic x,ty,pos,af,none⟩::rest) (bP l ds) (bz s):=
 hQ rfl (xT rfl (aC hx) hq)
end
end Go.Abs
end
section
namespace Go.Abs
open ay
def quiet (ops:Array Oper) (i:Nat):List Rec→Bool
 | []=>true
 | r::rs=>(match r.rd with|[]=>true|_=>lO ops ops.size i r.i)&&quiet ops i rs
theorem aJ {ops:Array Oper} {i:Nat} {s':List (Nat×be)} {recs:List Rec} (h:quiet ops i recs=true):kW ops i s' recs:=by
 induction recs with
 | nil=>intro r hr;simp[fa] at hr
 | cons a rs ih=>
  simp only[quiet,Bool.and_eq_true] at h
  intro r hr p hp
  simp only[fa,List.mem_filter,Bool.not_eq_true'] at hr
  rcases List.mem_cons.1 hr.1 with q|q
  ·subst q
   have h1:=h.1
   split at h1
   ·rename_i h0;rw[h0] at hp;cases hp
   ·rw[hr.2] at h1;cases h1
  ·exact ih h.2 r (by simp[fa,q,hr.2]) p hp
def EJ (P:Program) (s:TypeId) (f:Nat):Option Bool:=
 match P.underlying s with
 | some (.struct fs)=>match fs[f]? with
  | some fd=>nf P fd.type
  | none=>none
 | _=>none
class En (P:Program) (t:TypeId) (f:Nat) (b:outParam Bool):Prop where h:EJ P t f=some b
section
variable {P:Program} {l:List (Nat×AV)} {ds:List (FuncId×List AV)} {s:List (Nat×be)}
theorem jU {t:TypeId} {x:Operand} {f d:Nat} {cs:List AV} {v:AV} [hd:kP P t f d] [hb:En P t f false] (hx:bD l x=some (.agg cs)) (hv:cs[d]?=some v):hP P (.field t x f) l ds s v []:=
 AD (fun fields fd hu hf=>by have:=hb.h;simp only[EJ,hu,hf] at this;exact this) hx hv
end
section
variable {P:Program} {E:Env} {n:Nat} {ops:Array Oper} {Q:df} {rest:List Oper} {l:List (Nat×AV)} {ds:List (FuncId×List AV)} {s:List (Nat×be)}
 {ty:TypeId} {pos:String} {af:Array Edge}
theorem bL {α:Type} {C:α→List PV} {Cs:List α→List PV} (xs:List α) (lq:∀ l,Cs l=l.flatMap C) {d:Nat} {t e:TypeId} {m sz:Nat} {parts:List (Nat×Operand)} {zs:List Value} {pl:List (Nat×Nat)} {pv:List (Nat×AV)}
  [ht:jR P t m e sz zs pl] (h:parts.mapM (fun p=>(bD l p.2).map fun v=>(p.1,v))=some pv∧kS pl (zs.map fun v=>.pv (.sc v)) pv=some ((xs.flatMap C).map .pv)) (hd:Nat.blt d n=true)
  (hn:SL P E n ops Q rest (bP ((d,.pv (.sl m (Cs xs)))::l) ds) (bz s)):SL P E n ops Q (⟨some d,.buildSlice t m parts.toArray,ty,pos,af,none⟩::rest) (bP l ds) (bz s):=
 DQ h hd (by rw[← lq];exact hn)
end
end Go.Abs
end
section
namespace Go.Abs
open ay
def GN (E:Env) (n:Nat) (ds:List (FuncId×List AV)) (Q:df):df
 | .normal,fr,σ=>∃ l s l' s',fr=bP l ds∧σ=bz s∧dU E n l ds s l' s'∧Q .normal (bP l' ds) (bz s')
 | e,fr,σ=>Q e fr σ
section
variable {P:Program} {E:Env} {n:Nat} {ops:Array Oper} {Q:df} {rest:List Oper} {c:Code} {l:List (Nat×AV)} {ds:List (FuncId×List AV)} {s:List (Nat×be)}
theorem LQ.gn {e:Exit} {a:Act} {w:World} (h:LQ E n (GN E n ds Q) e a w):LQ E n Q e a w:=by
 obtain ⟨g,ae,fr,σ,q,hx,hR,hF⟩:=h
 cases hx with
 | normal=>
  obtain ⟨l,s,l',s',rfl,rfl,hg,hq⟩:=q
  obtain ⟨g',hR',hF'⟩:=hg g a w hR hF
  exact ⟨g',_,_,_,hq,.normal,hR',hF'⟩
 | exit id=>exact ⟨g,_,_,_,q,.exit id,hR,hF⟩
 | goto id=>exact ⟨g,_,_,_,q,.goto id,hR,hF⟩
 | ret=>exact ⟨g,_,_,_,q,.ret,hR,hF⟩
 | panic hv=>exact ⟨g,_,_,_,q,.panic hv,hR,hF⟩
theorem lT {fr:dz} {σ:bX} (ds:List (FuncId×List AV)) (h:SW P E n c (GN E n ds Q) fr σ):SW P E n c Q fr σ:=fun g a w hR hF=>wp_mono (h g a w hR hF) fun _ _ _ q=>q.gn
theorem dU.trans {l1 l2:List (Nat×AV)} {s1 s2:List (Nat×be)} (h:dU E n l ds s l1 s1) (h':dU E n l1 ds s1 l2 s2):dU E n l ds s l2 s2:=fun g a w hR hF=>
 let ⟨g',hR',hF'⟩:=h g a w hR hF;h' g' a w hR' hF'
theorem dU.wR (l':List (Nat×AV)) (s':List (Nat×be)) (h1:rI l l' l') (h2:sq s s' s'):dU E n l ds s l' s':=fun g _ _ hR hF=>
 ⟨g,hR.sub (we (pb h2)),hF.wZ (wc (np h1))⟩
def lU (nm k:Nat):Nat→Nat:=fun j=>match Nat.beq j nm with
 | true=>k
 | false=>j
def AF (nm k:Nat) (l:List (Nat×AV)):List (Nat×AV)→Prop
 | []=>True
 | (i,v')::F=>(∃ v,jx l i=some v∧v.dr k=false∧v.eZ (lU nm k)=v')∧AF nm k l F
def AG (nm k:Nat) (s:List (Nat×be)):List (Nat×be)→Prop
 | []=>True
 | (i,e')::F=>(∃ e,cR s i=some e∧e.mq k=false∧e.eZ (lU nm k)=e'∧Nat.beq i nm=false∧Nat.beq i k=false)∧AG nm k s F
theorem tM (nm k:Nat):lU nm k nm=k:=by simp[lU]
theorem yE {nm k j:Nat} (h:j≠nm):lU nm k j=j:=by
 unfold lU
 split
 ·rename_i q;exact absurd (Nat.eq_of_beq_eq_true q) h
 ·rfl
mutual
theorem VR.lU {g:Gh} {nm k:Nat}:∀ {v:AV} {c:Value},v.dr k=false→VR g v c→VR (g.alias k nm) (v.eZ (lU nm k)) c
 | .any,_,_,_=>.any _
 | .oc,_,_,h=>by cases h with|oc h=>exact .oc h
 | .pv _,_,_,h=>by cases h with|pv h=>exact .pv (PR.congr (g:=g) (g':=g.alias k nm) (fun _ _ q=>q) h)
 | .ptr j off,_,hm,h=>by
  have hj:j≠k:=by simpa[AV.dr] using hm
  cases h with|ptr _ h=>
   by_cases q:j=nm
   ·subst q;simp only[AV.eZ,tM];exact .ptr off (by simp[Gh.alias,h])
   ·simp only[AV.eZ,yE q];exact .ptr off (by simp[Gh.alias,hj,h])
 | .arr j m,_,hm,h=>by
  have hj:j≠k:=by simpa[AV.dr] using hm
  by_cases q:j=nm
  ·subst q;simp only[AV.eZ,tM]
   have e1:(g.alias k j).ρ k=g.ρ j:=by simp[Gh.alias]
   have e2:(g.alias k j).cp k=g.cp j:=by simp[Gh.alias]
   cases h with
   | arr _ h=>rw[← e2];exact .arr m (e1.trans h)
   | nI h=>exact .nI (e1.trans h)
  ·simp only[AV.eZ,yE q]
   have e1:(g.alias k nm).ρ j=g.ρ j:=by simp[Gh.alias,hj]
   have e2:(g.alias k nm).cp j=g.cp j:=by simp[Gh.alias,hj]
   cases h with
   | arr _ h=>rw[← e2];exact .arr m (e1.trans h)
   | nI h=>exact .nI (e1.trans h)
 | .sp _,_,_,h=>by cases h with|sp off h hl hc=>exact .sp off h hl hc
 | .fn f x y,_,hm,h=>by
  simp[AV.dr] at hm
  cases h with|fn _ hx hy=>exact .fn f (eX.lU hm.1 hx) (eX.lU hm.2 hy)
 | .agg x,_,hm,h=>by cases h with|agg h=>exact .agg (eX.lU (by simpa[AV.dr] using hm) h)
 | .eT x,_,hm,h=>by cases h with|eT h=>exact .eT (eX.lU (by simpa[AV.dr] using hm) h)
 | .ln t x,_,hm,h=>by cases h with|ln _ h=>exact .ln t (VR.lU (by simpa[AV.dr] using hm) h)
theorem eX.lU {g:Gh} {nm k:Nat}:∀ {v:List AV} {c:List Value},AV.dr.ef k v=false→eX g v c→eX (g.alias k nm) (AV.eZ.kT (lU nm k) v) c
 | [],_,_,h=>by cases h;exact .nil
 | x::xs,_,hm,h=>by
  simp[AV.dr.ef] at hm
  cases h with|cons h t=>exact .cons (VR.lU hm.1 h) (eX.lU hm.2 t)
end
theorem kB.alias {g:Gh} {nm k:Nat} {ps:List PV} {vs:List Value} (h:kB g ps vs):kB (g.alias k nm) ps vs:=kB.congr (g:=g) (g':=g.alias k nm) (fun _ _ q=>q) h
theorem gZ.lU {g:Gh} {w:World} {nm k j:Nat} {e:be} (hj:j≠k) (hm:AV.dr.ef k e.cells=false) (h:gZ g w j e):gZ (g.alias k nm) w j (e.eZ (lU nm k)):=by
 have e1:(g.alias k nm).ρ j=g.ρ j:=by simp[Gh.alias,hj]
 have e2:(g.alias k nm).cp j=g.cp j:=by simp[Gh.alias,hj]
 cases h with
 | box h hw hc h1=>exact .box (e1.trans h) hw (hc.lU hm) h1
 | nI h=>exact .nI (e1.trans h)
 | arr h hw hl hz hx hc=>exact .arr (e1.trans h) hw hl (by rw[e2];exact hz) (by rw[e2];exact hx) hc.alias
 | tR h=>exact .tR (e1.trans h)
 | app h hG hw hl hz hx hc=>exact .app (e1.trans h) hG hw hl (by rw[e2];exact hz) (by rw[e2];exact hx) hc.alias
theorem gZ.tM {g:Gh} {w:World} {nm k:Nat} {el:TypeId} {sz:Nat} {cells:List PV} (h:gZ g w nm (.app el sz cells)):gZ (g.alias k nm) w k (.app el sz cells):=by
 have e1:(g.alias k nm).ρ k=g.ρ nm:=by simp[Gh.alias]
 have e2:(g.alias k nm).cp k=g.cp nm:=by simp[Gh.alias]
 cases h with
 | tR h=>exact .tR (e1.trans h)
 | app h hG hw hl hz hx hc=>exact .app (e1.trans h) hG hw hl (by rw[e2];exact hz) (by rw[e2];exact hx) hc.alias
theorem vx {nm k:Nat} {l:List (Nat×AV)}:∀ {F:List (Nat×AV)},AF nm k l F→∀ i,(∃ v,jO l i=v∧v.dr k=false∧jO F i=v.eZ (lU nm k))∨jO F i=.any
 | [],_,i=>.inr rfl
 | (j,v')::F,h,i=>by
  obtain ⟨⟨v,h1,h2,h3⟩,ht⟩:=h
  simp only[jO]
  by_cases q:i=j
  ·subst q;rw[if_pos rfl];exact .inl ⟨v,dV h1,h2,h3.symm⟩
  ·rw[if_neg q];exact vx ht i
theorem vy {nm k:Nat} {s:List (Nat×be)}:∀ {F:List (Nat×be)},AG nm k s F→∀ i e',bz F i=some e'→∃ e,bz s i=some e∧AV.dr.ef k e.cells=false∧e.eZ (lU nm k)=e'∧i≠nm∧i≠k
 | [],_,i,e',h=>by cases h
 | (j,v')::F,h,i,e',he=>by
  obtain ⟨⟨e,h1,h2,h3,h4,h5⟩,ht⟩:=h
  simp only[bz,jF] at he
  by_cases q:i=j
  ·subst q;rw[if_pos rfl] at he;cases he
   exact ⟨e,bG h1,be.wb h2,h3,fun q=>by subst q;simp at h4,fun q=>by subst q;simp at h5⟩
  ·rw[if_neg q] at he;exact vy ht i e' he
theorem AH (nm k:Nat) {e0:be} (he0:∀ g w,gZ g w nm e0→gZ (g.alias k nm) w k e0) (hnb:∀ cs,e0≠.box cs) (l':List (Nat×AV)) (s':List (Nat×be)) (hE:E.fix k=none) (hnk:Nat.beq nm k=false) (hk:cR s nm=some e0)
  (hd:iO nm ds=false∧iO k ds=false) (h1:AF nm k l l') (h2:AG nm k s s'):dU E n l ds s l' ((k,e0)::s'):=fun g a w hR hF=>by
 have hne:nm≠k:=fun q=>by subst q;simp at hnk
 have hks:=bG hk
 have hs':∀ i e',bz ((k,e0)::s') i=some e'→(i=k∧e'=e0)∨(i≠k∧i≠nm∧∃ e,bz s i=some e∧AV.dr.ef k e.cells=false∧e.eZ (lU nm k)=e'):=fun i e' he=>by
  simp only[bz,jF] at he
  by_cases q:i=k
  ·subst q;rw[if_pos rfl] at he;cases he;exact .inl ⟨rfl,rfl⟩
  ·rw[if_neg q] at he
   obtain ⟨e,h3,h4,h5,h6,h7⟩:=vy h2 i e' he
   exact .inr ⟨q,h6,e,h3,h4,h5⟩
 have hρk:(g.alias k nm).ρ k=g.ρ nm:=by simp[Gh.alias]
 have hρ:∀ j,j≠k→(g.alias k nm).ρ j=g.ρ j:=fun j hj=>by simp[Gh.alias,hj]
 have hcp:∀ j,j≠k→(g.alias k nm).cp j=g.cp j:=fun j hj=>by simp[Gh.alias,hj]
 have hold:∀ i,(bz ((k,e0)::s') i).isSome=true→∃ j,(bz s j).isSome=true∧(g.alias k nm).ρ i=g.ρ j∧((i=k∧j=nm)∨(i≠k∧i≠nm∧j=i)):=fun i hi=>by
  cases q:bz ((k,e0)::s') i with
  | none=>rw[q] at hi;cases hi
  | some e'=>
   rcases hs' i e' q with ⟨rfl,_⟩|⟨q1,q2,e,q3,_⟩
   ·exact ⟨nm,by rw[hks];rfl,hρk,.inl ⟨rfl,rfl⟩⟩
   ·exact ⟨i,by rw[q3];rfl,hρ i q1,.inr ⟨q1,q2,rfl⟩⟩
 refine ⟨g.alias k nm,?_,⟨hF.size,fun i=>?_,?_⟩⟩
 ·exact {
      iN:=fun i e' h=>by
       rcases hs' i e' h with ⟨rfl,rfl⟩|⟨q1,q2,e,q3,q4,rfl⟩
       ·exact he0 _ _ (hR.iN nm _ hks)
       ·exact (hR.iN i e q3).lU q1 q4
      inj:=fun i i' b h h' hb hb'=>by
       obtain ⟨j,j1,j2,j3⟩:=hold i h
       obtain ⟨j',j1',j2',j3'⟩:=hold i' h'
       have:=hR.inj j j' b j1 j1' (j2▸hb) (j2'▸hb')
       rcases j3 with ⟨rfl,rfl⟩|⟨q1,q2,rfl⟩<;>rcases j3' with ⟨rfl,rfl⟩|⟨q1',q2',rfl⟩
       ·rfl
       ·exact absurd this.symm q2'
       ·exact absurd this q2
       ·exact this
      gl:=fun b ys hb=>by
       obtain ⟨cs,el,fz,h1,h2,h3⟩:=hR.gl b ys hb
       exact ⟨cs,el,fz,h1,h2,h3.alias⟩
      apart:=fun i b e' h hea hb=>by
       rcases hs' i e' h with ⟨rfl,rfl⟩|⟨q1,q2,e,q3,q4,rfl⟩
       ·rw[hρk] at hb;exact hR.apart nm b _ hks hea hb
       ·exact hR.apart i b e q3 (by rw[← be.wa (lU nm k) e];exact hea) (by rw[← hρ i q1];exact hb)
      size:=hR.size,mY:=hR.mY
      own:=fun i b h hb=>by
       obtain ⟨j,j1,j2,_⟩:=hold i h
       exact hR.own j b j1 (j2▸hb)
      fix:=fun i b h=>by
       have q:i≠k:=fun q=>by subst q;rw[hE] at h;cases h
       rw[hρ i q];exact hR.fix i b h
      gE:=fun i b h=>by
       have q:i≠k:=fun q=>by subst q;rw[hE] at h;cases h
       rw[hcp i q];exact hR.gE i b h
      g0:=hR.g0,gn:=hR.gn,os:=hR.os,out:=hR.out,tape:=hR.tape
      x:=hR.x.qi rfl rfl (fun i b hi hb=>by
       obtain ⟨j,j1,j2,j3⟩:=hold i hi
       refine ⟨j,j1,j2▸hb,?_⟩
       rcases j3 with ⟨_,rfl⟩|⟨_,_,rfl⟩
       ·exact .inr ⟨_,hks,hnb⟩
       ·exact .inl rfl) (fun i b e' hfi hi=>by
       rcases hs' i _ hi with ⟨rfl,q⟩|⟨q1,q2,e,q3,q4,q5⟩
       ·rw[hE] at hfi;cases hfi
       ·refine ⟨e,q3,fun ⟨c,q⟩=>?_⟩
        subst q;exact ⟨_,q5.symm⟩) }
 ·have hsl:=hF.gh i
  rcases vx h1 i with ⟨v,q1,q2,q3⟩|q
  ·simp only[bP] at hsl ⊢
   rw[q3];rw[q1] at hsl;exact hsl.lU q2
  ·simp only[bP];rw[q];exact .any _
 ·refine hF.ds.le (je.alias g k nm) fun j q p hp=>?_
  subst q;exact rR hd.2 p hp
theorem kj (nm k:Nat) {el:TypeId} {sz:Nat} {cells:List PV} (l':List (Nat×AV)) (s':List (Nat×be)) (hE:E.fix k=none) (hnk:Nat.beq nm k=false) (hk:cR s nm=some (.app el sz cells))
  (hd:iO nm ds=false∧iO k ds=false) (h1:AF nm k l l') (h2:AG nm k s s'):dU E n l ds s l' ((k,.app el sz cells)::s'):=
 AH nm k (fun _ _ h=>h.tM) (fun _ q=>by cases q) l' s' hE hnk hk hd h1 h2
theorem gZ.AI {g:Gh} {w:World} {nm k:Nat} {el:TypeId} {sz:Nat} {cells:List PV} (h:gZ g w nm (.arr el sz cells)):gZ (g.alias k nm) w k (.arr el sz cells):=by
 have e1:(g.alias k nm).ρ k=g.ρ nm:=by simp[Gh.alias]
 have e2:(g.alias k nm).cp k=g.cp nm:=by simp[Gh.alias]
 cases h with
 | nI h=>exact .nI (e1.trans h)
 | arr h hw hl hz hx hc=>exact .arr (e1.trans h) hw hl (by rw[e2];exact hz) (by rw[e2];exact hx) hc.alias
theorem iU (nm k:Nat) {el:TypeId} {sz:Nat} {cells:List PV} (l':List (Nat×AV)) (s':List (Nat×be)) (hE:E.fix k=none) (hnk:Nat.beq nm k=false) (hk:cR s nm=some (.arr el sz cells))
  (hd:iO nm ds=false∧iO k ds=false) (h1:AF nm k l l') (h2:AG nm k s s'):dU E n l ds s l' ((k,.arr el sz cells)::s'):=
 AH nm k (fun _ _ h=>h.AI) (fun _ q=>by cases q) l' s' hE hnk hk hd h1 h2
end
def aL (bytes a b:Nat):Prop:=(a+b)*bytes≤140737488355328∧a+b≤maxLen
instance (bytes a b:Nat):Decidable (aL bytes a b):=by unfold aL;exact inferInstance
theorem xe:∀ {a b:List PV},PV.iG a=true→PV.iG b=true→PV.iG (a++b)=true
 | [],_,_,h=>h
 | x::a,b,h,h'=>by simp[PV.iG] at h ⊢;exact ⟨h.1,xe h.2 h'⟩
theorem oH {α:Type} {C:α→List PV} (hC:∀ x,PV.iG (C x)=true):∀ l:List α,PV.iG (l.flatMap C)=true
 | []=>rfl
 | x::l=>by rw[List.flatMap_cons];exact xe (hC x) (oH hC l)
section
variable {P:Program} {E:Env} {n:Nat} {ops:Array Oper} {Q:df} {rest:List Oper} {l:List (Nat×AV)} {ds:List (FuncId×List AV)} {s:List (Nat×be)}
 {ty:TypeId} {pos:String} {af:Array Edge}
structure vz (P:Program) (E:Env) (l:List (Nat×AV)) (ds:List (FuncId×List AV)) (s:List (Nat×be)) {α:Type} (C:α→List PV) (Cs:List α→List PV) (t e:TypeId) (sz bytes k nm:Nat) (a x:Operand) (xs ys:List α):Prop where
 hT:P.underlying t=some (.slice e)
 hB:o5 P e=some (sz,bytes)
 lq:∀ l,Cs l=l.flatMap C
 hL:∀ x,(C x).length=sz
 h1:∀ x,PV.iG (C x)=true
 hE:E.fix nm=none
 hs:bD l a=some (.arr k (List.length xs))
 hk:cR s k=some (.app e sz (Cs xs))
 hx:bD l x=some (.pv (.sl (List.length ys) (Cs ys)))∨(ys=[]∧bD l x=some (Sc (.slice none 0 0)))
 hm:kq nm l=false∧iO nm ds=false∧ug nm [k] s=false
 hg:aL bytes (List.length xs) (List.length ys)
theorem vz.D2 {α:Type} {C:α→List PV} {Cs:List α→List PV} {t e:TypeId} {sz bytes k nm:Nat} {a x:Operand} {xs ys:List α} (h:vz P E l ds s C Cs t e sz bytes k nm a x xs ys) :
  Bx sz ((bP l ds).val x) (List.length ys) (Cs ys):=by
 rcases h.hx with q|⟨q1,q2⟩
 ·rw[aC q];exact .sl _ _ (by rw[h.lq,fM h.hL])
 ·rw[aC q2];subst q1;rw[h.lq];exact .nil
theorem vz.D3 {α:Type} {C:α→List PV} {Cs:List α→List PV} {t e:TypeId} {sz bytes k nm:Nat} {a x:Operand} {xs ys:List α} (h:vz P E l ds s C Cs t e sz bytes k nm a x xs ys) :
  ((bz s).del k).clear nm:=by
 intro j e he
 unfold bX.del at he
 split at he
 ·cases he
 ·rename_i q
  refine ly h.hm.2.2 j e ?_ he
  cases hb:Nat.beq j k with
  | true=>exact absurd (Nat.eq_of_beq_eq_true hb) q
  | false=>simp[hb]
theorem lA {α:Type} {C:α→List PV} {Cs:List α→List PV} {d:Nat} {t e:TypeId} {a x:Operand} {sz bytes k:Nat} (nm:Nat) {xs ys:List α} (h:vz P E l ds s C Cs t e sz bytes k nm a x xs ys) (hd:Nat.blt d n=true)
  (hn:SL P E n ops Q rest (bP ((d,.arr nm (List.length (xs++ys)))::l) ds) (bz ((nm,.app e sz (Cs (xs++ys)))::mJ k s))) :
  SL P E n ops Q (⟨some d,.call ⟨.builtin .append,#[a,x],#[t,t]⟩,ty,pos,af,none⟩::rest) (bP l ds) (bz s):=by
 refine hQ rfl (sj (nm:=nm) rfl h.hT h.hB (aC h.hs) (bG h.hk) (by rw[h.lq,fM h.hL]) h.D2 (by rw[h.lq];exact oH h.h1 ys) (eN h.hm.1 h.hm.2.1) h.D3 h.hE h.hg.1 h.hg.2 (lz hd) ?_)
 rw[← nR,← List.length_append,show Cs xs++Cs ys=Cs (xs++ys) by rw[h.lq,h.lq,h.lq,List.flatMap_append]];exact hn
theorem xf {α:Type} {C:α→List PV} {Cs:List α→List PV} {j off k sz:Nat} {el:TypeId} {xs:List α} {cs:List AV} (lq:∀ l,Cs l=l.flatMap C) (hC:∀ x,(C x).length=sz) (hz:Nat.blt 0 sz=true) (hj:cR s j=some (.box cs)) (hc:cs[off]?=some (.arr k (List.length xs)))
  (hk:cR s k=some (.app el sz (Cs xs))) {cs':List AV} (hcs:cs.set off (.pv (.sl (List.length xs) (Cs xs)))=cs'):dU E n l ds s l ((j,.box cs')::s):=by
 subst hcs;exact BR hj hc hk hz (by rw[lq,fM hC])
theorem lH {α:Type} {C:α→List PV} {Cs:List α→List PV} {x:Operand} {k sz:Nat} {el:TypeId} {xs:List α} (lq:∀ l,Cs l=l.flatMap C) (hC:∀ x,(C x).length=sz) (hz:Nat.blt 0 sz=true) (hx:bD l x=some (.arr k (List.length xs))) (hk:cR s k=some (.app el sz (Cs xs))) :
  hP P (.move x) l ds s (.pv (.sl (List.length xs) (Cs xs))) [(k,.app el sz (Cs xs))]:=C3 hx hk hz (by rw[lq,fM hC])
theorem nb {α:Type} {C:α→List PV} {Cs:List α→List PV} {t:TypeId} {x:Operand} {k j off sz:Nat} {el:TypeId} {xs:List α} {e:be} [ha:gj P t false] (lq:∀ l,Cs l=l.flatMap C) (hC:∀ x,(C x).length=sz) (hz:Nat.blt 0 sz=true)
  (hx:bD l x=some (.ptr k off)) (hk:cR s k=some e) (hv:e.cells[off]?=some (.arr j (List.length xs))) (hj:cR s j=some (.app el sz (Cs xs))) :
  hP P (.load t x) l ds s (.pv (.sl (List.length xs) (Cs xs))) [(k,e),(j,.app el sz (Cs xs))]:=Au hx hk hv hj hz (by rw[lq,fM hC])
theorem xg {d:Nat} {v:AV} (hd:jx l d=some v) {v':AV} (hv:v.nz=v'):dU E n l ds s ((d,v')::l) s:=fun g a w hR hF=>by
 subst hv
 refine ⟨g,hR,hF.size,fun i=>?_,hF.ds⟩
 have h:=hF.gh i
 by_cases q:i=d
 ·subst q;simp only[bP,jO,if_true];simp only[bP,dV hd] at h;exact AV.AA v g _ h
 ·simpa[bP,jO,q] using h
theorem AV.xW (v:AV):v.le .any:=fun _ _ _=>.any _
theorem yF:∀ (cs:List AV) (off:Nat),wQ cs (cs.set off .any)
 | [],_=>.nil
 | c::cs,0=>.cons (AV.xW c) (uo cs)
 | c::cs,off+1=>.cons (AV.le_refl c) (yF cs off)
where uo:∀ cs:List AV,wQ cs cs
 | []=>.nil
 | c::cs=>.cons (AV.le_refl c) (uo cs)
theorem yG:∀ (cs:List AV) (off:Nat) (v:AV),cs[off]?=some v→wQ cs (cs.set off v.nz)
 | [],_,_,h=>by simp at h
 | c::cs,0,v,h=>by simp at h;subst h;exact .cons (AV.AA c) (yF.uo cs)
 | c::cs,off+1,v,h=>.cons (AV.le_refl c) (yG cs off v (by simpa using h))
theorem fB (j off:Nat) {cs cs':List AV} {v:AV} (hj:cR s j=some (.box cs)) (hv:cs[off]?=some v) (hn:cs.set off v.nz=cs'):dU E n l ds s l ((j,.box cs')::s):=by subst hn;exact yD hj (yG cs off v hv)
end
section
variable {P:Program} {E:Env} {n:Nat} {ops:Array Oper} {Q:df} {B:List Rec→dz→bX→Prop} {i:Nat} {L:List Nat} {recs:List Rec} {l:List (Nat×AV)} {ds:List (FuncId×List AV)} {s:List (Nat×be)}
 {ty:TypeId} {pos:String} {af:Array Edge}
theorem fb {l':List (Nat×AV)} {s':List (Nat×be)} (hg:dU E n l ds s l' s') (h:Q .normal (bP l' ds) (bz s')):DW P E n ops (GN E n ds Q) [] recs (bP l ds) (bz s):=⟨l,s,l',s',rfl,rfl,hg,h⟩
theorem gI {α:Type} {C:α→List PV} {Cs:List α→List PV} (xs:List α) (lq:∀ l,Cs l=l.flatMap C) {d:Nat} {t e:TypeId} {m sz:Nat} {parts:List (Nat×Operand)} {zs:List Value} {pl:List (Nat×Nat)} {pv:List (Nat×AV)}
  {gd:Option (Nat×Bool)} [ht:jR P t m e sz zs pl] (ho:ops[i]?=some ⟨some d,.buildSlice t m parts.toArray,ty,pos,af,gd⟩) (hw:fA ops ⟨some d,.buildSlice t m parts.toArray,ty,pos,af,gd⟩ (bP l ds))
  (h:parts.mapM (fun p=>(bD l p.2).map fun v=>(p.1,v))=some pv∧kS pl (zs.map fun v=>.pv (.sc v)) pv=some ((xs.flatMap C).map .pv))
  (hc:da ⟨some d,.buildSlice t m parts.toArray,ty,pos,af,gd⟩=false∧Nat.blt d n=true)
  (hn:lj P E n ops Q B L (⟨i,some d,[],none⟩::recs) (bP ((d,.pv (.sl m (Cs xs)))::l) ds) (bz s)):lj P E n ops Q B (i::L) recs (bP l ds) (bz s):=by
 refine ⟨_,ho,.fz hw hc.1 (v:=.pv (.sl m (Cs xs))) ?_ (lz hc.2) (fun _ _ _ _=>rfl) hn⟩
 rw[lq]
 refine rD ht.h ?_
 rw[sr h.1];exact h.2
theorem wq {α:Type} {C:α→List PV} {Cs:List α→List PV} {d:Nat} {t e:TypeId} {a x:Operand} {sz bytes k:Nat} {gd:Option (Nat×Bool)} (nm:Nat) {xs ys:List α}
  (ho:ops[i]?=some ⟨some d,.call ⟨.builtin .append,#[a,x],#[t,t]⟩,ty,pos,af,gd⟩) (hw:fA ops ⟨some d,.call ⟨.builtin .append,#[a,x],#[t,t]⟩,ty,pos,af,gd⟩ (bP l ds))
  (h:vz P E l ds s C Cs t e sz bytes k nm a x xs ys) (hd:Nat.blt d n=true) (hnm:jH recs=true)
  (hn:kW ops i ((nm,.app e sz (Cs (xs++ys)))::mJ k s) recs∧lj P E n ops Q B L recs (bP ((d,.arr nm (List.length (xs++ys)))::l) ds) (bz ((nm,.app e sz (Cs (xs++ys)))::mJ k s))) :
  lj P E n ops Q B (i::L) recs (bP l ds) (bz s):=by
 refine ⟨_,ho,.da hw rfl (.append (nm:=nm) rfl h.hT h.hB (aC h.hs) (bG h.hk) (by rw[h.lq,fM h.hL]) h.D2 (by rw[h.lq];exact oH h.h1 ys) (eN h.hm.1 h.hm.2.1) h.D3 h.hE h.hg.1 h.hg.2 (lz hd) ?_)
  (fun r hr k' _=>by rw[dw hnm r (List.mem_filter.1 hr).1];simp)⟩
 have e1:((bz s).del k).set nm (.app e sz (Cs xs++Cs ys))=bz ((nm,.app e sz (Cs (xs++ys)))::mJ k s):=by
  rw[← nR,show Cs xs++Cs ys=Cs (xs++ys) by rw[h.lq,h.lq,h.lq,List.flatMap_append]];rfl
 rw[e1,← List.length_append]
 exact ⟨fun r hr=>⟨fun p hp=>(let ⟨e,h1,h2⟩:=hn.1 r hr p hp;⟨e,bG h1,h2⟩),fun nm q=>by rw[dw hnm r (List.mem_filter.1 hr).1] at q;cases q⟩,hn.2⟩
end
end Go.Abs
end
section
namespace Go.Abs
open ay
def be.lost:be→be
 | .box cs=>.box (cs.map fun _=>.any)
 | e=>e
def fj:List be→Bool
 | []=>true
 | .box _::es=>fj es
 | _::_=>false
theorem yH (g:Gh):∀ {cells:List AV} {vs:List Value},cells.length=vs.length→eX g (cells.map fun _=>AV.any) vs
 | [],[],_=>.nil
 | _::cells,v::vs,h=>.cons (.any v) (yH g (by simpa using h))
 | [],_::_,h=>by simp at h
 | _::_,[],h=>by simp at h
theorem Rel.lost {wS:World} {g g':Gh} {σ σ':bX} {w w':World} (h0:Rel (Env.of wS g σ w) g σ w) (hb:∀ k e,σ k=some e→∃ cs,e=.box cs) (h:Rel (Env.of wS g σ w) g' σ' w') :
    Rel (Env.of wS g σ w) g' (fun k=>(σ k).map be.lost) w':=by
  have key:∀ k e,(σ k).map be.lost=some e→∃ cs b,σ k=some (.box cs)∧e=.box (cs.map fun _=>.any)∧g.ρ k=some b∧g'.ρ k=some b∧(Env.of wS g σ w).fix k=some b:=fun k e he=>by
    cases q:σ k with
    | none=>rw[q] at he;cases he
    | some e0=>
      rw[q] at he
      obtain ⟨cs,rfl⟩:=hb k e0 q
      have he':e=.box (cs.map fun _=>.any):=by simpa[be.lost] using he.symm
      cases h0.iN k _ q with
      | box h1 h2 h3=>
        rename_i b _ _ _
        have hf:(Env.of wS g σ w).fix k=some b:=by simp only[Env.of,q];exact h1
        exact ⟨cs,b,rfl,he',h1,h.fix k b hf,hf⟩
  have hks:∀ k,((σ k).map be.lost).isSome=true→∃ e,(σ k).map be.lost=some e:=fun k hk=>by
    cases q:(σ k).map be.lost with
    | none=>rw[q] at hk;cases hk
    | some e=>exact ⟨e,rfl⟩
  exact {
          iN:=fun k e he=>by
            obtain ⟨cs,b,h1,rfl,h3,h4,h5⟩:=key k e he
            cases h0.iN k _ h1 with
            | box h6 h7 h8 h13=>
              rw[h3] at h6;cases h6
              obtain ⟨cs',h9,h10⟩:=h.x.uV b _ _ _ h7
              obtain ⟨cs'',h11,h12⟩:=h.x.flat k b _ _ _ h5 h7 h13
              rw[h9] at h11;cases h11
              refine .box h4 h9 (yH g' ?_) h12
              rw[h8.length];simp[h10]
          inj:=fun k k' b hk hk' hb hb'=>by
            obtain ⟨e,he⟩:=hks k hk
            obtain ⟨e',he'⟩:=hks k' hk'
            obtain ⟨cs,c,h1,_,h3,h4,_⟩:=key k e he
            obtain ⟨cs',c',h1',_,h3',h4',_⟩:=key k' e' he'
            rw[h4] at hb;cases hb
            rw[h4'] at hb';cases hb'
            exact h0.inj k k' _ (by rw[h1];rfl) (by rw[h1'];rfl) h3 h3'
          gl:=h.gl
          apart:=fun k b e he _ hb=>by
            obtain ⟨cs,c,h1,_,h3,h4,h5⟩:=key k e he
            rw[h4] at hb;cases hb
            exact h.x.mD k _ h5
          size:=h.size,mY:=h.mY
          own:=fun k b hk hb=>by
            obtain ⟨e,he⟩:=hks k hk
            obtain ⟨cs,c,h1,_,h3,h4,_⟩:=key k e he
            rw[h4] at hb;cases hb
            exact .inl ⟨k,by rw[h1];rfl,h3⟩
          fix:=h.fix,gE:=h.gE,g0:=h.g0,gn:=h.gn,os:=h.os,out:=h.out,tape:=h.tape
          x:={
                 uV:=h.x.uV,flat:=h.x.flat,set:=h.x.set,uW:=h.x.uW
                 hi:=fun k b hk hb=>by
                   obtain ⟨e,he⟩:=hks k hk
                   obtain ⟨cs,c,h1,_,h3,h4,_⟩:=key k e he
                   rw[h4] at hb;cases hb
                   exact h0.x.hi k b (by rw[h1];rfl) h3
                 gf:=h.x.gf
                 mf:=h.x.mf,mD:=h.x.mD
                 mg:=fun k b k' hf hk hb=>by
                   obtain ⟨e,he⟩:=hks k' hk
                   obtain ⟨cs,c,h1,_,h3,h4,h5⟩:=key k' e he
                   rw[h4] at hb;cases hb
                   have h6:=h.fix k _ hf
                   simp only[Env.of] at hf
                   split at hf
                   · rename_i cs0 hc
                     exact h0.inj k' k _ (by rw[h1];rfl) (by rw[hc];rfl) h3 hf
                   · cases hf
                 mh:=fun k b e hf hk=>by
                   obtain ⟨cs,c,h1,h2,_⟩:=key k _ hk
                   exact ⟨_,h2⟩ } }
def Ew {X:Type} (V:X→AV) (C:X→List be) (G:X→Prop) (H:AV→Prop) (es:List be):nJ→bX→Prop:=
 fun ae σ=>(∃ x,G x∧ae=.ret (V x)∧σ=bz (dC 0 (C x)))∨(∃ v,H v∧ae=.panic v∧σ=bz (dC 0 (es.map be.lost)))
theorem xh:∀ {es:List be} {i:Nat},bz (dC i (es.map be.lost))=fun k=>(bz (dC i es) k).map be.lost
 | [],i=>by funext k;rfl
 | e::es,i=>by
  funext k
  have ih:=congrFun (xh (es:=es) (i:=i+1)) k
  simp only[List.map_cons,dC,bz,jF] at ih ⊢
  split
  ·rfl
  ·exact ih
theorem uq:∀ {es:List be},fj es=true→∀ {j:Nat} {e:be},es[j]?=some e→∃ cs,e=.box cs
 | [],_,j,e,h=>by simp at h
 | .box cs::es,h,0,e,he=>by simp at he;exact ⟨cs,he.symm⟩
 | .box cs::es,h,j+1,e,he=>uq (es:=es) (by simpa[fj] using h) (by simpa using he)
 | .arr _ _ _::es,h,_,_,_=>by simp[fj] at h
 | .app _ _ _::es,h,_,_,_=>by simp[fj] at h
theorem SC.lost {P:Program} {f:FuncId} {args:List AV} {es:List be} {X:Type} {V:X→AV} {C:X→List be} {G:X→Prop} {H:AV→Prop} (hb:fj es=true) (h:SC P f args (bz (dC 0 es)) (o9 V C G H)) :
  SC P f args (bz (dC 0 es)) (Ew V C G H es):=fun wS g w vs hR hv=>(h wS g w vs hR hv).mono fun e w' ⟨g',ae,σ',q,hE,hR'⟩=>by
 rcases q with q|⟨v,hH,rfl,rfl⟩
 ·exact ⟨g',ae,σ',.inl q,hE,hR'⟩
 ·refine ⟨g',_,bz (dC 0 (es.map be.lost)),.inr ⟨v,hH,rfl,rfl⟩,hE,?_⟩
  rw[xh]
  exact hR.lost (fun k e hk=>by
   obtain ⟨_,h2⟩:=eh hk
   exact uq hb h2) hR'
section
variable {P:Program} {E:Env} {n:Nat} {ops:Array Oper} {Q:df} {rest:List Oper} {l:List (Nat×AV)} {ds:List (FuncId×List AV)} {s:List (Nat×be)}
theorem qB (m:Nat):(List.range m).contains=below m:=by
 funext j
 have h1:(List.range m).contains j=decide (j<m):=by
  by_cases q:j<m<;>simp[q]
 rw[h1];simp only[below]
 by_cases q:j<m
 ·simp[q,lE.2 q]
 ·have:Nat.blt j m=false:=by
   cases h:Nat.blt j m with
   | false=>rfl
   | true=>exact absurd (lE.1 h) q
  simp[q,this]
theorem nq {ks:List Nat} (hnd:nodupB ks=true) {cs:List be} (h1:cs.length=ks.length) :
  after (bz s) (nth ks) (List.range ks.length) (List.range ks.length) (bz (dC 0 cs))=bz (kH ks (jy (nth ks) cs)++s):=by
 funext k
 rw[wi (by rw[fL,h1]) hnd]
 simp only[after]
 cases hf:(List.range ks.length).find? (fun j=>nth ks j==k) with
 | some j=>
  have hj:=List.mem_of_find?_eq_some hf
  simp at hj
  simp only[lF]
  have:j<cs.length:=by omega
  rw[List.getElem?_eq_getElem this]
  have h6:=lR (i:=0) (List.getElem?_eq_getElem this)
  simp at h6
  rw[h6]
 | none=>
  have:(List.range ks.length).any (fun j=>nth ks j==k)=false:=by
   rw[List.any_eq_false];intro j hj
   have:=List.find?_eq_none.1 hf j hj
   simpa using this
  simp[this]
theorem mK {es:List be} {j:Nat} (hj:(bz (dC 0 es) j).isSome=true):j<es.length:=by
 cases q:bz (dC 0 es) j with
 | none=>rw[q] at hj;cases hj
 | some e=>
  obtain ⟨_,h2⟩:=eh q
  have:=(List.getElem?_eq_some_iff.1 h2).1
  simpa using this
theorem sW (p:Nat→Bool):∀ {es:List be},fj es=true→iR p (es.map be.lost)=true
 | [],_=>rfl
 | .box cs::es,h=>by
  simp only[List.map_cons,iR,be.lost,be.oq,Bool.and_eq_true]
  refine ⟨?_,sW p (by simpa[fj] using h)⟩
  have:∀ cs:List AV,AV.only.jw p (cs.map fun _=>AV.any)=true:=fun cs=>by
   induction cs with
   | nil=>rfl
   | cons c cs ih=>simp[AV.only.jw,AV.only,ih]
  exact this cs
 | .arr _ _ _::_,h=>by simp[fj] at h
 | .app _ _ _::_,h=>by simp[fj] at h
theorem oI {fr:dz} {ks:List Nat} {es:List be} (hfr:fr.s=(bP l ds).s∧fr.ds=ds) (hl:es.length=ks.length) (hnd:nodupB ks=true) (hbx:yx l ds s ks ks es=true) (hfx:uX E ks es)
  {cs:List be} {v:AV} (hcs:cs.length=ks.length) (ho:iR (below ks.length) cs=true) (hv:v.only (below ks.length)=true) :
  tz E fr (bz s) (nth ks) (List.range ks.length) (List.range ks.length) (bz (dC 0 es)) (bz (dC 0 cs)) v:=by
 have hfr':fr=bP l ds:=by cases fr;simp only[bP] at hfr ⊢;rw[hfr.1,hfr.2]
 subst hfr'
 refine { BH:=fun j e hj=>?_,val:=by rw[qB];exact hv,inj:=fun j j' hj hj' he=>mI hnd (by simpa using hj) (by simpa using hj') he,same:=fun j hj=>?_ }
 ·obtain ⟨_,h4⟩:=eh hj
  have h5:=(List.getElem?_eq_some_iff.1 h4).1
  exact ⟨by simp;omega,by rw[qB];exact qz ho h4⟩
 ·have hj':j<es.length:=by simp at hj;omega
  rcases sP hbx hfx (by simpa using hj) (List.getElem?_eq_getElem hj') with ⟨cs,hcs⟩|⟨q1,q2,q3,q4⟩
  ·exact .inl ⟨cs,by have:=lR (i:=0) (List.getElem?_eq_getElem hj');rw[hcs] at this;simpa using this⟩
  ·exact .inr ⟨eN q1 q2,fun k e hkl he=>ly q3 k e (wj hkl) he,q4⟩
theorem xX {o:Oper} {X:Type} {V:X→AV} {C:X→List be} {G:X→Prop} {H:AV→Prop} {f:Operand} {args:List Operand} {ts:Array TypeId} {fid:FuncId} {argsC first cap vs:List AV} {es:List be}
  {next:dz→bX→Prop} (ks:List Nat) (hen:Enters P fid) (ho:o.op=.call ⟨.value f,args.toArray,ts⟩) (hC:SC P fid argsC (bz (dC 0 es)) (o9 V C G H)) (hk:kI E ds l s ks f args fid argsC es first cap vs) (hbb:fj es=true)
  (hd:∀ d,o.dst=some d→d<n) (hx:∀ x,G x→(C x).length=ks.length∧iR (below ks.length) (C x)=true∧(V x).only (below ks.length)=true)
  (hret:∀ x,G x→next ((bP l ds).gr o.dst ((V x).eZ (nth ks))) (bz (kH ks (jy (nth ks) (C x))++s)))
  (hpan:∀ v,H v→v.only (fun _=>false)=true∧Q (.panic v) (bP l ds) (bz (kH ks (jy (nth ks) (es.map be.lost))++s))):Step P E n Q o (bP l ds) (bz s) next:=by
 obtain ⟨hl,hat⟩:=nj hk.gs
 rw[fL] at hl
 refine vo (nth ks) (List.range ks.length) hen ho (aC hk.f) (by rw[kG hk.a];exact hk.e) (hC.lost hbb) (fun j hj=>by have:=mK hj;simp;omega) (fun j e hj=>?_)
  (fun j j' hj hj' he=>mI hk.nd (by have:=mK hj;omega) (by have:=mK hj';omega) he) hd (fun v σc hr=>?_) (fun v σc hr=>?_)
 ·obtain ⟨_,h2⟩:=eh hj
  exact hat j _ (by rw[lF,show j=j - 0 by omega,h2];rfl)
 ·rcases hr with ⟨x,hg,he,rfl⟩|⟨_,_,he,_⟩
  ·cases he
   obtain ⟨h1,h2,h3⟩:=hx x hg
   exact ⟨List.range ks.length,oI ⟨rfl,rfl⟩ hl hk.nd hk.bx hk.fx h1 h2 h3,by rw[nq hk.nd h1];exact hret x hg⟩
  ·cases he
 ·rcases hr with ⟨_,_,he,_⟩|⟨v',hh,he,rfl⟩
  ·cases he
  ·cases he
   obtain ⟨h1,h2⟩:=hpan v hh
   refine ⟨List.range ks.length,oI ⟨rfl,rfl⟩ hl hk.nd hk.bx hk.fx (by simp[hl]) (sW _ hbb) (re (fun k hk=>by cases hk) h1),?_⟩
   rw[nq hk.nd (by simp[hl]),oB h1];exact h2
end
section
variable {P:Program} {E:Env} {n:Nat} {ops:Array Oper} {Q:df} {rest:List Oper} {fr:dz} {σ:bX}
theorem AJ {o:Oper} {x:Operand} {ts:Array TypeId} {fid:FuncId} {cap:List AV} {next:dz→bX→Prop} (ho:o.op=.defer ⟨.value x,#[],ts⟩) (hx:fr.val x=.fn fid [] cap) (hd:∀ d,o.dst=some d→d<n)
  (hn:next (dz.gr ⟨fr.s,(fid,cap)::fr.ds⟩ o.dst .any) σ):Step P E n Q o fr σ next:=by
 intro g a w K hR hF hK
 have q:=hF.eval x;rw[hx] at q
 generalize hq:a.eval x=c at q
 cases q with
 | fn _ h1 h2=>
  rename_i xs ys
  have hxs:xs=[]:=by cases h1;rfl
  subst hxs
  have hrun:(execOp a.eval o).run P w=.ok (.defer { target:=.fn (.func fid) ys.toArray,args:=#[] }) w:=by
   simp[execOp,ho,resolve,hq,Deferred.ofValue]
  simp only[Oper.wp,hrun,Oper.upon]
  refine hK g _ _ _ _ hn hR ?_
  have hF':FR n g ⟨fr.s,(fid,cap)::fr.ds⟩ { a with defers:={ target:=.fn (.func fid) ys.toArray,args:=#[] }::a.defers }:=⟨hF.size,hF.gh,.cons h2 hF.ds⟩
  exact hF'.put hd (.any _)
theorem wu {l:List (Nat×AV)} {ds:List (FuncId×List AV)} {s:List (Nat×be)} {ty:TypeId} {pos:String} {af:Array Edge} {x:Operand} {ts:Array TypeId} {fid:FuncId} {cap:List AV} (hx:bD l x=some (.fn fid [] cap))
  (hn:SL P E n ops Q rest (bP l ((fid,cap)::ds)) (bz s)):SL P E n ops Q (⟨none,.defer ⟨.value x,#[],ts⟩,ty,pos,af,none⟩::rest) (bP l ds) (bz s):=
 hQ rfl (AJ rfl (aC hx) (fun _ q=>by cases q) hn)
def EK:Option Value→FrameMode→Prop
 | none,u=>u=.returning
 | some c,u=>u=.panicking [{ v:=c,recovered:=false }]
def EL (P:Program) (f:FuncId) (cap:List AV) (σ:bX) (m:Option Value) (R:bX→Prop):Prop:=
 ∀ (wS:World) (g:Gh) (w:World) (vs:List Value) (u:FrameMode),Rel (Env.of wS g σ w) g σ w→eX g cap vs→EK m u→
  CallsD P f vs.toArray u w fun e u' w'=>(∃ v,e=.returned v)∧settle u'=.returning∧∃ g' σ',R σ'∧Rel (Env.of wS g σ w) g' σ' w'
def zr (P:Program) (f:FuncId) (cap:List AV) (es:List be) (m:Option Value) {X:Type} (res:ay X) (C:X→List be):Prop:=
 ∀ r,res=r→r≠.stuck→EL P f cap (bz (dC 0 es)) m (fun σ=>∃ x,r=.ok x∧σ=bz (dC 0 (C x)))
def zE (P:Program) (E:Env) (fn:Func) (R:nJ→bX→Prop) (fid:FuncId) (cap:List AV) (m:Option Value) (fr:dz) (σ:bX):Prop:=
 ∃ (π:Nat→Nat) (L:List Nat) (σ0:bX) (capC:List AV) (R0:bX→Prop),Enters P fid∧cap=AV.eZ.kT π capC∧EL P fid capC σ0 m R0∧(∀ j,(σ0 j).isSome=true→L.contains j=true)∧
  (∀ j e,σ0 j=some e→σ (π j)=some (e.eZ π))∧(∀ j j',(σ0 j).isSome=true→(σ0 j').isSome=true→π j=π j'→j=j')∧
  ∀ σc,R0 σc→tz E fr σ π L L σ0 σc (.eT [])∧mE P fn R .ret ⟨fr.s,[]⟩ (after σ π L L σc)
def tn (P:Program) (E:Env) (fn:Func) (R:nJ→bX→Prop):df
 | .normal,fr,σ|.ret,fr,σ=>mE P fn R .ret fr σ∨∃ fid cap,fr.ds=[(fid,cap)]∧zE P E fn R fid cap none fr σ
 | .panic v,fr,σ=>mE P fn R (.panic v) fr σ∨∃ fid cap c,fr.ds=[(fid,cap)]∧(∀ g c',VR g v c'→c'=c)∧zE P E fn R fid cap (some c) fr σ
 | _,_,_=>False
theorem zF {f:FuncId} {fn:Func} {c:Code} {args:List AV} {R:nJ→bX→Prop} (hf:P.funcs[f]?=some fn) (hb:fn.body=some c) (hn:args.length≤fn.ntmps)
  (h:∀ E:Env,(∀ k,(∀ cs,σ k≠some (.box cs))→E.fix k=none)→SW P E fn.ntmps c (tn P E fn R) ⟨fun i=>args[i]?.getD .any,[]⟩ σ):SC P f args σ R:=by
 intro wS g w vs hR hv
 have hE:∀ k,(∀ cs,σ k≠some (.box cs))→(Env.of wS g σ w).fix k=none:=fun k hk=>by
  cases q:σ k with
  | none=>simp only[Env.of,q]
  | some e=>cases e with
   | box cs=>exact absurd q (hk cs)
   | arr el sz cs=>simp only[Env.of,q]
   | app el sz cs=>simp only[Env.of,q]
 have hlen:=hv.length
 refine calls_of_wp_defers hf hb (wp_mono (h _ hE g { tmps:=vs.toArray++Array.replicate (fn.ntmps - vs.toArray.size) undef,defers:=[] } w hR ⟨by simp;omega,fun i=>?_,.nil⟩) fun e a w' hq=>?_)
 ·rw[Array.getD_eq_getD_getElem?]
  rcases Nat.lt_or_ge i args.length with q|q
  ·obtain ⟨c,h1,h2⟩:=hv.get i args[i] (by simp)
   have:(vs.toArray++Array.replicate (fn.ntmps - vs.toArray.size) undef)[i]?=some c:=by
    rw[Array.getElem?_append_left (by simp;omega)];simpa using h1
   rw[this]
   simp[q];exact h2
  ·have e:args[i]?=none:=List.getElem?_eq_none q
   simp only[e,Option.getD_none];exact .any _
 ·obtain ⟨g',ae,fr',σ',q,hx,hR',hF'⟩:=hq
  have fin:∀ g' (fr':dz) (a:Act) σ' w',Rel (Env.of wS g σ w) g' σ' w'→FR fn.ntmps g' fr' a→mE P fn R .ret fr' σ'→
    ∃ c,(results fn a.tmps).run P w'=.ok c w'∧∃ g' ae σ',R ae σ'∧ER g' ae (.returned c)∧Rel (Env.of wS g σ w) g' σ' w':=by
   intro g' fr' a σ' w' hR' hF' ⟨_,vs,v,σ2,h1,h2,hs,h3⟩
   obtain ⟨cs,h4,h5⟩:=h1.run hR' hF'
   refine ⟨if hh:cs.toArray.size=1 then cs.toArray[0] else .tuple cs.toArray,?_,g',.ret v,σ2,h3,.ret (h2 g' _ h5.mi),hR'.sub hs⟩
   rw[rS,← Array.toArray_toList (xs:=fn.results)]
   simp only[List.mapM_toArray,Sem.run_bind,Sem.run_map,h4,Result.andThen_ok,Sem.run_pure]
  have runs:∀ fid cap m u,fr'.ds=[(fid,cap)]→zE P (Env.of wS g σ w) fn R fid cap m fr' σ'→EK m u→u≠.run→
    Leaves P fn a.tmps (fun e w'=>∃ g' ae σ',R ae σ'∧ER g' ae e∧Rel (Env.of wS g σ w) g' σ' w') a.defers u w':=by
   intro fid cap m u hds ⟨π,L,σ0,capC,R0,hen,hcap,hC,hL,hσ,hinj,hback⟩ hm hu
   have hdr:=hF'.ds;rw[hds] at hdr
   generalize hdf:a.defers=dd at hdr
   cases hdr with
   | cons hv hnil=>
    rename_i cv ds
    have:ds=[]:=hnil.mG
    subst this
    rw[hcap] at hv
    refine ⟨hu,.func fid,cv.toArray,fid,cv.toArray,rfl,by simpa[invoke] using hen cv.toArray w',?_⟩
    refine (hC (Env.of wS g σ w).wS (g'.pull π) w' cv u (yq hR' hσ hinj) hv.pull hm).mono fun e u' w2 ⟨⟨v,he⟩,hset,g2,σ2,hr0,hR2⟩=>?_
    subst he
    obtain ⟨hB,hpost⟩:=hback σ2 hr0
    obtain ⟨h1,h2,_⟩:=sK (v:=.eT []) (c:=.tuple #[]) hR' hF' hL hσ hB hR2 (.eT .nil)
    simp only[hset]
    exact fin _ ⟨fr'.s,[]⟩ { tmps:=a.tmps,defers:=[] } _ _ h1 ⟨h2.size,h2.gh,.nil⟩ hpost
  cases hx with
  | normal=>
   rcases q with q|⟨fid,cap,hds,hrun⟩
   ·have hd:=hF'.ds;rw[q.1] at hd
    simp only[bodyPostD,hd.mG]
    exact fin _ _ _ _ _ hR' hF' q
   ·exact runs fid cap none .returning hds hrun rfl (by simp)
  | ret=>
   rcases q with q|⟨fid,cap,hds,hrun⟩
   ·have hd:=hF'.ds;rw[q.1] at hd
    simp only[bodyPostD,hd.mG]
    exact fin _ _ _ _ _ hR' hF' q
   ·exact runs fid cap none .returning hds hrun rfl (by simp)
  | panic hv=>
   rcases q with ⟨hd,σ2,hs,h1⟩|⟨fid,cap,c,hds,hc,hrun⟩
   ·have hdd:=hF'.ds;rw[hd] at hdd
    simp only[bodyPostD,hdd.mG]
    exact ⟨g',_,σ2,h1,.panic hv,hR'.sub hs⟩
   ·rw[hc _ _ hv]
    exact runs fid cap (some c) _ hds hrun rfl (by simp)
  | exit id=>exact q.elim
  | goto l=>exact q.elim
end
section
variable {P:Program} {E:Env} {n:Nat} {ops:Array Oper} {Q:df} {rest:List Oper} {l:List (Nat×AV)} {ds:List (FuncId×List AV)} {s:List (Nat×be)} {ty:TypeId} {pos:String} {af:Array Edge}
theorem AK {f:FuncId} {fn:Func} {c:Code} {args:List AV} {es:List be} {X:Type} {res:ay X} {V:X→AV} {C:X→List be} (hf:P.funcs[f]?=some fn) (hb:fn.body=some c) (hn:Nat.ble args.length fn.ntmps=true)
  (h:∀ r,res=r→r≠.stuck→∀ E:Env,(∀ k,jS es k=true→E.fix k=none)→
   SW P E fn.ntmps c (tn P E fn (o9 V C (fun x=>r=.ok x) (fun v=>∃ p,r=.nl p∧v=p.av))) (bP ((List.range args.length).zip args) []) (bz (dC 0 es))):CT P f args es res V C:=
 fun r hr hs=>zF hf hb (Nat.le_of_ble_eq_true hn) fun E hE=>by
  rw[uj]
  refine h r hr hs E fun k hk=>hE k fun cs hcs=>?_
  obtain ⟨_,h2⟩:=eh hcs
  have h3:∀ (es:List be) (k:Nat),jS es k=true→es[k]?≠some (.box cs):=by
   intro es
   induction es with
   | nil=>intro k _;simp
   | cons e es ih=>
    intro k hk
    cases k with
    | zero=>intro q;simp at q;subst q;simp[jS] at hk
    | succ k=>simpa using ih k (by cases e<;>simpa[jS] using hk)
  exact h3 es k hk (by simpa using h2)
def pc {α:Type} (x:ay α) (h:rX→ay α):ay α:=match x with
 | .stuck=>.stuck
 | .nl p=>h p
 | .ok a=>.ok a
theorem tN {α:Type} {x:ay α} {h:rX→ay α} {r:ay α} (hr:r≠.stuck) (hc:pc x h=r):∃ r0,r0≠.stuck∧x=r0∧pc r0 h=r:=by
 refine ⟨x,?_,rfl,hc⟩
 intro q;subst q;exact hr hc.symm
def ss {α:Type} (T:TypeId) (p:rX) (k:Int→ay α):ay α:=match p with
 | ⟨t,[.sc (.int .i64 v)]⟩=>if t=T then k v else .stuck
 | _=>.stuck
theorem nr {α:Type} {T:TypeId} {p:rX} {k:Int→ay α} {r:ay α} (hr:r≠.stuck) (h:ss T p k=r):∃ v,p=⟨T,[.sc (.int .i64 v)]⟩∧k v=r:=by
 unfold ss at h
 split at h
 ·split at h
  ·rename_i v q;subst q;exact ⟨v,rfl,h⟩
  ·exact absurd h.symm hr
 ·exact absurd h.symm hr
theorem AL {g:Gh} {T:TypeId} {v:Int} {c:Value} (h:VR g (rX.av ⟨T,[.sc (.int .i64 v)]⟩) c):c=.iface T (.agg #[.int .i64 v]):=by
 simp only[rX.av,List.map_cons,List.map_nil] at h
 cases h with
 | ln _ h=>cases h with
  | agg h=>cases h with
   | cons h t=>
    cases t
    rw[h.cN]
theorem zH {fn:Func} {R:nJ→bX→Prop} {fr:dz} {σ:bX} (h:mE P fn R .normal fr σ):mE P fn R .ret fr σ:=h
theorem AM {fn:Func} {R:nJ→bX→Prop} {ae:rE} (hae:ae=.ret∨ae=.normal) {fr:dz} {σ:bX} (h:mE P fn R ae fr σ):tn P E fn R ae fr σ:=by
 rcases hae with rfl|rfl
 ·exact .inl h
 ·exact .inl (zH h)
structure yI (E:Env) (l:List (Nat×AV)) (s:List (Nat×be)) (ks:List Nat) (cap capC:List AV) (es:List be):Prop where
 c:cap=AV.eZ.kT (nth ks) capC
 gs:sn s ks=some (jy (nth ks) es)
 nd:nodupB ks=true
 bx:fj es=true
theorem vA:∀ {ks:List Nat} {es:List be},fj es=true→uX E ks es
 | [],_,_=>by cases ‹List be›<;>trivial
 | _::_,[],_=>trivial
 | k::ks,.box cs::es,h=>by simp only[uX];exact vA (by simpa[fj] using h)
 | _::_,.arr _ _ _::_,h=>by simp[fj] at h
 | _::_,.app _ _ _::_,h=>by simp[fj] at h
theorem xi {ks0:List Nat}:∀ {ks:List Nat} {es:List be},fj es=true→yx l ds s ks0 ks es=true
 | [],_,_=>by cases ‹List be›<;>rfl
 | _::_,[],_=>rfl
 | k::ks,.box cs::es,h=>by simp only[yx];simp[xi (ks:=ks) (es:=es) (by simpa[fj] using h)]
 | _::_,.arr _ _ _::_,h=>by simp[fj] at h
 | _::_,.app _ _ _::_,h=>by simp[fj] at h
theorem Cz {fn:Func} {R:nJ→bX→Prop} {fid:FuncId} {cap capC:List AV} {es:List be} {ks:List Nat} {m:Option Value} {X:Type} {res:ay X} {C:X→List be} (hen:Enters P fid) (hC:zr P fid capC es m res C) (hns:res≠.stuck)
  (hk:yI E l s ks cap capC es) (hx:∀ x,(C x).length=ks.length∧iR (below ks.length) (C x)=true)
  (hret:∀ x,res=.ok x→mE P fn R .ret (bP l []) (bz (kH ks (jy (nth ks) (C x))++s))):zE P E fn R fid cap m (bP l [(fid,cap)]) (bz s):=by
 obtain ⟨hl,hat⟩:=nj hk.gs
 rw[fL] at hl
 refine ⟨nth ks,List.range ks.length,bz (dC 0 es),capC,_,hen,hk.c,hC res rfl hns,fun j hj=>by have:=mK hj;simp;omega,fun j e hj=>?_,
  fun j j' hj hj' he=>mI hk.nd (by have:=mK hj;omega) (by have:=mK hj';omega) he,?_⟩
 ·obtain ⟨_,h2⟩:=eh hj
  exact hat j _ (by rw[lF,show j=j - 0 by omega,h2];rfl)
 ·rintro σc ⟨x,hxr,rfl⟩
  obtain ⟨h1,h2⟩:=hx x
  refine ⟨oI (l:=l) (ds:=[(fid,cap)]) ⟨rfl,rfl⟩ hl hk.nd (xi hk.bx) (vA hk.bx) h1 h2 rfl,?_⟩
  rw[nq hk.nd h1];exact hret x hxr
theorem zI {fn:Func} {R:nJ→bX→Prop} {ae:rE} (hae:ae=.ret∨ae=.normal) {fid:FuncId} {cap capC:List AV} {es:List be} (ks:List Nat) {X:Type} {x:X} {C:X→List be} (hen:Enters P fid) (hC:zr P fid capC es none (ay.ok x) C)
  (hk:yI E l s ks cap capC es) (hx:∀ x,(C x).length=ks.length∧iR (below ks.length) (C x)=true) {s':List (Nat×be)} (hs:kH ks (jy (nth ks) (C x))++s=s')
  (hret:mE P fn R .ret (bP l []) (bz s')):tn P E fn R ae (bP l [(fid,cap)]) (bz s):=by
 have:zE P E fn R fid cap none (bP l [(fid,cap)]) (bz s):=Cz hen hC (by simp) hk hx fun y q=>by cases q;rw[hs];exact hret
 rcases hae with rfl|rfl
 ·exact .inr ⟨fid,cap,rfl,this⟩
 ·exact .inr ⟨fid,cap,rfl,this⟩
theorem n7 {d:Nat} {X R:Type} {res:ay X} {kk:X→ay R} {r:ay R} {V V':X→AV} {C:X→List be} {C':X→List (Nat×be)} {f:Operand} {args:List Operand} {ts:Array TypeId} {fid:FuncId}
  {argsC first cap vs:List AV} {es:List be} (hr:r≠.stuck) (h:ay.bind res kk=r) (ks:List Nat) (hen:Enters P fid)
  (hC:CT P fid argsC es res V C) (hk:kI E ds l s ks f args fid argsC es first cap vs) (hbb:fj es=true) (hd:Nat.blt d n=true)
  (hx:∀ x,(C x).length=ks.length∧iR (below ks.length) (C x)=true∧(V x).only (below ks.length)=true)
  (hV:∀ x,(V x).eZ (nth ks)=V' x∧kH ks (jy (nth ks) (C x))=C' x)
  {sp:List (Nat×be)} (hsp:kH ks (jy (nth ks) (es.map be.lost))++s=sp) (hpan:∀ p,r=.nl p→Q (.panic p.av) (bP l ds) (bz sp))
  (hret:∀ x,kk x=r→SL P E n ops Q rest (bP ((d,V' x)::l) ds) (bz (C' x++s))) :
  SL P E n ops Q (⟨some d,.call ⟨.value f,args.toArray,ts⟩,ty,pos,af,none⟩::rest) (bP l ds) (bz s):=by
 obtain ⟨hns,hok,hp⟩:=jT hr h
 subst hsp
 refine hQ rfl (xX ks hen rfl (hC res rfl hns) hk hbb (lz hd) (fun x _=>hx x) (fun x hg=>?_) (fun v hv=>?_))
 ·have:=hret x (hok x hg)
  rw[← (hV x).1,← (hV x).2] at this;exact this
 ·obtain ⟨p,hp1,rfl⟩:=hv
  exact ⟨p.only _,hpan p (hp p hp1)⟩
end
end Go.Abs
end
section
namespace Go.Abs
open ay
def ns (k:IntKind) (x y:Int):Int:=k.wrap (x*2 ^ (min y.toNat k.bits))
def AN (k:IntKind) (x y:Int):Int:=k.wrap (BitVec.ofInt k.bits x&&& BitVec.ofInt k.bits y).toNat
def vB (k:IntKind) (x y:Int):Int:=k.wrap (BitVec.ofInt k.bits x||| BitVec.ofInt k.bits y).toNat
def D4 (k:IntKind) (x y:Int):Int:=k.wrap (BitVec.ofInt k.bits x ^^^ BitVec.ofInt k.bits y).toNat
def zJ (k:IntKind) (x:Int):Int:=D4 k (if k.signed then -1 else k.max) x
def ia (l:List Int) (i:Int):Int:=l.getD i.toNat 0
def qC (l:List Int) (i v:Int):List Int:=l.set i.toNat v
def jI (l:List Int):List UInt8:=l.map fun i=>UInt8.ofNat i.toNat
section
variable {P:Program} {l:List (Nat×AV)} {ds:List (FuncId×List AV)} {s:List (Nat×be)}
theorem xY {xt yt:TypeId} {x y:Operand} {k:IntKind} {a b:Int} (hx:bD l x=some (Sc (.int k a))) (hy:bD l y=some (Sc (.int k b))) (h:b≠0):hP P (.binOp .quo xt x y yt) l ds s (Sc (.int k (k.wrap (a.tdiv b)))) []:=
 .of (sh (aC hx) (aC hy) fun w=>by simp[binOp,Op.intDiv,h])
theorem AO {xt yt:TypeId} {x y:Operand} {k:IntKind} {a b:Int} (hx:bD l x=some (Sc (.int k a))) (hy:bD l y=some (Sc (.int k b))) (h:b≠0):hP P (.binOp .rem xt x y yt) l ds s (Sc (.int k (a.tmod b))) []:=
 .of (sh (aC hx) (aC hy) fun w=>by simp[binOp,Op.intDiv,h])
theorem wv {xt yt:TypeId} {x y:Operand} {k k':IntKind} {a b:Int} (hx:bD l x=some (Sc (.int k a))) (hy:bD l y=some (Sc (.int k' b))) (h:0≤b):hP P (.binOp .shl xt x y yt) l ds s (Sc (.int k (ns k a b))) []:=
 .of (sh (aC hx) (aC hy) fun w=>by simp[binOp,Op.shift,Int.not_lt.2 h,ns])
theorem C6 {xt yt:TypeId} {x y:Operand} {k:IntKind} {a b:Int} (hx:bD l x=some (Sc (.int k a))) (hy:bD l y=some (Sc (.int k b))):hP P (.binOp .and xt x y yt) l ds s (Sc (.int k (AN k a b))) []:=
 .of (sh (aC hx) (aC hy) fun w=>by simp[binOp,Op.intBits,AN])
theorem xj {xt yt:TypeId} {x y:Operand} {k:IntKind} {a b:Int} (hx:bD l x=some (Sc (.int k a))) (hy:bD l y=some (Sc (.int k b))):hP P (.binOp .or xt x y yt) l ds s (Sc (.int k (vB k a b))) []:=
 .of (sh (aC hx) (aC hy) fun w=>by simp[binOp,Op.intBits,vB])
theorem CA {op:UnOp} {t:TypeId} {fr:dz} {x:Operand} {a c:Value} (hx:fr.val x=Sc a) (h:∀ w,(Op.unary op a).run P w=.ok c w):eD P (.unOp op t x) fr [] (Sc c):=by
 intro o ho g ev w _ hv _
 have q1:=hv x (by simp[Op.operands]);rw[hx] at q1
 exact ⟨c,by simp[execOp,ho,q1.cN,h],.pv (.sc _)⟩
theorem C7 {t:TypeId} {x:Operand} {k:IntKind} {a:Int} (hx:bD l x=some (Sc (.int k a))):hP P (.unOp .neg t x) l ds s (Sc (.int k (k.wrap (0 - a)))) []:=
 .of (CA (aC hx) fun w=>by simp[Op.unary,Op.intArith])
theorem C8 {t:TypeId} {x:Operand} {k:IntKind} {a:Int} (hx:bD l x=some (Sc (.int k a))):hP P (.unOp .xor t x) l ds s (Sc (.int k (zJ k a))) []:=
 .of (CA (aC hx) fun w=>by simp[Op.unary,Op.intBits,zJ,D4])
def Oe (T:TypeId) (b:Bool):AV:=match b with
 | true=>.ln T .any
 | false=>Sc .nilIface
class zN (P:Program) (t:TypeId):Prop where h:∃ ms,P.underlying t=some (.interface ms)
theorem AP {t:TypeId} (ht:∃ ms,P.underlying t=some (.interface ms)) (u:TypeId) (v:Value) (w:World):(Op.equal t (.iface u v) .nilIface).run P w=.ok false w:=by
 obtain ⟨ms,ht⟩:=ht
 have:∀ d,(Op.equalIn (d+1) t (.iface u v) .nilIface).run P w=.ok false w:=fun d=>by simp[Op.equalIn,run_underlying ht]
 exact this 9999
theorem AQ {t:TypeId} (ht:∃ ms,P.underlying t=some (.interface ms)) (w:World):(Op.equal t .nilIface .nilIface).run P w=.ok true w:=by
 obtain ⟨ms,ht⟩:=ht
 have:∀ d,(Op.equalIn (d+1) t .nilIface .nilIface).run P w=.ok true w:=fun d=>by simp[Op.equalIn,run_underlying ht]
 exact this 9999
theorem BS {xt yt u:TypeId} {fr:dz} {x y:Operand} {v:AV} (ht:∃ ms,P.underlying xt=some (.interface ms)) (hx:fr.val x=.ln u v) (hy:fr.val y=Sc .nilIface):eD P (.binOp .neq xt x y yt) fr [] (Bo true):=by
 intro o ho g ev w _ hv _
 have q1:=hv x (by simp[Op.operands]);rw[hx] at q1
 have q2:=hv y (by simp[Op.operands]);rw[hy] at q2
 generalize hq:ev x=c at q1
 cases q1 with
 | ln _ h=>
  rename_i vv
  refine ⟨.bool true,?_,.pv (.sc _)⟩
  simp[execOp,ho,hq,q2.cN,eqGuard,binOp,AP ht u vv w]
theorem BT {xt yt:TypeId} {fr:dz} {x:Operand} (ht:∃ ms,P.underlying xt=some (.interface ms)) (hx:fr.val x=Sc .nilIface):eD P (.binOp .neq xt x (.const .nilIface) yt) fr [] (Bo false):=by
 intro o ho g ev w _ hv _
 have q1:=hv x (by simp[Op.operands]);rw[hx] at q1
 have q2:=hv (.const .nilIface) (by simp[Op.operands])
 have e2:ev (.const .nilIface)=.nilIface:=VR.cN q2
 refine ⟨.bool false,?_,.pv (.sc _)⟩
 simp[execOp,ho,q1.cN,e2,eqGuard,binOp,AQ ht w]
theorem sX {xt yt u:TypeId} {x y:Operand} {v:AV} [ht:zN P xt] (hx:bD l x=some (.ln u v)) (hy:bD l y=some (Sc .nilIface)):hP P (.binOp .neq xt x y yt) l ds s (Bo true) []:=.of (BS ht.h (aC hx) (aC hy))
theorem sY {xt yt:TypeId} {x:Operand} [ht:zN P xt] (hx:bD l x=some (Sc .nilIface)):hP P (.binOp .neq xt x (.const .nilIface) yt) l ds s (Bo false) []:=.of (BT ht.h (aC hx))
theorem AR {xt yt T:TypeId} {x:Operand} {b:Bool} [ht:zN P xt] (hx:bD l x=some (Oe T b)):hP P (.binOp .neq xt x (.const .nilIface) yt) l ds s (Bo b) []:=by
 cases b with
 | true=>exact sX hx rfl
 | false=>exact sY hx
theorem C9 {xt t:TypeId} {fr:dz} {x:Operand} {v:AV} {d:TypeDesc} (ht:P.underlying t=some d) (hd:Ah d=false) (hx:fr.val x=.ln t v):eD P (.typeAssert x xt t true) fr [] (.eT [v,Bo true]):=by
 intro o ho g ev w _ hv _
 have q1:=hv x (by simp[Op.operands]);rw[hx] at q1
 generalize hq:ev x=c at q1
 cases q1 with
 | ln _ h=>
  rename_i vv
  refine ⟨.tuple [vv,.bool true].toArray,?_,.eT (.cons h (.cons (.pv (.sc _)) .nil))⟩
  simp only[execOp,ho,hq,Instr.typeAssert,Sem.run_bind,run_underlying ht,Result.andThen_ok]
  cases d<;>simp_all [Ah]
theorem CB {xt t:TypeId} {x:Operand} {v:AV} [ht:AB P t] (hx:bD l x=some (.ln t v)):hP P (.typeAssert x xt t true) l ds s (.eT [v,Bo true]) []:=by
 have h:=ht.h
 cases hu:P.underlying t with
 | none=>simp[hu] at h
 | some d=>simp[hu] at h;exact .of (C9 hu h (aC hx))
theorem xk (f:Int→AV):∀ {xs:List Int} {i:Int},0≤i→i<xs.length→(xs.map f)[i.toNat]?=some (f (ia xs i)):=fun {xs i} h0 h1=>by
 have:i.toNat<xs.length:=by omega
 simp[ia,this]
theorem Da (f:Int→AV) {t e:TypeId} {x ix:Operand} {n:Nat} {k:IntKind} {i:Int} {xs:List Int} {cs:List AV} [ht:jC P t (.array n e)] [ha:gj P e false] [hz:lp P e 1]
  (hx:bD l x=some (.agg cs)) (hi:bD l ix=some (Sc (.int k i))) (hc:cs=xs.map f) (hn:xs.length=n) (h0:0≤i) (h1:i<n):hP P (.index t x ix) l ds s (f (ia xs i)) []:=
 .of (vW ht.h ha.h hz.h (aC hx) (aC hi) h0 h1 (by rw[hc];exact xk f h0 (by rw[hn];exact h1)))
theorem wx (f:Int→AV) {t:TypeId} {x:Operand} {k:Nat} {i:Int} {xs:List Int} {cs:List AV} [ha:gj P t false] (hx:bD l x=some (.ptr k (0+i.toNat*1))) (hk:cR s k=some (.box cs)) (hc:cs=xs.map f) (h0:0≤i) (h1:i<xs.length) :
  hP P (.load t x) l ds s (f (ia xs i)) [(k,.box cs)]:=
 .on hk (qk ha.h (aC hx) (by simp only[be.cells];rw[hc,show 0+i.toNat*1=i.toNat by omega];exact xk f h0 h1))
end
end Go.Abs
end
section
namespace Go.Abs
open ay
theorem gZ.mL {g:Gh} {w:World} {k sz:Nat} {el:TypeId} {cells:List PV} (h:gZ g w k (.arr el sz cells)):(g.ρ k=none∧cells=[])∨
  ∃ (b:Nat) (cs:Array Value) (el':TypeId),g.ρ k=some b∧w.heap[b]?=some (.cells cs el' (0,0))∧cells.length≤cs.size∧cs.size=g.cp k*sz:=by
 generalize he:be.arr el sz cells=e at h
 cases h with
 | box=>cases he
 | nI h=>cases he;exact .inl ⟨h,rfl⟩
 | arr h hw hl hz=>cases he;exact .inr ⟨_,_,_,h,hw,hl,hz⟩
 | tR=>cases he
 | app=>cases he
theorem VR.mL {g:Gh} {k n:Nat} {c:Value} (h:VR g (.arr k n) c):(∃ b,g.ρ k=some b∧c=.slice (some ⟨b,0,none⟩) n (g.cp k))∨(g.ρ k=none∧n=0∧c=.slice none 0 0):=by
 generalize he:AV.arr k n=e at h
 cases h with
 | arr m hb=>cases he;exact .inl ⟨_,hb,rfl⟩
 | nI hb=>cases he;exact .inr ⟨hb,rfl,rfl⟩
 | _=>cases he
theorem Rel.freeze {E:Env} {g:Gh} {σ:bX} {w:World} (h:Rel E g σ w) {k b:Nat} {e:be} {ys:List PV} (hk:σ k=some e) (hea:e.isApp=false) (hfx:E.fix k=none) (hb:g.ρ k=some b) (hc:e.cells=ys.map .pv) :
  Rel E (g.cH b ys) (σ.del k) w:=by
 have hG:=h.apart k b e hk hea hb
 have hle:je (fun _=>False) g (g.cH b ys):=je.cH g b ys hG
 have hks:(σ k).isSome=true:=by rw[hk];rfl
 have hdel:∀ j e',(σ.del k) j=some e'→j≠k∧σ j=some e':=fun j e' hj=>by
  by_cases q:j=k
  ·subst q;simp[bX.del] at hj
  ·exact ⟨q,by simpa[bX.del,q] using hj⟩
 have hdels:∀ j,((σ.del k) j).isSome=true→j≠k∧(σ j).isSome=true:=fun j hj=>by
  by_cases q:j=k
  ·subst q;simp[bX.del] at hj
  ·exact ⟨q,by simpa[bX.del,q] using hj⟩
 have hne:∀ j c,j≠k→(σ j).isSome=true→g.ρ j=some c→c≠b:=fun j c hj hs hc q=>by
  subst q;exact hj (h.inj j k c hs hks hc hb)
 have hfb:∀ j,E.fix j≠some b:=fun j q=>by
  have:=h.x.mg j b k q hks hb
  subst this;rw[hfx] at q;cases q
 obtain ⟨cs,el,hw,hcl,hcv⟩:=(h.iN k e hk).at hb
 rw[hc] at hcl hcv
 simp only[List.length_map] at hcl hcv
 refine { iN:=?_,inj:=?_,gl:=?_,apart:=?_,size:=h.size,mY:=h.mY,own:=?_,fix:=h.fix,gE:=h.gE,g0:=?_,gn:=?_,os:=h.os,out:=h.out,tape:=h.tape,x:=?_ }
 ·intro j e' hj
  obtain ⟨q,hj'⟩:=hdel j e' hj
  exact (h.iN j e' hj').le hle (fun q=>q) (fun c hc _=>by simp[Gh.cH,hne j c q (by rw[hj'];rfl) hc]) (fun _ q=>q.elim) (fun _ _=>rfl)
 ·exact fun j j' c hj hj'=>h.inj j j' c (hdels j hj).2 (hdels j' hj').2
 ·intro c zs hz
  by_cases q:c=b
  ·subst q;simp[Gh.cH] at hz;subst hz
   exact ⟨cs,el,(0,0),hw,hcl,(kB.tW hcv).le hle⟩
  ·simp[Gh.cH,q] at hz
   obtain ⟨c1,e1,f1,h1,h2,h3⟩:=h.gl c zs hz
   exact ⟨c1,e1,f1,h1,h2,h3.le hle⟩
 ·intro j c e' hj hja hc'
  obtain ⟨q,hj'⟩:=hdel j e' hj
  have:=hne j c q (by rw[hj'];rfl) hc'
  simp only[Gh.cH,this,if_false]
  exact h.apart j c e' hj' hja hc'
 ·exact fun j c hj hc=>h.own j c (hdels j hj).2 hc
 ·intro c zs hz
  obtain ⟨us,h1⟩:=h.g0 c zs hz
  obtain ⟨vs,h2⟩:=hle.G c _ h1
  exact ⟨us++vs,by rw[h2,List.append_assoc]⟩
 ·intro c zs hz
  by_cases q:c=b
  ·subst q
   rcases h.own k c hks hb with q|q
   ·exact .inr (.inl q)
   ·exact .inr (.inr q)
  ·simp[Gh.cH,q] at hz;exact h.gn c zs hz
 ·exact {
      uV:=h.x.uV,flat:=h.x.flat,set:=h.x.set,uW:=h.x.uW,gf:=h.x.gf,mf:=h.x.mf
      hi:=fun j c hj hc=>h.x.hi j c (hdels j hj).2 hc
      mD:=fun j c hf=>by
       have:c≠b:=fun q=>by subst q;exact hfb j hf
       simp only[Gh.cH,this,if_false];exact h.x.mD j c hf
      mg:=fun j c j' hf hj hc=>h.x.mg j c j' hf (hdels j' hj).2 hc
      mh:=fun j c e' hf hj=>h.x.mh j c e' hf (hdel j e' hj).2 }
section
variable {P:Program} {E:Env} {n:Nat} {ops:Array Oper} {Q:df} {rest:List Oper} {l:List (Nat×AV)} {ds:List (FuncId×List AV)} {s:List (Nat×be)}
 {ty:TypeId} {pos:String} {af:Array Edge}
theorem Ex (l:List (Nat×AV)) (s:List (Nat×be)):dU E n l ds s l s:=fun g _ _ hR hF=>⟨g,hR,hF⟩
theorem AS {α:Type} {C:α→List PV} {Cs:List α→List PV} {g:Gh} {w:World} {b sz k:Nat} {el:TypeId} {xs:List α} (lq:∀ l,Cs l=l.flatMap C) (hC:∀ x,(C x).length=sz) (hz:0<sz) (hb:g.ρ k=some b)
  (he:gZ g w k (.arr el sz (Cs xs))):VR (g.cH b (Cs xs)) (.pv (.sl xs.length (Cs xs))) (.slice (some ⟨b,0,none⟩) xs.length (g.cp k)):=by
 rcases he.mL with ⟨h,_⟩|⟨b',cs,el',h,hw,hl,hz'⟩
 ·rw[h] at hb;cases hb
 ·rw[h] at hb;cases hb
  refine .pv (.sl _ (Cs xs) 0 _ _ (Cs xs) (by simp[Gh.cH]) (by simp) (by simp) ?_)
  have h1:xs.length*sz≤g.cp k*sz:=by
   rw[← hz']
   rw[lq,fM hC] at hl;exact hl
  exact Nat.le_of_mul_le_mul_right h1 hz
theorem xl {α:Type} {C:α→List PV} {sz:Nat} (hC:∀ x,(C x).length=sz) (hz:0<sz) {xs:List α} (h:xs.flatMap C=[]):xs=[]:=by
 have:=fM hC xs
 rw[h] at this
 cases xs with
 | nil=>rfl
 | cons a l=>simp[Nat.succ_mul] at this;omega
theorem AT {α:Type} {C:α→List PV} {Cs:List α→List PV} {d k sz:Nat} {el:TypeId} {xs:List α} (lq:∀ l,Cs l=l.flatMap C) (hC:∀ x,(C x).length=sz) (hz:Nat.blt 0 sz=true) (hd:jx l d=some (.arr k (List.length xs)))
  (hk:cR s k=some (.arr el sz (Cs xs))) (hE:E.fix k=none):dU E n l ds s ((d,.pv (.sl (List.length xs) (Cs xs)))::l) (mJ k s):=fun g a w hR hF=>by
 have hks:=bG hk
 have hz':0<sz:=by simpa[Nat.blt_eq] using hz
 have hs:=hF.gh d
 simp only[bP,dV hd] at hs
 rw[nR]
 cases hb:g.ρ k with
 | none=>
  have hx:xs=[]:=by
   rcases (hR.iN k _ hks).mL with ⟨_,this⟩|⟨b',cs,el',h,_⟩
   ·rw[lq] at this;exact xl hC hz' (by simpa using this)
   ·rw[h] at hb;cases hb
  subst hx
  have e0:Cs ([]:List α)=[]:=by rw[lq];rfl
  refine ⟨g,hR.sub fun j e hj=>by
   unfold bX.del at hj
   split at hj
   ·cases hj
   ·exact hj,hF.size,fun i=>?_,hF.ds⟩
  by_cases q:i=d
  ·subst q;simp only[bP,jO,if_true]
   generalize a.tmps.getD i undef=c at hs ⊢
   rcases hs.mL with ⟨b',h,_⟩|⟨_,_,rfl⟩
   ·rw[h] at hb;cases hb
   ·rw[e0];exact .pv (.nil _ _)
  ·simpa[bP,jO,q] using hF.gh i
 | some b=>
  refine ⟨g.cH b (Cs xs),hR.freeze hks rfl hE hb rfl,?_⟩
  have hle:je (fun _=>False) g (g.cH b (Cs xs)):=je.cH g b _ (hR.apart k b _ hks rfl hb)
  have hF':=hF.le hle (fun _ q=>q.elim)
  refine ⟨hF'.size,fun i=>?_,hF'.ds⟩
  by_cases q:i=d
  ·subst q;simp only[bP,jO,if_true]
   generalize a.tmps.getD i undef=c at hs ⊢
   rcases hs.mL with ⟨b',h,rfl⟩|⟨h,_⟩
   ·rw[h] at hb;cases hb;exact AS lq hC hz' h (hR.iN k _ hks)
   ·rw[h] at hb;cases hb
  ·simpa[bP,jO,q] using hF'.gh i
theorem pd {α:Type} {C:α→List PV} {Cs:List α→List PV} {j off k sz:Nat} {el:TypeId} {xs:List α} {cs cs':List AV} (lq:∀ l,Cs l=l.flatMap C) (hC:∀ x,(C x).length=sz) (hz:Nat.blt 0 sz=true) (hj:cR s j=some (.box cs))
  (hc:cs[off]?=some (.arr k (List.length xs))) (hk:cR s k=some (.arr el sz (Cs xs))) (hE:E.fix k=none) (hcs:cs.set off (.pv (.sl (List.length xs) (Cs xs)))=cs') :
  dU E n l ds s l ((j,.box cs')::mJ k s):=fun g a w hR hF=>by
 subst hcs
 have hks:=bG hk
 have hjs:=bG hj
 have hz':0<sz:=by simpa[Nat.blt_eq] using hz
 have hjk:j≠k:=fun q=>by subst q;rw[hjs] at hks;cases hks
 have fin:∀ g',Rel E g' ((bz s).del k) w→FR n g' (bP l ds) a→(∀ c,VR g (.arr k (List.length xs)) c→VR g' (.pv (.sl (List.length xs) (Cs xs))) c)→(∀ cs0:Array Value,eX g cs cs0.toList→eX g' (cs.set off (.pv (.sl (List.length xs) (Cs xs)))) cs0.toList)→
   g'.ρ j=g.ρ j→∃ g',Rel E g' (bz ((j,.box (cs.set off (.pv (.sl (List.length xs) (Cs xs)))))::mJ k s)) w∧FR n g' (bP l ds) a:=fun g' hR' hF' _ hbx hρ=>by
  refine ⟨g',?_,hF'⟩
  have e1:bz ((j,.box (cs.set off (.pv (.sl (List.length xs) (Cs xs)))))::mJ k s)=((bz s).del k).set j (.box (cs.set off (.pv (.sl (List.length xs) (Cs xs))))):=by
   rw[← nR];rfl
  rw[e1]
  have hjd:((bz s).del k) j=some (.box cs):=by simp[bX.del,hjk,hjs]
  cases hR.iN j _ hjs with
  | box h1 h2 h3 h4=>
   exact {
       iN:=fun i e he=>by
        by_cases q:i=j
        ·subst q;simp[bX.set] at he;subst he
         exact .box (hρ.trans h1) h2 (hbx _ h3) h4
        ·simp[bX.set,q] at he;exact hR'.iN i e he
       inj:=fun i i' b hi hi'=>hR'.inj i i' b (by
        by_cases q:i=j
        ·subst q;rw[hjd];rfl
        ·simpa[bX.set,q] using hi) (by
        by_cases q:i'=j
        ·subst q;rw[hjd];rfl
        ·simpa[bX.set,q] using hi')
       gl:=hR'.gl
       apart:=fun i b e he hea hb=>by
        by_cases q:i=j
        ·subst q;exact hR'.apart i b _ hjd rfl hb
        ·exact hR'.apart i b e (by simpa[bX.set,q] using he) hea hb
       size:=hR'.size,mY:=hR'.mY
       own:=fun i b hi hb=>hR'.own i b (by
        by_cases q:i=j
        ·subst q;rw[hjd];rfl
        ·simpa[bX.set,q] using hi) hb
       fix:=hR'.fix,gE:=hR'.gE,g0:=hR'.g0,gn:=hR'.gn,os:=hR'.os,out:=hR'.out,tape:=hR'.tape
       x:=hR'.x.qi rfl rfl (fun i b hi hb=>⟨i,by
        by_cases q:i=j
        ·subst q;rw[hjd];rfl
        ·simpa[bX.set,q] using hi,hb,.inl rfl⟩) (fun i b e' _ hi=>by
        by_cases q:i=j
        ·subst q;exact ⟨_,hjd,fun _=>(by simp[bX.set] at hi;exact ⟨_,hi.symm⟩)⟩
        ·exact ⟨e',by simpa[bX.set,q] using hi,id⟩) }
 cases hb:g.ρ k with
 | none=>
  have hx:xs=[]:=by
   rcases (hR.iN k _ hks).mL with ⟨_,this⟩|⟨b',cs,el',h,_⟩
   ·rw[lq] at this;exact xl hC hz' (by simpa using this)
   ·rw[h] at hb;cases hb
  have e0:Cs xs=[]:=by rw[hx,lq];rfl
  have hv:∀ c,VR g (.arr k (List.length xs)) c→VR g (.pv (.sl (List.length xs) (Cs xs))) c:=fun c hcv=>by
   rw[e0]
   rcases hcv.mL with ⟨b',h,_⟩|⟨_,hn,rfl⟩
   ·rw[h] at hb;cases hb
   ·rw[hn];exact .pv (.nil _ _)
  exact fin g (hR.sub fun i e hi=>by
   unfold bX.del at hi
   split at hi
   ·cases hi
   ·exact hi) hF hv (fun cs0 h3=>h3.set hc hv) rfl
 | some b=>
  have hle:je (fun _=>False) g (g.cH b (Cs xs)):=je.cH g b _ (hR.apart k b _ hks rfl hb)
  have hv:∀ c,VR g (.arr k (List.length xs)) c→VR (g.cH b (Cs xs)) (.pv (.sl (List.length xs) (Cs xs))) c:=fun c hcv=>by
   rcases hcv.mL with ⟨b',h,rfl⟩|⟨h,_⟩
   ·rw[h] at hb;cases hb;exact AS lq hC hz' h (hR.iN k _ hks)
   ·rw[h] at hb;cases hb
  refine fin _ (hR.freeze hks rfl hE hb rfl) (hF.le hle fun _ q=>q.elim) hv (fun cs0 h3=>?_) rfl
  have h4:=h3.le hle (fun _ q=>q.elim)
  exact h4.set (g:=g.cH b (Cs xs)) hc fun c hcv=>by
   rcases hcv.mL with ⟨b',h,rfl⟩|⟨h,_⟩
   ·have h':g.ρ k=some b':=h
    rw[h'] at hb;cases hb;exact AS lq hC hz' h' (hR.iN k _ hks)
   ·have h':g.ρ k=none:=h
    rw[h'] at hb;cases hb
theorem Db {d k:Nat} {ps:List PV} (hd:jx l d=some (.ptr k 0)) (hk:cR s k=some (.box (ps.map .pv))) (hE:E.fix k=none):dU E n l ds s ((d,.pv (.pt (some ps)))::l) (mJ k s):=fun g a w hR hF=>by
 have hks:=bG hk
 have hs:=hF.gh d
 simp only[bP,dV hd] at hs
 rw[nR]
 generalize hc:a.tmps.getD d undef=c at hs
 cases hs with
 | ptr _ hb=>
  rename_i b
  refine ⟨g.cH b ps,hR.freeze hks rfl hE hb rfl,?_⟩
  have hle:je (fun _=>False) g (g.cH b ps):=je.cH g b _ (hR.apart k b _ hks rfl hb)
  have hF':=hF.le hle (fun _ q=>q.elim)
  refine ⟨hF'.size,fun i=>?_,hF'.ds⟩
  by_cases q:i=d
  ·subst q;simp only[bP,jO,if_true];rw[hc]
   exact .pv (.z8 b ps 0 ps (by simp[Gh.cH]) (by simp) (by simp))
  ·simpa[bP,jO,q] using hF'.gh i
theorem AU (nm:Nat) {sz:Nat} {el:TypeId} (hE:E.fix nm=none) (hm:kq nm l=false∧iO nm ds=false∧mz nm s=false):dU E n l ds s l ((nm,.app el sz [])::s):=fun g a w hR hF=>
 ⟨g.unbind nm,hR.tK (iP hm.2.2) hE,hF.le (je.unbind g nm) (fun k q=>by subst q;exact eN hm.1 hm.2.1)⟩
theorem Dc (nm:Nat) {sz:Nat} {el:TypeId} (l':List (Nat×AV)) (s':List (Nat×be)) (hE:E.fix nm=none) (h1:rI l l' l') (h2:sq s s' s') (hm:kq nm l'=false∧iO nm ds=false∧mz nm s'=false) :
  dU E n l ds s l' ((nm,.app el sz [])::s'):=(dU.wR l' s' h1 h2).trans (AU nm hE hm)
theorem Rel.xm {E:Env} {g:Gh} {σ:bX} {w:World} (h:Rel E g σ w) {nm sz:Nat} {el:TypeId} (hc:σ.clear nm) (hf:E.fix nm=none):Rel E (g.unbind nm) (σ.set nm (.arr el sz [])) w:=by
 have h0:=h.tK (el:=el) (sz:=sz) hc hf
 have hρn:(g.unbind nm).ρ nm=none:=by simp[Gh.unbind]
 have hne:∀ j e,σ.set nm (.arr el sz []) j=some e→j≠nm→σ.set nm (.app el sz []) j=some e:=fun j e hj q=>by simpa[bX.set,q] using hj
 have hs:∀ j,(σ.set nm (.arr el sz []) j).isSome=true→(σ.set nm (.app el sz []) j).isSome=true:=fun j hj=>by
  by_cases q:j=nm
  ·subst q;simp[bX.set]
  ·simpa[bX.set,q] using hj
 exact {
     iN:=fun j e hj=>by
      by_cases q:j=nm
      ·subst q;simp[bX.set] at hj;subst hj;exact .nI hρn
      ·exact h0.iN j e (hne j e hj q)
     inj:=fun j j' b hj hj'=>h0.inj j j' b (hs j hj) (hs j' hj')
     gl:=h0.gl
     apart:=fun j b e hj hea hb=>by
      by_cases q:j=nm
      ·subst q;rw[hρn] at hb;cases hb
      ·exact h0.apart j b e (hne j e hj q) hea hb
     size:=h0.size,mY:=h0.mY,own:=fun j b hj=>h0.own j b (hs j hj),fix:=h0.fix,gE:=h0.gE,g0:=h0.g0,gn:=h0.gn,os:=h0.os,out:=h0.out,tape:=h0.tape
     x:=h0.x.qi rfl rfl (fun j b hj hb=>⟨j,hs j hj,hb,.inl rfl⟩) (fun j b e' hfj hj=>by
      have q:j≠nm:=fun q=>by subst q;rw[hf] at hfj;cases hfj
      exact ⟨e',hne j _ hj q,id⟩) }
theorem yJ {d:Nat} (nm:Nat) {sz:Nat} {el:TypeId} (hE:E.fix nm=none) (hd:jx l d=some (Sc (.slice none 0 0))) (hm:kq nm l=false∧iO nm ds=false∧mz nm s=false) :
  dU E n l ds s ((d,.arr nm 0)::l) ((nm,.arr el sz [])::s):=fun g a w hR hF=>by
 have h1:=hR.xm (el:=el) (sz:=sz) (iP hm.2.2) hE
 have h2:=hF.le (je.unbind g nm) (fun k q=>by subst q;exact eN hm.1 hm.2.1)
 refine ⟨g.unbind nm,h1,h2.size,fun i=>?_,h2.ds⟩
 by_cases q:i=d
 ·subst q
  have h3:=h2.gh i
  simp only[bP,dV hd] at h3
  simp only[bP,jO,if_true]
  rw[h3.cN];exact .nI (by simp[Gh.unbind])
 ·simpa[bP,jO,q] using h2.gh i
theorem qD {j off:Nat} (nm:Nat) {sz:Nat} {el:TypeId} {cs cs':List AV} (hE:E.fix nm=none) (hj:cR s j=some (.box cs)) (hc:cs[off]?=some (Sc (.slice none 0 0)))
  (hm:kq nm l=false∧iO nm ds=false∧mz nm s=false) (hjn:Nat.beq j nm=false) (hcs:cs.set off (.arr nm 0)=cs') :
  dU E n l ds s l ((j,.box cs')::(nm,.arr el sz [])::s):=fun g a w hR hF=>by
 subst hcs
 have hR:=hR.xm (el:=el) (sz:=sz) (iP hm.2.2) hE
 have hF:=hF.le (je.unbind g nm) (fun k q=>by subst q;exact eN hm.1 hm.2.1)
 have hjn':j≠nm:=fun q=>by subst q;simp at hjn
 have hjs:(bz s).set nm (.arr el sz []) j=some (.box cs):=by simp[bX.set,hjn',bG hj]
 refine ⟨g.unbind nm,?_,hF⟩
 have he:∀ i e,bz ((j,.box (cs.set off (.arr nm 0)))::(nm,.arr el sz [])::s) i=some e→(((bz s).set nm (.arr el sz [])) i).isSome=true∧(i≠j→((bz s).set nm (.arr el sz [])) i=some e):=fun i e h=>by
  by_cases q:i=j
  ·subst q;exact ⟨by rw[hjs];rfl,fun q=>absurd rfl q⟩
  ·have:((bz s).set nm (.arr el sz [])) i=some e:=by simpa[bz,jF,bX.set,q] using h
   exact ⟨by rw[this];rfl,fun _=>this⟩
 have hs:∀ i,(bz ((j,.box (cs.set off (.arr nm 0)))::(nm,.arr el sz [])::s) i).isSome=true→(((bz s).set nm (.arr el sz [])) i).isSome=true:=fun i h=>by
  cases q:bz ((j,.box (cs.set off (.arr nm 0)))::(nm,.arr el sz [])::s) i with
  | none=>rw[q] at h;cases h
  | some e=>exact (he i e q).1
 exact {
     iN:=fun i e h=>by
      by_cases q:i=j
      ·subst q
       have:e=.box (cs.set off (.arr nm 0)):=by simpa[bz,jF] using h.symm
       subst this
       cases hR.iN i _ hjs with
       | box h1 h2 h3 h4=>exact .box h1 h2 (h3.set hc fun c hc=>by rw[hc.cN];exact .nI (by simp[Gh.unbind])) h4
      ·exact hR.iN i e ((he i e h).2 q)
     inj:=fun i i' b h h'=>hR.inj i i' b (hs i h) (hs i' h')
     gl:=hR.gl
     apart:=fun i b e h hea hb=>by
      by_cases q:i=j
      ·subst q;exact hR.apart i b _ hjs rfl hb
      ·exact hR.apart i b e ((he i e h).2 q) hea hb
     size:=hR.size,mY:=hR.mY,own:=fun i b h=>hR.own i b (hs i h),fix:=hR.fix,gE:=hR.gE,g0:=hR.g0,gn:=hR.gn,os:=hR.os,out:=hR.out,tape:=hR.tape
     x:=hR.x.qi rfl rfl (fun i b hi hb=>⟨i,hs i hi,hb,.inl rfl⟩) (fun i b e' _ hi=>by
      by_cases q:i=j
      ·subst q;exact ⟨_,hjs,fun _=>(by simp[bz,jF] at hi;exact ⟨_,hi.symm⟩)⟩
      ·exact ⟨e',(he i _ hi).2 q,id⟩) }
end
end Go.Abs
end
section
namespace Go.Abs
open ay
theorem zO {α:Type} {f:α→List PV} {sz:Nat} (hf:∀ x,(f x).length=sz):∀ (l:List α) (i:Nat),(l.flatMap f).take (i*sz)=(l.take i).flatMap f:=by
 intro l
 induction l with
 | nil=>intro i;simp
 | cons a l ih=>
  intro i
  cases i with
  | zero=>simp
  | succ i=>
   rw[List.take_succ_cons,List.flatMap_cons,List.flatMap_cons,Nat.succ_mul,Nat.add_comm,List.take_append]
   rw[List.take_of_length_le (by rw[hf];omega),hf,show sz+i*sz - sz=i*sz by omega,ih]
theorem AW {α:Type} {f:α→List PV} {sz:Nat} (hf:∀ x,(f x).length=sz) {l:List α} {i d:Nat} {a a':α} {vs:List PV} (ha:l[i]?=some a) (hd:d+vs.length≤sz) (hu:f a'=(f a).take d++vs++(f a).drop (d+vs.length)) :
  (l.flatMap f).take (i*sz+d)++vs++(l.flatMap f).drop (i*sz+d+vs.length)=(l.set i a').flatMap f:=by
 have hlt:i<l.length:=(List.getElem?_eq_some_iff.1 ha).1
 have hdrop:=vu hf ha
 have e1:(l.flatMap f).take (i*sz+d)=(l.take i).flatMap f++(f a).take d:=by
  rw[List.take_add,zO hf,hdrop,List.take_append_of_le_length (by rw[hf];omega)]
 have e2:(l.flatMap f).drop (i*sz+d+vs.length)=(f a).drop (d+vs.length)++(l.drop (i+1)).flatMap f:=by
  rw[show i*sz+d+vs.length=i*sz+(d+vs.length) by omega,← List.drop_drop,hdrop,List.drop_append_of_le_length (by rw[hf];omega)]
  congr 1
  have:∀ (l:List α) (j:Nat),(l.flatMap f).drop (j*sz)=(l.drop j).flatMap f:=by
   intro l
   induction l with
   | nil=>intro j;simp
   | cons b l ih=>
    intro j
    cases j with
    | zero=>simp
    | succ j=>
     rw[List.drop_succ_cons,List.flatMap_cons,Nat.succ_mul,Nat.add_comm,← List.drop_drop]
     rw[List.drop_left' (hf b)];exact ih j
  exact this l (i+1)
 rw[e1,e2,List.set_eq_take_append_cons_drop,if_pos hlt,List.flatMap_append,List.flatMap_cons,hu]
 simp
section
variable {P:Program} {E:Env} {n:Nat} {ops:Array Oper} {Q:df} {rest:List Oper} {l:List (Nat×AV)} {ds:List (FuncId×List AV)} {s:List (Nat×be)}
 {ty:TypeId} {pos:String} {af:Array Edge}
theorem xn {k:Nat} {e:be}:bz ((k,e)::mJ k s)=(bz s).set k e:=by
 funext j
 have h:=congrFun (nR (k:=k) (s:=s)) j
 simp only[bz,bX.del,bX.set,jF] at h ⊢
 by_cases q:j=k
 ·simp[q]
 ·simp only[q,if_false] at h ⊢;exact h
structure uY (P:Program) {α:Type} (C:α→List PV) (Cs:List α→List PV) (l:List (Nat×AV)) (s:List (Nat×be)) (t:TypeId) (x y:Operand) (k off m sz:Nat) (el:TypeId) (i:Int) (xs:List α) (a a':α) (v:AV) (vs:List PV):Prop where
 lq:∀ l,Cs l=l.flatMap C
 hC:∀ x,(C x).length=sz
 h0:0≤i
 ha:xs[i.toNat]?=some a
 hx:bD l x=some (.ptr k (i.toNat*sz+off))
 hk:cR s k=some (.arr el sz (Cs xs))
 hy:bD l y=some v
 hv:v.eg=some (vs.map .pv)
 h1:PV.iG vs=true
 ht:uT P t=some m
 hm:vs.length=m
 hb:Nat.ble (off+vs.length) sz=true
 hu:C a'=(C a).take off++vs++(C a).drop (off+vs.length)
theorem uY.yp {α:Type} {C:α→List PV} {Cs:List α→List PV} {t:TypeId} {x y:Operand} {k off m sz:Nat} {el:TypeId} {i:Int} {xs:List α} {a a':α} {v:AV} {vs:List PV} (h:uY P C Cs l s t x y k off m sz el i xs a a' v vs) :
  (be.arr el sz (Cs xs)).yp (i.toNat*sz+off) (vs.map .pv)=.arr el sz (Cs (xs.set i.toNat a')):=by
 simp only[be.yp,List.length_map,tY]
 rw[h.lq,h.lq,AW h.hC h.ha (Nat.le_of_ble_eq_true h.hb) h.hu]
theorem uY.le {α:Type} {C:α→List PV} {Cs:List α→List PV} {t:TypeId} {x y:Operand} {k off m sz:Nat} {el:TypeId} {i:Int} {xs:List α} {a a':α} {v:AV} {vs:List PV} (h:uY P C Cs l s t x y k off m sz el i xs a a' v vs) :
  i.toNat*sz+off+(vs.map AV.pv).length≤(be.arr el sz (Cs xs)).cells.length:=by
 have hlt:i.toNat<xs.length:=(List.getElem?_eq_some_iff.1 h.ha).1
 have hb:=Nat.le_of_ble_eq_true h.hb
 simp only[be.cells,List.length_map]
 rw[h.lq,fM h.hC]
 have:(i.toNat+1)*sz≤xs.length*sz:=Nat.mul_le_mul_right _ hlt
 rw[Nat.succ_mul] at this
 omega
theorem AX {α:Type} {C:α→List PV} {Cs:List α→List PV} {t:TypeId} {x y:Operand} {k off m sz:Nat} {el:TypeId} {i:Int} {xs:List α} {a a':α} {v:AV} {vs:List PV} (h:uY P C Cs l s t x y k off m sz el i xs a a' v vs)
  (hn:SL P E n ops Q rest (bP l ds) (bz ((k,.arr el sz (Cs (xs.set i.toNat a')))::mJ k s))):SL P E n ops Q (⟨none,.store t x y,ty,pos,af,none⟩::rest) (bP l ds) (bz s):=by
 refine hQ rfl (o4 rfl rfl (aC h.hx) (bG h.hk) rfl (by rw[aC h.hy];exact h.hv) (ua h.h1) (by rw[List.length_map,h.hm];exact h.ht) h.le (fun _=>⟨_,rfl⟩) ?_)
 rw[h.yp,← xn];exact hn
structure qE (P:Program) (E:Env) (l:List (Nat×AV)) (ds:List (FuncId×List AV)) (s:List (Nat×be)) {α:Type} (C:α→List PV) (Cs:List α→List PV) (t e:TypeId) (sz bytes k nm:Nat) (a x:Operand) (xs ys:List α):Prop where
 hT:P.underlying t=some (.slice e)
 hB:o5 P e=some (sz,bytes)
 lq:∀ l,Cs l=l.flatMap C
 hL:∀ x,(C x).length=sz
 h1:∀ x,PV.iG (C x)=true
 hE:E.fix nm=none
 hs:bD l a=some (.arr k (List.length xs))
 hk:cR s k=some (.arr e sz (Cs xs))
 hx:bD l x=some (.pv (.sl (List.length ys) (Cs ys)))∨(ys=[]∧bD l x=some (Sc (.slice none 0 0)))
 hm:kq nm l=false∧iO nm ds=false∧ug nm [k] s=false
 hg:aL bytes (List.length xs) (List.length ys)
section
variable {α:Type} {C:α→List PV} {Cs:List α→List PV} {t e:TypeId} {sz bytes k nm:Nat} {a x:Operand} {xs ys:List α}
theorem qE.D2 (h:qE P E l ds s C Cs t e sz bytes k nm a x xs ys):Bx sz ((bP l ds).val x) (List.length ys) (Cs ys):=by
 rcases h.hx with q|⟨q1,q2⟩
 ·rw[aC q];exact .sl _ _ (by rw[h.lq,fM h.hL])
 ·rw[aC q2];subst q1;rw[h.lq];exact .nil
theorem qE.D3 (h:qE P E l ds s C Cs t e sz bytes k nm a x xs ys):((bz s).del k).clear nm:=by
 intro j e he
 unfold bX.del at he
 split at he
 ·cases he
 ·rename_i q
  refine ly h.hm.2.2 j e ?_ he
  cases hb:Nat.beq j k with
  | true=>exact absurd (Nat.eq_of_beq_eq_true hb) q
  | false=>simp[hb]
theorem qE.st (h:qE P E l ds s C Cs t e sz bytes k nm a x xs ys):((bz s).del k).set nm (.arr e sz (Cs xs++Cs ys))=bz ((nm,.arr e sz (Cs (xs++ys)))::mJ k s):=by
 rw[← nR,show Cs xs++Cs ys=Cs (xs++ys) by rw[h.lq,h.lq,h.lq,List.flatMap_append]];rfl
theorem su {d:Nat} (nm:Nat) (h:qE P E l ds s C Cs t e sz bytes k nm a x xs ys) (hd:Nat.blt d n=true)
  (hn:SL P E n ops Q rest (bP ((d,.arr nm (List.length (xs++ys)))::l) ds) (bz ((nm,.arr e sz (Cs (xs++ys)))::mJ k s))) :
  SL P E n ops Q (⟨some d,.call ⟨.builtin .append,#[a,x],#[t,t]⟩,ty,pos,af,none⟩::rest) (bP l ds) (bz s):=by
 refine hQ rfl (sk (nm:=nm) rfl h.hT h.hB (aC h.hs) (bG h.hk) (by rw[h.lq,fM h.hL]) h.D2 (by rw[h.lq];exact oH h.h1 ys) (eN h.hm.1 h.hm.2.1) h.D3 h.hE h.hg.1 h.hg.2 (lz hd) ?_)
 rw[h.st,← List.length_append];exact hn
end
end
section
variable {P:Program} {E:Env} {n:Nat} {ops:Array Oper} {Q:df} {B:List Rec→dz→bX→Prop} {i:Nat} {L:List Nat} {recs:List Rec} {l:List (Nat×AV)} {ds:List (FuncId×List AV)} {s:List (Nat×be)}
 {ty:TypeId} {pos:String} {af:Array Edge}
theorem mM {α:Type} {C:α→List PV} {Cs:List α→List PV} {d:Nat} {t e:TypeId} {a x:Operand} {sz bytes k:Nat} {gd:Option (Nat×Bool)} (nm:Nat) {xs ys:List α}
  (ho:ops[i]?=some ⟨some d,.call ⟨.builtin .append,#[a,x],#[t,t]⟩,ty,pos,af,gd⟩) (hw:fA ops ⟨some d,.call ⟨.builtin .append,#[a,x],#[t,t]⟩,ty,pos,af,gd⟩ (bP l ds))
  (h:qE P E l ds s C Cs t e sz bytes k nm a x xs ys) (hd:Nat.blt d n=true) (hnm:jH recs=true)
  (hn:kW ops i ((nm,.arr e sz (Cs (xs++ys)))::mJ k s) recs∧lj P E n ops Q B L recs (bP ((d,.arr nm (List.length (xs++ys)))::l) ds) (bz ((nm,.arr e sz (Cs (xs++ys)))::mJ k s))) :
  lj P E n ops Q B (i::L) recs (bP l ds) (bz s):=by
 refine ⟨_,ho,.da hw rfl (.yr (nm:=nm) rfl h.hT h.hB (aC h.hs) (bG h.hk) (by rw[h.lq,fM h.hL]) h.D2 (by rw[h.lq];exact oH h.h1 ys) (eN h.hm.1 h.hm.2.1) h.D3 h.hE h.hg.1 h.hg.2 (lz hd) ?_)
  (fun r hr k' _=>by rw[dw hnm r (List.mem_filter.1 hr).1];simp)⟩
 rw[h.st,← List.length_append]
 exact ⟨fun r hr=>⟨fun p hp=>(let ⟨e,h1,h2⟩:=hn.1 r hr p hp;⟨e,bG h1,h2⟩),fun nm q=>by rw[dw hnm r (List.mem_filter.1 hr).1] at q;cases q⟩,hn.2⟩
theorem Dd {α:Type} {C:α→List PV} {Cs:List α→List PV} {t:TypeId} {x y:Operand} {k off m sz:Nat} {el:TypeId} {ii:Int} {xs:List α} {a a':α} {v:AV} {vs:List PV}
  (ho:ops[i]?=some ⟨none,.store t x y,ty,pos,af,none⟩) (h:uY P C Cs l s t x y k off m sz el ii xs a a' v vs) (hnm:jH recs=true)
  (hn:kW ops i ((k,.arr el sz (Cs (xs.set ii.toNat a')))::mJ k s) recs∧lj P E n ops Q B L recs (bP l ds) (bz ((k,.arr el sz (Cs (xs.set ii.toNat a')))::mJ k s))):lj P E n ops Q B (i::L) recs (bP l ds) (bz s):=by
 refine ⟨_,ho,.da (.inl rfl) rfl (.store rfl rfl (aC h.hx) (bG h.hk) rfl (by rw[aC h.hy];exact h.hv) (ua h.h1) (by rw[List.length_map,h.hm];exact h.ht) h.le (fun _=>⟨_,rfl⟩) ?_) (fun r hr k' _=>by rw[dw hnm r (List.mem_filter.1 hr).1];simp)⟩
 rw[h.yp,← xn]
 exact ⟨fun r hr=>⟨fun p hp=>(let ⟨e,h1,h2⟩:=hn.1 r hr p hp;⟨e,bG h1,h2⟩),fun nm q=>by rw[dw hnm r (List.mem_filter.1 hr).1] at q;cases q⟩,hn.2⟩
theorem r4 {d:Nat} {x:Operand} {v:AV} (ho:ops[i]?=some ⟨some d,.assign x,ty,pos,af,none⟩) (hx:bD l x=some v) (hd:Nat.blt d n=true) (hs:kW ops i s recs) (hnm:jH (fa ops recs i)=true)
  (hn:lj P E n ops Q B L recs (bP ((d,v)::l) ds) (bz s)):lj P E n ops Q B (i::L) recs (bP l ds) (bz s):=
 ⟨_,ho,.da (.inl rfl) rfl (.ev (v:=v) (by rw[← aC (ds:=ds) hx];exact sF x) (lz hd)
  ⟨fun r hr=>⟨fun p hp=>(let ⟨e,h1,h2⟩:=hs r hr p hp;⟨e,bG h1,h2⟩),fun nm q=>by rw[dw hnm r hr] at q;cases q⟩,hn⟩) (fun r _ k hk=>by cases hk)⟩
theorem rh {t:TypeId} {x y:Operand} {k off m:Nat} {e:be} {v:AV} {c:List AV} [ht:lp P t m] (ho:ops[i]?=some ⟨none,.store t x y,ty,pos,af,none⟩)
  (h:bD l x=some (.ptr k off)∧cR s k=some e∧e.ui=true∧bD l y=some v∧v.eg=some c∧AV.iG c=true∧c.length=m∧Nat.ble (off+c.length) e.cells.length=true)
  (hnm:jH (fa ops recs i)=true) (hn:∀ e',e.put off c=e'→kW ops i ((k,e')::s) recs∧lj P E n ops Q B L recs (bP l ds) (bz ((k,e')::s))):lj P E n ops Q B (i::L) recs (bP l ds) (bz s):=by
 obtain ⟨hx,hk,hea,hy,hc,h1,hm,hl⟩:=h
 have hl':=Nat.le_of_ble_eq_true hl
 obtain ⟨hst,hn⟩:=hn _ rfl
 refine ⟨_,ho,.da (.inl rfl) rfl (.store rfl rfl (aC hx) (bG hk) (sQ hea) (by rw[aC hy];exact hc) h1 (by rw[hm];exact ht.h) hl' (sR hea) ?_) (fun r hr k' _=>by rw[dw hnm r hr];simp)⟩
 rw[put_eq hea hl']
 exact ⟨fun r hr=>⟨fun p hp=>(let ⟨e,h1,h2⟩:=hst r hr p hp;⟨e,bG h1,h2⟩),fun nm q=>by rw[dw hnm r hr] at q;cases q⟩,hn⟩
def pf (nm:Nat):List Rec→Bool
 | []=>true
 | r::rs=>(match r.nm with|none=>true|some k=>!Nat.beq k nm)&&r.rd.all (fun p=>!Nat.beq p.1 nm)&&pf nm rs
theorem kb {nm:Nat}:∀ {recs:List Rec},pf nm recs=true→∀ r,r∈recs→r.nm≠some nm∧∀ p,p∈r.rd→p.1≠nm
 | [],_,r,hr=>by cases hr
 | a::rs,h,r,hr=>by
  simp only[pf,Bool.and_eq_true,List.all_eq_true] at h
  rcases List.mem_cons.1 hr with q|q
  ·subst q
   refine ⟨fun q=>?_,fun p hp q=>?_⟩
   ·have:=h.1.1;rw[q] at this;simp at this
   ·have:=h.1.2 p hp;rw[q] at this;simp at this
  ·exact kb h.2 r q
theorem De {d:Nat} {op:Op} {v:AV} {e:be} {gd:Option (Nat×Bool)} (nm:Nat) (ho:ops[i]?=some ⟨some d,op,ty,pos,af,gd⟩) (hw:fA ops ⟨some d,op,ty,pos,af,gd⟩ (bP l ds)) (h:xR P op (bP l ds) nm e v)
  (hE:E.fix nm=none) (hm:kq nm l=false∧iO nm ds=false∧mz nm s=false∧cR s nm=none) (hh:da ⟨some d,op,ty,pos,af,gd⟩=false∧Nat.blt d n=true∧jH (fa ops recs i)=true∧pf nm recs=true) (hv:AV.dr.ef nm e.cells=false)
  (hn:lj P E n ops Q B L (⟨i,some d,[],some nm⟩::recs) (bP ((d,v)::l) ds) (bz ((nm,e)::s))):lj P E n ops Q B (i::L) recs (bP l ds) (bz s):=by
 have hs:bz s nm=none:=by
  have:=pa (l:=s) (i:=nm)
  simp only[bz];rw[this];exact hm.2.2.2
 exact ⟨_,ho,.nw hw hh.1 h (eN hm.1 hm.2.1) (iP hm.2.2.1) hs hE (lz hh.2.1) (fun r hr k q=>by rw[dw hh.2.2.1 r hr] at q;cases q)
  (fun r hr=>(kb hh.2.2.2 r hr).1) (fun r hr=>(kb hh.2.2.2 r hr).2) hv hn⟩
theorem sv {d:Nat} {t:TypeId} {z:List Value} [hz:jQ P t z] {zs:List AV} {gd:Option (Nat×Bool)} (ho:ops[i]?=some ⟨some d,.alloc t,ty,pos,af,gd⟩) (hw:fA ops ⟨some d,.alloc t,ty,pos,af,gd⟩ (bP l ds)) (nm:Nat) (hE:E.fix nm=none)
  (hm:z.map (fun v=>AV.pv (.sc v))=zs∧kq nm l=false∧iO nm ds=false∧mz nm s=false∧cR s nm=none) (hh:da ⟨some d,.alloc t,ty,pos,af,gd⟩=false∧Nat.blt d n=true∧pf nm recs=true∧pf nm recs=true)
  (hn:lj P E n ops Q B L (⟨i,some d,[],some nm⟩::recs) (bP ((d,.ptr nm 0)::l) ds) (bz ((nm,.box zs)::s))):lj P E n ops Q B (i::L) recs (bP l ds) (bz s):=by
 obtain ⟨h1,h2⟩:=hm
 subst h1
 have this:∀ (k:Nat) (z:List Value),AV.dr.ef k (z.map fun v=>AV.pv (.sc v))=false:=fun k z=>by
  induction z with
  | nil=>rfl
  | cons a z ih=>simp[AV.dr.ef,AV.dr,ih]
 have hs:bz s nm=none:=by
  have:=pa (l:=s) (i:=nm)
  simp only[bz];rw[this];exact h2.2.2.2
 refine ⟨_,ho,.nw hw hh.1 (wX nm hz.h) (eN h2.1 h2.2.1) (iP h2.2.2.1) hs hE (lz hh.2.1) (fun r hr k q=>⟨?_,this k z⟩)
  (fun r hr=>(kb hh.2.2.2 r hr).1) (fun r hr=>(kb hh.2.2.2 r hr).2) (this nm z) hn⟩
 have hne:=(kb hh.2.2.2 r (List.mem_filter.1 hr).1).1
 have:nm≠k:=fun e=>hne (by rw[q,e])
 simpa[AV.dr] using this
theorem Df {α:Type} {C:α→List PV} {Cs:List α→List PV} {sz:Nat} (xs:List α) (lq:∀ l,Cs l=l.flatMap C) (hC:∀ x,(C x).length=sz) {d:Nat} {t e:TypeId} {m:Nat} {parts:List (Nat×Operand)} {zs:List Value} {pl:List (Nat×Nat)} {pv:List (Nat×AV)}
  {gd:Option (Nat×Bool)} [ht:jR P t m e sz zs pl] (ho:ops[i]?=some ⟨some d,.buildSlice t m parts.toArray,ty,pos,af,gd⟩) (hw:fA ops ⟨some d,.buildSlice t m parts.toArray,ty,pos,af,gd⟩ (bP l ds)) (nm:Nat) (hE:E.fix nm=none)
  (h:parts.mapM (fun p=>(bD l p.2).map fun v=>(p.1,v))=some pv∧kS pl (zs.map fun v=>.pv (.sc v)) pv=some ((xs.flatMap C).map .pv)∧xs.length=m∧Nat.ble m 1000=true)
  (hm:kq nm l=false∧iO nm ds=false∧mz nm s=false∧cR s nm=none) (hh:da ⟨some d,.buildSlice t m parts.toArray,ty,pos,af,gd⟩=false∧Nat.blt d n=true∧jH (fa ops recs i)=true∧pf nm recs=true)
  (hn:lj P E n ops Q B L (⟨i,some d,[],some nm⟩::recs) (bP ((d,.arr nm (List.length xs))::l) ds) (bz ((nm,.app e sz (Cs xs))::s))):lj P E n ops Q B (i::L) recs (bP l ds) (bz s):=by
 rw[h.2.2.1] at hn
 refine De nm ho hw (th nm ht.h ?_ ?_ (Nat.le_trans (Nat.le_of_ble_eq_true h.2.2.2) (by simp[maxLen]))) hE hm hh (by simp only[be.cells];exact lN _ _) hn
 ·rw[sr h.1,lq];exact h.2.1
 ·rw[lq,fM hC,h.2.2.1]
end
section
variable {P:Program} {E:Env} {n:Nat} {ops:Array Oper} {Q:df} {rest:List Oper} {l:List (Nat×AV)} {ds:List (FuncId×List AV)} {s:List (Nat×be)}
 {ty:TypeId} {pos:String} {af:Array Edge}
theorem Dg {α:Type} {C:α→List PV} {Cs:List α→List PV} {d:Nat} {t e:TypeId} {m sz:Nat} {parts:List (Nat×Operand)} {zs:List Value} {pl:List (Nat×Nat)} {pv:List (Nat×AV)} [ht:jR P t m e sz zs pl] (nm:Nat)
  (xs:List α) (lq:∀ l,Cs l=l.flatMap C) (hC:∀ x,(C x).length=sz) (hE:E.fix nm=none)
  (h:parts.mapM (fun p=>(bD l p.2).map fun v=>(p.1,v))=some pv∧kS pl (zs.map fun v=>.pv (.sc v)) pv=some ((xs.flatMap C).map .pv)∧xs.length=m∧Nat.ble m 1000=true)
  (hm:kq nm l=false∧iO nm ds=false∧mz nm s=false) (hd:Nat.blt d n=true)
  (hn:SL P E n ops Q rest (bP ((d,.arr nm (List.length xs))::l) ds) (bz ((nm,.app e sz (Cs xs))::s))):SL P E n ops Q (⟨some d,.buildSlice t m parts.toArray,ty,pos,af,none⟩::rest) (bP l ds) (bz s):=by
 rw[h.2.2.1,lq] at hn
 exact Ay nm hE ⟨h.1,h.2.1,by rw[fM hC,h.2.2.1],h.2.2.2⟩ hm hd hn
theorem ur {fr:dz} {t e:TypeId} {n sz:Nat} {zs:List Value} {places:List (Nat×Nat)} {parts:List (Nat×Operand)} {out:List AV} {cells:List PV} (ht:vn P t n=some (e,sz,zs,places))
  (h:kS places (zs.map fun v=>.pv (.sc v)) (parts.map fun p=>(p.1,fr.val p.2))=some out) (hn:AV.DJ out=cells.map .pv):Aj P (.buildSlice t n parts.toArray) fr (.pv (.sl n cells)):=by
 intro o ho g ev w hv
 obtain ⟨place,hp,hzl,hb⟩:=nh ht
 obtain ⟨cs',hf,hr⟩:=qm (g:=g) (vs:=parts.map fun p=>(p.1,ev p.2)) (cs:=zs.toArray) hp h (by simpa using eX.o0 g zs) (by simp)
  (sJ fun p hp=>hv p.2 (by simp[Op.operands];exact ⟨_,hp⟩)) trivial (qn h)
 have e1:(parts.toArray.map fun (x:Nat×Operand)=>(x.1,ev x.2)).toList=parts.map fun p=>(p.1,ev p.2):=by simp
 have hrun:=hb (parts.toArray.map fun (x:Nat×Operand)=>(x.1,ev x.2)) cs' w (by rw[e1];exact hf)
 have hps:=kB.tW (g:=g) (ps:=cells) (by rw[← hn];exact (AV.tL out).Cy hr)
 have hlen:=hps.length
 refine ⟨.slice (some ⟨w.heap.size,0,none⟩) n n,cs',e,cells,?_,by simp at hlen;omega,?_,.pv (.sl w.heap.size cells 0 n n cells (by simp[Gh.cH]) (by simp) (by simp) (Nat.le_refl _))⟩
 ·simp only[execOp,ho,Sem.run_bind,hrun,Result.andThen_ok,Sem.run_pure]
 ·rw[List.take_of_length_le (by simp at hlen;simp;omega)];exact hps
end
section
variable {P:Program} {E:Env} {n:Nat} {ops:Array Oper} {Q:df} {B:List Rec→dz→bX→Prop} {i:Nat} {L:List Nat} {recs:List Rec} {l:List (Nat×AV)} {ds:List (FuncId×List AV)} {s:List (Nat×be)}
 {ty:TypeId} {pos:String} {af:Array Edge}
theorem sZ {α:Type} {C:α→List PV} {Cs:List α→List PV} (xs:List α) (lq:∀ l,Cs l=l.flatMap C) {d:Nat} {t e:TypeId} {m sz:Nat} {parts:List (Nat×Operand)} {zs:List Value} {pl:List (Nat×Nat)} {pv:List (Nat×AV)} {out:List AV}
  {gd:Option (Nat×Bool)} [ht:jR P t m e sz zs pl] (ho:ops[i]?=some ⟨some d,.buildSlice t m parts.toArray,ty,pos,af,gd⟩) (hw:fA ops ⟨some d,.buildSlice t m parts.toArray,ty,pos,af,gd⟩ (bP l ds))
  (h:parts.mapM (fun p=>(bD l p.2).map fun v=>(p.1,v))=some pv∧kS pl (zs.map fun v=>.pv (.sc v)) pv=some out∧AV.DJ out=(xs.flatMap C).map .pv)
  (hc:da ⟨some d,.buildSlice t m parts.toArray,ty,pos,af,gd⟩=false∧Nat.blt d n=true)
  (hn:lj P E n ops Q B L (⟨i,some d,[],none⟩::recs) (bP ((d,.pv (.sl m (Cs xs)))::l) ds) (bz s)):lj P E n ops Q B (i::L) recs (bP l ds) (bz s):=by
 refine ⟨_,ho,.fz hw hc.1 (v:=.pv (.sl m (Cs xs))) ?_ (lz hc.2) (fun _ _ _ _=>rfl) hn⟩
 rw[lq]
 exact ur ht.h (by rw[sr h.1];exact h.2.1) h.2.2
end
end Go.Abs
end
section
namespace Go.Abs
open ay
theorem bY {P:Program} {f:FuncId} {args:List AV} {es:List be} {X:Type} {V:X→AV} {C:X→List be}:CT P f args es (ay.stuck:ay X) V C:=fun _ h hs=>absurd h.symm hs
theorem kX {α:Type} {H:rX→ay α} {r rO:ay α} {p:rX} (hc:pc r H=rO) (hp:r=.nl p):H p=rO:=by subst hp;exact hc
theorem pg {α:Type} {H:rX→ay α} {r rO:ay α} {x:α} (hc:pc r H=rO) (h:r=.ok x):rO=.ok x:=by subst h;exact hc.symm
def AV.wk:AV→AV
 | .ptr k o=>.ptr k o
 | _=>.any
theorem AV.D5 (v:AV):v.le v.wk:=by
 cases v<;>first|exact AV.le_refl _|exact AV.xW _
theorem AY:∀ cs:List AV,wQ cs (cs.map AV.wk)
 | []=>.nil
 | c::cs=>.cons (AV.D5 c) (AY cs)
section
variable {P:Program} {E:Env} {n:Nat} {ops:Array Oper} {Q:df} {rest:List Oper} {l:List (Nat×AV)} {ds:List (FuncId×List AV)} {s:List (Nat×be)} {ty:TypeId} {pos:String} {af:Array Edge}
def D6:List Nat→List (Nat×be)→Option (List (Nat×be))
 | [],s=>some s
 | k::ks,s=>match D6 ks s with
  | some s'=>match cR s' k with
   | some (.box cs)=>some ((k,.box (cs.map AV.wk))::s')
   | _=>none
  | none=>none
theorem D7:∀ {ks:List Nat} {s':List (Nat×be)},D6 ks s=some s'→dU E n l ds s l s'
 | [],s',h=>by simp[D6] at h;subst h;exact Ex l s
 | k::ks,s',h=>by
  simp only[D6] at h
  split at h
  ·rename_i s1 h1
   split at h
   ·rename_i cs h2
    cases h
    exact (D7 h1).trans (yD h2 (AY cs))
   ·cases h
  ·cases h
def s3 (P:Program) (E:Env) (n:Nat) (fn:Func) (R:nJ→bX→Prop):df
 | .panic v,fr,σ=>mE P fn R (.panic v) fr σ∨∃ l fid cap c s s',fr=bP l [(fid,cap)]∧σ=bz s∧(∀ g c',VR g v c'→c'=c)∧dU E n l [(fid,cap)] s l s'∧zE P E fn R fid cap (some c) (bP l [(fid,cap)]) (bz s')
 | e,fr,σ=>tn P E fn R e fr σ
theorem LQ.dg {fn:Func} {R:nJ→bX→Prop} {e:Exit} {a:Act} {w:World} (h:LQ E n (s3 P E n fn R) e a w):LQ E n (tn P E fn R) e a w:=by
 obtain ⟨g,ae,fr,σ,q,hx,hR,hF⟩:=h
 cases hx with
 | normal=>exact ⟨g,.normal,fr,σ,q,.normal,hR,hF⟩
 | exit id=>exact ⟨g,.exit id,fr,σ,q,.exit id,hR,hF⟩
 | goto id=>exact ⟨g,.goto id,fr,σ,q,.goto id,hR,hF⟩
 | ret=>exact ⟨g,.ret,fr,σ,q,.ret,hR,hF⟩
 | @panic v c0 hv=>
  rcases q with q|⟨l,fid,cap,c,s,s',rfl,rfl,hc,hg,hq⟩
  ·exact ⟨g,.panic v,fr,σ,(show tn P E fn R (.panic v) fr σ from .inl q),.panic hv,hR,hF⟩
  ·obtain ⟨g',hR',hF'⟩:=hg g a w hR hF
   have hcc:=hc _ _ hv
   subst hcc
   exact ⟨g',.panic (Sc c0),bP l [(fid,cap)],bz s',(show tn P E fn R (.panic (Sc c0)) (bP l [(fid,cap)]) (bz s') from .inr ⟨fid,cap,c0,rfl,fun _ _ h=>h.cN,hq⟩),.panic (.pv (.sc _)),hR',hF'⟩
theorem rj {f:FuncId} {fn:Func} {c:Code} {args:List AV} {es:List be} {X:Type} {res:ay X} {V:X→AV} {C:X→List be} (hf:P.funcs[f]?=some fn) (hb:fn.body=some c) (hn:Nat.ble args.length fn.ntmps=true)
  (h:∀ r,res=r→r≠.stuck→∀ E:Env,(∀ k,jS es k=true→E.fix k=none)→
   SW P E fn.ntmps c (s3 P E fn.ntmps fn (o9 V C (fun x=>r=.ok x) (fun v=>∃ p,r=.nl p∧v=p.av))) (bP ((List.range args.length).zip args) []) (bz (dC 0 es))):CT P f args es res V C:=
 AK hf hb hn fun r hr hs E hE=>fun g a w hR hF=>wp_mono (h r hr hs E hE g a w hR hF) fun _ _ _ q=>q.dg
theorem sw {fn:Func} {R:nJ→bX→Prop} {ae:rE} (hae:ae=.ret∨ae=.normal) {fr:dz} {σ:bX} (h:mE P fn R ae fr σ):s3 P E n fn R ae fr σ:=by
 rcases hae with rfl|rfl
 ·exact AM (.inl rfl) h
 ·exact AM (.inr rfl) h
theorem tO {fn:Func} {X:Type} {V:X→AV} {C:X→List be} {r:ay X} {p:rX} {fr:dz} {σ:bX} (hd:fr.ds=[]) (h:r=.nl p) :
  s3 P E n fn (o9 V C (fun x=>r=.ok x) (fun v=>∃ p,r=.nl p∧v=p.av)) (.panic p.av) fr σ:=.inl (wo hd h)
theorem kJ {fn:Func} {R:nJ→bX→Prop} {ae:rE} (hae:ae=.ret∨ae=.normal) {fid:FuncId} {cap capC:List AV} {es:List be} (ks:List Nat) (hen:Enters P fid) (hC:zr P fid capC es none (ay.ok ()) (fun _=>es))
  (hk:yI E l s ks cap capC es) (hx:iR (below ks.length) es=true) {s':List (Nat×be)} (hs:kH ks (jy (nth ks) es)++s=s') (hret:mE P fn R .ret (bP l []) (bz s')):s3 P E n fn R ae (bP l [(fid,cap)]) (bz s):=by
 have hl:es.length=ks.length:=by
  have:=(nj hk.gs).1
  rwa [fL] at this
 have:=zI (E:=E) hae ks hen hC hk (fun _=>⟨hl,hx⟩) hs hret
 rcases hae with rfl|rfl
 ·exact this
 ·exact this
theorem gJ {fn:Func} {R:nJ→bX→Prop} {T:TypeId} {v:Int} {fid:FuncId} {cap capC:List AV} {es:List be} (ks:List Nat) {s1:List (Nat×be)} {X:Type} {res:ay X} {C:X→List be} (hen:Enters P fid)
  (hC:zr P fid capC es (some (.iface T (.agg #[.int .i64 v]))) res C) (hns:res≠.stuck) (hw:D6 ks s=some s1) (hk:yI E l s1 ks cap capC es) (hx:∀ x,(C x).length=ks.length∧iR (below ks.length) (C x)=true)
  (hret:∀ x,res=.ok x→mE P fn R .ret (bP l []) (bz (kH ks (jy (nth ks) (C x))++s1))):s3 P E n fn R (.panic (rX.av ⟨T,[.sc (.int .i64 v)]⟩)) (bP l [(fid,cap)]) (bz s):=
 .inr ⟨l,fid,cap,_,s,s1,rfl,rfl,fun _ _ h=>AL h,D7 hw,Cz hen hC hns hk hx hret⟩
def AZ (R:bX→Prop):df
 | .normal,fr,σ|.ret,fr,σ=>fr.ds=[]∧∃ σ',(∀ k e,σ' k=some e→σ k=some e)∧R σ'
 | _,_,_=>False
theorem rk {ae:rE} (hae:ae=.ret∨ae=.normal) {X:Type} {r:ay X} {C:X→List be} (x:X) (hg:r=.ok x) (hm:sS s 0 (C x)):AZ (fun σ=>∃ x,r=.ok x∧σ=bz (dC 0 (C x))) ae (bP l []) (bz s):=by
 have h:(bP l []).ds=[]∧∃ σ',(∀ k e,σ' k=some e→bz s k=some e)∧∃ x,r=.ok x∧σ'=bz (dC 0 (C x)):=
  ⟨rfl,bz (dC 0 (C x)),xb (fun j e hj=>by have:=sT hm j e hj;simpa using this),x,hg,rfl⟩
 rcases hae with rfl|rfl
 ·exact h
 ·exact h
theorem nS {es:List be} {r:ay Unit} (h:ay.ok ()=r) {ae:rE} (hae:ae=.ret∨ae=.normal:=by first|exact .inr rfl|exact .inl rfl):AZ (fun σ=>∃ x,r=.ok x∧σ=bz (dC 0 ((fun _:Unit=>es) x))) ae (bP l []) (bz (dC 0 es)):=by
 have q:(bP l []).ds=[]∧∃ σ',(∀ k e,σ' k=some e→bz (dC 0 es) k=some e)∧∃ x,r=.ok x∧σ'=bz (dC 0 ((fun _:Unit=>es) x)):=⟨rfl,_,fun _ _ h=>h,(),h.symm,rfl⟩
 rcases hae with rfl|rfl
 ·exact q
 ·exact q
theorem lV {f:FuncId} {fn:Func} {y:Code} {id d1 d2:Nat} {ts ty1 ty2:_} {p1 p2:String} {a1 a2:Array Edge} {cap:List AV} {es:List be} {m:Option Value} {mv:AV} {X:Type} {res:ay X} {C:X→List be}
  (hmv:∀ g,VR g mv (m.getD .nilIface)) (hf:P.funcs[f]?=some fn)
  (hb:fn.body=some (.seq (.region id #[⟨some d1,.call ⟨.builtin .recover,#[],ts⟩,ty1,p1,a1,none⟩,⟨some d2,.assign (.tmp d1),ty2,p2,a2,none⟩] false) y))
  (hres:fn.results = #[]) (hn:(Nat.ble cap.length fn.ntmps&&Nat.blt d1 fn.ntmps&&Nat.blt d2 fn.ntmps)=true)
  (h:∀ r,res=r→r≠.stuck→∀ E:Env,(∀ k,jS es k=true→E.fix k=none)→
   SW P E fn.ntmps y (AZ (fun σ=>∃ x,r=.ok x∧σ=bz (dC 0 (C x)))) (bP ((d2,mv)::(d1,mv)::(List.range cap.length).zip cap) []) (bz (dC 0 es))):zr P f cap es m res C:=by
 intro r hr hs wS g w vs u hR hv hu
 simp only[Bool.and_eq_true] at hn
 have hn1:=Nat.le_of_ble_eq_true hn.1.1
 have hd1:d1<fn.ntmps:=by simpa[Nat.blt_eq] using hn.1.2
 have hd2:d2<fn.ntmps:=by simpa[Nat.blt_eq] using hn.2
 have hlen:=hv.length
 let E:=Env.of wS g (bz (dC 0 es)) w
 have hE:∀ k,jS es k=true→E.fix k=none:=fun k hk=>by
  have h3:∀ (es:List be) (k:Nat),jS es k=true→∀ cs,es[k]?≠some (.box cs):=by
   intro es
   induction es with
   | nil=>intro k _ cs;simp
   | cons e es ih=>
    intro k hk cs
    cases k with
    | zero=>intro q;simp at q;subst q;simp[jS] at hk
    | succ k=>simpa using ih k (by cases e<;>simpa[jS] using hk) cs
  simp only[E,Env.of]
  split
  ·rename_i cs hcs
   obtain ⟨_,h2⟩:=eh hcs
   exact absurd (by simpa using h2) (h3 es k hk cs)
  ·rfl
 have hW:=h r hr hs E hE
 refine callsD_of_wpS hf hb fun c₀ cs hcm=>?_
 let a0:Act:={ tmps:=vs.toArray++Array.replicate (fn.ntmps - vs.toArray.size) undef,defers:=[] }
 have hF0:FR fn.ntmps g (bP ((List.range cap.length).zip cap) []) a0:=by
  rw[← uj]
  refine ⟨by simp[a0];omega,fun i=>?_,.nil⟩
  rw[Array.getD_eq_getD_getElem?]
  rcases Nat.lt_or_ge i cap.length with q|q
  ·obtain ⟨c,h1,h2⟩:=hv.get i cap[i] (by simp)
   have:a0.tmps[i]?=some c:=by
    simp only[a0];rw[Array.getElem?_append_left (by simp;omega)];simpa using h1
   rw[this]
   simp[q];exact h2
  ·have e:cap[i]?=none:=List.getElem?_eq_none q
   simp only[e,Option.getD_none];exact .any _
 have hF1:=hF0.put (d:=some d1) (v:=mv) (c:=m.getD .nilIface) (fun x hx=>by cases hx;exact hd1) (hmv g)
 have hF2:=hF1.put (d:=some d2) (v:=mv) (c:=m.getD .nilIface) (fun x hx=>by cases hx;exact hd2) (hmv g)
 rw[w4,w4] at hF2
 have hwp:=hW g _ w hR hF2
 have fin:∀ u',(settle u'=.returning)→y.wpS P (bodyPostS P fn c₀ cs fun e u' w'=>(∃ v,e=.returned v)∧settle u'=.returning∧∃ g' σ',(∃ x,r=.ok x∧σ'=bz (dC 0 (C x)))∧Rel E g' σ' w')
   ((a0.put (some d1) (m.getD .nilIface)).put (some d2) (m.getD .nilIface)) ({ c₀ with mode:=u' }::cs) w:=fun u' hu'=>by
  refine wpS_of_wp (wp_mono hwp fun e a w' hq=>?_)
  obtain ⟨g',ae,fr',σ',q,hx,hR',hF'⟩:=hq
  have res:(results fn a.tmps).run P w'=.ok (.tuple #[]) w':=by
   rw[rS,hres];simp
  cases hx with
  | normal=>
   obtain ⟨hd,σ2,hs2,hx2⟩:=q
   have:=hF'.ds;rw[hd] at this
   exact ⟨this.mG,u',rfl,_,res,⟨_,rfl⟩,hu',g',σ2,hx2,hR'.sub hs2⟩
  | ret=>
   obtain ⟨hd,σ2,hs2,hx2⟩:=q
   have:=hF'.ds;rw[hd] at this
   exact ⟨this.mG,u',rfl,_,res,⟨_,rfl⟩,hu',g',σ2,hx2,hR'.sub hs2⟩
  | exit id=>exact q.elim
  | goto l=>exact q.elim
  | panic hv=>exact q.elim
 refine wpS_seq (wpS_region ?_)
 have hr2:List.range #[(⟨some d1,.call ⟨.builtin .recover,#[],ts⟩,ty1,p1,a1,none⟩:Oper),⟨some d2,.assign (.tmp d1),ty2,p2,a2,none⟩].size=[0,1]:=rfl
 rw[hr2]
 have hrec:∀ a:Act,(execOp a.eval (⟨some d1,.call ⟨.builtin .recover,#[],ts⟩,ty1,p1,a1,none⟩:Oper)).run P w=.ok .recover w:=fun a=>by
  simp[execOp,resolve,invoke,builtin]
 have hev:∀ (a:Act) (c:Value),(a.put (some d1) c).tmps.getD d1 undef=c∨¬ d1<a.tmps.size:=fun a c=>by
  by_cases q:d1<a.tmps.size
  ·left;simp[Act.put,q]
  ·right;exact q
 have hsz:d1<a0.tmps.size:=by rw[hF0.size];exact hd1
 have hasg:∀ c:Value,(execOp (a0.put (some d1) c).eval (⟨some d2,.assign (.tmp d1),ty2,p2,a2,none⟩:Oper)).run P w=.ok (.value c) w:=fun c=>by
  have:=(hev a0 c).resolve_right (fun q=>q hsz)
  simp[execOp,Act.eval,this]
 cases m with
 | none=>
  have hu':c₀.mode=.returning:=hcm.trans hu
  have hrd:recoverD (c₀::cs)=none:=by simp[recoverD,hu']
  simp only[wpOpsS,List.getElem?_toArray,List.getElem?_cons_zero,List.getElem?_cons_succ,Region.wanted,if_true,hrec,hrd]
  rw[show (Value.nilIface)=(none:Option Value).getD .nilIface from rfl,hasg]
  simp only[Oper.upon,Exit.thenS]
  exact fin c₀.mode (by rw[hu'];rfl)
 | some c=>
  have hu':c₀.mode=.panicking [{ v:=c,recovered:=false }]:=hcm.trans hu
  have hrd:recoverD (c₀::cs)=some (c,{ c₀ with mode:=.panicking [{ v:=c,recovered:=true }] }::cs):=by simp[recoverD,hu']
  simp only[wpOpsS,List.getElem?_toArray,List.getElem?_cons_zero,List.getElem?_cons_succ,Region.wanted,if_true,hrec,hrd]
  rw[hasg]
  simp only[Oper.upon,Exit.thenS]
  exact fin _ rfl
def NP {α:Type} (x:ay α):Prop:=∀ p,x≠.nl p
theorem NP.ok {α:Type} (a:α):NP (ay.ok a):=fun _ h=>by cases h
theorem NP.stuck {α:Type}:NP (ay.stuck:ay α):=fun _ h=>by cases h
theorem NP.br {α:Type} {b:Bool} {x y:ay α} (hx:NP x) (hy:NP y):NP (ay.br b x y):=by cases b<;>assumption
theorem NP.gd {α:Type} {p:Prop} [Decidable p] {x:ay α} (hx:NP x):NP (ay.gd p x):=by unfold ay.gd;split;exact hx;exact NP.stuck
theorem NP.el {α β:Type} {l:List β} {i:Int} {k:β→ay α} (hk:∀ x,NP (k x)):NP (ay.el l i k):=by
 unfold ay.el
 split
 ·split
  ·exact hk _
  ·exact NP.stuck
 ·exact NP.stuck
theorem NP.some? {α β:Type} {o:Option β} {k:β→ay α} (hk:∀ x,NP (k x)):NP (ay.some? o k):=by cases o;exact NP.stuck;exact hk _
theorem NP.bind {α β:Type} {x:ay α} {k:α→ay β} (hx:NP x) (hk:∀ a,NP (k a)):NP (ay.bind x k):=by
 cases x with
 | stuck=>exact NP.stuck
 | nl p=>exact absurd rfl (hx p)
 | ok a=>exact hk a
theorem NP.jn {α X:Type} {j:X→ay α} {p:(X→ay α)→ay α} (h:∀ j,(∀ x,NP (j x))→NP (p j)) (hj:∀ x,NP (j x)):NP (ay.jn j p):=h j hj
theorem NP.iter {α X:Type} {body:(X→ay α)→X→ay α} (h:∀ nx,(∀ x,NP (nx x))→∀ x,NP (body nx x)):∀ (n:Nat) (x:X),NP (ay.iter body n x)
 | 0,_=>NP.stuck
 | n+1,x=>h _ (fun y=>NP.iter h n y) x
end
section
variable {P:Program} {E:Env} {n:Nat} {ops:Array Oper} {Q:df} {B:List Rec→dz→bX→Prop} {i:Nat} {L:List Nat} {recs:List Rec} {rest:List Oper} {l:List (Nat×AV)} {ds:List (FuncId×List AV)} {s:List (Nat×be)}
 {ty:TypeId} {pos:String} {af:Array Edge}
theorem A0 {d:Nat} {X R:Type} {res:ay X} {kk:X→ay R} {r:ay R} {V V':X→AV} {C:X→List be} {C':X→List (Nat×be)} {f:Operand} {args:List Operand} {ts:Array TypeId} {fid:FuncId}
  {argsC first cap vs:List AV} {es:List be} (hr:r≠.stuck) (h:ay.bind res kk=r) (ks:List Nat) (hen:Enters P fid)
  (hC:CT P fid argsC es res V C) (hk:kI E ds l s ks f args fid argsC es first cap vs) (hd:Nat.blt d n=true)
  (hx:∀ x,(C x).length=ks.length∧iR (below ks.length) (C x)=true∧(V x).only (below ks.length)=true)
  (hV:∀ x,(V x).eZ (nth ks)=V' x∧kH ks (jy (nth ks) (C x))=C' x) (hnp:NP res)
  (hret:∀ x,kk x=r→SL P E n ops Q rest (bP ((d,V' x)::l) ds) (bz (C' x++s))) :
  SL P E n ops Q (⟨some d,.call ⟨.value f,args.toArray,ts⟩,ty,pos,af,none⟩::rest) (bP l ds) (bz s):=by
 obtain ⟨hns,hok,hp⟩:=jT hr h
 refine hQ rfl (zp ks hen rfl (hC res rfl hns) hk (lz hd) (fun x _=>hx x) (fun x hg=>?_) (fun v hv=>?_))
 ·have:=hret x (hok x hg)
  rw[← (hV x).1,← (hV x).2] at this;exact this
 ·obtain ⟨p,hp1,_⟩:=hv
  exact absurd hp1 (hnp p)
theorem Dh {d:Nat} {X R:Type} {res:ay X} {kk:X→ay R} {r:ay R} {V V':X→AV} {C:X→List be} {C':X→List (Nat×be)} {f:Operand} {args:List Operand} {ts:Array TypeId} {fid:FuncId}
  {argsC first cap vs:List AV} {es:List be} {gd:Option (Nat×Bool)} (ho:ops[i]?=some ⟨some d,.call ⟨.value f,args.toArray,ts⟩,ty,pos,af,gd⟩)
  (hw:fA ops ⟨some d,.call ⟨.value f,args.toArray,ts⟩,ty,pos,af,gd⟩ (bP l ds)) (hr:r≠.stuck) (h:ay.bind res kk=r) (ks:List Nat) (hen:Enters P fid)
  (hC:CT P fid argsC es res V C) (hk:kI E ds l s ks f args fid argsC es first cap vs) (hd:Nat.blt d n=true) (hnm:sU ks recs=true)
  (hx:∀ x,(C x).length=ks.length∧iR (below ks.length) (C x)=true∧(V x).only (below ks.length)=true)
  (hV:∀ x,(V x).eZ (nth ks)=V' x∧kH ks (jy (nth ks) (C x))=C' x) (hnp:NP res)
  (hret:∀ x,kk x=r→kW ops i (C' x++s) recs∧lj P E n ops Q B L recs (bP ((d,V' x)::l) ds) (bz (C' x++s))):lj P E n ops Q B (i::L) recs (bP l ds) (bz s):=by
 obtain ⟨hns,hok,hp⟩:=jT hr h
 refine yz ho hw ks hen (hC res rfl hns) hk hd hnm (fun x _=>hx x) (fun v hv=>?_) (fun x hg v' s' hv hs=>?_)
 ·obtain ⟨p,hp1,_⟩:=hv
  exact absurd hp1 (hnp p)
 ·have:=hret x (hok x hg)
  rw[← (hV x).1,← (hV x).2] at this
  subst hv hs;exact this
theorem Di {d:Nat} {X R:Type} {res:ay X} {kk:X→ay R} {r:ay R} {V V':X→AV} {C:X→List be} {C':X→List (Nat×be)} {f:Operand} {args:List Operand} {ts:Array TypeId} {fid:FuncId}
  {argsC first cap vs:List AV} {es:List be} {gd:Option (Nat×Bool)} (ho:ops[i]?=some ⟨some d,.call ⟨.value f,args.toArray,ts⟩,ty,pos,af,gd⟩)
  (hw:fA ops ⟨some d,.call ⟨.value f,args.toArray,ts⟩,ty,pos,af,gd⟩ (bP l ds)) (hfl:fa ops recs i=[]) (hr:r≠.stuck) (h:ay.bind res kk=r) (ks:List Nat) (hen:Enters P fid)
  (hC:CT P fid argsC es res V C) (hk:kI E ds l s ks f args fid argsC es first cap vs) (hbb:fj es=true) (hd:Nat.blt d n=true)
  (hx:∀ x,(C x).length=ks.length∧iR (below ks.length) (C x)=true∧(V x).only (below ks.length)=true)
  (hV:∀ x,(V x).eZ (nth ks)=V' x∧kH ks (jy (nth ks) (C x))=C' x)
  {sp:List (Nat×be)} (hsp:kH ks (jy (nth ks) (es.map be.lost))++s=sp) (hpan:∀ p,r=.nl p→Q (.panic p.av) (bP l ds) (bz sp))
  (hret:∀ x,kk x=r→lj P E n ops Q B L recs (bP ((d,V' x)::l) ds) (bz (C' x++s))):lj P E n ops Q B (i::L) recs (bP l ds) (bz s):=by
 obtain ⟨hns,hok,hp⟩:=jT hr h
 subst hsp
 obtain ⟨hl,hat⟩:=nj hk.gs
 rw[fL] at hl
 have hC':=(hC res rfl hns).lost hbb
 refine ⟨_,ho,.da hw rfl (.call (nth ks) (List.range ks.length) hen rfl (aC hk.f) (by rw[kG hk.a];exact hk.e) hC' (fun j hj=>by have:=mK hj;simp;omega) (fun j e hj=>?_)
   (fun j hj=>by
    have hj':j<es.length:=by simp at hj;omega
    have:=lR (i:=0) (List.getElem?_eq_getElem hj')
    simp at this;rw[this];rfl)
   (fun j j' hj hj' he=>mI hk.nd (by have:=mK hj;omega) (by have:=mK hj';omega) he) (lz hd) (fun v σc hr=>?_) (fun v σc hr=>?_)) (fun r hr=>by rw[hfl] at hr;cases hr)⟩
 ·obtain ⟨_,h2⟩:=eh hj
  exact hat j _ (by rw[lF,show j=j - 0 by omega,h2];rfl)
 ·rcases hr with ⟨x,hg,he,rfl⟩|⟨_,_,he,_⟩
  ·cases he
   obtain ⟨h1,h2,h3⟩:=hx x
   refine ⟨oI ⟨rfl,rfl⟩ hl hk.nd hk.bx hk.fx h1 h2 h3,?_⟩
   rw[nq hk.nd h1,(hV x).1,(hV x).2]
   exact ⟨fun r hr=>(by rw[hfl] at hr;cases hr),hret x (hok x hg)⟩
  ·cases he
 ·rcases hr with ⟨_,_,he,_⟩|⟨v',⟨p,hp1,hp2⟩,he,rfl⟩
  ·cases he
  ·cases he
   subst hp2
   refine ⟨oI ⟨rfl,rfl⟩ hl hk.nd hk.bx hk.fx (by simp[hl]) (sW _ hbb) (p.only _),fun fr' σ' _ _ hq=>?_⟩
   obtain ⟨rfl,rfl⟩:=hq hfl
   rw[nq hk.nd (by simp[hl]),oB (p.only _)]
   exact hpan p (hp p hp1)
theorem yK (f:Int→AV):∀ {xs:List Int} {i:Nat} {v:Int},(xs.map f).take i++[f v]++(xs.map f).drop (i+1)=(xs.set i v).map f∨xs.length≤i:=by
 intro xs i v
 rcases Nat.lt_or_ge i xs.length with q|q
 ·left
  rw[List.set_eq_take_append_cons_drop,if_pos q]
  simp
 ·exact .inr q
theorem Dj (f:Int→AV):∀ {xs:List Int},xs.length=4→xs.map f=[f (ia xs 0),f (ia xs 1),f (ia xs 2),f (ia xs 3)]
 | [_,_,_,_],_=>rfl
theorem BU (f:Int→AV) {t:TypeId} {x y:Operand} {k:Nat} {ii:Int} {xs:List Int} {cs cs':List AV} {v:Int} [ht:lp P t 1] (hx:bD l x=some (.ptr k (0+ii.toNat*1))) (hk:cR s k=some (.box cs)) (hc:cs=xs.map f)
  (hy:bD l y=some (f v)) (h0:0≤ii) (h1:ii<xs.length) (ho:∀ v,(f v).eg=some [f v]∧AV.iG [f v]=true) (hn':(qC xs ii v).map f=cs')
  (hn:SL P E n ops Q rest (bP l ds) (bz ((k,.box cs')::s))):SL P E n ops Q (⟨none,.store t x y,ty,pos,af,none⟩::rest) (bP l ds) (bz s):=by
 have hlt:ii.toNat<xs.length:=by omega
 refine hQ rfl (o4 rfl rfl (aC hx) (bG hk) rfl (by rw[aC hy];exact (ho v).1) (ho v).2 ht.h (by simp only[be.cells,List.length_singleton];rw[hc,List.length_map];omega) (fun q=>by cases q) ?_)
 have e1:(be.box cs).yp (0+ii.toNat*1) [f v]=.box cs':=by
  simp only[be.yp,List.length_singleton]
  rw[hc,← hn',show 0+ii.toNat*1=ii.toNat by omega]
  rcases yK f (xs:=xs) (i:=ii.toNat) (v:=v) with q|q
  ·rw[q];rfl
  ·omega
 rw[e1];exact hn
end
end Go.Abs
end
section
namespace Go.Abs
open ay
def Eo:List AV→List AV→Prop
 | [],[]=>True
 | a::as,b::bs=>(a=b∨b=.any)∧Eo as bs
 | _,_=>False
theorem yL:∀ {a b:List AV},Eo a b→wQ a b
 | [],[],_=>.nil
 | a::as,b::bs,h=>.cons (by rcases h.1 with q|q<;>subst q;exact AV.le_refl _;exact AV.xW _) (yL h.2)
 | [],_::_,h=>h.elim
 | _::_,[],h=>h.elim
def Dk (s':List (Nat×be)):List (Nat×be)→Prop
 | []=>True
 | p::ps=>(∃ e,cR s' p.1=some e∧e.le p.2)∧Dk s' ps
theorem vC {s':List (Nat×be)}:∀ {l:List (Nat×be)},Dk s' l→∀ p,p∈l→∃ e,cR s' p.1=some e∧e.le p.2
 | _::_,h,p,hp=>by
  rcases List.mem_cons.1 hp with q|q
  ·subst q;exact h.1
  ·exact vC h.2 p q
def yM (ops:Array Oper) (i:Nat) (s':List (Nat×be)):List Rec→Prop
 | []=>True
 | r::rs=>(match r.rd with
  | []=>True
  | p::ps=>match lO ops ops.size i r.i with
   | true=>True
   | false=>Dk s' (p::ps))∧yM ops i s' rs
theorem ch {ops:Array Oper} {i:Nat} {s':List (Nat×be)} {recs:List Rec} (h:yM ops i s' recs):kW ops i s' recs:=by
 induction recs with
 | nil=>intro r hr;simp[fa] at hr
 | cons a rs ih=>
  intro r hr p hp
  simp only[fa,List.mem_filter,Bool.not_eq_true'] at hr
  rcases List.mem_cons.1 hr.1 with q|q
  ·subst q
   have h1:=h.1
   cases hrd:r.rd with
   | nil=>rw[hrd] at hp;cases hp
   | cons x xs=>
    rw[hrd] at h1 hp
    simp only[hr.2] at h1
    exact vC h1 p hp
  ·exact ih h.2 r (by simp[fa,q,hr.2]) p hp
theorem be.ed {cs cs':List AV} (h:Eo cs cs'):be.le (.box cs) (.box cs'):=fun _ _ _ he=>yC (yL h) he
section
variable {P:Program} {l:List (Nat×AV)} {ds:List (FuncId×List AV)} {s:List (Nat×be)}
theorem ei (cs':List AV) {t:TypeId} {x:Operand} {k off:Nat} {cs:List AV} {v:AV} [ha:gj P t false] (hx:bD l x=some (.ptr k off)) (hk:cR s k=some (.box cs)) (hw:Eo cs cs') (hv:cs'[off]?=some v) :
  hP P (.load t x) l ds s v [(k,.box cs')]:=
 ⟨qk ha.h (aC hx) hv,fun p hp=>by simp at hp;subst hp;exact ⟨_,bG hk,be.ed hw⟩⟩
theorem A1 {α β:Type} (f:α→β):∀ l:List α,(l.flatMap fun x=>[f x])=l.map f
 | []=>rfl
 | x::l=>by simp[List.flatMap_cons,A1 f l]
theorem zP {α β:Type} {f:α→β} (l:List α):(l.flatMap fun x=>[f x]).length=l.length:=by rw[A1,List.length_map]
theorem Dl {t:TypeId} {x:Operand} {k off:Nat} {cs:List AV} [ha:gj P t false] (hx:bD l x=some (.ptr k off)) (hk:cR s k=some (.box cs)) (hv:cs[off]?=some .any) :
  hP P (.load t x) l ds s .oc [(k,.box cs)]:=.on hk (by
 intro o ho g ev w hG hv' hr
 have q:=hv' x (by simp[Op.operands]);rw[aC hx] at q
 have he:=hr (k,.box cs) (by simp)
 generalize hq:ev x=c at q
 cases q with
 | ptr _ hb=>
  cases he with
  | box h hw hc h1=>
   rw[h] at hb;cases hb
   obtain ⟨v,hv1,_⟩:=hc.get off _ hv
   refine ⟨v,?_,.oc (h1 v (List.mem_of_getElem? hv1))⟩
   simp only[execOp,ho,hq,Instr.loadAt,Instr.sureAddr,Sem.run_bind,Sem.run_pure,Result.andThen_ok,lL ha.h hw hv1])
theorem zR {a b e:TypeId} (ha:P.underlying a=some (.slice e)) (he:P.underlying e=some (.int .u8)) (hb:P.underlying b=some .string) {g:Gh} {w:World} (hG:yh g w) {xs:List Int} {n:Nat} (hn:n=xs.length) {c:Value}
  (h:VR g (.pv (.sl n (xs.flatMap fun x=>[PV.sc (.int .u8 x)]))) c):(convert a b c).run P w=.ok (S (jI xs)) w:=by
 subst hn
 cases h with
 | pv h=>
  generalize hcs:(xs.flatMap fun x=>[PV.sc (.int .u8 x)])=cells at h
  generalize hl:xs.length=n at h
  cases h with
  | nil a' cap=>
   have:xs=[]:=List.length_eq_zero_iff.1 hl
   subst this
   rw[run_convert_bytes_string w a b e _ _ _ ha he hb]
   cases a' with
   | none=>simp[Conv.bytesToString,S,jI,ByteArray.empty,ByteArray.emptyWithCapacity];rfl
   | some a0=>
    rw[run_bytesToString w a0 0 cap [] (by simp[loadCells,loadCellsFrom,Sem.run_pure])]
    simp[S,jI,ByteArray.empty,ByteArray.emptyWithCapacity];rfl
  | sl blk ys off n cap cells h hl' hc hnc=>
   have hlen:cells.length=xs.length:=by rw[← hcs];exact zP xs
   obtain ⟨cs,el,fz,hw,h1,h2⟩:=yk hG h hl' hc
   have:=run_convert_bytes_arg (P:=P) w a e ha he blk off xs.length cap xs rfl (fun i hi=>by
    have hci:cells[i]?=some (.sc (.int .u8 (xs.getD i 0))):=by
     rw[← hcs]
     rw[A1,List.getElem?_map,List.getElem?_eq_getElem hi]
     simp[List.getD,List.getElem?_eq_getElem hi]
    obtain ⟨v,hv1,hv2⟩:=h2.get i _ hci
    cases hv2
    rw[List.getElem?_take] at hv1
    split at hv1
    ·simp at hv1
     simp[World.cell?,hw]
     exact hv1
    ·cases hv1) b hb
   rw[← hl,this]
   rfl
theorem yN {a b e:TypeId} {x:Operand} {n:Nat} {xs:List Int} [ha:jC P a (.slice e)] [he:jC P e (.int .u8)] [hb:jC P b .string] (hx:bD l x=some (.pv (.sl n (xs.flatMap fun x=>[PV.sc (.int .u8 x)])))) (hn:n=xs.length) :
  hP P (.convert a b x) l ds s (bd (jI xs)) []:=.of (by
 intro o ho g ev w hG hv _
 have q1:=hv x (by simp[Op.operands]);rw[aC hx] at q1
 exact ⟨S (jI xs),by simp only[execOp,ho,Sem.run_bind,zR ha.h he.h hb.h hG hn q1,Result.andThen_ok,Sem.run_pure],.pv (.sc _)⟩)
end
section
variable {P:Program} {E:Env} {n:Nat} {c:Code} {Q:df} {fr:dz} {σ:bX}
def Ey (Q:df):df
 | .goto _,_,_=>False
 | e,fr,σ=>Q e fr σ
theorem xo (h:SW P E n c (Ey Q) fr σ):SW P E n (.scope c) Q fr σ:=fun g a w hR hF=>by
 refine wp_scope_straight (wp_mono (h g a w hR hF) fun e a w hq=>?_)
 obtain ⟨g',ae,fr',σ',q,hx,hR',hF'⟩:=hq
 cases hx with
 | goto l=>exact q.elim
 | normal=>exact ⟨g',_,fr',σ',q,.normal,hR',hF'⟩
 | exit id=>exact ⟨g',_,fr',σ',q,.exit id,hR',hF'⟩
 | ret=>exact ⟨g',_,fr',σ',q,.ret,hR',hF'⟩
 | panic hv=>exact ⟨g',_,fr',σ',q,.panic hv,hR',hF'⟩
end
theorem yO {q:Nat→Bool} {v:AV} {T:TypeId} {b:Bool} (h:v.only q=true):(AV.eT [v,Oe T b]).only q=true:=by cases b<;>simp[AV.only,AV.only.jw,h,Oe]
theorem A2 {f:Nat→Nat} {v:AV} {T:TypeId} {b:Bool}:(AV.eT [v,Oe T b]).eZ f=.eT [v.eZ f,Oe T b]:=by cases b<;>rfl
theorem rl {α:Type} (X:List α) (z:α):((X.length:Int))<((X++[z]).length:Int):=by simp;omega
theorem jz {α:Type} (X:List α) (z:α):(X++[z])[((X.length:Int)).toNat]?=some z:=by simp
theorem A3 {α:Type} (X:List α) (z a:α):(X++[z]).set ((X.length:Int)).toNat a=X++[a]:=by simp
section
variable {P:Program} {E:Env} {n:Nat} {ops:Array Oper} {Q:df} {B:List Rec→dz→bX→Prop} {i:Nat} {L:List Nat} {recs:List Rec} {rest:List Oper} {l:List (Nat×AV)} {ds:List (FuncId×List AV)} {s:List (Nat×be)}
 {ty:TypeId} {pos:String} {af:Array Edge}
theorem yP (f:Int→AV) {t:TypeId} {x y:Operand} {k:Nat} {ii:Int} {xs:List Int} {cs cs':List AV} {v:Int} [ht:lp P t 1] (hop:ops[i]?=some ⟨none,.store t x y,ty,pos,af,none⟩)
  (hx:bD l x=some (.ptr k (0+ii.toNat*1))) (hk:cR s k=some (.box cs)) (hc:cs=xs.map f)
  (hy:bD l y=some (f v)) (h0:0≤ii) (h1:ii<xs.length) (ho:∀ v,(f v).eg=some [f v]∧AV.iG [f v]=true) (hn':(qC xs ii v).map f=cs') (hnm:jH recs=true)
  (hn:kW ops i ((k,.box cs')::s) recs∧lj P E n ops Q B L recs (bP l ds) (bz ((k,.box cs')::s))):lj P E n ops Q B (i::L) recs (bP l ds) (bz s):=by
 have hlt:ii.toNat<xs.length:=by omega
 obtain ⟨hst,hn⟩:=hn
 refine ⟨_,hop,.da (.inl rfl) rfl (.store rfl rfl (aC hx) (bG hk) rfl (by rw[aC hy];exact (ho v).1) (ho v).2 ht.h (by simp only[be.cells,List.length_singleton];rw[hc,List.length_map];omega) (fun q=>by cases q) ?_) (fun r hr k' _=>by rw[dw hnm r (List.mem_filter.1 hr).1];simp)⟩
 have e1:(be.box cs).yp (0+ii.toNat*1) [f v]=.box cs':=by
  simp only[be.yp,List.length_singleton]
  rw[hc,← hn',show 0+ii.toNat*1=ii.toNat by omega]
  rcases yK f (xs:=xs) (i:=ii.toNat) (v:=v) with q|q
  ·rw[q];rfl
  ·omega
 rw[e1]
 exact ⟨fun r hr=>⟨fun p hp=>(let ⟨e,h1,h2⟩:=hst r hr p hp;⟨e,bG h1,h2⟩),fun nm q=>by rw[dw hnm r (List.mem_filter.1 hr).1] at q;cases q⟩,hn⟩
theorem mj {α:Type} {C:α→List PV} {Cs:List α→List PV} {t:TypeId} {x y:Operand} {k off m sz:Nat} {el:TypeId} (xs:List α) {a a':α} {v:AV} {vs:List PV}
  (ho:ops[i]?=some ⟨none,.store t x y,ty,pos,af,none⟩) (h:uY P C Cs l s t x y k off m sz el (xs.length:Int) (xs++[a]) a a' v vs) (hnm:jH recs=true)
  (hn:kW ops i ((k,.arr el sz (Cs (xs++[a'])))::mJ k s) recs∧lj P E n ops Q B L recs (bP l ds) (bz ((k,.arr el sz (Cs (xs++[a'])))::mJ k s))):lj P E n ops Q B (i::L) recs (bP l ds) (bz s):=
 Dd ho h hnm (by rw[A3];exact hn)
end
section
variable {E:Env} {n:Nat} {l:List (Nat×AV)} {ds:List (FuncId×List AV)} {s:List (Nat×be)}
theorem A4 (d:Nat) {k m m':Nat} (hd:jx l d=some (.arr k m)) (hm:m=m'):dU E n l ds s ((d,.arr k m')::l) s:=fun g a w hR hF=>by
 subst hm
 refine ⟨g,hR,hF.size,fun i=>?_,hF.ds⟩
 by_cases q:i=d
 ·subst q
  have:=hF.gh i
  simp only[bP,dV hd] at this
  simpa[bP,jO] using this
 ·have:=hF.gh i
  simpa[bP,jO,q] using this
theorem ml (j off:Nat) {cs cs':List AV} {k m m':Nat} (hj:cR s j=some (.box cs)) (hc:cs[off]?=some (.arr k m)) (hm:m=m') (hcs:cs.set off (.arr k m')=cs'):dU E n l ds s l ((j,.box cs')::s):=by
 subst hm
 have:cs.set off (.arr k m)=cs:=by
  obtain ⟨h1,h2⟩:=List.getElem?_eq_some_iff.1 hc
  rw[← h2];exact List.set_getElem_self h1
 rw[this] at hcs
 subst hcs
 exact yD hj (wQ.refl _)
end
section
variable {P:Program} {E:Env} {n:Nat} {ops:Array Oper} {Q:df} {recs:List Rec} {l:List (Nat×AV)} {ds:List (FuncId×List AV)} {s:List (Nat×be)}
theorem rm {x y:Nat} (h1:DW P E n ops Q [x,y] recs (bP l ds) (bz s)) (h2:DW P E n ops Q [y,x] recs (bP l ds) (bz s)):DX P E n ops Q x y [] recs (bP l ds) (bz s):=⟨h1,h2⟩
end
section
variable {P:Program} {l:List (Nat×AV)} {s:List (Nat×be)}
theorem eG {fn:Func} {X:Type} {V:X→AV} {C:X→List be} {vs:List AV} {ae:rE} {r:ay X} (hae:ae=.ret∨ae=.normal) (x:X) (hr:zi P (bP l []) (bz s) fn.results.toList vs)
  (hg:r=.ok x) (hle:(mi vs).le (V x)) (hm:sS s 0 (C x)):mE P fn (o9 V C (fun x=>r=.ok x) (fun v=>∃ p,r=.nl p∧v=p.av)) ae (bP l []) (bz s):=lS hae x hr hg hle hm
end
theorem kY {K:dz→bX→Prop} {Q:df} {v:AV} {fr:dz} {σ:bX} (h:Q (.panic v) fr σ):ti K Q (.panic v) fr σ:=h
theorem jV {id:Nat} {Q:df} {v:AV} {fr:dz} {σ:bX} (h:Q (.panic v) fr σ):xS id Q (.panic v) fr σ:=h
end Go.Abs
end
section
namespace Go.Abs
open ay
def b1 (m:Nat→Nat):Prop:=∀ N,∃ M,∀ i,M≤i→N≤m i
theorem b1.id:b1 fun i=>i:=fun N=>⟨N,fun _ h=>h⟩
theorem b1.pred {m:Nat→Nat} (h:b1 m):b1 fun i=>m i - 1:=fun N=>
 let ⟨M,hM⟩:=h (N+1);⟨M,fun i hi=>by have:=hM i hi;show N≤m i - 1;omega⟩
def ay.sat {α:Type} (r:ay α) (Q:α→Prop) (R:rX→Prop):Prop:=match r with
 | .stuck=>False
 | .ok a=>Q a
 | .nl p=>R p
def Ev {α:Type} (F:Nat→ay α) (Q:α→Prop) (R:rX→Prop):Prop:=∃ r:ay α,r.sat Q R∧∃ N,∀ i,N≤i→F i=r
section
variable {α β X:Type} {Q Q':α→Prop} {R R':rX→Prop} {Qb:β→Prop}
theorem Ev.ok {a:α} (h:Q a):Ev (fun _=>.ok a) Q R:=⟨.ok a,h,0,fun _ _=>rfl⟩
theorem Ev.nl {p:rX} (h:R p):Ev (fun _=>(.nl p:ay α)) Q R:=⟨.nl p,h,0,fun _ _=>rfl⟩
theorem Ev.mono {F:Nat→ay α} (h:Ev F Q' R') (hq:∀ a,Q' a→Q a) (hr:∀ p,R' p→R p):Ev F Q R:=by
 obtain ⟨r,h1,h2⟩:=h
 refine ⟨r,?_,h2⟩
 cases r with
 | stuck=>exact h1
 | ok a=>exact hq a h1
 | nl p=>exact hr p h1
theorem Ev.CC {F:Nat→ay α} (h:Ev F Q' R) (hq:∀ a,Q' a→Q a):Ev F Q R:=h.mono hq fun _ q=>q
theorem Ev.bind {F:Nat→ay α} {K:Nat→α→ay β} (h:Ev F Q R') (hr:∀ p,R' p→R p) (hk:∀ a,Q a→Ev (fun i=>K i a) Qb R):Ev (fun i=>ay.bind (F i) (K i)) Qb R:=by
 obtain ⟨r,h1,N,hN⟩:=h
 cases r with
 | stuck=>exact h1.elim
 | ok a=>
  obtain ⟨r',h2,M,hM⟩:=hk a h1
  exact ⟨r',h2,N+M,fun i hi=>by dsimp only;rw[hN i (by omega)];exact hM i (by omega)⟩
 | nl p=>exact ⟨.nl p,hr p h1,N,fun i hi=>by dsimp only;rw[hN i hi];rfl⟩
theorem Ev.vD {x:ay α} {a:α} {K:Nat→α→ay β} (h:x=.ok a) (hk:Ev (fun i=>K i a) Qb R):Ev (fun i=>ay.bind x (K i)) Qb R:=by
 subst h;exact hk
theorem Ev.br {b:Bool} {F G:Nat→ay α} (ht:b=true→Ev F Q R) (hf:b=false→Ev G Q R):Ev (fun i=>ay.br b (F i) (G i)) Q R:=by
 cases b with
 | true=>exact ht rfl
 | false=>exact hf rfl
theorem Ev.gd {p:Prop} [Decidable p] {F:Nat→ay α} (hp:p) (h:Ev F Q R):Ev (fun i=>ay.gd p (F i)) Q R:=by
 have:(fun i=>ay.gd p (F i))=F:=by funext i;simp[ay.gd,hp]
 rw[this];exact h
theorem Ev.el {l:List X} {j:Int} {K:Nat→X→ay α} (h0:0≤j) (h1:j<l.length) (h:∀ x,l[j.toNat]?=some x→Ev (fun i=>K i x) Q R):Ev (fun i=>ay.el l j (K i)) Q R:=by
 have h2:j.toNat<l.length:=by omega
 have:=h _ (List.getElem?_eq_getElem h2)
 have he:(fun i=>ay.el l j (K i))=fun i=>K i l[j.toNat]:=by funext i;simp[ay.el,h0,List.getElem?_eq_getElem h2]
 rw[he];exact this
theorem Ev.EO {l:List X} {j:Int} {K:Nat→X→ay α} {x:X} (h0:0≤j) (hx:l[j.toNat]?=some x) (h:Ev (fun i=>K i x) Q R):Ev (fun i=>ay.el l j (K i)) Q R:=by
 have he:(fun i=>ay.el l j (K i))=fun i=>K i x:=by funext i;simp[ay.el,h0,hx]
 rw[he];exact h
theorem Ev.some {o:Option X} {x:X} {K:Nat→X→ay α} (hx:o=some x) (h:Ev (fun i=>K i x) Q R):Ev (fun i=>ay.some? o (K i)) Q R:=by subst hx;exact h
theorem Ev.jn {j:Nat→X→ay α} {p:Nat→(X→ay α)→ay α} (J:X→Prop) (hj:∀ v,J v→Ev (fun i=>j i v) Q R)
  (hp:∀ j:Nat→X→ay α,(∀ v,J v→Ev (fun i=>j i v) Q R)→Ev (fun i=>p i (j i)) Q R):Ev (fun i=>ay.jn (j i) (p i)) Q R:=hp j hj
theorem Ev.grow {F:Nat→ay α} {m:Nat→Nat} (hm:b1 m) (h:∀ m',b1 m'→Ev (fun i=>F (m' i+1)) Q R):Ev (fun i=>F (m i)) Q R:=by
 obtain ⟨r,h1,N,hN⟩:=h _ hm.pred
 obtain ⟨M,hM⟩:=hm 1
 refine ⟨r,h1,N+M,fun i hi=>?_⟩
 have:=hN i (by omega)
 have h2:=hM i (by omega)
 simp only[Nat.sub_add_cancel h2] at this
 exact this
theorem Ev.iter {body:Nat→(X→ay α)→X→ay α} {m:Nat→Nat} (hm:b1 m) (I:X→Prop) (f:X→Nat) {x:X} (h0:I x)
  (hb:∀ x,I x→∀ next:Nat→X→ay α,(∀ y,I y→f y<f x→Ev (fun i=>next i y) Q R)→Ev (fun i=>body i (next i) x) Q R) :
  Ev (fun i=>ay.iter (body i) (m i) x) Q R:=by
 have key:∀ (k:Nat) (x:X) (m:Nat→Nat),b1 m→I x→f x<k→Ev (fun i=>ay.iter (body i) (m i) x) Q R:=by
  intro k
  induction k with
  | zero=>intro x m _ _ h;exact absurd h (Nat.not_lt_zero _)
  | succ k ih=>
   intro x m hm hx hk
   obtain ⟨r,h1,N,hN⟩:=hb x hx (fun i=>ay.iter (body i) (m i - 1)) fun y hy hlt=>ih y _ hm.pred hy (by omega)
   obtain ⟨M,hM⟩:=hm 1
   refine ⟨r,h1,N+M,fun i hi=>?_⟩
   have h2:=hM i (by omega)
   rw[← hN i (by omega)]
   obtain ⟨q,hq⟩:∃ q,m i=q+1:=⟨m i - 1,by omega⟩
   simp only[hq];rfl
 exact key _ x m hm h0 (Nat.lt_succ_self _)
theorem Ev.yQ {F:Nat→ay α} {H:Nat→rX→ay α} (h:Ev F Q R') (hh:∀ p,R' p→Ev (fun i=>H i p) Q R):Ev (fun i=>pc (F i) (H i)) Q R:=by
 obtain ⟨r,h1,N,hN⟩:=h
 cases r with
 | stuck=>exact h1.elim
 | ok a=>exact ⟨.ok a,h1,N,fun i hi=>by dsimp only;rw[hN i hi];rfl⟩
 | nl p=>
  obtain ⟨r',h2,M,hM⟩:=hh p h1
  exact ⟨r',h2,N+M,fun i hi=>by dsimp only;rw[hN i (by omega)];exact hM i (by omega)⟩
theorem Ev.ss {T:TypeId} {v:Int} {K:Nat→Int→ay α} (h:Ev (fun i=>K i v) Q R):Ev (fun i=>Go.Abs.ss T ⟨T,[.sc (.int .i64 v)]⟩ (K i)) Q R:=by
 have:(fun i=>Go.Abs.ss T ⟨T,[.sc (.int .i64 v)]⟩ (K i))=fun i=>K i v:=by funext i;simp[Go.Abs.ss]
 rw[this];exact h
theorem Ev.get {F:Nat→ay α} (h:Ev F Q fun _=>False):∃ a,Q a∧∃ N,∀ i,N≤i→F i=.ok a:=by
 obtain ⟨r,h1,h2⟩:=h
 cases r with
 | stuck=>exact h1.elim
 | ok a=>exact ⟨a,h1,h2⟩
 | nl p=>exact h1.elim
end
end Go.Abs
end
section
namespace Go.Abs
open ay Go.RowKit
section
variable {E:Env} {g:Gh} {σ:bX} {w w':World}
theorem yh.A5 (h:yh g w) {b:Nat} (hb:w.heap.size≤b):g.G b=none:=by
 cases q:g.G b with
 | none=>rfl
 | some ys=>have:=h.lt q;omega
theorem je.CD {b:Nat} {ys:List PV} (h:g.G b=none):je (fun _=>False) g (g.cH b ys):=by
 refine ⟨fun _ _=>rfl,fun _ _=>rfl,fun c zs hc=>?_⟩
 have:c≠b:=fun q=>by subst q;rw[h] at hc;cases hc
 exact ⟨[],by simp[Gh.cH,this,hc]⟩
theorem Rel.below (h:Rel E g σ w) (hb:Below w.heap.size w w'):Rel E g σ w':=by
 have hs:=hb.size
 refine { iN:=?_,inj:=h.inj,gl:=?_,apart:=h.apart,size:=Nat.le_trans h.size hs,mY:=?_,own:=h.own,fix:=h.fix,gE:=h.gE,g0:=h.g0,gn:=h.gn,os:=hb.os.trans h.os,out:=hb.output.trans h.out,tape:=hb.tape.trans h.tape,x:=?_ }
 ·intro k e hk
  exact (h.iN k e hk).le (je.refl (fun _=>False) g) (fun q=>q) (fun _ _ _=>rfl) (fun _ q=>q.elim) (fun b hb'=>hb.block b ((h.iN k e hk).lt hb'))
 ·intro b ys hG
  obtain ⟨c,e,f,h1,h2,h3⟩:=h.gl b ys hG
  exact ⟨c,e,f,by rw[hb.block b (h.gl.lt hG)];exact h1,h2,h3⟩
 ·intro b hb' ho
  rw[hb.block b (Nat.lt_of_lt_of_le hb' h.size)];exact h.mY b hb' ho
 ·exact {
      uV:=fun b cs el fz h1=>let ⟨cs',h2,h3⟩:=h.x.uV b cs el fz h1;⟨cs',by rw[hb.block b (oY h2)];exact h2,h3⟩
      flat:=fun k b cs el fz h0 h1 hf=>let ⟨cs',h2,h3⟩:=h.x.flat k b cs el fz h0 h1 hf;⟨cs',by rw[hb.block b (oY h2)];exact h2,h3⟩
      set:=fun b hb'=>by
       have h1:=h.x.set b hb'
       have:E.wS.heap[b]?=some E.wS.heap[b]:=Array.getElem?_eq_getElem hb'
       rw[hb.block b (oY (h1.trans this))];exact h1
      uW:=h.x.uW,hi:=h.x.hi,gf:=h.x.gf,mf:=h.x.mf,mD:=h.x.mD,mg:=h.x.mg,mh:=h.x.mh }
theorem Rel.D8 (h:Rel E g σ w) {b:Nat} (hge:E.w0.heap.size≤b) (hG:g.G b=none) (hk:∀ k,(σ k).isSome=true→g.ρ k≠some b) {cs:Array Value} {el:TypeId} {fz:Nat×Nat} (hw:w.heap[b]?=some (.cells cs el fz)) {ys:List PV} (hl:ys.length≤cs.size) (hp:kB g ys (cs.toList.take ys.length)) :
  Rel E (g.cH b ys) σ w:=by
 have hle:je (fun _=>False) g (g.cH b ys):=je.CD hG
 refine { iN:=?_,inj:=h.inj,gl:=?_,apart:=?_,size:=h.size,mY:=h.mY,own:=h.own,fix:=h.fix,gE:=h.gE,g0:=?_,gn:=?_,os:=h.os,out:=h.out,tape:=h.tape,x:=?_ }
 ·intro k e hk'
  exact (h.iN k e hk').le hle (fun q=>q) (fun c hc _=>by
   have:c≠b:=fun q=>by subst q;exact hk k (by rw[hk'];rfl) hc
   simp[Gh.cH,this]) (fun _ q=>q.elim) (fun _ _=>rfl)
 ·intro c zs hc
  by_cases q:c=b
  ·subst q
   simp[Gh.cH] at hc;subst hc
   exact ⟨cs,el,fz,hw,hl,hp.le hle⟩
  ·simp[Gh.cH,q] at hc
   obtain ⟨c',e,f,h1,h2,h3⟩:=h.gl c zs hc
   exact ⟨c',e,f,h1,h2,h3.le hle⟩
 ·intro k c e' hk' hka hc
  have q:c≠b:=fun q=>by subst q;exact hk k (by rw[hk'];rfl) hc
  simp only[Gh.cH,q,if_false]
  exact h.apart k c e' hk' hka hc
 ·intro c zs hc
  obtain ⟨us,h1⟩:=h.g0 c zs hc
  obtain ⟨vs,h2⟩:=hle.G c _ h1
  exact ⟨us++vs,by rw[h2,List.append_assoc]⟩
 ·intro c zs hc
  by_cases q:c=b
  ·subst q;exact .inr (.inr hge)
  ·simp[Gh.cH,q] at hc;exact h.gn c zs hc
 ·have hx:=h.x
  exact {
      uV:=hx.uV,flat:=hx.flat,set:=hx.set,uW:=hx.uW,hi:=hx.hi,gf:=hx.gf,mf:=hx.mf
      mD:=fun k c hf=>by
       have:=hx.mf k c hf
       have q:c≠b:=by omega
       simp only[Gh.cH,q,if_false];exact hx.mD k c hf
      mg:=hx.mg,mh:=hx.mh }
theorem Rel.grown (h:Rel E g σ w) (hb:Below w.heap.size w w') {b:Nat} (hge:w.heap.size≤b) {cs:Array Value} {el:TypeId} {fz:Nat×Nat} (hw:w'.heap[b]?=some (.cells cs el fz)) {ys:List PV} (hl:ys.length≤cs.size) (hp:kB g ys (cs.toList.take ys.length)) :
  Rel E (g.cH b ys) σ w':=
 (h.below hb).D8 (Nat.le_trans h.size hge) (h.gl.A5 hge) (fun k hk q=>by have:=h.lt hk q;omega) hw hl hp
theorem tp (w:World) (e:TypeId) (s:ByteArray):Below w.heap.size w (Lib.bytesWorld w e s):=
 ⟨rfl,rfl,rfl,by rw[Lib.bytesWorld_size];omega,fun k hk=>Lib.bytesWorld_at_old w e s k hk⟩
end
def ofBytes (s:List UInt8):List Int:=s.map fun b=>(b.toNat:Int)
theorem vE {g:Gh}:∀ l:List UInt8,kB g ((ofBytes l).flatMap fun x=>[PV.sc (.int .u8 x)]) (l.map fun b=>Value.int .u8 b.toNat)
 | []=>.nil
 | _::l=>.cons (.sc _) (vE l)
section
variable {P:Program} {E:Env} {n:Nat} {ops:Array Oper} {Q:df} {rest:List Oper} {l:List (Nat×AV)} {ds:List (FuncId×List AV)} {s:List (Nat×be)}
 {ty:TypeId} {pos:String} {af:Array Edge}
theorem Dm {d:Nat} {a b e:TypeId} {u:TypeDesc} {x:Operand} {c:List UInt8} {Cs:List Int→List PV} [hs:jC P a u] [ht:jC P b (.slice e)] [he:jC P e (.int .u8)] (hx:bD l x=some (bd c)) (hC:∀ l,Cs l=l.flatMap fun x=>[PV.sc (.int .u8 x)])
  (hd:Nat.blt d n=true) (hn:SL P E n ops Q rest (bP ((d,.pv (.sl (ofBytes c).length (Cs (ofBytes c))))::l) ds) (bz s)):SL P E n ops Q (⟨some d,.convert a b x,ty,pos,af,none⟩::rest) (bP l ds) (bz s):=by
 refine hQ rfl ?_
 intro g act w K hR hF hK
 have q:=hF.eval x
 rw[aC hx] at q
 have hq:=q.cN
 have hrun:=Lib.run_convert_string_bytes w a b e ⟨c.toArray⟩ hs.h ht.h he.h
 have hev:(execOp act.eval ⟨some d,.convert a b x,ty,pos,af,none⟩).run P w=.ok (.value (.slice (some ⟨w.heap.size,0,none⟩) (ByteArray.size ⟨c.toArray⟩) (grownCap w (ByteArray.size ⟨c.toArray⟩) 0 e))) (Lib.bytesWorld w e ⟨c.toArray⟩):=by
  simp only[execOp,hq];simp[S,hrun]
 simp only[Oper.wp,hev,Oper.upon]
 have hsz:ByteArray.size ⟨c.toArray⟩=c.length:=by simp[ByteArray.size]
 have hnew:=Lib.bytesWorld_at_new w e ⟨c.toArray⟩
 have hfl:((ofBytes c).flatMap fun x=>[PV.sc (.int .u8 x)]).length=c.length:=by
  rw[fM (sz:=1) (fun _=>rfl)];simp[ofBytes]
 have hcl:(Lib.bytesCells w e ⟨c.toArray⟩).toList.take c.length=c.map fun b=>Value.int .u8 b.toNat:=by
  simp[Lib.bytesCells]
 have hR':=hR.grown (tp w e ⟨c.toArray⟩) (Nat.le_refl _) hnew (ys:=(ofBytes c).flatMap fun x=>[PV.sc (.int .u8 x)]) (by rw[hfl];simp[Lib.bytesCells]) (by rw[hfl,hcl];exact vE c)
 refine hK _ _ _ _ _ hn hR' ((hF.le (nn:=fun _=>False) (je.CD (hR.gl.A5 (Nat.le_refl _))) fun k q=>q.elim).put (lz hd) ?_)
 rw[hC]
 have hcap:(ofBytes c).length≤grownCap w (ByteArray.size ⟨c.toArray⟩) 0 e:=by
  have:(ofBytes c).length=ByteArray.size ⟨c.toArray⟩:=by simp[ofBytes,hsz]
  rw[this];exact grownCap_ge _ _ _ _
 have e2:ByteArray.size ⟨c.toArray⟩=(ofBytes c).length:=by simp[ofBytes,hsz]
 rw[e2] at hcap ⊢
 exact .pv (.sl w.heap.size ((ofBytes c).flatMap fun x=>[PV.sc (.int .u8 x)]) 0 (ofBytes c).length _ _ (by simp[Gh.cH]) (by simp) (by rw[List.drop_zero,List.take_length]) hcap)
def Oi (e:Int):AV:=match e with
 | .ofNat 0=>Sc .nilIface
 | e=>.ln 213 (I e)
theorem A6 {q:Nat→Bool} {T:TypeId} {b:Bool}:(Oe T b).only q=true:=by cases b<;>rfl
theorem BV {f:Nat→Nat} {T:TypeId} {b:Bool}:(Oe T b).eZ f=Oe T b:=by cases b<;>rfl
theorem A7 {q:Nat→Bool} {e:Int}:(Oi e).only q=true:=by unfold Oi;split<;>rfl
theorem yR {f:Nat→Nat} {e:Int}:(Oi e).eZ f=Oi e:=by unfold Oi;split<;>rfl
theorem BW {q:Nat→Bool} {v:AV} {e:Int} (h:v.only q=true):(AV.eT [v,Oi e]).only q=true:=by simp[AV.only,AV.only.jw,h,A7]
theorem Dn {f:Nat→Nat} {v:AV} {e:Int}:(AV.eT [v,Oi e]).eZ f=.eT [v.eZ f,Oi e]:=by simp[AV.eZ,AV.eZ.kT,yR]
theorem yS {e:Int} (h:e≠0):Oi e=.ln 213 (I e):=by
 unfold Oi;split
 ·exact absurd rfl h
 ·rfl
theorem Dp {xt yt:TypeId} {x:Operand} {e:Int} [ht:zN P xt] (hx:bD l x=some (Oi e)):hP P (.binOp .neq xt x (.const .nilIface) yt) l ds s (Bo (e !=0)) []:=by
 by_cases h:e=0
 ·subst h;exact sY hx
 ·rw[yS h] at hx
  have:(e !=0)=true:=by simpa using h
  rw[this];exact sX hx rfl
end
end Go.Abs
end
section
namespace Go.Abs
open ay
def oJ:List UInt8→List UInt8→Option Nat
 | [],sub=>if sub.isEmpty then some 0 else none
 | b::l,sub=>if sub.isPrefixOf (b::l) then some 0 else match oJ l sub with|some i=>some (i+1)|none=>none
def ph (sep:List UInt8):Nat→List UInt8→List (List UInt8)
 | 0,s=>[s]
 | k+1,s=>match oJ s sep with|none=>[s]|some i=>s.take i::ph sep k (s.drop (i+sep.length))
def uZ:Nat→Nat→List UInt8
 | 0,_=>[]
 | f+1,u=>if u<10 then [UInt8.ofNat (48+u)] else uZ f (u / 10)++[UInt8.ofNat (48+u % 10)]
def strings_Contains (a b:List UInt8):ay Bool:=gd (a.length<4294967281) (.ok (oJ a b).isSome)
def strings_Split (a b:List UInt8):ay (List (List UInt8)):=gd (1≤b.length∧a.length<4294967281) (.ok (ph b (a.length+1) a))
def strings_LastIndex (a b:List UInt8):ay Int:=gd (a.length<4611686018427387904) (.ok (Lib.lastIndex a b))
def strings_Cut (a b:List UInt8):ay (List UInt8×List UInt8×Bool):=
 gd (a.length<4294967281) (.ok (match oJ a b with|some i=>(a.take i,a.drop (i+b.length),true)|none=>(a,[],false)))
def strings_IndexByte (a:List UInt8) (b:Int):ay Int:=.ok (match a.findIdx? (·==UInt8.ofNat b.toNat) with|some i=>(i:Int)|none=>-1)
def gK (a b:Int):ay (List UInt8):=gd (b=10∧0≤a∧a<18446744073709551616) (.ok (uZ 20 a.toNat))
def lB (a:List UInt8) (b c:Int):ay (Int×Bool):=
 gd (b=10∧c=64∧a.length≤281474976710656) (.ok (match Lib.parseIntB 64 a with|.ok v=>(v,false)|Lib.NumEnd.syntax=>(0,true)|.range=>(Lib.intSat 64 a,true)))
def mn (_ s:List UInt8) (_ _ e:Int):ay Bool:=gd ((e=1∨e=2)∧s.length≤281474976710656) (.ok true)
end Go.Abs
end
section
namespace Go.Abs
open ay
section
variable {α β X:Type} {Q Q':α→Prop} {R R':rX→Prop} {F G:Nat→ay α}
theorem Ev.aW {p:Prop} [Decidable p] (ht:p→Ev F Q R) (hf:¬ p→Ev G Q R):Ev (fun i=>ay.br (decide p) (F i) (G i)) Q R:=
 Ev.br (fun h=>ht (of_decide_eq_true h)) (fun h=>hf (of_decide_eq_false h))
theorem Ev.bm [BEq β] [LawfulBEq β] {a b:β} (ht:a=b→Ev F Q R) (hf:a≠b→Ev G Q R):Ev (fun i=>ay.br (a==b) (F i) (G i)) Q R:=
 Ev.br (fun h=>ht (beq_iff_eq.1 h)) (fun h=>hf fun e=>by subst e;simp at h)
theorem Ev.bM [BEq β] [LawfulBEq β] {a b:β} (ht:a≠b→Ev F Q R) (hf:a=b→Ev G Q R):Ev (fun i=>ay.br (a !=b) (F i) (G i)) Q R:=
 Ev.br (fun h=>ht fun e=>by subst e;simp at h) (fun h=>hf (by simpa using h))
theorem Ev.bj {b:Bool} (ht:b=false→Ev F Q R) (hf:b=true→Ev G Q R):Ev (fun i=>ay.br (!b) (F i) (G i)) Q R:=
 Ev.br (fun h=>ht (by simpa using h)) (fun h=>hf (by simpa using h))
theorem Ev.cq (h:Ev F Q R):Ev (fun i=>ay.br true (F i) (G i)) Q R:=h
theorem Ev.cr (h:Ev G Q R):Ev (fun i=>ay.br false (F i) (G i)) Q R:=h
theorem Ev.ka {j:Nat→X→ay α} {p:Nat→(X→ay α)→ay α} (h:Ev (fun i=>p i (j i)) Q R):Ev (fun i=>ay.jn (j i) (p i)) Q R:=h
theorem Ev.vF {F:Nat→ay α} {K:Nat→α→ay β} {Qb:β→Prop} (h:Ev F Q fun _=>False) (hk:∀ a,Q a→Ev (fun i=>K i a) Qb R):Ev (fun i=>ay.bind (F i) (K i)) Qb R:=
 Ev.bind h (fun _ q=>q.elim) hk
end
theorem rn {c:List UInt8} {i j:Int} (h0:0≤i) (h1:i≤j) (h2:j≤c.length):((sub c i j).length:Int)=j - i:=by
 simp only[sub,List.length_take,List.length_drop];omega
theorem kc {c:List UInt8} {i:Int} (h0:0≤i) (h1:i≤c.length):((dK c i).length:Int)=c.length - i:=by
 simp only[dK,List.length_drop];omega
theorem vG {c:List UInt8} {j:Int} (h0:0≤j) (h1:j≤c.length):((kr c j).length:Int)=j:=by
 simp only[kr,List.length_take];omega
theorem uu {c:List UInt8} {j:Int}:(kr c j).length≤c.length:=by simp only[kr,List.length_take];omega
theorem uv (sep:List UInt8):∀ (k:Nat) (s:List UInt8),(ph sep k s).length≤k+1
 | 0,_=>by simp[ph]
 | k+1,s=>by
  unfold ph
  split
  ·simp
  ·have:=uv sep k (s.drop (by assumption+sep.length));simp;omega
theorem xp:∀ (f u:Nat),(uZ f u).length≤f
 | 0,_=>by simp[uZ]
 | f+1,u=>by
  unfold uZ;split
  ·simp
  ·have:=xp f (u / 10);simp;omega
theorem A8 (f u:Nat):1≤(uZ (f+1) u).length:=by
 unfold uZ;split
 ·simp
 ·simp
theorem wrap_u64 (x:Int):0≤IntKind.wrap .u64 x∧IntKind.wrap .u64 x<18446744073709551616:=by
 have:IntKind.wrap .u64 x=x % 18446744073709551616:=by simp[IntKind.wrap,IntKind.bits,IntKind.signed]
 rw[this];omega
end Go.Abs
end
section
namespace Go.Abs
open ay
section
variable {P:Program} {E:Env} {n:Nat} {ops:Array Oper} {Q:df} {rest:List Oper} {l:List (Nat×AV)} {ds:List (FuncId×List AV)} {s:List (Nat×be)}
 {ty:TypeId} {pos:String} {af:Array Edge} {d:Nat}
theorem p1 {α β:Type} {a c:α} {b e:β} (h:(a,b)=(c,e)):a=c:=congrArg Prod.fst h
theorem p2 {α β:Type} {a c:α} {b e:β} (h:(a,b)=(c,e)):b=e:=congrArg Prod.snd h
theorem zm {x:Operand} {v:AV} (h:(bD l x,Nat.blt d n)=(some v,true)) (hn:SL P E n ops Q rest (bP ((d,v)::l) ds) (bz s)):SL P E n ops Q (⟨some d,.move x,ty,pos,af,none⟩::rest) (bP l ds) (bz s):=
 al (aq (p1 h)) (p2 h) hn
theorem za {x:Operand} {v:AV} (h:(bD l x,Nat.blt d n)=(some v,true)) (hn:SL P E n ops Q rest (bP ((d,v)::l) ds) (bz s)):SL P E n ops Q (⟨some d,.assign x,ty,pos,af,none⟩::rest) (bP l ds) (bz s):=
 al (Aq (p1 h)) (p2 h) hn
theorem zn {x:Operand} {k off:Nat} (h:(bD l x,Nat.blt d n)=(some (.ptr k off),true)) (hn:SL P E n ops Q rest (bP ((d,.ptr k off)::l) ds) (bz s)):SL P E n ops Q (⟨some d,.nilCheck x,ty,pos,af,none⟩::rest) (bP l ds) (bz s):=
 al (cC (p1 h)) (p2 h) hn
theorem zf {t:TypeId} {x:Operand} {f k off m:Nat} [hf:kP P t f m] (h:(bD l x,Nat.blt d n)=(some (.ptr k off),true)) (hn:SL P E n ops Q rest (bP ((d,.ptr k (off+m))::l) ds) (bz s)) :
  SL P E n ops Q (⟨some d,.fieldAddr t x f,ty,pos,af,none⟩::rest) (bP l ds) (bz s):=al (bn (p1 h)) (p2 h) hn
theorem zl {t:TypeId} {x:Operand} {k off:Nat} {e:be} {v:AV} [ha:gj P t false] (h:(bD l x,cR s k,e.cells[off]?,Nat.blt d n)=(some (.ptr k off),some e,some v,true))
  (hn:SL P E n ops Q rest (bP ((d,v)::l) ds) (bz s)):SL P E n ops Q (⟨some d,.load t x,ty,pos,af,none⟩::rest) (bP l ds) (bz s):=al (aX (p1 h) (p1 (p2 h)) (p1 (p2 (p2 h)))) (p2 (p2 (p2 h))) hn
theorem zA {t:TypeId} {x:Operand} {k off m:Nat} {e:be} {cs:List AV} [ha:gj P t true] [hz:lp P t m] (h:(bD l x,cR s k,Nat.ble (off+m) e.cells.length,(e.cells.drop off).take m,Nat.blt d n)=(some (.ptr k off),some e,true,cs,true))
  (hn:SL P E n ops Q rest (bP ((d,.agg cs)::l) ds) (bz s)):SL P E n ops Q (⟨some d,.load t x,ty,pos,af,none⟩::rest) (bP l ds) (bz s):=al (hY (p1 h) (p1 (p2 h)) (p1 (p2 (p2 h))) (p1 (p2 (p2 (p2 h))))) (p2 (p2 (p2 (p2 h)))) hn
theorem zc {op:BinOp} {xt yt:TypeId} {x y:Operand} {k:IntKind} {a b:Int} {r:Bool} (h:(bD l x,bD l y,Bz op a b,Nat.blt d n)=(some (Sc (.int k a)),some (Sc (.int k b)),some r,true))
  (hn:SL P E n ops Q rest (bP ((d,Bo r)::l) ds) (bz s)):SL P E n ops Q (⟨some d,.binOp op xt x y yt,ty,pos,af,none⟩::rest) (bP l ds) (bz s):=al (bf (p1 h) (p1 (p2 h)) (p1 (p2 (p2 h)))) (p2 (p2 (p2 h))) hn
theorem zy {c a b:Operand} {v:AV} {t:Bool} (ht:t=true) (h:(bD l c,bD l a,Nat.blt d n)=(some (Bo t),some v,true)) (hn:SL P E n ops Q rest (bP ((d,v)::l) ds) (bz s)) :
  SL P E n ops Q (⟨some d,.pick c a b,ty,pos,af,none⟩::rest) (bP l ds) (bz s):=al (cx ht (p1 h) (p1 (p2 h))) (p2 (p2 h)) hn
theorem zw {c a b:Operand} {v:AV} {t:Bool} (ht:t=false) (h:(bD l c,bD l b,Nat.blt d n)=(some (Bo t),some v,true)) (hn:SL P E n ops Q rest (bP ((d,v)::l) ds) (bz s)) :
  SL P E n ops Q (⟨some d,.pick c a b,ty,pos,af,none⟩::rest) (bP l ds) (bz s):=al (ct ht (p1 h) (p1 (p2 h))) (p2 (p2 h)) hn
theorem zt {c a b:Operand} {v:AV} (h:(bD l c,bD l a,Nat.blt d n)=(some (Bo true),some v,true)) (hn:SL P E n ops Q rest (bP ((d,v)::l) ds) (bz s)) :
  SL P E n ops Q (⟨some d,.pick c a b,ty,pos,af,none⟩::rest) (bP l ds) (bz s):=al (tI (p1 h) (p1 (p2 h))) (p2 (p2 h)) hn
theorem zo {xt yt:TypeId} {x y:Operand} {a b:Int} (hg:-9223372036854775808≤a+b∧a+b≤9223372036854775807) (h:(bD l x,bD l y,Nat.blt d n)=(some (I a),some (I b),true))
  (hn:SL P E n ops Q rest (bP ((d,I (a+b))::l) ds) (bz s)):SL P E n ops Q (⟨some d,.binOp .add xt x y yt,ty,pos,af,none⟩::rest) (bP l ds) (bz s):=al (kV (p1 h) (p1 (p2 h)) hg) (p2 (p2 h)) hn
theorem zx {x:Operand} {i:Nat} {vs:List AV} {v:AV} (h:(bD l x,vs[i]?,Nat.blt d n)=(some (.eT vs),some v,true)) (hn:SL P E n ops Q rest (bP ((d,v)::l) ds) (bz s)) :
  SL P E n ops Q (⟨some d,.extract x i,ty,pos,af,none⟩::rest) (bP l ds) (bz s):=al (oA (p1 h) (p1 (p2 h))) (p2 (p2 h)) hn
theorem zg {j g:Nat} {op:Op} {want b:Bool} (hb:b = !want) (h:((ops[j]?).bind (·.dst),jx l g,Nat.blt d n)=(some g,some (Bo b),true))
  (hn:SL P E n ops Q rest (bP ((d,Sc undef)::l) ds) (bz s)):SL P E n ops Q (⟨some d,op,ty,pos,af,some (j,want)⟩::rest) (bP l ds) (bz s):=D1 hb ⟨p1 h,p1 (p2 h)⟩ (p2 (p2 h)) hn
theorem zG {j g:Nat} {op:Op} {v:AV} {rd:List (Nat×be)} {want b:Bool} (hb:b=want) (h:((ops[j]?).bind (·.dst),jx l g,Nat.blt d n)=(some g,some (Bo b),true))
  (he:hP P op l ds s v rd) (hn:SL P E n ops Q rest (bP ((d,v)::l) ds) (bz s)):SL P E n ops Q (⟨some d,op,ty,pos,af,some (j,want)⟩::rest) (bP l ds) (bz s):=D0 hb ⟨p1 h,p1 (p2 h)⟩ he (p2 (p2 h)) hn
theorem zu {j g:Nat} {op:Op} {want:Bool} (h:((ops[j]?).bind (·.dst),jx l g,Nat.blt d n)=(some g,some (Sc undef),true))
  (hn:SL P E n ops Q rest (bP ((d,Sc undef)::l) ds) (bz s)):SL P E n ops Q (⟨some d,op,ty,pos,af,some (j,want)⟩::rest) (bP l ds) (bz s):=DO ⟨p1 h,p1 (p2 h)⟩ (p2 (p2 h)) hn
theorem zs {t:TypeId} {x y:Operand} {k off m:Nat} {e:be} {v:AV} {c:List AV} [ht:lp P t m]
  (h:(bD l x,cR s k,e.ui,bD l y,v.eg,AV.iG c,c.length,Nat.ble (off+c.length) e.cells.length)=(some (.ptr k off),some e,true,some v,some c,true,m,true))
  (hn:SL P E n ops Q rest (bP l ds) (bz ((k,e.put off c)::s))):SL P E n ops Q (⟨none,.store t x y,ty,pos,af,none⟩::rest) (bP l ds) (bz s):=
 As ⟨p1 h,p1 (p2 h),p1 (p2 (p2 h)),p1 (p2 (p2 (p2 h))),p1 (p2 (p2 (p2 (p2 h)))),p1 (p2 (p2 (p2 (p2 (p2 h))))),p1 (p2 (p2 (p2 (p2 (p2 (p2 h)))))),p2 (p2 (p2 (p2 (p2 (p2 (p2 h))))))⟩ (fun _ q=>q▸hn)
def xq (E:Env) (ds:List (FuncId×List AV)) (l:List (Nat×AV)) (s:List (Nat×be)) (ks:List Nat) (f:Operand) (args:List Operand) (fid:FuncId) (argsC:List AV) (es:List be) (first cap vs:List AV) (l':List (Nat×AV)) (d n:Nat):Prop:=
 (bD l f,rH l args,first++vs++cap,sn s ks,nodupB ks,yx l' ds s ks ks es,uX E ks es,Nat.blt d n)=(some (.fn fid first cap),some vs,AV.eZ.kT (nth ks) argsC,some (jy (nth ks) es),true,true,True,true)
theorem xq.ok {ks:List Nat} {f:Operand} {args:List Operand} {fid:FuncId} {argsC:List AV} {es:List be} {first cap vs:List AV} {l':List (Nat×AV)} (h:xq E ds l s ks f args fid argsC es first cap vs l' d n) :
  kI E ds l s ks f args fid argsC es first cap vs l':=
 ⟨p1 h,p1 (p2 h),p1 (p2 (p2 h)),p1 (p2 (p2 (p2 h))),p1 (p2 (p2 (p2 (p2 h)))),p1 (p2 (p2 (p2 (p2 (p2 h))))),of_eq_true (p1 (p2 (p2 (p2 (p2 (p2 (p2 h)))))))⟩
theorem xq.bl {ks:List Nat} {f:Operand} {args:List Operand} {fid:FuncId} {argsC:List AV} {es:List be} {first cap vs:List AV} {l':List (Nat×AV)} (h:xq E ds l s ks f args fid argsC es first cap vs l' d n) :
  Nat.blt d n=true:=p2 (p2 (p2 (p2 (p2 (p2 (p2 h))))))
theorem zk {X R:Type} {res:ay X} {kk:X→ay R} {r:ay R} {V V':X→AV} {C:X→List be} {C':X→List (Nat×be)} {f:Operand} {args:List Operand} {ts:Array TypeId} {fid:FuncId}
  {argsC first cap vs:List AV} {es:List be} (hp:∀ p fr σ,fr.ds=ds→r=.nl p→Q (.panic p.av) fr σ) (hr:r≠.stuck) (h:ay.bind res kk=r) (ks:List Nat) (hen:Enters P fid)
  (hC:CT P fid argsC es res V C) (hk:(bD l f,rH l args,first++vs++cap,sn s ks,nodupB ks,yx l ds s ks ks es,uX E ks es,Nat.blt d n)=(some (.fn fid first cap),some vs,AV.eZ.kT (nth ks) argsC,some (jy (nth ks) es),true,true,True,true))
  (hx:∀ x,((C x).length,iR (below ks.length) (C x),(V x).only (below ks.length),(V x).eZ (nth ks),kH ks (jy (nth ks) (C x)))=(ks.length,true,true,V' x,C' x))
  (hret:∀ x,kk x=r→SL P E n ops Q rest (bP ((d,V' x)::l) ds) (bz (C' x++s))) :
  SL P E n ops Q (⟨some d,.call ⟨.value f,args.toArray,ts⟩,ty,pos,af,none⟩::rest) (bP l ds) (bz s):=
 iT hr h ks hen hC (xq.ok (d:=d) (n:=n) hk) (xq.bl hk) (fun x=>⟨p1 (hx x),p1 (p2 (hx x)),p1 (p2 (p2 (hx x)))⟩) (fun x=>⟨p1 (p2 (p2 (p2 (hx x)))),p2 (p2 (p2 (p2 (hx x))))⟩) hp hret
theorem zK {j g:Nat} {want b:Bool} {X R:Type} {res:ay X} {kk:X→ay R} {r:ay R} {V V':X→AV} {C:X→List be} {C':X→List (Nat×be)} {f:Operand} {args:List Operand} {ts:Array TypeId} {fid:FuncId}
  {argsC first cap vs:List AV} {es:List be} (hb:b=want) (hj:((ops[j]?).bind (·.dst),jx l g)=(some g,some (Bo b))) (hp:∀ p fr σ,fr.ds=ds→r=.nl p→Q (.panic p.av) fr σ) (hr:r≠.stuck) (h:ay.bind res kk=r) (ks:List Nat) (hen:Enters P fid)
  (hC:CT P fid argsC es res V C) (hk:(bD l f,rH l args,first++vs++cap,sn s ks,nodupB ks,yx l ds s ks ks es,uX E ks es,Nat.blt d n)=(some (.fn fid first cap),some vs,AV.eZ.kT (nth ks) argsC,some (jy (nth ks) es),true,true,True,true))
  (hx:∀ x,((C x).length,iR (below ks.length) (C x),(V x).only (below ks.length),(V x).eZ (nth ks),kH ks (jy (nth ks) (C x)))=(ks.length,true,true,V' x,C' x))
  (hret:∀ x,kk x=r→SL P E n ops Q rest (bP ((d,V' x)::l) ds) (bz (C' x++s))) :
  SL P E n ops Q (⟨some d,.call ⟨.value f,args.toArray,ts⟩,ty,pos,af,some (j,want)⟩::rest) (bP l ds) (bz s):=
 Az hb ⟨p1 hj,p2 hj⟩ hr h ks hen hC (xq.ok (d:=d) (n:=n) hk) (xq.bl hk) (fun x=>⟨p1 (hx x),p1 (p2 (hx x)),p1 (p2 (p2 (hx x)))⟩) (fun x=>⟨p1 (p2 (p2 (p2 (hx x)))),p2 (p2 (p2 (p2 (hx x))))⟩) hp hret
theorem zC {f:FuncId} {fn:Func} {c:Code} {args:List AV} {es:List be} {X:Type} {res:ay X} {V:X→AV} {C:X→List be} (hf:P.funcs[f]?=some fn) (hb:(fn.body,Nat.ble args.length fn.ntmps)=(some c,true))
  (h:∀ r,(∀ p fr (σ:bX),fr.ds=[]→r=.nl p→mE P fn (o9 V C (fun x=>r=.ok x) (fun v=>∃ p,r=.nl p∧v=p.av)) (.panic p.av) fr σ)→res=r→r≠.stuck→∀ E:Env,(∀ k,jS es k=true→E.fix k=none)→
   SW P E fn.ntmps c (mE P fn (o9 V C (fun x=>r=.ok x) (fun v=>∃ p,r=.nl p∧v=p.av))) (bP ((List.range args.length).zip args) []) (bz (dC 0 es))):CT P f args es res V C:=
 BM hf (p1 hb) (p2 hb) fun r hr hs=>h r (fun _ _ _ hd hp=>wo hd hp) hr hs
theorem zB {R:Type} {c:Operand} {x y:Code} {b:Bool} {u v r:ay R} (hb:bD l c=some (Bo b)) (h:br b u v=r) (ht:b=true→u=r→SW P E n x Q (bP l ds) (bz s)) (hf:b=false→v=r→SW P E n y Q (bP l ds) (bz s)):SW P E n (.cond c x y) Q (bP l ds) (bz s):=
 cg hb (fun q=>ht q (DV q h)) (fun q=>hf q (DY q h))
theorem zd {R:Type} {p:Prop} [Decidable p] {x r:ay R} {q:Prop} (hr:r≠.stuck) (h:gd p x=r) (k:p→x=r→q):q:=k (C1 hr h).1 (C1 hr h).2
theorem ze {R β:Type} {l:List β} {i:Int} {k:β→ay R} {r:ay R} {q:Prop} (hr:r≠.stuck) (h:el l i k=r) (c:∀ x,0≤i→i<l.length→l[i.toNat]?=some x→k x=r→q):q:=
 let ⟨x,a,b,d,e⟩:=Eu hr h;c x a b d e
theorem z1 {R:Type} {b:Bool} {u v r:ay R} {q:Prop} (hb:b=true) (h:br b u v=r) (k:u=r→q):q:=k (DV hb h)
theorem z2 {R:Type} {b:Bool} {u v r:ay R} {q:Prop} (hb:b=false) (h:br b u v=r) (k:v=r→q):q:=k (DY hb h)
theorem zb {q:Prop} (b:Bool) (h1:b=true→q) (h2:b=false→q):q:=by cases b;exact h2 rfl;exact h1 rfl
def gF (l:List (Nat×AV)):List (Nat×AV)→List (Option AV)
 | []=>[]
 | (i,_)::F=>jx l i::gF l F
def gS (s:List (Nat×be)):List (Nat×be)→List (Option be)
 | []=>[]
 | (i,_)::F=>cR s i::gS s F
theorem BX {l G:List (Nat×AV)}:∀ {F:List (Nat×AV)},gF l F=gF G F→rI l G F
 | [],_=>trivial
 | (_,_)::_,h=>⟨(List.cons.inj h).1,BX (List.cons.inj h).2⟩
theorem BY {l G:List (Nat×be)}:∀ {F:List (Nat×be)},gS l F=gS G F→sq l G F
 | [],_=>trivial
 | (_,_)::_,h=>⟨(List.cons.inj h).1,BY (List.cons.inj h).2⟩
theorem zM {X R:Type} {x y:Code} {j:X→ay R} {p:(X→ay R)→ay R} {r:ay R} (h:jn j p=r) (F:X→List (Nat×AV)) (H:X→List (Nat×be))
  (hy:∀ v,j v=r→SW P E n y Q (bP (F v) ds) (bz (H v)))
  (hx:∀ (j':X→ay R) (K:dz→bX→Prop),(∀ v l s,j' v=r→(gF l (F v),gS s (H v))=(gF (F v) (F v),gS (H v) (H v))→K (bP l ds) (bz s))→p j'=r→SW P E n x (ti K Q) (bP l ds) (bz s)):SW P E n (.seq x y) Q (bP l ds) (bz s):=
 BN F H (fun v=>j v=r) hy (fun K hK=>hx j K (fun v l s a b=>hK v l s a (BX (p1 b)) (BY (p2 b))) h)
theorem zL {X R:Type} {c:Code} {body:(X→ay R)→X→ay R} {r:ay R} {m:Nat} {v:X} (hr:r≠.stuck) (h0:iter body m v=r) (F:X→List (Nat×AV)) (H:X→List (Nat×be))
  (h1:(gF l (F v),gS s (H v))=(gF (F v) (F v),gS (H v) (H v)))
  (hx:∀ (next:X→ay R) (v:X) (K:dz→bX→Prop),(∀ v l s,next v=r→(gF l (F v),gS s (H v))=(gF (F v) (F v),gS (H v) (H v))→K (bP l ds) (bz s))→body next v=r→SW P E n c (ti K Q) (bP (F v) ds) (bz (H v))) :
  SW P E n (.loop c) Q (bP l ds) (bz s):=
 zq F H body r m v hr h0 (BX (p1 h1)) (BY (p2 h1)) (fun next v K hK h=>hx next v K (fun v l s a b=>hK v l s a (BX (p1 b)) (BY (p2 b))) h)
theorem zQ {c:Code} {Q':df} {fr:dz} {σ:bX} (k:∀ fr σ,SW P E n c Q' fr σ→Q .normal fr σ) (h:SW P E n c Q' fr σ):SL P E n ops Q [] fr σ:=ao (k _ _ h)
def gM (s:List (Nat×be)):Nat→List be→List (Option be)
 | _,[]=>[]
 | i,_::es=>cR s i::gM s (i+1) es
theorem Dq {s:List (Nat×be)}:∀ {es:List be} {i:Nat},gM s i es=es.map some→sS s i es
 | [],_,_=>trivial
 | _::_,_,h=>⟨(List.cons.inj h).1,Dq (List.cons.inj h).2⟩
theorem zX {fn:Func} {X:Type} {V:X→AV} {C:X→List be} {r:ay X} {H:AV→Prop} {vs:List AV} {x:X} (hr:zi P (bP l []) (bz s) fn.results.toList vs) (hg:.ok x=r) (hm:(mi vs,gM s 0 (C x))=(V x,(C x).map some)) :
  mE P fn (o9 V C (fun x=>r=.ok x) H) .ret (bP l []) (bz s):=lS (.inl rfl) x hr hg.symm (p1 hm▸AV.le_refl _) (Dq (p2 hm))
theorem zY {fn:Func} {X:Type} {V:X→AV} {C:X→List be} {r:ay X} {H:AV→Prop} {vs:List AV} {x:X} (hr:zi P (bP l []) (bz s) fn.results.toList vs) (hg:.ok x=r) (hm:(mi vs,gM s 0 (C x))=(V x,(C x).map some)) :
  mE P fn (o9 V C (fun x=>r=.ok x) H) .normal (bP l []) (bz s):=lS (.inr rfl) x hr hg.symm (p1 hm▸AV.le_refl _) (Dq (p2 hm))
end
section
variable {P:Program} {E:Env} {n:Nat} {ops:Array Oper} {Q:df} {B:List Rec→dz→bX→Prop} {i:Nat} {L:List Nat} {recs:List Rec} {l:List (Nat×AV)} {ds:List (FuncId×List AV)} {s:List (Nat×be)}
 {ty:TypeId} {pos:String} {af:Array Edge} {d:Nat}
theorem zD {op:Op} {v:AV} {rd:List (Nat×be)} (ho:ops[i]?=some ⟨some d,op,ty,pos,af,none⟩) (h:hP P op l ds s v rd)
  (hc:(da ⟨some d,op,ty,pos,af,none⟩,Nat.blt d n,uk ops i v rd recs)=(false,true,true))
  (hn:lj P E n ops Q B L (⟨i,some d,rd,none⟩::recs) (bP ((d,v)::l) ds) (bz s)):lj P E n ops Q B (i::L) recs (bP l ds) (bz s):=DT ho h ⟨p1 hc,p1 (p2 hc),p2 (p2 hc)⟩ hn
end
end Go.Abs
end
section
namespace Go.Abs
def Ep (x:Int):List PV:=[.sc (.int .u8 x)]
def r5 (l:List Int):List PV:=l.flatMap Ep
theorem mN (x:Int):(Ep x).length=1:=rfl
theorem tP (x:Int):PV.iG (Ep x)=true:=rfl
theorem ke (l:List Int):r5 l=l.flatMap Ep:=rfl
def A9 (x:Bool):List PV:=[.sc (.bool x)]
def uw (l:List Bool):List PV:=l.flatMap A9
theorem zS (x:Bool):(A9 x).length=1:=rfl
theorem bw (l:List Bool):uw l=l.flatMap A9:=rfl
def BZ (x:(List UInt8)):List PV:=[.sc (S x)]
def bS (l:List (List UInt8)):List PV:=l.flatMap BZ
theorem gk (x:(List UInt8)):(BZ x).length=1:=rfl
theorem qF (x:(List UInt8)):PV.iG (BZ x)=true:=rfl
theorem ej (l:List (List UInt8)):bS l=l.flatMap BZ:=rfl
mutual
inductive ai where
 | mk (Kind:Int) (Text:(List UInt8)) (jD:Int) (bk:(List UInt8)) (bt:(List UInt8)) (bc:(List ai)) (Decls:(List ax)) (b3:(List (List UInt8))) (Pos:Int)
inductive ax where
 | mk (Kind:Int) (cj:Int) (Label:(List UInt8)) (bk:(List UInt8)) (bt:(List UInt8)) (bc:(List ai)) (Body:(List ax)) (b3:(List (List UInt8))) (jG:(List (List UInt8))) (Trail:(List UInt8)) (Pos:Int)
end
def ai.Kind:ai→Int|.mk v _ _ _ _ _ _ _ _=>v
def ai.Text:ai→(List UInt8)|.mk _ v _ _ _ _ _ _ _=>v
def ai.jD:ai→Int|.mk _ _ v _ _ _ _ _ _=>v
def ai.bk:ai→(List UInt8)|.mk _ _ _ v _ _ _ _ _=>v
def ai.bt:ai→(List UInt8)|.mk _ _ _ _ v _ _ _ _=>v
def ai.bc:ai→(List ai)|.mk _ _ _ _ _ v _ _ _=>v
def ai.Decls:ai→(List ax)|.mk _ _ _ _ _ _ v _ _=>v
def ai.b3:ai→(List (List UInt8))|.mk _ _ _ _ _ _ _ v _=>v
def ai.Pos:ai→Int|.mk _ _ _ _ _ _ _ _ v=>v
def ax.Kind:ax→Int|.mk v _ _ _ _ _ _ _ _ _ _=>v
def ax.cj:ax→Int|.mk _ v _ _ _ _ _ _ _ _ _=>v
def ax.Label:ax→(List UInt8)|.mk _ _ v _ _ _ _ _ _ _ _=>v
def ax.bk:ax→(List UInt8)|.mk _ _ _ v _ _ _ _ _ _ _=>v
def ax.bt:ax→(List UInt8)|.mk _ _ _ _ v _ _ _ _ _ _=>v
def ax.bc:ax→(List ai)|.mk _ _ _ _ _ v _ _ _ _ _=>v
def ax.Body:ax→(List ax)|.mk _ _ _ _ _ _ v _ _ _ _=>v
def ax.b3:ax→(List (List UInt8))|.mk _ _ _ _ _ _ _ v _ _ _=>v
def ax.jG:ax→(List (List UInt8))|.mk _ _ _ _ _ _ _ _ v _ _=>v
def ax.Trail:ax→(List UInt8)|.mk _ _ _ _ _ _ _ _ _ v _=>v
def ax.Pos:ax→Int|.mk _ _ _ _ _ _ _ _ _ _ v=>v
mutual
def ai.E:ai→List PV
 | .mk v0 v1 v2 v3 v4 v5 v6 v7 v8=>[.sc (.int .i64 v0),.sc (Go.Abs.S v1),.sc (.int .i64 v2),.sc (Go.Abs.S v3),.sc (Go.Abs.S v4),.sl v5.length (ai.Cs v5),.sl v6.length (ax.Cs v6),.sl v7.length (bS v7),.sc (.int .i64 v8)]
def ai.Cs:List ai→List PV
 | []=>[]
 | e::es=>e.E++ai.Cs es
def ax.E:ax→List PV
 | .mk v0 v1 v2 v3 v4 v5 v6 v7 v8 v9 v10=>[.sc (.int .i64 v0),.sc (.int .i64 v1),.sc (Go.Abs.S v2),.sc (Go.Abs.S v3),.sc (Go.Abs.S v4),.sl v5.length (ai.Cs v5),.sl v6.length (ax.Cs v6),.sl v7.length (bS v7),.sl v8.length (bS v8),.sc (Go.Abs.S v9),.sc (.int .i64 v10)]
def ax.Cs:List ax→List PV
 | []=>[]
 | e::es=>e.E++ax.Cs es
end
def ai.C (x:ai):List PV:=[.sc (.int .i64 x.Kind),.sc (Go.Abs.S x.Text),.sc (.int .i64 x.jD),.sc (Go.Abs.S x.bk),.sc (Go.Abs.S x.bt),.sl x.bc.length (ai.Cs x.bc),.sl x.Decls.length (ax.Cs x.Decls),.sl x.b3.length (bS x.b3),.sc (.int .i64 x.Pos)]
theorem ai.Ba (x:ai):x.E=x.C:=by cases x;rfl
theorem ai.bb:∀ l:List ai,ai.Cs l=l.flatMap ai.C
 | []=>rfl
 | e::es=>by rw[List.flatMap_cons,← ai.bb es,← e.Ba];rfl
theorem ai.bE (x:ai):(ai.C x).length=9:=rfl
theorem ai.iV (x:ai):PV.iG (ai.C x)=true:=rfl
def ax.C (x:ax):List PV:=[.sc (.int .i64 x.Kind),.sc (.int .i64 x.cj),.sc (Go.Abs.S x.Label),.sc (Go.Abs.S x.bk),.sc (Go.Abs.S x.bt),.sl x.bc.length (ai.Cs x.bc),.sl x.Body.length (ax.Cs x.Body),.sl x.b3.length (bS x.b3),.sl x.jG.length (bS x.jG),.sc (Go.Abs.S x.Trail),.sc (.int .i64 x.Pos)]
theorem ax.Ba (x:ax):x.E=x.C:=by cases x;rfl
theorem ax.bb:∀ l:List ax,ax.Cs l=l.flatMap ax.C
 | []=>rfl
 | e::es=>by rw[List.flatMap_cons,← ax.bb es,← e.Ba];rfl
theorem ax.bE (x:ax):(ax.C x).length=11:=rfl
theorem ax.iV (x:ax):PV.iG (ax.C x)=true:=rfl
mutual
inductive aO where
 | mk (Kind:Int) (B0:Int) (B1:Int) (B2:Int) (B3:Int) (bc:(List aO))
end
def aO.Kind:aO→Int|.mk v _ _ _ _ _=>v
def aO.B0:aO→Int|.mk _ v _ _ _ _=>v
def aO.B1:aO→Int|.mk _ _ v _ _ _=>v
def aO.B2:aO→Int|.mk _ _ _ v _ _=>v
def aO.B3:aO→Int|.mk _ _ _ _ v _=>v
def aO.bc:aO→(List aO)|.mk _ _ _ _ _ v=>v
mutual
def aO.E:aO→List PV
 | .mk v0 v1 v2 v3 v4 v5=>[.sc (.int .i64 v0),.sc (.int .u64 v1),.sc (.int .u64 v2),.sc (.int .u64 v3),.sc (.int .u64 v4),.sl v5.length (aO.Cs v5)]
def aO.Cs:List aO→List PV
 | []=>[]
 | e::es=>e.E++aO.Cs es
end
def aO.C (x:aO):List PV:=[.sc (.int .i64 x.Kind),.sc (.int .u64 x.B0),.sc (.int .u64 x.B1),.sc (.int .u64 x.B2),.sc (.int .u64 x.B3),.sl x.bc.length (aO.Cs x.bc)]
theorem aO.Ba (x:aO):x.E=x.C:=by cases x;rfl
theorem aO.bb:∀ l:List aO,aO.Cs l=l.flatMap aO.C
 | []=>rfl
 | e::es=>by rw[List.flatMap_cons,← aO.bb es,← e.Ba];rfl
theorem aO.bE (x:aO):(aO.C x).length=6:=rfl
theorem aO.iV (x:aO):PV.iG (aO.C x)=true:=rfl
structure bJ where
 Name:(List UInt8)
 Path:(List UInt8)
 Pos:Int
def bJ.C (x:bJ):List PV:=[.sc (Go.Abs.S x.Name),.sc (Go.Abs.S x.Path),.sc (.int .i64 x.Pos)]
def bJ.Cs (l:List bJ):List PV:=l.flatMap bJ.C
theorem bJ.bE (x:bJ):(bJ.C x).length=3:=rfl
theorem bJ.iV (x:bJ):PV.iG (bJ.C x)=true:=rfl
theorem bJ.bb (l:List bJ):bJ.Cs l=l.flatMap bJ.C:=rfl
structure eI where
 fC:(List UInt8)
 cB:(List bJ)
 Decls:(List ax)
 b3:(List (List UInt8))
structure et where
 Errno:Int
 At:Int
structure fS where
 x0:(List UInt8)
 x1:(List UInt8)
structure aS where
 Kind:Int
 Text:(List UInt8)
 Pos:Int
 End:Int
def aS.C (x:aS):List PV:=[.sc (.int .i64 x.Kind),.sc (Go.Abs.S x.Text),.sc (.int .i64 x.Pos),.sc (.int .i64 x.End)]
def aS.Cs (l:List aS):List PV:=l.flatMap aS.C
theorem aS.bE (x:aS):(aS.C x).length=4:=rfl
theorem aS.iV (x:aS):PV.iG (aS.C x)=true:=rfl
theorem aS.bb (l:List aS):aS.Cs l=l.flatMap aS.C:=rfl
structure ag where
 text:(List UInt8)
 bg:(List aS)
 at_:Int
 base:Int
 skip:Bool
 pending:(Option ai)
structure bN where
 text:(List UInt8)
 at_:Int
 out:(List aS)
 line:Bool
structure fD where
 at_:Int
structure ak where
 vH:Bool
 deep:Bool
structure aR where
 kZ:Bool
 Dr:Bool
 ux:Bool
 level:Int
structure ek where
 x0:Int
 x1:Int
 x2:Int
 x3:Int
structure aT where
 Text:(List UInt8)
 Code:Bool
 Pos:Int
def aT.C (x:aT):List PV:=[.sc (Go.Abs.S x.Text),.sc (.bool x.Code),.sc (.int .i64 x.Pos)]
def aT.Cs (l:List aT):List PV:=l.flatMap aT.C
theorem aT.bE (x:aT):(aT.C x).length=3:=rfl
theorem aT.iV (x:aT):PV.iG (aT.C x)=true:=rfl
theorem aT.bb (l:List aT):aT.Cs l=l.flatMap aT.C:=rfl
structure aj where
 text:(List UInt8)
 at_:Int
end Go.Abs
end
section
namespace Go.Abs
abbrev ib (x:ek):List AV:=[Sc (.int .u64 x.x0),Sc (.int .u64 x.x1),Sc (.int .u64 x.x2),Sc (.int .u64 x.x3)]
abbrev cU (x:ax):List AV:=[I x.Kind,I x.cj,bd x.Label,bd x.bk,bd x.bt,.pv (.sl (List.length x.bc) (ai.Cs x.bc)),.pv (.sl (List.length x.Body) (ax.Cs x.Body)),.pv (.sl (List.length x.b3) (bS x.b3)),.pv (.sl (List.length x.jG) (bS x.jG)),bd x.Trail,I x.Pos]
abbrev aV (x:ai):List AV:=[I x.Kind,bd x.Text,I x.jD,bd x.bk,bd x.bt,.pv (.sl (List.length x.bc) (ai.Cs x.bc)),.pv (.sl (List.length x.Decls) (ax.Cs x.Decls)),.pv (.sl (List.length x.b3) (bS x.b3)),I x.Pos]
abbrev ga (x:eI):List AV:=[bd x.fC,.pv (.sl (List.length x.cB) (bJ.Cs x.cB)),.pv (.sl (List.length x.Decls) (ax.Cs x.Decls)),.pv (.sl (List.length x.b3) (bS x.b3))]
abbrev dJ (x:aO):List AV:=[I x.Kind,Sc (.int .u64 x.B0),Sc (.int .u64 x.B1),Sc (.int .u64 x.B2),Sc (.int .u64 x.B3),.pv (.sl (List.length x.bc) (aO.Cs x.bc))]
abbrev eA (x:aS):List AV:=[I x.Kind,bd x.Text,I x.Pos,I x.End]
abbrev ah (x:ag):List AV:=[bd x.text,.pv (.sl (List.length x.bg) (aS.Cs x.bg)),I x.at_,I x.base,Bo x.skip,.pv (.pt (Option.map ai.C x.pending))]
abbrev aK (x:aj):List AV:=[bd x.text,I x.at_]
abbrev aF (x:ak):List AV:=[Bo x.vH,Bo x.deep]
abbrev bC (x:aR):List AV:=[Bo x.kZ,Bo x.Dr,Bo x.ux,I x.level]
end Go.Abs
end
